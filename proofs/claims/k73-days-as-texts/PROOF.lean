import PyProof.Rows.All
import Wide.All
import OpenK.AllK
import Wide.FinOn
import HandS.ForMost
import HandS.ForExc
import HandS.Deep
import HandS.TupAny
import HandS.TupMul
import HandS.Zip
import HandS.IsInst
import KE.KDictKeyed
import KE.SortData
import HandS.Style
import PyProof.DictRoadsH
import KE.KDictWalk
import HandS.TupSets
import HandS.Ends
import KE.KEqDict
import KE.KDictDisplayH
import HandS.Sort
import KE.KDictPairs
import KE.KDictCopyH
import KE.KDictSum
import KE.DataMinMax
import KE.GoesEnum
import HandS.SetFor
import HandS.Strs
import HandS.HotCalls
import HandS.ExcIs
import HandS.ForDict
import KE.DataFind
import HandS.StrMore
import HandS.Iter
import PyProof.MeetsSeq
import KE.GoesNew
import HandS.DictSubView
import PyProof.SumAny
import HandS.Comp
import HandS.Exc
import HandS.TryOnly
import HandS.Replace
import HandS.SetTxt0
import PyProof.StrLawsIn
import PyProof.StrLawsJoin
import PySem.Challenge.RW_daytellings_k73_days_as_texts
set_option Elab.async false
set_option linter.all false
set_option maxRecDepth 100000
namespace Dt
open PySem PySem.Spec PyProof.Rows L2

inductive Res (α : Type) where
  | ok (a : α)
  | err (c : Str)
  | stuck
def Res.bind {α β : Type} (r : Res α) (k : α → Res β) : Res β := match r with
  | .ok a => k a
  | .err c => .err c
  | .stuck => .stuck
instance : Monad Res where
  pure := .ok
  bind := Res.bind
@[simp] theorem ok_bind {α β : Type} (a : α) (k : α → Res β) : ((Res.ok a) >>= k) = k a := rfl
@[simp] theorem err_bind {α β : Type} (c : Str) (k : α → Res β) : ((Res.err c : Res α) >>= k) = .err c := rfl
@[simp] theorem stuck_bind {α β : Type} (k : α → Res β) : ((Res.stuck : Res α) >>= k) = .stuck := rfl
@[simp] theorem pure_ok {α : Type} (a : α) : (pure a : Res α) = .ok a := rfl
theorem bind_assoc' {α β γ : Type} (r : Res α) (k : α → Res β) (l : β → Res γ) : ((r >>= k) >>= l) = (r >>= fun a => k a >>= l) := by cases r <;> rfl

structure Kx where
  P : Program
  w : World
  K : PySem.W.Frag
abbrev kx (X : Cx) : Kx := ⟨X.prog, X.w, X.K⟩
/-- the key of a dict that a datum is -/
def nk : PyData → NestedKey
  | .none => .none
  | .bool b => .num (if b then 1 else 0)
  | .int i => .num i
  | .str x => .text x
  | .list _ => .none
  | .dict _ => .none
  | .tuple xs => .tup (nks xs)
where nks : List PyData → List NestedKey
  | [] => []
  | x :: xs => nk x :: nks xs
mutual
def keyIn : PyData → Bool
  | .none => true
  | .bool _ => true
  | .int _ => true
  | .str _ => true
  | .tuple xs => keysIn xs
  | .list _ => false
  | .dict _ => false
def keysIn : List PyData → Bool
  | [] => true
  | x :: xs => keyIn x && keysIn xs
end
def keyOk (d : PyData) : Bool := (match d with | .tuple _ => true | _ => false) && keyIn d && decide ((nk d).depth ≤ 8)
/-- a dict keyed by tuples, its entries as they are laid -/
def DicO (P : Program) (w : World) (a : Addr) (xs : List (NestedKey × Addr × V)) (ep : Nat) : HO :=
  .ext fun h => (a == sysModules) = false ∧ xs.length ≤ sizeLine ∧ (xs.map (·.1)).Nodup ∧ ∃ o es vs, h.get? a = some o ∧ o.ExactDict ∧ o.data = .dict es ep ∧
    Paired (fun (p : NestedKey × Addr × V) (q : NestedKey × Addr × Value) => p.1 = q.1 ∧ p.2.1 = q.2.1 ∧ RelV p.2.2 q.2.2) xs vs ∧ es.toList = vs.map (entryOfKey (nestedKind P w))
abbrev DicAt (κ : Kx) (H : Hp) (a : Addr) (xs : List (NestedKey × Addr × V)) : Prop := ∃ ep, H a = some (DicO κ.P κ.w a xs ep)
/-- a list that is an object of the module -/
def SqK (K : PySem.W.Frag) (a : Addr) (xs : List V) : Prop :=
  ∃ (o : Obj) (its : Array Value) (n : Nat), K.lookup a = some o ∧ o.cls = .type "list" ∧ o.dict = none ∧ o.data = .seq its n ∧ its.size ≤ sizeLine ∧ Vals xs its.toList
/-- the script as a datum of its own kind -/
def scrD (ns : List Int) : PyData := .dict [(.str "<script>", .list (ns.map .int))]

/-- who owns what: none nobody, 0 an outer def, i + 1 the slot i -/
abbrev Ow := Addr → Option Nat
def ins (A : Ow) (p : Addr) (n : Nat) : Ow := fun a => if a = p then some n else A a
theorem ins_same {A : Ow} {p : Addr} {n : Nat} : ins A p n p = some n := if_pos rfl
theorem ins_ne {A : Ow} {p a : Addr} {n : Nat} (h : a ≠ p) : ins A p n a = A a := if_neg h
mutual
/-- v is the datum; nothing of it stands at A (owned elsewhere) -/
inductive Rep (A : Ow) (κ : Kx) (H : Hp) : V → PyData → Prop
  | non : Rep A κ H .non .none
  | bl (b : Bool) : Rep A κ H (.bl b) (.bool b)
  | int (i : Int) : Rep A κ H (.int i) (.int i)
  | str (x : Str) : Rep A κ H (.str x) (.str x)
  | lst {a : Addr} {xs : List V} {ds : List PyData} : H a = some (.lst xs) → A a = none → Reps A κ H xs ds → Rep A κ H (.ref a) (.list ds)
  | tup {a : Addr} {xs : List V} {ds : List PyData} : SqT κ.K H a xs → Reps A κ H xs ds → Rep A κ H (.ref a) (.tuple ds)
  | dic {a : Addr} {xs : List (NestedKey × Addr × V)} {kvs : List (PyData × PyData)} : DicAt κ H a xs → A a = none → Reps A κ H (xs.map fun x => V.ref x.2.1) (kvs.map (·.1)) → Reps A κ H (xs.map (·.2.2)) (kvs.map (·.2)) →
      xs.map (·.1) = kvs.map (fun p => nk p.1) → (∀ p ∈ kvs, keyOk p.1 = true) → Rep A κ H (.ref a) (.dict kvs)
  | scr {a : Addr} {ns : List Int} : ((∃ o, H a = some (.frz o (.lst (ns.map V.int)))) ∨ SqK κ.K a (ns.map V.int)) → Rep A κ H (.ref a) (scrD ns)
inductive Reps (A : Ow) (κ : Kx) (H : Hp) : List V → List PyData → Prop
  | nil : Reps A κ H [] []
  | cons {v : V} {vs : List V} {d : PyData} {ds : List PyData} : Rep A κ H v d → Reps A κ H vs ds → Reps A κ H (v :: vs) (d :: ds)
end

/-- an owned list or dict at p -/
def Own (A : Ow) (κ : Kx) (H : Hp) (p : Addr) : PyData → Prop
  | .list ds => ∃ xs, H p = some (.lst xs) ∧ Reps A κ H xs ds
  | .dict kvs => ∃ xs, DicAt κ H p xs ∧ Reps A κ H (xs.map fun x => V.ref x.2.1) (kvs.map (·.1)) ∧ Reps A κ H (xs.map (·.2.2)) (kvs.map (·.2)) ∧ xs.map (·.1) = kvs.map (fun p => nk p.1) ∧ ∀ p ∈ kvs, keyOk p.1 = true
  | _ => False
/-- a datum that is looked at: of its own, or owned by a name -/
def RepW (A : Ow) (κ : Kx) (H : Hp) (v : V) (d : PyData) : Prop := Rep A κ H v d ∨ ∃ p, v = .ref p ∧ A p ≠ none ∧ Own A κ H p d

section
variable {A A' : Ow} {κ : Kx} {H H' : Hp}
/-- what may change -/
structure Mv (A A' : Ow) (H H' : Hp) : Prop where
  free : ∀ a o, H a = some o → A a = none → H' a = some o ∧ A' a = none
  tups : ∀ a xs, H a = some (.tup xs) → H' a = some (.tup xs)
  frzs : ∀ a o u, H a = some (.frz o u) → H' a = some (.frz o u)
theorem Mv.sqT (m : Mv A A' H H') {K : PySem.W.Frag} {a : Addr} {xs : List V} (h : SqT K H a xs) : SqT K H' a xs := by
  rcases h with (h | ⟨o, h⟩) | h
  · exact .inl (.inl (m.tups _ _ h))
  · exact .inl (.inr ⟨o, m.frzs _ _ _ h⟩)
  · exact .inr h
mutual
theorem Rep.mv (m : Mv A A' H H') : ∀ {v : V} {d : PyData}, Rep A κ H v d → Rep A' κ H' v d
  | _, _, .non => .non
  | _, _, .bl b => .bl b
  | _, _, .int i => .int i
  | _, _, .str x => .str x
  | _, _, .lst h1 h2 h3 => .lst (m.free _ _ h1 h2).1 (m.free _ _ h1 h2).2 (Reps.mv m h3)
  | _, _, .tup h1 h2 => .tup (m.sqT h1) (Reps.mv m h2)
  | _, _, .dic ⟨ep, h1⟩ h2 h3 h4 h5 h6 => .dic ⟨ep, (m.free _ _ h1 h2).1⟩ (m.free _ _ h1 h2).2 (Reps.mv m h3) (Reps.mv m h4) h5 h6
  | _, _, .scr (.inl ⟨o, h1⟩) => .scr (.inl ⟨o, m.frzs _ _ _ h1⟩)
  | _, _, .scr (.inr h1) => .scr (.inr h1)
theorem Reps.mv (m : Mv A A' H H') : ∀ {v : List V} {d : List PyData}, Reps A κ H v d → Reps A' κ H' v d
  | _, _, .nil => .nil
  | _, _, .cons h1 h2 => .cons (Rep.mv m h1) (Reps.mv m h2)
end
theorem Mv.same (s : Same H H') : Mv A A H H' := ⟨fun a o h n => ⟨s a o h, n⟩, fun a xs h => s _ _ h, fun a o u h => s _ _ h⟩
theorem Mv.less (h : ∀ a, A a = none → A' a = none) : Mv A A' H H := ⟨fun a o e n => ⟨e, h a n⟩, fun _ _ e => e, fun _ _ _ e => e⟩
theorem Mv.ins {p : Addr} {k : Nat} {H1 : Hp} (s1 : Same H H1) (n : H1 p = none) (s2 : Same H1 H') : Mv A (Dt.ins A p k) H H' :=
  ⟨fun a o e x => ⟨s2 _ _ (s1 _ _ e), by rw [ins_ne (ne_of_none (s1 _ _ e) n)]; exact x⟩, fun a xs e => s2 _ _ (s1 _ _ e), fun a o u e => s2 _ _ (s1 _ _ e)⟩
theorem Mv.trans {A'' : Ow} {H'' : Hp} (m : Mv A A' H H') (n : Mv A' A'' H' H'') : Mv A A'' H H'' :=
  ⟨fun a o e x => n.free a o (m.free a o e x).1 (m.free a o e x).2, fun a xs e => n.tups _ _ (m.tups _ _ e), fun a o u e => n.frzs _ _ _ (m.frzs _ _ _ e)⟩
theorem Rep.same (s : Same H H') {v : V} {d : PyData} (h : Rep A κ H v d) : Rep A κ H' v d := h.mv (.same s)
theorem Reps.same (s : Same H H') {v : List V} {d : List PyData} (h : Reps A κ H v d) : Reps A κ H' v d := h.mv (.same s)
theorem Own.mv (m : Mv A A' H H') {p : Addr} (hp : ∀ o, H p = some o → H' p = some o) : ∀ {d : PyData}, Own A κ H p d → Own A' κ H' p d
  | .list ds, ⟨xs, h1, h2⟩ => ⟨xs, hp _ h1, h2.mv m⟩
  | .dict kvs, ⟨xs, ⟨ep, h1⟩, h2, h3, h4, h5⟩ => ⟨xs, ⟨ep, hp _ h1⟩, h2.mv m, h3.mv m, h4, h5⟩
theorem Own.same (s : Same H H') {p : Addr} {d : PyData} (h : Own A κ H p d) : Own A κ H' p d := h.mv (.same s) (s p)
theorem RepW.same (s : Same H H') {v : V} {d : PyData} (h : RepW A κ H v d) : RepW A κ H' v d := by
  rcases h with h | ⟨p, e, ha, ho⟩
  · exact .inl (h.same s)
  · exact .inr ⟨p, e, ha, ho.same s⟩
theorem Own.rep {p : Addr} : ∀ {d : PyData}, Own A κ H p d → A p = none → Rep A κ H (.ref p) d
  | .list ds, ⟨xs, h1, h2⟩, n => .lst h1 n h2
  | .dict kvs, ⟨xs, h1, h2, h3, h4, h5⟩, n => .dic h1 n h2 h3 h4 h5
theorem Reps.length : ∀ {vs : List V} {ds : List PyData}, Reps A κ H vs ds → vs.length = ds.length
  | _, _, .nil => rfl
  | _, _, .cons _ t => by rw [List.length_cons, List.length_cons, Reps.length t]
theorem Reps.append : ∀ {vs : List V} {ds : List PyData} {ws : List V} {es : List PyData}, Reps A κ H vs ds → Reps A κ H ws es → Reps A κ H (vs ++ ws) (ds ++ es)
  | _, _, _, _, .nil, k => k
  | _, _, _, _, .cons r t, k => .cons r (Reps.append t k)
theorem Reps.get : ∀ {vs : List V} {ds : List PyData} {i : Nat} {d : PyData}, Reps A κ H vs ds → ds[i]? = some d → ∃ v, vs[i]? = some v ∧ Rep A κ H v d
  | _, _, i, d, .nil, e => by simp at e
  | _, _, 0, d, .cons r t, e => by simp at e; subst e; exact ⟨_, rfl, r⟩
  | _, _, i + 1, d, .cons r t, e => by
    simp at e
    obtain ⟨v, h1, h2⟩ := Reps.get t e
    exact ⟨v, by simpa using h1, h2⟩
theorem Reps.take : ∀ {vs : List V} {ds : List PyData} (n : Nat), Reps A κ H vs ds → Reps A κ H (vs.take n) (ds.take n)
  | _, _, 0, _ => .nil
  | _, _, _ + 1, .nil => .nil
  | _, _, n + 1, .cons r t => .cons r (Reps.take n t)
theorem Reps.drop : ∀ {vs : List V} {ds : List PyData} (n : Nat), Reps A κ H vs ds → Reps A κ H (vs.drop n) (ds.drop n)
  | _, _, 0, r => r
  | _, _, _ + 1, .nil => .nil
  | _, _, n + 1, .cons _ t => Reps.drop n t
theorem Reps.set {v : V} {d : PyData} (r : Rep A κ H v d) : ∀ {vs : List V} {ds : List PyData} (i : Nat), Reps A κ H vs ds → Reps A κ H (vs.set i v) (ds.set i d)
  | _, _, _, .nil => .nil
  | _, _, 0, .cons _ t => .cons r t
  | _, _, i + 1, .cons q t => .cons q (Reps.set r i t)
theorem Reps.rept {vs : List V} {ds : List PyData} (h : Reps A κ H vs ds) : ∀ k : Nat, Reps A κ H (List.replicate k vs).flatten (List.replicate k ds).flatten
  | 0 => .nil
  | k + 1 => by
    rw [List.replicate_succ, List.replicate_succ, List.flatten_cons, List.flatten_cons]
    exact h.append (Reps.rept h k)
mutual
theorem Rep.dp : ∀ {v : V} {d : PyData}, Rep A κ H v d → d.canLay0 = true → Dp κ.K H v d
  | _, _, .non, _ => .non
  | _, _, .bl b, _ => .bl b
  | _, _, .int i, _ => .int i
  | _, _, .str x, _ => .str x
  | _, _, .lst h1 h2 h3, c => .lst (.of h1) (Reps.dp h3 (by simpa [PyData.canLay0] using c))
  | _, _, .tup h1 h2, c => .tup h1 (Reps.dp h2 (by simpa [PyData.canLay0] using c))
  | _, _, .dic h1 h2 h3 h4 h5 h6, c => by simp [PyData.canLay0] at c
  | _, _, .scr h1, c => by simp [scrD, PyData.canLay0] at c
theorem Reps.dp : ∀ {v : List V} {d : List PyData}, Reps A κ H v d → PyData.canLayAll0 d = true → DpAll κ.K H v d
  | _, _, .nil, _ => .nil
  | _, _, .cons h1 h2, c => .cons (Rep.dp h1 (by rw [PyData.canLayAll0, Bool.and_eq_true] at c; exact c.1)) (Reps.dp h2 (by rw [PyData.canLayAll0, Bool.and_eq_true] at c; exact c.2))
end
theorem RepW.dp {v : V} {d : PyData} (h : RepW A κ H v d) (c : d.canLay0 = true) : Dp κ.K H v d := by
  rcases h with h | ⟨p, rfl, ha, ho⟩
  · exact h.dp c
  · cases d with
    | list ds =>
      obtain ⟨xs, h1, h2⟩ := ho
      exact .lst (.of h1) (h2.dp (by simpa [PyData.canLay0] using c))
    | _ => first | exact ho.elim | simp [PyData.canLay0] at c
theorem RepW.lst {v : V} {ds : List PyData} (h : RepW A κ H v (.list ds)) : ∃ p xs, v = .ref p ∧ H p = some (.lst xs) ∧ Reps A κ H xs ds := by
  rcases h with h | ⟨p, rfl, ha, xs, h1, h2⟩
  · cases h with
    | lst h1 h2 h3 => exact ⟨_, _, rfl, h1, h3⟩
  · exact ⟨_, _, rfl, h1, h2⟩
theorem RepW.tup {v : V} {ds : List PyData} (h : RepW A κ H v (.tuple ds)) : ∃ p xs, v = .ref p ∧ SqT κ.K H p xs ∧ Reps A κ H xs ds := by
  rcases h with h | ⟨p, rfl, ha, ho⟩
  · cases h with
    | tup h1 h2 => exact ⟨_, _, rfl, h1, h2⟩
  · exact ho.elim
theorem RepW.int {v : V} {i : Int} (h : RepW A κ H v (.int i)) : v = .int i := by
  rcases h with h | ⟨p, rfl, ha, ho⟩
  · cases h; rfl
  · exact ho.elim
theorem RepW.bl {v : V} {i : Bool} (h : RepW A κ H v (.bool i)) : v = .bl i := by
  rcases h with h | ⟨p, rfl, ha, ho⟩
  · cases h; rfl
  · exact ho.elim
theorem RepW.str {v : V} {i : Str} (h : RepW A κ H v (.str i)) : v = .str i := by
  rcases h with h | ⟨p, rfl, ha, ho⟩
  · cases h; rfl
  · exact ho.elim
theorem RepW.non {v : V} (h : RepW A κ H v .none) : v = .non := by
  rcases h with h | ⟨p, rfl, ha, ho⟩
  · cases h; rfl
  · exact ho.elim
/-- a new object is laid: what stood is as it was, and is not it -/
theorem same_new {H : Hp} {p : Addr} {o : HO} (n : H p = none) : Same H (upd H p o) := fun b x e => by
  rw [upd_ne (ne_of_none e n)]
  exact e
theorem not_own {p : Addr} (tr : ∀ a, A a ≠ none → ∃ o, H a = some o) (n : H p = none) : A p = none := by
  cases e : A p with
  | none => rfl
  | some k =>
    obtain ⟨o, z⟩ := tr p (by rw [e]; exact fun z => by cases z)
    rw [n] at z
    cases z
theorem Rep.new_lst {xs : List V} {ds : List PyData} {p : Addr} (n : H p = none) (tr : ∀ a, A a ≠ none → ∃ o, H a = some o) (r : Reps A κ H xs ds) : Rep A κ (upd H p (.lst xs)) (.ref p) (.list ds) :=
  .lst upd_same (not_own tr n) (r.same (same_new n))
theorem Rep.new_tup {xs : List V} {ds : List PyData} {p : Addr} (n : H p = none) (r : Reps A κ H xs ds) : Rep A κ (upd H p (.tup xs)) (.ref p) (.tuple ds) :=
  .tup (.of upd_same) (r.same (same_new n))
end

inductive Fd where
  | fz (d : PyData)
  /-- a list of the object's own -/
  | ow (ds : List PyData)
def FdOk (A : Ow) (n : Nat) (κ : Kx) (H : Hp) (v : V) : Fd → Prop
  | .fz d => Rep A κ H v d
  | .ow ds => ∃ q, v = .ref q ∧ A q = some n ∧ Own A κ H q (.list ds)
/-- an object at p, its lists owned by n -/
def ObOk (A : Ow) (n : Nat) (κ : Kx) (H : Hp) (p : Addr) (C : Addr) (fl : List (Str × Fd)) : Prop :=
  ∃ dx fs, H p = some (.ins C dx fs) ∧ fs.map (·.1) = fl.map (·.1) ∧ Paired (FdOk A n κ H) (fs.map (·.2)) (fl.map (·.2))
theorem FdOk.mv {A A' : Ow} {κ : Kx} {H H' : Hp} {n n' : Nat} (m : Mv A A' H H') (hp : ∀ a o, A a = some n → H a = some o → H' a = some o ∧ A' a = some n') {v : V} : ∀ {x : Fd}, FdOk A n κ H v x → FdOk A' n' κ H' v x
  | .fz d, r => Rep.mv m r
  | .ow ds, ⟨q, e, a, xs, h1, h2⟩ => ⟨q, e, (hp q _ a h1).2, xs, (hp q _ a h1).1, h2.mv m⟩
theorem ObOk.mv {A A' : Ow} {κ : Kx} {H H' : Hp} {n n' : Nat} (m : Mv A A' H H') (hp : ∀ a o, A a = some n → H a = some o → H' a = some o ∧ A' a = some n') {p C : Addr} {fl : List (Str × Fd)} (hpp : ∀ o, H p = some o → H' p = some o) : ObOk A n κ H p C fl → ObOk A' n' κ H' p C fl
  | ⟨dx, fs, h1, h2, h3⟩ => ⟨dx, fs, hpp _ h1, h2, L2.Paired.mapP h3 fun v x h => h.mv m hp⟩

inductive Sl where
  /-- an object of its own -/
  | ob (p C : Addr) (fl : List (Str × Fd))
  /-- an object of an outer def's, not changed here -/
  | oz (C : Addr) (fl : List (Str × Fd))
  | no
  | fz (d : PyData)
  | ow (d : PyData)
  /-- a dict whose values are lists of its own -/
  | od (kvs : List (PyData × List PyData))
  /-- a dict with keys ints and texts that nobody changes -/
  | pd (kvs : List (Key × V))
  /-- a list of lists of its own -/
  | ol (rows : List (List PyData))
  /-- an exception object -/
  | ex (a : Addr)
/-- a dict with lists of its own, all owned by n -/
def OwnD (A : Ow) (n : Nat) (κ : Kx) (H : Hp) (p : Addr) (kvs : List (PyData × List PyData)) : Prop :=
  ∃ (xs : List (NestedKey × Addr × V)) (qs : List Addr), DicAt κ H p xs ∧ Reps A κ H (xs.map fun x => V.ref x.2.1) (kvs.map (·.1)) ∧ xs.map (·.1) = kvs.map (fun p => nk p.1) ∧
    xs.map (·.2.2) = qs.map V.ref ∧ qs.Nodup ∧ Paired (fun (q : Addr) (l : PyData × List PyData) => A q = some n ∧ ∃ vs, H q = some (.lst vs) ∧ Reps A κ H vs l.2) qs kvs ∧ ∀ p ∈ kvs, keyOk p.1 = true
/-- a list of lists of its own, all owned by n -/
def OwnL (A : Ow) (n : Nat) (κ : Kx) (H : Hp) (p : Addr) (rows : List (List PyData)) : Prop :=
  ∃ qs : List Addr, H p = some (.lst (qs.map V.ref)) ∧ p ∉ qs ∧ qs.Nodup ∧ Paired (fun (q : Addr) (l : List PyData) => A q = some n ∧ ∃ vs, H q = some (.lst vs) ∧ Reps A κ H vs l) qs rows
def SlOk (A : Ow) (n : Nat) (κ : Kx) (H : Hp) : Sl → Option (Option V) → Prop
  | .no, _ => True
  | .fz d, o => ∃ v, o = some (some v) ∧ Rep A κ H v d
  | .ow d, o => ∃ p, o = some (some (.ref p)) ∧ A p = some n ∧ Own A κ H p d
  | .od kvs, o => ∃ p, o = some (some (.ref p)) ∧ A p = some n ∧ OwnD A n κ H p kvs
  | .pd kvs, o => ∃ p, o = some (some (.ref p)) ∧ A p = none ∧ H p = some (.dK kvs)
  | .ol rows, o => ∃ p, o = some (some (.ref p)) ∧ A p = some n ∧ OwnL A n κ H p rows
  | .ex a, o => o = some (some (.ref a))
  | .ob p C fl, o => o = some (some (.ref p)) ∧ A p = some n ∧ ObOk A n κ H p C fl
  | .oz C fl, o => ∃ p, o = some (some (.ref p)) ∧ A p = some 0 ∧ ObOk A 0 κ H p C fl
structure EV (A : Ow) (κ : Kx) (ρ : List Sl) (σ : L2.St) (H : Hp) : Prop where
  len : σ.length = ρ.length
  tr : ∀ a, A a ≠ none → ∃ o, H a = some o
  sl : ∀ i, SlOk A (i + 1) κ H (ρ.getD i .no) σ[i]?
theorem OwnD.mv {A A' : Ow} {κ : Kx} {H H' : Hp} {n : Nat} (m : Mv A A' H H') {p : Addr} {kvs : List (PyData × List PyData)} (hp : ∀ a o, A a = some n → H a = some o → H' a = some o ∧ A' a = some n) (hpp : ∀ o, H p = some o → H' p = some o) : OwnD A n κ H p kvs → OwnD A' n κ H' p kvs
  | ⟨xs, qs, ⟨ep, h1⟩, h2, h3, h4, h5, h6, h7⟩ => ⟨xs, qs, ⟨ep, hpp _ h1⟩, h2.mv m, h3, h4, h5, L2.Paired.mapP h6 fun q l ⟨a, vs, b, c⟩ => ⟨(hp q _ a b).2, vs, (hp q _ a b).1, c.mv m⟩, h7⟩
theorem OwnL.mv {A A' : Ow} {κ : Kx} {H H' : Hp} {n : Nat} (m : Mv A A' H H') {p : Addr} {rows : List (List PyData)} (hp : ∀ a o, A a = some n → H a = some o → H' a = some o ∧ A' a = some n) (hpp : ∀ o, H p = some o → H' p = some o) : OwnL A n κ H p rows → OwnL A' n κ H' p rows
  | ⟨qs, h1, h2, h3, h4⟩ => ⟨qs, hpp _ h1, h2, h3, L2.Paired.mapP h4 fun q l ⟨a, vs, b, c⟩ => ⟨(hp q _ a b).2, vs, (hp q _ a b).1, c.mv m⟩⟩
/-- a slot's own things stay, all that is nobody's stays -/
theorem SlOk.mv {A A' : Ow} {κ : Kx} {H H' : Hp} {n : Nat} (m : Mv A A' H H') (hpz : ∀ k, k = n ∨ k = 0 → ∀ a o, A a = some k → H a = some o → H' a = some o ∧ A' a = some k) (tr : ∀ a, A a ≠ none → ∃ o, H a = some o) : ∀ {x : Sl} {o : Option (Option V)}, SlOk A n κ H x o → SlOk A' n κ H' x o
  | .no, _, _ => trivial
  | .fz d, _, ⟨v, e, r⟩ => ⟨v, e, r.mv m⟩
  | .ow d, _, ⟨p, e, a, r⟩ => by
    obtain ⟨o, ho⟩ := tr p (by rw [a]; exact fun z => by cases z)
    exact ⟨p, e, (hpz n (.inl rfl) p o a ho).2, r.mv m fun o' h => (hpz n (.inl rfl) p o' a h).1⟩
  | .od kvs, _, ⟨p, e, a, r⟩ => by
    obtain ⟨o, ho⟩ := tr p (by rw [a]; exact fun z => by cases z)
    exact ⟨p, e, (hpz n (.inl rfl) p o a ho).2, r.mv m (hpz n (.inl rfl)) fun o' h => (hpz n (.inl rfl) p o' a h).1⟩
  | .pd kvs, _, ⟨p, e, a, r⟩ => ⟨p, e, (m.free p _ r a).2, (m.free p _ r a).1⟩
  | .ol rows, _, ⟨p, e, a, r⟩ => by
    obtain ⟨o, ho⟩ := tr p (by rw [a]; exact fun z => by cases z)
    exact ⟨p, e, (hpz n (.inl rfl) p o a ho).2, r.mv m (hpz n (.inl rfl)) fun o' h => (hpz n (.inl rfl) p o' a h).1⟩
  | .ex a, _, e => e
  | .ob p C fl, _, ⟨e, a, r⟩ => by
    obtain ⟨o, ho⟩ := tr p (by rw [a]; exact fun z => by cases z)
    exact ⟨e, (hpz n (.inl rfl) p o a ho).2, r.mv m (hpz n (.inl rfl)) fun o' h => (hpz n (.inl rfl) p o' a h).1⟩
  | .oz C fl, _, ⟨p, e, a, r⟩ => by
    obtain ⟨o, ho⟩ := tr p (by rw [a]; exact fun z => by cases z)
    exact ⟨p, e, (hpz 0 (.inr rfl) p o a ho).2, r.mv m (hpz 0 (.inr rfl)) fun o' h => (hpz 0 (.inr rfl) p o' a h).1⟩
theorem EV.same {A : Ow} {κ : Kx} {ρ : List Sl} {σ : L2.St} {H H' : Hp} (h : EV A κ ρ σ H) (s : Same H H') : EV A κ ρ σ H' :=
  ⟨h.len, fun a x => let ⟨o, e⟩ := h.tr a x; ⟨o, s _ _ e⟩, fun i => (h.sl i).mv (.same s) (fun _ _ a o e h => ⟨s _ _ h, e⟩) h.tr⟩

/-- an exception of the class that the name holds -/
def EQ (X : Cx) (E : XK) (c : Str) (H : Hp) : Prop := ∀ C, X.mg c = some (.ref C) → E (.ref C) none H
def PostR {α : Type} (X : Cx) (E : XK) (H : Hp) (r : Res α) (p : α → Prop) : Prop := match r with
  | .ok a => p a
  | .err c => ∀ H', Same H H' → EQ X E c H'
  | .stuck => False
section
variable {α β : Type} {X : Cx} {E : XK} {H H1 : Hp}
theorem PostR.bind {r : Res α} {k : α → Res β} {p : β → Prop} (h : PostR X E H (r >>= k) p) : PostR X E H r fun a => PostR X E H (k a) p := by
  cases r <;> exact h
theorem PostR.imp {r : Res α} {p q : α → Prop} (h : PostR X E H r p) (s : Same H H1) (k : ∀ a, p a → q a) : PostR X E H1 r q := by
  cases r with
  | ok a => exact k a h
  | err c => exact fun H' z => h H' (s.trans z)
  | stuck => exact h
theorem PostR.mono {r : Res α} {p q : α → Prop} (h : PostR X E H r p) (k : ∀ a, p a → q a) : PostR X E H r q := h.imp (Same.refl _) k
end
abbrev OkE (X : Cx) (A : Ow) (H : Hp) (Q : VK) (d : PyData) : Prop := ∀ v H', Same H H' → Rep A (kx X) H' v d → Q v H'
abbrev OkW (X : Cx) (A : Ow) (H : Hp) (Q : VK) (d : PyData) : Prop := ∀ v H', Same H H' → RepW A (kx X) H' v d → Q v H'
/-- a new list (or dict) that nobody else holds -/
abbrev OkO (X : Cx) (A : Ow) (H : Hp) (Q : VK) (ds : List PyData) : Prop := ∀ p H1 H', Same H H1 → H1 p = none → Same H1 H' → Own (ins A p 0) (kx X) H' p (.list ds) → Q (.ref p) H'
/-- what holds where some reading of it holds -/
def WE (X : Cx) (e : Expr) : TE := fun σ H Q => ∃ t, PE X e t ∧ t σ H Q
theorem we_ok {X : Cx} {e : Expr} : PE X e (WE X e) := ⟨fun pins s σ H Q I ⟨t, h, q⟩ => h.run pins s σ H Q I q⟩
def WT (X : Cx) (e : Expr) : TT := fun σ H Q => ∃ t, PT X e t ∧ t σ H Q
theorem wt_ok {X : Cx} {e : Expr} : PT X e (WT X e) := ⟨fun pins s σ H Q I ⟨t, h, q⟩ => h.run pins s σ H Q I q⟩
def WW (X : Cx) (e : Expr) : TT := fun σ H Q => ∃ t, PW X e t ∧ t σ H Q
theorem ww_ok {X : Cx} {e : Expr} : PW X e (WW X e) := ⟨fun wh pins s σ H Q I ⟨t, h, q⟩ => h.run wh pins s σ H Q I q⟩
def WA (X : Cx) (e : List Expr) : TA := fun σ H Q => ∃ t, PA X e t ∧ t σ H Q
theorem wa_ok {X : Cx} {e : List Expr} : PA X e (WA X e) := ⟨fun pos pins s σ H Q I ⟨t, h, q⟩ => h.run pos pins s σ H Q I q⟩
def GE (X : Cx) (E : XK) (e : Expr) (ρ : List Sl) (r : Res PyData) : Prop :=
  ∀ A σ H Q, EV A (kx X) ρ σ H → PostR X E H r (OkE X A H Q) → WE X e σ H Q
def GW (X : Cx) (E : XK) (e : Expr) (ρ : List Sl) (r : Res PyData) : Prop :=
  ∀ A σ H Q, EV A (kx X) ρ σ H → PostR X E H r (OkW X A H Q) → WE X e σ H Q
def GO (X : Cx) (E : XK) (e : Expr) (ρ : List Sl) (r : Res (List PyData)) : Prop :=
  ∀ A σ H Q, EV A (kx X) ρ σ H → PostR X E H r (OkO X A H Q) → WE X e σ H Q
/-- a test -/
def GT (X : Cx) (E : XK) (e : Expr) (ρ : List Sl) (r : Res Bool) : Prop :=
  ∀ A σ H Q, EV A (kx X) ρ σ H → PostR X E H r (fun b => ∀ H', Same H H' → Q b H') → WT X e σ H Q
def GTW (X : Cx) (E : XK) (e : Expr) (ρ : List Sl) (r : Res Bool) : Prop :=
  ∀ A σ H Q, EV A (kx X) ρ σ H → PostR X E H r (fun b => ∀ H', Same H H' → Q b H') → WW X e σ H Q
/-- arguments -/
def GA (X : Cx) (E : XK) (es : List Expr) (ρ : List Sl) (r : Res (List PyData)) : Prop :=
  ∀ A σ H Q, EV A (kx X) ρ σ H → PostR X E H r (fun ds => ∀ vs H', Same H H' → Reps A (kx X) H' vs ds → Q vs H') → WA X es σ H Q
section
variable {X : Cx} {E : XK} {e : Expr} {es : List Expr} {ρ : List Sl} {r : Res PyData} {rt : Res Bool} {rs : Res (List PyData)}
theorem GE.ex (h : GE X E e ρ r) : ∃ t, PE X e t ∧ ∀ A σ H Q, EV A (kx X) ρ σ H → PostR X E H r (OkE X A H Q) → t σ H Q := ⟨_, we_ok, h⟩
theorem GE.mk (h : ∃ t, PE X e t ∧ ∀ A σ H Q, EV A (kx X) ρ σ H → PostR X E H r (OkE X A H Q) → t σ H Q) : GE X E e ρ r := let ⟨t, p, h⟩ := h; fun A σ H Q ev q => ⟨t, p, h A σ H Q ev q⟩
theorem GW.ex (h : GW X E e ρ r) : ∃ t, PE X e t ∧ ∀ A σ H Q, EV A (kx X) ρ σ H → PostR X E H r (OkW X A H Q) → t σ H Q := ⟨_, we_ok, h⟩
theorem GW.mk (h : ∃ t, PE X e t ∧ ∀ A σ H Q, EV A (kx X) ρ σ H → PostR X E H r (OkW X A H Q) → t σ H Q) : GW X E e ρ r := let ⟨t, p, h⟩ := h; fun A σ H Q ev q => ⟨t, p, h A σ H Q ev q⟩
theorem GO.ex (h : GO X E e ρ rs) : ∃ t, PE X e t ∧ ∀ A σ H Q, EV A (kx X) ρ σ H → PostR X E H rs (OkO X A H Q) → t σ H Q := ⟨_, we_ok, h⟩
theorem GO.mk (h : ∃ t, PE X e t ∧ ∀ A σ H Q, EV A (kx X) ρ σ H → PostR X E H rs (OkO X A H Q) → t σ H Q) : GO X E e ρ rs := let ⟨t, p, h⟩ := h; fun A σ H Q ev q => ⟨t, p, h A σ H Q ev q⟩
theorem GT.ex (h : GT X E e ρ rt) : ∃ t, PT X e t ∧ ∀ A σ H Q, EV A (kx X) ρ σ H → PostR X E H rt (fun b => ∀ H', Same H H' → Q b H') → t σ H Q := ⟨_, wt_ok, h⟩
theorem GT.mk (h : ∃ t, PT X e t ∧ ∀ A σ H Q, EV A (kx X) ρ σ H → PostR X E H rt (fun b => ∀ H', Same H H' → Q b H') → t σ H Q) : GT X E e ρ rt := let ⟨t, p, h⟩ := h; fun A σ H Q ev q => ⟨t, p, h A σ H Q ev q⟩
theorem GTW.ex (h : GTW X E e ρ rt) : ∃ t, PW X e t ∧ ∀ A σ H Q, EV A (kx X) ρ σ H → PostR X E H rt (fun b => ∀ H', Same H H' → Q b H') → t σ H Q := ⟨_, ww_ok, h⟩
theorem GTW.mk (h : ∃ t, PW X e t ∧ ∀ A σ H Q, EV A (kx X) ρ σ H → PostR X E H rt (fun b => ∀ H', Same H H' → Q b H') → t σ H Q) : GTW X E e ρ rt := let ⟨t, p, h⟩ := h; fun A σ H Q ev q => ⟨t, p, h A σ H Q ev q⟩
theorem GA.ex (h : GA X E es ρ rs) : ∃ t, PA X es t ∧ ∀ A σ H Q, EV A (kx X) ρ σ H → PostR X E H rs (fun ds => ∀ vs H', Same H H' → Reps A (kx X) H' vs ds → Q vs H') → t σ H Q := ⟨_, wa_ok, h⟩
theorem GA.mk (h : ∃ t, PA X es t ∧ ∀ A σ H Q, EV A (kx X) ρ σ H → PostR X E H rs (fun ds => ∀ vs H', Same H H' → Reps A (kx X) H' vs ds → Q vs H') → t σ H Q) : GA X E es ρ rs := let ⟨t, p, h⟩ := h; fun A σ H Q ev q => ⟨t, p, h A σ H Q ev q⟩
end
/-- arguments that are looked at -/
inductive RepWs (A : Ow) (κ : Kx) (H : Hp) : List V → List PyData → Prop
  | nil : RepWs A κ H [] []
  | cons {v : V} {vs : List V} {d : PyData} {ds : List PyData} : RepW A κ H v d → RepWs A κ H vs ds → RepWs A κ H (v :: vs) (d :: ds)
theorem RepWs.same {A : Ow} {κ : Kx} {H H' : Hp} (s : Same H H') : ∀ {vs : List V} {ds : List PyData}, RepWs A κ H vs ds → RepWs A κ H' vs ds
  | _, _, .nil => .nil
  | _, _, .cons r t => .cons (r.same s) (RepWs.same s t)
theorem RepWs.length {A : Ow} {κ : Kx} {H : Hp} : ∀ {vs : List V} {ds : List PyData}, RepWs A κ H vs ds → vs.length = ds.length
  | _, _, .nil => rfl
  | _, _, .cons _ t => by rw [List.length_cons, List.length_cons, RepWs.length t]
def GAW (X : Cx) (E : XK) (es : List Expr) (ρ : List Sl) (r : Res (List PyData)) : Prop :=
  ∀ A σ H Q, EV A (kx X) ρ σ H → PostR X E H r (fun ds => ∀ vs H', Same H H' → RepWs A (kx X) H' vs ds → Q vs H') → WA X es σ H Q
section
variable {X : Cx} {E : XK} {es : List Expr} {ρ : List Sl} {rs : Res (List PyData)}
theorem GAW.ex (h : GAW X E es ρ rs) : ∃ t, PA X es t ∧ ∀ A σ H Q, EV A (kx X) ρ σ H → PostR X E H rs (fun ds => ∀ vs H', Same H H' → RepWs A (kx X) H' vs ds → Q vs H') → t σ H Q := ⟨_, wa_ok, h⟩
theorem GAW.mk (h : ∃ t, PA X es t ∧ ∀ A σ H Q, EV A (kx X) ρ σ H → PostR X E H rs (fun ds => ∀ vs H', Same H H' → RepWs A (kx X) H' vs ds → Q vs H') → t σ H Q) : GAW X E es ρ rs := let ⟨t, p, h⟩ := h; fun A σ H Q ev q => ⟨t, p, h A σ H Q ev q⟩
end

section
variable {X : Cx} {E : XK} {ρ : List Sl} {e a b c : Expr} {r ra rb rc : Res PyData} {pos : Pos}
theorem GE.w (h : GE X E e ρ r) : GW X E e ρ r := by
  obtain ⟨t, h1, h2⟩ := h.ex
  exact .mk ⟨t, h1, fun A σ H Q ev q => h2 A σ H Q ev (q.mono fun d k v H' s r => k v H' s (.inl r))⟩
theorem GO.ge {rs : Res (List PyData)} (h : GO X E e ρ rs) : GE X E e ρ (rs >>= fun ds => .ok (.list ds)) := by
  obtain ⟨t, h1, h2⟩ := h.ex
  refine .mk ⟨t, h1, fun A σ H Q ev q => h2 A σ H Q ev (q.bind.mono fun d k p H1 H' s1 n s2 o => k (.ref p) H' (s1.trans s2) ?_)⟩
  have np : A p = none := not_own (ev.same s1).tr n
  refine (o.mv (Mv.less fun a z => ?_) (fun _ e => e)).rep np
  by_cases e : a = p
  · rw [e]; exact np
  · rwa [ins_ne e] at z
theorem GO.w {rs : Res (List PyData)} (h : GO X E e ρ rs) : GW X E e ρ (rs >>= fun ds => .ok (.list ds)) := h.ge.w

theorem ge_var {i : Nat} {d : PyData} {x : Str} {p : Pos} (h : PE X (.Name x p) (tVar i)) (hd : ρ.getD i .no = .fz d := by rfl) : GE X E (.Name x p) ρ (.ok d) := by
  refine .mk ⟨_, h, fun A σ H Q ev q => ?_⟩
  have z := ev.sl i
  rw [hd] at z
  obtain ⟨v, e, r⟩ := z
  exact ⟨v, e, q v H (Same.refl _) r⟩
theorem gw_var {i : Nat} {d : PyData} {x : Str} {p : Pos} (h : PE X (.Name x p) (tVar i)) (hd : ρ.getD i .no = .ow d := by rfl) : GW X E (.Name x p) ρ (.ok d) := by
  refine .mk ⟨_, h, fun A σ H Q ev q => ?_⟩
  have z := ev.sl i
  rw [hd] at z
  obtain ⟨p, e, ha, r⟩ := z
  exact ⟨_, e, q _ H (Same.refl _) (.inr ⟨p, rfl, (by rw [ha]; exact fun z => by cases z), r⟩)⟩
theorem ge_C {v : V} {d : PyData} (h : PE X e (tC v)) (k : ∀ A H, Rep A (kx X) H v d) : GE X E e ρ (.ok d) :=
  .mk ⟨_, h, fun A σ H Q ev q => q v H (Same.refl _) (k A H)⟩
theorem ge_int {i : Int} {j : Nat} : GE X E (.Constant (.int i) j pos) ρ (.ok (.int i)) := ge_C pe_int fun _ _ => .int i
theorem ge_bl {i : Bool} {j : Nat} : GE X E (.Constant (.bool i) j pos) ρ (.ok (.bool i)) := ge_C pe_bl fun _ _ => .bl i
theorem ge_non {j : Nat} : GE X E (.Constant .none j pos) ρ (.ok .none) := ge_C pe_non fun _ _ => .non
theorem ge_str {x : Str} {j : Nat} : GE X E (.Constant (.str x) j pos) ρ (.ok (.str x)) := ge_C pe_str fun _ _ => .str x
end
end Dt
namespace Dt
open PySem PySem.Spec PyProof.Rows L2

abbrev Tr (A : Ow) (H : Hp) : Prop := ∀ a, A a ≠ none → ∃ o, H a = some o
theorem Tr.same {A : Ow} {H H' : Hp} (t : Tr A H) (s : Same H H') : Tr A H' := fun a x => let ⟨o, e⟩ := t a x; ⟨o, s _ _ e⟩
/-- an operation on two values is an operation on data -/
def Op2 (X : Cx) (f : Value → Value → Sem Value) (g : PyData → PyData → Res PyData) : Prop :=
  ∃ r : R2, OpR X f r ∧ ∀ (E : XK) (A : Ow) (H : Hp) (x y : V) (d e : PyData) (Q : VK), Tr A H → RepW A (kx X) H x d → RepW A (kx X) H y e → PostR X E H (g d e) (OkE X A H Q) → r x y H Q
def Op1 (X : Cx) (f : Value → Sem Value) (g : PyData → Res PyData) : Prop :=
  ∃ r, UnR X f r ∧ ∀ (E : XK) (A : Ow) (H : Hp) (x : V) (d : PyData) (Q : VK), Tr A H → RepW A (kx X) H x d → PostR X E H (g d) (OkE X A H Q) → r x H Q
/-- a call of a known value -/
def OpC (X : Cx) (f : Value) (g : List PyData → Res PyData) : Prop :=
  ∃ r, CallR X f r ∧ ∀ (E : XK) (A : Ow) (H : Hp) (xs : List V) (ds : List PyData) (Q : VK), Tr A H → RepWs A (kx X) H xs ds → PostR X E H (g ds) (OkE X A H Q) → r xs H Q
/-- .. that gives a new list -/
def OpCO (X : Cx) (f : Value) (g : List PyData → Res (List PyData)) : Prop :=
  ∃ r, CallR X f r ∧ ∀ (E : XK) (A : Ow) (H : Hp) (xs : List V) (ds : List PyData) (Q : VK), Tr A H → RepWs A (kx X) H xs ds → PostR X E H (g ds) (OkO X A H Q) → r xs H Q
section
variable {X : Cx} {E : XK} {ρ : List Sl} {e a b c : Expr} {es : List Expr} {r ra rb rc : Res PyData} {rs : Res (List PyData)} {pos : Pos} {f : Value → Value → Sem Value} {g : PyData → PyData → Res PyData}

theorem two (ha : GW X E a ρ ra) (hb : GW X E b ρ rb) {r : R2} (hr : ∀ (E : XK) (A : Ow) (H : Hp) (x y : V) (d e : PyData) (Q : VK), Tr A H → RepW A (kx X) H x d → RepW A (kx X) H y e → PostR X E H (g d e) (OkE X A H Q) → r x y H Q) :
    ∃ ta tb, PE X a ta ∧ PE X b tb ∧ ∀ A σ H Q, EV A (kx X) ρ σ H → PostR X E H (ra >>= fun d => rb >>= fun e => g d e) (OkE X A H Q) → tOp r ta tb σ H Q := by
  obtain ⟨ta, pa, ha⟩ := ha.ex
  obtain ⟨tb, pb, hb⟩ := hb.ex
  refine ⟨ta, tb, pa, pb, fun A σ H Q ev q => ?_⟩
  refine ha A σ H _ ev (q.bind.mono fun d qd v H1 s1 rv => ?_)
  refine hb A σ H1 _ (ev.same s1) (qd.bind.imp s1 fun e qe u H2 s2 ru => ?_)
  exact hr E A H2 v u d e Q (ev.same (s1.trans s2)).tr (rv.same s2) ru (qe.imp (s1.trans s2) fun f k w H3 s3 rw => k w H3 (s1.trans (s2.trans s3)) rw)
theorem ge_bin {op : Operator} (o : Op2 X (binaryOp op) g) (ha : GW X E a ρ ra) (hb : GW X E b ρ rb) : GE X E (.BinOp a op b pos) ρ (ra >>= fun d => rb >>= fun e => g d e) := by
  obtain ⟨r, ho, hr⟩ := o
  obtain ⟨ta, tb, pa, pb, h⟩ := two ha hb hr
  exact .mk ⟨_, pe_op ho pa pb, h⟩
theorem ge_cmp {op : CmpOp} (o : Op2 X (compareOp op) g) (ha : GW X E a ρ ra) (hb : GW X E b ρ rb) (hm : behindInMarks op b = false := by first | exact nomark _ | with_unfolding_all rfl) :
    GE X E (.Compare a [op] [b] pos) ρ (ra >>= fun d => rb >>= fun e => g d e) := by
  obtain ⟨r, ho, hr⟩ := o
  obtain ⟨ta, tb, pa, pb, h⟩ := two ha hb hr
  exact .mk ⟨_, pe_cmpR ho pa pb hm, h⟩
theorem ge_un {op : UnaryOp} {g : PyData → Res PyData} (o : Op1 X (unaryOp op) g) (ha : GW X E a ρ ra) : GE X E (.UnaryOp op a pos) ρ (ra >>= g) := by
  obtain ⟨r, ho, hr⟩ := o
  obtain ⟨ta, pa, ha⟩ := ha.ex
  refine .mk ⟨_, pe_un ho pa, fun A σ H Q ev q => ?_⟩
  refine ha A σ H _ ev (q.bind.mono fun d qd v H1 s1 rv => ?_)
  exact hr E A H1 v d Q (ev.same s1).tr rv (qd.imp s1 fun f k w H3 s3 rw => k w H3 (s1.trans s3) rw)

def addD : PyData → PyData → Res PyData
  | .int i, .int j => .ok (.int (i + j))
  | .str x, .str y => if x.length + y.length ≤ sizeLine then .ok (.str (x ++ y)) else .stuck
  | .tuple xs, .tuple ys => if xs.length + ys.length ≤ sizeLine then .ok (.tuple (xs ++ ys)) else .stuck
  | .list xs, .list ys => if xs.length + ys.length ≤ sizeLine then .ok (.list (xs ++ ys)) else .stuck
  | _, _ => .stuck
def subD : PyData → PyData → Res PyData
  | .int i, .int j => .ok (.int (i - j))
  | _, _ => .stuck
def smallI (i : Int) : Bool := decide (-(2 ^ 64) < i) && decide (i < 2 ^ 64)
def mulD : PyData → PyData → Res PyData
  | .int i, .int j => if (smallI i || smallI j) = true then .ok (.int (i * j)) else .stuck
  | .list xs, .int k => if -1000 ≤ k ∧ k ≤ 1000 ∧ xs.length ≤ 1000 then .ok (.list (List.replicate k.toNat xs).flatten) else .stuck
  | .tuple xs, .int k => if xs ≠ [] ∧ 2 ≤ k ∧ k ≤ 1000 ∧ xs.length ≤ 1000 then .ok (.tuple (List.replicate k.toNat xs).flatten) else .stuck
  | _, _ => .stuck
def modD : PyData → PyData → Res PyData
  | .int i, .int j => if 0 < j then .ok (.int (i % j)) else .stuck
  | _, _ => .stuck
def fdivD : PyData → PyData → Res PyData
  | .int i, .int j => if 0 < j ∧ j < 1073741824 then .ok (.int (i / j)) else .stuck
  | _, _ => .stuck
def negD : PyData → Res PyData
  | .int i => .ok (.int (-i))
  | _ => .stuck
theorem add_ok : Op2 X (binaryOp .Add) addD := by
  refine ⟨_, ((op_add.or op_add_str).or op_catA).or op_cat, fun E A H x y d e Q tr rx ry q => ?_⟩
  unfold addD at q
  split at q
  · obtain rfl := rx.int
    obtain rfl := ry.int
    exact .inl (.inl (.inl ⟨_, _, rfl, rfl, q _ H (Same.refl _) (.int _)⟩))
  · obtain rfl := rx.str
    obtain rfl := ry.str
    split at q
    · exact .inl (.inl (.inr ⟨_, _, rfl, rfl, by assumption, q _ H (Same.refl _) (.str _)⟩))
    · exact q.elim
  · obtain ⟨p, vs, rfl, h1, h2⟩ := rx.tup
    obtain ⟨p', ws, rfl, h3, h4⟩ := ry.tup
    split at q
    · rename_i hz
      refine .inl (.inr ⟨p, p', vs, ws, rfl, rfl, h1, h3, by rw [h2.length, h4.length]; exact hz, fun e => ?_, fun n e => ?_, fun n n' p n => ?_⟩)
      · subst e
        have e2 := h2.length
        cases h2
        exact q _ H (Same.refl _) (.tup h3 h4)
      · subst e
        cases h4
        exact q _ H (Same.refl _) (.tup h1 (by rw [List.append_nil]; exact h2))
      · exact q _ _ (same_new n) (Rep.new_tup n (h2.append h4))
    · exact q.elim
  · obtain ⟨p, vs, rfl, h1, h2⟩ := rx.lst
    obtain ⟨p', ws, rfl, h3, h4⟩ := ry.lst
    split at q
    · rename_i hz
      refine .inr ⟨p, p', vs, ws, rfl, rfl, h1, h3, by rw [h2.length, h4.length]; exact hz, fun p n => ?_⟩
      exact q _ _ (same_new n) (Rep.new_lst n tr (h2.append h4))
    · exact q.elim
  · exact q.elim
theorem sub_ok : Op2 X (binaryOp .Sub) subD := by
  refine ⟨_, op_sub, fun E A H x y d e Q tr rx ry q => ?_⟩
  unfold subD at q
  split at q
  · obtain rfl := rx.int
    obtain rfl := ry.int
    exact ⟨_, _, rfl, rfl, q _ H (Same.refl _) (.int _)⟩
  · exact q.elim
theorem mod_ok : Op2 X (binaryOp .Mod) modD := by
  refine ⟨_, op_mod, fun E A H x y d e Q tr rx ry q => ?_⟩
  unfold modD at q
  split at q
  · obtain rfl := rx.int
    obtain rfl := ry.int
    split at q
    · exact ⟨_, _, rfl, rfl, by assumption, q _ H (Same.refl _) (.int _)⟩
    · exact q.elim
  · exact q.elim
theorem fdiv_ok : Op2 X (binaryOp .FloorDiv) fdivD := by
  refine ⟨_, op_fdiv, fun E A H x y d e Q tr rx ry q => ?_⟩
  unfold fdivD at q
  split at q
  · obtain rfl := rx.int
    obtain rfl := ry.int
    split at q
    · exact ⟨_, _, rfl, rfl, by assumption, q _ H (Same.refl _) (.int _)⟩
    · exact q.elim
  · exact q.elim
theorem neg_ok : Op1 X (unaryOp .USub) negD := by
  refine ⟨_, un_neg, fun E A H x d Q tr rx q => ?_⟩
  unfold negD at q
  split at q
  · obtain rfl := rx.int
    exact ⟨_, rfl, q _ H (Same.refl _) (.int _)⟩
  · exact q.elim
theorem small_cmul {i j : Int} (h : (smallI i || smallI j) = true) : CMul i j := by
  unfold smallI at h
  simp only [Bool.or_eq_true, Bool.and_eq_true, decide_eq_true_eq] at h
  exact h
theorem mul_ok : Op2 X (binaryOp .Mult) mulD := by
  refine ⟨_, (op_mul.or op_rep).or op_repT, fun E A H x y d e Q tr rx ry q => ?_⟩
  unfold mulD at q
  split at q
  · obtain rfl := rx.int
    obtain rfl := ry.int
    split at q
    · exact .inl (.inl ⟨_, _, rfl, rfl, small_cmul (by assumption), q _ H (Same.refl _) (.int _)⟩)
    · exact q.elim
  · obtain ⟨p, vs, rfl, h1, h2⟩ := rx.lst
    obtain rfl := ry.int
    split at q
    · rename_i k hz
      obtain ⟨z1, z2, z3⟩ := hz
      refine .inl (.inr ⟨p, _, vs, rfl, rfl, h1, by omega, by omega, ?_, fun p n => ?_⟩)
      · rw [h2.length, sizeLine_eq]
        exact Nat.le_trans (Nat.mul_le_mul z3 (show Int.toNat _ ≤ 1000 by omega)) (by decide)
      · exact q _ _ (same_new n) (Rep.new_lst n tr (h2.rept _))
    · exact q.elim
  · obtain ⟨p, vs, rfl, h1, h2⟩ := rx.tup
    obtain rfl := ry.int
    split at q
    · rename_i k hz
      obtain ⟨z0, z1, z2, z3⟩ := hz
      refine .inr ⟨p, _, vs, rfl, rfl, h1, fun e => ?_, z1, z2, by rw [h2.length]; exact z3, fun p n => ?_⟩
      · subst e
        cases h2
        exact z0 rfl
      · exact q _ _ (same_new n) (Rep.new_tup n (h2.rept _))
    · exact q.elim
  · exact q.elim

def shp (d : PyData) : Bool := SeqAt.shaped d
theorem shp_lay {d : PyData} (h : shp d = true) : d.canLay0 = true := SeqAt.canLay_of_shaped h
def eqD (d e : PyData) : Res PyData := if (shp d && shp e) = true then .ok (.bool (PyData.eqv d e)) else .stuck
def neD (d e : PyData) : Res PyData := if (shp d && shp e) = true then .ok (.bool (!PyData.eqv d e)) else .stuck
def ordD (p : Int → Int → Bool) (d e : PyData) : Res PyData := match d, e with
  | .int i, .int j => .ok (.bool (p i j))
  | _, _ => .stuck
abbrev leD := ordD fun i j => decide (i ≤ j)
abbrev gtD := ordD fun i j => decide (j < i)
abbrev geD := ordD fun i j => decide (j ≤ i)
def intsOf : List PyData → Option (List Int)
  | [] => some []
  | .int i :: r => (intsOf r).map (i :: ·)
  | _ :: _ => none
def ltD (d e : PyData) : Res PyData := match d, e with
  | .int i, .int j => .ok (.bool (decide (i < j)))
  | .tuple xs, .tuple ys => match intsOf xs, intsOf ys with
    | some ns, some ms => .ok (.bool (HT.lexLt ns ms))
    | _, _ => .stuck
  | _, _ => .stuck
def notND (d e : PyData) : Res PyData := match d, e with
  | .none, .none => .ok (.bool false)
  | _, .none => .ok (.bool true)
  | _, _ => .stuck
theorem eq_ok (hu : X.A.units + 64 < cLine) : Op2 X (compareOp .Eq) eqD := by
  refine ⟨_, op_eqD hu, fun E A H x y d e Q tr rx ry q => ?_⟩
  unfold eqD at q
  split at q
  · rename_i h
    rw [Bool.and_eq_true] at h
    exact ⟨d, e, rx.dp (shp_lay h.1), ry.dp (shp_lay h.2), h.1, h.2, q _ H (Same.refl _) (.bl _)⟩
  · exact q.elim
theorem ne_ok (hu : X.A.units + 64 < cLine) : Op2 X (compareOp .NotEq) neD := by
  refine ⟨_, op_neD hu, fun E A H x y d e Q tr rx ry q => ?_⟩
  unfold neD at q
  split at q
  · rename_i h
    rw [Bool.and_eq_true] at h
    exact ⟨d, e, rx.dp (shp_lay h.1), ry.dp (shp_lay h.2), h.1, h.2, q _ H (Same.refl _) (.bl _)⟩
  · exact q.elim
theorem ord_ok {op : CmpOp} {p : Int → Int → Bool} (h : OpR X (compareOp op) (rI0 fun i j => .bl (p i j))) : Op2 X (compareOp op) (ordD p) := by
  refine ⟨_, h, fun E A H x y d e Q tr rx ry q => ?_⟩
  unfold ordD at q
  split at q
  · obtain rfl := rx.int
    obtain rfl := ry.int
    exact ⟨_, _, rfl, rfl, q _ H (Same.refl _) (.bl _)⟩
  · exact q.elim
theorem le_ok : Op2 X (compareOp .LtE) leD := ord_ok op_le
theorem gt_ok : Op2 X (compareOp .Gt) gtD := ord_ok op_gt
theorem ints_of {A : Ow} {κ : Kx} {H : Hp} : ∀ {vs : List V} {ds : List PyData} {ns : List Int}, Reps A κ H vs ds → intsOf ds = some ns → vs = ns.map V.int
  | _, _, _, .nil, e => by cases e; rfl
  | _, _, ns, .cons (d := d) r t, e => by
    cases r with
    | int i =>
      unfold intsOf at e
      cases h : intsOf _ with
      | none => rw [h] at e; cases e
      | some ms =>
        rw [h] at e
        cases e
        rw [ints_of t h]
        rfl
    | _ => cases e
theorem lt_ok (hu : X.A.units < cLine) : Op2 X (compareOp .Lt) ltD := by
  refine ⟨_, op_lt.or (op_ltT hu), fun E A H x y d e Q tr rx ry q => ?_⟩
  unfold ltD at q
  split at q
  · obtain rfl := rx.int
    obtain rfl := ry.int
    exact .inl ⟨_, _, rfl, rfl, q _ H (Same.refl _) (.bl _)⟩
  · obtain ⟨p, vs, rfl, h1, h2⟩ := rx.tup
    obtain ⟨p', ws, rfl, h3, h4⟩ := ry.tup
    split at q
    · rename_i h5 h6
      have e1 := ints_of h2 h5
      have e2 := ints_of h4 h6
      subst e1 e2
      exact .inr ⟨p, p', _, _, rfl, rfl, h1, h3, q _ H (Same.refl _) (.bl _)⟩
    · exact q.elim
  · exact q.elim
theorem op_inT (hu : X.A.units + 65 < cLine) : OpR X (compareOp .In) (fun x y H Q => ∃ d ds, Dp X.K H x d ∧ Dp X.K H y (.tuple ds) ∧ SeqAt.shaped d = true ∧ SeqAt.shaped (.tuple ds) = true ∧ Q (.bl (ds.any fun z => PyData.eqv z d)) H) := by
  intro pins s σ H x y v u Q I rx ry h
  obtain ⟨d, ds, hd, he, sd, se, q⟩ := h
  obtain ⟨as, r1⟩ := Dp.reads I d x v hd rx
  obtain ⟨bs, r2⟩ := Dp.reads I (.tuple ds) y u he ry
  exact SeqAt.in_tuple_reads r2 r1 (SeqAt.canLay_of_shaped se) (SeqAt.canLay_of_shaped sd) (room_in_shaped sd hu) ⟨.bl _, H, I, rfl, q⟩
theorem op_notInT (hu : X.A.units + 65 < cLine) : OpR X (compareOp .NotIn) (fun x y H Q => ∃ d ds, Dp X.K H x d ∧ Dp X.K H y (.tuple ds) ∧ SeqAt.shaped d = true ∧ SeqAt.shaped (.tuple ds) = true ∧ Q (.bl (!ds.any fun z => PyData.eqv z d)) H) := by
  intro pins s σ H x y v u Q I rx ry h
  obtain ⟨d, ds, hd, he, sd, se, q⟩ := h
  obtain ⟨as, r1⟩ := Dp.reads I d x v hd rx
  obtain ⟨bs, r2⟩ := Dp.reads I (.tuple ds) y u he ry
  exact SeqAt.notIn_tuple_reads r2 r1 (SeqAt.canLay_of_shaped se) (SeqAt.canLay_of_shaped sd) (room_in_shaped sd hu) ⟨.bl _, H, I, rfl, q⟩
def inD (d e : PyData) : Res PyData := match e with
  | .list ds => if (shp d && shp (.list ds)) = true then .ok (.bool (ds.any fun z => PyData.eqv z d)) else .stuck
  | .tuple ds => if (shp d && shp (.tuple ds)) = true then .ok (.bool (ds.any fun z => PyData.eqv z d)) else .stuck
  | .str y => match d with
    | .str x => .ok (.bool (!(Builtin.Str.occurrences y x 0 y.length 1).isEmpty))
    | _ => .stuck
  | _ => .stuck
def notInD (d e : PyData) : Res PyData := match e with
  | .list ds => if (shp d && shp (.list ds)) = true then .ok (.bool (!ds.any fun z => PyData.eqv z d)) else .stuck
  | .tuple ds => if (shp d && shp (.tuple ds)) = true then .ok (.bool (!ds.any fun z => PyData.eqv z d)) else .stuck
  | .str y => match d with
    | .str x => .ok (.bool (!(!(Builtin.Str.occurrences y x 0 y.length 1).isEmpty)))
    | _ => .stuck
  | _ => .stuck
theorem in_ok (hu : X.A.units + 65 < cLine) : Op2 X (compareOp .In) inD := by
  refine ⟨_, ((op_inD hu).or (op_inT hu)).or op_in_str, fun E A H x y d e Q tr rx ry q => ?_⟩
  unfold inD at q
  split at q
  · split at q
    · rename_i h
      rw [Bool.and_eq_true] at h
      exact .inl (.inl ⟨d, _, rx.dp (shp_lay h.1), ry.dp (shp_lay h.2), h.1, h.2, q _ H (Same.refl _) (.bl _)⟩)
    · exact q.elim
  · split at q
    · rename_i h
      rw [Bool.and_eq_true] at h
      exact .inl (.inr ⟨d, _, rx.dp (shp_lay h.1), ry.dp (shp_lay h.2), h.1, h.2, q _ H (Same.refl _) (.bl _)⟩)
    · exact q.elim
  · obtain rfl := ry.str
    split at q
    · obtain rfl := rx.str
      exact .inr ⟨_, _, rfl, rfl, q _ H (Same.refl _) (.bl _)⟩
    · exact q.elim
  · exact q.elim
theorem notIn_ok (hu : X.A.units + 65 < cLine) : Op2 X (compareOp .NotIn) notInD := by
  refine ⟨_, ((op_notInD hu).or (op_notInT hu)).or op_notin_str, fun E A H x y d e Q tr rx ry q => ?_⟩
  unfold notInD at q
  split at q
  · split at q
    · rename_i h
      rw [Bool.and_eq_true] at h
      exact .inl (.inl ⟨d, _, rx.dp (shp_lay h.1), ry.dp (shp_lay h.2), h.1, h.2, q _ H (Same.refl _) (.bl _)⟩)
    · exact q.elim
  · split at q
    · rename_i h
      rw [Bool.and_eq_true] at h
      exact .inl (.inr ⟨d, _, rx.dp (shp_lay h.1), ry.dp (shp_lay h.2), h.1, h.2, q _ H (Same.refl _) (.bl _)⟩)
    · exact q.elim
  · obtain rfl := ry.str
    split at q
    · obtain rfl := rx.str
      exact .inr ⟨_, _, rfl, rfl, q _ H (Same.refl _) (.bl _)⟩
    · exact q.elim
  · exact q.elim
end
end Dt
namespace Dt
open PySem PySem.Spec PyProof.Rows L2
section
variable {X : Cx} {E : XK} {ρ : List Sl} {e a b c : Expr} {es : List Expr} {r ra rb rc : Res PyData} {rt ru : Res Bool} {rs : Res (List PyData)} {pos : Pos}

theorem _root_.Dt.Reps.isEmpty {A : Ow} {κ : Kx} {H : Hp} {vs : List V} {ds : List PyData} (h : Reps A κ H vs ds) : vs.isEmpty = ds.isEmpty := by
  cases h <;> rfl
def boolD : PyData → Res Bool
  | .bool b => .ok b
  | _ => .stuck
/-- truth -/
def truD : PyData → Res Bool
  | .bool b => .ok b
  | .none => .ok false
  | .int i => .ok (i != 0)
  | .list xs => .ok (!xs.isEmpty)
  | .tuple xs => .ok (!xs.isEmpty)
  | _ => .stuck
theorem gt_val (h : GW X E e ρ r) (he : ∀ whole, isTrue e X.env whole = (do let v ← whole; standAt e.pos; holding [v] (truthy v)) := by intro _; rfl) : GT X E e ρ (r >>= truD) := by
  obtain ⟨t, pa, ha⟩ := h.ex
  refine .mk ⟨_, pt_truth pa he, fun A σ H Q ev q => ?_⟩
  refine ha A σ H _ ev (q.bind.mono fun d qd v H1 s1 rv => ?_)
  unfold truD at qd
  split at qd
  · obtain rfl := rv.bl
    exact ⟨_, rfl, qd H1 s1⟩
  · obtain rfl := rv.non
    exact ⟨_, rfl, qd H1 s1⟩
  · obtain rfl := rv.int
    exact ⟨_, rfl, qd H1 s1⟩
  · obtain ⟨p, vs, rfl, h1, h2⟩ := rv.lst
    refine ⟨_, .inl ⟨vs, .of h1, rfl⟩, ?_⟩
    rw [h2.isEmpty]
    exact qd H1 s1
  · obtain ⟨p, vs, rfl, h1, h2⟩ := rv.tup
    refine ⟨_, .inr (.inl ⟨vs, h1, rfl⟩), ?_⟩
    rw [h2.isEmpty]
    exact qd H1 s1
  · exact qd.elim
theorem gt_cmp {op : CmpOp} {g : PyData → PyData → Res PyData} (o : Op2 X (compareOp op) g) (ha : GW X E a ρ ra) (hb : GW X E b ρ rb) (hm : behindInMarks op b = false := by first | exact nomark _ | with_unfolding_all rfl) :
    GT X E (.Compare a [op] [b] pos) ρ ((ra >>= fun d => rb >>= fun e => g d e) >>= boolD) := by
  obtain ⟨r, ho, hr⟩ := o
  obtain ⟨ta, pa, ha⟩ := ha.ex
  obtain ⟨tb, pb, hb⟩ := hb.ex
  refine .mk ⟨_, pt_cmpR ho pa pb hm, fun A σ H Q ev q => ?_⟩
  have q' := q.bind
  refine ha A σ H _ ev (q'.bind.mono fun d qd v H1 s1 rv => ?_)
  refine hb A σ H1 _ (ev.same s1) (qd.bind.imp s1 fun e qe u H2 s2 ru => ?_)
  refine hr E A H2 v u d e _ (ev.same (s1.trans s2)).tr (rv.same s2) ru (qe.imp (s1.trans s2) fun f k w H3 s3 rw => ?_)
  unfold boolD at k
  split at k
  · cases rw
    exact ⟨_, rfl, k H3 (s1.trans (s2.trans s3))⟩
  · exact k.elim
theorem gt_not (h : GT X E e ρ rt) : GT X E (.UnaryOp .Not e pos) ρ (rt >>= fun b => .ok (!b)) := by
  obtain ⟨t, pa, ha⟩ := h.ex
  refine .mk ⟨_, pt_not pa, fun A σ H Q ev q => ?_⟩
  exact ha A σ H _ ev (q.bind.mono fun d qd H1 s1 => qd H1 s1)
theorem gt_w (h : GTW X E e ρ rt) : GT X E e ρ rt := by
  obtain ⟨t, pa, ha⟩ := h.ex
  exact .mk ⟨_, pa.pt, ha⟩
theorem gtw_and1 (h : GT X E a ρ rt) : GTW X E (.BoolOp .And [a] pos) ρ rt := by
  obtain ⟨t, pa, ha⟩ := h.ex
  exact .mk ⟨_, pw_and1 pa, ha⟩
theorem gtw_or1 (h : GT X E a ρ rt) : GTW X E (.BoolOp .Or [a] pos) ρ rt := by
  obtain ⟨t, pa, ha⟩ := h.ex
  exact .mk ⟨_, pw_or1 pa, ha⟩
/-- the second is not looked at where the first decides -/
def andR (r u : Res Bool) : Res Bool := r >>= fun c => if c = true then u else .ok false
def orR (r u : Res Bool) : Res Bool := r >>= fun c => if c = true then .ok true else u
theorem gtw_and {rest : List Expr} (h : GT X E a ρ rt) (k : GTW X E (.BoolOp .And (b :: rest) pos) ρ ru) : GTW X E (.BoolOp .And (a :: b :: rest) pos) ρ (andR rt ru) := by
  obtain ⟨t, pa, ha⟩ := h.ex
  obtain ⟨u, pb, hb⟩ := k.ex
  refine .mk ⟨_, pw_and pa pb, fun A σ H Q ev q => ?_⟩
  refine ha A σ H _ ev (q.bind.mono fun d qd H1 s1 => ?_)
  cases d with
  | true => exact iteT (hb A σ H1 Q (ev.same s1) (PostR.imp qd s1 fun b k H2 s2 => k H2 (s1.trans s2)))
  | false => exact iteF (qd H1 s1)
theorem gtw_or {rest : List Expr} (h : GT X E a ρ rt) (k : GTW X E (.BoolOp .Or (b :: rest) pos) ρ ru) : GTW X E (.BoolOp .Or (a :: b :: rest) pos) ρ (orR rt ru) := by
  obtain ⟨t, pa, ha⟩ := h.ex
  obtain ⟨u, pb, hb⟩ := k.ex
  refine .mk ⟨_, pw_or pa pb, fun A σ H Q ev q => ?_⟩
  refine ha A σ H _ ev (q.bind.mono fun d qd H1 s1 => ?_)
  cases d with
  | true => exact iteT (qd H1 s1)
  | false => exact iteF (hb A σ H1 Q (ev.same s1) (PostR.imp qd s1 fun b k H2 s2 => k H2 (s1.trans s2)))
def andV (r u : Res PyData) : Res PyData := r >>= fun d => boolD d >>= fun c => if c = true then u else .ok (.bool false)
def orV (r u : Res PyData) : Res PyData := r >>= fun d => boolD d >>= fun c => if c = true then .ok (.bool true) else u
def notV (r : Res PyData) : Res PyData := r >>= fun d => boolD d >>= fun c => .ok (.bool (!c))
theorem bool_of {A : Ow} {H : Hp} {d : PyData} {c : Bool} {v : V} (h : Rep A (kx X) H v d) (e : boolD d = .ok c) : v = .bl c := by
  unfold boolD at e
  split at e
  · cases e; cases h; rfl
  · cases e
theorem ge_one {op} (h : GE X E a ρ r) : GE X E (.BoolOp op [a] pos) ρ r := by
  obtain ⟨t, pa, ha⟩ := h.ex
  exact .mk ⟨_, pe_one pa, ha⟩
theorem ge_and {rest : List Expr} (h : GE X E a ρ ra) (k : GE X E (.BoolOp .And (b :: rest) pos) ρ rb) : GE X E (.BoolOp .And (a :: b :: rest) pos) ρ (andV ra rb) := by
  obtain ⟨t, pa, ha⟩ := h.ex
  obtain ⟨u, pb, hb⟩ := k.ex
  refine .mk ⟨_, pe_and pa pb, fun A σ H Q ev q => ?_⟩
  refine ha A σ H _ ev (q.bind.mono fun d qd v H1 s1 rv => ?_)
  cases e : boolD d with
  | ok c =>
    rw [e] at qd
    refine ⟨c, bool_of rv e, ?_⟩
    cases c with
    | true => exact iteT (hb A σ H1 Q (ev.same s1) (PostR.imp qd s1 fun b k v H2 s2 r => k v H2 (s1.trans s2) r))
    | false => exact iteF (qd _ H1 s1 (.bl _))
  | err c => unfold boolD at e; split at e <;> cases e
  | stuck => rw [e] at qd; exact qd.elim
theorem ge_not (h : GE X E a ρ ra) : GE X E (.UnaryOp .Not a pos) ρ (notV ra) := by
  obtain ⟨t, pa, ha⟩ := h.ex
  refine .mk ⟨_, pe_not pa, fun A σ H Q ev q => ?_⟩
  refine ha A σ H _ ev (q.bind.mono fun d qd v H1 s1 rv => ?_)
  cases e : boolD d with
  | ok c =>
    rw [e] at qd
    exact ⟨c, bool_of rv e, qd _ H1 s1 (.bl _)⟩
  | err c => unfold boolD at e; split at e <;> cases e
  | stuck => rw [e] at qd; exact qd.elim
theorem ge_if (hc : GT X E c ρ rt) (ha : GE X E a ρ ra) (hb : GE X E b ρ rb) : GE X E (.IfExp c a b pos) ρ (rt >>= fun c => if c = true then ra else rb) := by
  obtain ⟨t, pt, ht⟩ := hc.ex
  obtain ⟨ta, pa, ha⟩ := ha.ex
  obtain ⟨tb, pb, hb⟩ := hb.ex
  refine .mk ⟨_, pe_ifExp pt pa pb, fun A σ H Q ev q => ?_⟩
  refine ht A σ H _ ev (q.bind.mono fun d qd H1 s1 => ?_)
  cases d with
  | true => exact iteT (ha A σ H1 Q (ev.same s1) (PostR.imp qd s1 fun b k v H2 s2 r => k v H2 (s1.trans s2) r))
  | false => exact iteF (hb A σ H1 Q (ev.same s1) (PostR.imp qd s1 fun b k v H2 s2 r => k v H2 (s1.trans s2) r))
def chainV (ra rb rc : Res PyData) (g g' : PyData → PyData → Res PyData) : Res PyData := ra >>= fun d => rb >>= fun e => g d e >>= fun z => boolD z >>= fun k => if k = true then rc >>= fun f => g' e f else .ok (.bool false)
theorem ge_chain {op op' : CmpOp} {g g' : PyData → PyData → Res PyData} (o : Op2 X (compareOp op) g) (o' : Op2 X (compareOp op') g') (ha : GW X E a ρ ra) (hb : GW X E b ρ rb) (hc : GW X E c ρ rc)
    (hm : lastMarks [op, op'] [b, c] = false := by with_unfolding_all rfl) : GE X E (.Compare a [op, op'] [b, c] pos) ρ (chainV ra rb rc g g') := by
  obtain ⟨r, ho, hr⟩ := o
  obtain ⟨r', ho', hr'⟩ := o'
  obtain ⟨ta, pa, ha⟩ := ha.ex
  obtain ⟨tb, pb, hb⟩ := hb.ex
  obtain ⟨tc, pc, hc⟩ := hc.ex
  refine .mk ⟨_, pe_chain ho ho' pa pb pc hm, fun A σ H Q ev q => ?_⟩
  refine ha A σ H _ ev (q.bind.mono fun d qd v H1 s1 rv => ?_)
  refine hb A σ H1 _ (ev.same s1) (qd.bind.imp s1 fun e qe u H2 s2 ru => ?_)
  refine hr E A H2 v u d e _ (ev.same (s1.trans s2)).tr (rv.same s2) ru (qe.bind.imp (s1.trans s2) fun f qf w H3 s3 rw => ?_)
  cases z : boolD f with
  | ok k =>
    rw [z] at qf
    refine ⟨k, bool_of rw z, ?_⟩
    have s123 := s1.trans (s2.trans s3)
    cases k with
    | true =>
      refine iteT (hc A σ H3 _ (ev.same s123) ((PostR.bind (k := fun f => g' e f) qf).imp s123 fun f qf w' H4 s4 rw' => ?_))
      exact hr' E A H4 u w' e f Q (ev.same (s123.trans s4)).tr (ru.same (s3.trans s4)) rw' (qf.imp (s123.trans s4) fun f k w H5 s5 rw => k w H5 (s123.trans (s4.trans s5)) rw)
    | false => exact iteF (qf _ H3 s123 (.bl _))
  | err c => unfold boolD at z; split at z <;> cases z
  | stuck => rw [z] at qf; exact qf.elim
def idxD : PyData → PyData → Res PyData
  | .list xs, .int i => match atI xs i with
    | some d => .ok d
    | none => .stuck
  | .tuple xs, .int i => match atI xs i with
    | some d => .ok d
    | none => .stuck
  | .str z, .int i => if z.length ≤ sizeLine then match atI z.cps.toList i with
      | some c => .ok (.str ⟨#[c]⟩)
      | none => .stuck
    else .stuck
  | _, _ => .stuck
theorem Reps.atI {A : Ow} {κ : Kx} {H : Hp} {vs : List V} {ds : List PyData} {i : Int} {d : PyData} (h : Reps A κ H vs ds) (e : L2.atI ds i = some d) : ∃ v, L2.atI vs i = some v ∧ Rep A κ H v d := by
  unfold L2.atI at e ⊢
  rw [h.length]
  cases z : ixN ds.length i with
  | none => rw [z] at e; cases e
  | some j =>
    rw [z] at e
    exact h.get e
theorem ge_idx (ha : GW X E a ρ ra) (hb : GW X E b ρ rb) (hs : PlainIx b := by intro _ _; rfl) : GE X E (.Subscript a b pos) ρ (ra >>= fun d => rb >>= fun e => idxD d e) := by
  have hr : ∀ (E : XK) (A : Ow) (H : Hp) (x y : V) (d e : PyData) (Q : VK), Tr A H → RepW A (kx X) H x d → RepW A (kx X) H y e → PostR X E H (idxD d e) (OkE X A H Q) → rIx X.K x y H Q := fun E A H x y d e Q tr rx ry q => by
    unfold idxD at q
    split at q
    · obtain ⟨p, vs, rfl, h1, h2⟩ := rx.lst
      obtain rfl := ry.int
      split at q
      · obtain ⟨v, h3, h4⟩ := Reps.atI h2 (by assumption)
        exact .inl ⟨p, vs, _, v, rfl, rfl, .of h1, h3, q _ H (Same.refl _) h4⟩
      · exact q.elim
    · obtain ⟨p, vs, rfl, h1, h2⟩ := rx.tup
      obtain rfl := ry.int
      split at q
      · obtain ⟨v, h3, h4⟩ := Reps.atI h2 (by assumption)
        exact .inr (.inl ⟨p, vs, _, v, rfl, rfl, h1, h3, q _ H (Same.refl _) h4⟩)
      · exact q.elim
    · obtain rfl := rx.str
      obtain rfl := ry.int
      split at q
      · split at q
        · exact .inr (.inr ⟨_, _, _, rfl, rfl, by assumption, by assumption, q _ H (Same.refl _) (.str _)⟩)
        · exact q.elim
      · exact q.elim
    · exact q.elim
  obtain ⟨ta, tb, pa, pb, h⟩ := two ha hb hr
  exact .mk ⟨_, pe_ix ix_seq pa pb hs, h⟩
/-- a slice's part -/
def WP (X : Cx) (e : Option Expr) : TO := fun σ H Q => ∃ t, PO X e t ∧ t σ H Q
theorem wp_ok {X : Cx} {e : Option Expr} : PO X e (WP X e) := ⟨fun pins s σ H Q I ⟨t, h, q⟩ => h.run pins s σ H Q I q⟩
def GP (X : Cx) (E : XK) (e : Option Expr) (ρ : List Sl) (r : Res (Option Int)) : Prop :=
  ∀ A σ H Q, EV A (kx X) ρ σ H → PostR X E H r (fun o => ∀ H', Same H H' → Q o H') → WP X e σ H Q
theorem GP.ex {e : Option Expr} {r : Res (Option Int)} (h : GP X E e ρ r) : ∃ t, PO X e t ∧ ∀ A σ H Q, EV A (kx X) ρ σ H → PostR X E H r (fun o => ∀ H', Same H H' → Q o H') → t σ H Q := ⟨_, wp_ok, h⟩
theorem GP.mk {e : Option Expr} {r : Res (Option Int)} (h : ∃ t, PO X e t ∧ ∀ A σ H Q, EV A (kx X) ρ σ H → PostR X E H r (fun o => ∀ H', Same H H' → Q o H') → t σ H Q) : GP X E e ρ r := let ⟨t, p, h⟩ := h; fun A σ H Q ev q => ⟨t, p, h A σ H Q ev q⟩
theorem gp_none : GP X E none ρ (.ok none) := .mk ⟨_, po_none, fun A σ H Q ev q => q H (Same.refl _)⟩
def partD : PyData → Res (Option Int)
  | .int i => .ok (some i)
  | _ => .stuck
theorem gp_some (h : GW X E e ρ r) : GP X E (some e) ρ (r >>= partD) := by
  obtain ⟨t, pa, ha⟩ := h.ex
  refine .mk ⟨_, po_some pa, fun A σ H Q ev q => ?_⟩
  refine ha A σ H _ ev (q.bind.mono fun d qd v H1 s1 rv => ?_)
  unfold partD at qd
  split at qd
  · obtain rfl := rv.int
    exact ⟨_, rfl, qd H1 s1⟩
  · exact qd.elim
def cutD (xs : List PyData) (lo hi : Option Int) : List PyData := (xs.drop (HT.sIx xs.length 0 lo)).take (HT.sIx xs.length xs.length hi - HT.sIx xs.length 0 lo)
theorem Reps.cut {A : Ow} {κ : Kx} {H : Hp} {vs : List V} {ds : List PyData} (h : Reps A κ H vs ds) (lo hi : Option Int) : Reps A κ H (cutV vs lo hi) (cutD ds lo hi) := by
  unfold cutV cutD
  rw [h.length]
  exact (h.drop _).take _
theorem cut_whole {xs : List PyData} {lo hi : Option Int} (h : HT.sIx xs.length 0 lo = 0 ∧ HT.sIx xs.length xs.length hi = xs.length) : cutD xs lo hi = xs := by
  unfold cutD
  rw [h.1, h.2]
  simp
def sliceD (d : PyData) (lo hi : Option Int) : Res PyData := match d with
  | .list xs => .ok (.list (cutD xs lo hi))
  | .tuple xs => .ok (.tuple (cutD xs lo hi))
  | _ => .stuck
theorem ge_slice {lo hi : Option Expr} {rl rh : Res (Option Int)} {p2 : Pos} (ha : GW X E a ρ ra) (hl : GP X E lo ρ rl) (hh : GP X E hi ρ rh) :
    GE X E (.Subscript a (.Slice lo hi none p2) pos) ρ (ra >>= fun d => rl >>= fun l => rh >>= fun u => sliceD d l u) := by
  obtain ⟨ta, pa, ha⟩ := ha.ex
  obtain ⟨tl, pl, hl⟩ := hl.ex
  obtain ⟨th, ph, hh⟩ := hh.ex
  refine .mk ⟨_, pe_slice (sl_list.or sl_tupA) pa pl ph, fun A σ H Q ev q => ?_⟩
  refine ha A σ H _ ev (q.bind.mono fun d qd v H1 s1 rv => ?_)
  refine hl A σ H1 _ (ev.same s1) (qd.bind.imp s1 fun l ql H2 s2 => ?_)
  refine hh A σ H2 _ (ev.same (s1.trans s2)) (ql.bind.imp (s1.trans s2) fun u qu H3 s3 => ?_)
  have s123 := s1.trans (s2.trans s3)
  have rv3 := rv.same (s2.trans s3)
  unfold sliceD at qu
  split at qu
  · obtain ⟨p, vs, rfl, h1, h2⟩ := rv3.lst
    refine .inl ⟨p, vs, rfl, .of h1, fun p n => ?_⟩
    exact qu _ _ (s123.trans (same_new n)) (Rep.new_lst n (ev.same s123).tr (h2.cut _ _))
  · obtain ⟨p, vs, rfl, h1, h2⟩ := rv3.tup
    refine .inr ⟨p, vs, rfl, h1, fun hw => ?_, fun hw p n => ?_⟩
    · rw [h2.length] at hw
      rw [cut_whole hw] at qu
      exact qu _ _ s123 (.tup h1 h2)
    · exact qu _ _ (s123.trans (same_new n)) (Rep.new_tup n (h2.cut _ _))
  · exact qu.elim

/-- from the left -/
def allR : List (Res PyData) → Res (List PyData)
  | [] => .ok []
  | r :: rs => r >>= fun d => allR rs >>= fun ds => .ok (d :: ds)
theorem ga_nil : GA X E [] ρ (allR []) := .mk ⟨_, pa_nil, fun A σ H Q ev q => q [] H (Same.refl _) .nil⟩
theorem ga_cons {ls : List (Res PyData)} (ha : GE X E a ρ ra) (hs : GA X E es ρ (allR ls)) (hst : starEach (a :: es) X.env = (false, eval a X.env) :: starEach es X.env := by rfl) : GA X E (a :: es) ρ (allR (ra :: ls)) := by
  obtain ⟨ta, pa, ha⟩ := ha.ex
  obtain ⟨tb, pb, hb⟩ := hs.ex
  refine .mk ⟨_, pa_cons pa pb hst, fun A σ H Q ev q => ?_⟩
  refine ha A σ H _ ev (q.bind.mono fun d qd v H1 s1 rv => ?_)
  refine hb A σ H1 _ (ev.same s1) (qd.bind.imp s1 fun ds qe vs H2 s2 rs => ?_)
  exact qe _ H2 (s1.trans s2) (.cons (rv.same s2) rs)
theorem gaw_nil : GAW X E [] ρ (allR []) := .mk ⟨_, pa_nil, fun A σ H Q ev q => q [] H (Same.refl _) .nil⟩
theorem gaw_cons {ls : List (Res PyData)} (ha : GW X E a ρ ra) (hs : GAW X E es ρ (allR ls)) (hst : starEach (a :: es) X.env = (false, eval a X.env) :: starEach es X.env := by rfl) : GAW X E (a :: es) ρ (allR (ra :: ls)) := by
  obtain ⟨ta, pa, ha⟩ := ha.ex
  obtain ⟨tb, pb, hb⟩ := hs.ex
  refine .mk ⟨_, pa_cons pa pb hst, fun A σ H Q ev q => ?_⟩
  refine ha A σ H _ ev (q.bind.mono fun d qd v H1 s1 rv => ?_)
  refine hb A σ H1 _ (ev.same s1) (qd.bind.imp s1 fun ds qe vs H2 s2 rs => ?_)
  exact qe _ H2 (s1.trans s2) (.cons (rv.same s2) rs)
def tupD (ds : List PyData) : Res PyData := if ds.length ≤ sizeLine then .ok (.tuple ds) else .stuck
def lstD (ds : List PyData) : Res (List PyData) := if ds.length ≤ sizeLine then .ok ds else .stuck
theorem ge_tup {x1} (h : GA X E es ρ rs) : GE X E (.Tuple es x1 pos) ρ (rs >>= tupD) := by
  obtain ⟨t, pa, ha⟩ := h.ex
  refine .mk ⟨_, pe_tup pa, fun A σ H Q ev q => ?_⟩
  refine ha A σ H _ ev (q.bind.mono fun ds qd vs H1 s1 rv => ?_)
  unfold tupD at qd
  split at qd
  · exact ⟨by rw [rv.length]; assumption, fun p n => qd _ _ (s1.trans (same_new n)) (Rep.new_tup n rv)⟩
  · exact qd.elim
theorem Reps.newA {A : Ow} {κ : Kx} {H : Hp} {vs : List V} {ds : List PyData} {p : Addr} {k : Nat} (h : Reps A κ H vs ds) (n : H p = none) : Reps (ins A p k) κ H vs ds := h.mv (.ins (Same.refl _) n (Same.refl _))
theorem Rep.newA {A : Ow} {κ : Kx} {H : Hp} {vs : V} {ds : PyData} {p : Addr} {k : Nat} (h : Rep A κ H vs ds) (n : H p = none) : Rep (ins A p k) κ H vs ds := h.mv (.ins (Same.refl _) n (Same.refl _))
theorem go_lst (h : GA X E es ρ rs) : GO X E (.List es pos) ρ (rs >>= lstD) := by
  obtain ⟨t, pa, ha⟩ := h.ex
  refine .mk ⟨_, pe_lst pa, fun A σ H Q ev q => ?_⟩
  refine ha A σ H _ ev (q.bind.mono fun ds qd vs H1 s1 rv => ?_)
  unfold lstD at qd
  split at qd
  · exact ⟨by rw [rv.length]; assumption, fun p n => qd p H1 _ s1 n (same_new n) ⟨_, upd_same, (rv.newA n).same (same_new n)⟩⟩
  · exact qd.elim

theorem ge_callB {x : Str} {id : String} {p : Pos} {g : List PyData → Res PyData} (o : OpC X (.builtin id) g) (hg : Gl X x) (hm : X.mg x = none) (hv : bootBuiltins x = some (.builtin id)) (h : GAW X E (e :: es) ρ rs) (hn : x ≠ "__name__" := by decide) (hdb : (x == ("__debug__" : Str)) = false := by decide)
    (he : starEach (e :: es) X.env = (false, eval e X.env) :: starEach es X.env := by rfl) (hpl : (backTo pos (starEach es X.env)).any (·.1) = false := by rfl) : GE X E (.Call (.Name x p) (e :: es) [] pos) ρ (rs >>= g) := by
  obtain ⟨r, ho, hr⟩ := o
  obtain ⟨t, pa, ha⟩ := h.ex
  refine .mk ⟨_, pe_callB ho hg hm hv pa hn hdb he hpl, fun A σ H Q ev q => ?_⟩
  refine ha A σ H _ ev (q.bind.mono fun ds qd vs H1 s1 rv => ?_)
  exact hr E A H1 vs ds Q (ev.same s1).tr rv (qd.imp s1 fun f k w H3 s3 rw => k w H3 (s1.trans s3) rw)
theorem ge_callT {x : Str} {T : String} {p : Pos} {g : List PyData → Res PyData} (o : OpC X (.type T) g) (hg : Gl X x) (hm : X.mg x = none) (hv : bootBuiltins x = some (.type T)) (h : GAW X E (e :: es) ρ rs) (hn : x ≠ "__name__" := by decide) (hdb : (x == ("__debug__" : Str)) = false := by decide)
    (he : starEach (e :: es) X.env = (false, eval e X.env) :: starEach es X.env := by rfl) (hpl : (backTo pos (starEach es X.env)).any (·.1) = false := by rfl) : GE X E (.Call (.Name x p) (e :: es) [] pos) ρ (rs >>= g) := by
  obtain ⟨r, ho, hr⟩ := o
  obtain ⟨t, pa, ha⟩ := h.ex
  refine .mk ⟨_, pe_callTy ho hg hm hv pa hn hdb he hpl, fun A σ H Q ev q => ?_⟩
  refine ha A σ H _ ev (q.bind.mono fun ds qd vs H1 s1 rv => ?_)
  exact hr E A H1 vs ds Q (ev.same s1).tr rv (qd.imp s1 fun f k w H3 s3 rw => k w H3 (s1.trans s3) rw)
theorem go_callT {x : Str} {T : String} {p : Pos} {g : List PyData → Res (List PyData)} (o : OpCO X (.type T) g) (hg : Gl X x) (hm : X.mg x = none) (hv : bootBuiltins x = some (.type T)) (h : GAW X E (e :: es) ρ rs) (hn : x ≠ "__name__" := by decide) (hdb : (x == ("__debug__" : Str)) = false := by decide)
    (he : starEach (e :: es) X.env = (false, eval e X.env) :: starEach es X.env := by rfl) (hpl : (backTo pos (starEach es X.env)).any (·.1) = false := by rfl) : GO X E (.Call (.Name x p) (e :: es) [] pos) ρ (rs >>= g) := by
  obtain ⟨r, ho, hr⟩ := o
  obtain ⟨t, pa, ha⟩ := h.ex
  refine .mk ⟨_, pe_callTy ho hg hm hv pa hn hdb he hpl, fun A σ H Q ev q => ?_⟩
  refine ha A σ H _ ev (q.bind.mono fun ds qd vs H1 s1 rv => ?_)
  exact hr E A H1 vs ds Q (ev.same s1).tr rv (qd.imp s1 fun f k w H3 H4 s3 n s4 rw => k w H3 H4 (s1.trans s3) n s4 rw)
theorem go_callB {x : Str} {id : String} {p : Pos} {g : List PyData → Res (List PyData)} (o : OpCO X (.builtin id) g) (hg : Gl X x) (hm : X.mg x = none) (hv : bootBuiltins x = some (.builtin id)) (h : GAW X E (e :: es) ρ rs) (hn : x ≠ "__name__" := by decide) (hdb : (x == ("__debug__" : Str)) = false := by decide)
    (he : starEach (e :: es) X.env = (false, eval e X.env) :: starEach es X.env := by rfl) (hpl : (backTo pos (starEach es X.env)).any (·.1) = false := by rfl) : GO X E (.Call (.Name x p) (e :: es) [] pos) ρ (rs >>= g) := by
  obtain ⟨r, ho, hr⟩ := o
  obtain ⟨t, pa, ha⟩ := h.ex
  refine .mk ⟨_, pe_callB ho hg hm hv pa hn hdb he hpl, fun A σ H Q ev q => ?_⟩
  refine ha A σ H _ ev (q.bind.mono fun ds qd vs H1 s1 rv => ?_)
  exact hr E A H1 vs ds Q (ev.same s1).tr rv (qd.imp s1 fun f k w H3 H4 s3 n s4 rw => k w H3 H4 (s1.trans s3) n s4 rw)
end
end Dt
namespace Dt
open PySem PySem.Spec PyProof.Rows L2

theorem getD_set_same {ρ : List Sl} {i : Nat} {x : Sl} (h : i < ρ.length) : (ρ.set i x).getD i .no = x := by simp [List.getD, h]
theorem getD_set_ne {ρ : List Sl} {i j : Nat} {x : Sl} (h : i ≠ j) : (ρ.set i x).getD j .no = ρ.getD j .no := by simp [List.getD, List.getElem?_set_ne h]
section
variable {A : Ow} {κ : Kx} {ρ : List Sl} {σ : L2.St} {H : Hp}
theorem getD_lt {ρ : List Sl} {i : Nat} {x : Sl} (h : ρ.getD i .no = x) (n : x ≠ .no) : i < ρ.length := by
  by_cases e : i < ρ.length
  · exact e
  · rw [List.getD, List.getElem?_eq_none (by omega)] at h
    exact absurd h.symm n
theorem EV.set_fz {i : Nat} {v : V} {d : PyData} (ev : EV A κ ρ σ H) (r : Rep A κ H v d) : EV A κ (ρ.set i (.fz d)) (σ.set i (some v)) H := by
  refine ⟨by rw [List.length_set, List.length_set, ev.len], ev.tr, fun j => ?_⟩
  by_cases e : i = j
  · subst e
    by_cases h : i < ρ.length
    · rw [getD_set_same h, List.getElem?_set_self (by rw [ev.len]; exact h)]
      exact ⟨v, rfl, r⟩
    · rw [show (ρ.set i (.fz d)).getD i .no = .no by simp [List.getD, h]]
      trivial
  · rw [getD_set_ne e, List.getElem?_set_ne e]
    exact ev.sl j
/-- a new list at p, held by slot i alone -/
theorem EV.set_ow {i : Nat} {p : Addr} {d : PyData} {H1 H' : Hp} (ev : EV A κ ρ σ H) (s1 : Same H H1) (n : H1 p = none) (s2 : Same H1 H') (t : ∃ o, H' p = some o) (o : Own (ins A p (i + 1)) κ H' p d) :
    EV (ins A p (i + 1)) κ (ρ.set i (.ow d)) (σ.set i (some (V.ref p))) H' := by
  have np : A p = none := not_own (ev.same s1).tr n
  refine ⟨by rw [List.length_set, List.length_set, ev.len], fun a h => ?_, fun j => ?_⟩
  · by_cases e : a = p
    · rw [e]; exact t
    · rw [ins_ne e] at h
      obtain ⟨o, z⟩ := ev.tr a h
      exact ⟨o, s2 _ _ (s1 _ _ z)⟩
  · by_cases e : i = j
    · subst e
      by_cases h : i < ρ.length
      · rw [getD_set_same h, List.getElem?_set_self (by rw [ev.len]; exact h)]
        exact ⟨p, rfl, ins_same, o⟩
      · rw [show (ρ.set i (.ow d)).getD i .no = .no by simp [List.getD, h]]
        trivial
    · rw [getD_set_ne e, List.getElem?_set_ne e]
      refine (ev.sl j).mv (.ins s1 n s2) (fun _ _ a o ha ho => ⟨s2 _ _ (s1 _ _ ho), ?_⟩) ev.tr
      rw [ins_ne (fun z => by rw [z, np] at ha; cases ha)]
      exact ha
/-- the object of slot i is written -/
theorem Mv.write {p : Addr} {o : HO} (ha : A p ≠ none) (mu : Mut (H p)) : Mv A A H (upd H p o) :=
  ⟨fun a o' e x => ⟨by rw [upd_ne (fun z => ha (by rw [← z]; exact x))]; exact e, x⟩, fun a xs e => by rw [upd_ne (fun z => by rw [← z, e] at mu; exact mu)]; exact e, fun a o' u e => by rw [upd_ne (fun z => by rw [← z, e] at mu; exact mu)]; exact e⟩
theorem EV.write' {i : Nat} {p : Addr} {x : Sl} {o : HO} (ev : EV A κ ρ σ H) (hi : i < ρ.length) (ha : A p = some (i + 1)) (mu : Mut (H p)) (new : SlOk A (i + 1) κ (upd H p o) x σ[i]?) :
    EV A κ (ρ.set i x) σ (upd H p o) := by
  have ha' : A p ≠ none := by rw [ha]; exact fun z => by cases z
  refine ⟨by rw [List.length_set, ev.len], fun a h => ?_, fun j => ?_⟩
  · by_cases e : a = p
    · rw [e]; exact ⟨_, upd_same⟩
    · rw [upd_ne e]; exact ev.tr a h
  · by_cases e : i = j
    · subst e
      rw [getD_set_same hi]
      exact new
    · rw [getD_set_ne e]
      refine (ev.sl j).mv (Mv.write ha' mu) (fun k hk a o' h1 h2 => ⟨?_, h1⟩) ev.tr
      rw [upd_ne (fun z => by rw [z, ha] at h1; cases h1; rcases hk with hk | hk <;> omega)]
      exact h2
end

inductive SlLe : Sl → Sl → Prop
  | no (s : Sl) : SlLe .no s
  | eq (s : Sl) : SlLe s s
  | fr (d : PyData) : SlLe (.fz d) (.ow d)
  | fd (kvs : List (PyData × List PyData)) : SlLe (.fz (.dict (kvs.map fun p => (p.1, .list p.2)))) (.od kvs)
  | fl (rows : List (List PyData)) : SlLe (.fz (.list (rows.map .list))) (.ol rows)
theorem SlLe.inv {a b : Sl} (h : SlLe a b) : a = .no ∨ a = b ∨ (∃ d, a = .fz d ∧ b = .ow d) ∨ (∃ kvs : List (PyData × List PyData), a = .fz (.dict (kvs.map fun p => (p.1, .list p.2))) ∧ b = .od kvs) ∨ ∃ rows : List (List PyData), a = .fz (.list (rows.map .list)) ∧ b = .ol rows := by
  cases h with
  | no => exact .inl rfl
  | eq => exact .inr (.inl rfl)
  | fr d => exact .inr (.inr (.inl ⟨d, rfl, rfl⟩))
  | fd k => exact .inr (.inr (.inr (.inl ⟨k, rfl, rfl⟩)))
  | fl k => exact .inr (.inr (.inr (.inr ⟨k, rfl, rfl⟩)))
inductive Le : List Sl → List Sl → Prop
  | nil : Le [] []
  | cons {a b : Sl} {l m : List Sl} : SlLe a b → Le l m → Le (a :: l) (b :: m)
theorem Le.refl : ∀ l : List Sl, Le l l
  | [] => .nil
  | s :: l => .cons (.eq s) (Le.refl l)
theorem Le.len : ∀ {l m : List Sl}, Le l m → l.length = m.length
  | _, _, .nil => rfl
  | _, _, .cons _ t => by rw [List.length_cons, List.length_cons, Le.len t]
theorem Le.at : ∀ {l m : List Sl} (i : Nat), Le l m → SlLe (l.getD i .no) (m.getD i .no)
  | _, _, i, .nil => by simp [List.getD]; exact .no _
  | _, _, 0, .cons r _ => r
  | _, _, i + 1, .cons _ t => by simpa [List.getD] using Le.at i t
theorem Le.n {l m : List Sl} {s : Sl} (h : Le l m) : Le (.no :: l) (s :: m) := .cons (.no s) h
theorem Le.e {l m : List Sl} {s : Sl} (h : Le l m) : Le (s :: l) (s :: m) := .cons (.eq s) h
theorem Le.d {l m : List Sl} {kvs : List (PyData × List PyData)} (h : Le l m) : Le (.fz (.dict (kvs.map fun p => (p.1, .list p.2))) :: l) (.od kvs :: m) := .cons (.fd kvs) h
theorem Le.l {l m : List Sl} {rows : List (List PyData)} (h : Le l m) : Le (.fz (.list (rows.map .list)) :: l) (.ol rows :: m) := .cons (.fl rows) h
theorem Le.f {l m : List Sl} {d : PyData} (h : Le l m) : Le (.fz d :: l) (.ow d :: m) := .cons (.fr d) h
/-- what stands frozen beside the slots -/
inductive GItem where
  | rep (v : V) (d : PyData)
  | pin (a : Addr) (o : HO)
abbrev Gs := List GItem
def GOk (A : Ow) (κ : Kx) (H : Hp) : GItem → Prop
  | .rep v d => Rep A κ H v d
  | .pin a o => H a = some o ∧ A a = none
def GsOk (A : Ow) (κ : Kx) (H : Hp) (γ : Gs) : Prop := ∀ g ∈ γ, GOk A κ H g
theorem GOk.mv {A A' : Ow} {κ : Kx} {H H' : Hp} (m : Mv A A' H H') : ∀ {g : GItem}, GOk A κ H g → GOk A' κ H' g
  | .rep v d, h => Rep.mv m h
  | .pin a o, h => m.free a o h.1 h.2
theorem GsOk.mv {A A' : Ow} {κ : Kx} {H H' : Hp} {γ : Gs} (h : GsOk A κ H γ) (m : Mv A A' H H') : GsOk A' κ H' γ := fun g hg => (h g hg).mv m
theorem GsOk.app {A : Ow} {κ : Kx} {H : Hp} {γ δ : Gs} (h : GsOk A κ H γ) (k : GsOk A κ H δ) : GsOk A κ H (γ ++ δ) := fun g hg => (List.mem_append.mp hg).elim (h g) (k g)
/-- the state of a def's body: A0 and H0 as at the entry -/
structure ERA (A A0 : Ow) (H0 : Hp) (κ : Kx) (γ : Gs) (ρ : List Sl) (σ : L2.St) (H : Hp) : Prop where
  ev : EV A κ ρ σ H
  gs : GsOk A κ H γ
  sub : ∀ a, A a = none → A0 a = none
  same : Same H0 H
  new : ∀ a n, A a = some (n + 1) → H0 a = none
  t0 : ∀ a, A0 a ≠ none → ∃ o, H0 a = some o
def ER (A0 : Ow) (H0 : Hp) (κ : Kx) (γ : Gs) (ρ : List Sl) (σ : L2.St) (H : Hp) : Prop := ∃ A, ERA A A0 H0 κ γ ρ σ H
section
variable {A A0 : Ow} {H0 : Hp} {κ : Kx} {γ : Gs} {ρ ρ' : List Sl} {σ : L2.St} {H H' : Hp}
theorem ERA.same' (h : ERA A A0 H0 κ γ ρ σ H) (s : Same H H') : ERA A A0 H0 κ γ ρ σ H' :=
  ⟨h.ev.same s, h.gs.mv (.same s), h.sub, h.same.trans s, h.new, h.t0⟩
theorem ownD_rep {n : Nat} {p : Addr} {kvs : List (PyData × List PyData)} {A' : Ow} (m : Mv A A' H H) (hn : ∀ a, A a = some n → A' a = none) (hp : A p = some n) : OwnD A n κ H p kvs → Rep A' κ H (.ref p) (.dict (kvs.map fun p => (p.1, .list p.2)))
  | ⟨xs, qs, h1, h2, h3, h4, h5, h6, h7⟩ => by
    refine .dic h1 (hn p hp) ?_ ?_ ?_ fun q hq => ?_
    · rw [List.map_map]
      exact h2.mv m
    · rw [h4, List.map_map]
      clear h2 h3 h4 h5 h7
      induction h6 with
      | nil => exact .nil
      | cons a t ih =>
        obtain ⟨a, vs, b, c⟩ := a
        exact .cons (.lst b (hn _ a) (c.mv m)) ih
    · rw [h3, List.map_map]
      rfl
    · obtain ⟨z, hz, rfl⟩ := List.mem_map.mp hq
      exact h7 z hz
theorem ownL_rep {n : Nat} {p : Addr} {rows : List (List PyData)} {A' : Ow} (m : Mv A A' H H) (hn : ∀ a, A a = some n → A' a = none) (hp : A p = some n) : OwnL A n κ H p rows → Rep A' κ H (.ref p) (.list (rows.map .list))
  | ⟨qs, h1, h2, h3, h4⟩ => by
    refine .lst h1 (hn p hp) ?_
    clear h1 h2 h3
    induction h4 with
    | nil => exact .nil
    | cons a t ih =>
      obtain ⟨a, vs, b, c⟩ := a
      exact .cons (.lst b (hn _ a) (c.mv m)) ih
theorem ERA.le (h : ERA A A0 H0 κ γ ρ σ H) (l : Le ρ' ρ) : ER A0 H0 κ γ ρ' σ H := by
  -- the slots whose things are handed on
  let fr : Nat → Prop := fun n => ∃ i d, n = i + 1 ∧ ρ'.getD i .no = .fz d
  open Classical in
  let A' : Ow := fun a => match A a with
    | none => none
    | some n => if fr n then none else some n
  have hn : ∀ a, A a = none → A' a = none := fun a e => by
    show (match A a with | none => none | some n => if fr n then none else some n) = none
    rw [e]
  have hf : ∀ a n, A a = some n → fr n → A' a = none := fun a n e f => by
    show (match A a with | none => none | some n => if fr n then none else some n) = none
    rw [e]
    exact if_pos f
  have hk : ∀ a n, A a = some n → ¬ fr n → A' a = some n := fun a n e f => by
    show (match A a with | none => none | some n => if fr n then none else some n) = some n
    rw [e]
    exact if_neg f
  have nz : ¬ fr 0 := fun ⟨i, d, e, _⟩ => by omega
  have back : ∀ a n, A' a = some n → A a = some n := fun a n e => by
    cases e2 : A a with
    | none => rw [hn a e2] at e; cases e
    | some k =>
      by_cases f : fr k
      · rw [hf a k e2 f] at e; cases e
      · rw [hk a k e2 f] at e; exact e
  have m : Mv A A' H H := Mv.less hn
  refine ⟨A', ⟨⟨by rw [l.len]; exact h.ev.len, fun a x => h.ev.tr a fun z => x (hn a z), fun i => ?_⟩, h.gs.mv m, fun a e => ?_, h.same, fun a n e => h.new a n (back a _ e), h.t0⟩⟩
  · have z := h.ev.sl i
    have w := l.at i
    have nf : ∀ {s : Sl}, ρ'.getD i .no = s → (∀ d, s ≠ .fz d) → ¬ fr (i + 1) := fun e ns ⟨j, d, e1, e2⟩ => by
      cases e1
      exact ns d (e.symm.trans e2)
    generalize e2 : ρ.getD i .no = s2 at z w
    generalize e1 : ρ'.getD i .no = s1 at w nf ⊢
    rcases w.inv with rfl | rfl | ⟨d, rfl, rfl⟩ | ⟨kvs, rfl, rfl⟩ | ⟨rows, rfl, rfl⟩
    · trivial
    · cases s1 with
      | no => trivial
      | fz d => obtain ⟨v, e, r⟩ := z; exact ⟨v, e, r.mv m⟩
      | ow d => exact z.mv m (fun k hk' a o ha ho => ⟨ho, hk a _ ha (hk'.elim (fun q => q ▸ nf rfl fun d e => by cases e) fun q => q ▸ nz)⟩) h.ev.tr
      | od d => exact z.mv m (fun k hk' a o ha ho => ⟨ho, hk a _ ha (hk'.elim (fun q => q ▸ nf rfl fun d e => by cases e) fun q => q ▸ nz)⟩) h.ev.tr
      | pd d => exact z.mv m (fun k hk' a o ha ho => ⟨ho, hk a _ ha (hk'.elim (fun q => q ▸ nf rfl fun d e => by cases e) fun q => q ▸ nz)⟩) h.ev.tr
      | ol d => exact z.mv m (fun k hk' a o ha ho => ⟨ho, hk a _ ha (hk'.elim (fun q => q ▸ nf rfl fun d e => by cases e) fun q => q ▸ nz)⟩) h.ev.tr
      | ex d => exact z
      | ob p C fl => exact z.mv m (fun k hk' a o ha ho => ⟨ho, hk a _ ha (hk'.elim (fun q => q ▸ nf rfl fun d e => by cases e) fun q => q ▸ nz)⟩) h.ev.tr
      | oz C fl => exact z.mv m (fun k hk' a o ha ho => ⟨ho, hk a _ ha (hk'.elim (fun q => q ▸ nf rfl fun d e => by cases e) fun q => q ▸ nz)⟩) h.ev.tr
    · obtain ⟨p, e, ha, o⟩ := z
      exact ⟨.ref p, e, (o.mv m fun _ z => z).rep (hf p _ ha ⟨i, d, rfl, e1⟩)⟩
    · obtain ⟨p, e, ha, o⟩ := z
      exact ⟨.ref p, e, ownD_rep m (fun a ha => hf a _ ha ⟨i, _, rfl, e1⟩) ha o⟩
    · obtain ⟨p, e, ha, o⟩ := z
      exact ⟨.ref p, e, ownL_rep m (fun a ha => hf a _ ha ⟨i, _, rfl, e1⟩) ha o⟩
  · cases e2 : A a with
    | none => exact h.sub a e2
    | some k =>
      by_cases f : fr k
      · obtain ⟨i, d, rfl, _⟩ := f
        have := h.new a i e2
        cases e3 : A0 a with
        | none => rfl
        | some j =>
          obtain ⟨o, e4⟩ := h.t0 a (by rw [e3]; exact fun z => by cases z)
          rw [this] at e4
          cases e4
      · rw [hk a k e2 f] at e; cases e
theorem ERA.set_fz {i : Nat} {v : V} {d : PyData} (h : ERA A A0 H0 κ γ ρ σ H) (r : Rep A κ H v d) : ERA A A0 H0 κ γ (ρ.set i (.fz d)) (σ.set i (some v)) H :=
  ⟨h.ev.set_fz r, h.gs, h.sub, h.same, h.new, h.t0⟩
theorem own_there {p : Addr} {d : PyData} {H : Hp} (h : Own A κ H p d) : ∃ o, H p = some o := by
  cases d with
  | list ds => obtain ⟨xs, e, _⟩ := h; exact ⟨_, e⟩
  | dict ds => obtain ⟨xs, ⟨ep, e⟩, _⟩ := h; exact ⟨_, e⟩
  | _ => exact h.elim
theorem Own.relab {p : Addr} {d : PyData} {k j : Nat} {q : Addr} {H : Hp} (h : Own (ins A q k) κ H p d) : Own (ins A q j) κ H p d := by
  refine h.mv (.less fun a e => ?_) fun _ e => e
  by_cases z : a = q
  · rw [z, ins_same] at e; cases e
  · rw [ins_ne z] at e ⊢; exact e
theorem ERA.ins {i : Nat} {p : Addr} {H1 H' : Hp} {ρ' : List Sl} {σ' : L2.St} (h : ERA A A0 H0 κ γ ρ σ H) (s1 : Same H H1) (n : H1 p = none) (s2 : Same H1 H') (ev : EV (ins A p (i + 1)) κ ρ' σ' H') : ERA (ins A p (i + 1)) A0 H0 κ γ ρ' σ' H' := by
  have np : H0 p = none := (h.same.trans s1).free n
  refine ⟨ev, h.gs.mv (.ins s1 n s2), fun a e => ?_, h.same.trans (s1.trans s2), fun a m e => ?_, h.t0⟩
  · by_cases z : a = p
    · rw [z, ins_same] at e; cases e
    · rw [ins_ne z] at e; exact h.sub a e
  · by_cases z : a = p
    · rw [z]; exact np
    · rw [ins_ne z] at e; exact h.new a m e
theorem ERA.set_ow {i : Nat} {p : Addr} {d : PyData} {H1 H' : Hp} (h : ERA A A0 H0 κ γ ρ σ H) (s1 : Same H H1) (n : H1 p = none) (s2 : Same H1 H') (o : Own (Dt.ins A p 0) κ H' p d) :
    ER A0 H0 κ γ (ρ.set i (.ow d)) (σ.set i (some (V.ref p))) H' :=
  ⟨_, h.ins s1 n s2 (h.ev.set_ow s1 n s2 (own_there o) o.relab)⟩
theorem ERA.write' {i : Nat} {p : Addr} {x : Sl} {o : HO} (h : ERA A A0 H0 κ γ ρ σ H) (hi : i < ρ.length) (ha : A p = some (i + 1)) (mu : Mut (H p)) (new : SlOk A (i + 1) κ (upd H p o) x σ[i]?) :
    ERA A A0 H0 κ γ (ρ.set i x) σ (upd H p o) := by
  have ha' : A p ≠ none := by rw [ha]; exact fun z => by cases z
  refine ⟨h.ev.write' hi ha mu new, h.gs.mv (Mv.write ha' mu), h.sub, fun b x e => ?_, h.new, h.t0⟩
  rw [upd_ne (ne_of_none e (h.new p i ha))]
  exact h.same _ _ e
theorem ERA.write {i : Nat} {p : Addr} {d d' : PyData} {o : HO} (h : ERA A A0 H0 κ γ ρ σ H) (hd : ρ.getD i .no = .ow d) (hp : σ[i]? = some (some (V.ref p))) (ha : A p = some (i + 1)) (mu : Mut (H p)) (new : Own A κ (upd H p o) p d') :
    ER A0 H0 κ γ (ρ.set i (.ow d')) σ (upd H p o) :=
  ⟨_, h.write' (getD_lt hd (fun z => by cases z)) ha mu ⟨p, hp, ha, new⟩⟩
theorem ER.le (h : ER A0 H0 κ γ ρ σ H) (l : Le ρ' ρ) : ER A0 H0 κ γ ρ' σ H := let ⟨_, h⟩ := h; h.le l
end

inductive Out (α : Type) where
  | nx (a : α)
  | rt (d : PyData)
def OkS {α : Type} (X : Cx) (A0 : Ow) (H0 : Hp) (γ : Gs) (sh : α → List Sl) (D : Ends) : Out α → Prop
  | .nx a => ∀ σ' H', ER A0 H0 (kx X) γ (sh a) σ' H' → D.nx σ' H'
  | .rt d => ∀ v H', Same H0 H' → Rep A0 (kx X) H' v d → D.rt v H'
def WSs (X : Cx) (s : List Stmt) : TS := fun D σ H => ∃ t, PSs X s t ∧ t D σ H
theorem wss_ok {X : Cx} {s : List Stmt} : PSs X s (WSs X s) := ⟨fun pins s σ H D I ⟨t, h, q⟩ => h.run pins s σ H D I q⟩
def WG (X : Cx) (tg : Expr) : TG := fun v σ H Q => ∃ g, PG X tg g ∧ g v σ H Q
theorem wg_ok {X : Cx} {tg : Expr} : PG X tg (WG X tg) := ⟨fun pins s σ H v u Q I r ⟨t, h, q⟩ => h.run pins s σ H v u Q I r q⟩
def WI (X : Cx) (tg iter : Expr) : TI := fun σ H R => ∃ wi, PI X tg iter wi ∧ wi σ H R
theorem wi_ok {X : Cx} {tg iter : Expr} : PI X tg iter (WI X tg iter) := ⟨fun pins s σ H R I ⟨t, h, q⟩ => h.run pins s σ H R I q⟩
theorem wss_cons {X : Cx} {st : Stmt} {rest : List Stmt} {t : TS} {D : Ends} {σ : L2.St} {H : Hp} (h : PS X st t) (q : t { D with nx := WSs X rest D } σ H) : WSs X (st :: rest) D σ H :=
  ⟨_, pss_cons h wss_ok, q⟩
def GSs {α : Type} (X : Cx) (E : XK) (ss : List Stmt) (ρ : List Sl) (sh : α → List Sl) (r : Res (Out α)) : Prop :=
  ∀ A0 H0 γ σ H D, ER A0 H0 (kx X) γ ρ σ H → PostR X E H0 r (OkS X A0 H0 γ sh D) → WSs X ss D σ H
/-- what follows -/
def seqR {α β : Type} (r : Res (Out α)) (k : α → Res (Out β)) : Res (Out β) := r >>= fun o => match o with
  | .nx a => k a
  | .rt d => .ok (.rt d)
@[simp] theorem seqR_nx {α β : Type} (a : α) (k : α → Res (Out β)) : seqR (.ok (.nx a)) k = k a := rfl
@[simp] theorem seqR_rt {α β : Type} (d : PyData) (k : α → Res (Out β)) : seqR (.ok (.rt d)) k = .ok (.rt d) := rfl
@[simp] theorem seqR_err {α β : Type} (c : Str) (k : α → Res (Out β)) : seqR (.err c) k = .err c := rfl
@[simp] theorem seqR_stuck {α β : Type} (k : α → Res (Out β)) : seqR .stuck k = .stuck := rfl
def forD {α : Type} : List PyData → α → (PyData → α → Res (Out α)) → Res (Out α)
  | [], a, _ => .ok (.nx a)
  | d :: ds, a, f => seqR (f d a) fun a' => forD ds a' f
section
variable {α β : Type} {X : Cx} {E : XK} {ρ ρ' : List Sl} {e a b c iter tg : Expr} {es : List Expr} {r ra rb rc : Res PyData} {rt : Res Bool} {ri : Res (List PyData)} {pos p' : Pos} {sh : α → List Sl} {sb : β → List Sl} {x : Str} {rest body : List Stmt}

theorem gss_nil (v : α) (l : Le (sh v) ρ) : GSs X E [] ρ sh (.ok (.nx v)) := fun A0 H0 γ σ H D er q => ⟨_, pss_nil, q σ H (er.le l)⟩
theorem gss_le {r : Res (Out α)} (l : Le ρ' ρ) (h : GSs X E rest ρ' sh r) : GSs X E rest ρ sh r := fun A0 H0 γ σ H D er q => h A0 H0 γ σ H D (er.le l) q
theorem gss_ret (h : GE X E e ρ r) : GSs X E (.Return (some e) pos :: rest) ρ sh (r >>= fun d => .ok (.rt d)) := fun A0 H0 γ σ H D er q => by
  obtain ⟨A, er⟩ := er
  refine wss_cons (ps_ret we_ok) ?_
  exact h A σ H _ er.ev (q.bind.imp er.same fun d qd v H1 s1 rv => qd v H1 (er.same.trans s1) (rv.mv (.less er.sub)))
/-- x = e -/
theorem gss_set {i : Nat} {k : PyData → Res (Out α)} (hN : X.N.Nodup) (h : GE X E e ρ r) (k' : ∀ d, GSs X E rest (ρ.set i (.fz d)) sh (k d)) (hi : X.N[i]? = some x := by rfl) (hx : Loc X.env.scope x := by first | exact .inl rfl | exact .inr rfl)
    (hs : swapsWith e (some (.Name x p')) pos.line X.env = pure false := by rfl) (hf : X.fn x = true ∨ X.env.scope.names.lookup x = some .local := by first | exact .inl rfl | exact .inr rfl) :
    GSs X E (.Assign [.Name x p'] e pos :: rest) ρ sh (r >>= k) := fun A0 H0 γ σ H D er q => by
  obtain ⟨A, er⟩ := er
  refine wss_cons (ps_set hN hi hx we_ok hs hf) ?_
  refine h A σ H _ er.ev (q.bind.imp er.same fun d qd v H1 s1 rv => ?_)
  exact k' d A0 H0 γ _ H1 D ⟨A, (er.same' s1).set_fz rv⟩ qd
/-- x = a new list -/
theorem gss_own {i : Nat} {k : List PyData → Res (Out α)} (hN : X.N.Nodup) (h : GO X E e ρ ri) (k' : ∀ d, GSs X E rest (ρ.set i (.ow (.list d))) sh (k d)) (hi : X.N[i]? = some x := by rfl) (hx : Loc X.env.scope x := by first | exact .inl rfl | exact .inr rfl)
    (hs : swapsWith e (some (.Name x p')) pos.line X.env = pure false := by rfl) (hf : X.fn x = true ∨ X.env.scope.names.lookup x = some .local := by first | exact .inl rfl | exact .inr rfl) :
    GSs X E (.Assign [.Name x p'] e pos :: rest) ρ sh (ri >>= k) := fun A0 H0 γ σ H D er q => by
  obtain ⟨A, er⟩ := er
  refine wss_cons (ps_set hN hi hx we_ok hs hf) ?_
  refine h A σ H _ er.ev (q.bind.imp er.same fun d qd p H1 H' s1 n s2 o => ?_)
  exact k' d A0 H0 γ _ H' D (er.set_ow s1 n s2 o) qd
/-- if t: a else: b -/
theorem gss_if {ra rb : Res (Out β)} {k : β → Res (Out α)} {ba bb : List Stmt} (ht : GT X E c ρ rt) (ha : GSs X E ba ρ sb ra) (hb : GSs X E bb ρ sb rb) (hk : ∀ j, GSs X E rest (sb j) sh (k j)) :
    GSs X E (.If c ba bb pos :: rest) ρ sh (rt >>= fun z => seqR (if z = true then ra else rb) k) := fun A0 H0 γ σ H D er q => by
  obtain ⟨A, er⟩ := er
  refine wss_cons (ps_if wt_ok wss_ok wss_ok) ?_
  refine ht A σ H _ er.ev (q.bind.imp er.same fun z qz H1 s1 => ?_)
  have er1 := er.same' s1
  have go : ∀ {r : Res (Out β)}, PostR X E H0 (seqR r k) (OkS X A0 H0 γ sh D) → PostR X E H0 r (OkS X A0 H0 γ sb { D with nx := WSs X rest D }) := fun {r} h => by
    refine (PostR.bind h).mono fun o qo => ?_
    cases o with
    | nx j => exact fun σ' H' er' => hk j A0 H0 γ σ' H' D er' qo
    | rt d => exact qo
  cases z with
  | true => exact iteT (ha A0 H0 γ σ H1 _ ⟨A, er1⟩ (go qz))
  | false => exact iteF (hb A0 H0 γ σ H1 _ ⟨A, er1⟩ (go qz))
/-- if t: a, which hands back -/
def retO {α : Type} : Out Empty → Out α
  | .rt d => .rt d
  | .nx a => nomatch a
def onlyR {α : Type} (r : Res (Out Empty)) : Res (Out α) := r >>= fun o => .ok (retO o)
@[simp] theorem onlyR_rt {α : Type} (d : PyData) : onlyR (α := α) (.ok (.rt d)) = .ok (.rt d) := rfl
@[simp] theorem onlyR_err {α : Type} (c : Str) : onlyR (α := α) (.err c) = .err c := rfl
@[simp] theorem onlyR_stuck {α : Type} : onlyR (α := α) .stuck = .stuck := rfl
theorem gss_if1 {ra : Res (Out Empty)} {rb : Res (Out α)} {se : Empty → List Sl} {ba : List Stmt} (ht : GT X E c ρ rt) (ha : GSs X E ba ρ se ra) (hb : GSs X E rest ρ sh rb) :
    GSs X E (.If c ba [] pos :: rest) ρ sh (rt >>= fun z => if z = true then onlyR ra else rb) := fun A0 H0 γ σ H D er q => by
  obtain ⟨A, er⟩ := er
  refine wss_cons (ps_if wt_ok wss_ok wss_ok) ?_
  refine ht A σ H _ er.ev (q.bind.imp er.same fun z qz H1 s1 => ?_)
  have er1 := er.same' s1
  cases z with
  | true =>
    refine iteT (ha A0 H0 γ σ H1 _ ⟨A, er1⟩ ((PostR.bind (show PostR X E H0 (onlyR ra) _ from qz)).mono fun o qo => ?_))
    cases o with
    | nx a => exact nomatch a
    | rt d => exact qo
  | false => exact iteF ⟨_, pss_nil, hb A0 H0 γ σ H1 D ⟨A, er1⟩ qz⟩
/-- an expression whose value is dropped -/
theorem gss_drop {k : Res (Out α)} (h : GW X E e ρ r) (hk : GSs X E rest ρ sh k) (hs : swapsWith e none pos.line X.env = pure false := by rfl) : GSs X E (.Expr e pos :: rest) ρ sh (r >>= fun _ => k) := fun A0 H0 γ σ H D er q => by
  obtain ⟨A, er⟩ := er
  refine wss_cons (ps_expr we_ok hs) ?_
  exact h A σ H _ er.ev (q.bind.imp er.same fun d qd v H1 s1 rv => hk A0 H0 γ σ H1 D ⟨A, er.same' s1⟩ qd)
def appR (ds : List PyData) (d : PyData) : Res (List PyData) := if ds.length < sizeLine then .ok (ds ++ [d]) else .stuck
def extR (ds : List PyData) : PyData → Res (List PyData)
  | .list es => if ds.length + es.length ≤ sizeLine then .ok (ds ++ es) else .stuck
  | _ => .stuck
theorem mut_lst {H : Hp} {p : Addr} {xs : List V} (h : H p = some (.lst xs)) : Mut (H p) := by rw [h]; exact trivial
theorem gss_append {i : Nat} {l : List PyData} {k : List PyData → Res (Out α)} {apos : Pos} {p : Pos} (hv : PE X (.Name x p) (tVar i)) (h : GE X E e ρ r) (k' : ∀ d, GSs X E rest (ρ.set i (.ow (.list d))) sh (k d)) (hd : ρ.getD i .no = .ow (.list l) := by rfl)
    (hbase : attributeBase (.Name x p) "append" X.env (eval (.Name x p) X.env) = eval (.Name x p) X.env := by rfl)
    (hfew : ((backTo pos (starEach (e :: []) X.env)).all (fun x => !x.1) && (backToKw pos (keywordEach [] X.env)).all (fun x => x.1.isSome)
      && decide ((e :: []).length + ([] : List Keyword).length + (if ([] : List Keyword).isEmpty then 0 else 1) < 30)) = true := by rfl)
    (hline : (apos.endLine == pos.line) = true := by rfl) (hs : starEach (e :: []) X.env = (false, eval e X.env) :: starEach [] X.env := by rfl) (hplain : (backTo pos (starEach [] X.env)).any (·.1) = false := by rfl)
    (hsw : swapsWith (.Call (.Attribute (.Name x p) "append" apos) [e] [] pos) none p'.line X.env = pure false := by rfl) :
    GSs X E (.Expr (.Call (.Attribute (.Name x p) "append" apos) [e] [] pos) p' :: rest) ρ sh (r >>= fun d => appR l d >>= k) := fun A0 H0 γ σ H D er q => by
  obtain ⟨A, er⟩ := er
  refine wss_cons (ps_expr (pe_bm PySem.F.plainAttrs_list PySem.F.slot_list_append PySem.F.type_list_append mt_append hv (pa_cons we_ok pa_nil hs) hbase hfew hline hs hplain) hsw) ?_
  have z := er.ev.sl i
  rw [hd] at z
  obtain ⟨a, e1, ha, xs, h1, h2⟩ := z
  refine ⟨.ref a, e1, .inl ⟨rfl, xs, .of h1⟩, ?_⟩
  refine h A σ H _ er.ev (q.bind.imp er.same fun d qd v H1 s1 rv => ?_)
  have h1' := s1 _ _ h1
  unfold appR at qd
  split at qd
  · rename_i hz
    refine ⟨a, xs, v, rfl, rfl, h1', by rw [h2.length]; exact hz, ?_⟩
    have m : Mv A A H1 (upd H1 a (.lst (xs ++ [v]))) := Mv.write (by rw [ha]; exact fun z => by cases z) (mut_lst h1')
    exact k' _ A0 H0 γ σ _ D ((er.same' s1).write hd e1 ha (mut_lst h1') ⟨_, upd_same, ((h2.same s1).append (.cons rv .nil)).mv m⟩) qd
  · exact qd.elim
/-- x[i] = e -/
def setR (ds : List PyData) (i d : PyData) : Res (List PyData) := match i with
  | .int k => match ixN ds.length k with
    | some j => .ok (ds.set j d)
    | none => .stuck
  | _ => .stuck

structure Wk (κ : Kx) (J : It) (δ : Gs) (ds : List PyData) : Prop where
  go : ∀ A i d H, Tr A H → GsOk A κ H δ → ds[i]? = some d → J.go i H ∧ ∀ x H', J.yld i H x H' → Same H H' ∧ Rep A κ H' x d
  stop : ∀ A i H, Tr A H → GsOk A κ H δ → ds.length ≤ i → J.stop i H
abbrev OkI (X : Cx) (A : Ow) (H : Hp) (R : It → Hp → Prop) (ds : List PyData) : Prop := ∀ J δ H', Same H H' → GsOk A (kx X) H' δ → Wk (kx X) J δ ds → R J H'
def GI (X : Cx) (E : XK) (tg iter : Expr) (ρ : List Sl) (r : Res (List PyData)) : Prop :=
  ∀ A σ H R, EV A (kx X) ρ σ H → PostR X E H r (OkI X A H R) → WI X tg iter σ H R
/-- the target, then the body -/
def GB {α : Type} (X : Cx) (E : XK) (tg : Expr) (body : List Stmt) (ρ : List Sl) (d : PyData) (sh : α → List Sl) (r : Res (Out α)) : Prop :=
  ∀ A A0 H0 γ σ H D v, ERA A A0 H0 (kx X) γ ρ σ H → Rep A (kx X) H v d → PostR X E H0 r (OkS X A0 H0 γ sh D) → WG X tg v σ H fun σ2 H2 => WSs X body D σ2 H2
theorem gb_name {i : Nat} {d : PyData} {r : Res (Out α)} (hN : X.N.Nodup) (h : GSs X E body (ρ.set i (.fz d)) sh r) (hi : X.N[i]? = some x := by rfl) (hx : Loc X.env.scope x := by first | exact .inl rfl | exact .inr rfl)
    (hf : X.fn x = true ∨ X.env.scope.names.lookup x = some .local := by first | exact .inl rfl | exact .inr rfl) : GB X E (.Name x pos) body ρ d sh r :=
  fun A A0 H0 γ σ H D v er rv q => ⟨_, pg_name hN hi hx hf, h A0 H0 γ _ H D ⟨A, er.set_fz rv⟩ q⟩
theorem gss_for {f : PyData → β → Res (Out β)} {k : β → Res (Out α)} (a0 : β) (hp : PassesOwn (model X.prog X.w) X.A X.env X.xe) (hc : X.calm = true) (hi : GI X E tg iter ρ ri) (hl : Le (sb a0) ρ)
    (hb : ∀ d a, GB X E tg body (sb a) d sb (f d a)) (hk : ∀ a, GSs X E rest (sb a) sh (k a)) (hs : ∀ x, foldedSetIterable iter X.env x = pure x := by intro _; rfl) :
    GSs X E (.For tg iter body [] pos :: rest) ρ sh (ri >>= fun ds => seqR (forD ds a0 f) k) := fun A0 H0 γ σ H D er q => by
  obtain ⟨A, er⟩ := er
  refine wss_cons (ps_for hp hc wi_ok wg_ok wss_ok hs) ?_
  refine hi A σ H _ er.ev (q.bind.imp er.same fun ds qd J δ H1 s1 gd wk => ?_)
  have er1 : ER A0 H0 (kx X) (γ ++ δ) (sb a0) σ H1 := by
    have e := er.same' s1
    exact ER.le ⟨A, e.ev, e.gs.app gd, e.sub, e.same, e.new, e.t0⟩ hl
  refine ⟨fun i m σ H => ∃ a, i + m = ds.length ∧ ER A0 H0 (kx X) (γ ++ δ) (sb a) σ H ∧ PostR X E H0 (seqR (forD (ds.drop i) a f) k) (OkS X A0 H0 γ sh D), ⟨ds.length, a0, Nat.zero_add _, er1, qd⟩, fun i m σ H2 ⟨a, em, er2, q2⟩ => ?_⟩
  obtain ⟨A2, er2⟩ := er2
  have gd2 : GsOk A2 (kx X) H2 δ := fun g hg => er2.gs g (List.mem_append_right _ hg)
  by_cases hi : i < ds.length
  · obtain ⟨go, yl⟩ := wk.go A2 i ds[i] H2 er2.ev.tr gd2 (List.getElem?_eq_getElem hi)
    refine .inr ⟨go, fun σ' H' => ∃ a', ER A0 H0 (kx X) (γ ++ δ) (sb a') σ' H' ∧ PostR X E H0 (seqR (forD (ds.drop (i + 1)) a' f) k) (OkS X A0 H0 γ sh D), fun σ' H' ⟨a', h1, h2⟩ => ⟨m - 1, by omega, a', by omega, h1, h2⟩, fun v H' hy => ?_⟩
    obtain ⟨s2, rv⟩ := yl v H' hy
    rw [List.drop_eq_getElem_cons hi] at q2
    have er3 := er2.same' s2
    have hb' := hb ds[i] a A2 A0 H0 (γ ++ δ) σ H' { D with nx := fun σ' H' => ∃ a', ER A0 H0 (kx X) (γ ++ δ) (sb a') σ' H' ∧ PostR X E H0 (seqR (forD (ds.drop (i + 1)) a' f) k) (OkS X A0 H0 γ sh D), ct := fun σ' H' => ∃ a', ER A0 H0 (kx X) (γ ++ δ) (sb a') σ' H' ∧ PostR X E H0 (seqR (forD (ds.drop (i + 1)) a' f) k) (OkS X A0 H0 γ sh D), bk := WSs X rest D } v er3 rv
    refine hb' ?_
    have q3 : PostR X E H0 (f ds[i] a) fun o => PostR X E H0 (seqR (match o with | .nx a' => forD (ds.drop (i + 1)) a' f | .rt d => .ok (.rt d)) k) (OkS X A0 H0 γ sh D) := by
      have z : seqR (forD (ds[i] :: ds.drop (i + 1)) a f) k = (f ds[i] a >>= fun o => seqR (match o with | .nx a' => forD (ds.drop (i + 1)) a' f | .rt d => .ok (.rt d)) k) := by
        show seqR (seqR (f ds[i] a) _) k = _
        cases f ds[i] a with
        | ok o => cases o <;> rfl
        | err c => rfl
        | stuck => rfl
      rw [z] at q2
      exact q2.bind
    refine q3.mono fun o qo => ?_
    cases o with
    | nx a' => exact fun σ' H' er' => ⟨a', er', qo⟩
    | rt d => exact qo
  · refine .inl ⟨wk.stop A2 i H2 er2.ev.tr gd2 (by omega), ?_⟩
    rw [List.drop_eq_nil_of_le (by omega)] at q2
    exact hk a A0 H0 γ σ H2 D ⟨A2, er2.ev, fun g hg => er2.gs g (List.mem_append_left _ hg), er2.sub, er2.same, er2.new, er2.t0⟩ q2
end
end Dt
namespace Dt
open PySem PySem.Spec PyProof.Rows L2
section
variable {α β : Type} {X : Cx} {E : XK} {ρ ρ' : List Sl} {e a b c iter tg : Expr} {es : List Expr} {r ra rb rc : Res PyData} {rt : Res Bool} {ri rs : Res (List PyData)} {pos p' : Pos} {sh : α → List Sl} {sb : β → List Sl} {x : Str} {rest body : List Stmt}

theorem gs_one {A : Ow} {κ : Kx} {H : Hp} {v : V} {d : PyData} (h : Rep A κ H v d) : GsOk A κ H [.rep v d] := fun g hg => by
  cases List.mem_singleton.mp hg
  exact h
theorem wk_list {κ : Kx} {p : Addr} {ds : List PyData} : Wk κ (Itl κ.K p) [.rep (.ref p) (.list ds)] ds where
  go := fun A i d H tr g e => by
    have h : Rep A κ H (.ref p) (.list ds) := g _ List.mem_cons_self
    cases h with
    | lst h1 h2 h3 =>
      obtain ⟨v, h4, h5⟩ := h3.get e
      refine ⟨⟨_, v, .of h1, h4⟩, fun x H' y => ?_⟩
      obtain ⟨rfl, y⟩ := y
      have z := y _ (.of h1)
      rw [h4] at z
      cases z
      exact ⟨Same.refl _, h5⟩
  stop := fun A i H tr g e => by
    have h : Rep A κ H (.ref p) (.list ds) := g _ List.mem_cons_self
    cases h with
    | lst h1 h2 h3 => exact ⟨_, .of h1, by rw [h3.length]; exact e⟩
theorem wk_tup {κ : Kx} {p : Addr} {ds : List PyData} : Wk κ (Itt κ.K p) [.rep (.ref p) (.tuple ds)] ds where
  go := fun A i d H tr g e => by
    have h : Rep A κ H (.ref p) (.tuple ds) := g _ List.mem_cons_self
    cases h with
    | tup h1 h3 =>
      obtain ⟨v, h4, h5⟩ := h3.get e
      refine ⟨⟨_, v, h1, h4⟩, fun x H' y => ?_⟩
      obtain ⟨rfl, y⟩ := y
      have z := y _ h1
      rw [h4] at z
      cases z
      exact ⟨Same.refl _, h5⟩
  stop := fun A i H tr g e => by
    have h : Rep A κ H (.ref p) (.tuple ds) := g _ List.mem_cons_self
    cases h with
    | tup h1 h3 => exact ⟨_, h1, by rw [h3.length]; exact e⟩
def rangeL (lo : Int) (n : Nat) : List PyData := (List.range n).map fun i => .int (lo + (i : Nat))
theorem wk_rng {κ : Kx} {lo : Int} {n : Nat} : Wk κ (Itr lo n) [] (rangeL lo n) where
  go := fun A i d H tr g e => by
    have h : i < n := by
      have := (List.getElem?_eq_some_iff.mp e).1
      simpa [rangeL] using this
    have e' : d = .int (lo + (i : Nat)) := by
      rw [rangeL, List.getElem?_map, List.getElem?_range h] at e
      exact (Option.some.inj e).symm
    subst e'
    refine ⟨h, fun x H' y => ?_⟩
    obtain ⟨rfl, rfl⟩ := y
    exact ⟨Same.refl _, .int _⟩
  stop := fun A i H tr g e => by
    rw [rangeL, List.length_map, List.length_range] at e
    exact e
def seqOf : PyData → Res (List PyData)
  | .list xs => .ok xs
  | .tuple xs => .ok xs
  | _ => .stuck
theorem gi_seq (h : GE X E iter ρ r) : GI X E tg iter ρ (r >>= seqOf) := fun A σ H R ev q => by
  cases r with
  | ok d =>
    cases d with
    | list ds =>
      refine ⟨_, pi_list we_ok, ?_⟩
      refine h A σ H _ ev fun v H1 s1 rv => ?_
      cases rv with
      | lst h1 h2 h3 => exact ⟨_, rfl, ⟨_, .of h1⟩, q _ _ H1 s1 (gs_one (.lst h1 h2 h3)) wk_list⟩
    | tuple ds =>
      refine ⟨_, pi_tup we_ok, ?_⟩
      refine h A σ H _ ev fun v H1 s1 rv => ?_
      cases rv with
      | tup h1 h2 => exact ⟨_, rfl, ⟨_, h1⟩, q _ _ H1 s1 (gs_one (.tup h1 h2)) wk_tup⟩
    | _ => exact q.elim
  | err c => exact ⟨_, pi_list we_ok, h A σ H _ ev q⟩
  | stuck => exact q.elim
def rng1 : List PyData → Res (List PyData)
  | [.int j] => if -(2 ^ 62) ≤ j ∧ j < 2 ^ 62 then .ok (rangeL 0 j.toNat) else .stuck
  | _ => .stuck
def rng2 : List PyData → Res (List PyData)
  | [.int i, .int j] => if (-(2 ^ 62) ≤ i ∧ i < 2 ^ 62) ∧ -(2 ^ 62) ≤ j ∧ j < 2 ^ 62 then .ok (rangeL i (j - i).toNat) else .stuck
  | _ => .stuck
theorem gi_rng1 {p : Pos} (hg : Gl X "range") (hm : X.mg "range" = none) (h : GA X E [a] ρ rs) (hs : starEach [a] X.env = [(false, eval a X.env)] := by rfl) : GI X E tg (.Call (.Name "range" p) [a] [] pos) ρ (rs >>= rng1) := fun A σ H R ev q => by
  refine ⟨_, pi_range1 hg hm wa_ok hs, ?_⟩
  refine h A σ H _ ev (q.bind.mono fun ds qd vs H1 s1 rv => ?_)
  unfold rng1 at qd
  split at qd
  · cases rv with
    | cons r1 t =>
      cases t
      cases r1
      split at qd
      · rename_i hz
        exact ⟨_, rfl, hz.1, hz.2, qd _ _ H1 s1 (fun g hg => by cases hg) wk_rng⟩
      · exact qd.elim
  · exact qd.elim
theorem gi_rng2 {p : Pos} (hg : Gl X "range") (hm : X.mg "range" = none) (h : GA X E [a, b] ρ rs) (hs : starEach [a, b] X.env = [(false, eval a X.env), (false, eval b X.env)] := by rfl) (hs2 : starEach [b] X.env = [(false, eval b X.env)] := by rfl) : GI X E tg (.Call (.Name "range" p) [a, b] [] pos) ρ (rs >>= rng2) := fun A σ H R ev q => by
  refine ⟨_, pi_range2 hg hm wa_ok hs hs2, ?_⟩
  refine h A σ H _ ev (q.bind.mono fun ds qd vs H1 s1 rv => ?_)
  unfold rng2 at qd
  split at qd
  · cases rv with
    | cons r1 t =>
      cases t with
      | cons r2 t =>
        cases t
        cases r1
        cases r2
        split at qd
        · rename_i hz
          exact ⟨_, _, rfl, ⟨hz.1.1, hz.1.2, hz.2.1, hz.2.2⟩, qd _ _ H1 s1 (fun g hg => by cases hg) wk_rng⟩
        · exact qd.elim
  · exact qd.elim
def zipL (xs ys : List PyData) : List PyData := List.zipWith (fun x y => .tuple [x, y]) xs ys
def zip2 : List PyData → Res (List PyData)
  | [.list xs, .list ys] => .ok (zipL xs ys)
  | [.tuple xs, .tuple ys] => .ok (zipL xs ys)
  | _ => .stuck
theorem zipL_at {xs ys : List PyData} {i : Nat} {d : PyData} (h : (zipL xs ys)[i]? = some d) : ∃ x y, xs[i]? = some x ∧ ys[i]? = some y ∧ d = .tuple [x, y] := by
  rw [zipL, List.getElem?_zipWith] at h
  cases e1 : xs[i]? with
  | none => rw [e1] at h; cases h
  | some x =>
    cases e2 : ys[i]? with
    | none => rw [e1, e2] at h; cases h
    | some y =>
      rw [e1, e2] at h
      exact ⟨x, y, rfl, rfl, (Option.some.inj h).symm⟩
theorem zipL_len (xs ys : List PyData) : (zipL xs ys).length = min xs.length ys.length := by rw [zipL, List.length_zipWith]
theorem gs_two {A : Ow} {κ : Kx} {H : Hp} {v w : V} {d e : PyData} (h : Rep A κ H v d) (k : Rep A κ H w e) : GsOk A κ H [.rep v d, .rep w e] := fun g hg => by
  rcases List.mem_cons.mp hg with z | z
  · cases z; exact h
  · cases List.mem_singleton.mp z; exact k
theorem wk_zip {κ : Kx} {p q : Addr} {xs ys : List PyData} : Wk κ (Itz κ.K p q) [.rep (.ref p) (.list xs), .rep (.ref q) (.list ys)] (zipL xs ys) where
  go := fun A i d H tr g e => by
    obtain ⟨x, y, e1, e2, rfl⟩ := zipL_at e
    have h : Rep A κ H (.ref p) (.list xs) := g _ List.mem_cons_self
    have k : Rep A κ H (.ref q) (.list ys) := g _ (List.mem_cons_of_mem _ List.mem_cons_self)
    cases h with
    | lst h1 h2 h3 =>
      cases k with
      | lst k1 k2 k3 =>
        obtain ⟨v, h4, h5⟩ := h3.get e1
        obtain ⟨w, k4, k5⟩ := k3.get e2
        refine ⟨⟨_, _, v, w, .of h1, .of k1, h4, k4⟩, fun z H' y => ?_⟩
        obtain ⟨T, x', y', rfl, n, rfl, z1, z2⟩ := y
        have w1 := z1 _ (.of h1)
        have w2 := z2 _ (.of k1)
        rw [h4] at w1
        rw [k4] at w2
        cases w1
        cases w2
        exact ⟨same_new n, Rep.new_tup n (.cons h5 (.cons k5 .nil))⟩
  stop := fun A i H tr g e => by
    have h : Rep A κ H (.ref p) (.list xs) := g _ List.mem_cons_self
    have k : Rep A κ H (.ref q) (.list ys) := g _ (List.mem_cons_of_mem _ List.mem_cons_self)
    cases h with
    | lst h1 h2 h3 =>
      cases k with
      | lst k1 k2 k3 =>
        refine ⟨_, _, .of h1, .of k1, ?_⟩
        rw [h3.length, k3.length]
        rw [zipL_len] at e
        omega
theorem wk_zipT {κ : Kx} {p q : Addr} {xs ys : List PyData} : Wk κ (RZ.ItzT κ.K p q) [.rep (.ref p) (.tuple xs), .rep (.ref q) (.tuple ys)] (zipL xs ys) where
  go := fun A i d H tr g e => by
    obtain ⟨x, y, e1, e2, rfl⟩ := zipL_at e
    have h : Rep A κ H (.ref p) (.tuple xs) := g _ List.mem_cons_self
    have k : Rep A κ H (.ref q) (.tuple ys) := g _ (List.mem_cons_of_mem _ List.mem_cons_self)
    cases h with
    | tup h1 h3 =>
      cases k with
      | tup k1 k3 =>
        obtain ⟨v, h4, h5⟩ := h3.get e1
        obtain ⟨w, k4, k5⟩ := k3.get e2
        refine ⟨⟨_, _, v, w, h1, k1, h4, k4⟩, fun z H' y => ?_⟩
        obtain ⟨T, x', y', rfl, n, rfl, z1, z2⟩ := y
        have w1 := z1 _ h1
        have w2 := z2 _ k1
        rw [h4] at w1
        rw [k4] at w2
        cases w1
        cases w2
        exact ⟨same_new n, Rep.new_tup n (.cons h5 (.cons k5 .nil))⟩
  stop := fun A i H tr g e => by
    have h : Rep A κ H (.ref p) (.tuple xs) := g _ List.mem_cons_self
    have k : Rep A κ H (.ref q) (.tuple ys) := g _ (List.mem_cons_of_mem _ List.mem_cons_self)
    cases h with
    | tup h1 h3 =>
      cases k with
      | tup k1 k3 =>
        refine ⟨_, _, h1, k1, ?_⟩
        rw [h3.length, k3.length]
        rw [zipL_len] at e
        omega
theorem gi_zip {p tpos : Pos} {elts : List Expr} {kk : Nat} (hg : Gl X "zip") (hm : X.mg "zip" = none) (h : GA X E [a, b] ρ rs)
    (hs : starEach [a, b] X.env = (false, eval a X.env) :: starEach [b] X.env := by rfl) (hpl : (backTo pos (starEach [b] X.env)).any (·.1) = false := by rfl) :
    GI X E (.Tuple elts kk tpos) (.Call (.Name "zip" p) [a, b] [] pos) ρ (rs >>= zip2) := fun A σ H R ev q => by
  refine ⟨_, RZ.pi_zipA hg hm wa_ok hs hpl, ?_⟩
  refine h A σ H _ ev (q.bind.mono fun ds qd vs H1 s1 rv => ?_)
  unfold zip2 at qd
  split at qd
  · cases rv with
    | cons r1 t =>
      cases t with
      | cons r2 t =>
        cases t
        cases r1 with
        | lst h1 h2 h3 =>
          cases r2 with
          | lst k1 k2 k3 => exact ⟨_, _, _, _, rfl, .inl ⟨.of h1, .of k1, qd _ _ H1 s1 (gs_two (.lst h1 h2 h3) (.lst k1 k2 k3)) wk_zip⟩⟩
  · cases rv with
    | cons r1 t =>
      cases t with
      | cons r2 t =>
        cases t
        cases r1 with
        | tup h1 h3 =>
          cases r2 with
          | tup k1 k3 => exact ⟨_, _, _, _, rfl, .inr ⟨h1, k1, qd _ _ H1 s1 (gs_two (.tup h1 h3) (.tup k1 k3)) wk_zipT⟩⟩
  · exact qd.elim
def enumL (xs : List PyData) : List PyData := xs.mapIdx fun i x => .tuple [.int (i : Nat), x]
theorem enumL_at {xs : List PyData} {i : Nat} {d : PyData} (h : (enumL xs)[i]? = some d) : ∃ x, xs[i]? = some x ∧ d = .tuple [.int (i : Nat), x] := by
  rw [enumL, List.getElem?_mapIdx] at h
  cases e1 : xs[i]? with
  | none => rw [e1] at h; cases h
  | some x =>
    rw [e1] at h
    exact ⟨x, rfl, (Option.some.inj h).symm⟩
theorem wk_enum {κ : Kx} {p : Addr} {xs : List PyData} : Wk κ (Ite κ.K p) [.rep (.ref p) (.list xs)] (enumL xs) where
  go := fun A i d H tr g e => by
    obtain ⟨x, e1, rfl⟩ := enumL_at e
    have h : Rep A κ H (.ref p) (.list xs) := g _ List.mem_cons_self
    cases h with
    | lst h1 h2 h3 =>
      obtain ⟨v, h4, h5⟩ := h3.get e1
      refine ⟨⟨_, v, .of h1, h4⟩, fun z H' y => ?_⟩
      obtain ⟨T, x', rfl, n, rfl, z1⟩ := y
      have w1 := z1 _ (.of h1)
      rw [h4] at w1
      cases w1
      exact ⟨same_new n, Rep.new_tup n (.cons (.int _) (.cons h5 .nil))⟩
  stop := fun A i H tr g e => by
    have h : Rep A κ H (.ref p) (.list xs) := g _ List.mem_cons_self
    cases h with
    | lst h1 h2 h3 => exact ⟨_, .of h1, by rw [h3.length]; simpa [enumL] using e⟩
def unp2 {γ : Type} (d : PyData) (k : PyData → PyData → Res γ) : Res γ := match d with
  | .tuple [a, b] => k a b
  | _ => .stuck
def unp3 {γ : Type} (d : PyData) (k : PyData → PyData → PyData → Res γ) : Res γ := match d with
  | .tuple [a, b, c] => k a b c
  | _ => .stuck
def unp4 {γ : Type} (d : PyData) (k : PyData → PyData → PyData → PyData → Res γ) : Res γ := match d with
  | .tuple [a, b, c, e] => k a b c e
  | _ => .stuck
def unp5 {γ : Type} (d : PyData) (k : PyData → PyData → PyData → PyData → PyData → Res γ) : Res γ := match d with
  | .tuple [a, b, c, e, f] => k a b c e f
  | _ => .stuck
@[simp] theorem unp2_mk {γ : Type} (a b : PyData) (k : PyData → PyData → Res γ) : unp2 (.tuple [a, b]) k = k a b := rfl
@[simp] theorem unp3_mk {γ : Type} (a b c : PyData) (k : PyData → PyData → PyData → Res γ) : unp3 (.tuple [a, b, c]) k = k a b c := rfl
@[simp] theorem unp4_mk {γ : Type} (a b c e : PyData) (k : PyData → PyData → PyData → PyData → Res γ) : unp4 (.tuple [a, b, c, e]) k = k a b c e := rfl
@[simp] theorem unp5_mk {γ : Type} (a b c e f : PyData) (k : PyData → PyData → PyData → PyData → PyData → Res γ) : unp5 (.tuple [a, b, c, e, f]) k = k a b c e f := rfl
/-- a target: what the slots are behind it -/
def GG (X : Cx) (tg : Expr) (ds : List PyData) (ρ ρ' : List Sl) : Prop :=
  ∀ A A0 H0 γ σ H Q v, ERA A A0 H0 (kx X) γ ρ σ H → Rep A (kx X) H v (.tuple ds) → (∀ σ', ERA A A0 H0 (kx X) γ ρ' σ' H → Q σ' H) → WG X tg v σ H Q
/-- the target in a comprehension's block -/
inductive Bs (X : Cx) : List Expr → List PyData → List Sl → List Sl → Prop
  | nil {ρ : List Sl} : Bs X [] [] ρ ρ
  | cons {i : Nat} {x : Str} {p : Pos} {es : List Expr} {d : PyData} {ds : List PyData} {ρ ρ' : List Sl} (hi : X.N[i]? = some x) (hx : Loc X.env.scope x) (hf : X.fn x = true ∨ X.env.scope.names.lookup x = some .local) :
      Bs X es ds (ρ.set i (.fz d)) ρ' → Bs X (.Name x p :: es) (d :: ds) ρ ρ'
def WGs (X : Cx) (es : List Expr) : TGs := fun vs σ H Q => ∃ t, PGs X es t ∧ t vs σ H Q
theorem wgs_ok {X : Cx} {es : List Expr} : PGs X es (WGs X es) := ⟨fun pins s σ H vs us Q I r ⟨t, h, q⟩ => h.run pins s σ H vs us Q I r q⟩
theorem bs_run {A A0 : Ow} {H0 : Hp} {γ : Gs} {H : Hp} {Q : L2.St → Hp → Prop} (hN : X.N.Nodup) : ∀ {es : List Expr} {ds : List PyData} {ρ ρ' : List Sl} {σ : L2.St} {vs : List V}, Bs X es ds ρ ρ' → ERA A A0 H0 (kx X) γ ρ σ H → Reps A (kx X) H vs ds →
    (∀ σ', ERA A A0 H0 (kx X) γ ρ' σ' H → Q σ' H) → WGs X es vs σ H Q
  | _, _, _, _, σ, _, .nil, er, .nil, q => ⟨_, pgs_nil, rfl, q σ er⟩
  | _, _, _, _, σ, _, .cons hi hx hf t, er, .cons r rs, q => ⟨_, pgs_cons (pg_name hN hi hx hf) wgs_ok, _, _, rfl, bs_run hN t (er.set_fz r) rs q⟩
theorem tup_go {ds : List PyData} {r : Res (Out α)} {kt : Nat} (hN : X.N.Nodup) (hc : X.calm = true) (hn : (assignEach es X.env).length = ds.length) (hst : (assignEach es X.env).findIdx? (·.1) = none) (b : Bs X es ds ρ ρ') (h : GSs X E body ρ' sh r) :
    GB X E (.Tuple es kt pos) body ρ (.tuple ds) sh r := fun A A0 H0 γ σ H D v er rv q => by
  cases rv with
  | tup h1 h2 => exact ⟨_, pg_tup hc wgs_ok hn hst, _, _, rfl, h1, by rw [h2.length], bs_run hN b er h2 fun σ' er' => h A0 H0 γ σ' H D ⟨A, er'⟩ q⟩
theorem gb_tup2 {d : PyData} {i j : Nat} {x y : Str} {px py : Pos} {kt : Nat} {k : PyData → PyData → Res (Out α)} (hN : X.N.Nodup) (hc : X.calm = true) (h : ∀ a b, GSs X E body ((ρ.set i (.fz a)).set j (.fz b)) sh (k a b))
    (hi : X.N[i]? = some x := by rfl) (hj : X.N[j]? = some y := by rfl) (hx : Loc X.env.scope x := by first | exact .inl rfl | exact .inr rfl) (hy : Loc X.env.scope y := by first | exact .inl rfl | exact .inr rfl)
    (hf : X.fn x = true ∨ X.env.scope.names.lookup x = some .local := by first | exact .inl rfl | exact .inr rfl) (hg : X.fn y = true ∨ X.env.scope.names.lookup y = some .local := by first | exact .inl rfl | exact .inr rfl)
    (hn : (assignEach [.Name x px, .Name y py] X.env).length = 2 := by rfl) (hst : (assignEach [.Name x px, .Name y py] X.env).findIdx? (·.1) = none := by rfl) :
    GB X E (.Tuple [.Name x px, .Name y py] kt pos) body ρ d sh (unp2 d k) := fun A A0 H0 γ σ H D v er rv q => by
  unfold unp2 at q
  split at q
  · exact tup_go hN hc hn hst (.cons hi hx hf (.cons hj hy hg .nil)) (h _ _) A A0 H0 γ σ H D v er rv q
  · exact q.elim
theorem gb_tup3 {d : PyData} {i j l : Nat} {x y z : Str} {px py pz : Pos} {kt : Nat} {k : PyData → PyData → PyData → Res (Out α)} (hN : X.N.Nodup) (hc : X.calm = true) (h : ∀ a b c, GSs X E body (((ρ.set i (.fz a)).set j (.fz b)).set l (.fz c)) sh (k a b c))
    (hi : X.N[i]? = some x := by rfl) (hj : X.N[j]? = some y := by rfl) (hl : X.N[l]? = some z := by rfl) (hx : Loc X.env.scope x := by first | exact .inl rfl | exact .inr rfl) (hy : Loc X.env.scope y := by first | exact .inl rfl | exact .inr rfl) (hz : Loc X.env.scope z := by first | exact .inl rfl | exact .inr rfl)
    (hf : X.fn x = true ∨ X.env.scope.names.lookup x = some .local := by first | exact .inl rfl | exact .inr rfl) (hg : X.fn y = true ∨ X.env.scope.names.lookup y = some .local := by first | exact .inl rfl | exact .inr rfl) (hh : X.fn z = true ∨ X.env.scope.names.lookup z = some .local := by first | exact .inl rfl | exact .inr rfl)
    (hn : (assignEach [.Name x px, .Name y py, .Name z pz] X.env).length = 3 := by rfl) (hst : (assignEach [.Name x px, .Name y py, .Name z pz] X.env).findIdx? (·.1) = none := by rfl) :
    GB X E (.Tuple [.Name x px, .Name y py, .Name z pz] kt pos) body ρ d sh (unp3 d k) := fun A A0 H0 γ σ H D v er rv q => by
  unfold unp3 at q
  split at q
  · exact tup_go hN hc hn hst (.cons hi hx hf (.cons hj hy hg (.cons hl hz hh .nil))) (h _ _ _) A A0 H0 γ σ H D v er rv q
  · exact q.elim
theorem gb_tup4 {d : PyData} {i j l m : Nat} {x y z w : Str} {px py pz pw : Pos} {kt : Nat} {k : PyData → PyData → PyData → PyData → Res (Out α)} (hN : X.N.Nodup) (hc : X.calm = true) (h : ∀ a b c e, GSs X E body ((((ρ.set i (.fz a)).set j (.fz b)).set l (.fz c)).set m (.fz e)) sh (k a b c e))
    (hi : X.N[i]? = some x := by rfl) (hj : X.N[j]? = some y := by rfl) (hl : X.N[l]? = some z := by rfl) (hm : X.N[m]? = some w := by rfl) (hx : Loc X.env.scope x := by first | exact .inl rfl | exact .inr rfl) (hy : Loc X.env.scope y := by first | exact .inl rfl | exact .inr rfl) (hz : Loc X.env.scope z := by first | exact .inl rfl | exact .inr rfl) (hw : Loc X.env.scope w := by first | exact .inl rfl | exact .inr rfl)
    (hf : X.fn x = true ∨ X.env.scope.names.lookup x = some .local := by first | exact .inl rfl | exact .inr rfl) (hg : X.fn y = true ∨ X.env.scope.names.lookup y = some .local := by first | exact .inl rfl | exact .inr rfl) (hh : X.fn z = true ∨ X.env.scope.names.lookup z = some .local := by first | exact .inl rfl | exact .inr rfl) (hk : X.fn w = true ∨ X.env.scope.names.lookup w = some .local := by first | exact .inl rfl | exact .inr rfl)
    (hn : (assignEach [.Name x px, .Name y py, .Name z pz, .Name w pw] X.env).length = 4 := by rfl) (hst : (assignEach [.Name x px, .Name y py, .Name z pz, .Name w pw] X.env).findIdx? (·.1) = none := by rfl) :
    GB X E (.Tuple [.Name x px, .Name y py, .Name z pz, .Name w pw] kt pos) body ρ d sh (unp4 d k) := fun A A0 H0 γ σ H D v er rv q => by
  unfold unp4 at q
  split at q
  · exact tup_go hN hc hn hst (.cons hi hx hf (.cons hj hy hg (.cons hl hz hh (.cons hm hw hk .nil)))) (h _ _ _ _) A A0 H0 γ σ H D v er rv q
  · exact q.elim
theorem gb_tup5 {d : PyData} {i j l m n : Nat} {x y z w u : Str} {px py pz pw pu : Pos} {kt : Nat} {k : PyData → PyData → PyData → PyData → PyData → Res (Out α)} (hN : X.N.Nodup) (hc : X.calm = true) (h : ∀ a b c e f, GSs X E body (((((ρ.set i (.fz a)).set j (.fz b)).set l (.fz c)).set m (.fz e)).set n (.fz f)) sh (k a b c e f))
    (hi : X.N[i]? = some x := by rfl) (hj : X.N[j]? = some y := by rfl) (hl : X.N[l]? = some z := by rfl) (hm : X.N[m]? = some w := by rfl) (hn' : X.N[n]? = some u := by rfl) (hx : Loc X.env.scope x := by first | exact .inl rfl | exact .inr rfl) (hy : Loc X.env.scope y := by first | exact .inl rfl | exact .inr rfl) (hz : Loc X.env.scope z := by first | exact .inl rfl | exact .inr rfl) (hw : Loc X.env.scope w := by first | exact .inl rfl | exact .inr rfl) (hu : Loc X.env.scope u := by first | exact .inl rfl | exact .inr rfl)
    (hf : X.fn x = true ∨ X.env.scope.names.lookup x = some .local := by first | exact .inl rfl | exact .inr rfl) (hg : X.fn y = true ∨ X.env.scope.names.lookup y = some .local := by first | exact .inl rfl | exact .inr rfl) (hh : X.fn z = true ∨ X.env.scope.names.lookup z = some .local := by first | exact .inl rfl | exact .inr rfl) (hk : X.fn w = true ∨ X.env.scope.names.lookup w = some .local := by first | exact .inl rfl | exact .inr rfl) (hku : X.fn u = true ∨ X.env.scope.names.lookup u = some .local := by first | exact .inl rfl | exact .inr rfl)
    (hn : (assignEach [.Name x px, .Name y py, .Name z pz, .Name w pw, .Name u pu] X.env).length = 5 := by rfl) (hst : (assignEach [.Name x px, .Name y py, .Name z pz, .Name w pw, .Name u pu] X.env).findIdx? (·.1) = none := by rfl) :
    GB X E (.Tuple [.Name x px, .Name y py, .Name z pz, .Name w pw, .Name u pu] kt pos) body ρ d sh (unp5 d k) := fun A A0 H0 γ σ H D v er rv q => by
  unfold unp5 at q
  split at q
  · exact tup_go hN hc hn hst (.cons hi hx hf (.cons hj hy hg (.cons hl hz hh (.cons hm hw hk (.cons hn' hu hku .nil))))) (h _ _ _ _ _) A A0 H0 γ σ H D v er rv q
  · exact q.elim
/-- a, b = e -/
theorem gss_unp {r' : PyData → Res (Out α)} {kt : Nat} {es : List Expr} (h : GE X E e ρ r) (k : ∀ d, GB X E (.Tuple es kt p') rest ρ d sh (r' d)) (hs : swapsWithSole [.Tuple es kt p'] e pos.line X.env = pure false := by rfl) (hw : swappedStores [.Tuple es kt p'] e X.env = pure none := by rfl)
    (h1 : (assignEach [.Tuple es kt p'] X.env).map (·.2) = [assign (.Tuple es kt p') X.env] := by rfl) : GSs X E (.Assign [.Tuple es kt p'] e pos :: rest) ρ sh (r >>= r') := fun A0 H0 γ σ H D er q => by
  obtain ⟨A, er⟩ := er
  refine wss_cons (ps_asg we_ok wg_ok hs hw h1) ?_
  refine h A σ H _ er.ev (q.bind.imp er.same fun d qd v H1 s1 rv => ?_)
  exact k d A A0 H0 γ σ H1 D v (er.same' s1) rv qd

abbrev Blk (X : Cx) (scope : Scope) (s : Shared) (H : Hp) (C : Addr) (cl : List (Str × Addr)) (fp : List Addr) : Cx := X.blk s H scope (compEnvC scope cl C X.env) fp
/-- slots forgotten -/
def wipeR (ρ : List Sl) : List Nat → List Sl
  | [] => ρ
  | v :: vs => (wipeR ρ vs).set v .no
theorem wipeR_len (ρ : List Sl) : ∀ vs : List Nat, (wipeR ρ vs).length = ρ.length
  | [] => rfl
  | v :: vs => by unfold wipeR; rw [List.length_set, wipeR_len ρ vs]
theorem wipeR_at {ρ : List Sl} {i : Nat} : ∀ vs : List Nat, (wipeR ρ vs).getD i .no = .no ∨ ((wipeR ρ vs).getD i .no = ρ.getD i .no ∧ i ∉ vs)
  | [] => .inr ⟨rfl, by simp⟩
  | v :: vs => by
    unfold wipeR
    by_cases e : v = i
    · subst e
      by_cases h : v < (wipeR ρ vs).length
      · exact .inl (getD_set_same h)
      · exact .inl (by simp [List.getD, h])
    · rw [getD_set_ne e]
      rcases wipeR_at (i := i) vs with h | ⟨h, n⟩
      · exact .inl h
      · exact .inr ⟨h, by simp; exact ⟨fun z => e z.symm, n⟩⟩
theorem EV.wipe {A : Ow} {κ : Kx} {σ : L2.St} {H : Hp} (ev : EV A κ ρ σ H) (vs : List Nat) : EV A κ (wipeR ρ vs) (L2.wipe σ vs) H := by
  refine ⟨by rw [wipe_length, wipeR_len, ev.len], ev.tr, fun i => ?_⟩
  rcases wipeR_at (ρ := ρ) (i := i) vs with h | ⟨h, n⟩
  · rw [h]; trivial
  · rw [h, wipe_out n]; exact ev.sl i
/-- nothing is raised within -/
def hard {γ : Type} : Res γ → Res γ
  | .ok a => .ok a
  | _ => .stuck
@[simp] theorem hard_ok {γ : Type} (a : γ) : hard (.ok a) = .ok a := rfl
@[simp] theorem hard_stuck {γ : Type} : hard (.stuck : Res γ) = .stuck := rfl
@[simp] theorem hard_err {γ : Type} (c : Str) : hard (.err c : Res γ) = .stuck := rfl
/-- a comprehension: of each item an element, or none -/
def compF : List PyData → (PyData → Res (Option PyData)) → Res (List PyData)
  | [], _ => .ok []
  | d :: ds, g => hard (g d) >>= fun o => compF ds g >>= fun ys => .ok (match o with | some y => y :: ys | none => ys)
def compD (ds : List PyData) (g : PyData → Res (Option PyData)) : Res (List PyData) := if ds.length ≤ sizeLine then compF ds g else .stuck
def GTs (X : Cx) (E : XK) (ifs : List Expr) (ρ : List Sl) (r : Res Bool) : Prop :=
  ∀ A σ H Q, EV A (kx X) ρ σ H → PostR X E H r (fun b => ∀ H', Same H H' → Q b H') → ∃ t, PTs X ifs t ∧ t σ H Q
theorem gts_nil : GTs X E [] ρ (.ok true) := fun A σ H Q ev q => ⟨_, pts_nil, q H (Same.refl _)⟩
theorem gts_one (h : GT X E c ρ rt) : GTs X E [c] ρ rt := fun A σ H Q ev q => ⟨_, pts_one wt_ok, h A σ H Q ev q⟩
def OkC (X : Cx) (A : Ow) (H : Hp) (Q : Option V → Hp → Prop) : Option PyData → Prop
  | some y => ∀ w H', Same H H' → Rep A (kx X) H' w y → Q (some w) H'
  | none => ∀ H', Same H H' → Q none H'
/-- one turn: target, test, element -/
def GC (X : Cx) (scope : Scope) (vs : List Nat) (tg : Expr) (ifs : List Expr) (elt : Expr) (ρ : List Sl) (d : PyData) (r : Res (Option PyData)) : Prop :=
  ∀ A σ H v Q, EV A (kx X) (wipeR ρ vs) (L2.wipe σ vs) H → Rep A (kx X) H v d → PostR X L2.E0 H r (OkC X A H Q) →
    ∀ s H0 C cl fp, WG (Blk X scope s H0 C cl fp) tg v (L2.wipe σ vs) H fun σ2 H2 => L2.wipe σ2 vs = L2.wipe σ vs ∧
      ∀ s H0 C cl fp, ∃ t, PTs (Blk X scope s H0 C cl fp) ifs t ∧ t σ2 H2 fun b H3 => if b = true then ∀ s H0 C cl fp, WE (Blk X scope s H0 C cl fp) elt σ2 H3 (fun w H4 => Q (some w) H4) else Q none H3
theorem wipe_set {σ : L2.St} {i : Nat} {x : Option V} : ∀ {vs : List Nat}, i ∈ vs → L2.wipe (σ.set i x) vs = L2.wipe σ vs
  | v :: vs, h => by
    unfold L2.wipe
    by_cases e : v = i
    · subst e
      by_cases h2 : v ∈ vs
      · rw [wipe_set h2]
      · have g : ∀ {vs : List Nat}, v ∉ vs → L2.wipe (σ.set v x) vs = (L2.wipe σ vs).set v x := fun {vs} => by
          induction vs with
          | nil => exact fun _ => rfl
          | cons u us ih =>
            intro hn
            have h3 : v ≠ u := fun e => hn (e ▸ List.mem_cons_self)
            unfold L2.wipe
            rw [ih (fun z => hn (List.mem_cons_of_mem _ z)), List.set_comm _ _ h3]
        rw [g h2, List.set_set]
    · rw [wipe_set ((List.mem_cons.mp h).resolve_left (Ne.symm e))]
theorem wipe_wipe (σ : L2.St) : ∀ vs : List Nat, L2.wipe (L2.wipe σ vs) vs = L2.wipe σ vs
  | [] => rfl
  | v :: vs => by
    show (L2.wipe ((L2.wipe σ vs).set v none) vs).set v none = (L2.wipe σ vs).set v none
    by_cases h : v ∈ vs
    · rw [wipe_set h, wipe_wipe σ vs]
    · have g : ∀ {τ : L2.St} {vs : List Nat}, v ∉ vs → L2.wipe (τ.set v none) vs = (L2.wipe τ vs).set v none := fun {τ vs} => by
        induction vs with
        | nil => exact fun _ => rfl
        | cons u us ih =>
          intro hn
          have h3 : v ≠ u := fun e => hn (e ▸ List.mem_cons_self)
          unfold L2.wipe
          rw [ih (fun z => hn (List.mem_cons_of_mem _ z)), List.set_comm _ _ h3]
      rw [g h, wipe_wipe σ vs, List.set_set]
/-- behind the target -/
theorem gc_tail {scope : Scope} {ifs : List Expr} {elt : Expr} {r : Res PyData} {A : Ow} {σ : L2.St} {H : Hp} {Q : Option V → Hp → Prop} (ev : EV A (kx X) ρ' σ H)
    (ht : ∀ s H0 C cl fp, GTs (Blk X scope s H0 C cl fp) L2.E0 ifs ρ' rt) (he : ∀ s H0 C cl fp, GE (Blk X scope s H0 C cl fp) L2.E0 elt ρ' r)
    (q : PostR X L2.E0 H (rt >>= fun b => if b = true then r >>= fun y => .ok (some y) else .ok none) (OkC X A H Q)) :
    ∀ s H0 C cl fp, ∃ t, PTs (Blk X scope s H0 C cl fp) ifs t ∧ t σ H fun b H3 => if b = true then ∀ s H0 C cl fp, WE (Blk X scope s H0 C cl fp) elt σ H3 (fun w H4 => Q (some w) H4) else Q none H3 := fun s H0 C cl fp => by
  refine ht s H0 C cl fp A σ H _ ev ((PostR.bind q).mono fun b qb H3 s3 => ?_)
  cases b with
  | true => exact iteT fun s H0 C cl fp => he s H0 C cl fp A σ H3 _ (ev.same s3) ((PostR.bind (show PostR X L2.E0 H (r >>= fun y => .ok (some y)) _ from qb)).imp s3 fun y qy w H4 s4 rw => qy w H4 (s3.trans s4) rw)
  | false => exact iteF (qb H3 s3)
theorem gc_name {scope : Scope} {vs : List Nat} {i : Nat} {ifs : List Expr} {elt : Expr} {d : PyData} {r : Res PyData} {p : Pos} (hg : ∀ s H0 C cl fp, PG (Blk X scope s H0 C cl fp) (.Name x p) (gName i)) (hi : i ∈ vs)
    (ht : ∀ s H0 C cl fp, GTs (Blk X scope s H0 C cl fp) L2.E0 ifs ((wipeR ρ vs).set i (.fz d)) rt) (he : ∀ s H0 C cl fp, GE (Blk X scope s H0 C cl fp) L2.E0 elt ((wipeR ρ vs).set i (.fz d)) r) :
    GC X scope vs (.Name x p) ifs elt ρ d (rt >>= fun b => if b = true then r >>= fun y => .ok (some y) else .ok none) := fun A σ H v Q ev rv q s H0 C cl fp => by
  refine ⟨_, hg s H0 C cl fp, ?_⟩
  exact ⟨by rw [wipe_set hi, wipe_wipe], gc_tail (ev.set_fz rv) ht he q⟩
theorem gc_tup2 {scope : Scope} {vs : List Nat} {i j : Nat} {ifs : List Expr} {es : List Expr} {elt : Expr} {d : PyData} {tt : PyData → PyData → Res Bool} {f : PyData → PyData → Res PyData} {p : Pos} {kt : Nat}
    (hg : ∀ s H0 C cl fp, PG (Blk X scope s H0 C cl fp) (.Tuple es kt p) (gTup X.K 2 (gCons (gName i) (gCons (gName j) gNil)))) (hi : i ∈ vs) (hj : j ∈ vs)
    (ht : ∀ a b s H0 C cl fp, GTs (Blk X scope s H0 C cl fp) L2.E0 ifs (((wipeR ρ vs).set i (.fz a)).set j (.fz b)) (tt a b)) (he : ∀ a b s H0 C cl fp, GE (Blk X scope s H0 C cl fp) L2.E0 elt (((wipeR ρ vs).set i (.fz a)).set j (.fz b)) (f a b)) :
    GC X scope vs (.Tuple es kt p) ifs elt ρ d (unp2 d fun a b => tt a b >>= fun z => if z = true then f a b >>= fun y => .ok (some y) else .ok none) := fun A σ H v Q ev rv q s H0 C cl fp => by
  unfold unp2 at q
  split at q
  · rename_i a b
    cases rv with
    | @tup p xs _ h1 h2 =>
      refine ⟨_, hg s H0 C cl fp, p, xs, rfl, h1, by rw [h2.length]; rfl, ?_⟩
      cases h2 with
      | cons r1 t =>
        cases t with
        | cons r2 t =>
          cases t
          exact ⟨_, _, rfl, _, _, rfl, rfl, by rw [wipe_set hj, wipe_set hi, wipe_wipe], gc_tail ((ev.set_fz r1).set_fz r2) (ht _ _) (he _ _) q⟩
  · exact q.elim
theorem EV.grow {A : Ow} {κ : Kx} {σ : L2.St} {H1 H2 : Hp} {D : Addr} {o : HO} {k : Nat} (ev : EV A κ ρ σ H1) (n : H1 D = none) (s : Same H1 H2) (t : H2 D = some o) : EV (ins A D k) κ ρ σ H2 := by
  have np : A D = none := not_own ev.tr n
  refine ⟨ev.len, fun a h => ?_, fun i => ?_⟩
  · by_cases e : a = D
    · rw [e]; exact ⟨o, t⟩
    · rw [ins_ne e] at h
      obtain ⟨o, z⟩ := ev.tr a h
      exact ⟨o, s _ _ z⟩
  · refine (ev.sl i).mv (.ins (Same.refl _) n s) (fun _ _ a o ha ho => ⟨s _ _ ho, ?_⟩) ev.tr
    rw [ins_ne (fun z => by rw [z, np] at ha; cases ha)]
    exact ha
def bG (X : Cx) (scope : Scope) (tg : Expr) : TG := fun v σ H Q => ∀ s H0 C cl fp, WG (Blk X scope s H0 C cl fp) tg v σ H Q
def bT (X : Cx) (scope : Scope) (ifs : List Expr) : TT := fun σ H Q => ∀ s H0 C cl fp, ∃ t, PTs (Blk X scope s H0 C cl fp) ifs t ∧ t σ H Q
def bE (X : Cx) (scope : Scope) (elt : Expr) : TE := fun σ H Q => ∀ s H0 C cl fp, WE (Blk X scope s H0 C cl fp) elt σ H Q
theorem bG_ok {scope : Scope} (s : Shared) (H0 : Hp) (C : Addr) (cl : List (Str × Addr)) (fp : List Addr) : PG (Blk X scope s H0 C cl fp) tg (bG X scope tg) := ⟨fun pins s' σ H v u Q I r h => wg_ok.run pins s' σ H v u Q I r (h s H0 C cl fp)⟩
theorem bT_ok {scope : Scope} {ifs : List Expr} (s : Shared) (H0 : Hp) (C : Addr) (cl : List (Str × Addr)) (fp : List Addr) : PTs (Blk X scope s H0 C cl fp) ifs (bT X scope ifs) := ⟨fun pins s' σ H Q I h => let ⟨t, h1, h2⟩ := h s H0 C cl fp; h1.run pins s' σ H Q I h2⟩
theorem bE_ok {scope : Scope} {elt : Expr} (s : Shared) (H0 : Hp) (C : Addr) (cl : List (Str × Addr)) (fp : List Addr) : PE (Blk X scope s H0 C cl fp) elt (bE X scope elt) := ⟨fun pins s' σ H Q I h => we_ok.run pins s' σ H Q I (h s H0 C cl fp)⟩
theorem comp_run {elt : Expr} {ifs : List Expr} {scope : Scope} {own : List (Str × Nat)} {wi : TI} {g : PyData → Res (Option PyData)} (hi : GI X E tg iter ρ ri) (hb : ∀ d, GC X scope (own.map (·.2)) tg ifs elt ρ d (g d)) {A : Ow} {σ : L2.St} {H : Hp} {Q : VK} (ev : EV A (kx X) ρ σ H)
    (q : PostR X E H (ri >>= fun ds => compD ds g) (OkO X A H Q)) :
    tLc (WI X tg iter) (bG X scope tg) (bT X scope ifs) (bE X scope elt) (own.map (·.2)) σ H Q := by
  refine hi A σ H _ ev (q.bind.mono fun ds qd J δ H1 s1 gd wk D nD => ?_)
  unfold compD at qd
  split at qd
  · rename_i hz
    cases e : compF ds g with
    | err c =>
      exfalso
      have no : ∀ (ds : List PyData) (c : Str), compF ds g ≠ .err c := fun ds => by
        induction ds with
        | nil => exact fun c h => by cases h
        | cons d ds ih =>
          intro c h
          unfold compF at h
          cases e1 : g d with
          | ok o =>
            rw [e1] at h
            cases e2 : compF ds g with
            | ok ys => rw [e2] at h; cases h
            | err c => exact ih c e2
            | stuck => rw [e2] at h; cases h
          | err c => rw [e1] at h; cases h
          | stuck => rw [e1] at h; cases h
      exact no ds c e
    | stuck => rw [e] at qd; exact qd.elim
    | ok total =>
      rw [e] at qd
      refine ⟨fun i m H2 => ∃ acc ys zs, i + m = ds.length ∧ Same H1 H2 ∧ H2 D = some (.lst acc) ∧ Reps (ins A D 0) (kx X) H2 acc ys ∧ compF (ds.drop i) g = .ok zs ∧ ys ++ zs = total ∧ ys.length ≤ i, ⟨ds.length, [], [], total, Nat.zero_add _, same_new nD, upd_same, .nil, e, rfl, Nat.le_refl _⟩, fun i m H2 ⟨acc, ys, zs, em, s2, eD, rs, ez, et, hl⟩ => ?_⟩
      have ev2 : EV (ins A D 0) (kx X) ρ σ H2 := (ev.same s1).grow nD s2 eD
      have gd2 : GsOk (ins A D 0) (kx X) H2 δ := gd.mv (.ins (Same.refl _) nD s2)
      by_cases hi : i < ds.length
      · obtain ⟨go, yl⟩ := wk.go _ i ds[i] H2 ev2.tr gd2 (List.getElem?_eq_getElem hi)
        rw [List.drop_eq_getElem_cons hi] at ez
        unfold compF at ez
        cases e1 : g ds[i] with
        | err c => rw [e1] at ez; cases ez
        | stuck => rw [e1] at ez; cases ez
        | ok o =>
          rw [e1] at ez
          cases e2 : compF (ds.drop (i + 1)) g with
          | err c => rw [e2] at ez; cases ez
          | stuck => rw [e2] at ez; cases ez
          | ok us =>
            rw [e2] at ez
            have ez' : (match (generalizing := false) o with | some y => y :: us | none => us) = zs := by cases o <;> (cases ez; rfl)
            refine .inr ⟨go, fun H' => ∃ acc ys, Same H1 H' ∧ H' D = some (.lst acc) ∧ Reps (ins A D 0) (kx X) H' acc ys ∧ ys ++ us = total ∧ ys.length ≤ i + 1, fun H' ⟨acc, ys, h1, h2, h3, h4, h5⟩ => ⟨m - 1, by omega, acc, ys, us, by omega, h1, h2, h3, e2, h4, h5⟩, fun v H' hy => ?_⟩
            obtain ⟨s3, rv⟩ := yl v H' hy
            intro s H0 C cl fp
            refine hb ds[i] _ σ H' v (fun o H4 => match o with
              | some w => ∃ acc, H4 D = some (.lst acc) ∧ acc.length < sizeLine ∧ ∃ acc' ys, Same H1 (upd H4 D (.lst (acc ++ [w]))) ∧ (upd H4 D (.lst (acc ++ [w]))) D = some (.lst acc') ∧ Reps (ins A D 0) (kx X) (upd H4 D (.lst (acc ++ [w]))) acc' ys ∧ ys ++ us = total ∧ ys.length ≤ i + 1
              | none => ∃ acc ys, Same H1 H4 ∧ H4 D = some (.lst acc) ∧ Reps (ins A D 0) (kx X) H4 acc ys ∧ ys ++ us = total ∧ ys.length ≤ i + 1) ((ev2.same s3).wipe _) rv ?_ s H0 C cl fp
            rw [e1]
            cases o with
            | some y =>
              intro w H4 s4 rw'
              have s14 : Same H1 H4 := s2.trans (s3.trans s4)
              have eD4 := s4 _ _ (s3 _ _ eD)
              have m4 : Mv (ins A D 0) (ins A D 0) H4 (upd H4 D (.lst (acc ++ [w]))) := Mv.write (by rw [ins_same]; exact fun z => by cases z) (mut_lst eD4)
              refine ⟨acc, eD4, by rw [rs.length]; omega, acc ++ [w], ys ++ [y], fun b x e => ?_, upd_same, ((rs.same (s3.trans s4)).append (.cons rw' .nil)).mv m4, ?_, by rw [List.length_append, List.length_singleton]; omega⟩
              · rw [upd_ne (ne_of_none e nD)]; exact s14 _ _ e
              · rw [List.append_assoc, ← et, ← ez']; rfl
            | none =>
              intro H4 s4
              exact ⟨acc, ys, s2.trans (s3.trans s4), s4 _ _ (s3 _ _ eD), rs.same (s3.trans s4), by rw [← et, ← ez'], by omega⟩
      · refine .inl ⟨wk.stop _ i H2 ev2.tr gd2 (by omega), ?_⟩
        rw [List.drop_eq_nil_of_le (by omega)] at ez
        cases ez
        rw [List.append_nil] at et
        subst et
        exact qd D H1 H2 s1 nD s2 ⟨acc, eD, rs⟩
  · exact qd.elim
theorem go_comp {elt : Expr} {ifs : List Expr} {scope : Scope} {own : List (Str × Nat)} {g : PyData → Res (Option PyData)} (hc : X.calm = true) (hN : X.N.Nodup) (ok : BlkOk X.N X.env.scope scope own) (hi : GI X E tg iter ρ ri) (hb : ∀ d, GC X scope (own.map (·.2)) tg ifs elt ρ d (g d))
    (hs : ∀ x, foldedSetIterable iter X.env x = pure x := by intro _; rfl) : GO X E (.ListComp elt [⟨tg, iter, ifs, 0⟩] scope pos) ρ (ri >>= fun ds => compD ds g) := fun A σ H Q ev q =>
  ⟨_, pe_lc (own := own) hc hN wi_ok ok bG_ok bT_ok bE_ok hs, comp_run (wi := WI X tg iter) hi hb ev q⟩
end
end Dt
namespace Dt
open PySem PySem.Spec PyProof.Rows L2

def spF (κ : Kx) (mg : Str → Option Value) (F : List PyData → Res PyData) : Sp := fun vs H Q E => ∃ A ds, Tr A H ∧ Reps A κ H vs ds ∧ (match F ds with
  | .ok d => ∀ v H', Same H H' → Rep A κ H' v d → Q v H'
  | .err c => ∀ H', Same H H' → ∀ C, mg c = some (.ref C) → E (.ref C) none H'
  | .stuck => False)
/-- the name holds a def that computes F, at a level -/
def Cal (P : Program) (w : World) (K : PySem.W.Frag) (mg : Str → Option Value) (base : Heap) (k : Nat) (x : Str) (F : List PyData → Res PyData) : Prop :=
  ∃ f fd ps, FnOk P w K mg base (L2.CX P w) k f fd ps (spF ⟨P, w, K⟩ mg F) ∧ mg x = some (.ref f) ∧ PySem.W.keepIn K (.ref f) = true ∧ Binds K fd ps []
def fin {α : Type} : Out α → PyData
  | .nx _ => .none
  | .rt d => d
def finR {α : Type} (r : Res (Out α)) : Res PyData := r >>= fun o => .ok (fin o)
@[simp] theorem finR_rt {α : Type} (d : PyData) : finR (.ok (.rt d : Out α)) = .ok d := rfl
@[simp] theorem finR_nx {α : Type} (a : α) : finR (.ok (.nx a)) = .ok .none := rfl
@[simp] theorem finR_err {α : Type} (c : Str) : finR (.err c : Res (Out α)) = .err c := rfl
@[simp] theorem finR_stuck {α : Type} : finR (.stuck : Res (Out α)) = .stuck := rfl
section
variable {X : Cx} {E : XK} {ρ : List Sl} {e : Expr} {es : List Expr} {rs : Res (List PyData)} {pos p : Pos} {x : Str} {F : List PyData → Res PyData} {j k : Nat}
theorem ge_call (c : Cal X.prog X.w X.K X.mg X.base k x F) (hr : Room j X.A) (hkj : k ≤ j) (hx : Passes (L2.CX X.prog X.w) X E) (h : GA X E (e :: es) ρ rs) (hg : Gl X x := by rfl) (hdb : (x == ("__debug__" : Str)) = false := by decide)
    (he : starEach (e :: es) X.env = (false, eval e X.env) :: starEach es X.env := by rfl) (hpl : (backTo pos (starEach es X.env)).any (·.1) = false := by rfl) : GE X E (.Call (.Name x p) (e :: es) [] pos) ρ (rs >>= F) := by
  obtain ⟨f, fd, ps, hf, hm, hk, hb⟩ := c
  refine .mk ⟨_, pe_call hf (hr.mono hkj) hg hm hk hb .nil hx wa_ok hdb he hpl, fun A σ H Q ev q => ?_⟩
  refine h A σ H _ ev (q.bind.mono fun ds qd vs H1 s1 rv => ?_)
  rw [List.append_nil]
  refine ⟨A, ds, (ev.same s1).tr, rv, ?_⟩
  cases e : F ds with
  | ok d => rw [e] at qd; exact fun v H' s r => qd v H' (s1.trans s) r
  | err c => rw [e] at qd; exact fun H' s C hC => qd H' (s1.trans s) C hC
  | stuck => rw [e] at qd; exact qd
end
theorem map_fz_at {A : Ow} {m : Nat} {κ : Kx} {H : Hp} : ∀ {vs : List V} {ds : List PyData} (n : Nat) (i : Nat), Reps A κ H vs ds → SlOk A m κ H ((ds.map Sl.fz ++ List.replicate n Sl.no).getD i .no) (vs.map some ++ List.replicate n none)[i]?
  | _, _, n, i, .nil => by
    have : (([] : List PyData).map Sl.fz ++ List.replicate n Sl.no).getD i .no = .no := by
      simp [List.getD, List.getElem?_replicate]
      split <;> rfl
    rw [this]; trivial
  | _, _, n, 0, .cons r t => ⟨_, rfl, r⟩
  | _, _, n, i + 1, .cons r t => by simpa [List.getD] using map_fz_at n i t
/-- what an outer def owns -/
def outerOw (A : Ow) : Ow := fun a => match A a with | none => none | some _ => some 0
theorem outer_none {A : Ow} {a : Addr} : outerOw A a = none ↔ A a = none := by
  unfold outerOw
  cases A a with
  | none => exact ⟨fun _ => rfl, fun _ => rfl⟩
  | some n => exact ⟨(fun z => by cases z), (fun z => by cases z)⟩
section
variable {P : Program} {w : World} {K : PySem.W.Frag} {mg : Str → Option Value} {base : Heap}
/-- THE RULE of a def -/
theorem def_ok {α : Type} {x qual : Str} {st : Stmt} {f : Addr} {fd : FuncData} {N ps : List Str} {k : Nat} {sh : α → List Sl} (F : Fun K x qual st f fd) (S : FnScope N ps (defScope st)) (G : List PyData → Res (Out α)) (hG : ∀ ds, ds.length ≠ ps.length → G ds = .stuck)
    (body : ∀ (cdv : Value) (A : Around) (outer : List Env) (s : Shared) (H : Hp) (E : XK) (X : Cx), X = cxOf (L2.CX P w) P w K mg base N qual (defScope st) f cdv A outer s H E → Room k X.A → ∀ ds, ds.length = ps.length →
      GSs (cxOf (L2.CX P w) P w K mg base N qual (defScope st) f cdv A outer s H E) E (defBody st) (ds.map Sl.fz ++ List.replicate (N.length - ps.length) .no) sh (G ds)) :
    FnOk P w K mg base (L2.CX P w) (k + 1) f fd ps (spF ⟨P, w, K⟩ mg fun ds => finR (G ds)) := by
  refine F.okX S (fun vs H Q E h => ?_) (fun cdv A outer s H vs Q E hr h => ?_)
  · obtain ⟨A, ds, tr, rs, q⟩ := h
    by_cases e : ds.length = ps.length
    · rw [rs.length, e]
    · simp only [hG ds e, finR_stuck] at q
  · obtain ⟨A0, ds, tr, rs, q⟩ := h
    have e : ds.length = ps.length := by
      by_cases e : ds.length = ps.length
      · exact e
      · simp only [hG ds e, finR_stuck] at q
    have hb := body cdv A outer s H E _ rfl hr ds e
    have hl : (L2.start N vs) = vs.map some ++ List.replicate (N.length - ps.length) none := by
      unfold L2.start
      rw [rs.length, e]
    refine hb A0 H [] (L2.start N vs) H _ ⟨outerOw A0, ⟨⟨?_, fun a h => tr a fun z => h (outer_none.mpr z), fun i => ?_⟩, (fun g hg => by cases hg), fun a h => outer_none.mp h, Same.refl _, fun a n h => ?_, tr⟩⟩ ?_
    · rw [hl]; simp [rs.length]
    · rw [hl]; exact map_fz_at _ i (rs.mv (.less fun a h => outer_none.mpr h))
    · unfold outerOw at h
      cases z : A0 a with
      | none => rw [z] at h; cases h
      | some k => rw [z] at h; cases h
    · replace q : (match finR (G ds) with
        | .ok d => ∀ v H', Same H H' → Rep A0 ⟨P, w, K⟩ H' v d → Q v H'
        | .err c => ∀ H', Same H H' → ∀ C, mg c = some (.ref C) → E (.ref C) none H'
        | .stuck => False) := q
      cases e2 : G ds with
      | ok o =>
        rw [e2] at q
        cases o with
        | nx a => exact fun σ' H' ⟨A', er⟩ => q _ H' er.same .non
        | rt d => exact fun v H' s r => q v H' s r
      | err c => rw [e2] at q; exact q
      | stuck => rw [e2] at q; exact q
end
/-- a def's body's context: what its rules ask -/
structure Bd (X : Cx) (E : XK) (k : Nat) : Prop where
  nd : X.N.Nodup
  po : PassesOwn (model X.prog X.w) X.A X.env X.xe
  hx : Passes (L2.CX X.prog X.w) X E
  tk : Takes X (fun cls d _ H => E cls d H)
  hr : Room k X.A
theorem bd_of {P : Program} {w : World} {K : PySem.W.Frag} {mg : Str → Option Value} {base : Heap} {N ps : List Str} {qual : Str} {sc : Scope} {f : Addr} {cdv : Value} {A : Around} {outer : List Env} {s : Shared} {H : Hp} {E : XK} {k : Nat} (S : FnScope N ps sc)
    (hr : Room k (cxOf (L2.CX P w) P w K mg base N qual sc f cdv A outer s H E).A) : Bd (cxOf (L2.CX P w) P w K mg base N qual sc f cdv A outer s H E) E k :=
  ⟨S.nd, passes_of rfl, passes_call (takes_of rfl rfl rfl rfl) (fun _ _ _ _ h => h), takes_of rfl rfl rfl rfl, hr⟩
theorem Bd.u65 {X : Cx} {E : XK} {k : Nat} (b : Bd X E k) : X.A.units + 65 < cLine := by have := b.hr.un; omega
theorem Bd.u64 {X : Cx} {E : XK} {k : Nat} (b : Bd X E k) : X.A.units + 64 < cLine := by have := b.hr.un; omega
theorem Bd.u0 {X : Cx} {E : XK} {k : Nat} (b : Bd X E k) : X.A.units < cLine := by have := b.hr.un; omega

section
variable {α : Type} {X : Cx} {E : XK} {ρ : List Sl} {sh : α → List Sl} {rest : List Stmt} {e : Expr} {pos : Pos}
theorem gss_raise {C : Addr} {c : Str} (hc : X.calm = true) (tk : Takes X (fun cls d _ H => E cls d H)) (hm : X.mg c = some (.ref C)) (h : PMk X e (fun _ H Q => Q (.ref C) none H)) : GSs X E (.Raise (some e) none pos :: rest) ρ sh (.err c) := fun A0 H0 γ σ H D er q => by
  obtain ⟨A, er⟩ := er
  refine wss_cons (ps_raise hc tk h) ?_
  exact q H er.same C hm
end

section
variable {X : Cx} {E : XK} {ρ : List Sl} {e a b c : Expr} {es : List Expr} {r ra rb rc : Res PyData} {rs : Res (List PyData)} {pos : Pos}
def lenC : List PyData → Res PyData
  | [.list xs] => .ok (.int xs.length)
  | [.tuple xs] => .ok (.int xs.length)
  | [.str x] => if x.length ≤ sizeLine then .ok (.int x.length) else .stuck
  | _ => .stuck
theorem len_ok : OpC X (.builtin "len") lenC := by
  refine ⟨_, call_len_seq.or call_len_str, fun E A H xs ds Q tr rx q => ?_⟩
  unfold lenC at q
  split at q
  · cases rx with
    | cons r t =>
      cases t
      obtain ⟨p, vs, rfl, h1, h2⟩ := r.lst
      refine .inl ⟨p, vs, rfl, .inl (.of h1), ?_⟩
      rw [h2.length]
      exact q _ H (Same.refl _) (.int _)
  · cases rx with
    | cons r t =>
      cases t
      obtain ⟨p, vs, rfl, h1, h2⟩ := r.tup
      refine .inl ⟨p, vs, rfl, .inr h1, ?_⟩
      rw [h2.length]
      exact q _ H (Same.refl _) (.int _)
  · split at q
    · cases rx with
      | cons r t =>
        cases t
        obtain rfl := r.str
        exact .inr ⟨_, rfl, by assumption, q _ H (Same.refl _) (.int _)⟩
    · exact q.elim
  · exact q.elim
def tupC : List PyData → Res PyData
  | [.list xs] => .ok (.tuple xs)
  | [.tuple xs] => .ok (.tuple xs)
  | _ => .stuck
theorem tup_ok : OpC X (.type "tuple") tupC := by
  refine ⟨_, call_tuple_of, fun E A H xs ds Q tr rx q => ?_⟩
  unfold tupC at q
  split at q
  · cases rx with
    | cons r t =>
      cases t
      obtain ⟨p, vs, rfl, h1, h2⟩ := r.lst
      exact ⟨p, vs, rfl, .inl ⟨.of h1, fun l n => q _ _ (same_new n) (Rep.new_tup n h2)⟩⟩
  · cases rx with
    | cons r t =>
      cases t
      obtain ⟨p, vs, rfl, h1, h2⟩ := r.tup
      exact ⟨p, vs, rfl, .inr ⟨h1, q _ H (Same.refl _) (.tup h1 h2)⟩⟩
  · exact q.elim
def listC : List PyData → Res (List PyData)
  | [.list xs] => .ok xs
  | [.tuple xs] => .ok xs
  | _ => .stuck
theorem list_ok : OpCO X (.type "list") listC := by
  refine ⟨_, call_list_of, fun E A H xs ds Q tr rx q => ?_⟩
  unfold listC at q
  split at q
  · cases rx with
    | cons r t =>
      cases t
      obtain ⟨p, vs, rfl, h1, h2⟩ := r.lst
      exact ⟨p, vs, rfl, .inl (.of h1), fun l n => q l H _ (Same.refl _) n (same_new n) ⟨_, upd_same, (h2.newA n).same (same_new n)⟩⟩
  · cases rx with
    | cons r t =>
      cases t
      obtain ⟨p, vs, rfl, h1, h2⟩ := r.tup
      exact ⟨p, vs, rfl, .inr h1, fun l n => q l H _ (Same.refl _) n (same_new n) ⟨_, upd_same, (h2.newA n).same (same_new n)⟩⟩
  · exact q.elim
def boolsOf : List PyData → Option (List Bool)
  | [] => some []
  | .bool b :: r => (boolsOf r).map (b :: ·)
  | _ :: _ => none
theorem bools_of {A : Ow} {κ : Kx} {H : Hp} : ∀ {vs : List V} {ds : List PyData} {ns : List Bool}, Reps A κ H vs ds → boolsOf ds = some ns → vs = ns.map V.bl
  | _, _, _, .nil, e => by cases e; rfl
  | _, _, ns, .cons (d := d) r t, e => by
    cases r with
    | bl i =>
      unfold boolsOf at e
      cases h : boolsOf _ with
      | none => rw [h] at e; cases e
      | some ms =>
        rw [h] at e
        cases e
        rw [bools_of t h]
        rfl
    | _ => cases e
def allC : List PyData → Res PyData
  | [.list xs] => match boolsOf xs with
    | some bs => .ok (.bool (bs.all id))
    | none => .stuck
  | _ => .stuck
def anyC : List PyData → Res PyData
  | [.list xs] => match boolsOf xs with
    | some bs => .ok (.bool (bs.any id))
    | none => .stuck
  | _ => .stuck
def sumC : List PyData → Res PyData
  | [.list xs] => match intsOf xs with
    | some ns => .ok (.int ns.sum)
    | none => .stuck
  | _ => .stuck
theorem all_ok (hc : X.calm = true) : OpC X (.builtin "all") allC := by
  refine ⟨_, cr_all hc, fun E A H xs ds Q tr rx q => ?_⟩
  unfold allC at q
  split at q
  · split at q
    · cases rx with
      | cons r t =>
        cases t
        obtain ⟨p, vs, rfl, h1, h2⟩ := r.lst
        have e1 := bools_of h2 (by assumption)
        subst e1
        exact ⟨p, _, rfl, .of h1, q _ H (Same.refl _) (.bl _)⟩
    · exact q.elim
  · exact q.elim
def intC : List PyData → Res PyData
  | [.int i] => .ok (.int i)
  | [.bool b] => .ok (.int (if b then 1 else 0))
  | _ => .stuck
theorem int_ok : OpC X (.type "int") intC := by
  refine ⟨_, call_int1, fun E A H xs ds Q tr rx q => ?_⟩
  unfold intC at q
  split at q
  · cases rx with
    | cons r t =>
      cases t
      obtain rfl := r.int
      exact .inl ⟨_, rfl, q _ H (Same.refl _) (.int _)⟩
  · cases rx with
    | cons r t =>
      cases t
      obtain rfl := r.bl
      exact .inr ⟨_, rfl, q _ H (Same.refl _) (.int _)⟩
  · exact q.elim
def sorD (ds : List PyData) : List PyData := ds.mergeSort (PySem.W.dataLe false id)
def sortable (ds : List PyData) : Bool := (ds.all fun d => ds.all fun e => PySem.W.alike d e) && ((ds.all fun d => match d with | .tuple (_ :: _) => true | _ => false) || ds.all fun d => match d with | .none => false | .tuple _ => false | _ => true)
def sortC : List PyData → Res (List PyData)
  | [.list xs] => if (sortable xs && xs.all shp) = true then .ok (sorD xs) else .stuck
  | _ => .stuck
theorem sortable_ok {ds : List PyData} (h : sortable ds = true) : PySem.W.AllAlike ds ∧ PySem.W.Sortable ds := by
  unfold sortable at h
  rw [Bool.and_eq_true, Bool.or_eq_true, List.all_eq_true, List.all_eq_true, List.all_eq_true] at h
  refine ⟨fun d hd e he => List.all_eq_true.mp (h.1 d hd) e he, h.2.elim (fun k => .inl fun d hd => ?_) fun k => .inr fun d hd => ?_⟩
  · have z := k d hd
    split at z
    · exact ⟨_, _, rfl⟩
    · cases z
  · have z := k d hd
    split at z
    · cases z
    · cases z
    · rename_i n1 n2
      exact ⟨n1, n2⟩
theorem reps_zip {A : Ow} {κ : Kx} {H : Hp} : ∀ {vs : List V} {ds : List PyData}, Reps A κ H vs ds → (vs.zip ds).map (·.1) = vs ∧ (vs.zip ds).map (·.2) = ds ∧ ∀ p ∈ vs.zip ds, Rep A κ H p.1 p.2
  | _, _, .nil => ⟨rfl, rfl, fun p h => by cases h⟩
  | _, _, .cons r t => by
    obtain ⟨h1, h2, h3⟩ := reps_zip t
    refine ⟨by simp [h1], by simp [h2], fun p h => ?_⟩
    rcases List.mem_cons.mp h with z | z
    · rw [z]; exact r
    · exact h3 p z
theorem reps_of_zip {A : Ow} {κ : Kx} {H : Hp} : ∀ {l : List (V × PyData)}, (∀ p ∈ l, Rep A κ H p.1 p.2) → Reps A κ H (l.map (·.1)) (l.map (·.2))
  | [], _ => .nil
  | p :: l, h => .cons (h p List.mem_cons_self) (reps_of_zip fun q hq => h q (List.mem_cons_of_mem _ hq))
theorem each_of {H : Hp} : ∀ {vs : List V} {us : List Value} {ds : List PyData}, Vals vs us → vs.length = ds.length → PySem.W.EachIs (fun (u : Value) (b : V × PyData) => RelV b.1 u) us (vs.zip ds)
  | _, _, _, .nil, h => by
    rw [List.zip_nil_left]; exact .nil
  | _, _, [], .cons r t, h => by cases h
  | _, _, d :: ds, .cons r t, h => .cons r (each_of (H := H) t (Nat.succ.inj h))
theorem vals_each : ∀ {us : List Value} {l : List (V × PyData)}, PySem.W.EachIs (fun (u : Value) (b : V × PyData) => RelV b.1 u) us l → Vals (l.map (·.1)) us
  | _, _, .nil => .nil
  | _, _, .cons r t => .cons r (vals_each t)
theorem each_reads {pins : List (Addr × Obj)} {σ : L2.St} {H : Hp} {s : Shared} {A : Ow} (I : Inv X pins σ H s) : ∀ {vs : List V} {us : List Value} {ds : List PyData}, Vals vs us → Reps A (kx X) H vs ds → PyData.canLayAll0 ds = true → PySem.W.EachIs (fun (v : Value) (b : V × PyData) => ∃ as, Reads s.heap v b.2 as) us (vs.zip ds)
  | _, _, _, .nil, .nil, _ => .nil
  | _, _, _, .cons r t, .cons r' t', h => by
    rw [PyData.canLayAll0, Bool.and_eq_true] at h
    exact .cons (Dp.reads I _ _ _ (r'.dp h.1) r) (each_reads I t t' h.2)
theorem lay_all : ∀ {ds : List PyData}, ds.all shp = true → PyData.canLayAll0 ds = true
  | [], _ => by simp [PyData.canLayAll0]
  | d :: ds, h => by
    rw [List.all_cons, Bool.and_eq_true] at h
    rw [PyData.canLayAll0, shp_lay h.1, lay_all h.2]
    rfl
theorem map_sort {l : List (V × PyData)} : (l.mergeSort (PySem.W.dataLe false fun b : V × PyData => b.2)).map (·.2) = sorD (l.map (·.2)) := by
  unfold sorD
  exact (List.map_mergeSort (f := fun b : V × PyData => b.2) (r := PySem.W.dataLe false fun b : V × PyData => b.2) (s := PySem.W.dataLe false id) (fun a _ b _ => rfl))
def rSortD (X : Cx) : List V → Hp → VK → Prop := fun vs H Q => ∃ (A : Ow) (a : Addr) (xs : List V) (ds : List PyData), vs = [V.ref a] ∧ H a = some (.lst xs) ∧ Reps A (kx X) H xs ds ∧ sortable ds = true ∧ ds.all shp = true ∧
  ∀ (ys : List V) (p : Addr), Reps A (kx X) H ys (sorD ds) → H p = none → Q (.ref p) (upd H p (.lst ys))
theorem cr_sortD (hu : X.A.units + 70 < cLine) : CallR X (.builtin "sorted") (rSortD X) := by
  intro pins s σ H vs us Q I r h
  obtain ⟨A, a, xs, ds, rfl, hs, rs, hso, hsh, q⟩ := h
  obtain ⟨hz, its, n, rv, hl, he⟩ := I.lstM hs
  rw [Vals.ref1 r]
  obtain ⟨z1, z2, z3⟩ := reps_zip rs
  obtain ⟨ha, hk⟩ := sortable_ok hso
  have hIL : s.heap.IsList a its.toArray := ⟨_, he, rfl, n, rfl⟩
  refine PySem.W.sorted_data (R := fun u b => RelV b.1 u) (bs := xs.zip ds) (enc := fun b : V × PyData => b.2) hIL (each_of (H := H) rv rs.length) (each_reads I rv rs (lay_all hsh)) (by rw [z2]; exact ha) (by rw [z2]; exact hk) (by rw [List.length_zip, rs.length, Nat.min_self, ← rs.length]; exact hz) (fun b hb => ?_) fun out hlo ho => ?_
  · have hm : b.2 ∈ ds := by rw [← z2]; exact List.mem_map_of_mem hb
    have h1 := List.all_eq_true.mp hsh _ hm
    have h2 : b.2.depth ≤ 64 := of_decide_eq_true (Bool.and_eq_true_iff.mp h1).2
    omega
  · obtain ⟨ep, he'⟩ := PyProof.Rows.sortedAll_at s.heap its out.toArray
    have hv := vals_each ho
    have hlen : (((xs.zip ds).mergeSort (PySem.W.dataLe false fun b : V × PyData => b.2)).map (·.1)).length ≤ sizeLine := by
      rw [List.length_map, List.length_mergeSort, List.length_zip, rs.length, Nat.min_self, ← rs.length]; exact hz
    have hr : Reps A (kx X) H (((xs.zip ds).mergeSort (PySem.W.dataLe false fun b : V × PyData => b.2)).map (·.1)) (sorD ds) := by
      have e : sorD ds = ((xs.zip ds).mergeSort (PySem.W.dataLe false fun b : V × PyData => b.2)).map (·.2) := by rw [map_sort, z2]
      rw [e]
      exact reps_of_zip fun p hp => z3 p (List.mem_mergeSort.mp hp)
    exact ⟨.ref _, _, I.laid (o := .lst (((xs.zip ds).mergeSort (PySem.W.dataLe false fun b : V × PyData => b.2)).map (·.1))) (t' := s.toks) (fun _ _ => PyProof.Rows.sortedAll_old) (Nat.le_succ _) ⟨hlen, out, ep, hv, he'⟩, rfl, q _ _ hr (I.hok.fresh (Nat.le_succ _))⟩
theorem sort_ok (hu : X.A.units + 70 < cLine) : OpCO X (.builtin "sorted") sortC := by
  refine ⟨_, cr_sortD hu, fun E A H xs ds Q tr rx q => ?_⟩
  unfold sortC at q
  split at q
  · split at q
    · rename_i hz
      rw [Bool.and_eq_true] at hz
      cases rx with
      | cons r t =>
        cases t
        obtain ⟨p, vs, rfl, h1, h2⟩ := r.lst
        refine ⟨A, p, vs, _, rfl, h1, h2, hz.1, hz.2, fun ys l rs n => ?_⟩
        exact q l H _ (Same.refl _) n (same_new n) ⟨_, upd_same, (rs.newA n).same (same_new n)⟩
    · exact q.elim
  · exact q.elim
theorem Bd.u70 {X : Cx} {E : XK} {k : Nat} (b : Bd X E k) : X.A.units + 70 < cLine := by have := b.hr.un; omega
end
end Dt
namespace Dt
open PySem PySem.Spec PyProof.Rows L2

def b2 (g : PyData → PyData → Res PyData) (ra rb : Res PyData) : Res PyData := ra >>= fun d => rb >>= fun e => g d e
def asL (r : Res (List PyData)) : Res PyData := r >>= fun ds => .ok (.list ds)
def sl3 (ra : Res PyData) (rl rh : Res (Option Int)) : Res PyData := ra >>= fun d => rl >>= fun l => rh >>= fun u => sliceD d l u
def ite3 (rt : Res Bool) (ra rb : Res PyData) : Res PyData := rt >>= fun c => if c = true then ra else rb
def nt (r : Res Bool) : Res Bool := r >>= fun b => .ok (!b)
def retR {α : Type} (r : Res PyData) : Res (Out α) := r >>= fun d => .ok (.rt d)
def cel (rt : Res Bool) (r : Res PyData) : Res (Option PyData) := rt >>= fun b => if b = true then r >>= fun y => .ok (some y) else .ok none
def comR (ri : Res (List PyData)) (g : PyData → Res (Option PyData)) : Res (List PyData) := ri >>= fun ds => compD ds g
/-- a global name holds a datum -/
def Gcon (K : PySem.W.Frag) (mg : Str → Option Value) (x : Str) (d : PyData) : Prop := ∃ u v, mg x = some u ∧ RelV v u ∧ ∀ A P w H, Rep A ⟨P, w, K⟩ H v d
theorem gcon_int {K : PySem.W.Frag} {mg : Str → Option Value} {x : Str} {i : Int} {t : Tok} (h : mg x = some (.int i t)) : Gcon K mg x (.int i) := ⟨_, .int i, h, ⟨t, rfl⟩, fun _ _ _ _ => .int i⟩
theorem gcon_str {K : PySem.W.Frag} {mg : Str → Option Value} {x : Str} {i : Str} {t : Tok} (h : mg x = some (.str i t)) : Gcon K mg x (.str i) := ⟨_, .str i, h, ⟨t, rfl⟩, fun _ _ _ _ => .str i⟩
theorem strs_reps {A : Ow} {κ : Kx} {H : Hp} : ∀ xs : List Str, Reps A κ H (xs.map V.str) (xs.map PyData.str)
  | [] => .nil
  | x :: xs => .cons (.str x) (strs_reps xs)
theorem gcon_strs {K : PySem.W.Frag} {mg : Str → Option Value} {x : Str} {a : Addr} {o : Obj} {its : Array Value} {n : Nat} (xs : List Str) (h : mg x = some (.ref a)) (l : K.lookup a = some o) (c : o.cls = .type "tuple") (d : o.data = .seq its n) (z : its.size ≤ sizeLine) (v : Vals (xs.map V.str) its.toList) :
    Gcon K mg x (.tuple (xs.map PyData.str)) := ⟨_, .ref a, h, rfl, fun _ _ _ _ => .tup (.inr ⟨o, its, n, l, c, d, z, v⟩) (strs_reps xs)⟩
section
variable {α β : Type} {X : Cx} {E : XK} {ρ ρ' : List Sl} {e a b c iter tg : Expr} {es : List Expr} {r ra rb rc : Res PyData} {rt : Res Bool} {ri rs : Res (List PyData)} {pos p' p : Pos} {sh : α → List Sl} {sb : β → List Sl} {x : Str} {rest body : List Stmt}
theorem ge_glob {d : PyData} (g : Gcon X.K X.mg x d) (hg : Gl X x := by rfl) (hd : (x == ("__debug__" : Str)) = false := by decide) : GE X E (.Name x p) ρ (.ok d) := by
  obtain ⟨u, v, h, r, k⟩ := g
  exact ge_C (pe_glob hg h r hd) fun A H => k A X.prog X.w H
def tyName : PyData → Option String
  | .none => some "NoneType"
  | .bool _ => some "bool"
  | .int _ => some "int"
  | .str _ => some "str"
  | .list _ => some "list"
  | .tuple _ => some "tuple"
  | .dict _ => none
def isiTs : List String := ["int", "bool", "tuple", "str", "list"]
def isiB (n T : String) : Bool := n == T || (n == "bool" && T == "int")
def isiD (T : String) (d : PyData) : Res PyData := match tyName d with
  | some n => .ok (.bool (isiB n T))
  | none => .stuck
theorem tyx_of {A : Ow} {κ : Kx} {H : Hp} {v : V} {d : PyData} {n : String} (h : RepW A κ H v d) (e : tyName d = some n) : TyX κ.K H v (.type n) := by
  cases d with
  | none => obtain rfl := h.non; cases e; exact .base .non
  | bool b => obtain rfl := h.bl; cases e; exact .base (.bl _)
  | int b => obtain rfl := h.int; cases e; exact .base (.int _)
  | str b => obtain rfl := h.str; cases e; exact .base (.str _)
  | list b =>
    obtain ⟨p, xs, rfl, h1, h2⟩ := h.lst
    cases e
    exact .base (.lst h1)
  | tuple b =>
    obtain ⟨p, xs, rfl, h1, h2⟩ := h.tup
    cases e
    rcases h1 with (h1 | ⟨o, h1⟩) | ⟨o, its, n, h1, h3, _⟩
    · exact .base (.tup h1)
    · exact .fTuple h1
    · exact .kTuple h1 h3
  | dict b => cases e
theorem kit_all {n T : String} (hn : n ∈ ["NoneType", "bool", "int", "str", "list", "tuple"]) (hT : T ∈ isiTs) : kitB n T = some (isiB n T) := by
  have h : (["NoneType", "bool", "int", "str", "list", "tuple"].all fun n => isiTs.all fun T => decide (kitB n T = some (isiB n T))) = true := by decide +kernel
  exact of_decide_eq_true (List.all_eq_true.mp (List.all_eq_true.mp h n hn) T hT)
theorem tyName_mem {d : PyData} {n : String} (e : tyName d = some n) : n ∈ ["NoneType", "bool", "int", "str", "list", "tuple"] := by
  cases d <;> cases e <;> decide
theorem ge_isi {T : String} {T' : Str} {p2 : Pos} (h : GW X E e ρ r) (hm : X.mg "isinstance" = none) (hm2 : X.mg T' = none) (hT : T ∈ isiTs := by decide) (hb : bootBuiltins T' = some (.type T) := by decide +kernel) (hb2 : bootBuiltins "isinstance" = some (.builtin "isinstance") := by decide +kernel) (hg : Gl X "isinstance" := by rfl) (hg2 : Gl X T' := by rfl)
    (hd2 : (T' == ("__debug__" : Str)) = false := by decide) (hn2 : T' ≠ "__name__" := by decide)
    (he : starEach (e :: [.Name T' p2]) X.env = (false, eval e X.env) :: starEach [.Name T' p2] X.env := by rfl) (he2 : starEach (.Name T' p2 :: []) X.env = (false, eval (.Name T' p2) X.env) :: starEach [] X.env := by rfl) (hpl : (backTo pos (starEach [.Name T' p2] X.env)).any (·.1) = false := by rfl) :
    GE X E (.Call (.Name "isinstance" p) [e, .Name T' p2] [] pos) ρ (r >>= isiD T) := by
  refine .mk ⟨_, pe_callB call_isi hg hm hb2 (pa_cons we_ok (pa_cons (pe_bltn (v := .ty T) hg2 hm2 hb rfl hn2 hd2) pa_nil he2) he) (by decide) (by decide) he hpl, fun A σ H Q ev q => ?_⟩
  refine h A σ H _ ev (q.bind.mono fun d qd v H1 s1 rv => ?_)
  unfold isiD at qd
  split at qd
  · rename_i n hn
    exact ⟨v, .ty T, .type n, .type T, _, rfl, .ty T, tyx_of rv hn, kit_ty (kit_all (tyName_mem hn) hT), qd _ H1 s1 (.bl _)⟩
  · exact qd.elim
theorem gss_ownLc {elt : Expr} {ifs : List Expr} {scope : Scope} {own : List (Str × Nat)} {i : Nat} {y : Str} {py spos : Pos} {g : PyData → Res (Option PyData)} {k : List PyData → Res (Out α)} (hc : X.calm = true) (hN : X.N.Nodup) (ok : BlkOk X.N X.env.scope scope own) (hi : GI X E tg iter ρ ri)
    (hb : ∀ d, GC X scope (own.map (·.2)) tg ifs elt ρ d (g d)) (k' : ∀ d, GSs X E rest (ρ.set i (.ow (.list d))) sh (k d)) (hsw : swapsWith (.ListComp elt [⟨tg, iter, ifs, 0⟩] scope pos) (some (.Name y py)) spos.line X.env = pure true) (hy : X.N[i]? = some y := by rfl) (hyl : X.env.scope.names.lookup y = some .local := by rfl)
    (hs : ∀ x, foldedSetIterable iter X.env x = pure x := by intro _; rfl) : GSs X E (.Assign [.Name y py] (.ListComp elt [⟨tg, iter, ifs, 0⟩] scope pos) spos :: rest) ρ sh (comR ri g >>= k) := fun A0 H0 γ σ H D er q => by
  obtain ⟨A, er⟩ := er
  refine wss_cons (ps_setLc (own := own) hc hN hy hyl hsw wi_ok ok bG_ok bT_ok bE_ok hs) ?_
  refine comp_run (wi := WI X tg iter) hi hb er.ev (PostR.imp (PostR.bind q) er.same fun ds qd p H1 H' s1 n s2 o => ?_)
  exact k' ds A0 H0 γ _ H' D (er.set_ow s1 n s2 o) qd
end
end Dt
namespace Dt
open PySem PySem.Spec PyProof.Rows L2
theorem bt_len : bootBuiltins "len" = some (.builtin "len") := by decide +kernel
theorem bt_all : bootBuiltins "all" = some (.builtin "all") := by decide +kernel
theorem bt_sorted : bootBuiltins "sorted" = some (.builtin "sorted") := by decide +kernel
theorem bt_tuple : bootBuiltins "tuple" = some (.type "tuple") := by decide +kernel
theorem bt_list : bootBuiltins "list" = some (.type "list") := by decide +kernel
theorem bt_int : bootBuiltins "int" = some (.type "int") := by decide +kernel
theorem bt_set : bootBuiltins "set" = some (.type "set") := by decide +kernel
/-- an exception class of one's own, over ValueError, without __init__ -/
structure XclA (K : PySem.W.Frag) (mg : Str → Option Value) (x : Str) (C : Addr) : Prop where
  gC : mg x = some (.ref C)
  xP : PySem.W.excIn K C [.type "ValueError", .type "Exception", .type "BaseException", .type "object"] "ValueError.__new__" = true
  kP : PySem.W.keepIn K (.ref C) = true
  bP : PySem.W.subIn K (.ref C) (.type "BaseException") = some true
  tP : PySem.W.typeIn K (.ref C) = some (.type "type")
def Xcl (K : PySem.W.Frag) (mg : Str → Option Value) (x : Str) : Prop := ∃ C, XclA K mg x C
section
variable {α β : Type} {X : Cx} {E : XK} {ρ ρ' : List Sl} {e a b c iter tg : Expr} {es : List Expr} {r ra rb rc : Res PyData} {rt : Res Bool} {ri rs : Res (List PyData)} {pos p' p : Pos} {sh : α → List Sl} {sb : β → List Sl} {x : Str} {rest body : List Stmt}
theorem gss_raiseX {c m : Str} {j : Nat} {p p2 pos2 : Pos} (hc : X.calm = true) (tk : Takes X (fun cls d _ H => E cls d H)) (h : Xcl X.K X.mg c) (hg : Gl X c := by rfl) (hdb : (c == ("__debug__" : Str)) = false := by decide) :
    GSs X E (.Raise (some (.Call (.Name c p) [.Constant (.str m) j p2] [] pos2)) none pos :: rest) ρ sh (.err c) := by
  obtain ⟨C, h⟩ := h
  exact gss_raise hc tk h.gC (pmk_own PySem.F.excBase_ValueError h.xP h.gC h.kP (raises_own h.bP h.tP) hg hdb)
end
end Dt
namespace Dt
open PySem PySem.Spec PyProof.Rows L2

section
variable {X : Cx} {pins : List (Addr × Obj)} {σ : L2.St} {H : Hp} {s : Shared} {A : Ow}
/-- the entries of a dict, with the values -/
abbrev PairV : NestedKey × Addr × V → NestedKey × Addr × Value → Prop := fun p q => p.1 = q.1 ∧ p.2.1 = q.2.1 ∧ RelV p.2.2 q.2.2
theorem pair_len : ∀ {xs : List (NestedKey × Addr × V)} {vs : List (NestedKey × Addr × Value)}, Paired PairV xs vs → xs.length = vs.length
  | _, _, .nil => rfl
  | _, _, .cons a t => by rw [List.length_cons, List.length_cons, pair_len t]
/-- entries and what they are: the values by a relation of one's own -/
abbrev DRG {β : Type} (A : Ow) (κ : Kx) (H : Hp) (VR : V → β → Prop) : List (NestedKey × Addr × V) → List (PyData × β) → Prop :=
  Paired fun x p => x.1 = nk p.1 ∧ Rep A κ H (.ref x.2.1) p.1 ∧ VR x.2.2 p.2
end

def lookG {β : Type} (kvs : List (PyData × β)) (k : PyData) : Option β := (kvs.find? fun p => decide (nk p.1 = nk k)).map (·.2)
section
variable {β : Type} {A : Ow} {κ : Kx} {H : Hp} {VR : V → β → Prop}
/-- as the two lists -/
theorem dr_of {xs : List (NestedKey × Addr × V)} {kvs : List (PyData × PyData)} : DRG A κ H (Rep A κ H) xs kvs ↔ Reps A κ H (xs.map fun x => V.ref x.2.1) (kvs.map (·.1)) ∧ Reps A κ H (xs.map (·.2.2)) (kvs.map (·.2)) ∧ xs.map (·.1) = kvs.map (fun p => nk p.1) := by
  constructor
  · intro h
    induction h with
    | nil => exact ⟨.nil, .nil, rfl⟩
    | cons a t ih => exact ⟨.cons a.2.1 ih.1, .cons a.2.2 ih.2.1, by rw [List.map_cons, List.map_cons, a.1, ih.2.2]⟩
  · rintro ⟨h1, h2, h3⟩
    induction xs generalizing kvs with
    | nil =>
      cases kvs with
      | nil => exact .nil
      | cons p ps => cases h3
    | cons x xs ih =>
      cases kvs with
      | nil => cases h3
      | cons p ps =>
        cases h1 with
        | cons a1 t1 =>
          cases h2 with
          | cons a2 t2 => exact .cons ⟨(List.cons.inj h3).1, a1, a2⟩ (ih t1 t2 (List.cons.inj h3).2)
theorem DRG.len {xs : List (NestedKey × Addr × V)} {kvs : List (PyData × β)} : DRG A κ H VR xs kvs → xs.length = kvs.length := fun h => by
  induction h with
  | nil => rfl
  | cons a t ih => rw [List.length_cons, List.length_cons, ih]
theorem DRG.mv {A' : Ow} {H' : Hp} {VR' : V → β → Prop} (m : Mv A A' H H') (hv : ∀ v e, VR v e → VR' v e) {xs : List (NestedKey × Addr × V)} {kvs : List (PyData × β)} (h : DRG A κ H VR xs kvs) : DRG A' κ H' VR' xs kvs :=
  L2.Paired.mapP h fun x p ⟨a, b, c⟩ => ⟨a, b.mv m, hv _ _ c⟩
theorem RepW.dic {v : V} {kvs : List (PyData × PyData)} (h : RepW A κ H v (.dict kvs)) : (∃ p xs, v = .ref p ∧ DicAt κ H p xs ∧ DRG A κ H (Rep A κ H) xs kvs ∧ ∀ p ∈ kvs, keyOk p.1 = true) ∨ ∃ ns : List Int, kvs = [(.str "<script>", .list (ns.map .int))] := by
  rcases h with h | ⟨p, rfl, ha, xs, h1, h2, h3, h4, h5⟩
  · generalize e : PyData.dict kvs = d at h
    cases h with
    | dic h1 h2 h3 h4 h5 h6 => cases e; exact .inl ⟨_, _, rfl, h1, dr_of.mpr ⟨h3, h4, h5⟩, h6⟩
    | scr h1 => cases e; exact .inr ⟨_, rfl⟩
    | _ => cases e
  · exact .inl ⟨p, xs, rfl, h1, dr_of.mpr ⟨h2, h3, h4⟩, h5⟩
end
end Dt
namespace Dt
open PySem PySem.Spec PyProof.Rows L2

section
variable {X : Cx} {pins : List (Addr × Obj)} {σ : L2.St} {H : Hp} {s : Shared} {A : Ow}
/-- a key that is looked for -/
structure KeyV (A : Ow) (κ : Kx) (H : Hp) (y : V) (b : Addr) (d : PyData) : Prop where
  eq : y = .ref b
  rep : Rep A κ H (.ref b) d
  ok : keyOk d = true
theorem KeyV.of {κ : Kx} {y : V} {d : PyData} (h : Rep A κ H y d) (k : keyOk d = true) : ∃ b, KeyV A κ H y b d := by
  unfold keyOk at k
  rw [Bool.and_eq_true, Bool.and_eq_true] at k
  cases d with
  | tuple xs =>
    cases h with
    | tup h1 h2 => exact ⟨_, rfl, .tup h1 h2, by unfold keyOk; rw [Bool.and_eq_true, Bool.and_eq_true]; exact k⟩
  | _ => simp at k
end
section
variable {X : Cx}
def Itd (P : Program) (w : World) (a : Addr) (xs : List (NestedKey × Addr × V)) (ep : Nat) : It :=
  ⟨fun i H => H a = some (DicO P w a xs ep) ∧ i < xs.length, fun i H x H' => H' = H ∧ ∃ e, xs[i]? = some e ∧ x = .ref e.2.1, fun i H => H a = some (DicO P w a xs ep) ∧ xs.length ≤ i⟩
theorem pair_at : ∀ {xs : List (NestedKey × Addr × V)} {vs : List (NestedKey × Addr × Value)} {i : Nat} {e : NestedKey × Addr × V}, Paired PairV xs vs → xs[i]? = some e → ∃ u, vs[i]? = some u ∧ PairV e u
  | _, _, _, _, .nil, h => by simp at h
  | _, _, 0, _, .cons r _, h => by simp at h; subst h; exact ⟨_, rfl, r⟩
  | _, _, i + 1, _, .cons r t, h => by
    obtain ⟨u, h1, h2⟩ := pair_at t (by simpa using h)
    exact ⟨u, by simpa using h1, h2⟩
theorem dic_raw {pins : List (Addr × Obj)} {s : Shared} {σ : L2.St} {H : Hp} {a : Addr} {xs : List (NestedKey × Addr × V)} {ep : Nat} (I : Inv X pins σ H s) (h : H a = some (DicO X.prog X.w a xs ep)) :
    (a == sysModules) = false ∧ ∃ es, s.heap.DictRaw a es ep ∧ es.size = xs.length ∧ ∀ (i : Nat) (hi : i < es.size) (e : NestedKey × Addr × V), xs[i]? = some e → es[i].key = .ref e.2.1 := by
  obtain ⟨⟨hs, _, _, o, es, vs, h1, h2, h3, h4, h5⟩, _⟩ := I.hok a _ h
  have hl : es.size = vs.length := by rw [← Array.length_toList, h5, List.length_map]
  refine ⟨hs, es, ⟨o, h1, h2, h3⟩, by rw [hl, pair_len h4], fun i hi e he => ?_⟩
  obtain ⟨u, e1, e2⟩ := pair_at h4 he
  have : es.toList[i]? = some (entryOfKey (nestedKind X.prog X.w) u) := by rw [h5, List.getElem?_map, e1]; rfl
  rw [Array.getElem?_toList, Array.getElem?_eq_getElem hi] at this
  rw [Option.some.inj this, e2.2.1]
  rfl
theorem turn_dic {P : Program} {w : World} {K : PySem.W.Frag} {tg : Expr} (a it : Addr) (xs : List (NestedKey × Addr × V)) (ep : Nat) : Turn P w K tg (Itd P w a xs ep) [it] it (fun i h => h.IsKeyIter it a i xs.length ep) where
  mem := by simp
  obj := fun i h st b hb => by
    have e : b = it := by simpa using hb
    subst e
    obtain ⟨o, e, c, d⟩ := st
    exact ⟨o, e, fun v z => by rw [d] at z; cases z⟩
  keep := fun i h h' st k => st.at fun o e => k it (by simp) o e
  item := by
    intro X hP hw hK hc i pins s σ H E I hf st hg
    subst hP hw hK
    obtain ⟨hd, hi⟩ := hg
    obtain ⟨hs, es, hm, hl, hk⟩ := dic_raw I hd
    obtain ⟨f0, f1, f2, f3, f4, f5⟩ := hf it (by simp)
    have hi' : i < es.size := by rw [hl]; exact hi
    refine wpAny_pyNext_keys_item_raw (by rw [hl]; exact st) hm hi' fun h' st' sb => ?_
    rw [hl] at st'
    have I1 : Inv X pins σ H { s with heap := h' } := I.turned (t' := s.toks) (fun b o hb e => (sb.2 b hb).trans e) f0 f1 f3 f4 f5
    obtain ⟨o, e, c, d⟩ := id st'
    rw [hk i hi' xs[i] (List.getElem?_eq_getElem hi)]
    exact ⟨_, rfl, go_of (s := { s with heap := h' }) e c d (by decide) ⟨.ref xs[i].2.1, H, I1, rfl, ⟨rfl, xs[i], List.getElem?_eq_getElem hi, rfl⟩, st', fun b hb => (hf b hb).1⟩⟩
  done := by
    intro X hP hw hK hc i pins s σ H E I hf st hg
    subst hP hw hK
    obtain ⟨hd, hi⟩ := hg
    obtain ⟨hs, es, hm, hl, hk⟩ := dic_raw I hd
    obtain ⟨f0, f1, f2, f3, f4, f5⟩ := hf it (by simp)
    exact wpAny_pyNext_keys_end_raw (I.ok.hd hc) (by rw [hl]; exact st) hm (by rw [hl]; exact hi) fun h' eb => ⟨rfl, I.turned (t' := s.toks) (fun b o hb e => eb b o hb e) f0 f1 f3 f4 f5⟩
  self := fun _ _ _ _ _ st h => wpAny_pyIter_keyiter st h
theorem pi_dic {tg l : Expr} {tl : TE} (hl : PE X l tl) : PI X tg l (fun σ H R => tl σ H fun x H1 => ∃ a xs ep, x = .ref a ∧ H1 a = some (DicO X.prog X.w a xs ep) ∧ R (Itd X.prog X.w a xs ep) H1) := by
  refine ⟨fun pins s σ H R I h => ?_⟩
  refine thn (hl.run pins s σ H _ I h) fun v s1 ⟨x, H1, I1, r1, q1⟩ => ?_
  obtain ⟨a, xs, ep, rfl, hd, q⟩ := q1
  cases r1
  obtain ⟨hs, es, hm, hz, hk⟩ := dic_raw I1 hd
  refine wpAny_pyIter_dict_raw hs hm ?_
  refine ⟨s1.heap.objs.size, [s1.heap.objs.size], _, _, H1, rfl, I1.kept (t' := s1.toks) fun b o e => Heap.get?_push_of_some _ e, turn_dic a _ xs ep, ?_, fun b hb => ?_, q⟩
  · rw [← hz]
    exact ⟨_, Heap.get?_push_size _ rfl, rfl, rfl⟩
  · have e : b = s1.heap.objs.size := by simpa using hb
    subst e
    exact I1.fpOk (Nat.le_refl _) (I1.hok.fresh (Nat.le_refl _))
end
end Dt
namespace Dt
open PySem PySem.Spec PyProof.Rows L2

/-- no script -/
def notScr {β : Type} : List (PyData × β) → Bool
  | (.str _, _) :: _ => false
  | _ => true
theorem RepW.dic' {A : Ow} {κ : Kx} {H : Hp} {v : V} {kvs : List (PyData × PyData)} (h : RepW A κ H v (.dict kvs)) (n : notScr kvs = true) : ∃ p xs, v = .ref p ∧ DicAt κ H p xs ∧ DRG A κ H (Rep A κ H) xs kvs ∧ ∀ p ∈ kvs, keyOk p.1 = true := by
  rcases h.dic with h | ⟨ns, rfl⟩
  · exact h
  · cases n
theorem DRG.any {β : Type} {A : Ow} {κ : Kx} {H : Hp} {VR : V → β → Prop} {xs : List (NestedKey × Addr × V)} {kvs : List (PyData × β)} (h : DRG A κ H VR xs kvs) : DRG A κ H (fun _ _ => True) xs kvs := L2.Paired.mapP h fun _ _ ⟨a, b, _⟩ => ⟨a, b, trivial⟩
def idxE (d e : PyData) : Res PyData := match d with
  | .dict kvs => if (keyOk e && notScr kvs) = true then match lookG kvs e with
      | some v => .ok v
      | none => .stuck
    else .stuck
  | _ => idxD d e
section
variable {α β : Type} {X : Cx} {E : XK} {ρ ρ' : List Sl} {e a b c iter tg : Expr} {es : List Expr} {r ra rb rc : Res PyData} {rt : Res Bool} {ri rs : Res (List PyData)} {pos p' p : Pos} {sh : α → List Sl} {sb : β → List Sl} {x : Str} {rest body : List Stmt}
theorem RepW.key {A : Ow} {κ : Kx} {H : Hp} {y : V} {d : PyData} (h : RepW A κ H y d) (k : keyOk d = true) : ∃ b, KeyV A κ H y b d := by
  rcases h with h | ⟨p, rfl, ha, ho⟩
  · exact KeyV.of h k
  · unfold keyOk at k
    cases d <;> first | exact ho.elim | simp at k
end
end Dt
namespace Dt
open PySem PySem.Spec PyProof.Rows L2

def intV : PyData → Int
  | .int n => n
  | _ => 0
section
variable {A : Ow} {κ : Kx} {H : Hp}
end
section
variable {X : Cx} {E : XK} {ρ : List Sl} {e : Expr} {r : Res PyData} {pos p p2 q : Pos}
end
end Dt
namespace Dt
open PySem PySem.Spec PyProof.Rows L2

section
variable {α : Type} {X : Cx} {E : XK} {ρ : List Sl} {e ke : Expr} {r : Res PyData} {pos p' px : Pos} {sh : α → List Sl} {x : Str} {rest : List Stmt}
end
end Dt
namespace Dt
open PySem PySem.Spec PyProof.Rows L2

section
variable {prog : Program} {w : World} {A : Around} {E : Value → Shared → Prop} {s : Shared}
end
section
variable {X : Cx} {E : XK} {ρ : List Sl} {e : Expr} {r : Res PyData} {pos : Pos}
def revB : PyData → Res PyData
  | .list xs => .ok (.list xs.reverse)
  | .tuple xs => .ok (.tuple xs.reverse)
  | _ => .stuck
end
end Dt
namespace Dt
open PySem PySem.Spec PyProof.Rows L2

def scrV : PyData → Option (List PyData)
  | .dict ((.str _, .list ds) :: _) => some ds
  | _ => none
theorem scrV_eq {d : PyData} {ds : List PyData} (h : scrV d = some ds) : ∃ s r, d = .dict ((.str s, .list ds) :: r) := by
  unfold scrV at h
  split at h
  · cases h; exact ⟨_, _, rfl⟩
  · cases h
@[simp] theorem scrV_D (ns : List Int) : scrV (scrD ns) = some (ns.map .int) := rfl
section
variable {A : Ow} {κ : Kx} {H : Hp}
theorem RepW.scr {v : V} {d : PyData} {ds : List PyData} (h : RepW A κ H v d) (e : scrV d = some ds) : ∃ (a : Addr) (ns : List Int), v = .ref a ∧ ds = ns.map PyData.int ∧ SqL κ.K H a (ns.map V.int) := by
  obtain ⟨s, r, rfl⟩ := scrV_eq e
  have no : ∀ {p : Prop}, (∀ p ∈ ((PyData.str s, PyData.list ds) :: r), keyOk p.1 = true) → p := fun k => by
    have := k _ List.mem_cons_self
    unfold keyOk at this
    simp at this
  rcases h with h | ⟨p, rfl, ha, ho⟩
  · generalize hd : PyData.dict ((.str s, .list ds) :: r) = d at h
    cases h with
    | dic h1 h2 h3 h4 h5 h6 =>
      cases hd
      exact no h6
    | @scr a ns h1 =>
      unfold scrD at hd
      simp only [PyData.dict.injEq, List.cons.injEq, Prod.mk.injEq, PyData.list.injEq] at hd
      refine ⟨a, ns, rfl, hd.1.2, ?_⟩
      rcases h1 with ⟨o, h1⟩ | h1
      · exact .inl (.inr ⟨o, h1⟩)
      · exact .inr h1
    | _ => cases hd
  · obtain ⟨xs, _, _, _, _, k⟩ := ho
    exact no k
theorem dp_ints : ∀ ns : List Int, DpAll κ.K H (ns.map V.int) (ns.map PyData.int)
  | [] => .nil
  | n :: ns => .cons (.int n) (dp_ints ns)
theorem lay_ints : ∀ ns : List Int, PyData.canLayAll0 (ns.map PyData.int) = true
  | [] => by simp [PyData.canLayAll0]
  | n :: ns => by simp [PyData.canLayAll0, PyData.canLay0, lay_ints ns]
theorem depth_ints : ∀ ns : List Int, PyData.depthAll (ns.map PyData.int) ≤ 1
  | [] => by simp [PyData.depthAll]
  | n :: ns => by
    have h := depth_ints ns
    simp only [List.map_cons, PyData.depthAll, PyData.depth]
    omega
theorem shp_ints (ns : List Int) : shp (.list (ns.map .int)) = true := by
  unfold shp SeqAt.shaped
  rw [Bool.and_eq_true]
  refine ⟨by simp [PyData.canLay0, lay_ints], decide_eq_true ?_⟩
  have := depth_ints ns
  simp only [PyData.depth]
  omega
end
section
variable {X : Cx} {E : XK} {ρ : List Sl} {e a b : Expr} {r ra rb : Res PyData} {pos p : Pos}
/-- script == [] -/
def nilS (d e : PyData) : Res PyData := match scrV d, e with
  | some ds, .list [] => .ok (.bool ds.isEmpty)
  | _, _ => .stuck
theorem nilS_ok (hu : X.A.units + 64 < cLine) : Op2 X (compareOp .Eq) nilS := by
  refine ⟨_, op_eqD hu, fun E A H x y d e Q tr rx ry q => ?_⟩
  unfold nilS at q
  split at q
  · rename_i ds hd
    obtain ⟨a, ns, rfl, rfl, h⟩ := rx.scr hd
    have h0 : shp (.list []) = true := by decide +kernel
    refine ⟨.list (ns.map .int), .list [], .lst h (dp_ints (κ := kx X) ns), ry.dp (shp_lay h0), shp_ints ns, h0, ?_⟩
    have e : PyData.eqv (.list (ns.map .int)) (.list []) = (ns.map PyData.int).isEmpty := by
      cases ns with
      | nil => rfl
      | cons n ns => rfl
    rw [e]
    exact q _ H (Same.refl _) (.bl _)
  · exact q.elim
/-- len(script) -/
def lenS (d : PyData) : Res PyData := match scrV d with
  | some ds => .ok (.int ds.length)
  | none => .stuck
theorem ge_lenS (hg : Gl X "len") (hm : X.mg "len" = none) (h : GW X E a ρ r) (he : starEach [a] X.env = (false, eval a X.env) :: starEach [] X.env := by rfl) (hpl : (backTo pos (starEach [] X.env)).any (·.1) = false := by rfl) :
    GE X E (.Call (.Name "len" p) [a] [] pos) ρ (r >>= lenS) := by
  obtain ⟨t, pa, hh⟩ := h.ex
  refine .mk ⟨_, pe_callB call_len_seq hg hm bt_len (pa_cons pa pa_nil he) (by decide) (by decide) he hpl, fun A σ H Q ev q => ?_⟩
  refine hh A σ H _ ev (q.bind.mono fun d qd v H1 s1 rv => ?_)
  unfold lenS at qd
  split at qd
  · rename_i ds hd
    obtain ⟨a, ns, rfl, rfl, h⟩ := rv.scr hd
    refine ⟨a, ns.map V.int, rfl, .inl h, ?_⟩
    rw [List.length_map]
    rw [List.length_map] at qd
    exact qd _ H1 s1 (.int _)
  · exact qd.elim
/-- script[i], 0 <= i -/
def ixS (d e : PyData) : Res PyData := match scrV d, e with
  | some ds, .int i => if 0 ≤ i then match ds[i.toNat]? with
    | some x => .ok x
    | none => .stuck
    else .stuck
  | _, _ => .stuck
theorem ge_ixS (ha : GW X E a ρ ra) (hb : GW X E b ρ rb) (hs : PlainIx b := by intro _ _; rfl) : GE X E (.Subscript a b pos) ρ (b2 ixS ra rb) := by
  have hr : ∀ (E : XK) (A : Ow) (H : Hp) (x y : V) (d e : PyData) (Q : VK), Tr A H → RepW A (kx X) H x d → RepW A (kx X) H y e → PostR X E H (ixS d e) (OkE X A H Q) → rIx X.K x y H Q := fun E A H x y d e Q tr rx ry q => by
    unfold ixS at q
    split at q
    · rename_i ds i hd
      obtain ⟨a, ns, rfl, rfl, h⟩ := rx.scr hd
      obtain rfl := ry.int
      split at q
      · rename_i hi
        split at q
        · rename_i x hx
          rw [List.getElem?_map] at hx
          obtain ⟨n, hn, rfl⟩ := Option.map_eq_some_iff.mp hx
          refine .inl ⟨a, ns.map V.int, i, .int n, rfl, rfl, h, ?_, q _ H (Same.refl _) (.int n)⟩
          have e : (i.toNat : Int) = i := Int.toNat_of_nonneg hi
          rw [← e]
          exact atI_nat (by rw [List.getElem?_map, hn]; rfl)
        · exact q.elim
      · exact q.elim
    · exact q.elim
  obtain ⟨ta, tb, pa, pb, h⟩ := two ha hb hr
  exact .mk ⟨_, pe_ix ix_seq pa pb hs, h⟩
end
end Dt
namespace Dt
open PySem PySem.Spec PyProof.Rows L2
/-- the law's own def: True for a script of at most 63 numbers -/
def spTop (K : PySem.W.Frag) : Sp := fun vs H Q _ => ∃ (a : Addr) (ns : List Int), vs = [.ref a] ∧ ((∃ o, H a = some (.frz o (.lst (ns.map V.int)))) ∨ SqK K a (ns.map V.int)) ∧ ns.length ≤ 63 ∧ ∀ H', Q (.bl true) H'
theorem top_true {K : PySem.W.Frag} {H : Hp} {a : Addr} {ns : List Int} (hl : ns.length ≤ 63) (ho : Only H) (hS : SqL K H a (ns.map V.int)) : spTop K [.ref a] H (fun v _ => v = .bl true) fun _ _ _ => False := by
  refine ⟨a, ns, rfl, ?_, hl, fun _ => rfl⟩
  rcases hS with (h | ⟨o, h⟩) | h
  · rcases ho a with e | ⟨o, xs, e⟩
    · rw [h] at e; cases e
    · rw [h] at e; cases e
  · exact .inl ⟨o, h⟩
  · exact .inr h
theorem top_none {P : Program} {w : World} {outer : List Env} {H : Hp} {s s' : Shared} {e : Value} (h : L2.CX P w outer H s (fun _ _ _ => False) e s') : False := by
  obtain ⟨_, _, _, _, _, _, _, _, _, _, _, _, z⟩ := h
  exact z
theorem top_mk {P : Program} {w : World} {K : PySem.W.Frag} {mg : Str → Option Value} {fa : Addr} {k : Nat} {x : Str} {F : List PyData → Res PyData} (hLaw : ∀ ns : List Int, ns.length ≤ 63 → F [scrD ns] = .ok (.bool true))
    (h : ∃ fd : FuncData, (∀ (s : Shared) (v : Value), BindsTo s fd ⟨[v], []⟩ [(x, v)]) ∧ ∀ base : Heap, K.In base → base.Ns mainGlobals mg → FnOk P w K mg base (L2.CX P w) k fa fd [x] (spF ⟨P, w, K⟩ mg F)) :
    ∃ fd : FuncData, (∀ (s : Shared) (v : Value), BindsTo s fd ⟨[v], []⟩ [(x, v)]) ∧ ∀ base : Heap, K.In base → base.Ns mainGlobals mg → FnOk P w K mg base (L2.CX P w) k fa fd [x] (spTop K) := by
  obtain ⟨fd, h1, h2⟩ := h
  refine ⟨fd, h1, fun base i n => (h2 base i n).imp fun vs H Q E z => ?_⟩
  obtain ⟨a, ns, rfl, hs, hl, q⟩ := z
  refine ⟨fun _ => none, [scrD ns], fun a h => absurd rfl h, .cons (.scr hs) .nil, ?_⟩
  rw [hLaw ns hl]
  intro v H' _ r
  cases r
  exact q H'
end Dt
namespace Dt
open PySem PySem.Spec PyProof.Rows L2

def seqE : PyData → Res (List PyData)
  | .dict kvs => if notScr kvs = true then .ok (kvs.map (·.1)) else .stuck
  | d => seqOf d
def keyG : List (NestedKey × Addr × V) → List (PyData × PyData) → Gs
  | x :: xs, p :: ps => .rep (.ref x.2.1) p.1 :: keyG xs ps
  | _, _ => []
theorem keyG_mem : ∀ {xs : List (NestedKey × Addr × V)} {kvs : List (PyData × PyData)} {i : Nat} {e : NestedKey × Addr × V} {p : PyData × PyData}, xs[i]? = some e → kvs[i]? = some p → GItem.rep (.ref e.2.1) p.1 ∈ keyG xs kvs
  | [], _, _, _, _, h, _ => by simp at h
  | _ :: _, [], _, _, _, _, h => by simp at h
  | x :: xs, q :: qs, 0, _, _, h, h' => by
    simp at h h'
    subst h h'
    exact List.mem_cons_self
  | x :: xs, q :: qs, i + 1, _, _, h, h' => List.mem_cons_of_mem _ (keyG_mem (by simpa using h) (by simpa using h'))
theorem keyG_ok {A : Ow} {κ : Kx} {H : Hp} : ∀ {xs : List (NestedKey × Addr × V)} {kvs : List (PyData × PyData)}, Reps A κ H (xs.map fun x => V.ref x.2.1) (kvs.map (·.1)) → ∀ g ∈ keyG xs kvs, GOk A κ H g
  | [], _, _, g, h => by cases h
  | _ :: _, [], _, g, h => by cases h
  | x :: xs, q :: qs, .cons r t, g, h => by
    rcases List.mem_cons.mp h with e | e
    · rw [e]; exact r
    · exact keyG_ok t g e
theorem wk_dic {κ : Kx} {a : Addr} {xs : List (NestedKey × Addr × V)} {ep : Nat} {kvs : List (PyData × PyData)} (hl : xs.length = kvs.length) : Wk κ (Itd κ.P κ.w a xs ep) (.pin a (DicO κ.P κ.w a xs ep) :: keyG xs kvs) (kvs.map (·.1)) where
  go := fun A i d H tr g e => by
    have hp : H a = some (DicO κ.P κ.w a xs ep) ∧ A a = none := g _ List.mem_cons_self
    rw [List.getElem?_map] at e
    obtain ⟨p, hk, rfl⟩ := Option.map_eq_some_iff.mp e
    have hi : i < kvs.length := (List.getElem?_eq_some_iff.mp hk).1
    have hx : xs[i]? = some xs[i] := List.getElem?_eq_getElem (by omega)
    refine ⟨⟨hp.1, by omega⟩, fun x H' y => ?_⟩
    obtain ⟨rfl, e1, h1, rfl⟩ := y
    exact ⟨Same.refl _, g _ (List.mem_cons_of_mem _ (keyG_mem h1 hk))⟩
  stop := fun A i H tr g e => by
    have hp : H a = some (DicO κ.P κ.w a xs ep) ∧ A a = none := g _ List.mem_cons_self
    rw [List.length_map] at e
    exact ⟨hp.1, by omega⟩
section
variable {X : Cx} {E : XK} {ρ : List Sl} {iter tg : Expr} {r : Res PyData}
theorem gi_seqE (h : GE X E iter ρ r) : GI X E tg iter ρ (r >>= seqE) := by
  have z := gi_seq (tg := tg) h
  cases r with
  | ok d =>
    cases d with
    | dict kvs =>
      intro A σ H R ev q
      have q : PostR X E H (if notScr kvs = true then .ok (kvs.map (·.1)) else .stuck) (OkI X A H R) := q
      by_cases hns : notScr kvs = true
      · rw [if_pos hns] at q
        refine ⟨_, pi_dic we_ok, ?_⟩
        refine h A σ H _ ev fun v H1 s1 rv => ?_
        generalize hd : PyData.dict kvs = d at rv
        cases rv with
        | dic h1 h2 h3 h4 h5 h6 =>
          cases hd
          obtain ⟨ep, h1⟩ := h1
          have hl := h3.length
          rw [List.length_map, List.length_map] at hl
          refine ⟨_, _, ep, rfl, h1, q _ _ H1 s1 ?_ (wk_dic (κ := kx X) hl)⟩
          intro g hg
          rcases List.mem_cons.mp hg with e | e
          · rw [e]; exact ⟨h1, h2⟩
          · exact keyG_ok h3 g e
        | scr h1 =>
          cases hd
          cases hns
        | _ => cases hd
      · rw [if_neg hns] at q
        exact q.elim
    | _ => exact z
  | err c => exact z
  | stuck => exact z
end
end Dt
namespace Dt
open PySem PySem.Spec PyProof.Rows L2

section
variable {prog : Program} {w : World} {A : Around} {E : Value → Shared → Prop} {s : Shared} {a b : Addr} {oa ob : Obj} {es : Array DictEntry} {ep ep' : Nat}
end
section
variable {X : Cx}
def eqE (d e : PyData) : Res PyData := match d, e with
  | .dict kvs, .dict [] => if notScr kvs = true then .ok (.bool kvs.isEmpty) else .stuck
  | _, _ => eqD d e
def neE (d e : PyData) : Res PyData := match d, e with
  | .dict kvs, .dict [] => if notScr kvs = true then .ok (.bool (!kvs.isEmpty)) else .stuck
  | _, _ => neD d e
end
end Dt
namespace Dt
open PySem PySem.Spec PyProof.Rows L2

section
variable {X : Cx} {E : XK} {ρ : List Sl} {ke ve : Expr} {r rb : Res PyData} {pos : Pos}
end
section
variable {α : Type} {X : Cx} {E : XK} {ρ : List Sl} {pos p p' : Pos} {sh : α → List Sl} {x : Str} {rest : List Stmt}
end
end Dt
namespace Dt
open PySem PySem.Spec PyProof.Rows L2

theorem tuple_mulSame (l : Addr) (items : Array Value) (n : Nat) (dd : Option Addr) (sl : Array (Option Value)) (x : Int) (u : Tok) (c0 : (decide (x < -(2 ^ 63)) || decide (x ≥ 2 ^ 63)) = false) (c1 : (items.isEmpty || x == 1) = true) :
    Meets (Builtin.«tuple.__mul__» ⟨[.ref l, .int x u], []⟩) (fun _ R s => s.heap.get? l = some { cls := .type "tuple", dict := dd, data := .seq items n, slots := sl } ∧ R (.ok (.ret (Value.ref l))) s) :=
  .of_wp fun prog w A R s h => by
    obtain ⟨hp, g, d, tk, os⟩ := s
    obtain ⟨hl, h⟩ := h
    have f1 := AutoSeq1.idx_int
    have ht : (⟨hp, g, d, tk, os⟩ : Shared).TypeIs (.ref l) "tuple" := ⟨_, hl, rfl⟩
    wp_walk using wpAny_loadPart' hl
    repeat (first
      | (refine wpAny_ite_false (decide_eq_false (by rw [c0]; exact Bool.false_ne_true)) ?_; wp_walk using wpAny_loadPart' hl)
      | (refine wpAny_ite_true (decide_eq_true c1) ?_; wp_walk using wpAny_loadPart' hl))
    exact ⟨_, rfl, h⟩
theorem tuple_mulNone (l : Addr) (items : Array Value) (n : Nat) (dd : Option Addr) (sl : Array (Option Value)) (x : Int) (u : Tok) (c0 : (decide (x < -(2 ^ 63)) || decide (x ≥ 2 ^ 63)) = false) (c1 : (items.isEmpty || x == 1) = false) (c2 : (decide (x ≤ 0) || items.isEmpty) = true) :
    Meets (Builtin.«tuple.__mul__» ⟨[.ref l, .int x u], []⟩) (fun _ R s => s.heap.get? l = some { cls := .type "tuple", dict := dd, data := .seq items n, slots := sl } ∧
      R (.ok (.ret (Value.ref s.heap.objs.size))) { s with heap := s.heap.push { cls := Value.type "tuple", data := Data.seq #[] }, toks := s.toks }) :=
  .of_wp fun prog w A R s h => by
    obtain ⟨hp, g, d, tk, os⟩ := s
    obtain ⟨hl, h⟩ := h
    have f1 := AutoSeq1.idx_int
    wp_walk using wpAny_loadPart' hl
    repeat (first
      | (refine wpAny_ite_false (decide_eq_false (by rw [c0]; exact Bool.false_ne_true)) ?_; wp_walk using wpAny_loadPart' hl)
      | (refine wpAny_ite_false (decide_eq_false (by rw [c1]; exact Bool.false_ne_true)) ?_; wp_walk using wpAny_loadPart' hl)
      | (refine wpAny_ite_true (decide_eq_true c2) ?_; wp_walk using wpAny_loadPart' hl))
    exact ⟨_, rfl, h⟩
def rRepS (K : PySem.W.Frag) : R2 := fun x y H Q => ∃ l k xs, x = .ref l ∧ y = .int k ∧ SqT K H l xs ∧ -1000 ≤ k ∧ k ≤ 1000 ∧ ((xs = [] ∨ k = 1) ∧ Q (.ref l) H ∨ xs ≠ [] ∧ k ≤ 0 ∧ ∀ p, H p = none → Q (.ref p) (upd H p (.tup [])))
section
variable {X : Cx}
theorem op_repS : OpR X (binaryOp .Mult) (rRepS X.K) := by
  intro pins s σ H x y v u Q I rx ry h
  obtain ⟨l, k, xs, rfl, rfl, hT, h1, h2, q⟩ := h
  cases rx
  obtain ⟨t, rfl⟩ := ry
  obtain ⟨its, r, ⟨⟨cls, dd, data, sl⟩, ho, hc, n, hd⟩, hs⟩ := I.tuple hT
  simp only at hc hd
  subst hc hd
  have hle : its.length = xs.length := r.length.symm
  have c0 : (decide (k < -(2 ^ 63)) || decide (k ≥ 2 ^ 63)) = false := by
    rw [decide_eq_false (by omega), decide_eq_false (by omega)] <;> rfl
  rcases q with ⟨hk, q⟩ | ⟨hn, hk, q⟩
  · have c1 : (its.toArray.isEmpty || k == 1) = true := by
      rcases hk with e | e
      · rw [e] at hle
        rw [List.eq_nil_of_length_eq_zero hle]
        rfl
      · rw [e, show ((1 : Int) == 1) = true from rfl, Bool.or_true]
    exact wpAny_binaryOp_repeat_ref (T := "tuple") (U := "int") (by decide) ⟨_, ho, rfl⟩ (fun s' => typeIs_int s' k t) noFill_tuple_mul F.fills_int_mul F.slot_int_rmul repeat_tuple F.slot_int_index.lookup
      (call_meets F.slot_int_rmul (typeIs_int s k t) F.entry_int_rmul (F.args_int_rmul_2 _ _) (int_rmul_tuple k t l its.toArray n dd sl)
        ⟨ho, rfl, ⟨_, ho, rfl⟩, call_meets F.slot_tuple_mul ⟨_, ho, rfl⟩ F.entry_tuple_mul (F.args_tuple_mul_2 _ _) (tuple_mulSame l its.toArray n dd sl k t c0 c1) ⟨ho, ⟨.ref l, H, I, rfl, q⟩⟩⟩)
  · have hi : its.toArray.isEmpty = false := by
      cases its with
      | nil => exact absurd (List.eq_nil_of_length_eq_zero hle.symm) hn
      | cons a b => rfl
    have c1 : (its.toArray.isEmpty || k == 1) = false := by
      rw [hi, Bool.false_or]
      exact beq_eq_false_iff_ne.mpr (by omega)
    have c2 : (decide (k ≤ 0) || its.toArray.isEmpty) = true := by
      rw [decide_eq_true hk, Bool.true_or]
    refine wpAny_binaryOp_repeat_ref (T := "tuple") (U := "int") (by decide) ⟨_, ho, rfl⟩ (fun s' => typeIs_int s' k t) noFill_tuple_mul F.fills_int_mul F.slot_int_rmul repeat_tuple F.slot_int_index.lookup
      (call_meets F.slot_int_rmul (typeIs_int s k t) F.entry_int_rmul (F.args_int_rmul_2 _ _) (int_rmul_tuple k t l its.toArray n dd sl)
        ⟨ho, rfl, ⟨_, ho, rfl⟩, call_meets F.slot_tuple_mul ⟨_, ho, rfl⟩ F.entry_tuple_mul (F.args_tuple_mul_2 _ _) (tuple_mulNone l its.toArray n dd sl k t c0 c1 c2) ⟨ho, ?_⟩⟩)
    refine ⟨.ref s.heap.objs.size, _, I.laid (t' := s.toks) (o := .tup []) (fun b ob q => Heap.get?_push_of_some _ q) (Nat.le_refl _) ?_, rfl, q _ (I.hok.fresh (Nat.le_refl _))⟩
    exact ⟨Nat.zero_le _, [], .nil, IsTup.new _ _⟩
/-- with tuples any number of times -/
def mulE (d e : PyData) : Res PyData := match d, e with
  | .tuple xs, .int k => if -1000 ≤ k ∧ k ≤ 1000 ∧ xs.length ≤ 1000 then .ok (.tuple (List.replicate k.toNat xs).flatten) else .stuck
  | _, _ => mulD d e
theorem flat_nil (k : Nat) : (List.replicate k ([] : List PyData)).flatten = [] := by
  induction k with
  | zero => rfl
  | succ k ih => rw [List.replicate_succ, List.flatten_cons, ih]; rfl
theorem mulE_ok : Op2 X (binaryOp .Mult) mulE := by
  obtain ⟨r, ho, hr⟩ := (mul_ok (X := X))
  refine ⟨_, ho.or op_repS, fun E A H x y d e Q tr rx ry q => ?_⟩
  unfold mulE at q
  split at q
  · rename_i xs k
    split at q
    · rename_i hz
      by_cases h : xs ≠ [] ∧ 2 ≤ k
      · refine .inl (hr E A H x y (.tuple xs) (.int k) Q tr rx ry ?_)
        unfold mulD
        dsimp only
        rw [if_pos ⟨h.1, h.2, hz.2.1, hz.2.2⟩]
        exact q
      · obtain ⟨p, vs, rfl, h1, h2⟩ := rx.tup
        obtain rfl := ry.int
        refine .inr ⟨p, k, vs, rfl, rfl, h1, hz.1, hz.2.1, ?_⟩
        by_cases e : xs = []
        · subst e
          cases h2
          rw [flat_nil] at q
          exact .inl ⟨.inl rfl, q _ H (Same.refl _) (.tup h1 .nil)⟩
        · have hk : k ≤ 1 := by
            by_cases z : 2 ≤ k
            · exact absurd ⟨e, z⟩ h
            · omega
          by_cases e1 : k = 1
          · subst e1
            refine .inl ⟨.inr rfl, q _ H (Same.refl _) (.tup h1 ?_)⟩
            have : (List.replicate (Int.toNat 1) xs).flatten = xs := by simp
            rw [this]
            exact h2
          · refine .inr ⟨fun z => e (by subst z; cases h2; rfl), by omega, fun p n => ?_⟩
            have : (List.replicate (Int.toNat k) xs).flatten = [] := by
              rw [show k.toNat = 0 by omega]; rfl
            rw [this] at q
            exact q _ _ (same_new n) (Rep.new_tup n .nil)
    · exact q.elim
  · exact .inl (hr E A H x y d e Q tr rx ry q)
end
end Dt
namespace Dt
open PySem PySem.Spec PyProof.Rows L2

theorem Paired.mapMem {α β : Type} {F G : α → β → Prop} : ∀ {l : List α} {m : List β}, Paired F l m → (∀ a ∈ l, ∀ b, F a b → G a b) → Paired G l m
  | _, _, .nil, _ => .nil
  | _, _, .cons r t, f => .cons (f _ List.mem_cons_self _ r) (Paired.mapMem t fun a h => f a (List.mem_cons_of_mem _ h))
theorem Paired.len2 {α β : Type} {F : α → β → Prop} : ∀ {l : List α} {m : List β}, Paired F l m → l.length = m.length
  | _, _, .nil => rfl
  | _, _, .cons r t => by rw [List.length_cons, List.length_cons, Paired.len2 t]
section
variable {α β : Type} {X : Cx} {E : XK} {ρ ρ' : List Sl} {e a b c iter tg : Expr} {es : List Expr} {r ra rb rc : Res PyData} {rt : Res Bool} {ri rs : Res (List PyData)} {pos p' p : Pos} {sh : α → List Sl} {sb : β → List Sl} {x : Str} {rest body : List Stmt}
end
end Dt
namespace Dt
open PySem PySem.Spec PyProof.Rows L2

section
variable {α β : Type} {X : Cx} {E : XK} {ρ ρ' : List Sl} {e a b c iter tg : Expr} {es : List Expr} {r ra rb rc : Res PyData} {rt : Res Bool} {ri rs : Res (List PyData)} {pos p' p : Pos} {sh : α → List Sl} {sb : β → List Sl} {x : Str} {rest body : List Stmt}
/-- x = [[..] for ..], the rows owned too -/
def insL (A : Ow) (p : Addr) (qs : List Addr) (n : Nat) : Ow := fun a => if a = p ∨ a ∈ qs then some n else A a
theorem insL_ne {A : Ow} {p : Addr} {qs : List Addr} {n : Nat} {a : Addr} (h : ¬ (a = p ∨ a ∈ qs)) : insL A p qs n a = A a := if_neg h
end
end Dt
namespace Dt
open PySem PySem.Spec PyProof.Rows L2

def odAt (kvs : List (PyData × List PyData)) (d : PyData) : Res PyData := if keyOk d = true then match lookG kvs d with
    | some l => .ok (.list l)
    | none => .stuck
  else .stuck
section
variable {α β : Type} {X : Cx} {E : XK} {ρ ρ' : List Sl} {e a b c iter tg : Expr} {es : List Expr} {r ra rb rc : Res PyData} {rt : Res Bool} {ri rs : Res (List PyData)} {pos p' p : Pos} {sh : α → List Sl} {sb : β → List Sl} {x : Str} {rest body : List Stmt}
/-- d[k] = [..], k new -/
def odPut (kvs : List (PyData × List PyData)) (k : PyData) (l : List PyData) : Res (List (PyData × List PyData)) := if (keyOk k && decide (kvs.length < sizeLine) && (lookG kvs k).isNone) = true then .ok (kvs ++ [(k, l)]) else .stuck
/-- the first entry of k holds l -/
def setF {β : Type} : List (PyData × β) → PyData → β → List (PyData × β)
  | [], _, _ => []
  | p :: kvs, k, l => if nk p.1 = nk k then (p.1, l) :: kvs else p :: setF kvs k l
def odRow (kvs : List (PyData × List PyData)) (d : PyData) : Res (PyData × List PyData) := if keyOk d = true then match lookG kvs d with
    | some l => .ok (d, l)
    | none => .stuck
  else .stuck
def setOD {α : Type} (kvs : List (PyData × List PyData)) (r rb rc : Res PyData) (k : List (PyData × List PyData) → Res (Out α)) : Res (Out α) :=
  r >>= fun d => rb >>= fun a => odRow kvs a >>= fun p => rc >>= fun b => setR p.2 b d >>= fun row => k (setF kvs p.1 row)
end
end Dt
namespace Dt
open PySem PySem.Spec PyProof.Rows L2

def slO : Option PyData → Sl
  | none => .no
  | some d => .fz d
def unO {γ : Type} (o : Option PyData) (k : PyData → Res γ) : Res γ := match o with
  | none => .stuck
  | some d => k d
@[simp] theorem unO_some {γ : Type} (d : PyData) (k : PyData → Res γ) : unO (some d) k = k d := rfl
theorem Le.o {l m : List Sl} (h : Le l m) : Le (slO none :: l) (.no :: m) := .cons (.eq _) h
section
variable {α β : Type} {X : Cx} {E : XK} {ρ ρ' : List Sl} {e a b c iter tg : Expr} {es : List Expr} {r ra rb rc : Res PyData} {rt : Res Bool} {ri rs : Res (List PyData)} {pos p' p p2 q : Pos} {sh : α → List Sl} {sb : β → List Sl} {x : Str} {rest body : List Stmt}
end
end Dt
namespace Dt
open PySem PySem.Spec PyProof.Rows L2

section
variable {α β : Type} {X : Cx} {E : XK} {ρ ρ' : List Sl} {e a b c iter tg : Expr} {es : List Expr} {r ra rb rc : Res PyData} {rt : Res Bool} {ri rs : Res (List PyData)} {pos p' p p2 q : Pos} {sh : α → List Sl} {sb : β → List Sl} {x : Str} {rest body : List Stmt}
end
end Dt
namespace Dt
open PySem PySem.Spec PyProof.Rows L2
def odNot (kvs : List (PyData × List PyData)) (d : PyData) : Res Bool := if keyOk d = true then .ok (!(lookG kvs d).isSome) else .stuck
end Dt
namespace Dt
open PySem PySem.Spec PyProof.Rows L2

theorem reads_noas {h : Heap} : ∀ {v : Value} {d : PyData} {as : List Addr}, Reads h v d as → keyIn d = true → as = []
  | _, _, _, .none, _ => rfl
  | _, _, _, .bool _, _ => rfl
  | _, _, _, .int _ _, _ => rfl
  | _, _, _, .str _ _, _ => rfl
  | _, _, _, .list _ _ _ _, k => by simp [keyIn] at k
  | _, _, _, .dict _ _ _ _ _, k => by simp [keyIn] at k
  | _, _, _, .tuple _ _ _ r, k => all_noas r (by simpa [keyIn] using k)
where all_noas {h : Heap} : ∀ {vs : List Value} {ds : List PyData} {as : List Addr}, ReadsAll h vs ds as → keysIn ds = true → as = []
  | _, _, _, .nil, _ => rfl
  | _, _, _, .cons r rs, k => by
    rw [keysIn, Bool.and_eq_true] at k
    rw [reads_noas r k.1, all_noas rs k.2]
    rfl
section
variable {X : Cx} {pins : List (Addr × Obj)} {σ : L2.St} {H : Hp} {s : Shared} {A : Ow}
/-- a dict's raw object, and its keys as values -/
theorem dic_keys (I : Inv X pins σ H s) {a : Addr} {xs : List (NestedKey × Addr × V)} {ep : Nat} (h : H a = some (DicO X.prog X.w a xs ep)) :
    (a == sysModules) = false ∧ xs.length ≤ sizeLine ∧ ∃ es, s.heap.DictRaw a es ep ∧ es.size = xs.length ∧ ∀ (i : Nat) (hi : i < es.size) (e : NestedKey × Addr × V), xs[i]? = some e → es[i].key = .ref e.2.1 := by
  obtain ⟨hs, es, h1, h2, h3⟩ := dic_raw I h
  obtain ⟨⟨_, hz, _⟩, _⟩ := I.hok a _ h
  exact ⟨hs, hz, es, h1, h2, h3⟩
theorem vals_refs (xs : List (NestedKey × Addr × V)) : Vals (xs.map fun x => V.ref x.2.1) (xs.map fun x => Value.ref x.2.1) := by
  induction xs with
  | nil => exact .nil
  | cons x xs ih => exact .cons rfl ih
theorem each_readsN (I : Inv X pins σ H s) {a : Addr} : ∀ {vs : List V} {us : List Value} {ds : List PyData}, Vals vs us → Reps A (kx X) H vs ds → PyData.canLayAll0 ds = true → keysIn ds = true → PySem.W.EachIs (fun (v : Value) (b : V × PyData) => ∃ as, Reads s.heap v b.2 as ∧ a ∉ as) us (vs.zip ds)
  | _, _, _, .nil, .nil, _, _ => .nil
  | _, _, _, .cons r t, .cons r' t', h, k => by
    rw [PyData.canLayAll0, Bool.and_eq_true] at h
    rw [keysIn, Bool.and_eq_true] at k
    obtain ⟨as, z⟩ := Dp.reads I _ _ _ (r'.dp h.1) r
    refine .cons ⟨as, z, ?_⟩ (each_readsN I t t' h.2 k.2)
    rw [reads_noas z k.1]
    simp
theorem keysIn_of : ∀ {kvs : List (PyData × PyData)}, (∀ p ∈ kvs, keyOk p.1 = true) → keysIn (kvs.map (·.1)) = true
  | [], _ => rfl
  | p :: kvs, h => by
    have z := h p List.mem_cons_self
    unfold keyOk at z
    rw [Bool.and_eq_true, Bool.and_eq_true] at z
    rw [List.map_cons, keysIn, z.1.2, keysIn_of fun q hq => h q (List.mem_cons_of_mem _ hq)]
    rfl
end
section
variable {X : Cx}
def rSortDic (X : Cx) : List V → Hp → VK → Prop := fun vs H Q => ∃ (A : Ow) (a : Addr) (xs : List (NestedKey × Addr × V)) (ep : Nat) (ds : List PyData), vs = [V.ref a] ∧ H a = some (DicO X.prog X.w a xs ep) ∧ Reps A (kx X) H (xs.map fun x => V.ref x.2.1) ds ∧ keysIn ds = true ∧ sortable ds = true ∧ ds.all shp = true ∧
  ∀ (ys : List V) (p : Addr), Reps A (kx X) H ys (sorD ds) → H p = none → Q (.ref p) (upd H p (.lst ys))
theorem cr_sortDic (hc : X.calm = true) (hu : X.A.units + 70 < cLine) : CallR X (.builtin "sorted") (rSortDic X) := by
  intro pins s σ H vs us Q I r h
  obtain ⟨A, a, xs, ep, ds, rfl, ha, rs, hk, hso, hsh, q⟩ := h
  rw [Vals.ref1 r]
  obtain ⟨lo, hz, es, hm, hl, hkey⟩ := dic_keys I ha
  refine Calls.call_function_entry PyProof.Rows.kind_sorted PyProof.Rows.plain_sorted PyProof.Rows.entry_sorted (PyProof.Rows.args_sorted1 _) ?_
  unfold Builtin.«sorted»
  refine wpAny_bind (m := checkCount "sorted" 1 1 _) (wpAny_pure ?_)
  refine wpAny_bind (PySem.W.kdu_collect (A := X.A.in1) (KdlSrc.rawDict (es := es) (ep := ep) lo) (I.ok.hd hc) hm (by rw [hl]; exact hz) fun h' tk acc hkp hacc => ?_)
  have eacc : acc.toList = xs.map fun x => Value.ref x.2.1 := by
    refine List.ext_getElem? fun j => ?_
    by_cases hj : j < acc.size
    · have hjx : j < xs.length := by rw [← hl, ← hacc.1]; exact hj
      obtain ⟨hi, e⟩ := hacc.2 j acc[j] (Array.getElem?_eq_getElem hj)
      rw [Array.getElem?_toList, Array.getElem?_eq_getElem hj, List.getElem?_map, List.getElem?_eq_getElem hjx, e, hkey j hi xs[j] (List.getElem?_eq_getElem hjx)]
      rfl
    · rw [List.getElem?_eq_none (by rw [Array.length_toList]; omega), List.getElem?_eq_none (by rw [List.length_map, ← hl, ← hacc.1]; omega)]
  have hlen : acc.toList.length ≤ sizeLine := by rw [eacc, List.length_map]; exact hz
  have I1 : Inv X pins σ H { s with heap := h', toks := tk } := I.kept hkp
  refine wpAny_bind (wpAny_newList ?_ hlen)
  have I2 : Inv X pins σ H { s with heap := h'.push (seqObj "list" acc.toList.toArray 0), toks := tk } := I1.kept (t' := tk) fun b o e => Heap.get?_push_of_some _ e
  have hoL : (h'.push (seqObj "list" acc.toList.toArray 0)).get? h'.objs.size = some (seqObj "list" acc.toList.toArray 0) := Heap.get?_push_size _ rfl
  show wpAny _ _ _ _ _ { s with heap := h'.push (seqObj "list" acc.toList.toArray 0), toks := tk }
  have rv : Vals (xs.map fun x => V.ref x.2.1) acc.toList := by rw [eacc]; exact vals_refs xs
  obtain ⟨z1, z2, z3⟩ := reps_zip rs
  obtain ⟨hal, hkk⟩ := sortable_ok hso
  have dl : ((xs.map fun x => V.ref x.2.1).zip ds).length ≤ sizeLine := by
    rw [List.length_zip, rs.length, Nat.min_self, ← rs.length, List.length_map]; exact hz
  refine wpAny_bind (wpAny_holding (PySem.W.list_sort_data (s := { s with heap := h'.push (seqObj "list" acc.toList.toArray 0), toks := tk }) (R := fun u b => RelV b.1 u) (bs := (xs.map fun x => V.ref x.2.1).zip ds) (enc := fun b : V × PyData => b.2) (vs := acc.toList) hoL (each_of (H := H) rv rs.length) (each_readsN I2 rv rs (lay_all hsh) hk) (by rw [z2]; exact hal) (by rw [z2]; exact hkk) dl (fun b hb => ?_) fun out hlo ho => ?_))
  · have hm : b.2 ∈ ds := by rw [← z2]; exact List.mem_map_of_mem hb
    have h1 := List.all_eq_true.mp hsh _ hm
    have h2 : b.2.depth ≤ 64 := of_decide_eq_true (Bool.and_eq_true_iff.mp h1).2
    show X.A.units + 1 + 1 + b.2.depth < cLine
    omega
  · obtain ⟨e', he'⟩ := PyProof.Rows.sortedHeap_at (vs := acc.toList) (out := out.toArray) hoL
    have hv := vals_each ho
    have hlen2 : ((((xs.map fun x => V.ref x.2.1).zip ds).mergeSort (PySem.W.dataLe false fun b : V × PyData => b.2)).map (·.1)).length ≤ sizeLine := by
      rw [List.length_map, List.length_mergeSort]; exact dl
    have hr : Reps A (kx X) H ((((xs.map fun x => V.ref x.2.1).zip ds).mergeSort (PySem.W.dataLe false fun b : V × PyData => b.2)).map (·.1)) (sorD ds) := by
      have e : sorD ds = (((xs.map fun x => V.ref x.2.1).zip ds).mergeSort (PySem.W.dataLe false fun b : V × PyData => b.2)).map (·.2) := by rw [map_sort, z2]
      rw [e]
      exact reps_of_zip fun p hp => z3 p (List.mem_mergeSort.mp hp)
    refine wpAny_pure ⟨_, rfl, .ref h'.objs.size, _, I1.laid (o := .lst ((((xs.map fun x => V.ref x.2.1).zip ds).mergeSort (PySem.W.dataLe false fun b : V × PyData => b.2)).map (·.1))) (t' := tk) (fun b u e => ?_) (Nat.le_refl _) ⟨hlen2, out, e', hv, ?_⟩, rfl, q _ _ hr (I1.hok.fresh (Nat.le_refl _))⟩
    · have hb : b < h'.objs.size := Heap.lt_size e
      rw [PyProof.Rows.sortedHeap_old (Nat.ne_of_lt hb) (by rw [size_push']; exact Nat.lt_succ_of_lt hb)]
      exact Heap.get?_push_of_some _ e
    · first
        | exact he'
        | simpa using he'
/-- sorted of lists and of dicts -/
def sortE : List PyData → Res (List PyData)
  | [.dict kvs] => if (notScr kvs && sortable (kvs.map (·.1)) && (kvs.map (·.1)).all shp) = true then .ok (sorD (kvs.map (·.1))) else .stuck
  | ds => sortC ds
theorem sortE_ok (hc : X.calm = true) (hu : X.A.units + 70 < cLine) : OpCO X (.builtin "sorted") sortE := by
  obtain ⟨r, h1, h2⟩ := sort_ok hu
  refine ⟨_, h1.or (cr_sortDic hc hu), fun E A H xs ds Q tr rx q => ?_⟩
  unfold sortE at q
  split at q
  · split at q
    · rename_i hz
      rw [Bool.and_eq_true, Bool.and_eq_true] at hz
      cases rx with
      | cons r t =>
        cases t
        obtain ⟨p, ys, rfl, ⟨ep, h3⟩, h4, h5⟩ := r.dic' hz.1.1
        obtain ⟨d1, d2, d3⟩ := dr_of.mp h4
        refine .inr ⟨A, p, ys, ep, _, rfl, h3, d1, keysIn_of h5, hz.1.2, hz.2, fun zs l rs n => ?_⟩
        exact q l H _ (Same.refl _) n (same_new n) ⟨_, upd_same, (rs.newA n).same (same_new n)⟩
    · exact q.elim
  · exact .inl (h2 E A H xs ds Q tr rx q)
end
end Dt
namespace Dt
open PySem PySem.Spec PyProof.Rows L2 PySem.W

def comparable (ds : List PyData) : Bool := (ds.all fun d => ds.all fun e => alike d e) && (ds.all fun d => match d with | .none => false | _ => true) && ds.all shp
section
variable {X : Cx} {pins : List (Addr × Obj)} {σ : L2.St} {H : Hp} {s : Shared} {A : Ow}
end
section
variable {X : Cx}
def minC : List PyData → Res PyData
  | [.list (d :: ds)] => if comparable (d :: ds) = true then .ok (minD d ds) else .stuck
  | [.tuple (d :: ds)] => if comparable (d :: ds) = true then .ok (minD d ds) else .stuck
  | [.dict (p :: kvs)] => if (notScr (p :: kvs) && comparable ((p :: kvs).map (·.1))) = true then .ok (minD p.1 (kvs.map (·.1))) else .stuck
  | [.int i, .int j] => .ok (.int (if j < i then j else i))
  | _ => .stuck
end
end Dt
namespace Dt
open PySem PySem.Spec PyProof.Rows L2

theorem meets_enum1 {v : Value} {o : Obj} {H : Heap → Prop} (B : Begins v o H) :
    Meets (Builtin.«enumerate.__new__» ⟨[.type "enumerate", v], []⟩) (fun _ R s => H s.heap ∧
      R (.ok (.ret (.ref (s.heap.push o).objs.size))) { s with heap := (s.heap.push o).push { cls := .type "enumerate", data := .fields #[.none, .bool false, .ref s.heap.objs.size, rawInt 0, .none, .none] } }) :=
  .of_wp fun prog w A R s h => by
    obtain ⟨hp, g, d, tk, os⟩ := s; obtain ⟨h1, h⟩ := h
    have hsub := sub_enumerate
    have q1 : ∀ {A' : Around} {E : Value → Shared → Prop} {Q : Value → Shared → Prop}, Q (.ref hp.objs.size) ⟨hp.push o, g, d, tk, os⟩ → wpAny (model prog w) A' (pyIter v) Q E ⟨hp, g, d, tk, os⟩ :=
      fun q => B.iter prog w _ _ ⟨hp, g, d, tk, os⟩ _ h1 q
    wp_walk using q1
    refine wpAny_stack_any fun st => wpAny_pure ?_
    split
    · rename_i c _ _ _ _ _
      cases (c == Value.type "enumerate")
      · wp_walk using q1
        exact ⟨_, rfl, h⟩
      · wp_walk using q1
        exact ⟨_, rfl, h⟩
    · wp_walk using q1
      exact ⟨_, rfl, h⟩
theorem enum_begins1 {prog : Program} {w : World} {A : Around} {E : Value → Shared → Prop} {s : Shared} {v : Value} {o : Obj} {H : Heap → Prop} {Q : Value → Shared → Prop} (B : Begins v o H) (h1 : H s.heap)
    (h : ∀ h', IsEnum h' (s.heap.objs.size + 1) s.heap.objs.size 0 .none → h'.get? s.heap.objs.size = some o → h'.objs.size = s.heap.objs.size + 2 →
      (∀ b o, s.heap.get? b = some o → h'.get? b = some o) → Q (.ref (s.heap.objs.size + 1)) { s with heap := h' }) :
    wpAny (model prog w) A (call (.type "enumerate") [v]) Q E s := by
  refine callType_new F.called_enumerate (by decide) (F.typeCall_enumerate_1 _) (F.newCall_enumerate_1 _) (fun obj => F.args_object_init_2 obj _) F.entry_enumerate_new
    (meets_enum1 B) ⟨h1, ?_⟩
  have hz : (s.heap.push o).objs.size = s.heap.objs.size + 1 := Heap.size_push ..
  show _ ∧ _
  rw [hz]
  have he : IsEnum ((s.heap.push o).push { cls := .type "enumerate", data := .fields #[.none, .bool false, .ref s.heap.objs.size, rawInt 0, .none, .none] }) (s.heap.objs.size + 1) s.heap.objs.size 0 .none := by
    have := Heap.get?_push_size (s.heap.push o) (o := { cls := .type "enumerate", data := .fields #[.none, .bool false, .ref s.heap.objs.size, rawInt 0, .none, .none] }) rfl
    rw [hz] at this; exact this
  refine ⟨⟨_, he, rfl⟩, h _ he (Heap.get?_push_of_some _ (Heap.get?_push_size _ B.free)) (by rw [Heap.size_push, hz]) fun b o x => Heap.get?_push_of_some _ (Heap.get?_push_of_some _ x)⟩
theorem enum_endT {prog : Program} {w : World} {A : Around} {E : Value → Shared → Prop} {s : Shared} {e it l : Addr} {i : Nat} {items : Array Value} {old : Value} {Q : Option Value → Shared → Prop} (hh : A.handled = none)
    (he : IsEnum s.heap e it i old) (hit : s.heap.IsTupleIter it l i) (hl : s.heap.IsTuple l items) (hx : items[i]? = none)
    (hQ : ∀ h', Heap.ExtBut it s.heap h' → Q none { s with heap := h' }) : wpAny (model prog w) A (pyNext (.ref e)) Q E s := by
  have hT : s.TypeIs (.ref e) "enumerate" := ⟨_, he, rfl⟩
  unfold pyNext
  refine wpAny_bind (wpAny_attempt (wpAny_callSpecial?_slot (name := Str.ofString "__next__") hT F.slot_enumerate_next
    (wpAny_call_entry F.slot_enumerate_next hT F.entry_enumerate_next ?_ (F.args_enumerate_next_1 _))))
  show wpAny _ _ (field (.ref e) 2 >>= _) _ _ _
  refine wpAny_bind (wpAny_field he rfl (x := .ref it) rfl ?_)
  refine wpAny_bind (wpAny_nextOf_tuple_end (show A.in1.handled = none from hh) hit hl hx fun h' x he' hx' => ?_)
  obtain ⟨o, ho, hc⟩ := hx'
  refine wpAny_bind (wpAny_isInstance (T := "StopIteration") (b := true) ⟨o, ho, hc⟩ isSubtype_stop ?_)
  exact wpAny_pure (hQ _ he')
/-- the tuple at a as it stands at each turn, each item in a new pair -/
def IteT (K : PySem.W.Frag) (a : Addr) : It :=
  ⟨fun i H => ∃ (xs : List V) (x : V), SqT K H a xs ∧ xs[i]? = some x, fun i H v H' => ∃ T x, v = .ref T ∧ H T = none ∧ H' = upd H T (.tup [.int (i : Nat), x]) ∧ ∀ xs, SqT K H a xs → xs[i]? = some x, fun i H => ∃ xs : List V, SqT K H a xs ∧ xs.length ≤ i⟩
theorem turn_enumT {P : Program} {w : World} {K : PySem.W.Frag} {elts : List Expr} {kk : Nat} {tpos : Pos} (a e it : Addr) :
    Turn P w K (.Tuple elts kk tpos) (IteT K a) [e, it] e (fun i h => (∃ old, IsEnum h e it ((i : Nat) : Int) old) ∧ h.IsTupleIter it a i ∧ e ≠ it ∧ a ≠ it ∧ a ≠ e) where
  mem := by simp
  obj := fun i h st b hb => by
    obtain ⟨⟨old, he⟩, ⟨o, ho, hc, hd⟩, _⟩ := st
    have e' : b = e ∨ b = it := by simpa using hb
    rcases e' with z | z
    · rw [z]; exact ⟨_, he, fun v q => nomatch q⟩
    · rw [z]; exact ⟨o, ho, fun v q => by rw [hd] at q; cases q⟩
  keep := fun i h h' st k => let ⟨⟨old, he⟩, hi, hne⟩ := st; ⟨⟨old, k e (by simp) _ he⟩, hi.at fun o q => k it (by simp) o q, hne⟩
  item := by
    intro X hP hw hK hc i pins s σ H E I hf st hg
    subst hP hw hK
    obtain ⟨⟨old, he⟩, hit, hne, ha1, ha2⟩ := st
    obtain ⟨xs, x, hq, hx⟩ := hg
    obtain ⟨its, rv, p, hz⟩ := I.tuple hq
    obtain ⟨u, hu, ru⟩ := rv.get hx
    have hel : e < s.heap.objs.size := Heap.lt_size he
    have hil : it < s.heap.objs.size := by obtain ⟨_, q, _⟩ := hit; exact Heap.lt_size q
    have hu' : its.toArray[i]? = some u := by simpa using hu
    have hlt : i < its.toArray.size := by
      rcases Nat.lt_or_ge i its.toArray.size with q | q
      · exact q
      · rw [Array.getElem?_eq_none q] at hu'; cases hu'
    refine wpAny_pyNext_enum_itemD (Draws.tuple (A := X.A.in1) (show X.A.in1.handled = none from I.ok.hd hc) it a ha1 its.toArray) he ⟨hit, p⟩ hlt hne (by
      intro q
      rcases List.mem_cons.mp q with q | q
      · exact hne q
      · exact ha2 (List.mem_singleton.mp q).symm) fun y h' tk hP ho hit' hT hsz hk => ?_
    have hy : y = u := Option.some.inj (hP.symm.trans hu')
    subst hy
    refine ⟨_, rfl, wpAny_letOwnedTupleGo_enum (s := { s with heap := h', toks := tk + 1 }) ho fun h'' he' sb => ?_⟩
    have hT2 : h''.get? s.heap.objs.size = some { cls := .type "tuple", data := .seq #[.int i tk, y] } := (sb.2 _ (Nat.ne_of_gt hel)).trans hT
    have new : ObjOk X.prog X.w (upd H s.heap.objs.size (.tup [.int (i : Nat), x])) h'' s.heap.objs.size (.tup [.int (i : Nat), x]) :=
      ⟨by show 2 ≤ sizeLine; decide, [.int i tk, y], .cons ⟨_, rfl⟩ (.cons ru .nil), ⟨_, hT2, rfl, _, rfl⟩⟩
    have I1 : Inv X pins σ (upd H s.heap.objs.size (.tup [.int (i : Nat), x])) { s with heap := h'', toks := tk + 1 } :=
      I.turnedNew (ch := [e, it]) (fun b ob hb q => (sb.2 b (fun z => hb (by simp [z]))).trans (hk b ob (fun z => hb (by simp [z])) (fun z => hb (by simp [z])) q)) hf (Nat.le_refl _) new
    refine ⟨.ref s.heap.objs.size, _, I1, rfl, ⟨_, x, rfl, I.hok.fresh (Nat.le_refl _), rfl, fun ys hy => by rw [I.tuple_inj hy hq]; exact hx⟩, ⟨⟨y, ?_⟩, hit'.1.at fun o q => (sb.2 it (Ne.symm hne)).trans q, hne, ha1, ha2⟩, fun b hb => ?_⟩
    · have e1 : ((i + 1 : Nat) : Int) = (i : Int) + 1 := by omega
      rw [e1]; exact he'
    · have hb' : b < s.heap.objs.size := by
        have e' : b = e ∨ b = it := by simpa using hb
        rcases e' with z | z
        · rw [z]; exact hel
        · rw [z]; exact hil
      rw [upd_ne (Nat.ne_of_lt hb')]
      exact (hf b hb).1
  done := by
    intro X hP hw hK hc i pins s σ H E I hf st hg
    subst hP hw hK
    obtain ⟨⟨old, he⟩, hit, hne, ha1, ha2⟩ := st
    obtain ⟨xs, hq, hx⟩ := hg
    obtain ⟨its, rv, p, hz⟩ := I.tuple hq
    obtain ⟨f0, f1, f2, f3, f4, f5⟩ := hf it (by simp)
    have hl := rv.length
    exact enum_endT (I.ok.hd hc) he hit p (by simp; omega) fun h' eb => ⟨rfl, I.turned (t' := s.toks) (fun b o hb q => eb b o hb q) f0 f1 f3 f4 f5⟩
  self := fun A i s Q E st h => let ⟨⟨_, he⟩, _⟩ := st; wpAny_pyIter_enum he h
/-- enumerate of a list or a tuple -/
def iEnumA (K : PySem.W.Frag) (ta : TA) : TI := fun σ H R => ta σ H fun vs H1 => ∃ a xs, vs = [.ref a] ∧ ((SqL K H1 a xs ∧ R (Ite K a) H1) ∨ (SqT K H1 a xs ∧ R (IteT K a) H1))
theorem pi_enumA {X : Cx} {e : Expr} {ta : TA} {p pos tpos : Pos} {elts : List Expr} {kk : Nat} (hg : Gl X "enumerate") (hm : X.mg "enumerate" = none) (ha : PA X [e] ta) (hs : starEach [e] X.env = [(false, eval e X.env)] := by rfl) :
    PI X (.Tuple elts kk tpos) (.Call (.Name "enumerate" p) [e] [] pos) (iEnumA X.K ta) := by
  refine ⟨fun pins s σ H R I h => ?_⟩
  refine Call_ (ld_blt I hg hm boot_enumerate (PyProof.Rows.callWith_type1 (thn (ha.run pos pins s σ H _ I h) fun us s1 ⟨vs, H1, I1, r1, q1⟩ => ?_) hs rfl))
  obtain ⟨a, xs, ex, q⟩ := q1
  subst ex
  cases r1 with
  | cons r rr =>
    cases rr
    cases r
    rcases q with ⟨hq, q⟩ | ⟨hq, q⟩
    · obtain ⟨its, rv, p', hz⟩ := I1.list hq
      refine call_enumerate_list p'.isList fun h' he hit hsz hk => wpAny_pyIter_enum he ?_
      have I2 : Inv X pins σ H1 { s1 with heap := h' } := I1.kept (t' := s1.toks) hk
      refine ⟨s1.heap.objs.size + 1, [s1.heap.objs.size + 1, s1.heap.objs.size], _, _, H1, rfl, I2, turn_enum a (s1.heap.objs.size + 1) s1.heap.objs.size, ⟨⟨.none, he⟩, hit, Nat.succ_ne_self _⟩, fun b hb => ?_, q⟩
      have e' : b = s1.heap.objs.size + 1 ∨ b = s1.heap.objs.size := by simpa using hb
      have hle : s1.heap.objs.size ≤ b := by
        rcases e' with z | z
        · rw [z]; exact Nat.le_add_right _ _
        · rw [z]; exact Nat.le_refl _
      exact I1.fpOk hle (I1.hok.fresh hle)
    · obtain ⟨its, rv, p', hz⟩ := I1.tuple hq
      have hal : a < s1.heap.objs.size := by obtain ⟨o, ho, _⟩ := p'; exact Heap.lt_size ho
      refine enum_begins1 (begins_tuple a its.toArray) p' fun h' he hit hsz hk => wpAny_pyIter_enum he ?_
      have I2 : Inv X pins σ H1 { s1 with heap := h' } := I1.kept (t' := s1.toks) hk
      refine ⟨s1.heap.objs.size + 1, [s1.heap.objs.size + 1, s1.heap.objs.size], _, _, H1, rfl, I2, turn_enumT a (s1.heap.objs.size + 1) s1.heap.objs.size, ⟨⟨.none, he⟩, ⟨_, hit, rfl, rfl⟩, Nat.succ_ne_self _, Nat.ne_of_lt hal, Nat.ne_of_lt (Nat.lt_succ_of_lt hal)⟩, fun b hb => ?_, q⟩
      have e' : b = s1.heap.objs.size + 1 ∨ b = s1.heap.objs.size := by simpa using hb
      have hle : s1.heap.objs.size ≤ b := by
        rcases e' with z | z
        · rw [z]; exact Nat.le_add_right _ _
        · rw [z]; exact Nat.le_refl _
      exact I1.fpOk hle (I1.hok.fresh hle)
def enumE : List PyData → Res (List PyData)
  | [.list xs] => .ok (enumL xs)
  | [.tuple xs] => .ok (enumL xs)
  | _ => .stuck
theorem wk_enumT {κ : Kx} {p : Addr} {xs : List PyData} : Wk κ (IteT κ.K p) [.rep (.ref p) (.tuple xs)] (enumL xs) where
  go := fun A i d H tr g e => by
    obtain ⟨x, e1, rfl⟩ := enumL_at e
    have h : Rep A κ H (.ref p) (.tuple xs) := g _ List.mem_cons_self
    cases h with
    | tup h1 h3 =>
      obtain ⟨v, h4, h5⟩ := h3.get e1
      refine ⟨⟨_, v, h1, h4⟩, fun z H' y => ?_⟩
      obtain ⟨T, x', rfl, n, rfl, z1⟩ := y
      have w1 := z1 _ h1
      rw [h4] at w1
      cases w1
      exact ⟨same_new n, Rep.new_tup n (.cons (.int _) (.cons h5 .nil))⟩
  stop := fun A i H tr g e => by
    have h : Rep A κ H (.ref p) (.tuple xs) := g _ List.mem_cons_self
    cases h with
    | tup h1 h3 => exact ⟨_, h1, by rw [h3.length]; simpa [enumL] using e⟩
section
variable {X : Cx} {E : XK} {ρ : List Sl} {a : Expr} {rs : Res (List PyData)} {pos : Pos}
theorem gi_enumE {p tpos : Pos} {elts : List Expr} {kk : Nat} (hg : Gl X "enumerate") (hm : X.mg "enumerate" = none) (h : GA X E [a] ρ rs) (hs : starEach [a] X.env = [(false, eval a X.env)] := by rfl) :
    GI X E (.Tuple elts kk tpos) (.Call (.Name "enumerate" p) [a] [] pos) ρ (rs >>= enumE) := fun A σ H R ev q => by
  refine ⟨_, pi_enumA hg hm wa_ok hs, ?_⟩
  refine h A σ H _ ev (q.bind.mono fun ds qd vs H1 s1 rv => ?_)
  unfold enumE at qd
  split at qd
  · cases rv with
    | cons r1 t =>
      cases t
      cases r1 with
      | lst h1 h2 h3 => exact ⟨_, _, rfl, .inl ⟨.of h1, qd _ _ H1 s1 (gs_one (.lst h1 h2 h3)) wk_enum⟩⟩
  · cases rv with
    | cons r1 t =>
      cases t
      cases r1 with
      | tup h1 h3 => exact ⟨_, _, rfl, .inr ⟨h1, qd _ _ H1 s1 (gs_one (.tup h1 h3)) wk_enumT⟩⟩
  · exact qd.elim
end
end Dt
namespace Dt
open PySem PySem.Spec PyProof.Rows L2
/-- a block in a block -/
theorem blk_in {X : Cx} {scope1 scope : Scope} {own : List (Str × Nat)} {N : List Str} {sc : Scope} {s : Shared} {H : Hp} {C : Addr} {cl : List (Str × Addr)} {fp : List Addr} (hN : X.N = N) (hsc : X.env.scope = sc) (h : blkC N (relS scope1 sc) scope own = true) :
    BlkOk (Blk X scope1 s H C cl fp).N (Blk X scope1 s H C cl fp).env.scope scope own := by
  subst hN
  subst hsc
  exact blkOk_by h
end Dt
namespace Dt
open PySem PySem.Spec PyProof.Rows L2

/-- a set that has just been made -/
abbrev emS (w : World) : Obj := { cls := .type "set", dict := none, data := .set #[] 0 (.fresh 0 0 (!w.params.followText "set-order")) }
section
variable {P : Program} {w : World} {A : Around} {E : Value → Shared → Prop} {s : Shared}
end
end Dt
namespace Dt
open PySem PySem.Spec PyProof.Rows L2

section
variable {X : Cx} {E : XK} {ρ : List Sl} {e : Expr} {r : Res PyData} {pos p p2 q : Pos}
end
end Dt
namespace Dt
open PySem PySem.Spec PyProof.Rows L2

abbrev QSp := Addr × Obj → List V → Hp → VK → Prop
/-- a def that is called behind an except clause, and lets nothing out -/
structure FnQ (P : Program) (w : World) (K : PySem.W.Frag) (mg : Str → Option Value) (base : Heap) (k : Nat) (f : Addr) (fd : FuncData) (ps : List Str) (sp : QSp) : Prop where
  arity : ∀ q vs H Q, sp q vs H Q → vs.length = ps.length
  goes : ∀ (A : Around) (outer : List Env) (s : Shared) (H : Hp) (args : Args) (us : List Value) (vs : List V) (Q : VK) (q : Addr × Obj), L2H.RoomH k A → A.handled = some (.ref q.1) → L2H.PinOk outer H s q → Env0 P w K mg base A outer s H → BindsTo s fd args (ps.zip us) → Vals vs us → sp q vs H Q →
    codeAny (model P w) A (.call (.ref f) args) (CR (L2.CX P w) outer P w H s Q fun _ _ _ => False) s
abbrev cxQ (P : Program) (w : World) (K : PySem.W.Frag) (mg : Str → Option Value) (base : Heap) (N : List Str) (qual : Str) (scope : Scope) (f : Addr) (cd : Value) (A : Around) (outer : List Env) (s : Shared) (H : Hp) (q : Addr × Obj) : Cx :=
  L2H.cxH (L2.CX P w) P w K mg base N qual scope f cd A outer s H (fun _ _ _ => False) q
theorem fn_ofQ {P : Program} {w : World} {K : PySem.W.Frag} {mg : Str → Option Value} {base : Heap} {k : Nat} {x qual : Str} {st : Stmt} {f : Addr} {fd : FuncData} {N ps : List Str} {sp : QSp} (F : Fun K x qual st f fd) (S : FnScope N ps (defScope st)) (ar : ∀ q vs H Q, sp q vs H Q → vs.length = ps.length)
    (hbody : ∀ (cdv : Value) (A : Around) (outer : List Env) (s : Shared) (H : Hp) (vs : List V) (Q : VK) (q : Addr × Obj), A.handled = some (.ref q.1) → L2H.RoomH k (A.deeper (envOfC qual (defScope st) s.heap.objs.size f cdv)) → sp q vs H Q →
      ∃ t, PSs (cxQ P w K mg base N qual (defScope st) f cdv A outer s H q) (defBody st) t ∧ t { nx := fun _ H' => Q .non H', rt := Q } (L2.start N vs) H) : FnQ P w K mg base (k + 1) f fd ps sp := by
  obtain ⟨oc, od, kV, doc, pm, an, cdv, ct, osl, efd, lk, hcode⟩ := F.ex
  subst efd
  refine ⟨ar, fun A outer s H args us vs Q q room hot pin e0 hb rv hsp => ?_⟩
  have kin : K.In s.heap := e0.mod.kin.keeps fun b o z => (e0.bs b o z).1
  have nolim : s.heap.NoLimit := e0.mod.nolimit.keeps fun b o z => (e0.bs b o z).1
  refine codeAny_call_function room.depth (kin _ _ lk) rfl S.co S.gen rfl (PySem.W.codeRec_of kin hcode) (hb _ _ _ _ ?_)
  refine wpAny_newFunctionEnv_cells S.kind (fun y hy => ?kinds) fun env henv s1 called => ?_
  case kinds =>
    obtain ⟨n, v⟩ := y
    exact (S.par n (List.of_mem_zip hy).1).imp id fun z => ⟨z, PySem.W.cellsFrom_some _ _ _ (.inl z)⟩
  subst henv
  refine ⟨nolim.keeps called.toInCall.keep, codeAny_func ?_⟩
  obtain ⟨t, pt, ht⟩ := hbody cdv A outer s H vs Q q hot (room.deeper _) hsp
  have I : Inv (cxQ P w K mg base N qual (defScope st) f cdv A outer s H q) [] (L2.start N vs) H s1 := L2H.inv_startH S pin e0 (ar _ _ _ _ hsp) rv called
  have ends : ∀ {σ2 : L2.St} {H2 : Hp} {v : V} {u : Value} {s2 : Shared}, Inv (cxQ P w K mg base N qual (defScope st) f cdv A outer s H q) [] σ2 H2 s2 → RelV v u → Q v H2 → CE outer P w H s Q u s2 :=
    fun {σ2 H2 v u s2} J rl z => ⟨v, H2, J.os, J.bare, J.base, J.hok, rl, z⟩
  refine wpAny_mono (pt.run [] s1 (L2.start N vs) H _ I ht) (fun fl s2 z => ?_) fun e s2 z => z
  cases fl with
  | ret u => obtain ⟨v, σ2, H2, J, rl, z⟩ := z; exact ends J rl z
  | next => obtain ⟨σ2, H2, J, z⟩ := z; exact ends (v := V.non) (u := Value.none) J rfl z
  | brk => obtain ⟨_, _, _, z⟩ := z; exact z.elim
  | cont => obtain ⟨_, _, _, z⟩ := z; exact z.elim
/-- it is called in the suite -/
theorem pe_callQ {X : Cx} {k : Nat} {f : Addr} {fd : FuncData} {ps : List Str} {sp : QSp} {x : Str} {p pos : Pos} {e : Expr} {es : List Expr} {t : TA} {q : Addr × Obj} (F : FnQ X.prog X.w X.K X.mg X.base k f fd ps sp) (room : L2H.RoomH k X.A) (hot : X.A.handled = some (.ref q.1)) (hq : q ∈ X.pn) (hg : Gl X x)
    (hm : X.mg x = some (.ref f)) (hk : PySem.W.keepIn X.K (.ref f) = true) (hb : Binds X.K fd ps []) (ha : PA X (e :: es) t) (hdb : (x == ("__debug__" : Str)) = false := by decide)
    (he : starEach (e :: es) X.env = (false, eval e X.env) :: starEach es X.env := by rfl) (hpl : (backTo pos (starEach es X.env)).any (·.1) = false := by rfl) :
    PE X (.Call (.Name x p) (e :: es) [] pos) (fun σ H Q => t σ H fun vs H1 => sp q vs H1 Q) := by
  refine ⟨fun pins s σ H Q I h => wpAny_Call_Name_kw (ld_glob I hg hm ?_ hdb)⟩
  refine PySem.W.callWith_K (h₀ := X.base) I.ok.mod.kin hk (thn (ha.run pos pins s σ H _ I h) fun us s1 ⟨vs, H1, J, rv, z⟩ => ⟨J.kIn, ?_⟩) he hpl
  have b := hb s1 us J.kIn (by rw [List.append_nil, ← rv.length]; exact F.arity _ _ _ _ z)
  rw [List.append_nil] at b
  have P1 := J.pin q (List.mem_append_left _ hq)
  have pin : L2H.PinOk X.stack H1 s1 q := ⟨P1.1, P1.2.1, fun hm => (List.mem_cons.mp (J.stkSub q.1 hm)).elim P1.2.2.1 P1.2.2.2.1, P1.2.2.2.2⟩
  refine wpAny_call (codeAny_mono (F.goes X.A X.stack s1 H1 ⟨us, []⟩ us vs Q q room hot pin J.env0 b rv z) fun r s2 hr => ?_)
  cases r with
  | error e =>
    obtain ⟨_, _, _, _, _, _, _, _, _, _, _, _, z⟩ := hr
    exact z.elim
  | ok fl =>
    cases fl with
    | ret u => exact J.after hr
    | next => exact hr.elim
    | brk => exact hr.elim
    | cont => exact hr.elim
def IsK (K : PySem.W.Frag) (mg : Str → Option Value) (C : Addr) (T : Str) (b : Bool) : Prop := (∃ D, mg T = some (.ref D) ∧ PySem.W.kitOne K (.ref C) (.ref D) = some b) ∨ (mg T = none ∧ bootBuiltins T = some (.type "ValueError") ∧ PySem.W.kitOne K (.ref C) (.type "ValueError") = some b)
theorem call_isQ {X : Cx} {a D : Addr} {oe : Obj} (C : ExcC X.K D) (hz : Zc (.ref D) none oe) (hf : ∃ vs, oe.data = .fields vs) (hp : (a, oe) ∈ X.pn) : CallR X (.builtin "isinstance") (rIsE X.K D a) := by
  intro pins s σ H xs us Q I rv h
  obtain ⟨c, cv, b, rfl, same, kit, z⟩ := h
  cases rv with
  | cons r1 rest =>
    cases rest with
    | cons r2 rest =>
      cases rest
      cases r1
      obtain rfl := same _ r2
      have held := (I.pin (a, oe) (List.mem_append_left _ hp)).1
      have J : PySem.W.InstAt s.heap a oe D none := by
        obtain ⟨vs, hv⟩ := hf
        obtain ⟨z1, z2, z3, z4⟩ := oe
        obtain ⟨y1, y2⟩ := hz
        dsimp only at y1 y2 hv
        subst y1 y2 hv
        exact ⟨held, rfl, rfl, trivial⟩
      have kx := PySem.W.handS_kitx_exc C.hg C.hk C.hs C.hd C.ha C.hn C.ht C.hm (x := a) (ox := oe)
      exact PySem.W.kia_one kx I.kIn J kit (by intro z; cases z) fun tk => ⟨.bl b, H, I.kept (t' := tk) (fun _ _ z => z), rfl, z⟩
section
variable {α : Type} {X : Cx} {E : XK} {ρ : List Sl} {e : Expr} {es : List Expr} {r rw' : Res PyData} {rs : Res (List PyData)} {pos p p1 p2 : Pos} {sh : α → List Sl} {x : Str} {j k : Nat}
/-- isinstance(e, T), e the exception -/
theorem ge_isx {T : Str} {i : Nat} {a D : Addr} {oe : Obj} {b : Bool} (C : ExcC X.K D) (hz : Zc (.ref D) none oe) (hf : ∃ vs, oe.data = .fields vs) (hp : (a, oe) ∈ X.pn) (hk : IsK X.K X.mg D T b) (hv : PE X (.Name x p1) (tVar i)) (hd : ρ.getD i .no = .ex a) (hm : X.mg "isinstance" = none)
    (hb2 : bootBuiltins "isinstance" = some (.builtin "isinstance") := by decide +kernel) (hg : Gl X "isinstance" := by rfl) (hg2 : Gl X T := by rfl) (hd2 : (T == ("__debug__" : Str)) = false := by decide) (hn2 : T ≠ "__name__" := by decide)
    (he : starEach (.Name x p1 :: [.Name T p2]) X.env = (false, eval (.Name x p1) X.env) :: starEach [.Name T p2] X.env := by rfl) (he2 : starEach (.Name T p2 :: []) X.env = (false, eval (.Name T p2) X.env) :: starEach [] X.env := by rfl) (hpl : (backTo pos (starEach [.Name T p2] X.env)).any (·.1) = false := by rfl) :
    GE X E (.Call (.Name "isinstance" p) [.Name x p1, .Name T p2] [] pos) ρ (.ok (.bool b)) := by
  have cls : ∃ (c : V) (cv : Value), PE X (.Name T p2) (tC c) ∧ (∀ u, RelV c u → u = cv) ∧ PySem.W.kitOne X.K (.ref D) cv = some b := by
    rcases hk with ⟨D', h1, h2⟩ | ⟨h1, h2, h3⟩
    · exact ⟨.ref D', .ref D', pe_glob hg2 h1 rfl hd2, fun u h => h, h2⟩
    · exact ⟨.ty "ValueError", .type "ValueError", pe_bltn hg2 h1 h2 rfl hn2 hd2, fun u h => h, h3⟩
  obtain ⟨c, cv, h1, h2, h3⟩ := cls
  refine .mk ⟨_, pe_callB (call_isQ C hz hf hp) hg hm hb2 (pa_cons hv (pa_cons h1 pa_nil he2) he) (by decide) (by decide) he hpl, fun A σ H Q ev q => ?_⟩
  have z := ev.sl i
  rw [hd] at z
  exact ⟨.ref a, z, c, cv, b, rfl, h2, h3, q _ H (Same.refl _) (.bl _)⟩
inductive CalsL (X : Cx) (k : Nat) : List Expr → List (List PyData → Res PyData) → Prop
  | nil : CalsL X k [] []
  | cons {x : Str} {p : Pos} {F : List PyData → Res PyData} {es : List Expr} {Fs : List (List PyData → Res PyData)} {j : Nat} : Cal X.prog X.w X.K X.mg X.base j x F → j ≤ k → Gl X x → (x == ("__debug__" : Str)) = false → starEach (.Name x p :: es) X.env = (false, eval (.Name x p) X.env) :: starEach es X.env → CalsL X k es Fs → CalsL X k (.Name x p :: es) (F :: Fs)
structure CalAt (X : Cx) (k : Nat) (f : Addr) (F : List PyData → Res PyData) : Prop where
  ex : ∃ fd ps, FnOk X.prog X.w X.K X.mg X.base (L2.CX X.prog X.w) k f fd ps (spF (kx X) X.mg F) ∧ Binds X.K fd ps []
  kp : PySem.W.keepIn X.K (.ref f) = true
theorem CalsL.at {es : List Expr} {Fs : List (List PyData → Res PyData)} (h : CalsL X k es Fs) : ∃ fs : List Addr, PA X es (fun _ H Q => Q (fs.map V.ref) H) ∧ fs.length = Fs.length ∧ ∀ (i : Nat) F, Fs[i]? = some F → ∃ f, fs[i]? = some f ∧ CalAt X k f F := by
  induction h with
  | nil => exact ⟨[], pa_nil, rfl, fun i F h => by simp at h⟩
  | @cons x p F es Fs j c hj hg hdb hs _ ih =>
    obtain ⟨fs, h1, h2, h3⟩ := ih
    obtain ⟨f, fd, ps, hf, hm, hk, hb⟩ := c
    refine ⟨f :: fs, pa_cons (pe_glob (v := V.ref f) hg hm rfl hdb) h1 hs, by rw [List.length_cons, List.length_cons, h2], fun i G hG => ?_⟩
    cases i with
    | zero =>
      cases hG
      exact ⟨f, rfl, ⟨fd, ps, hf.mono hj, hb⟩, hk⟩
    | succ i => exact h3 i G (by simpa using hG)
def callF (Fs : List (List PyData → Res PyData)) (rs : Res (List PyData)) : PyData → Res PyData
  | .int i => match atI Fs i with
    | some F => rs >>= F
    | none => .stuck
  | _ => .stuck
theorem atI_two {β γ : Type} {xs : List β} {ys : List γ} {i : Int} {y : γ} (hl : xs.length = ys.length) (h : atI ys i = some y) : ∃ n : Nat, ys[n]? = some y ∧ ∀ x, xs[n]? = some x → atI xs i = some x := by
  unfold atI ixN at *
  rw [hl]
  split at h
  · rename_i q
    split at h
    · rename_i q2
      exact ⟨_, h, fun x hx => by rw [if_pos q, if_pos q2]; exact hx⟩
    · cases h
  · rename_i q
    split at h
    · rename_i q2
      exact ⟨_, h, fun x hx => by rw [if_neg q, if_pos q2]; exact hx⟩
    · cases h
theorem ge_callF {ns : List Expr} {Fs : List (List PyData → Res PyData)} {we : Expr} (L : CalsL X k ns Fs) (hn : ns.length ≤ 100) (room : Room j X.A) (hkj : k ≤ j) (hx : Passes (L2.CX X.prog X.w) X E) (hw : GW X E we ρ rw') (h : GA X E (e :: es) ρ rs) (hs : PlainIx we := by intro _ _; rfl)
    (he : starEach (e :: es) X.env = (false, eval e X.env) :: starEach es X.env := by rfl) (hpl : (backTo pos (starEach es X.env)).any (·.1) = false := by rfl) :
    GE X E (.Call (.Subscript (.List ns p1) we p2) (e :: es) [] pos) ρ (rw' >>= callF Fs rs) := by
  obtain ⟨fs, pa, hl, hat⟩ := L.at
  have hnl : fs.length ≤ sizeLine → True := fun _ => trivial
  refine .mk ⟨fun σ H Q => WE X (.Subscript (.List ns p1) we p2) σ H fun y H1 => ∃ f F, y = .ref f ∧ CalAt X k f F ∧ WA X (e :: es) σ H1 fun vs H2 => spF (kx X) X.mg F vs H2 Q E, ⟨fun pins s σ H Q I q => ?_⟩, fun A σ H Q ev q => ?_⟩
  · show wpAny _ _ (do callWith pos (← eval (.Subscript (.List ns p1) we p2) X.env) [] (backTo pos (starEach (e :: es) X.env)) (backToKw pos (keywordEach [] X.env))) _ _ _
    refine wpAny_bind (thn (we_ok.run pins s σ H _ I q) fun u s1 ⟨y, H1, J, ry, f, F, ey, ca, z⟩ => ?_)
    subst ey
    obtain rfl : u = Value.ref f := ry
    obtain ⟨fd, ps, hf, hb⟩ := ca.ex
    refine PySem.W.callWith_K (h₀ := X.base) J.ok.mod.kin ca.kp (thn (wa_ok.run pos pins s1 σ H1 _ J z) fun us s2 ⟨vs, H2, J2, rv, z2⟩ => ⟨J2.kIn, ?_⟩) he hpl
    exact run_fn (dvs := []) (ds := []) (hf.mono hkj) room hb .nil hx J2 rv (by rw [List.append_nil]; exact z2)
  · obtain ⟨tw, pw, sw⟩ := hw.ex
    refine ⟨_, pe_ix ix_list (pe_lst pa) pw hs, ?_⟩
    refine ⟨?_, fun l hl0 => ?_⟩
    · by_cases z : fs.length ≤ sizeLine
      · rw [List.length_map]; exact z
      · exact absurd (show fs.length ≤ sizeLine from by
          have : Fs.length ≤ 100 := by
            clear hat hl q
            have : ns.length = Fs.length := by
              clear pa hn
              induction L with
              | nil => rfl
              | cons _ _ _ _ _ _ ih => rw [List.length_cons, List.length_cons, ih]
            omega
          rw [sizeLine_eq]; omega) z
    · refine sw A σ _ _ (ev.same (same_new hl0)) (q.bind.imp (same_new hl0) fun d qd y H2 s2 ry => ?_)
      unfold callF at qd
      cases d with
      | int i =>
        obtain rfl := ry.int
        dsimp only at qd
        cases hF : atI Fs i with
        | none => rw [hF] at qd; exact qd.elim
        | some F =>
          rw [hF] at qd
          obtain ⟨n, h1, h2⟩ := atI_two (xs := fs.map V.ref) (by rw [List.length_map, hl]) hF
          obtain ⟨f, h3, ca⟩ := hat n F h1
          refine ⟨l, fs.map V.ref, i, .ref f, rfl, rfl, .of (s2 _ _ upd_same), h2 (.ref f) (by rw [List.getElem?_map, h3]; rfl), f, F, rfl, ca, ?_⟩
          have s12 := (same_new hl0).trans s2
          have qd : PostR X E H (rs >>= F) (OkE X A H Q) := qd
          refine h A σ H2 _ (ev.same s12) (qd.bind.imp s12 fun ds qs vs H3 s3 rv => ?_)
          refine ⟨A, ds, (ev.same (s12.trans s3)).tr, rv, ?_⟩
          cases e : F ds with
          | ok d => rw [e] at qs; exact fun v H' s r => qs v H' (s12.trans (s3.trans s)) r
          | err c => rw [e] at qs; exact fun H' s C hC => qs H' (s12.trans (s3.trans s)) C hC
          | stuck => rw [e] at qs; exact qs
      | _ => exact qd.elim
end
end Dt
namespace Dt
open PySem PySem.Spec PyProof.Rows L2

def rCountD (K : PySem.W.Frag) : V → List V → Hp → VK → Prop := fun x xs H Q => ∃ (a : Addr) (y : V) (d : PyData) (ds : List PyData), x = V.ref a ∧ xs = [y] ∧ Dp K H (V.ref a) (.list ds) ∧ Dp K H y d ∧
  SeqAt.shaped (.list ds) = true ∧ SeqAt.shaped d = true ∧ Q (.int ((ds.countP fun z => PyData.eqv z d : Nat) : Int)) H
theorem mt_countD {X : Cx} (hu : X.A.units + 65 < cLine) : MtR X "list.count" (rCountD X.K) := by
  intro pins s σ H x xs v us Q I rx rxs h
  obtain ⟨a, y, d, ds, rfl, rfl, dl, dy, sl, sd, q⟩ := h
  cases rx
  cases rxs with
  | cons ry rt =>
    rename_i uy ut
    cases rt
    obtain ⟨bs, r1⟩ := Dp.reads I d y uy dy ry
    have lay : PyData.canLayAll0 ds = true := SeqAt.canLay_of_shaped sl
    have room : X.A.units + 1 + min (PyData.depthAll ds) d.depth < cLine := room_in_shaped sd hu
    cases dl with
    | lst hs ha =>
      obtain ⟨its, rv, ⟨⟨cls, dd, data, sls⟩, n, ho, hc, hdn, hdt⟩, hlen⟩ := I.list hs
      simp only at hc hdt
      subst hc hdt
      obtain ⟨as, rds⟩ := Dp.readsAll I ds _ its ha rv
      have hmap : its.map (SeqAt.readOf s.heap) = ds := SeqAt.readsAll_map ds its as lay rds
      refine call_meets PySem.F.slot_list_count ⟨_, ho, rfl⟩ PySem.F.entry_list_count (PySem.F.args_list_count_2 _ _) (SeqAt.list_countAt a its.toArray n dd sls uy (fun u => PyData.eqv (SeqAt.readOf s.heap u) d)) ⟨ho, ?_, ?_⟩
      · exact SeqAt.items_eqAt (vs := its.toArray) (show ReadsAll s.heap its.toArray.toList ds as from rds) r1 lay (SeqAt.canLay_of_shaped sd) room
      · refine ⟨.int ((ds.countP fun z => PyData.eqv z d : Nat) : Int), H, I.tok _, ⟨s.toks, ?_⟩, q⟩
        rw [← hmap, List.countP_map]
        rfl
def cntD (d e : PyData) : Res PyData := match d with
  | .list ds => if (shp (.list ds) && shp e) = true then .ok (.int ((ds.countP fun z => PyData.eqv z e : Nat) : Int)) else .stuck
  | _ => .stuck
def findD (d e : PyData) : Res PyData := match d with
  | .list ds => if (shp (.list ds) && shp e) = true then match ds.findIdx? fun z => PyData.eqv z e with
      | some j => .ok (.int ((j : Nat) : Int))
      | none => .stuck
    else .stuck
  | _ => .stuck
def onL (g : PyData → PyData → Res PyData) (r rk : Res PyData) : Res PyData := r >>= fun d => match d with
  | .list ds => rk >>= g (.list ds)
  | _ => .stuck
section
variable {X : Cx} {E : XK} {ρ : List Sl} {o ek : Expr} {r rk : Res PyData} {apos cpos : Pos}
theorem ge_cnt (hu : X.A.units + 65 < cLine) (ho : GW X E o ρ r) (h1 : GW X E ek ρ rk)
    (hbase : attributeBase o "count" X.env (eval o X.env) = eval o X.env := by rfl)
    (hfew : ((backTo cpos (starEach [ek] X.env)).all (fun x => !x.1) && (backToKw cpos (keywordEach [] X.env)).all (fun x => x.1.isSome) && decide (([ek] : List Expr).length + ([] : List Keyword).length + (if ([] : List Keyword).isEmpty then 0 else 1) < 30)) = true := by rfl)
    (hline : (apos.endLine == cpos.line) = true := by rfl) (hs : starEach [ek] X.env = (false, eval ek X.env) :: starEach [] X.env := by rfl) (hplain : (backTo cpos (starEach [] X.env)).any (·.1) = false := by rfl) :
    GE X E (.Call (.Attribute o "count" apos) [ek] [] cpos) ρ (onL cntD r rk) := by
  obtain ⟨ta, pa, sa⟩ := ho.ex
  obtain ⟨tb, pb, sb⟩ := h1.ex
  refine .mk ⟨_, pe_bm PySem.F.plainAttrs_list PySem.F.slot_list_count PySem.F.type_list_count (mt_countD hu) pa (pa_cons pb pa_nil hs) hbase hfew hline hs hplain, fun A σ H Q ev q => ?_⟩
  unfold onL at q
  refine sa A σ H _ ev (q.bind.mono fun d qd v H1 s1 rv => ?_)
  cases d with
  | list ds =>
    obtain ⟨p, vs, rfl, h1, h2⟩ := rv.lst
    refine ⟨.inl ⟨rfl, vs, .of h1⟩, sb A σ H1 _ (ev.same s1) (qd.bind.imp s1 fun e qe u H2 s2 ru => ?_)⟩
    unfold cntD at qe
    dsimp only at qe
    split at qe
    · rename_i hh
      rw [Bool.and_eq_true] at hh
      exact ⟨p, u, e, ds, rfl, rfl, (rv.same s2).dp (shp_lay hh.1), ru.dp (shp_lay hh.2), hh.1, hh.2, qe _ H2 (s1.trans s2) (.int _)⟩
    · exact qe.elim
  | _ => exact qd.elim
theorem find_first {α : Type} {p : α → Bool} : ∀ {ds : List α} {j : Nat}, ds.findIdx? p = some j → ∃ z, ds[j]? = some z ∧ p z = true ∧ ∀ (m : Nat) (z' : α), m < j → ds[m]? = some z' → p z' = false := by
  intro ds j h
  rw [List.findIdx?_eq_some_iff_getElem] at h
  obtain ⟨h1, h2, h3⟩ := h
  refine ⟨ds[j], List.getElem?_eq_getElem h1, h2, fun m z' hm hz => ?_⟩
  have := h3 m hm
  rw [List.getElem?_eq_getElem (by omega)] at hz
  cases hz
  simpa using this
theorem ge_find (hu : X.A.units + 65 < cLine) (ho : GW X E o ρ r) (h1 : GW X E ek ρ rk)
    (hbase : attributeBase o "index" X.env (eval o X.env) = eval o X.env := by rfl)
    (hfew : ((backTo cpos (starEach [ek] X.env)).all (fun x => !x.1) && (backToKw cpos (keywordEach [] X.env)).all (fun x => x.1.isSome) && decide (([ek] : List Expr).length + ([] : List Keyword).length + (if ([] : List Keyword).isEmpty then 0 else 1) < 30)) = true := by rfl)
    (hline : (apos.endLine == cpos.line) = true := by rfl) (hs : starEach [ek] X.env = (false, eval ek X.env) :: starEach [] X.env := by rfl) (hplain : (backTo cpos (starEach [] X.env)).any (·.1) = false := by rfl) :
    GE X E (.Call (.Attribute o "index" apos) [ek] [] cpos) ρ (onL findD r rk) := by
  obtain ⟨ta, pa, sa⟩ := ho.ex
  obtain ⟨tb, pb, sb⟩ := h1.ex
  refine .mk ⟨_, pe_bm PySem.F.plainAttrs_list PySem.F.slot_list_index PySem.F.type_list_index (mt_indexD hu) pa (pa_cons pb pa_nil hs) hbase hfew hline hs hplain, fun A σ H Q ev q => ?_⟩
  unfold onL at q
  refine sa A σ H _ ev (q.bind.mono fun d qd v H1 s1 rv => ?_)
  cases d with
  | list ds =>
    obtain ⟨p, vs, rfl, h1, h2⟩ := rv.lst
    refine ⟨.inl ⟨rfl, vs, .of h1⟩, sb A σ H1 _ (ev.same s1) (qd.bind.imp s1 fun e qe u H2 s2 ru => ?_)⟩
    unfold findD at qe
    dsimp only at qe
    split at qe
    · rename_i hh
      rw [Bool.and_eq_true] at hh
      split at qe
      · rename_i j hj
        obtain ⟨z, z1, z2, z3⟩ := find_first hj
        exact ⟨p, u, e, ds, j, z, rfl, rfl, (rv.same s2).dp (shp_lay hh.1), ru.dp (shp_lay hh.2), hh.1, hh.2, z1, z2, z3, qe _ H2 (s1.trans s2) (.int _)⟩
      · exact qe.elim
    · exact qe.elim
  | _ => exact qd.elim
end

def isX (c T : Str) : Bool := if T = "ValueError" then true else decide (c = T)
/-- what is known of the classes of exceptions -/
def XTab (K : PySem.W.Frag) (mg : Str → Option Value) (cs ts : List Str) : Prop := ∀ c ∈ cs, ∃ C, mg c = some (.ref C) ∧ ExcC K C ∧ (∀ T ∈ ts, IsK K mg C T (isX c T)) ∧ ∃ D, mg "TellingError" = some (.ref D) ∧ PySem.W.exmOne K (.ref C) (.ref D) = some true
def spQ (κ : Kx) (mg : Str → Option Value) (F : Str → Res PyData) : QSp := fun q vs H Q => ∃ A c D, Tr A H ∧ vs = [.ref q.1] ∧ Zc (.ref D) none q.2 ∧ (∃ ws, q.2.data = .fields ws) ∧ mg c = some (.ref D) ∧ (match F c with
  | .ok d => ∀ v H', Same H H' → Rep A κ H' v d → Q v H'
  | _ => False)
def CalQ (P : Program) (w : World) (K : PySem.W.Frag) (mg : Str → Option Value) (base : Heap) (k : Nat) (x : Str) (F : Str → Res PyData) : Prop :=
  ∃ f fd ps, FnQ P w K mg base k f fd ps (spQ ⟨P, w, K⟩ mg F) ∧ mg x = some (.ref f) ∧ PySem.W.keepIn K (.ref f) = true ∧ Binds K fd ps []
structure BdQ (X : Cx) (k : Nat) : Prop where
  nd : X.N.Nodup
  hr : L2H.RoomH k X.A
theorem BdQ.u65 {X : Cx} {k : Nat} (b : BdQ X k) : X.A.units + 65 < cLine := by have := b.hr.un; omega
theorem BdQ.u64 {X : Cx} {k : Nat} (b : BdQ X k) : X.A.units + 64 < cLine := by have := b.hr.un; omega
theorem BdQ.u0 {X : Cx} {k : Nat} (b : BdQ X k) : X.A.units < cLine := by have := b.hr.un; omega
abbrev inR (cs : List Str) (G : Str → Res (Out Empty)) (c : Str) : Res PyData := if c ∈ cs then finR (G c) else .stuck
theorem def_okQ {P : Program} {w : World} {K : PySem.W.Frag} {mg : Str → Option Value} {base : Heap} {k : Nat} {x qual n : Str} {st : Stmt} {f : Addr} {fd : FuncData} {N : List Str} {cs ts : List Str} {sh : Empty → List Sl} (F : Fun K x qual st f fd) (S : FnScope N [n] (defScope st)) (G : Str → Res (Out Empty)) (T : XTab K mg cs ts)
    (body : ∀ (cdv : Value) (A : Around) (outer : List Env) (s : Shared) (H : Hp) (q : Addr × Obj) (D : Addr) (c : Str), c ∈ cs → BdQ (cxQ P w K mg base N qual (defScope st) f cdv A outer s H q) k → ExcC K D → Zc (.ref D) none q.2 → (∃ ws, q.2.data = .fields ws) → (∀ T ∈ ts, IsK K mg D T (isX c T)) →
      GSs (cxQ P w K mg base N qual (defScope st) f cdv A outer s H q) (fun _ _ _ => False) (defBody st) (.ex q.1 :: List.replicate (N.length - 1) .no) sh (G c)) : FnQ P w K mg base (k + 1) f fd [n] (spQ ⟨P, w, K⟩ mg (inR cs G)) := by
  refine fn_ofQ F S (fun q vs H Q h => ?_) (fun cdv A outer s H vs Q q hot hr h => ?_)
  · obtain ⟨A, c, D, _, e, _⟩ := h
    rw [e]; rfl
  · obtain ⟨A0, c, D, tr, e, hz, hf, hm, fin⟩ := h
    subst e
    by_cases hc : c ∈ cs
    · obtain ⟨C, hC, ex, hk, _⟩ := T c hc
      have eD : D = C := by rw [hm] at hC; cases hC; rfl
      subst eD
      have hb := body cdv A outer s H q D c hc ⟨S.nd, hr⟩ ex hz hf hk
      refine hb A0 H [] _ H _ ⟨outerOw A0, ⟨⟨?_, fun a h => tr a fun z => h (outer_none.mpr z), fun i => ?_⟩, (fun g hg => by cases hg), fun a h => outer_none.mp h, Same.refl _, fun a n h => ?_, tr⟩⟩ ?_
      · unfold L2.start
        simp
      · cases i with
        | zero => exact (rfl : some (some (V.ref q.1)) = _)
        | succ i => exact map_fz_at (N.length - 1) i (Reps.nil (A := outerOw A0) (κ := ⟨P, w, K⟩) (H := H))
      · unfold outerOw at h
        cases z : A0 a with
        | none => rw [z] at h; cases h
        | some k => rw [z] at h; cases h
      · have e : inR cs G c = finR (G c) := if_pos hc
        rw [e] at fin
        cases e2 : G c with
        | ok o =>
          rw [e2] at fin
          cases o with
          | nx a => exact nomatch a
          | rt d => exact fun v H' s r => fin v H' s r
        | err c => rw [e2] at fin; exact fin.elim
        | stuck => rw [e2] at fin; exact fin.elim
    · have e : inR cs G c = .stuck := if_neg hc
      rw [e] at fin
      exact fin.elim

def tryR {α : Type} (F : Str → Res PyData) (r : Res (Out α)) : Res (Out α) := match r with
  | .ok o => .ok o
  | .err c => match F c with
    | .ok d => .ok (.rt d)
    | _ => .stuck
  | .stuck => .stuck
/-- whatever the slots hold -/
def EW (X : Cx) (W : WX) : XK := fun cls d H => ∀ σ : L2.St, σ.length = X.N.length → W cls d σ H
theorem gss_try {α : Type} {X : Cx} {E : XK} {k j i : Nat} {ρ : List Sl} {sh : α → List Sl} {body : List Stmt} {m : Res (Out α)} {n g : Str} {cs ts : List Str} {G : Str → Res (Out Empty)} {np p p1 p2 p3 pos pos' : Pos} (b : Bd X E k) (c : CalQ X.prog X.w X.K X.mg X.base j g (inR cs G)) (hjk : j ≤ k) (T : XTab X.K X.mg cs ts)
    (hb : ∀ (pn : List (Addr × Obj)) (xe : Value → Shared → Prop) (E' : XK), Bd (X.tr pn xe) E' k → GSs (X.tr pn xe) E' body ρ sh m)
    (hi : X.N[i]? = some n) (hT : ∃ D, X.mg "TellingError" = some (.ref D)) (hln : X.env.kindOf n = some .local := by rfl) (hs : X.stack = X.env :: X.outer := by rfl) (hf : X.env.frame = some X.env.locals := by rfl) (hgT : Gl X "TellingError" := by rfl) (hg : Gl X g := by rfl) (hv : Vis X.env.scope n := by exact .inl rfl)
    (hdn : (n == ("__debug__" : Str)) = false := by decide) (hdc : (n == ("__classdict__" : Str)) = false := by decide) (hdg : (g == ("__debug__" : Str)) = false := by decide)
    (he : starEach (.Name n p1 :: []) X.env = (false, eval (.Name n p1) X.env) :: starEach [] X.env := by rfl) (hpl : (backTo p2 (starEach [] X.env)).any (·.1) = false := by rfl) :
    GSs X E [.Try body [.ExceptHandler (some (.Name "TellingError" np)) (some n) [.Return (some (.Call (.Name g p) [.Name n p1] [] p2)) p3] pos'] [] [] pos] ρ sh (tryR (inR cs G) m) := fun A0 H0 γ σ H D er q => by
  obtain ⟨TE, hTE⟩ := hT
  obtain ⟨f, fd, ps, hF, hm, hk, hbi⟩ := c
  let F := inR cs G
  let tsx : Addr → Value → Option Addr → TS := fun a cls d D σ H => ∃ A0 c C, Tr A0 H ∧ cls = .ref C ∧ d = none ∧ X.mg c = some (.ref C) ∧ σ[i]? = some (some (.ref a)) ∧ (match F c with
    | .ok dd => ∀ v H', Same H H' → Rep A0 (kx X) H' v dd → D.rt v H'
    | _ => False)
  let tbx : WX → TS := fun W D σ H => ∃ A0 H0 γ, ER A0 H0 (kx X) γ ρ σ H ∧ PostR X (EW X W) H0 m (OkS X A0 H0 γ sh D)
  refine ⟨_, pss_one (ps_try_as (tb := tbx) (ts := tsx) (Wout := fun cls d _ H => E cls d H) hs hf b.nd hi hln ⟨hgT, by decide, .inl hTE⟩ b.tk ?tb ?ts), ?fin⟩
  case tb =>
    intro W pn xe tk po
    have tk' : Takes (X.tr pn xe) (fun cls d _ H => EW X W cls d H) := fun u s' ⟨a, B, sI, pins, σ, H, cls, d, e, I, nb, up, sky, na, os, ag, w⟩ => tk u s' ⟨a, B, sI, pins, σ, H, cls, d, e, I, nb, up, sky, na, os, ag, w σ I.len⟩
    have b' : Bd (X.tr pn xe) (EW X W) k := ⟨b.nd, po, passes_call tk' (fun _ _ _ _ h => h), tk', b.hr⟩
    refine ⟨fun pins s σ H D I h => ?_⟩
    obtain ⟨A0, H0, γ, er, q⟩ := h
    obtain ⟨t, ht, q2⟩ := hb pn xe _ b' A0 H0 γ σ H D er q
    exact ht.run pins s σ H D I q2
  case ts =>
    intro a oe cls d pn hz hfl
    refine ⟨fun pins s σ H D I h => ?_⟩
    obtain ⟨A0, c, C, tr, ec, ed, hc, hσ, fin⟩ := h
    subst ec ed
    have room : L2H.RoomH j (X.suite a ((a, oe) :: pn)).A := ⟨by have := (b.hr.mono hjk).dp; exact this, by have := (b.hr.mono hjk).un; exact this⟩
    have pcall : PE (X.suite a ((a, oe) :: pn)) (.Call (.Name g p) [.Name n p1] [] p2) _ := pe_callQ (q := (a, oe)) hF room rfl List.mem_cons_self hg hm hk hbi (pa_cons (pe_var hi hv hdn hdc) pa_nil he) hdg he hpl
    refine (pss_one (ps_ret pcall)).run pins s σ H D I ?_
    exact ⟨.ref a, hσ, A0, c, C, tr, rfl, hz, hfl, hc, fin⟩
  case fin =>
    refine ⟨A0, H0, γ, er, ?_⟩
    cases m with
    | ok o => exact q
    | stuck => exact q.elim
    | err c =>
      cases hFc : inR cs G c with
      | ok d =>
        have q : OkS X A0 H0 γ sh D (.rt d) := by
          have q : PostR X E H0 (tryR (inR cs G) (.err c)) _ := q
          unfold tryR at q
          dsimp only at q
          rw [hFc] at q
          exact q
        have hcs : c ∈ cs := by
          by_cases z : c ∈ cs
          · exact z
          · rw [show inR cs G c = .stuck from if_neg z] at hFc
            cases hFc
        intro H' s1 C hC σ' hl
        obtain ⟨C', hC', _, _, TE', hTE', hx⟩ := T c hcs
        rw [hC] at hC'
        rw [hTE] at hTE'
        cases hC'
        cases hTE'
        obtain ⟨A, er⟩ := er
        have hil : i < σ'.length := by
          rw [hl]
          exact (List.getElem?_eq_some_iff.mp hi).1
        refine ⟨true, hx, fun _ a na => ⟨A0, c, C, Tr.same er.t0 s1, rfl, rfl, hC, List.getElem?_set_self hil, ?_⟩, fun z => nomatch z⟩
        show (match inR cs G c with | .ok dd => _ | _ => False)
        rw [hFc]
        exact fun v H2 s2 r => q v H2 (s1.trans s2) r
      | err c' =>
        have q : PostR X E H0 (tryR (inR cs G) (.err c)) (OkS X A0 H0 γ sh D) := q
        unfold tryR at q
        dsimp only at q
        rw [hFc] at q
        exact q.elim
      | stuck =>
        have q : PostR X E H0 (tryR (inR cs G) (.err c)) (OkS X A0 H0 γ sh D) := q
        unfold tryR at q
        dsimp only at q
        rw [hFc] at q
        exact q.elim
end Dt
namespace Dt
open PySem PySem.Spec PyProof.Rows L2
theorem XTab.nil {K : PySem.W.Frag} {mg : Str → Option Value} {ts : List Str} : XTab K mg [] ts := fun c h => by cases h
theorem XTab.cons {K : PySem.W.Frag} {mg : Str → Option Value} {cs ts : List Str} {c : Str} {C : Addr} (h1 : mg c = some (.ref C)) (h2 : ExcC K C) (h3 : ∀ T ∈ ts, IsK K mg C T (isX c T)) (h4 : ∃ D, mg "TellingError" = some (.ref D) ∧ PySem.W.exmOne K (.ref C) (.ref D) = some true) (t : XTab K mg cs ts) : XTab K mg (c :: cs) ts := fun d hd => by
  rcases List.mem_cons.mp hd with rfl | hd
  · exact ⟨C, h1, h2, h3, h4⟩
  · exact t d hd
theorem XKs.nil {K : PySem.W.Frag} {mg : Str → Option Value} {C : Addr} {c : Str} : ∀ T ∈ ([] : List Str), IsK K mg C T (isX c T) := fun c h => by cases h
theorem XKs.cons {K : PySem.W.Frag} {mg : Str → Option Value} {C : Addr} {c T : Str} {ts : List Str} {b : Bool} (e : isX c T = b) (h : IsK K mg C T b) (t : ∀ T ∈ ts, IsK K mg C T (isX c T)) : ∀ U ∈ T :: ts, IsK K mg C U (isX c U) := fun U hU => by
  rcases List.mem_cons.mp hU with rfl | hU
  · rw [e]; exact h
  · exact t U hU
end Dt
namespace Dt
open PySem PySem.Spec PyProof.Rows L2
theorem kit_eq {K : PySem.W.Frag} {C : Addr} : PySem.W.kitOne K (.ref C) (.ref C) = some true := by
  unfold PySem.W.kitOne
  rw [if_pos (beq_self_eq_true _)]
theorem kit_ne {K : PySem.W.Frag} {C D : Addr} (hd : PySem.W.hasDictIn K D = true) (ht : PySem.W.typeIn K (.ref D) = some (.type "type")) (h1 : PySem.W.subIn K (.ref C) (.ref C) = some true) (h2 : PySem.W.subIn K (.ref C) (.ref D) = some false) : PySem.W.kitOne K (.ref C) (.ref D) = some false := by
  have ne : (Value.ref C == Value.ref D) = false := by
    refine Bool.eq_false_iff.mpr fun z => ?_
    have z := Value.ref.inj (beq_iff_eq.mp z)
    subst z
    rw [h1] at h2
    cases h2
  obtain ⟨cd, hc, _⟩ := PySem.W.any_some hd
  unfold PySem.W.kitOne PySem.W.kitCls
  rw [ne, if_neg Bool.false_ne_true]
  dsimp only
  rw [hc, ht, if_pos (by rfl)]
  exact h2
theorem kit_val {K : PySem.W.Frag} {C : Addr} (h : PySem.W.subIn K (.ref C) (.type "ValueError") = some true) : PySem.W.kitOne K (.ref C) (.type "ValueError") = some true := by
  unfold PySem.W.kitOne PySem.W.kitCls
  rw [if_neg (by intro z; cases beq_iff_eq.mp z)]
  dsimp only
  rw [if_pos (by decide +kernel)]
  exact h
end Dt
namespace Dt
open PySem PySem.Spec PyProof.Rows L2
section
variable {P : Program} {w : World} {A : Around} {E : Value → Shared → Prop} {s : Shared}
end
section
variable {X : Cx}
end
section
variable {X : Cx}
end
section
variable {X : Cx} {E : XK} {ρ : List Sl} {e : Expr} {r : Res PyData} {pos p p2 q : Pos}
end
end Dt
namespace Dt
open PySem PySem.Spec PyProof.Rows L2
section
variable {α : Type} {X : Cx} {E : XK} {ρ : List Sl} {a b c f : Expr} {rs : Res (List PyData)} {pos p1 p2 pt pt2 : Pos} {kt k2 : Nat} {sh : α → List Sl} {x y : Str} {rest : List Stmt}
end
section
variable {X : Cx} {a b c e : Expr} {ta tb tc td : TE} {pos : Pos}
end
section
variable {X : Cx} {E : XK} {ρ : List Sl} {a b c f : Expr} {ra rb rc rd : Res PyData} {pos : Pos}
end
end Dt
namespace Dt
open PySem PySem.Spec PyProof.Rows L2
def MaskB (m : Nat) : Prop := m = 7 ∨ m = 31 ∨ m = 127 ∨ m = 511
theorem lap_511 : ((List.range 512).all fun to => (List.range 512).any fun n => lcgN 511 n == to) = true := by decide +kernel
theorem odd_mask {m : Nat} (hm : MaskB m) : m % 2 = 1 := by
  unfold MaskB at hm
  omega
theorem meetsB {m : Nat} (hm : MaskB m) (h : Int) {to : Nat} (ht : to ≤ m) : ∃ n, n ≤ m + 12 ∧ runI m (SetTable.bits h) n = to := by
  rcases hm with e | e | e | e
  · exact run_meets (.inl e) h ht
  · exact run_meets (.inr (.inl e)) h ht
  · exact run_meets (.inr (.inr e)) h ht
  · subst e
    have at_ : ∀ x, x ≤ 511 → ∃ n, n ≤ 511 ∧ lcgN 511 n = x := fun x hx => by
      obtain ⟨n, hn, e⟩ := List.any_eq_true.mp (List.all_eq_true.mp lap_511 x (List.mem_range.mpr (by omega)))
      exact ⟨n, by have := List.mem_range.mp hn; omega, beq_iff_eq.mp e⟩
    have again : ∀ n, lcgN 511 (512 + n) = lcgN 511 n := fun n => by
      induction n with
      | zero => decide +kernel
      | succ n ih => rw [show 512 + (n + 1) = (512 + n) + 1 from rfl, lcgN, lcgN, ih]
    obtain ⟨a, a1, a2⟩ := at_ _ (runI_le 511 (SetTable.bits h) 12)
    obtain ⟨b, b1, b2⟩ := at_ to ht
    have far : ∀ k, runI 511 (SetTable.bits h) (12 + k) = lcgN 511 (a + k) := fun k => by rw [runI_tail (bits_lt h), ← a2, lcgN_add]
    by_cases le : a ≤ b
    · exact ⟨12 + (b - a), by omega, by rw [far, show a + (b - a) = b by omega, b2]⟩
    · exact ⟨12 + (512 + b - a), by omega, by rw [far, show a + (512 + b - a) = 512 + b by omega, again, b2]⟩
theorem way_in {m : Nat} {h : Int} {k : Nat} : way m h k ≤ m := by
  have start : SetTable.bits h % (m + 1) ≤ m := Nat.le_of_lt_succ (Nat.mod_lt (SetTable.bits h) (Nat.succ_pos m))
  obtain ⟨r1, r2, _⟩ := runEnd_bd start
  have all := nth_in (m := m) k (runAt m (SetTable.bits h % (m + 1)) (SetTable.bits h)) (by
    unfold runAt
    dsimp only
    omega)
  exact Nat.le_trans (Nat.le_add_right _ _) all
/-- a table in which each is found from its hash -/
structure TabM (t : SetTable) (hs : List Int) : Prop where
  ris : Ris t.place.toList
  dm : t.dummies = #[]
  sz : t.place.size = hs.length
  mok : MaskB t.mask
  top : ∀ x ∈ t.place.toList, x ≤ t.mask
  way_ : ∀ (i : Nat) (h : Int) (to : Nat), hs[i]? = some h → t.place.toList[i]? = some to → ∃ c, way t.mask h c = to ∧ ∀ d, d < c → way t.mask h d ∈ t.place.toList
theorem TabM.first {t : SetTable} {hs : List Int} (T : TabM t hs) (room : hs.length ≤ t.mask) (h : Int) : ∃ K, K < 10 * SetTable.turns t.mask ∧ way t.mask h K ∉ t.place.toList ∧ ∀ c, c < K → way t.mask h c ∈ t.place.toList := by
  obtain ⟨to, lt, out⟩ := st_missing t.place.toList (t.mask + 1) (by have := T.sz; rw [Array.length_toList]; omega)
  obtain ⟨n, n1, n2⟩ := meetsB T.mok h (to := to) (by omega)
  obtain ⟨k, k1, k2⟩ := run_nth t.mask (SetTable.bits h) n
  have free : way t.mask h k ∉ t.place.toList := by
    have e : way t.mask h k = to := by
      unfold way
      rw [k2]
      exact n2
    rw [e]
    exact out
  obtain ⟨K, l1, l2, l3⟩ := st_least (p := fun k => way t.mask h k ∉ t.place.toList) k free
  refine ⟨K, ?_, l2, fun c hc => Classical.byContradiction (l3 c hc)⟩
  unfold SetTable.turns
  omega
theorem TabM.before {t : SetTable} {hs : List Int} (T : TabM t hs) {h : Int} {K i to : Nat} (free : way t.mask h K ∉ t.place.toList) (e1 : hs[i]? = some h) (e2 : t.place.toList[i]? = some to) : ∃ c, c < K ∧ way t.mask h c = to := by
  obtain ⟨c, w1, w2⟩ := T.way_ i h to e1 e2
  have here : way t.mask h c ∈ t.place.toList := by rw [w1]; exact List.mem_of_getElem? e2
  refine ⟨c, Classical.byContradiction fun q => ?_, w1⟩
  rcases Nat.lt_or_eq_of_le (Nat.le_of_not_lt q) with z | z
  · exact free (w2 K z)
  · exact free (z ▸ here)
theorem TabM.put {t : SetTable} {hs : List Int} (T : TabM t hs) {h : Int} {K : Nat} (free : way t.mask h K ∉ t.place.toList) (full : ∀ c, c < K → way t.mask h c ∈ t.place.toList) :
    (t.put (way t.mask h K)).2 = SetTable.below t.place (way t.mask h K) ∧ SetTable.below t.place (way t.mask h K) ≤ hs.length ∧
      TabM (t.put (way t.mask h K)).1 (hs.take (SetTable.below t.place (way t.mask h K)) ++ h :: hs.drop (SetTable.below t.place (way t.mask h K))) ∧ (t.put (way t.mask h K)).1.mask = t.mask ∧ (t.put (way t.mask h K)).1.led = t.led ∧
      (t.put (way t.mask h K)).1.plain = t.plain ∧ (t.put (way t.mask h K)).1.moves = t.moves ∧ (t.put (way t.mask h K)).1.finger = t.finger ∧ (t.put (way t.mask h K)).1.fill = hs.length + 1 := by
  have top : way t.mask h K ≤ t.mask := way_in
  generalize z : way t.mask h K = to at free top ⊢
  obtain ⟨cut, -, -⟩ := below_cut T.ris to
  have rows := put_place t to
  have same : t.place.toList.length = hs.length := T.sz
  generalize z2 : SetTable.below t.place to = p at cut rows ⊢
  have cut1 : p ≤ t.place.toList.length := cut
  have cut2 : p ≤ hs.length := by omega
  have many : (t.put to).1.place.size = hs.length + 1 := by
    have l := congrArg List.length rows
    rw [len_ins _ cut1, same] at l
    exact l
  have still : ∀ {x}, x ∈ t.place.toList → x ∈ (t.put to).1.place.toList := fun m => by rw [rows]; exact mem_ins.2 (.inr m)
  have known : ∀ (i : Nat) (h' : Int) (to' : Nat), hs[i]? = some h' → t.place.toList[i]? = some to' → ∃ c, way t.mask h' c = to' ∧ ∀ d, d < c → way t.mask h' d ∈ (t.put to).1.place.toList := fun i h' to' a b => by
    obtain ⟨c, c1, c2⟩ := T.way_ i h' to' a b
    exact ⟨c, c1, fun d hd => still (c2 d hd)⟩
  have none_ := put_dm T.dm to
  refine ⟨z2, cut2, ?_, rfl, rfl, rfl, rfl, rfl, ?_⟩
  · constructor
    · exact ris_insert T.ris fun q => free (List.mem_of_getElem? (by rw [Array.getElem?_toList]; exact q))
    · exact none_
    · rw [len_ins _ cut2]
      exact many
    · exact T.mok
    · intro x m
      rw [rows] at m
      rcases mem_ins.1 m with q | q
      · rw [q]; exact top
      · exact T.top x q
    · intro i h' to' a b
      rw [tins_get hs cut2] at a
      rw [rows, tins_get _ cut1] at b
      rcases Nat.lt_trichotomy i p with q | q | q
      · rw [if_pos q] at a b
        exact known i h' to' a b
      · rw [if_neg (by omega), if_pos q] at a b
        cases a
        cases b
        exact ⟨K, z, fun d hd => still (full d hd)⟩
      · rw [if_neg (by omega), if_neg (by omega)] at a b
        exact known (i - 1) h' to' a b
  · unfold SetTable.fill
    rw [many, none_]
    rfl
theorem spotB {m : Nat} (hm : MaskB m) {owner : Array (Option Nat)} (h : Int) (ex : ∃ to, to ≤ m ∧ oAt owner to = none) :
    ∃ K, SetTable.layClean.free m owner (SetTable.turns m) (SetTable.bits h % (m + 1)) (SetTable.bits h) = some (way m h K) ∧ oAt owner (way m h K) = none ∧ ∀ c, c < K → oAt owner (way m h c) ≠ none := by
  obtain ⟨to, le, free⟩ := ex
  obtain ⟨n, n1, n2⟩ := meetsB hm h le
  have there : oAt owner (way m h (off m (SetTable.bits h % (m + 1)) (SetTable.bits h) n)) = none := by
    unfold way
    rw [nth_off, itL_run]
    show oAt owner (runI m (SetTable.bits h) n) = none
    rw [n2]
    exact free
  obtain ⟨K, l1, l2, l3⟩ := st_least (p := fun c => oAt owner (way m h c) = none) _ there
  refine ⟨K, free_spec m owner _ n _ _ K ?_ l1 ?_ ?_, l2, l3⟩
  · unfold SetTable.turns
    omega
  · intro c hc
    have q := l3 c hc
    unfold way at q
    cases w : oAt owner (nth m (runAt m (SetTable.bits h % (m + 1)) (SetTable.bits h)) c).j with
    | some _ => rfl
    | none => exact absurd w q
  · have q := l2
    unfold way at q
    rw [q]
    rfl
theorem sitB {m : Nat} (hm : MaskB m) {done : List Int} {owner : Array (Option Nat)} (W : L2.Own m done owner) (room : done.length ≤ m) (h : Int) :
    ∃ to, SetTable.layClean.free m owner (SetTable.turns m) (SetTable.bits h % (m + 1)) (SetTable.bits h) = some to ∧ L2.Own m (done ++ [h]) (owner.setIfInBounds to (some done.length)) := by
  obtain ⟨ps, pl, pin⟩ := W.ps
  have ex : ∃ to, to ≤ m ∧ oAt owner to = none := by
    obtain ⟨to, lt, out⟩ := st_missing ps (m + 1) (by omega)
    exact ⟨to, by omega, Classical.byContradiction fun q => out (pin to (by omega) q)⟩
  obtain ⟨K, fr, free, full⟩ := spotB hm h ex
  have top : way m h K ≤ m := way_in
  generalize z : way m h K = to at fr free top
  have new : ∀ i, oAt (owner.setIfInBounds to (some done.length)) i = if i = to then some done.length else oAt owner i := fun i => by
    by_cases q : i = to
    · rw [if_pos q, q]; exact oAt_set_self _ (by rw [W.sz]; omega)
    · rw [if_neg q]; exact oAt_set_ne _ q
  have taken : ∀ i, oAt owner i ≠ none → oAt (owner.setIfInBounds to (some done.length)) i ≠ none := fun i q => by
    rw [new]
    split
    · exact fun e => nomatch e
    · exact q
  refine ⟨to, fr, ?_⟩
  constructor
  · rw [Array.size_setIfInBounds]
    exact W.sz
  · intro i k le e
    rw [new] at e
    by_cases q : i = to
    · rw [if_pos q] at e
      cases e
      exact ⟨h, K, by simp, z.trans q.symm, fun c hc => taken _ (full c hc)⟩
    · rw [if_neg q] at e
      obtain ⟨h', c, x1, x2, x3⟩ := W.at_ i k le e
      exact ⟨h', c, by rw [List.getElem?_append_left (List.getElem?_eq_some_iff.mp x1).1]; exact x1, x2, fun d hd => taken _ (x3 d hd)⟩
  · intro k lt
    rw [List.length_append, List.length_singleton] at lt
    rcases Nat.lt_or_ge k done.length with q | q
    · obtain ⟨i, le, e⟩ := W.all k q
      exact ⟨i, le, by rw [new, if_neg (fun u => by rw [u, free] at e; cases e)]; exact e⟩
    · exact ⟨to, top, by rw [new, if_pos rfl, show k = done.length by omega]⟩
  · refine ⟨to :: ps, by simp [pl], fun i le q => ?_⟩
    rw [new] at q
    by_cases u : i = to
    · rw [u]; exact List.mem_cons_self
    · rw [if_neg u] at q
      exact List.mem_cons_of_mem _ (pin i le q)
theorem laysB {m : Nat} (hm : MaskB m) (rest : List Int) : ∀ (done : List Int) (owner : Array (Option Nat)), L2.Own m done owner → done.length + rest.length ≤ m → ∃ o2, rest.foldl (stepF m) (some (owner, done.length)) = some (o2, (done ++ rest).length) ∧ L2.Own m (done ++ rest) o2 := by
  induction rest with
  | nil => exact fun done owner W _ => ⟨owner, by simp, by simpa using W⟩
  | cons h rest ih =>
    intro done owner W l
    rw [List.length_cons] at l
    obtain ⟨to, e, W1⟩ := sitB hm W (by omega) h
    obtain ⟨o2, f, W2⟩ := ih (done ++ [h]) _ W1 (by rw [List.length_append, List.length_singleton]; omega)
    rw [List.append_assoc] at f W2
    refine ⟨o2, ?_, W2⟩
    rw [List.foldl_cons, stepF_some e]
    rw [List.length_append, List.length_singleton] at f
    exact f
theorem relay_ok (t : SetTable) {hs : Array Int} {n M : Nat} (hn : SetTable.sizeAbove n - 1 = M) (hM : MaskB M) (room : hs.size ≤ M) :
    ∃ t' order, t.relaid hs n = some (t', order) ∧ order.toList.Perm (List.range hs.size) ∧ TabM t' (order.toList.map fun i => hs.getD i 0) ∧ t'.mask = M ∧ t'.led = t.led ∧ t'.plain = t.plain ∧ t'.dummies = #[] := by
  obtain ⟨owner, fo, W⟩ := laysB hM hs.toList [] _ (L2.Own.init M) (by rw [Array.length_toList]; simpa using room)
  have lay : SetTable.layClean M hs = some owner := by
    rw [layClean_eq, show hs.toList.foldl (stepF M) (some (Array.replicate (M + 1) none, 0)) = _ from fo]
    rfl
  rw [List.nil_append] at W
  obtain ⟨rise, inR⟩ := ris_live (fun i => owner.getD i none) (List.range (M + 1)) List.pairwise_lt_range
  have rise : Ris ((liveOf M owner).map (·.1)) := rise
  have inR : ∀ x ∈ (liveOf M owner).map (·.1), x ∈ List.range (M + 1) := inR
  have live : ∀ {i k : Nat}, (i, k) ∈ liveOf M owner ↔ i ≤ M ∧ oAt owner i = some k := mem_live W.sz
  have each : ∀ k, k < hs.size → k ∈ (liveOf M owner).map (·.2) := fun k lt => by
    obtain ⟨i, le, e⟩ := W.all k (by rw [Array.length_toList]; exact lt)
    exact List.mem_map.mpr ⟨(i, k), live.2 ⟨le, e⟩, rfl⟩
  have many : (liveOf M owner).length = hs.size := by
    obtain ⟨ps, pl, pin⟩ := W.ps
    have nd : ((liveOf M owner).map (·.1)).Nodup := List.Pairwise.imp (fun lt => Nat.ne_of_lt lt) rise
    have up := nat_nodup_len ((liveOf M owner).map (·.1)) ps nd fun x m => by
      obtain ⟨⟨i, k⟩, m1, rfl⟩ := List.mem_map.mp m
      obtain ⟨le, e⟩ := live.1 m1
      exact pin i le (by rw [e]; exact fun u => nomatch u)
    have down := nat_nodup_len (List.range hs.size) ((liveOf M owner).map (·.2)) List.nodup_range fun k m => each k (List.mem_range.mp m)
    rw [List.length_map] at up down
    rw [List.length_range] at down
    have : hs.toList.length = hs.size := rfl
    omega
  refine ⟨tabOf t M owner, ((liveOf M owner).map (·.2)).toArray, by rw [relaid_eq, hn, lay]; rfl, perm_range _ _ (by rw [List.length_map]; exact many) each, ?_, rfl, rfl, rfl, rfl⟩
  constructor
  · exact rise
  · rfl
  · show ((liveOf M owner).map (·.1)).length = (((liveOf M owner).map (·.2)).map _).length
    rw [List.length_map, List.length_map, List.length_map]
  · exact hM
  · exact fun x m => Nat.le_of_lt_succ (List.mem_range.mp (inR x m))
  · intro i h to a b
    have a : (((liveOf M owner).map (·.2)).map fun i => hs.getD i 0)[i]? = some h := a
    have b : ((liveOf M owner).map (·.1))[i]? = some to := b
    rw [List.getElem?_map, Option.map_eq_some_iff] at b
    obtain ⟨⟨u, k⟩, e, rfl⟩ := b
    rw [List.getElem?_map, List.getElem?_map, e] at a
    have a : hs.getD k 0 = h := Option.some.inj a
    obtain ⟨le, sits⟩ := live.1 (List.mem_of_getElem? e)
    obtain ⟨h0, K, x1, x2, x3⟩ := W.at_ u k le sits
    have e0 : hs.getD k 0 = h0 := by
      rw [Array.getElem?_toList] at x1
      rw [Array.getD_eq_getD_getElem?, x1]
      rfl
    have same : h0 = h := e0.symm.trans a
    subst same
    refine ⟨K, x2, fun d hd => ?_⟩
    show way M h0 d ∈ (liveOf M owner).map (·.1)
    cases w : oAt owner (way M h0 d) with
    | none => exact absurd w (x3 d hd)
    | some q => exact List.mem_map.mpr ⟨(way M h0 d, q), live.2 ⟨way_in, w⟩, rfl⟩
theorem size_308 : SetTable.sizeAbove (SetTable.grown 77) = 512 := by decide +kernel
mutual
/-- no text within -/
def pk : NestedKey → Bool
  | .none => true
  | .num _ => true
  | .text _ => false
  | .tup ks => pks ks
def pks : List NestedKey → Bool
  | [] => true
  | k :: ks => pk k && pks ks
end
section
variable {P : Program} {w : World}
/-- a question that is answered at once -/
abbrev Says (P : Program) (w : World) (s : Shared) (m : Sem Bool) (b : Bool) : Prop := ∀ (A : Around) (E : Value → Shared → Prop) (Q : Bool → Shared → Prop), Q b s → wpAny (model P w) A m Q E s
theorem says_hash {n : Nat} {s : Shared} {a : Addr} {o : Obj} {vs : Array Value} {m : Nat} (ho : s.heap.get? a = some o) (hc : o.cls = .type "tuple") (hd : o.data = .seq vs m) (all : ∀ v ∈ vs.toList, Says P w s (hashByValue n v) true) : Says P w s (hashByValue (n + 1) (.ref a)) true := fun A E Q q => by
  have ty : s.TypeIs (.ref a) "tuple" := ⟨o, ho, hc⟩
  unfold hashByValue
  refine wpAny_bind (wpAny_specialOf ty F.slot_tuple_hash.lookup (show wpAny _ _ (seqItems? (.ref a) >>= _) _ _ s from wpAny_bind (wpAny_seqItems ho hd (wpAny_bind ?_))))
  refine (show wpAny _ _ (forIn vs _ _) _ _ s from ?_)
  rw [← Array.forIn_toList]
  refine wpAny_forIn_list _ (fun left z s' => z.1 = none ∧ s' = s ∧ ∀ v ∈ left, Says P w s (hashByValue n v) true) _ (fun v left z s' h => ?_) (fun z s' h => ?_) _ _ ⟨rfl, rfl, all⟩
  · obtain ⟨h1, rfl, h3⟩ := h
    refine wpAny_bind (h3 v List.mem_cons_self _ _ _ ?_)
    simp only [Bool.not_true, Bool.false_eq_true, if_false]
    exact wpAny_pure ⟨rfl, rfl, fun u hu => h3 u (List.mem_cons_of_mem _ hu)⟩
  · obtain ⟨z1, z2⟩ := z
    obtain ⟨h1, rfl, _⟩ := h
    simp only at h1
    subst h1
    exact wpAny_pure q
theorem says_cls {n : Nat} {s : Shared} {a : Addr} {o : Obj} {vs : Array Value} {m : Nat} (ho : s.heap.get? a = some o) (hc : o.cls = .type "tuple") (hd : o.data = .seq vs m) (all : ∀ v ∈ vs.toList, Says P w s (ofAClassStatement n v) false) : Says P w s (ofAClassStatement (n + 1) (.ref a)) false := fun A E Q q => by
  have ty : s.TypeIs (.ref a) "tuple" := ⟨o, ho, hc⟩
  have e : (("tuple" : String) == "tuple") = true := by decide
  unfold ofAClassStatement
  refine wpAny_bind (wpAny_typeOf ty ?_)
  dsimp only
  simp only [e, if_true, Bool.not_true, Bool.false_eq_true, if_false]
  try refine wpAny_bind (wpAny_pure ?_)
  try simp only [Bool.not_true, Bool.false_eq_true, if_false]
  refine (show wpAny _ _ (seqItems? (.ref a) >>= _) _ _ s from wpAny_bind (wpAny_seqItems ho hd ?_))
  dsimp only
  refine wpAny_bind (show wpAny _ _ (forIn vs _ _) _ _ s from ?_)
  rw [← Array.forIn_toList]
  refine wpAny_forIn_list _ (fun left z s' => z.1 = none ∧ s' = s ∧ ∀ v ∈ left, Says P w s (ofAClassStatement n v) false) _ (fun v left z s' h => ?_) (fun z s' h => ?_) _ _ ⟨rfl, rfl, all⟩
  · obtain ⟨h1, rfl, h3⟩ := h
    refine wpAny_bind (h3 v List.mem_cons_self _ _ _ ?_)
    simp only [Bool.false_eq_true, if_false]
    exact wpAny_pure ⟨rfl, rfl, fun u hu => h3 u (List.mem_cons_of_mem _ hu)⟩
  · obtain ⟨z1, z2⟩ := z
    obtain ⟨h1, rfl, _⟩ := h
    simp only at h1
    subst h1
    exact wpAny_pure q
theorem says_pure {s : Shared} {m : Sem Bool} {b : Bool} (e : m = pure b) : Says P w s m b := fun A E Q q => by
  rw [e]
  exact wpAny_pure q
mutual
theorem hash_says : ∀ (k : NestedKey) (v : Value) (n : Nat) (s : Shared), NestedIs s.heap k v → pk k = true → k.depth ≤ n → Says P w s (hashByValue n v) true
  | .none, _, n, s, x, _, _ => by cases x; exact says_pure (by cases n <;> rfl)
  | .num i, _, n, s, x, _, _ => by cases x <;> exact says_pure (by cases n <;> rfl)
  | .text y, _, n, s, x, h, _ => by simp [pk] at h
  | .tup ks, _, n, s, x, h, hn => by
    cases x with
    | tup h1 h2 h3 h4 =>
      simp only [NestedKey.depth] at hn
      cases n with
      | zero => omega
      | succ n => exact says_hash h1 h2 h3 (hash_says_all ks _ n s h4 h (by omega))
theorem hash_says_all : ∀ (ks : List NestedKey) (vs : List Value) (n : Nat) (s : Shared), NestedAll s.heap ks vs → pks ks = true → NestedKey.depthAll ks ≤ n → ∀ v ∈ vs, Says P w s (hashByValue n v) true
  | [], _, n, s, x, _, _, v, hv => by cases x; cases hv
  | k :: ks, _, n, s, x, h, hn, v, hv => by
    cases x with
    | cons x1 x2 =>
      simp only [NestedKey.depthAll] at hn
      rw [pks, Bool.and_eq_true] at h
      rcases List.mem_cons.mp hv with e | hv
      · rw [e]; exact hash_says k _ n s x1 h.1 (by omega)
      · exact hash_says_all ks _ n s x2 h.2 (by omega) v hv
end
mutual
theorem cls_says : ∀ (k : NestedKey) (v : Value) (n : Nat) (s : Shared), NestedIs s.heap k v → k.depth ≤ n → Says P w s (ofAClassStatement n v) false
  | .none, _, n, s, x, _ => by cases x; exact says_pure (by cases n <;> rfl)
  | .num i, _, n, s, x, _ => by cases x <;> exact says_pure (by cases n <;> rfl)
  | .text y, _, n, s, x, _ => by cases x; exact says_pure (by cases n <;> rfl)
  | .tup ks, _, n, s, x, hn => by
    cases x with
    | tup h1 h2 h3 h4 =>
      simp only [NestedKey.depth] at hn
      cases n with
      | zero => omega
      | succ n => exact says_cls h1 h2 h3 (cls_says_all ks _ n s h4 (by omega))
theorem cls_says_all : ∀ (ks : List NestedKey) (vs : List Value) (n : Nat) (s : Shared), NestedAll s.heap ks vs → NestedKey.depthAll ks ≤ n → ∀ v ∈ vs, Says P w s (ofAClassStatement n v) false
  | [], _, n, s, x, _, v, hv => by cases x; cases hv
  | k :: ks, _, n, s, x, hn, v, hv => by
    cases x with
    | cons x1 x2 =>
      simp only [NestedKey.depthAll] at hn
      rcases List.mem_cons.mp hv with e | hv
      · rw [e]; exact cls_says k _ n s x1 (by omega)
      · exact cls_says_all ks _ n s x2 (by omega) v hv
end
/-- the tuple at an address -/
structure At (h : Heap) (k : NestedKey) (a : Addr) : Prop where
  is : NestedIs h k (.ref a)
  dep : k.depth ≤ 8
  pl : pk k = true
theorem At.kind {h : Heap} {k : NestedKey} {a : Addr} (x : At h k a) : (nestedKind P w).is h k a := ⟨x.is, x.dep⟩
theorem At.inj {h : Heap} {k k' : NestedKey} {a : Addr} (x : At h k a) (y : At h k' a) : k = k' := NestedIs.inj _ _ _ x.is y.is
theorem At.keep {h h' : Heap} {k : NestedKey} {a : Addr} (x : At h k a) (q : ∀ b o, h.get? b = some o → h'.get? b = some o) : At h' k a := ⟨NestedIs.at (fun b o _ _ e _ => q b o e) _ _ x.is, x.dep, x.pl⟩
theorem At.but {h h' : Heap} {k : NestedKey} {a d : Addr} {o : Obj} {es : Array (Int × Value)} {ep : Nat} {t : SetTable} (x : At h k a) (ho : h.get? d = some o) (hd : o.data = .set es ep t) (hs : Heap.SameBut d h h') : At h' k a := ⟨NestedIs.at (fun b o' vs n e1 e2 => by
  refine (hs.2 b fun z => ?_).trans e1
  subst z
  rw [ho] at e1
  cases e1
  rw [hd] at e2
  cases e2) _ _ x.is, x.dep, x.pl⟩
variable {A : Around} {E : Value → Shared → Prop} {s : Shared}
theorem seen_at {k : NestedKey} {b : Addr} {ys : List Value} (x : At s.heap k b) (all : ∀ y ∈ ys, ∃ k' c, y = Value.ref c ∧ At s.heap k' c) : Says P w s (searchCouldBeSeen (.ref b) ys) false := fun A E Q q => by
  unfold searchCouldBeSeen
  refine wpAny_bind (wpAny_forIn_list _ (fun left z s' => z.1 = none ∧ s' = s ∧ ∀ y ∈ left, ∃ k' c, y = Value.ref c ∧ At s.heap k' c) _ (fun v left z s' h => ?_) (fun z s' h => ?_) _ _ ⟨rfl, rfl, all⟩)
  · obtain ⟨h1, rfl, h3⟩ := h
    obtain ⟨k', c, rfl, y⟩ := h3 v List.mem_cons_self
    have more : ∀ y ∈ left, ∃ k' c, y = Value.ref c ∧ At s'.heap k' c := fun u hu => h3 u (List.mem_cons_of_mem _ hu)
    dsimp only
    by_cases hv : (b == c || (carriedByValue (.ref b) && carriedByValue (.ref c))) = true
    · exact wp_if_pos hv (wpAny_pure ⟨rfl, rfl, more⟩)
    · refine wp_if_neg hv (wpAny_bind ((nestedKind P w).quiet x.kind ?_))
      simp only [Bool.not_true, Bool.false_eq_true, if_false]
      refine wpAny_bind ((nestedKind P w).quiet y.kind ?_)
      simp only [Bool.not_true, Bool.false_eq_true, if_false]
      refine wpAny_bind (cls_says _ _ 8 s' x.is x.dep _ _ _ ?_)
      simp only [Bool.false_eq_true, if_false]
      refine wpAny_bind (cls_says _ _ 8 s' y.is y.dep _ _ _ ?_)
      simp only [Bool.false_eq_true, if_false]
      exact wpAny_pure ⟨rfl, rfl, more⟩
  · obtain ⟨z1, z2⟩ := z
    obtain ⟨h1, rfl, _⟩ := h
    simp only at h1
    subst h1
    exact wpAny_pure q
end
abbrev Row := Addr × NestedKey
def nrow (w : World) (p : Row) : Int × Value := (p.2.hash w, Value.ref p.1)
/-- the set at an address -/
structure NSet (w : World) (h : Heap) (a : Addr) (L : List Row) (es : Array (Int × Value)) (ep : Nat) (t : SetTable) : Prop where
  ob : ∃ o, h.get? a = some o ∧ o.ExactSet ∧ o.data = .set es ep t
  rows : es.toList = L.map (nrow w)
  tab : TabM t (L.map fun p => p.2.hash w)
  nd : (L.map (·.2)).Nodup
  keys : ∀ p ∈ L, At h p.2 p.1
  plain : t.plain = true
  led : w.params.followText "set-order" = true ∨ t.led = true
  room : L.length * 5 < t.mask * 3
  few : L.length < 306
section
variable {P : Program} {w : World} {A : Around} {E : Value → Shared → Prop} {s : Shared} {a : Addr} {L : List Row} {es : Array (Int × Value)} {ep : Nat} {t : SetTable}
theorem NSet.size {h : Heap} (B : NSet w h a L es ep t) : es.size = L.length := by
  rw [← Array.length_toList, B.rows, List.length_map]
theorem NSet.fits {h : Heap} (B : NSet w h a L es ep t) : t.fits es.size = true := by
  have z1 := B.tab.sz
  have z2 := B.room
  rw [List.length_map] at z1
  unfold SetTable.fits SetTable.fill
  rw [B.tab.dm, B.size, Bool.and_eq_true, beq_iff_eq, decide_eq_true_eq]
  refine ⟨z1, ?_⟩
  show t.place.size + 0 ≤ t.mask
  omega
theorem NSet.at_ {h : Heap} (B : NSet w h a L es ep t) {i : Nat} {p : Row} (e : L[i]? = some p) : es[i]? = some (nrow w p) := by
  rw [← Array.getElem?_toList, B.rows, List.getElem?_map, e]
  rfl
/-- searching for a key, from a step of its way on -/
theorem NSet.seek (B : NSet w s.heap a L es ep t) {x : Addr} {k : NestedKey} (hx : At s.heap k x) (room : A.units + 8 < cLine) {K : Nat} (hf : K < 10 * SetTable.turns t.mask)
    (free : way t.mask (k.hash w) K ∉ t.place.toList) (full : ∀ c, c < K → way t.mask (k.hash w) c ∈ t.place.toList) {Q : SetFound → Shared → Prop} (yes : k ∈ L.map (·.2) → Q (.there none) s) (no : k ∉ L.map (·.2) → Q (.free (way t.mask (k.hash w) K) false) s) :
    ∀ (f c : Nat) (st : Option SetTable.Probe), st.getD (t.probeStart (k.hash w)) = nth t.mask (runAt t.mask (SetTable.bits (k.hash w) % (t.mask + 1)) (SetTable.bits (k.hash w))) c → c ≤ K → K - c < f →
      (∀ (i : Nat) p, L[i]? = some p → p.2 = k → ∃ c', c ≤ c' ∧ c' < K ∧ t.place.toList[i]? = some (way t.mask (k.hash w) c')) → wpAny (model P w) A (setSearchFrom a (.ref x) (k.hash w) true f st) Q E s := by
  intro f
  induction f with
  | zero => intro c st _ _ h; exact absurd h (Nat.not_lt_zero _)
  | succ f ih =>
    intro c st est hc hK ahead
    obtain ⟨o, ho, hex, hd⟩ := B.ob
    generalize hg : runAt t.mask (SetTable.bits (k.hash w) % (t.mask + 1)) (SetTable.bits (k.hash w)) = g at est ih
    have wayE : ∀ c, (nth t.mask g c).j = way t.mask (k.hash w) c := fun c => by rw [← hg]
    have stepE : ∀ q, nth t.mask (nth t.mask g c) q = nth t.mask g (c + q) := fun q => (nth_add t.mask c g q).symm
    have dm : (nth t.mask g c).dummy = none := by
      have z : ∀ (n : Nat) (p : SetTable.Probe), p.dummy = none → (nth t.mask p n).dummy = none := fun n => by
        induction n with
        | zero => exact fun p h => h
        | succ n ihn => exact fun p h => ihn (adv t.mask p) (by unfold adv; split <;> exact h)
      exact z c g (by rw [← hg]; rfl)
    have hashes : ∀ (i : Nat) p, L[i]? = some p → (fun i => (es[i]?.map (·.1)).getD 0) i = p.2.hash w := fun i p e => by
      show (es[i]?.map (·.1)).getD 0 = _
      rw [B.at_ e]
      rfl
    rw [setSearchFrom_succ]
    refine wpAny_bind (wpAny_setState_of ho hd B.fits ?_)
    dsimp only
    refine wp_if_neg (by unfold SetTable.gaveWay; rw [odd_mask B.tab.mok]; decide) ?_
    try refine wpAny_bind (wpAny_pure ?_)
    rcases go_spec t B.tab.ris B.tab.dm (fun i => (es[i]?.map (·.1)).getD 0) (k.hash w) (10 * SetTable.turns t.mask) (K - c) (nth t.mask g c) dm (by omega) (fun q hq => by rw [stepE, wayE]; exact full _ (by omega))
      (by rw [stepE, wayE, show c + (K - c) = K by omega]; exact free) with ⟨q, i, hq, hi, hh, none0, go⟩ | ⟨none0, go⟩
    · -- one of the same hash
      rw [stepE, wayE] at hi
      have probe : t.probe (fun i => (es[i]?.map (·.1)).getD 0) (k.hash w) (st.getD (t.probeStart (k.hash w))) = some (.candidate (way t.mask (k.hash w) (c + q)) i (nth t.mask g (c + (q + 1)))) := by
        rw [est, ← wayE, ← stepE, ← stepE]
        exact go
      rw [probe]
      dsimp only
      have il : i < L.length := by
        have z1 := (List.getElem?_eq_some_iff.mp hi).1
        have z2 := B.tab.sz
        rw [List.length_map] at z2
        rw [Array.length_toList] at z1
        omega
      obtain ⟨p, ep'⟩ : ∃ p, L[i]? = some p := ⟨_, List.getElem?_eq_getElem il⟩
      have pin := List.mem_of_getElem? ep'
      have slot := slot_live B.tab.ris hi
      have rest : wpAny (model P w) A (searchRest a (.ref x) (k.hash w) true f es t (way t.mask (k.hash w) (c + q)) i (nth t.mask g (c + (q + 1)))) Q E s := by
        unfold searchRest
        rw [B.at_ ep']
        dsimp only [nrow]
        refine wpAny_bind (wpAny_holding ((nestedKind P w).eqBool (by exact room) (B.keys p pin).kind hx.kind ?_))
        refine wpAny_bind (wpAny_setState_of ho hd B.fits ?_)
        dsimp only
        by_cases same : p.2 = k
        · exact wp_if_pos (by simp [same]) (wpAny_pure (yes (List.mem_map.mpr ⟨p, pin, same⟩)))
        · refine wp_if_neg (by simp [same]) ?_
          try refine wpAny_bind (wpAny_pure ?_)
          rw [sameMem]
          dsimp only
          simp only [if_true, slot, B.at_ ep', nrow]
          refine wpAny_bind (wpAny_isSame_ref_self (wpAny_bind (wpAny_pure ?_)))
          simp only [if_true]
          refine wp_if_neg (by simp [same]) (ih (c + (q + 1)) _ rfl (by omega) (by omega) fun i0 p0 e0 k0 => ?_)
          obtain ⟨c', a1, a2, a3⟩ := ahead i0 p0 e0 k0
          refine ⟨c', ?_, a2, a3⟩
          rcases Nat.lt_trichotomy c' (c + q) with z | z | z
          · refine absurd ((hashes i0 p0 e0).trans (congrArg (NestedKey.hash w) k0)) (none0 (c' - c) i0 (by omega) ?_)
            rw [stepE, wayE, show c + (c' - c) = c' by omega]
            exact a3
          · rw [z] at a3
            have s0 := slot_live B.tab.ris a3
            rw [slot] at s0
            injection s0 with s0
            rw [← s0, ep'] at e0
            cases e0
            exact absurd k0 same
          · omega
      by_cases hl : t.led = true
      · refine wp_if_neg (by simp [hl]) ?_
        try refine wpAny_bind (wpAny_pure ?_)
        exact rest
      · refine wp_if_pos (by simp [hl]) (wpAny_bind (seen_at hx (fun y hy => ?_) _ _ _ (wp_if_neg (by decide) ?_)))
        · obtain ⟨e, he, rfl⟩ := List.mem_map.mp hy
          have z : e ∈ es := by
            have : e ∈ es ∧ e.1 = k.hash w := by simpa using he
            exact this.1
          have z : e ∈ es.toList := by simpa using z
          rw [B.rows] at z
          obtain ⟨p2, h2, rfl⟩ := List.mem_map.mp z
          exact ⟨p2.2, p2.1, rfl, B.keys p2 h2⟩
        · try refine wpAny_bind (wpAny_pure ?_)
          exact rest
    · -- a free slot
      have probe : t.probe (fun i => (es[i]?.map (·.1)).getD 0) (k.hash w) (st.getD (t.probeStart (k.hash w))) = some (.empty (way t.mask (k.hash w) K) none) := by
        have z : way t.mask (k.hash w) K = (nth t.mask (nth t.mask g c) (K - c)).j := by rw [stepE, wayE, show c + (K - c) = K by omega]
        rw [est, z]
        exact go
      rw [probe]
      dsimp only
      refine wpAny_pure (no fun hm => ?_)
      obtain ⟨p0, h0, k0⟩ := List.mem_map.mp hm
      obtain ⟨i0, e0⟩ := List.mem_iff_getElem?.mp h0
      obtain ⟨c', a1, a2, a3⟩ := ahead i0 p0 e0 k0
      refine absurd ((hashes i0 p0 e0).trans (congrArg (NestedKey.hash w) k0)) (none0 (c' - c) i0 (by omega) ?_)
      rw [stepE, wayE, show c + (c' - c) = c' by omega]
      exact a3
theorem NSet.find (B : NSet w s.heap a L es ep t) {x : Addr} {k : NestedKey} (hx : At s.heap k x) (room : A.units + 8 < cLine) {Q : SetFound → Shared → Prop} (yes : k ∈ L.map (·.2) → Q (.there none) s)
    (no : ∀ K, k ∉ L.map (·.2) → way t.mask (k.hash w) K ∉ t.place.toList → (∀ c, c < K → way t.mask (k.hash w) c ∈ t.place.toList) → Q (.free (way t.mask (k.hash w) K) false) s) :
    wpAny (model P w) A (setSearch a (.ref x) (k.hash w) true) Q E s := by
  have rm := B.room
  obtain ⟨K, hf, free, full⟩ := B.tab.first (by rw [List.length_map]; omega) (k.hash w)
  have big : K < 100000 := by
    have z : 10 * SetTable.turns t.mask ≤ 5260 := by
      unfold SetTable.turns
      rcases B.tab.mok with e | e | e | e <;> omega
    omega
  unfold setSearch
  refine B.seek hx room hf free full yes (fun n => no K n free full) 100000 0 none rfl (Nat.zero_le _) (by omega) fun i p e ek => ?_
  have il : i < t.place.toList.length := by
    have z1 := (List.getElem?_eq_some_iff.mp e).1
    have z2 := B.tab.sz
    rw [List.length_map] at z2
    rw [Array.length_toList]
    omega
  obtain ⟨c, hc, ec⟩ := B.tab.before (h := k.hash w) (i := i) free (by rw [List.getElem?_map, e, ← ek]; rfl) (List.getElem?_eq_getElem il)
  exact ⟨c, Nat.zero_le _, hc, by rw [ec]; exact List.getElem?_eq_getElem il⟩
end
end Dt
namespace Dt
open PySem PySem.Spec PyProof.Rows L2
theorem pick_range {α : Type} (L : List α) : (List.range L.length).filterMap (fun i => L[i]?) = L := by
  have z : ∀ n, n ≤ L.length → (List.range n).filterMap (fun i => L[i]?) = L.take n := fun n => by
    induction n with
    | zero => exact fun _ => rfl
    | succ n ih =>
      intro h
      rw [List.range_succ, List.filterMap_append, ih (Nat.le_of_lt h), List.take_succ, List.filterMap_cons, List.getElem?_eq_getElem h]
      rfl
  rw [z _ (Nat.le_refl _), List.take_length]
section
variable {P : Program} {w : World} {A : Around} {E : Value → Shared → Prop} {s : Shared} {a : Addr} {L : List Row} {es : Array (Int × Value)} {ep : Nat} {t : SetTable}
theorem rows_order (es : Array (Int × Value)) (order : Array Nat) (hr : es.toList = L.map (nrow w)) (hp : order.toList.Perm (List.range L.length)) :
    ∃ M : List Row, (order.filterMap (es[·]?)).toList = M.map (nrow w) ∧ M.Perm L ∧ (M.map fun p => p.2.hash w) = order.toList.map fun i => (es.map (·.1)).getD i 0 := by
  have at_ : ∀ i : Nat, es[i]? = (L[i]?).map (nrow w) := fun i => by rw [← Array.getElem?_toList, hr, List.getElem?_map]
  have inL : ∀ i ∈ order.toList, i < L.length := fun i hi => List.mem_range.mp (hp.mem_iff.mp hi)
  refine ⟨order.toList.filterMap fun i => L[i]?, ?_, ?_, ?_⟩
  · have e : (order.filterMap (es[·]?)).toList = order.toList.filterMap fun i => es[i]? := by first | exact Array.toList_filterMap | simp
    rw [e, List.map_filterMap]
    congr 1
    funext i
    exact at_ i
  · have e := hp.filterMap fun i => L[i]?
    rw [pick_range] at e
    exact e
  · have key : ∀ l : List Nat, (∀ i ∈ l, i < L.length) → ((l.filterMap fun i => L[i]?).map fun p => p.2.hash w) = l.map fun i => (es.map (·.1)).getD i 0 := fun l => by
      induction l with
      | nil => exact fun _ => rfl
      | cons i l ih =>
        intro h
        have hi := h i List.mem_cons_self
        have e1 : L[i]? = some L[i] := List.getElem?_eq_getElem hi
        rw [List.filterMap_cons_some e1, List.map_cons, List.map_cons, ih fun j hj => h j (List.mem_cons_of_mem _ hj)]
        congr 1
        have e2 : (es.map (·.1))[i]? = some ((L[i]).2.hash w) := by rw [Array.getElem?_map, at_, e1]; rfl
        simp [Array.getD_eq_getD_getElem?, e2]
    exact key _ inL
/-- laid anew in a larger table -/
theorem nset_relay {o : Obj} (ho : s.heap.get? a = some o) (hex : o.ExactSet) (hd : o.data = .set es ep t) (hr : es.toList = L.map (nrow w)) (hsz : t.place.size = es.size) (dm : t.dummies = #[]) (fl : es.size ≤ t.mask)
    (nd : (L.map (·.2)).Nodup) (ks : ∀ p ∈ L, At s.heap p.2 p.1) (pl : t.plain = true) (ld : w.params.followText "set-order" = true ∨ t.led = true) (few : L.length < 306) {n M : Nat} (hn : SetTable.sizeAbove n - 1 = M) (hM : MaskB M) (h512 : SetTable.sizeAbove n ≤ 512) (hr2 : L.length * 5 < M * 3) {Q : Unit → Shared → Prop}
    (fin : ∀ h' L' es' ep' t', Heap.SameBut a s.heap h' → NSet w h' a L' es' ep' t' → L'.Perm L → Q () { s with heap := h' }) : wpAny (model P w) A (setRelay a n) Q E s := by
  have len : es.size = L.length := by rw [← Array.length_toList, hr, List.length_map]
  have fits : t.fits es.size = true := by
    unfold SetTable.fits SetTable.fill
    rw [dm, Bool.and_eq_true, beq_iff_eq, decide_eq_true_eq]
    refine ⟨hsz, ?_⟩
    show t.place.size + 0 ≤ t.mask
    omega
  obtain ⟨t', order, e, perm, T, em, el, epl, edm⟩ := relay_ok t (hs := es.map (·.1)) (n := n) hn hM (by rw [Array.size_map, len]; omega)
  rw [Array.size_map, len] at perm
  obtain ⟨M', r1, r2, r3⟩ := rows_order (L := L) es order hr perm
  rw [← r3] at T
  have len2 : (order.filterMap (es[·]?)).size = es.size := by rw [← Array.length_toList, r1, List.length_map, r2.length_eq, len]
  rw [setRelay_eq]
  refine wpAny_bind (wpAny_setState_of ho hd fits ?_)
  dsimp only
  refine wp_if_neg (by rw [sizeLine_eq]; omega) ?_
  try refine wpAny_bind (wpAny_pure ?_)
  rw [e]
  dsimp only
  refine wpAny_bind (wp_if_neg (by rw [len2]; simp) ?_)
  try refine wpAny_bind (wpAny_pure ?_)
  refine wpAny_pure ?_
  dsimp only
  have sb : Heap.SameBut a s.heap (s.heap.update a (Obj.putSet (order.filterMap (es[·]?)) t')) := Heap.SameBut.update ..
  refine wpAny_storeSet_of ho hd (fin _ M' _ (ep + 1) t' sb ⟨⟨_, store_at ho hd, ⟨hex.1, hex.2.1, hex.2.2⟩, rfl⟩, r1, T, (r2.map (·.2)).nodup_iff.mpr nd, fun p hp => (ks p (r2.mem_iff.mp hp)).but ho hd sb, epl.trans pl, ?_, ?_, ?_⟩ r2) (by rw [len2, len, sizeLine_eq]; omega)
  · rw [el]; exact ld
  · rw [r2.length_eq, em]; exact hr2
  · rw [r2.length_eq]; exact few
/-- one more -/
theorem NSet.add (B : NSet w s.heap a L es ep t) {x : Addr} {k : NestedKey} (hx : At s.heap k x) (room : A.units + 8 < cLine) (few : L.length + 1 < 306) {Q : Bool → Shared → Prop}
    (fin : ∀ b h' L' es' ep' t', Heap.SameBut a s.heap h' → NSet w h' a L' es' ep' t' → (k ∈ L.map (·.2) → L' = L) → (k ∉ L.map (·.2) → L'.Perm ((x, k) :: L)) → Q b { s with heap := h' }) : wpAny (model P w) A (setAddHashed a (.ref x) (k.hash w)) Q E s := by
  obtain ⟨o, ho, hex, hd⟩ := B.ob
  have len := B.size
  have rm := B.room
  unfold setAddHashed
  refine wpAny_holding ?_
  rw [show (100000 : Nat) = 99999 + 1 from rfl, setAddHashedIn_succ]
  refine wpAny_bind (wpAny_setState_of ho hd B.fits ?_)
  dsimp only
  refine wp_if_neg (by simp [byScan, Value.scannable]) ?_
  try refine wpAny_bind (wpAny_pure ?_)
  refine wpAny_bind (B.find hx room (fun yes => ?_) fun K no free full => ?_)
  · dsimp only
    exact wpAny_pure (fin false s.heap L es ep t (Heap.SameBut.refl a s.heap) B (fun _ => rfl) fun n => absurd yes n)
  · dsimp only
    refine wpAny_bind (wpAny_setState_of ho hd B.fits ?_)
    dsimp only
    obtain ⟨g1, g2, g3, g4, g5, g6, g7, g8, g9⟩ := B.tab.put free full
    have pl1 : (t.put (way t.mask (k.hash w) K)).1.plain = true := g6.trans B.plain
    generalize t.put (way t.mask (k.hash w) K) = tp at g1 g3 g4 g5 g6 g7 g8 g9 pl1 ⊢
    obtain ⟨t1, j⟩ := tp
    dsimp only at g1 g3 g4 g5 g6 g7 g8 g9 pl1 ⊢
    subst g1
    have hv := hash_says (P := P) (w := w) _ _ 8 s hx.is hx.pl hx.dep
    first
      | (refine wpAny_bind (wp_if_pos pl1 (hv _ _ _ ?_)))
      | refine wp_if_pos pl1 (wpAny_bind (hv _ _ _ ?_))
    simp only [if_true]
    have rows1 : (SetTable.insertAt es (SetTable.below t.place (way t.mask (k.hash w) K)) (k.hash w, Value.ref x)).toList = (L.take (SetTable.below t.place (way t.mask (k.hash w) K)) ++ (x, k) :: L.drop (SetTable.below t.place (way t.mask (k.hash w) K))).map (nrow w) := by
      rw [SetTable.toList_insertAt, B.rows, List.map_append, List.map_cons, List.map_take, List.map_drop]
      rfl
    generalize SetTable.below t.place (way t.mask (k.hash w) K) = j at g2 g3 rows1 ⊢
    have perm := put_perm L j (x, k)
    have hsh : (L.take j ++ (x, k) :: L.drop j).map (fun p => p.2.hash w) = (L.map fun p => p.2.hash w).take j ++ k.hash w :: (L.map fun p => p.2.hash w).drop j := by
      rw [List.map_append, List.map_cons, List.map_take, List.map_drop]
    rw [← hsh] at g3
    have nd1 : ((L.take j ++ (x, k) :: L.drop j).map (·.2)).Nodup := (perm.map (·.2)).nodup_iff.mpr (List.nodup_cons.mpr ⟨no, B.nd⟩)
    have len1 : (L.take j ++ (x, k) :: L.drop j).length = L.length + 1 := perm.length_eq
    have es1 : (SetTable.insertAt es j (k.hash w, Value.ref x)).size = L.length + 1 := by
      rw [← Array.length_toList, rows1, List.length_map, len1]
    generalize SetTable.insertAt es j (k.hash w, Value.ref x) = e1 at rows1 es1 ⊢
    generalize L.take j ++ (x, k) :: L.drop j = L1 at perm len1 g3 nd1 rows1
    refine wpAny_bind (wpAny_storeSet_of ho hd ?_ (by rw [es1, sizeLine_eq]; omega))
    have sb : Heap.SameBut a s.heap (s.heap.update a (Obj.putSet e1 t1)) := Heap.SameBut.update ..
    have ho1 := store_at (es' := e1) (t' := t1) ho hd
    generalize s.heap.update a (Obj.putSet e1 t1) = h1 at sb ho1 ⊢
    have keys1 : ∀ p ∈ L1, At h1 p.2 p.1 := fun p hp => by
      rcases List.mem_cons.mp (perm.mem_iff.mp hp) with e | hp
      · rw [e]; exact hx.but ho hd sb
      · exact (B.keys p hp).but ho hd sb
    have led1 : w.params.followText "set-order" = true ∨ t1.led = true := by rw [g5]; exact B.led
    have fillE : t1.fill = L.length + 1 := by rw [g9, List.length_map]
    by_cases full1 : t1.tooFull = true
    · have big : (L.length + 1) * 5 ≥ t1.mask * 3 := by
        have z := full1
        unfold SetTable.tooFull at z
        rw [decide_eq_true_eq, fillE] at z
        exact z
      have place1 : t1.place.size = e1.size := by
        have z := g3.sz
        rw [List.length_map, len1] at z
        rw [z, es1]
      rw [g4] at big
      have which : (t.mask = 7 ∧ L.length = 4) ∨ (t.mask = 31 ∧ L.length = 18) ∨ (t.mask = 127 ∧ L.length = 76) := by
        rcases B.tab.mok with e | e | e | e <;> rw [e] at big rm <;> omega
      have go : ∀ M, SetTable.sizeAbove (SetTable.grown (L.length + 1)) - 1 = M → MaskB M → SetTable.sizeAbove (SetTable.grown (L.length + 1)) ≤ 512 → (L.length + 1) * 5 < M * 3 →
          wpAny (model P w) A (setRelay a (SetTable.grown (L.length + 1))) (fun _ s' => wpAny (model P w) A (pure true) Q E s') E { s with heap := h1 } := fun M q1 q2 q3 q4 =>
        nset_relay (s := { s with heap := h1 }) ho1 ⟨hex.1, hex.2.1, hex.2.2⟩ rfl rows1 place1 g3.dm (by rw [es1, g4]; rcases which with ⟨z, z2⟩ | ⟨z, z2⟩ | ⟨z, z2⟩ <;> omega) nd1 keys1 pl1 led1 (by rw [len1]; exact few) q1 q2 q3 (by rw [len1]; exact q4)
          fun h2 L2 e2 ep2 t2 sb2 B2 perm2 => wpAny_pure (fin true h2 L2 e2 ep2 t2 (sb.trans sb2) B2 (fun z => absurd z no) fun _ => perm2.trans perm)
      first
        | (refine wpAny_bind (wp_if_pos (by simp [full1]) ?_); rw [len])
        | (refine wp_if_pos (by simp [full1]) (wpAny_bind ?_); rw [len])
      rcases which with ⟨_, z⟩ | ⟨_, z⟩ | ⟨_, z⟩
      · exact go 31 (by rw [z, size_20]) (.inr (.inl rfl)) (by rw [z, size_20]; decide) (by omega)
      · exact go 127 (by rw [z, size_76]) (.inr (.inr (.inl rfl))) (by rw [z, size_76]; decide) (by omega)
      · exact go 511 (by rw [z, size_308]) (.inr (.inr (.inr rfl))) (by rw [z, size_308]; decide) (by omega)
    · have small : (L.length + 1) * 5 < t1.mask * 3 := by
        have z := full1
        unfold SetTable.tooFull at z
        rw [decide_eq_true_eq, fillE] at z
        omega
      first
        | refine wp_if_neg (by simp [full1]) ?_
        | (refine wpAny_bind (wp_if_neg (by simp [full1]) (wpAny_pure ?_)))
      exact wpAny_pure (fin true h1 L1 e1 (ep + 1) t1 sb ⟨⟨_, ho1, ⟨hex.1, hex.2.1, hex.2.2⟩, rfl⟩, rows1, g3, nd1, keys1, pl1, led1, by rw [len1]; exact small, by rw [len1]; exact few⟩ (fun z => absurd z no) fun _ => perm)
/-- what the first items have come to -/
structure Had (ks : List Row) (i : Nat) (L : List Row) : Prop where
  sub : ∀ p ∈ L, p ∈ ks
  all : ∀ p ∈ ks.take i, p.2 ∈ L.map (·.2)
theorem Had.same {ks L : List Row} {i : Nat} {x : Row} (g : Had ks i L) (e : ks[i]? = some x) (m : x.2 ∈ L.map (·.2)) : Had ks (i + 1) L := ⟨g.sub, fun p hp => by
  rw [take_next e] at hp
  rcases List.mem_append.mp hp with z | z
  · exact g.all p z
  · rw [List.mem_singleton.mp z]; exact m⟩
theorem Had.more {ks L M : List Row} {i : Nat} {x : Row} (g : Had ks i L) (e : ks[i]? = some x) (perm : M.Perm (x :: L)) : Had ks (i + 1) M := ⟨fun p hp => by
  rcases List.mem_cons.mp (perm.mem_iff.mp hp) with z | z
  · rw [z]; exact List.mem_of_getElem? e
  · exact g.sub p z, fun p hp => by
  rw [(perm.map (·.2)).mem_iff, List.map_cons]
  rw [take_next e] at hp
  rcases List.mem_append.mp hp with z | z
  · exact List.mem_cons_of_mem _ (g.all p z)
  · rw [List.mem_singleton.mp z]; exact List.mem_cons_self⟩
theorem NSet.stay {h h' : Heap} (B : NSet w h a L es ep t) (ha : ∀ o, h.get? a = some o → h'.get? a = some o) (hk : ∀ p ∈ L, At h' p.2 p.1) : NSet w h' a L es ep t := by
  obtain ⟨o, ho, r⟩ := B.ob
  exact ⟨⟨o, ha o ho, r⟩, B.rows, B.tab, B.nd, hk, B.plain, B.led, B.room, B.few⟩
end
end Dt
namespace Dt
open PySem PySem.Spec PyProof.Rows L2
section
open PySem.W
variable {P : Program} {w : World} {A : Around} {E : Value → Shared → Prop} {s : Shared} {β : Type} {R : Value → β → Prop} {bs : List β} {enc : β → PyData} {vs : List Value}
end
mutual
def beqP : PyData → PyData → Bool
  | .none, .none => true
  | .bool a, .bool b => decide (a = b)
  | .int a, .int b => decide (a = b)
  | .tuple a, .tuple b => beqPs a b
  | _, _ => false
def beqPs : List PyData → List PyData → Bool
  | [], [] => true
  | x :: a, y :: b => beqP x y && beqPs a b
  | _, _ => false
end
def okN (d : PyData) : Bool := keyOk d && pk (nk d)
def dedN : List PyData → List PyData
  | [] => []
  | d :: ds => if (dedN ds).any (fun e => decide (nk e = nk d)) = true then dedN ds else d :: dedN ds
def injN (ds : List PyData) : Bool := ds.all fun a => ds.all fun b => !decide (nk a = nk b) || beqP a b
section
variable {A : Ow} {κ : Kx} {H : Hp}
end
section
variable {X : Cx} {pins : List (Addr × Obj)} {σ : L2.St} {H : Hp} {s : Shared} {A : Ow}
end
section
variable {X : Cx}
end
end Dt
namespace Dt
open PySem PySem.Spec PyProof.Rows L2
theorem sorD_pw (ds : List PyData) : (sorD ds).Pairwise fun a b => PySem.W.dataLt b a = false := by
  open PySem.W in
  have T := PySem.W.sortLe_total (listOrd itemOrd) false fun d : PyData => PySem.W.keyToks d
  refine (List.pairwise_mergeSort (le := PySem.W.dataLe false id) (fun a b c h1 h2 => T.trans a b c h1 h2) (fun a b => by rw [Bool.or_eq_true]; exact T.total a b) ds).imp fun {a b} h => ?_
  have h : (!PySem.W.dataLt b a) = true := h
  rw [Bool.not_eq_true'] at h
  exact h
theorem up_uniq {le : PyData → PyData → Prop} : ∀ {l m : List PyData}, (∀ a ∈ l, ∀ b ∈ l, le a b → le b a → a = b) → l.Perm m → l.Pairwise le → m.Pairwise le → l = m
  | [], m, _, p, _, _ => (List.nil_perm.mp p).symm
  | x :: l, [], _, p, _, _ => absurd (List.perm_nil.mp p) (by simp)
  | x :: l, y :: m, anti, p, hl, hm => by
    obtain ⟨h1, h2⟩ := List.pairwise_cons.mp hl
    obtain ⟨h3, h4⟩ := List.pairwise_cons.mp hm
    have hx : x ∈ y :: m := p.mem_iff.mp List.mem_cons_self
    have hy : y ∈ x :: l := p.mem_iff.mpr List.mem_cons_self
    have e : x = y := by
      rcases List.mem_cons.mp hx with z | z
      · exact z
      rcases List.mem_cons.mp hy with z' | z'
      · exact z'.symm
      exact anti x List.mem_cons_self y hy (h1 y z') (h3 x z)
    subst e
    rw [up_uniq (fun a ha b hb => anti a (List.mem_cons_of_mem _ ha) b (List.mem_cons_of_mem _ hb)) p.cons_inv h2 h4]
theorem sorD_perm {ds es : List PyData} (h : ds.Perm es) (anti : ∀ a ∈ ds, ∀ b ∈ ds, PySem.W.dataLt a b = false → PySem.W.dataLt b a = false → a = b) : sorD ds = sorD es := by
  have p1 : (sorD ds).Perm ds := List.mergeSort_perm _ _
  have p2 : (sorD es).Perm es := List.mergeSort_perm _ _
  exact up_uniq (le := fun a b => PySem.W.dataLt b a = false) (fun a ha b hb h1 h2 => anti a (p1.mem_iff.mp ha) b (p1.mem_iff.mp hb) h2 h1) ((p1.trans h).trans p2.symm) (sorD_pw ds) (sorD_pw es)
def lenSetN : PyData → Res PyData
  | .list ds => if (ds.all okN && (injN ds && decide ((dedN ds).length < 300))) = true then .ok (.int ((dedN ds).length : Int)) else .stuck
  | _ => .stuck
section
variable {X : Cx} {E : XK} {ρ : List Sl} {e : Expr} {r : Res PyData} {pos p p2 q : Pos}
end
end Dt
namespace Dt
open PySem PySem.Spec PyProof.Rows L2
section
variable {X : Cx} {E : XK} {ρ : List Sl} {e : Expr} {r : Res PyData} {pos p p1 p2 pt : Pos} {kt : Nat}
end
section
variable {X : Cx}
end
end Dt
namespace Dt
open PySem PySem.Spec PyProof.Rows L2 RZ
section
variable {P : Program} {w : World} {A : Around} {E : Value → Shared → Prop} {s : Shared}
end
section
variable {P : Program} {w : World} {A : Around} {E : Value → Shared → Prop} {s : Shared}
end
section
variable {X : Cx} {E : XK} {ρ : List Sl} {a b : Expr} {rs : Res (List PyData)} {pos : Pos}
end
end Dt
namespace Dt
open PySem PySem.Spec PyProof.Rows L2
section
variable {α β : Type} {X : Cx} {E : XK} {ρ ρ' : List Sl} {e a b c iter tg : Expr} {es : List Expr} {r ra rb rc : Res PyData} {rt : Res Bool} {ri rs : Res (List PyData)} {pos p' p : Pos} {sh : α → List Sl} {sb : β → List Sl} {x : Str} {rest body : List Stmt}
end
end Dt
namespace Dt
open PySem PySem.Spec PyProof.Rows L2
section
variable {α β : Type} {X : Cx} {E : XK} {ρ ρ' : List Sl} {e a b c iter tg : Expr} {es : List Expr} {r ra rb rc : Res PyData} {rt : Res Bool} {ri rs : Res (List PyData)} {pos p' p : Pos} {sh : α → List Sl} {sb : β → List Sl} {x : Str} {rest body : List Stmt}
end
section
variable {X : Cx} {E : XK} {ρ : List Sl} {e : Expr} {es : List Expr} {rs : Res (List PyData)} {pos p : Pos} {x : Str} {F : List PyData → Res PyData} {j k : Nat}
end
end Dt
namespace Dt
open PySem PySem.Spec PyProof.Rows L2

/-- the field's place -/
abbrev AtF (fl : List (Str × Fd)) (f : Str) (j : Nat) (x : Fd) : Prop := (fl.map (·.1)).findIdx? (fun g => f == g) = some j ∧ fl[j]? = some (f, x)
theorem lookup_no {α : Type} {f : Str} : ∀ {fs : List (Str × α)}, (fs.map (·.1)).findIdx? (fun g => f == g) = none → fs.lookup f = none
  | [], h => rfl
  | (g, x) :: fs, h => by
    rw [List.map_cons, List.findIdx?_cons] at h
    by_cases e : (f == g) = true
    · rw [if_pos e] at h; cases h
    · rw [if_neg e] at h
      simp only [List.lookup, Bool.not_eq_true _ |>.mp e]
      exact lookup_no (by cases z : (fs.map (·.1)).findIdx? (fun g => f == g) with
        | none => rfl
        | some i => rw [z] at h; cases h)
theorem put_at {f : Str} {v : V} : ∀ {fs : List (Str × V)} {j : Nat}, (fs.map (·.1)).findIdx? (fun g => f == g) = some j → putF f v fs = fs.set j (f, v)
  | [], j, h => by simp at h
  | (g, x) :: fs, j, h => by
    rw [List.map_cons, List.findIdx?_cons] at h
    by_cases e : (f == g) = true
    · rw [if_pos e] at h
      cases h
      have e' : g = f := (beq_iff_eq.mp e).symm
      rw [show putF f v ((g, x) :: fs) = (if g = f then (g, v) :: fs else (g, x) :: putF f v fs) from rfl, if_pos e', e']
      rfl
    · rw [if_neg e] at h
      have e' : ¬ g = f := fun z => e (beq_iff_eq.mpr z.symm)
      cases z : (fs.map (·.1)).findIdx? (fun g => f == g) with
      | none => rw [z] at h; cases h
      | some i =>
        rw [z] at h
        cases h
        rw [show putF f v ((g, x) :: fs) = (if g = f then (g, v) :: fs else (g, x) :: putF f v fs) from rfl, if_neg e', put_at z]
        rfl
theorem put_no {f : Str} {v : V} : ∀ {fs : List (Str × V)}, (fs.map (·.1)).findIdx? (fun g => f == g) = none → putF f v fs = fs ++ [(f, v)]
  | [], h => rfl
  | (g, x) :: fs, h => by
    rw [List.map_cons, List.findIdx?_cons] at h
    by_cases e : (f == g) = true
    · rw [if_pos e] at h; cases h
    · rw [if_neg e] at h
      have e' : ¬ g = f := fun z => e (beq_iff_eq.mpr z.symm)
      rw [show putF f v ((g, x) :: fs) = (if g = f then (g, v) :: fs else (g, x) :: putF f v fs) from rfl, if_neg e', put_no (by cases z : (fs.map (·.1)).findIdx? (fun g => f == g) with
        | none => rfl
        | some i => rw [z] at h; cases h)]
      rfl
theorem paired_imp {α β : Type} {R S : α → β → Prop} {xs : List α} {ys : List β} (h : Paired R xs ys) (k : ∀ (i : Nat) x y, xs[i]? = some x → ys[i]? = some y → R x y → S x y) : Paired S xs ys := by
  induction h with
  | nil => exact .nil
  | cons r t ih => exact .cons (k 0 _ _ rfl rfl r) (ih fun i x y h1 h2 => k (i + 1) x y (by simpa using h1) (by simpa using h2))
theorem paired_set {α β : Type} {R S : α → β → Prop} {a : α} {b : β} (hn : S a b) {xs : List α} {ys : List β} {j : Nat} (k : ∀ (i : Nat) x y, i ≠ j → xs[i]? = some x → ys[i]? = some y → R x y → S x y) (h : Paired R xs ys) : Paired S (xs.set j a) (ys.set j b) := by
  induction h generalizing j with
  | nil => simp; exact .nil
  | cons r t ih =>
    cases j with
    | zero => exact .cons hn (paired_imp t fun i x y h1 h2 => k (i + 1) x y (by omega) (by simpa using h1) (by simpa using h2))
    | succ j => exact .cons (k 0 _ _ (by omega) rfl rfl r) (ih fun i x y hi h1 h2 => k (i + 1) x y (by omega) (by simpa using h1) (by simpa using h2))
section
variable {A : Ow} {n : Nat} {κ : Kx} {H : Hp} {p C : Addr} {fl : List (Str × Fd)} {f : Str} {j : Nat} {x : Fd}
theorem ObOk.len (h : ObOk A n κ H p C fl) : ∃ dx fs, H p = some (.ins C dx fs) ∧ fs.length = fl.length := by
  obtain ⟨dx, fs, h1, h2, h3⟩ := h
  have := congrArg List.length h2
  rw [List.length_map, List.length_map] at this
  exact ⟨dx, fs, h1, this⟩
theorem mut_ins {dx : Addr} {fs : List (Str × V)} (h : H p = some (.ins C dx fs)) : Mut (H p) := by rw [h]; exact trivial
/-- the other fields when the object is written -/
theorem FdOk.wr {dx : Addr} {fs : List (Str × V)} {o : HO} (ha : A p = some n) (h1 : H p = some (.ins C dx fs)) {v : V} : ∀ {x : Fd}, FdOk A n κ H v x → FdOk A n κ (upd H p o) v x
  | .fz d, r => Rep.mv (Mv.write (by rw [ha]; exact fun z => by cases z) (mut_ins h1)) r
  | .ow ds, ⟨q, e, a, xs, h2, h3⟩ => ⟨q, e, a, xs, by rw [upd_ne (fun z => by rw [z, h1] at h2; cases h2)]; exact h2, h3.mv (Mv.write (by rw [ha]; exact fun z => by cases z) (mut_ins h1))⟩
theorem ObOk.put {dx : Addr} {fs : List (Str × V)} {v : V} {y : Fd} (h : ObOk A n κ H p C fl) (ha : A p = some n) (h1 : H p = some (.ins C dx fs)) (a : AtF fl f j x) (hv : FdOk A n κ H v y) : ObOk A n κ (upd H p (.ins C dx (putF f v fs))) p C (fl.set j (f, y)) := by
  obtain ⟨dx', fs', g1, g2, g3⟩ := h
  rw [h1] at g1
  cases g1
  have a1 := a.1
  rw [← g2] at a1
  refine ⟨dx, putF f v fs, upd_same, ?_, ?_⟩
  · rw [put_at a1, List.map_set, List.map_set, g2]
  · rw [put_at a1, List.map_set, List.map_set]
    exact paired_set (hv.wr ha h1) (fun i x y _ _ _ r => r.wr ha h1) g3
theorem ObOk.push {dx : Addr} {fs : List (Str × V)} {v : V} {y : Fd} (h : ObOk A n κ H p C fl) (ha : A p = some n) (h1 : H p = some (.ins C dx fs)) (a : (fl.map (·.1)).findIdx? (fun g => f == g) = none) (hv : FdOk A n κ H v y) : ObOk A n κ (upd H p (.ins C dx (putF f v fs))) p C (fl ++ [(f, y)]) := by
  obtain ⟨dx', fs', g1, g2, g3⟩ := h
  rw [h1] at g1
  cases g1
  rw [← g2] at a
  refine ⟨dx, putF f v fs, upd_same, ?_, ?_⟩
  · rw [put_no a, List.map_append, List.map_append, g2]
    rfl
  · rw [put_no a, List.map_append, List.map_append]
    clear g2 a
    generalize fs.map (·.2) = us at g3
    generalize fl.map (·.2) = zs at g3
    induction g3 with
    | nil => exact .cons (hv.wr ha h1) .nil
    | cons r t ih => exact .cons (r.wr ha h1) ih
end
section
variable {α β : Type} {X : Cx} {E : XK} {ρ : List Sl} {e : Expr} {r : Res PyData} {ri : Res (List PyData)} {pos p p' pa apos : Pos} {sh : α → List Sl} {x f : Str} {rest : List Stmt} {C o0 : Addr} {fl : List (Str × Fd)} {i j : Nat}
def isFz : Fd → Bool
  | .fz _ => true
  | .ow _ => false
theorem Reps.dropLast {A : Ow} {κ : Kx} {H : Hp} {vs : List V} {ds : List PyData} (h : Reps A κ H vs ds) : Reps A κ H vs.dropLast ds.dropLast := by
  rw [List.dropLast_eq_take, List.dropLast_eq_take, h.length]
  exact h.take _
end
end Dt
namespace Dt
open PySem PySem.Spec PyProof.Rows L2

/-- what is nobody's, or an outer def's, stays so -/
structure Ch (A A' : Ow) (H H' : Hp) : Prop where
  keep : ∀ a o, H a = some o → (A a = none ∨ A a = some 0) → H' a = some o ∧ A' a = A a
  ne0 : ∀ a, A' a = some 0 → A a = some 0
  tups : ∀ a xs, H a = some (.tup xs) → H' a = some (.tup xs)
  frzs : ∀ a o u, H a = some (.frz o u) → H' a = some (.frz o u)
section
variable {A A' A'' A0 : Ow} {H H' H'' H0 : Hp} {κ : Kx} {γ : Gs} {ρ ρ' : List Sl} {σ : L2.St}
theorem Ch.mv (c : Ch A A' H H') : Mv A A' H H' := ⟨fun a o h n => ⟨(c.keep a o h (.inl n)).1, by rw [(c.keep a o h (.inl n)).2]; exact n⟩, c.tups, c.frzs⟩
theorem Ch.same (s : Same H H') : Ch A A H H' where
  keep := fun a o h _ => ⟨s _ _ h, rfl⟩
  ne0 := fun _ h => h
  tups := fun a xs h => s _ _ h
  frzs := fun a o u h => s _ _ h
theorem Ch.trans (c : Ch A A' H H') (d : Ch A' A'' H' H'') : Ch A A'' H H'' where
  keep := fun a o h n => by
    obtain ⟨h1, h2⟩ := c.keep a o h n
    obtain ⟨h3, h4⟩ := d.keep a o h1 (by rw [h2]; exact n)
    exact ⟨h3, h4.trans h2⟩
  ne0 := fun a h => c.ne0 a (d.ne0 a h)
  tups := fun a xs h => d.tups _ _ (c.tups _ _ h)
  frzs := fun a o u h => d.frzs _ _ _ (c.frzs _ _ _ h)
theorem ERA.ch (h : ERA A A0 H0 κ γ ρ σ H) (c : Ch A A' H H') (ev : EV A' κ ρ' σ H') : ERA A' A0 H0 κ γ ρ' σ H' := by
  refine ⟨ev, h.gs.mv c.mv, fun a e => ?_, fun a o e => ?_, fun a n e => ?_, h.t0⟩
  · cases q : A a with
    | none => exact h.sub a q
    | some k =>
      cases k with
      | zero =>
        obtain ⟨o, w⟩ := h.ev.tr a (by rw [q]; exact fun z => by cases z)
        rw [(c.keep a o w (.inr q)).2, q] at e
        cases e
      | succ k =>
        cases z : A0 a with
        | none => rfl
        | some m =>
          obtain ⟨o, w⟩ := h.t0 a (by rw [z]; exact fun z => by cases z)
          rw [h.new a k q] at w
          cases w
  · refine (c.keep a o (h.same _ _ e) ?_).1
    cases q : A a with
    | none => exact .inl rfl
    | some k =>
      cases k with
      | zero => exact .inr rfl
      | succ k => rw [h.new a k q] at e; cases e
  · cases q : A a with
    | none =>
      cases z : H a with
      | none => exact h.same.free z
      | some o =>
        rw [(c.keep a o z (.inl q)).2, q] at e
        cases e
    | some k =>
      cases k with
      | zero =>
        obtain ⟨o, w⟩ := h.ev.tr a (by rw [q]; exact fun z => by cases z)
        rw [(c.keep a o w (.inr q)).2, q] at e
        cases e
      | succ k => exact h.new a k q
end

/-- no error may come -/
def PostD {α : Type} (r : Res α) (p : α → Prop) : Prop := match r with
  | .ok a => p a
  | _ => False
theorem PostD.r {α : Type} {X : Cx} {E : XK} {H : Hp} {r : Res α} {p : α → Prop} (h : PostD r p) : PostR X E H r p := by
  cases r with
  | ok a => exact h
  | err c => exact h.elim
  | stuck => exact h
theorem PostD.bind {α β : Type} {r : Res α} {k : α → Res β} {p : β → Prop} (h : PostD (r >>= k) p) : PostD r fun a => PostD (k a) p := by
  cases r <;> exact h
theorem PostD.mono {α : Type} {r : Res α} {p q : α → Prop} (h : PostD r p) (k : ∀ a, p a → q a) : PostD r q := by
  cases r with
  | ok a => exact k a h
  | err c => exact h
  | stuck => exact h
section
variable {S T : Type} {X : Cx} {E : XK} {ρ : List Sl} {a b e : Expr} {r ra rb : Res PyData} {rt ru : Res Bool} {rs : Res S} {dv : S → PyData} {bv : S → Bool} {ro : S → List Sl} {pos : Pos} {k : S → Res T} {bt : T → Bool} {rT : T → List Sl}
end

inductive OutM (α S : Type) where
  | nx (a : α)
  | rt (d : PyData) (s : S)
/-- slots forgotten -/
inductive LeN : List Sl → List Sl → Prop
  | nil : LeN [] []
  | n {l m : List Sl} {s : Sl} : LeN l m → LeN (.no :: l) (s :: m)
  | e {l m : List Sl} {s : Sl} : LeN l m → LeN (s :: l) (s :: m)
theorem LeN.len : ∀ {l m : List Sl}, LeN l m → l.length = m.length
  | _, _, .nil => rfl
  | _, _, .n t => by rw [List.length_cons, List.length_cons, LeN.len t]
  | _, _, .e t => by rw [List.length_cons, List.length_cons, LeN.len t]
theorem LeN.at : ∀ {l m : List Sl} (i : Nat), LeN l m → l.getD i .no = .no ∨ l.getD i .no = m.getD i .no
  | _, _, i, .nil => .inr rfl
  | _, _, 0, .n _ => .inl rfl
  | _, _, 0, .e _ => .inr rfl
  | _, _, i + 1, .n t => by simpa [List.getD] using LeN.at i t
  | _, _, i + 1, .e t => by simpa [List.getD] using LeN.at i t
theorem EV.less {A : Ow} {κ : Kx} {ρ ρ' : List Sl} {σ : L2.St} {H : Hp} (h : EV A κ ρ σ H) (l : LeN ρ' ρ) : EV A κ ρ' σ H := ⟨by rw [l.len]; exact h.len, h.tr, fun i => by
  rcases l.at i with e | e
  · rw [e]; trivial
  · rw [e]; exact h.sl i⟩
theorem ERA.less {A A0 : Ow} {H0 H : Hp} {κ : Kx} {γ : Gs} {ρ ρ' : List Sl} {σ : L2.St} (h : ERA A A0 H0 κ γ ρ σ H) (l : LeN ρ' ρ) : ERA A A0 H0 κ γ ρ' σ H := ⟨h.ev.less l, h.gs, h.sub, h.same, h.new, h.t0⟩
/-- what is handed back: a datum, or the object of a slot -/
def slotD (i : Nat) : PyData := .dict [(.str "<slot>", .int (i : Int))]
def RepR (A : Ow) (κ : Kx) (H : Hp) (σ : L2.St) (v : V) (d : PyData) : Prop := Rep A κ H v d ∨ ∃ i, d = slotD i ∧ σ[i]? = some (some v)
def seqM {α β S : Type} (r : Res (OutM β S)) (k : β → Res (OutM α S)) : Res (OutM α S) := r >>= fun o => match o with
  | .nx a => k a
  | .rt d s => .ok (.rt d s)
@[simp] theorem seqM_nx {α β S : Type} (a : β) (k : β → Res (OutM α S)) : seqM (.ok (.nx a)) k = k a := rfl
@[simp] theorem seqM_rt {α β S : Type} (d : PyData) (s : S) (k : β → Res (OutM α S)) : seqM (.ok (.rt d s)) k = .ok (.rt d s) := rfl
/-- a plain statement goes on -/
def nxR {β : Type} (r : Res (Out β)) : Res β := r >>= fun o => match o with
  | .nx a => .ok a
  | .rt _ => .stuck
@[simp] theorem nxR_nx {β : Type} (a : β) : nxR (.ok (.nx a)) = .ok a := rfl
@[simp] theorem nxR_bind {α β : Type} (r : Res α) (k : α → Res (Out β)) : nxR (r >>= k) = (r >>= fun a => nxR (k a)) := bind_assoc' r k _
section
variable {α β S T : Type} {X : Cx} {E : XK} {ρ ρ' : List Sl} {e c iter tg : Expr} {r : Res PyData} {rs : Res T} {dv : T → PyData} {bv : T → Bool} {ro : T → List Sl} {pos p' : Pos} {sh : α → List Sl} {sb : β → List Sl} {so : S → List Sl} {x : Str} {st : Stmt} {rest body : List Stmt}
def onlyM {α S : Type} (r : Res (OutM Empty S)) : Res (OutM α S) := r >>= fun o => match o with
  | .rt d s => .ok (.rt d s)
  | .nx a => nomatch a
@[simp] theorem onlyM_rt {α S : Type} (d : PyData) (s : S) : onlyM (α := α) (.ok (.rt d s)) = .ok (.rt d s) := rfl
end
end Dt
namespace Dt
open PySem PySem.Spec PyProof.Rows L2

/-- what n owns may change, all else stays -/
structure ChN (n : Nat) (A A' : Ow) (H H' : Hp) : Prop where
  keep : ∀ a o, H a = some o → A a ≠ some n → H' a = some o ∧ A' a = A a
  new : ∀ a, A' a ≠ A a → A' a = none ∨ A' a = some n
  tups : ∀ a xs, H a = some (.tup xs) → H' a = some (.tup xs)
  frzs : ∀ a o u, H a = some (.frz o u) → H' a = some (.frz o u)
  tr : ∀ a, A' a ≠ none → ∃ o, H' a = some o
section
variable {A A' : Ow} {H H' : Hp} {κ : Kx} {ρ : List Sl} {σ : L2.St} {n i : Nat}
theorem ChN.ch (c : ChN n A A' H H') (hn : n ≠ 0) : Ch A A' H H' where
  keep := fun a o h z => c.keep a o h fun e => by rcases z with z | z <;> rw [z] at e <;> cases e; exact hn rfl
  ne0 := fun a h => by
    by_cases e : A' a = A a
    · rw [← e]; exact h
    · rcases c.new a e with z | z
      · rw [z] at h; cases h
      · rw [z] at h; cases h; exact absurd rfl hn
  tups := c.tups
  frzs := c.frzs
theorem ChN.ev {p C : Addr} {fl fl' : List (Str × Fd)} (c : ChN (i + 1) A A' H H') (ev : EV A κ ρ σ H) (hd : ρ.getD i .no = .ob p C fl) (ap : A' p = some (i + 1)) (o : ObOk A' (i + 1) κ H' p C fl') : EV A' κ (ρ.set i (.ob p C fl')) σ H' := by
  refine ⟨by rw [List.length_set]; exact ev.len, c.tr, fun j => ?_⟩
  have il := getD_lt hd (fun z => by cases z)
  by_cases e : i = j
  · subst e
    rw [getD_set_same il]
    have z := ev.sl i
    rw [hd] at z
    exact ⟨z.1, ap, o⟩
  · rw [getD_set_ne e]
    refine (ev.sl j).mv (c.ch (by omega)).mv (fun k hk a o h1 h2 => ?_) ev.tr
    obtain ⟨h3, h4⟩ := c.keep a o h2 (by rw [h1]; intro z; cases z; rcases hk with hk | hk <;> omega)
    exact ⟨h3, by rw [h4]; exact h1⟩
end
section
variable {S S0 : Type}
end
section
variable {P : Program} {w : World} {K : PySem.W.Frag} {mg : Str → Option Value} {base : Heap}
def isSlot : PyData → Bool
  | .dict [(.str x, .int _)] => x == "<slot>"
  | _ => false
theorem RepR.rep {A : Ow} {κ : Kx} {H : Hp} {σ : L2.St} {v : V} {d : PyData} (h : RepR A κ H σ v d) (n : isSlot d = false) : Rep A κ H v d := by
  rcases h with h | ⟨i, rfl, _⟩
  · exact h
  · exact absurd n (by
      show ¬ (("<slot>" : Str) == "<slot>") = false
      decide)
end
end Dt
namespace Dt
open PySem PySem.Spec PyProof.Rows L2

section
variable {S : Type} {X : Cx} {E : XK} {ρ : List Sl} {e : Expr} {es : List Expr} {r : Res PyData} {rs : Res (List PyData)} {pos p p' apos spos : Pos} {x m : Str} {i j k : Nat} {C o0 : Addr} {fl : S → List (Str × Fd)} {s0 : S}
theorem ObOk.lk {A : Ow} {n : Nat} {κ : Kx} {H : Hp} {p C : Addr} {f : List (Str × Fd)} (h : ObOk A n κ H p C f) (hm : (f.map (·.1)).findIdx? (fun g => m == g) = none) : ∃ dx fs, H p = some (.ins C dx fs) ∧ fs.lookup m = none := by
  obtain ⟨dx, fs, h1, h2, h3⟩ := h
  rw [← h2] at hm
  exact ⟨dx, fs, h1, lookup_no hm⟩
section
variable {G : List PyData → S → Res (PyData × S)} {GZ : List PyData → S → Res PyData}
end
end
end Dt
namespace Dt
open PySem PySem.Spec PyProof.Rows L2
section
variable {α S S' : Type} {X : Cx} {E : XK} {ρ : List Sl} {e : Expr} {es : List Expr} {rs : Res (List PyData)} {pos p p' spos apos : Pos} {x cn m : Str} {i j k : Nat} {C : Addr} {fl : S → List (Str × Fd)} {G : List PyData → Unit → Res (PyData × S)} {rest : List Stmt} {sh : α → List Sl} {so : S' → List Sl}
end
/-- own objects as an outer def's -/
inductive LeZ : List Sl → List Sl → Prop
  | nil : LeZ [] []
  | n {l m : List Sl} {s : Sl} : LeZ l m → LeZ (.no :: l) (s :: m)
  | f {l m : List Sl} {d : PyData} : LeZ l m → LeZ (.fz d :: l) (.fz d :: m)
  | z {l m : List Sl} {p C : Addr} {fl : List (Str × Fd)} : LeZ l m → LeZ (.oz C fl :: l) (.ob p C fl :: m)
theorem LeZ.len : ∀ {l m : List Sl}, LeZ l m → l.length = m.length
  | _, _, .nil => rfl
  | _, _, .n t => by rw [List.length_cons, List.length_cons, LeZ.len t]
  | _, _, .f t => by rw [List.length_cons, List.length_cons, LeZ.len t]
  | _, _, .z t => by rw [List.length_cons, List.length_cons, LeZ.len t]
theorem LeZ.at : ∀ {l m : List Sl} (i : Nat), LeZ l m → l.getD i .no = .no ∨ (∃ d, l.getD i .no = .fz d ∧ m.getD i .no = .fz d) ∨ ∃ p C fl, l.getD i .no = .oz C fl ∧ m.getD i .no = .ob p C fl
  | _, _, i, .nil => .inl (by simp [List.getD])
  | _, _, 0, .n _ => .inl rfl
  | _, _, 0, .f _ => .inr (.inl ⟨_, rfl, rfl⟩)
  | _, _, 0, .z _ => .inr (.inr ⟨_, _, _, rfl, rfl⟩)
  | _, _, i + 1, .n t => by simpa [List.getD] using LeZ.at i t
  | _, _, i + 1, .f t => by simpa [List.getD] using LeZ.at i t
  | _, _, i + 1, .z t => by simpa [List.getD] using LeZ.at i t
theorem EV.outer {A : Ow} {κ : Kx} {ρ ρ1 : List Sl} {σ : L2.St} {H : Hp} (h : EV A κ ρ σ H) (l : LeZ ρ1 ρ) : EV (outerOw A) κ ρ1 σ H := by
  have mv : Mv A (outerOw A) H H := .less fun a h => outer_none.mpr h
  refine ⟨by rw [l.len]; exact h.len, fun a ha => h.tr a fun z => ha (outer_none.mpr z), fun i => ?_⟩
  have z := h.sl i
  rcases l.at i with e | ⟨d, e1, e2⟩ | ⟨p, C, fl, e1, e2⟩
  · rw [e]; trivial
  · rw [e2] at z
    rw [e1]
    obtain ⟨v, h1, h2⟩ := z
    exact ⟨v, h1, h2.mv mv⟩
  · rw [e2] at z
    rw [e1]
    obtain ⟨h1, h2, h3⟩ := z
    exact ⟨p, h1, by unfold outerOw; rw [h2], h3.mv mv (fun a o h1 h2 => ⟨h2, by unfold outerOw; rw [h1]⟩) fun _ h => h⟩
end Dt
namespace Dt
open PySem PySem.Spec PyProof.Rows L2

section
variable {α β S T S0 : Type} {X : Cx} {E : XK} {ρ ρ' : List Sl} {e c a b : Expr} {r : Res PyData} {rs : Res T} {dv : T → PyData} {bv : T → Bool} {ro : T → List Sl} {pos p' : Pos} {sh : α → List Sl} {so : S → List Sl} {x : Str} {rest ss : List Stmt}
end
section
variable {S T : Type} {X : Cx} {E : XK} {ρ : List Sl} {a b : Expr} {rs : Res S} {bv : S → Bool} {ro : S → List Sl} {k : S → Res T} {bt : S → T → Bool} {rT : S → T → List Sl} {pos : Pos}
end
section
variable {P : Program} {w : World} {K : PySem.W.Frag} {mg : Str → Option Value} {base : Heap}
end
end Dt
namespace Dt
open PySem PySem.Spec PyProof.Rows L2

section
variable {X : Cx} {E : XK} {ρ : List Sl} {a b c tg : Expr} {rs : Res (List PyData)} {pos : Pos}
end
theorem EV.slots {A : Ow} {κ : Kx} {ρ ρ' : List Sl} {σ σ' : L2.St} {H : Hp} (h : EV A κ ρ σ H) (hl : σ'.length = ρ'.length) (hs : ∀ i, ρ'.getD i .no = .no ∨ (ρ'.getD i .no = ρ.getD i .no ∧ σ'[i]? = σ[i]?)) : EV A κ ρ' σ' H :=
  ⟨hl, h.tr, fun i => by
    rcases hs i with e | ⟨e1, e2⟩
    · rw [e]; trivial
    · rw [e1, e2]; exact h.sl i⟩
section
variable {β S : Type} {X : Cx} {E : XK} {ρ : List Sl} {elt iter tg : Expr} {ri : Res (List PyData)} {pos p : Pos} {scope : Scope} {x : Str} {sb : β → List Sl}
end
end Dt
namespace Dt
open PySem PySem.Spec PyProof.Rows L2

section
variable {α : Type} {X : Cx} {E : XK} {ρ : List Sl} {x : Str} {rest : List Stmt} {pos p' : Pos} {sh : α → List Sl}
end
end Dt
namespace Dt
open PySem PySem.Spec PyProof.Rows L2

section
variable {S : Type} {X : Cx} {E : XK} {ρ : List Sl} {e : Expr} {es : List Expr} {rs : Res (List PyData)} {F : List PyData → Res PyData} {pos p pa pb : Pos} {x a b : Str} {i i2 j k : Nat}
end
section
variable {α : Type} {X : Cx} {E : XK} {ρ : List Sl} {e : Expr} {r : Res PyData} {x : Str} {rest : List Stmt} {pos p' : Pos} {sh : α → List Sl}
end
end Dt
namespace Dt
open PySem PySem.Spec PyProof.Rows L2

section
variable {S β : Type} {X : Cx} {E : XK} {ρ : List Sl} {C : Addr} {fl : S → List (Str × Fd)} {st : Stmt} {rest : List Stmt} {sb : β → List Sl} {pos p : Pos} {x cn : Str} {i j k : Nat} {G : List PyData → Unit → Res (PyData × S)} {e : Expr} {es : List Expr} {rs : Res (List PyData)}
theorem PostD.of {α β : Type} {r : Res α} {k : α → Res β} {p : β → Prop} (h : PostD r fun a => PostD (k a) p) : PostD (r >>= k) p := by
  cases r with
  | ok a => exact h
  | err c => exact h
  | stuck => exact h
end
end Dt
namespace Dt
open PySem PySem.Spec PyProof.Rows L2

theorem ObOk.fz {A B : Ow} {κ : Kx} {H : Hp} {n m : Nat} {p C : Addr} {fl : List (Str × Fd)} (hz : (fl.all fun z => isFz z.2) = true) (mv : Mv A B H H) (h : ObOk A n κ H p C fl) : ObOk B m κ H p C fl := by
  obtain ⟨dx, fs, h1, h2, h3⟩ := h
  refine ⟨dx, fs, h1, h2, paired_imp h3 fun i v x hv hx r => ?_⟩
  have hx' : isFz x = true := by
    rw [List.getElem?_map] at hx
    obtain ⟨z, h4, h5⟩ := Option.map_eq_some_iff.mp hx
    rw [← h5]
    exact List.all_eq_true.mp hz z (List.mem_of_getElem? h4)
  cases x with
  | fz d => exact Rep.mv mv r
  | ow ds => cases hx'
section
variable {P : Program} {w : World} {K : PySem.W.Frag} {mg : Str → Option Value} {base : Heap}
end
section
variable {S S' α : Type} {X : Cx} {E : XK} {ρ : List Sl} {C : Addr} {fl : S → List (Str × Fd)} {rest : List Stmt} {sh : α → List Sl} {so : S' → List Sl} {pos p p' spos : Pos} {x y : Str} {i j k : Nat} {G : List PyData → Res (S ⊕ PyData)} {e : Expr} {es : List Expr} {rs : Res (List PyData)}
end
end Dt
namespace Dt
open PySem PySem.Spec PyProof.Rows L2

section
variable {P : Program} {w : World} {K : PySem.W.Frag} {mg : Str → Option Value} {base : Heap}
end
section
variable {S S' S0 α : Type} {X : Cx} {E : XK} {ρ : List Sl} {C0 C o0 : Addr} {f0 : S0 → List (Str × Fd)} {fl : S → List (Str × Fd)} {rest : List Stmt} {sh : α → List Sl} {so : S' → List Sl} {pos p p' apos spos : Pos} {x y m : Str} {i i1 j k : Nat} {G : List PyData → S0 → Res (S ⊕ PyData)} {e : Expr} {es : List Expr} {rs : Res (List PyData)} {s0 : S0}
end
end Dt
namespace Dt
open PySem PySem.Spec PyProof.Rows L2

/-- an expression at an object that the slot i holds for the while -/
def GZ (X : Cx) (E : XK) (i : Nat) (e : Expr) (C : Addr) (f : List (Str × Fd)) (r : Res PyData) : Prop :=
  ∀ A σ H Q n p, Tr A H → σ[i]? = some (some (V.ref p)) → A p = some n → ObOk A n (kx X) H p C f → PostR X E H r (OkE X A H Q) → WE X e σ H Q
section
variable {S : Type} {X : Cx} {E : XK} {ρ : List Sl} {C oa ob : Addr} {fl : S → List (Str × Fd)} {pos p p' pa pb tpos : Pos} {x a b : Str} {i ia ib j k kt : Nat} {GG : List PyData → S → Res PyData} {e : Expr} {s0 : S}
end
end Dt
namespace Dt
open PySem PySem.Spec PyProof.Rows L2

def strsD : List PyData → Option (List Str)
  | [] => some []
  | .str x :: ds => match strsD ds with
    | some ys => some (x :: ys)
    | none => none
  | _ :: _ => none
theorem strsD_map : ∀ ys : List Str, strsD (ys.map PyData.str) = some ys
  | [] => rfl
  | y :: ys => by
    show (match strsD (ys.map PyData.str) with | some ys => some (y :: ys) | none => none) = _
    rw [strsD_map ys]
theorem strsD_back : ∀ {ds : List PyData} {ys : List Str}, strsD ds = some ys → ds = ys.map PyData.str
  | [], ys, h => by cases h; rfl
  | d :: ds, ys, h => by
    cases d with
    | str x =>
      have h : (match strsD ds with | some ys => some (x :: ys) | none => none) = some ys := h
      cases e : strsD ds with
      | none => rw [e] at h; cases h
      | some zs =>
        rw [e] at h
        cases h
        rw [strsD_back e]
        rfl
    | _ => cases h
theorem reps_str {A : Ow} {κ : Kx} {H : Hp} : ∀ {vs : List V} {ys : List Str}, Reps A κ H vs (ys.map PyData.str) → vs = ys.map V.str
  | _, [], h => by cases h; rfl
  | _, y :: ys, h => by
    cases h with
    | cons r t =>
      cases r
      rw [reps_str t]
      rfl
def joinD : PyData → PyData → Res PyData
  | .str a, .list ds => match strsD ds with
    | some ys => if (ys.map (·.length)).sum + ys.length * a.length ≤ 16777216 then .ok (.str (Txt.join a ys)) else .stuck
    | none => .stuck
  | _, _ => .stuck
def splitD : PyData → PyData → Res (List PyData)
  | .str a, .str b => if (b.length == 0) = false ∧ a.length + 2 ≤ sizeLine then .ok ((Txt.split a b).map PyData.str) else .stuck
  | _, _ => .stuck
def sidxD : PyData → PyData → Res PyData
  | .str a, .str b => match Txt.index0 a b with
    | some k => .ok (.int (k : Nat))
    | none => .stuck
  | _, _ => .stuck
def seqS : PyData → Res (List PyData)
  | .str x => .ok (x.cps.toList.map fun c => .str ⟨#[c]⟩)
  | _ => .stuck
/-- a method of a text, of one value -/
def onS {α : Type} (g : PyData → PyData → Res α) (ro re : Res PyData) : Res α := ro >>= fun d => match d with
  | .str a => re >>= fun u => g (.str a) u
  | _ => .stuck
section
variable {X : Cx} {E : XK} {ρ : List Sl} {o e iter tg : Expr} {es : List Expr} {r ro re : Res PyData} {pos apos : Pos}
theorem mt_sidx : MtR X "str.index" (fun x xs H Q => ∃ (a b : Str) (k : Nat), x = .str a ∧ xs = [.str b] ∧ Txt.index0 a b = some k ∧ Q (.int (k : Nat)) H) := by
  intro pins s σ H x xs v us Q I rx rs h
  obtain ⟨a, b, k, rfl, rfl, hk, q⟩ := h
  obtain ⟨t, rfl⟩ := rx
  cases rs with
  | cons r1 rs =>
    cases rs
    obtain ⟨u, rfl⟩ := r1
    unfold Txt.index0 at hk
    cases z : Builtin.Str.occurrences a b 0 a.length 1 with
    | nil => rw [z] at hk; cases hk
    | cons j rest =>
      rw [z] at hk
      cases hk
      exact PySem.SC.index z ⟨.int (k : Nat), H, I.tok _, ⟨_, rfl⟩, q⟩
theorem ge_join (ho : GE X E o ρ ro) (he : GE X E e ρ re) (hs : starEach [e] X.env = [(false, eval e X.env)] := by rfl) (hbase : attributeBase o "join" X.env (eval o X.env) = eval o X.env := by rfl) (hline : (apos.endLine == pos.line) = true := by rfl) :
    GE X E (.Call (.Attribute o "join" apos) [e] [] pos) ρ (onS joinD ro re) := fun A σ H Q ev q => by
  refine ⟨_, pe_join we_ok we_ok hs hbase hline, ?_⟩
  refine ho A σ H _ ev ((PostR.bind q).mono fun d qd v H1 s1 rv => ?_)
  cases rv with
  | str a =>
    refine ⟨⟨a, rfl⟩, ?_⟩
    refine he A σ H1 _ (ev.same s1) ((PostR.bind qd).imp s1 fun u qu w H2 s2 rw' => ?_)
    cases rw' with
    | lst h1 h2 h3 =>
      rename_i p xs ds
      have qu : PostR X E H (match strsD ds with
        | some ys => if (ys.map (·.length)).sum + ys.length * a.length ≤ 16777216 then Res.ok (PyData.str (Txt.join a ys)) else .stuck
        | none => .stuck) (OkE X A H Q) := qu
      cases z : strsD ds with
      | none => rw [z] at qu; exact qu.elim
      | some ys =>
        rw [z] at qu
        dsimp only at qu
        split at qu
        · rename_i hz
          rw [strsD_back z] at h3
          rw [reps_str h3] at h1
          exact ⟨a, p, ys, rfl, rfl, .inl (.of h1), hz, qu _ H2 (s1.trans s2) (.str _)⟩
        · exact qu.elim
    | _ => exact qu.elim
  | _ => exact qd.elim
theorem go_split (ho : GE X E o ρ ro) (he : GE X E e ρ re) (hs : starEach [e] X.env = [(false, eval e X.env)] := by rfl) (hbase : attributeBase o "split" X.env (eval o X.env) = eval o X.env := by rfl) (hline : (apos.endLine == pos.line) = true := by rfl) :
    GO X E (.Call (.Attribute o "split" apos) [e] [] pos) ρ (onS splitD ro re) := fun A σ H Q ev q => by
  refine ⟨_, pe_split we_ok we_ok hs hbase hline, ?_⟩
  refine ho A σ H _ ev ((PostR.bind q).mono fun d qd v H1 s1 rv => ?_)
  cases rv with
  | str a =>
    refine ⟨⟨a, rfl⟩, ?_⟩
    refine he A σ H1 _ (ev.same s1) ((PostR.bind qd).imp s1 fun u qu w H2 s2 rw' => ?_)
    cases rw' with
    | str b =>
      have qu : PostR X E H (if (b.length == 0) = false ∧ a.length + 2 ≤ sizeLine then Res.ok ((Txt.split a b).map PyData.str) else .stuck) (OkO X A H Q) := qu
      split at qu
      · rename_i hz
        refine ⟨a, b, rfl, rfl, hz.1, hz.2, fun p np => ?_⟩
        exact qu p H2 _ (s1.trans s2) np (same_new np) ⟨_, upd_same, strs_reps _⟩
      · exact qu.elim
    | _ => exact qu.elim
  | _ => exact qd.elim
theorem ge_sidx (ho : GE X E o ρ ro) (he : GE X E e ρ re) (hs : starEach [e] X.env = [(false, eval e X.env)] := by rfl) (hbase : attributeBase o "index" X.env (eval o X.env) = eval o X.env := by rfl) (hline : (apos.endLine == pos.line) = true := by rfl) :
    GE X E (.Call (.Attribute o "index" apos) [e] [] pos) ρ (onS sidxD ro re) := fun A σ H Q ev q => by
  refine ⟨_, pe_m1 PySem.F.slot_str_index PySem.F.type_str_index mt_sidx we_ok we_ok hs hbase hline, ?_⟩
  refine ho A σ H _ ev ((PostR.bind q).mono fun d qd v H1 s1 rv => ?_)
  cases rv with
  | str a =>
    refine ⟨⟨a, rfl⟩, ?_⟩
    refine he A σ H1 _ (ev.same s1) ((PostR.bind qd).imp s1 fun u qu w H2 s2 rw' => ?_)
    cases rw' with
    | str b =>
      have qu : PostR X E H (match Txt.index0 a b with
        | some k => Res.ok (PyData.int (k : Nat))
        | none => .stuck) (OkE X A H Q) := qu
      cases z : Txt.index0 a b with
      | none => rw [z] at qu; exact qu.elim
      | some k =>
        rw [z] at qu
        exact ⟨a, b, k, rfl, rfl, z, qu _ H2 (s1.trans s2) (.int _)⟩
    | _ => exact qu.elim
  | _ => exact qd.elim
theorem gi_str (h : GE X E iter ρ r) : GI X E tg iter ρ (r >>= seqS) := fun A σ H R ev q => by
  refine ⟨_, pi_str we_ok, ?_⟩
  refine h A σ H _ ev ((PostR.bind q).mono fun d qd v H1 s1 rv => ?_)
  cases rv with
  | str x =>
    have qd : OkI X A H R (x.cps.toList.map fun c => PyData.str ⟨#[c]⟩) := qd
    refine ⟨x, rfl, qd (Its x) [] H1 s1 (fun g hg => by cases hg) ⟨fun A i d H tr g e => ?_, fun A i H tr g e => ?_⟩⟩
    · rw [List.getElem?_map] at e
      cases z : x.cps.toList[i]? with
      | none => rw [z] at e; cases e
      | some c =>
        rw [z] at e
        cases e
        have zi : x.cps[i]? = some c := by rw [← Array.getElem?_toList]; exact z
        refine ⟨(Array.getElem?_eq_some_iff.mp zi).1, fun v H' y => ?_⟩
        obtain ⟨rfl, c', h1, rfl⟩ := y
        rw [zi] at h1
        cases h1
        exact ⟨Same.refl _, .str _⟩
    · rw [List.length_map, Array.length_toList] at e
      exact e
  | _ => exact qd.elim
end
end Dt
namespace Dt
open PySem PySem.Spec PyProof.Rows L2
end Dt
namespace Dt
open PySem PySem.Spec PyProof.Rows L2
def sliceS (d : PyData) (lo hi : Option Int) : Res PyData := match d with
  | .str z => if z.length ≤ sizeLine then .ok (.str (L2.cutS z lo hi)) else .stuck
  | _ => .stuck
def sl3S (ra : Res PyData) (rl rh : Res (Option Int)) : Res PyData := ra >>= fun d => rl >>= fun l => rh >>= fun u => sliceS d l u
section
variable {X : Cx} {E : XK} {ρ : List Sl} {a : Expr} {ra : Res PyData} {pos : Pos}
theorem ge_sliceS {lo hi : Option Expr} {rl rh : Res (Option Int)} {p2 : Pos} (ha : GW X E a ρ ra) (hl : GP X E lo ρ rl) (hh : GP X E hi ρ rh) :
    GE X E (.Subscript a (.Slice lo hi none p2) pos) ρ (sl3S ra rl rh) := by
  obtain ⟨ta, pa, ha⟩ := ha.ex
  obtain ⟨tl, pl, hl⟩ := hl.ex
  obtain ⟨th, ph, hh⟩ := hh.ex
  refine .mk ⟨_, pe_slice sl_str pa pl ph, fun A σ H Q ev q => ?_⟩
  unfold sl3S at q
  refine ha A σ H _ ev (q.bind.mono fun d qd v H1 s1 rv => ?_)
  refine hl A σ H1 _ (ev.same s1) (qd.bind.imp s1 fun l ql H2 s2 => ?_)
  refine hh A σ H2 _ (ev.same (s1.trans s2)) (ql.bind.imp (s1.trans s2) fun u qu H3 s3 => ?_)
  unfold sliceS at qu
  split at qu
  · split at qu
    · obtain rfl := rv.str
      exact ⟨_, rfl, by assumption, qu _ H3 (s1.trans (s2.trans s3)) (.str _)⟩
    · exact qu.elim
  · exact qu.elim
end
end Dt
namespace Dt
open PySem PySem.Spec PyProof.Rows L2 RZ
section
variable {P : Program} {w : World} {A : Around} {E : Value → Shared → Prop} {s : Shared}
end
section
variable {P : Program} {w : World} {A : Around} {E : Value → Shared → Prop} {s : Shared}
end
section
variable {X : Cx} {E : XK} {ρ : List Sl} {a b : Expr} {rs : Res (List PyData)} {pos : Pos}
end
end Dt
namespace Dt
open PySem PySem.Spec PyProof.Rows L2 PySem.MeetsSeq
open PySem.Builtin PySem.AutoSeq1

section
variable {X : Cx}
end
section
variable {X : Cx} {E : XK} {ρ : List Sl} {a b : Expr} {ra rb : Res PyData} {pos cpos p : Pos}
end
end Dt
namespace Dt
open PySem PySem.Spec PyProof.Rows L2
end Dt
namespace Dt
open PySem PySem.Spec PyProof.Rows L2
end Dt
namespace Dt
open PySem PySem.Spec PyProof.Rows L2
section
variable {X : Cx} {E : XK} {ρ : List Sl} {a b : Expr} {rs : Res (List PyData)} {pos p tpos : Pos} {elts : List Expr} {kk : Nat}
end
section
variable {X : Cx} {E : XK} {ρ : List Sl} {a : Expr} {rs : Res (List PyData)} {pos p tpos : Pos} {elts : List Expr} {kk : Nat}
end
end Dt
namespace Dt
open PySem PySem.Spec PyProof.Rows L2
section
variable {α : Type} {X : Cx} {E : XK} {ρ : List Sl} {body : List Stmt} {sh : α → List Sl} {pos : Pos}
end
section
variable {X : Cx}
end
section
variable {X : Cx} {E : XK} {ρ : List Sl} {a b : Expr} {ra rb : Res PyData} {pos cpos p : Pos}
end
end Dt
namespace Dt
open PySem PySem.Spec PyProof.Rows L2
section
variable {X : Cx}
end
end Dt
namespace Dt
open PySem PySem.Spec PyProof.Rows L2
section
variable {A A' A0 : Ow} {H0 H H' : Hp} {κ : Kx} {γ : Gs} {ρ ρ' : List Sl} {σ : L2.St}
end
section
variable {α β : Type} {X : Cx} {E : XK} {ρ ρ' : List Sl} {e a b c iter tg : Expr} {es : List Expr} {r ra rb rc : Res PyData} {rt : Res Bool} {ri rs : Res (List PyData)} {pos p' p : Pos} {sh : α → List Sl} {sb : β → List Sl} {x : Str} {rest body : List Stmt} {A A0 : Ow} {H0 H : Hp} {γ : Gs} {σ : L2.St} {D : Ends}
end
end Dt
namespace Dt
open PySem PySem.Spec PyProof.Rows L2
/-- lists that were not there, all apart -/
def insR (A : Ow) (qs : List Addr) (n : Nat) : Ow := fun a => if a ∈ qs then some n else A a
structure NewR (A : Ow) (κ : Kx) (H H' : Hp) (qs : List Addr) (rows : List (List PyData)) : Prop where
  nd : qs.Nodup
  new : ∀ q ∈ qs, H q = none
  each : Paired (fun (q : Addr) (l : List PyData) => ∃ vs, H' q = some (.lst vs) ∧ Reps (insR A qs 0) κ H' vs l) qs rows
/-- a new list of new lists -/
structure NewT (A : Ow) (κ : Kx) (H H' : Hp) (p : Addr) (qs : List Addr) (rows : List (List PyData)) : Prop where
  np : H p = none
  lst : H' p = some (.lst (qs.map V.ref))
  nop : p ∉ qs
  nd : qs.Nodup
  new : ∀ q ∈ qs, H q = none
  each : Paired (fun (q : Addr) (l : List PyData) => ∃ vs, H' q = some (.lst vs) ∧ Reps (insL A p qs 0) κ H' vs l) qs rows
theorem paired_ex {P : Addr → List PyData → Prop} {qs : List Addr} {rows : List (List PyData)} (h : Paired P qs rows) : ∀ q ∈ qs, ∃ l, P q l := by
  induction h with
  | nil => intro q h; cases h
  | cons a t ih =>
    intro q h
    rcases List.mem_cons.mp h with e | e
    · subst e; exact ⟨_, a⟩
    · exact ih q e
theorem NewR.top {A : Ow} {κ : Kx} {H H1 H' : Hp} {p : Addr} {qs : List Addr} {rows : List (List PyData)} (s : Same H H1) (n : NewR A κ H H1 qs rows) (np : H1 p = none) (e : H' = upd H1 p (.lst (qs.map V.ref))) : NewT A κ H H' p qs rows := by
  subst e
  have nop : p ∉ qs := fun h => by
    obtain ⟨l, vs, e, _⟩ := paired_ex n.each p h
    rw [np] at e; cases e
  refine ⟨s.free np, upd_same, nop, n.nd, n.new, Paired.mapMem n.each fun q hq l ⟨vs, h1, h2⟩ => ⟨vs, ?_, h2.mv ⟨fun a o e z => ?_, fun a xs e => same_new np _ _ e, fun a o u e => same_new np _ _ e⟩⟩⟩
  · rw [upd_ne fun z => nop (by rw [← z]; exact hq)]; exact h1
  · refine ⟨same_new np _ _ e, ?_⟩
    have ap : a ≠ p := ne_of_none e np
    unfold insR at z
    by_cases c : a ∈ qs
    · rw [if_pos c] at z; cases z
    · rw [if_neg c] at z
      rw [insL_ne (fun y => y.elim ap c)]
      exact z
section
variable {A A' A0 : Ow} {H0 H H' : Hp} {κ : Kx} {γ : Gs} {ρ ρ' : List Sl} {σ : L2.St}
end
def GOR (X : Cx) (E : XK) (e : Expr) (ρ : List Sl) (r : Res (List (List PyData))) : Prop :=
  ∀ A σ H Q, EV A (kx X) ρ σ H → PostR X E H r (fun rows => ∀ p qs H', Same H H' → NewT A (kx X) H H' p qs rows → Q (.ref p) H') → WE X e σ H Q
section
variable {α β : Type} {X : Cx} {E : XK} {ρ ρ' : List Sl} {e a b c iter tg : Expr} {es : List Expr} {r ra rb rc : Res PyData} {rt : Res Bool} {ri rs : Res (List PyData)} {rr ru : Res (List (List PyData))} {pos p' p : Pos} {sh : α → List Sl} {sb : β → List Sl} {x : Str} {rest body : List Stmt} {A A0 : Ow} {H0 H : Hp} {γ : Gs} {σ : L2.St} {D : Ends}
end
abbrev VP (T : Type) := Kx → Ow → Hp → Hp → V → T → Prop
section
variable {α β T : Type} {X : Cx} {E : XK} {ρ ρ' : List Sl} {e a b c iter tg : Expr} {es : List Expr} {r ra rb rc : Res PyData} {rt : Res Bool} {ri rs : Res (List PyData)} {rr ru : Res (List (List PyData))} {pos p' p : Pos} {sh : α → List Sl} {sb : β → List Sl} {x : Str} {rest body : List Stmt} {A A0 : Ow} {H0 H : Hp} {γ : Gs} {σ : L2.St} {D : Ends} {st : Stmt} {Val : VP T} {F : List PyData → Res T} {j k : Nat}
/-- what is told anew, looked at as a datum -/
theorem NewT.rep {A : Ow} {κ : Kx} {H H' : Hp} {p : Addr} {qs : List Addr} {rows : List (List PyData)} (n : NewT A κ H H' p qs rows) (tr : ∀ a, A a ≠ none → ∃ o, H a = some o) : Rep A κ H' (.ref p) (.list (rows.map .list)) := by
  have nw : ∀ a, (a = p ∨ a ∈ qs) → A a = none := fun a z => not_own tr (z.elim (fun e => by rw [e]; exact n.np) (n.new a))
  have le : ∀ {vs l}, Reps (insL A p qs 0) κ H' vs l → Reps A κ H' vs l := fun h => h.mv (.less fun a z => by
    by_cases c : a = p ∨ a ∈ qs
    · exact nw a c
    · rwa [insL_ne c] at z)
  refine .lst n.lst (nw p (.inl rfl)) ?_
  have : ∀ {l : List Addr} {m : List (List PyData)}, Paired (fun (q : Addr) (l : List PyData) => ∃ vs, H' q = some (.lst vs) ∧ Reps (insL A p qs 0) κ H' vs l) l m → (∀ q ∈ l, q ∈ qs) → Reps A κ H' (l.map V.ref) (m.map .list) := fun {l m} h => by
    induction h with
    | nil => exact fun _ => .nil
    | cons a t ih =>
      obtain ⟨vs, g1, g2⟩ := a
      exact fun hq => .cons (.lst g1 (nw _ (.inr (hq _ List.mem_cons_self))) (le g2)) (ih fun q z => hq q (List.mem_cons_of_mem _ z))
  exact this n.each fun _ z => z
theorem GOR.ge (h : GOR X E e ρ rr) : GE X E e ρ (rr >>= fun rows => .ok (.list (rows.map .list))) := fun A σ H Q ev q =>
  h A σ H Q ev (q.bind.mono fun rows k p qs H' s n => k _ H' s (n.rep ev.tr))
end
section
variable {P : Program} {w : World} {K : PySem.W.Frag} {mg : Str → Option Value} {base : Heap}
end
end Dt
namespace Dt
open PySem PySem.Spec PyProof.Rows L2
section
variable {X : Cx} {C : Addr} {m : Str} {f : Addr} {fd : FuncData} {ps : List Str} {k : Nat} {sp : Sp} {E : L2.St → XK} {o e : Expr} {es : List Expr} {ta : TE} {t : TA} {pos apos : Pos} {CX : CXT}
end
section
variable {S : Type} {X : Cx} {E : XK} {ρ : List Sl} {e c : Expr} {es : List Expr} {r : Res PyData} {ra rb : Res Unit} {rt : Res Bool} {rs : Res (List PyData)} {pos p p' apos spos : Pos} {x m : Str} {i j k : Nat} {C o0 : Addr} {fl : S → List (Str × Fd)} {s0 : S} {ba bb rest : List Stmt} {G : List PyData → S → Res (PyData × S)}
end
section
variable {α : Type} {X : Cx} {E : XK} {k i : Nat} {ρ : List Sl} {sh : α → List Sl} {body rest suite : List Stmt} {b₀ : Stmt} {m : Res Unit} {n : Str} {cs ts : List Str} {hm : Str → Res (Out Empty)} {she : Empty → List Sl} {np pos pos' : Pos}
end
end Dt
namespace Dt
open PySem PySem.Spec PyProof.Rows L2
section
variable {P : Program} {w : World} {K : PySem.W.Frag} {mg : Str → Option Value} {base : Heap}
end
section
variable {X : Cx} {k : Nat} {f C : Addr} {fd : FuncData} {ps : List Str} {sp : QSp} {o : Expr} {m : Str} {ta : TE} {pos apos : Pos}
end
section
variable {S T : Type} {X : Cx} {E : XK} {ρ : List Sl} {pos p p' apos spos : Pos} {x m : Str} {i j k : Nat} {C o0 : Addr} {fl : S → List (Str × Fd)} {s0 : S}
end
section
variable {α β : Type} {X : Cx} {E : XK} {ρ ρ' : List Sl} {e a b c iter tg : Expr} {es : List Expr} {r ra rb rc : Res PyData} {rt : Res Bool} {ri rs : Res (List PyData)} {pos p' p : Pos} {sh : α → List Sl} {sb : β → List Sl} {x : Str} {rest body : List Stmt}
end
end Dt
namespace Dt
open PySem PySem.Spec PyProof.Rows L2
section
variable {α β : Type} {X : Cx} {E : XK} {ρ ρ' : List Sl} {e a b c iter tg : Expr} {es : List Expr} {r ra rb rc : Res PyData} {rt : Res Bool} {ri rs : Res (List PyData)} {pos p' p : Pos} {sh : α → List Sl} {sb : β → List Sl} {x : Str} {rest body : List Stmt}
end
end Dt
namespace Dt
open PySem PySem.Spec PyProof.Rows L2
theorem Bd.room {X : Cx} {E : XK} {k : Nat} (b : Bd X E k) (a : Addr) (pn : List (Addr × Obj)) : L2H.RoomH k (X.suite a pn).A := ⟨by have := b.hr.dp; exact this, by have := b.hr.un; exact this⟩
section
variable {X : Cx} {E : XK} {ρ : List Sl} {e e2 : Expr} {x y : Str} {A A0 : Ow} {H0 H : Hp} {γ : Gs} {σ : L2.St} {D : Ends} {i t : Nat} {p1 p2 pos pos2 p' p'' apos apos2 : Pos} {r st a' : List PyData} {z : PyData} {ra rz : Res PyData}
end
end Dt
namespace Dt
open PySem PySem.Spec PyProof.Rows L2
/-- an exception in the air within a block Xb of X -/
def XC (X Xb : Cx) (W : XK) (u : Value) (s' : Shared) : Prop :=
  ∃ (a : Addr) (B : Heap) (sI : Shared) (pins : List (Addr × Obj)) (σ : L2.St) (H : Hp) (cls : Value) (d : Option Addr),
    u = .ref a ∧ Inv Xb pins σ H sI ∧ (∀ b o, sI.heap.get? b = some o → b ∉ frs X.stack → B.get? b = some o) ∧ sI.heap.UpToSlots s'.heap ∧
      Sky B X.stack a (Zc cls d) X.env.locals s'.heap ∧ H a = none ∧ s'.os = sI.os ∧ AllBare s'.gens ∧ W cls d H
/-- of a heap what a ground of it has, and some places more -/
theorem ground_cut {B h : Heap} (st : B.StaysIn h) (fs : List Addr) : ∃ G : Heap, (∀ b o, B.get? b = some o → G.get? b = some o) ∧ (∀ b ∈ fs, G.get? b = h.get? b) ∧ ∀ b o, G.get? b = some o → h.get? b = some o ∧ (b ∈ fs ∨ B.get? b = some o) := by
  let keep : Addr → Bool := fun b => (B.get? b).isSome || decide (b ∈ fs)
  obtain ⟨G, in1, out1⟩ := L2.restrict h keep
  have yes : ∀ b, (B.get? b).isSome = true ∨ b ∈ fs → G.get? b = h.get? b := fun b z => in1 b (by
    show (_ || _) = true
    rcases z with z | z
    · rw [z]; rfl
    · rw [decide_eq_true z, Bool.or_true])
  refine ⟨G, fun b o e => (yes b (.inl (by rw [e]; rfl))).trans (st b o e), fun b hb => yes b (.inr hb), fun b o e => ?_⟩
  by_cases z : (B.get? b).isSome = true ∨ b ∈ fs
  · have e1 := (yes b z).symm.trans e
    refine ⟨e1, ?_⟩
    rcases z with z | z
    · obtain ⟨u, hu⟩ := Option.isSome_iff_exists.mp z
      rw [st b u hu] at e1
      cases e1
      exact .inr hu
    · exact .inl z
  · rw [not_or] at z
    rw [out1 b (by
      show (_ || _) = false
      rw [decide_eq_false z.2, Bool.or_false]
      exact Bool.eq_false_iff.mpr z.1)] at e
    cases e
/-- what a call within the block lets out is in the air there -/
theorem XC.of_call {X Xb : Cx} {pins : List (Addr × Obj)} {σ : L2.St} {H : Hp} {s s' : Shared} {E W : XK} (J : Inv Xb pins σ H s) (hst : Xb.stack = X.stack) (hW : ∀ cls d H', E cls d H' → W cls d H') {u : Value} (c : L2.CX Xb.prog Xb.w Xb.stack H s E u s') : XC X Xb W u s' := by
  obtain ⟨a, B, H1, cls, d, eu, fly, stands, low, new, sys, gens, w⟩ := c
  obtain ⟨G, fromB, atF, back⟩ := ground_cut fly.1 (frs Xb.stack)
  have J1 : Inv Xb pins σ H1 { s with heap := G, gens := s'.gens, drawn := s'.drawn, toks := s'.toks } := by
    refine J.call (ch := []) ⟨fun b o e h0 hb _ => fromB b o (low.keep b o e h0 hb), fun b o e _ hb _ => ?_, fun b o e h0 _ => low.free b o e h0, fun b o e _ => ?_, low.tups, low.frzs, low.tbls⟩ (stands.kept fromB) gens (fun _ z => nomatch z)
    · obtain ⟨sl, q⟩ := low.slot b o e hb
      exact ⟨sl, (atF b hb).trans q⟩
    · by_cases hb : b ∈ frs Xb.stack
      · obtain ⟨sl, q⟩ := low.slot b o e hb
        exact ⟨_, (atF b hb).trans q⟩
      · obtain ⟨o1, q⟩ := low.there b o e hb
        exact ⟨o1, fromB b o1 q⟩
  refine ⟨a, B, _, pins, σ, H1, cls, d, eu, J1, fun b o e hb => ?_, Heap.UpToSlots.of_keeps fun b o e => (back b o e).1, .inr (.inl ?_), new, sys, gens, hW _ _ _ w⟩
  · exact (back b o e).2.resolve_left (by rw [hst]; exact hb)
  · rw [← hst]; exact fly
/-- frames seen in a heap that keeps them, over a smaller ground -/
theorem funFrames_to {base B h h' : Heap} : ∀ {l : List Env}, h.FunFrames base l → (∀ L ∈ frs l, base.get? L = none → B.get? L = none) → (∀ L ∈ frs l, ∀ o, h.get? L = some o → h'.get? L = some o) → h'.FunFrames B l
  | [], _, _, _ => trivial
  | env :: l, h0, hn, hk => by
    obtain ⟨h1, ⟨L, o, hf, hb, ho, hd⟩, hr⟩ := h0
    have hm : L ∈ frs (env :: l) := List.mem_filterMap.mpr ⟨env, List.mem_cons_self, hf⟩
    have sub : ∀ b, b ∈ frs l → b ∈ frs (env :: l) := fun b hb => by
      obtain ⟨e, he, q⟩ := List.mem_filterMap.mp hb
      exact List.mem_filterMap.mpr ⟨e, List.mem_cons_of_mem _ he, q⟩
    exact ⟨h1, ⟨L, o, hf, hn L hm hb, hk L hm o ho, hd⟩, funFrames_to hr (fun b hb => hn b (sub b hb)) fun b hb => hk b (sub b hb)⟩
theorem XC.out {X : Cx} {pins3 : List (Addr × Obj)} {σ3 : L2.St} {H3 : Hp} {s3 s' : Shared} {scope : Scope} {ce ce2 : Env} {fp : List Addr} {W : XK} {u : Value} {E1 : Value → Shared → Prop} {t : String} (I3 : Inv X pins3 σ3 H3 s3) (hs : X.stack = X.env :: X.outer) (hf : X.env.frame = some X.env.locals)
    (hce : ce.frame = X.env.frame) (hce2 : ce2.frame = X.env.frame) (hC : ce.locals = s3.heap.objs.size) (f3 : ∀ b ∈ fp, FpOk X pins3 H3 b ∧ b < s3.heap.objs.size) (tk : Takes X (fun cls d _ H => W cls d H)) (x : XC X (X.blk s3 H3 scope ce fp) W u s') :
    wpAny (model X.prog X.w) X.A (noteFrame u ce) (fun _ s'' => ∃ m, s''.heap.Ns ce.locals m ∧ ∀ h', Heap.SameBut ce.locals s''.heap h' → wpAny (model X.prog X.w) X.A (PySem.passOn t u ce2 : Sem Value) (fun _ _ => False) X.xe { s'' with heap := h' }) E1 s' := by
  obtain ⟨a, B, sI, pb, σb, H, cls, d, rfl, I, nb, up, sky, na, os, ag, w⟩ := x
  have hfr : X.A.frames = some (X.env :: X.outer) := by rw [I3.ok.frames, hs]
  have e : noteFrame (.ref a) ce = noteFrame (.ref a) X.env := by
    unfold noteFrame PySem.frameOf
    rw [hce]
  rw [e]
  rw [hs] at sky
  have frC : ∀ b ∈ frs X.stack, b ≠ ce.locals := fun b hb z => by
    obtain ⟨_, o, ho, _⟩ := I3.stack.mem hb
    have := Heap.lt_size ho
    rw [z, hC] at this
    exact Nat.lt_irrefl _ this
  have fin : ∀ h1, HandSPX.HeldZ B (X.env :: X.outer) a (Zc cls d) X.env.locals h1 → s'.heap.UpToSlots h1 → ∃ m, h1.Ns ce.locals m ∧ ∀ h', Heap.SameBut ce.locals h1 h' → wpAny (model X.prog X.w) X.A (PySem.passOn t (.ref a) ce2 : Sem Value) (fun _ _ => False) X.xe { s' with heap := h' } := fun h1 hh up1 => by
    obtain ⟨f1, f2, f3', oe, vs, T, oT, ts, he, hz, hd, h1', hnT, hTe, hT, hdT, h3⟩ := hh
    obtain ⟨m, hn, _⟩ := I.loc
    have hn : sI.heap.Ns ce.locals m := hn
    have CB : ∀ o, sI.heap.get? ce.locals = some o → B.get? ce.locals = some o := fun o q => nb _ o q fun hm => frC _ hm rfl
    obtain ⟨oC, _, _, hoC, _⟩ := id hn
    have aC : a ≠ ce.locals := fun z => by rw [z, CB _ hoC] at f2; cases f2
    have TC : T ≠ ce.locals := fun z => by rw [z, CB _ hoC] at hnT; cases hnT
    refine ⟨m, Heap.Ns.at hn fun o q => f1 _ _ (CB o q), fun h' sb => ?_⟩
    have he' : h'.get? a = some oe := (sb.2 a aC).trans he
    have hT' : h'.get? T = some oT := (sb.2 T TC).trans hT
    unfold PySem.passOn setFlight
    refine wpAny_bind (wpAny_field (s := { s' with heap := h' }) he' hd h1' ?_)
    rw [if_neg (by simp)]
    refine wpAny_bind (wpAny_bind (wpAny_field (s := { s' with heap := h' }) he' hd h1' ?_))
    rw [if_pos (show (Value.ref T != Value.none) = true from by simp)]
    refine wpAny_setField (s := { s' with heap := h' }) hT' hdT (Array.getElem?_eq_some_iff.mp h3).1 ?_
    refine wpAny_throw ?_
    rw [hce2, hf]
    generalize hh2 : h'.update T (Obj.mapFields (·.setIfInBounds 3 ((some X.env.locals : Option Addr).elim Value.none fun f => rawInt f))) = h2
    have o2 : ∀ b, b ≠ T → h2.get? b = h'.get? b := fun b hb => by rw [← hh2]; exact Heap.get?_update_other _ _ (Ne.symm hb)
    have T2 : h2.get? T = some (oT.mapFields (·.setIfInBounds 3 (rawInt X.env.locals))) := by
      rw [← hh2]
      exact Heap.get?_update_self _ hT' (Obj.isFreed_of_fields (Obj.data_mapFields hdT _))
    obtain ⟨B', b1, b2⟩ := L2.restrict B fun b => decide (b ≠ ce.locals)
    obtain ⟨G, g1, g2⟩ := L2.restrict sI.heap fun b => decide (b ≠ ce.locals)
    have bB : ∀ b o, B'.get? b = some o → b ≠ ce.locals ∧ B.get? b = some o := fun b o q => by
      by_cases z : b = ce.locals
      · rw [b2 b (by simp [z])] at q; cases q
      · rw [b1 b (by simp [z])] at q; exact ⟨z, q⟩
    have gG : ∀ b o, G.get? b = some o → b ≠ ce.locals ∧ sI.heap.get? b = some o := fun b o q => by
      by_cases z : b = ce.locals
      · rw [g2 b (by simp [z])] at q; cases q
      · rw [g1 b (by simp [z])] at q; exact ⟨z, q⟩
    have nB : ∀ b, B.get? b = none → B'.get? b = none := fun b q => by
      cases z : B'.get? b with
      | none => rfl
      | some o => rw [(bB b o z).2] at q; cases q
    have to2 : ∀ b o, b ≠ ce.locals → b ≠ T → h1.get? b = some o → h2.get? b = some o := fun b o z1 z2 q => by rw [o2 b z2, sb.2 b z1]; exact q
    have I7 : Inv X pins3 σ3 H sI := I3.call' (ch := fp) I.os I.base I.hok I.bare fun b hb => ⟨(f3 b hb).1.2.2.2.1, (f3 b hb).1.2.1, (f3 b hb).1.2.2.2.2.1, (f3 b hb).1.2.2.2.2.2⟩
    have nC : H ce.locals = none := I.free
    obtain ⟨c0, c1, c2, c3, c4, c5⟩ := I3.fpOk (b := ce.locals) (Nat.le_of_eq hC.symm) nC
    have I8 : Inv X pins3 σ3 H { sI with heap := G } := I7.turned (t' := sI.toks) (fun b o hb q => by rw [g1 b (by simp [hb])]; exact q) c0 c1 c3 c4 c5
    refine tk _ _ ⟨a, B', { sI with heap := G }, pins3, σ3, H, cls, d, rfl, I8, fun b o q hb => ?_, fun b o q hnf => ?_, .inr (.inr ⟨fun b o q => ?_, nB a f2, ?_, oe, vs, T, _, _, ?_, hz, hd, h1', nB T hnT, hTe, T2, Obj.data_mapFields hdT _, ?_⟩), na, os, ag, w⟩
    · obtain ⟨z1, z2⟩ := gG b o q
      rw [b1 b (by simp [z1])]
      exact nb b o z2 hb
    · obtain ⟨z1, z2⟩ := gG b o q
      obtain ⟨sl, k1⟩ := up b o z2 hnf
      obtain ⟨sl2, k2⟩ := up1 b _ k1 hnf
      refine ⟨sl2, to2 b _ z1 (fun z => ?_) k2⟩
      rw [z, hT] at k2
      cases k2
      exact hnf _ hdT
    · obtain ⟨z1, z2⟩ := bB b o q
      exact to2 b o z1 (fun z => by rw [z, hnT] at z2; cases z2) (f1 b o z2)
    · rw [hs]
      refine funFrames_to f3' (fun L _ q => nB L q) fun L hL o q => to2 L o (frC L (by rw [hs]; exact hL)) (fun z => ?_) q
      obtain ⟨_, o', ho', hnf⟩ := f3'.mem hL
      rw [z, hT] at ho'
      cases ho'
      exact hnf _ hdT
    · rw [o2 a (Ne.symm hTe)]
      exact he'
    · have hsz := (Array.getElem?_eq_some_iff.mp h3).1
      show (ts.setIfInBounds 3 (rawInt X.env.locals))[3]? = _
      simp [hsz]
  rcases sky with ⟨hB, hn, hl, oe, vs, he, hz, hd, h1⟩ | fl | hh
  · exact HandSPX.look_newZ Zc.steady hfr hl hf he hB hn hd h1 hz fin
  · exact HandSPX.looks_onZ Zc.steady hfr hf fl fin
  · exact HandSPX.againZ hf hh.2.2.2 (fin s'.heap hh (Heap.UpToSlots.refl _))
end Dt
namespace Dt
open PySem PySem.Spec PyProof.Rows L2
/-- behind a block: the end of all items, or an exception noted by the block's own frame -/
def BkPost (M : Model) (A : Around) (XE : Value → Shared → Prop) (us : Option (Value → Sem Unit)) (G : Value → Shared → Prop) (nw : Value) (ce : Env) (z : Result) (t : Shared) : Prop :=
  match z, us with
  | .ok _, none => ∃ m, t.heap.Ns ce.locals m ∧ ∀ h2, Heap.SameBut ce.locals t.heap h2 → G nw { t with heap := h2 }
  | .ok _, some f => wpAny M A (f nw) (fun _ t2 => ∃ m, t2.heap.Ns ce.locals m ∧ ∀ h2, Heap.SameBut ce.locals t2.heap h2 → G .none { t2 with heap := h2 }) XE t
  | .error u, _ => ∃ m, t.heap.Ns ce.locals m ∧ ∀ h2, Heap.SameBut ce.locals t.heap h2 → wpAny M A (passOn "comprehension.variables-let-go" u ce : Sem Value) (fun _ _ => False) XE { t with heap := h2 }
abbrev inner (sc : Scope) (around ce : Env) : Env := { ce with scope := relabel sc around }
theorem block_goes {M : Model} {A : Around} {around : Env} {XE : Value → Shared → Prop} {t0 : Shared} {whole : Expr} {sc : Scope} {at0 : Pos} {mk fst : Sem Value} {c0 : Comprehension} {cs : List Comprehension} {cells : List (Str × Addr)} {us : Option (Value → Sem Unit)} {G : Value → Shared → Prop}
    (walk : wpAny M A fst (fun x a => wpAny M A (pyIter x) (fun it b => wpAny M A mk (fun nw c => wpAny M A (newFunctionEnv sc around.globals cells [] around.qual none .none (some around)) (fun ce d =>
      codeAny M A (.compStart whole 0 it nw (inner sc around ce)) (BkPost M A XE us G nw (inner sc around ce)) d) XE c) XE b) XE a) XE t0)
    (kf : sc.kind = .function) (nm : ∀ x ∈ sc.names, x.2 = .local → sc.names.lookup x.1 = some .local) (fr : closureFor sc around = pure cells) (fo : ∀ x, foldedSetIterable c0.iter around x = pure x) (cl : clausesOf whole = c0 :: cs) :
    wpAny M A (comprehension whole sc around at0 mk false fst us) G XE t0 := by
  unfold comprehension
  rw [fr, cl]
  refine wpAny_bind (wpAny_mono walk (fun x a ha => ?_) fun _ _ z => z)
  refine wpAny_bind (wpAny_standAt (wpAny_bind (wpAny_of_eq (fo x) (wpAny_bind (wpAny_holding (wpAny_mono ha (fun it b hb => ?_) fun _ _ z => z))))))
  refine wpAny_standIf (wpAny_bind (wpAny_mono hb (fun nw c hc => ?_) fun _ _ z => z))
  refine wpAny_bind (wpAny_pure (wpAny_bind (wpAny_mono hc (fun ce d hd => ?_) fun _ _ z => z)))
  dsimp only
  generalize hvs : (sc.names.filter fun x => (x.2 == .local || x.2 == .cell) && x.1 != (".0" : Str)).reverse = vs
  have loc : ∀ x ∈ vs, x.2 = .local → (inner sc around ce).kindOf x.1 = some .local := fun x hx hl => by
    rw [← hvs] at hx
    exact lookup_relabel_local (nm x (List.mem_filter.mp (List.mem_reverse.mp hx)).1 hl)
  have loc2 : ∀ x ∈ vs.drop 1 ++ vs.take 1, x.2 = .local → (inner sc around ce).kindOf x.1 = some .local := fun x hx hl =>
    (List.mem_append.mp hx).elim (fun h => loc x (List.mem_of_mem_drop h) hl) fun h => loc x (List.mem_of_mem_take h) hl
  refine wpAny_holding (wpAny_bind (wpAny_attempt (wpAny_holding (wpAny_run (codeAny_mono hd fun z t hz => ?_)))))
  cases z with
  | error u =>
    have hz : ∃ m, t.heap.Ns ce.locals m ∧ ∀ h2, Heap.SameBut ce.locals t.heap h2 → wpAny M A (passOn "comprehension.variables-let-go" u (inner sc around ce) : Sem Value) (fun _ _ => False) XE { t with heap := h2 } := by cases us <;> exact hz
    obtain ⟨m, hn, hz⟩ := hz
    exact wpAny_bind (wpAny_holding (wpAny_comp_letGo (cenv := inner sc around ce) kf _ t m loc hn fun h2 _ _ sb => wpAny_mono (hz h2 sb) (fun _ _ y => y.elim) fun _ _ y => y))
  | ok f =>
    cases us with
    | some f =>
      refine wpAny_bind (wpAny_rule (wpAny_bind (wpAny_holding (wpAny_mono hz (fun _ t2 hz2 => ?_) fun _ _ z => z))))
      obtain ⟨m, hn, hz2⟩ := hz2
      exact wpAny_bind (wpAny_comp_letGo (cenv := inner sc around ce) kf _ t2 m loc2 hn fun h2 _ _ sb => wpAny_pure (hz2 h2 sb))
    | none =>
      obtain ⟨m, hn, hz⟩ := hz
      exact wpAny_bind (wpAny_holding (wpAny_comp_letGo (cenv := inner sc around ce) kf _ t m loc hn fun h2 _ _ sb => wpAny_pure (hz h2 sb)))
end Dt
namespace Dt
open PySem PySem.Spec PyProof.Rows L2
/-- the block of X, where what is raised by its tests and elements is in the air as W wishes -/
abbrev Cx.air (X : Cx) (W : XK) (s : Shared) (H : Hp) (scope : Scope) (ce : Env) (fp : List Addr) : Cx := (X.blk s H scope ce fp).wish (XC X (X.blk s H scope ce fp) W)
abbrev BlkX (X : Cx) (W : XK) (scope : Scope) (s : Shared) (H : Hp) (C : Addr) (cl : List (Str × Addr)) (fp : List Addr) : Cx := Cx.air X W s H scope (compEnvC scope cl C X.env) fp
theorem passX {X : Cx} {W : XK} {s : Shared} {H : Hp} {scope : Scope} {ce : Env} {fp : List Addr} : Passes (L2.CX X.prog X.w) (Cx.air X W s H scope ce fp) W := fun pins σ H1 s1 u s2 J c =>
  XC.of_call (X := X) (Xb := X.blk s H scope ce fp) (Inv.unwish (X := X.blk s H scope ce fp) J) rfl (fun _ _ _ z => z) c
section
variable {X : Cx}
theorem lc_air {W : XK} {pins : List (Addr × Obj)} {s0 : Shared} {σ : L2.St} {H0 : Hp} {Q : VK} {el tgt src : Expr} {cs : List Expr} {scope : Scope} {own : List (Str × Nat)} {pa pb : Pos} {wi : TI} {g : TG} {tt : TT} {te : TE} {us : Option (Value → Sem Unit)} {G : Value → Shared → Prop}
    (hs : X.stack = X.env :: X.outer) (hf : X.env.frame = some X.env.locals) (tk : Takes X (fun cls d _ H => W cls d H))
    (hc : X.calm = true) (hN : X.N.Nodup) (J0 : Inv X pins σ H0 s0) (hi : PI X tgt src wi) (ok : BlkOk X.N X.env.scope scope own)
    (hg : ∀ s H C cl fp, PG (BlkX X W scope s H C cl fp) tgt g) (ht : ∀ s H C cl fp, PTs (BlkX X W scope s H C cl fp) cs tt) (he : ∀ s H C cl fp, PE (BlkX X W scope s H C cl fp) el te)
    (fo : ∀ x, foldedSetIterable src X.env x = pure x) (h : tLc wi g tt te (own.map (·.2)) σ H0 Q)
    (fin : ∀ D ce s' m H', Inv X pins σ H' s' → Q (.ref D) H' → s'.heap.Ns ce.locals m → FpOk X pins H' ce.locals → BkPost (model X.prog X.w) X.A X.xe us G (.ref D) ce (.ok .next) s') :
    wpAny (model X.prog X.w) X.A (comprehension (.ListComp el [⟨tgt, src, cs, 0⟩] scope pa) scope X.env pb (newList []) false (eval src X.env) us) G X.xe s0 := by
  have cells : ∀ y ∈ scope.names, y.2 = .free → ∃ c, X.env.cells.lookup y.1 = some c := fun y hy e => (ok.free y hy e).elim (fun k => J0.ok.has _ (.inl k)) fun k => J0.ok.has _ (.inr k)
  refine block_goes (thn (hi.run pins s0 σ H0 _ J0 h) fun xv s1 hx => thn hx fun itv s2 h2 => ?_) ok.kind (fun y hy e => by rw [ok.uniq y hy, e]) (closure_ok cells) fo rfl
  obtain ⟨it, fp, tn, J, H2, e, I2, T, st2, f2, q⟩ := h2
  subst e
  refine wpAny_newObj_type (newEnv_comp ?_) (by show 0 ≤ sizeLine; decide)
  generalize hD : s2.heap.objs.size = D
  obtain ⟨Wn, ⟨m0, w0⟩, turn⟩ := q D (I2.hok.fresh (Nat.le_of_eq hD))
  generalize hs3 : ({ s2 with heap := s2.heap.push { cls := .type "list", data := .seq ([] : List Value).toArray } } : Shared) = s3
  have h3 : s3.heap = s2.heap.push { cls := .type "list", data := .seq ([] : List Value).toArray } := by rw [← hs3]
  have I3 : Inv X pins σ (upd H2 D (.lst [])) s3 := by
    rw [← hs3]
    refine I2.laid (t' := s2.toks) (fun b o e => Heap.get?_push_of_some _ e) (Nat.le_of_eq hD) ⟨Nat.zero_le _, [], 0, .nil, ?_⟩
    rw [← hD]
    exact Heap.get?_push_size _ rfl
  have f3 : ∀ b ∈ fp, FpOk X pins (upd H2 D (.lst [])) b ∧ b < s3.heap.objs.size := fun b hb => by
    obtain ⟨o, eo, _⟩ := T.obj _ _ st2 b hb
    have lt := Heap.lt_size eo
    refine ⟨⟨?_, (f2 b hb).2⟩, by rw [h3, Heap.size_push]; exact Nat.lt_succ_of_lt lt⟩
    rw [upd_ne (by rw [← hD]; exact Nat.ne_of_lt lt)]
    exact (f2 b hb).1
  have st3 : tn 0 s3.heap := T.keep _ _ _ st2 fun b _ o e => by rw [h3]; exact Heap.get?_push_of_some _ e
  have I4 := block_start I3 ok hN f3
  have pg : PG (Cx.air X W s3 (upd H2 D (.lst [])) scope (compEnvC scope (cellsFrom (s3.heap.objs.size + 1) scope.names (cloFrom X.env.cells scope.names [])) s3.heap.objs.size X.env) fp) tgt g := hg s3 (upd H2 D (.lst [])) s3.heap.objs.size (cellsFrom (s3.heap.objs.size + 1) scope.names (cloFrom X.env.cells scope.names [])) fp
  have pt : PTs (Cx.air X W s3 (upd H2 D (.lst [])) scope (compEnvC scope (cellsFrom (s3.heap.objs.size + 1) scope.names (cloFrom X.env.cells scope.names [])) s3.heap.objs.size X.env) fp) cs tt := ht s3 (upd H2 D (.lst [])) s3.heap.objs.size (cellsFrom (s3.heap.objs.size + 1) scope.names (cloFrom X.env.cells scope.names [])) fp
  have pe : PE (Cx.air X W s3 (upd H2 D (.lst [])) scope (compEnvC scope (cellsFrom (s3.heap.objs.size + 1) scope.names (cloFrom X.env.cells scope.names [])) s3.heap.objs.size X.env) fp) el te := he s3 (upd H2 D (.lst [])) s3.heap.objs.size (cellsFrom (s3.heap.objs.size + 1) scope.names (cloFrom X.env.cells scope.names [])) fp
  show codeAny _ _ (.compStart (.ListComp el [⟨tgt, src, cs, 0⟩] scope pa) 0 (.ref it) (.ref D) (compEnvC scope (cellsFrom (s3.heap.objs.size + 1) scope.names (cloFrom X.env.cells scope.names [])) s3.heap.objs.size X.env))
    (BkPost (model X.prog X.w) X.A X.xe us G (.ref D) (compEnvC scope (cellsFrom (s3.heap.objs.size + 1) scope.names (cloFrom X.env.cells scope.names [])) s3.heap.objs.size X.env)) { s3 with heap := pushCells (s3.heap.push { cls := .type "dict", data := .dict #[] }) scope.names }
  have cF : (compEnvC scope (cellsFrom (s3.heap.objs.size + 1) scope.names (cloFrom X.env.cells scope.names [])) s3.heap.objs.size X.env).frame = X.env.frame := rfl
  have cL : (compEnvC scope (cellsFrom (s3.heap.objs.size + 1) scope.names (cloFrom X.env.cells scope.names [])) s3.heap.objs.size X.env).locals = s3.heap.objs.size := rfl
  have n0 : ∀ b ∈ fp, (upd H2 D (.lst [])) b = none := fun b hb => (f3 b hb).1.1
  generalize compEnvC scope (cellsFrom (s3.heap.objs.size + 1) scope.names (cloFrom X.env.cells scope.names [])) s3.heap.objs.size X.env = ce at I4 pg pt pe cF cL ⊢
  generalize upd H2 D (.lst []) = H3 at I3 I4 pg pt pe w0 n0 f3
  generalize hs4 : ({ s3 with heap := pushCells (s3.heap.push { cls := .type "dict", data := .dict #[] }) scope.names } : Shared) = s4 at I4 ⊢
  have st4 : tn 0 s4.heap := T.keep _ _ _ st3 fun b _ o e => by rw [← hs4]; exact pushCells_keeps _ _ _ _ (Heap.get?_push_of_some _ e)
  have fps : ∀ {σ' : L2.St} {H' : Hp} {s' : Shared}, Inv (Cx.air X W s3 H3 scope ce fp) [] σ' H' s' → (∀ b ∈ fp, H' b = none) → ∀ b ∈ fp, FpOk (Cx.air X W s3 H3 scope ce fp) [] H' b := fun {σ' H' s'} I' hn b hb =>
    ⟨hn b hb, (I'.ok.exf b hb).1, I'.ok.exfs b hb, .inl hb, fun x c e => (I'.ok.exf b hb).2 x c e, fun p hp => absurd (show p ∈ ([] : List (Addr × Obj)) ++ [] from hp) (by simp)⟩
  -- what is raised leaves the block
  have away : ∀ u s', XC X (X.blk s3 H3 scope ce fp) W u s' → notedBy (model X.prog X.w) X.A ce (fun e t => BkPost (model X.prog X.w) X.A X.xe us G (.ref D) ce (.error e) t) u s' := fun u s' x => by
    have z := XC.out (ce2 := ce) (t := "comprehension.variables-let-go") (E1 := fun e t => BkPost (model X.prog X.w) X.A X.xe us G (.ref D) ce (.error e) t) I3 hs hf cF cF cL f3 tk x
    unfold notedBy
    cases us <;> exact z
  have loop : codeAny (model X.prog X.w) X.A (.compLoop (.ListComp el [⟨tgt, src, cs, 0⟩] scope pa) 0 (.ref it) (.ref D) ce) (BkPost (model X.prog X.w) X.A X.xe us G (.ref D) ce) s4 := by
    refine compLoop_any (fun n t => ∃ i H', Inv (Cx.air X W s3 H3 scope ce fp) [] (L2.wipe σ (own.map (·.2))) H' t ∧ tn i t.heap ∧ (∀ b ∈ fp, H' b = none) ∧ Wn i n H') ?_ m0 ⟨0, H3, I4.wish _, st4, n0, w0⟩
    rintro n s5 ⟨i, H5, I5, st5, n5, w5⟩
    rcases turn i n H5 w5 with ⟨stop, qq⟩ | ⟨go, Nx, hNx, step⟩
    · have td := T.done (Cx.air X W s3 H3 scope ce fp) rfl rfl rfl hc i [] s5 _ H5 (fun _ _ => False) I5 (fps I5 n5) st5 stop
      refine thnF td fun r s6 ⟨hr, I6⟩ => ?_
      subst hr
      have I7 : Inv X pins σ H5 s6 := I3.call' (ch := fp) I6.os I6.base I6.hok I6.bare fun b hb => ⟨(f3 b hb).1.2.2.2.1, (f3 b hb).1.2.1, (f3 b hb).1.2.2.2.2.1, (f3 b hb).1.2.2.2.2.2⟩
      obtain ⟨m, hn, _⟩ := I6.loc
      have hn : s6.heap.Ns ce.locals m := hn
      have nC : H5 ce.locals = none := I6.free
      exact fin D ce s6 m H5 I7 qq hn (I3.fpOk (Nat.le_of_eq cL.symm) nC)
    · have ti := T.item (Cx.air X W s3 H3 scope ce fp) rfl rfl rfl hc i [] s5 _ H5 (fun _ _ => False) I5 (fps I5 n5) st5 go
      refine thnF ti fun r s6 ⟨u, hr, h6⟩ => ?_
      subst hr
      refine thnF h6 fun _ s7 ⟨x, H7, I7, r7, y7, st7, n7⟩ => ?_
      have I7' := I7.pinned (fps I7 n7) (T.obj _ _ st7)
      refine wpAny_mono (pg.run _ s7 _ H7 x u _ I7' r7 (step x H7 y7)) (fun _ s8 ⟨σ8, H8, I8, hw8, q8⟩ => ?_) away
      have back : ∀ {s' : Shared} {H' : Hp}, Inv (Cx.air X W s3 H3 scope ce fp) ([] ++ pinsAt fp s7.heap) σ8 H' s' → Nx H' → ∃ m, m < n ∧ ∃ i H', Inv (Cx.air X W s3 H3 scope ce fp) [] (L2.wipe σ (own.map (·.2))) H' s' ∧ tn i s'.heap ∧ (∀ b ∈ fp, H' b = none) ∧ Wn i m H' := fun {s' H'} I' nx => by
        obtain ⟨m', hm, w'⟩ := hNx H' nx
        have pin' : ∀ b ∈ fp, ∀ o, s7.heap.get? b = some o → s'.heap.get? b = some o ∧ H' b = none := fun b hb o e =>
          let z := I'.pin (b, o) (List.mem_append_right _ (List.mem_append_right _ (mem_pinsAt hb e)))
          ⟨z.1, z.2.1⟩
        have hl : (L2.wipe σ (own.map (·.2))).length = σ8.length := by rw [← hw8, wipe_length]
        refine ⟨m', hm, i + 1, H', (I'.unpinned (pins := [])).weak hl (fun j v e => ?_), T.keep _ _ _ st7 fun b hb o e => (pin' b hb o e).1, fun b hb => ?_, w'⟩
        · rw [← hw8] at e
          exact (wipe_some e).1
        · obtain ⟨o, e, _⟩ := T.obj _ _ st7 b hb
          exact (pin' b hb o e).2
      refine wpAny_mono (pt.run _ s8 σ8 H8 _ I8 q8) (fun b s9 ⟨H9, I9, q9⟩ => ?_) away
      cases b with
      | false =>
        simp only [Bool.false_eq_true, if_false] at q9 ⊢
        exact back I9 q9
      | true =>
        simp only [if_true] at q9 ⊢
        refine wpAny_mono (pe.run _ s9 σ8 H9 _ I9 q9) (fun z s10 ⟨yv, H10, I10, r10, acc, hD10, hz10, nx⟩ => ?_) away
        exact app_ok (X := Cx.air X W s3 H3 scope ce fp) I10 hD10 hz10 r10 fun s11 I11 => back I11 nx
  exact codeAny_compStart_list loop (T.self X.A 0 _ _ _ st4 loop)
variable {W : XK} {el tgt src : Expr} {cs : List Expr} {scope : Scope} {own : List (Str × Nat)} {pa spos : Pos} {wi : TI} {g : TG} {tt : TT} {te : TE}
theorem pe_air (hs : X.stack = X.env :: X.outer) (hf : X.env.frame = some X.env.locals) (tk : Takes X (fun cls d _ H => W cls d H)) (hc : X.calm = true) (hN : X.N.Nodup) (hi : PI X tgt src wi) (ok : BlkOk X.N X.env.scope scope own)
    (hg : ∀ s H C cl fp, PG (BlkX X W scope s H C cl fp) tgt g) (ht : ∀ s H C cl fp, PTs (BlkX X W scope s H C cl fp) cs tt) (he : ∀ s H C cl fp, PE (BlkX X W scope s H C cl fp) el te) (fo : ∀ x, foldedSetIterable src X.env x = pure x := by intro _; rfl) :
    PE X (.ListComp el [⟨tgt, src, cs, 0⟩] scope pa) (tLc wi g tt te (own.map (·.2))) := by
  refine ⟨fun pins s σ H Q I h => ?_⟩
  rw [eval_ListComp]
  refine lc_air hs hf tk hc hN I hi ok hg ht he fo h fun D ce s' m H' I' q hn f => ?_
  obtain ⟨f0, f1, f2, f3, f4, f5⟩ := f
  exact ⟨m, hn, fun h2 sb => ⟨.ref D, H', I'.turned (t' := s'.toks) (fun b o hb e => (sb.2 b hb).trans e) f0 f1 f3 f4 f5, rfl, q⟩⟩
end
end Dt
namespace Dt
open PySem PySem.Spec PyProof.Rows L2
def compFX : List PyData → (PyData → Res (Option PyData)) → Res (List PyData)
  | [], _ => .ok []
  | d :: ds, g => g d >>= fun o => compFX ds g >>= fun ys => .ok (match o with | some y => y :: ys | none => ys)
def compDX (ds : List PyData) (g : PyData → Res (Option PyData)) : Res (List PyData) := if ds.length ≤ sizeLine then compFX ds g else .stuck
def comRX (ri : Res (List PyData)) (g : PyData → Res (Option PyData)) : Res (List PyData) := ri >>= fun ds => compDX ds g
theorem compFX_cons {g : PyData → Res (Option PyData)} (d : PyData) (ds : List PyData) : compFX (d :: ds) g = (g d >>= fun o => compFX ds g >>= fun ys => .ok (match (generalizing := false) o with | some y => y :: ys | none => ys)) := rfl
theorem compFX_ok {g : PyData → Res (Option PyData)} : ∀ {ds ys : List PyData}, compF ds g = .ok ys → compFX ds g = .ok ys
  | [], _, h => h
  | d :: ds, ys, h => by
    unfold compF at h
    unfold compFX
    cases e : g d with
    | ok o =>
      rw [e] at h
      cases e2 : compF ds g with
      | ok zs => rw [e2] at h; rw [compFX_ok e2]; exact h
      | err c => rw [e2] at h; cases h
      | stuck => rw [e2] at h; cases h
    | err c => rw [e] at h; cases h
    | stuck => rw [e] at h; cases h
theorem comRX_ok {ri : Res (List PyData)} {g : PyData → Res (Option PyData)} {ys : List PyData} (h : comR ri g = .ok ys) : comRX ri g = .ok ys := by
  cases ri with
  | ok ds =>
    have h : (if ds.length ≤ sizeLine then compF ds g else .stuck) = .ok ys := h
    show (if ds.length ≤ sizeLine then compFX ds g else .stuck) = .ok ys
    split at h
    · rename_i z
      rw [if_pos z]; exact compFX_ok h
    · cases h
  | err c => cases h
  | stuck => cases h
section
variable {α β : Type} {X : Cx} {W : XK} {ρ ρ' : List Sl} {e a b c iter tg : Expr} {es : List Expr} {r ra rb rc : Res PyData} {rt : Res Bool} {ri rs : Res (List PyData)} {pos p' p : Pos} {sh : α → List Sl} {sb : β → List Sl} {x : Str} {rest body : List Stmt}
def GCR (X : Cx) (W : XK) (scope : Scope) (vs : List Nat) (tg : Expr) (ifs : List Expr) (elt : Expr) (ρ : List Sl) (d : PyData) (r : Res (Option PyData)) : Prop :=
  ∀ A σ H v Q, EV A (kx X) (wipeR ρ vs) (L2.wipe σ vs) H → Rep A (kx X) H v d → PostR X W H r (OkC X A H Q) →
    ∀ s H0 C cl fp, WG (BlkX X W scope s H0 C cl fp) tg v (L2.wipe σ vs) H fun σ2 H2 => L2.wipe σ2 vs = L2.wipe σ vs ∧
      ∀ s H0 C cl fp, ∃ t, PTs (BlkX X W scope s H0 C cl fp) ifs t ∧ t σ2 H2 fun b H3 => if b = true then ∀ s H0 C cl fp, WE (BlkX X W scope s H0 C cl fp) elt σ2 H3 (fun w H4 => Q (some w) H4) else Q none H3
theorem gcr_name {scope : Scope} {vs : List Nat} {i : Nat} {ifs : List Expr} {elt : Expr} {d : PyData} {r : Res PyData} {p : Pos} (hg : ∀ s H0 C cl fp, PG (BlkX X W scope s H0 C cl fp) (.Name x p) (gName i)) (hi : i ∈ vs)
    (ht : ∀ s H0 C cl fp, GTs (BlkX X W scope s H0 C cl fp) W ifs ((wipeR ρ vs).set i (.fz d)) rt) (he : ∀ s H0 C cl fp, GE (BlkX X W scope s H0 C cl fp) W elt ((wipeR ρ vs).set i (.fz d)) r) :
    GCR X W scope vs (.Name x p) ifs elt ρ d (rt >>= fun b => if b = true then r >>= fun y => .ok (some y) else .ok none) := fun A σ H v Q ev rv q s H0 C cl fp => by
  refine ⟨_, hg s H0 C cl fp, by rw [wipe_set hi, wipe_wipe], fun s H0 C cl fp => ?_⟩
  have ev' := ev.set_fz (i := i) rv
  refine ht s H0 C cl fp A _ H _ ev' ((PostR.bind q).mono fun b qb H3 s3 => ?_)
  cases b with
  | true => exact iteT fun s H0 C cl fp => he s H0 C cl fp A _ H3 _ (ev'.same s3) ((PostR.bind (show PostR X W H (r >>= fun y => .ok (some y)) _ from qb)).imp s3 fun y qy w H4 s4 rw => qy w H4 (s3.trans s4) rw)
  | false => exact iteF (qb H3 s3)
def xG (X : Cx) (W : XK) (scope : Scope) (tg : Expr) : TG := fun v σ H Q => ∀ s H0 C cl fp, WG (BlkX X W scope s H0 C cl fp) tg v σ H Q
def xT (X : Cx) (W : XK) (scope : Scope) (ifs : List Expr) : TT := fun σ H Q => ∀ s H0 C cl fp, ∃ t, PTs (BlkX X W scope s H0 C cl fp) ifs t ∧ t σ H Q
def xE (X : Cx) (W : XK) (scope : Scope) (elt : Expr) : TE := fun σ H Q => ∀ s H0 C cl fp, WE (BlkX X W scope s H0 C cl fp) elt σ H Q
theorem xG_ok {scope : Scope} (s : Shared) (H0 : Hp) (C : Addr) (cl : List (Str × Addr)) (fp : List Addr) : PG (BlkX X W scope s H0 C cl fp) tg (xG X W scope tg) := ⟨fun pins s' σ H v u Q I r h => wg_ok.run pins s' σ H v u Q I r (h s H0 C cl fp)⟩
theorem xT_ok {scope : Scope} {ifs : List Expr} (s : Shared) (H0 : Hp) (C : Addr) (cl : List (Str × Addr)) (fp : List Addr) : PTs (BlkX X W scope s H0 C cl fp) ifs (xT X W scope ifs) := ⟨fun pins s' σ H Q I h => let ⟨t, h1, h2⟩ := h s H0 C cl fp; h1.run pins s' σ H Q I h2⟩
theorem xE_ok {scope : Scope} {elt : Expr} (s : Shared) (H0 : Hp) (C : Addr) (cl : List (Str × Addr)) (fp : List Addr) : PE (BlkX X W scope s H0 C cl fp) elt (xE X W scope elt) := ⟨fun pins s' σ H Q I h => we_ok.run pins s' σ H Q I (h s H0 C cl fp)⟩
theorem comp_runX {elt : Expr} {ifs : List Expr} {scope : Scope} {own : List (Str × Nat)} {g : PyData → Res (Option PyData)} (hi : GI X W tg iter ρ ri) (hb : ∀ d, GCR X W scope (own.map (·.2)) tg ifs elt ρ d (g d)) {A : Ow} {σ : L2.St} {H : Hp} {Q : VK} (ev : EV A (kx X) ρ σ H)
    (q : PostR X W H (ri >>= fun ds => compDX ds g) (OkO X A H Q)) :
    tLc (WI X tg iter) (xG X W scope tg) (xT X W scope ifs) (xE X W scope elt) (own.map (·.2)) σ H Q := by
  refine hi A σ H _ ev (q.bind.mono fun ds qd J δ H1 s1 gd wk D nD => ?_)
  unfold compDX at qd
  split at qd
  · rename_i hz
    have qd1 : PostR X W H1 (compFX ds g) (OkO X A H Q) := qd.imp s1 fun _ z => z
    refine ⟨fun i m H2 => ∃ acc ys, i + m = ds.length ∧ Same H1 H2 ∧ H2 D = some (.lst acc) ∧ Reps (ins A D 0) (kx X) H2 acc ys ∧ (compFX (ds.drop i) g >>= fun zs => (.ok (ys ++ zs) : Res (List PyData))) = compFX ds g ∧ ys.length ≤ i, ⟨ds.length, [], [], Nat.zero_add _, same_new nD, upd_same, .nil, by simp only [List.drop_zero, List.nil_append]; cases compFX ds g <;> rfl, Nat.le_refl _⟩, fun i m H2 ⟨acc, ys, em, s2, eD, rs, ez, hl⟩ => ?_⟩
    have ev2 : EV (ins A D 0) (kx X) ρ σ H2 := (ev.same s1).grow nD s2 eD
    have gd2 : GsOk (ins A D 0) (kx X) H2 δ := gd.mv (.ins (Same.refl _) nD s2)
    by_cases hi : i < ds.length
    · obtain ⟨go, yl⟩ := wk.go _ i ds[i] H2 ev2.tr gd2 (List.getElem?_eq_getElem hi)
      rw [List.drop_eq_getElem_cons hi] at ez
      rw [compFX_cons] at ez
      refine .inr ⟨go, fun H' => ∃ acc ys, Same H1 H' ∧ H' D = some (.lst acc) ∧ Reps (ins A D 0) (kx X) H' acc ys ∧ (compFX (ds.drop (i + 1)) g >>= fun zs => (.ok (ys ++ zs) : Res (List PyData))) = compFX ds g ∧ ys.length ≤ i + 1, fun H' ⟨acc, ys, h1, h2, h3, h4, h5⟩ => ⟨m - 1, by omega, acc, ys, by omega, h1, h2, h3, h4, h5⟩, fun v H' hy => ?_⟩
      obtain ⟨s3, rv⟩ := yl v H' hy
      intro s H0 C cl fp
      refine hb ds[i] _ σ H' v (fun o H4 => match o with
        | some w => ∃ acc, H4 D = some (.lst acc) ∧ acc.length < sizeLine ∧ ∃ acc' ys, Same H1 (upd H4 D (.lst (acc ++ [w]))) ∧ (upd H4 D (.lst (acc ++ [w]))) D = some (.lst acc') ∧ Reps (ins A D 0) (kx X) (upd H4 D (.lst (acc ++ [w]))) acc' ys ∧ (compFX (ds.drop (i + 1)) g >>= fun zs => (.ok (ys ++ zs) : Res (List PyData))) = compFX ds g ∧ ys.length ≤ i + 1
        | none => ∃ acc ys, Same H1 H4 ∧ H4 D = some (.lst acc) ∧ Reps (ins A D 0) (kx X) H4 acc ys ∧ (compFX (ds.drop (i + 1)) g >>= fun zs => (.ok (ys ++ zs) : Res (List PyData))) = compFX ds g ∧ ys.length ≤ i + 1) ((ev2.same s3).wipe _) rv ?_ s H0 C cl fp
      cases e1 : g ds[i] with
      | err c =>
        rw [e1] at ez
        have ez : (.err c : Res (List PyData)) = compFX ds g := ez
        rw [← ez] at qd1
        exact fun H'' s'' => qd1 H'' (s2.trans (s3.trans s''))
      | stuck =>
        rw [e1] at ez
        have ez : (.stuck : Res (List PyData)) = compFX ds g := ez
        rw [← ez] at qd1
        exact qd1
      | ok o =>
        rw [e1] at ez
        have ez : ((compFX (ds.drop (i + 1)) g >>= fun zs => (.ok (match (generalizing := false) o with | some y => y :: zs | none => zs) : Res (List PyData))) >>= fun zs => (.ok (ys ++ zs) : Res (List PyData))) = compFX ds g := ez
        cases o with
        | some y =>
          intro w H4 s4 rw'
          have s14 : Same H1 H4 := s2.trans (s3.trans s4)
          have eD4 := s4 _ _ (s3 _ _ eD)
          have m4 : Mv (ins A D 0) (ins A D 0) H4 (upd H4 D (.lst (acc ++ [w]))) := Mv.write (by rw [ins_same]; exact fun z => by cases z) (mut_lst eD4)
          refine ⟨acc, eD4, by rw [rs.length]; omega, acc ++ [w], ys ++ [y], fun b x e => ?_, upd_same, ((rs.same (s3.trans s4)).append (.cons rw' .nil)).mv m4, ?_, by rw [List.length_append, List.length_singleton]; omega⟩
          · rw [upd_ne (ne_of_none e nD)]; exact s14 _ _ e
          · rw [← ez]
            cases compFX (ds.drop (i + 1)) g with
            | ok zs =>
              show (.ok ((ys ++ [y]) ++ zs) : Res (List PyData)) = .ok (ys ++ (y :: zs))
              rw [List.append_assoc]; rfl
            | err c => rfl
            | stuck => rfl
        | none =>
          intro H4 s4
          refine ⟨acc, ys, s2.trans (s3.trans s4), s4 _ _ (s3 _ _ eD), rs.same (s3.trans s4), ?_, by omega⟩
          rw [← ez]
          cases compFX (ds.drop (i + 1)) g <;> rfl
    · refine .inl ⟨wk.stop _ i H2 ev2.tr gd2 (by omega), ?_⟩
      rw [List.drop_eq_nil_of_le (by omega)] at ez
      have ez : (.ok (ys ++ []) : Res (List PyData)) = compFX ds g := ez
      rw [List.append_nil] at ez
      rw [← ez] at qd
      exact qd D H1 H2 s1 nD s2 ⟨acc, eD, rs⟩
  · exact qd.elim
theorem go_compX {elt : Expr} {ifs : List Expr} {scope : Scope} {own : List (Str × Nat)} {g : PyData → Res (Option PyData)} (st : X.stack = X.env :: X.outer) (fr : X.env.frame = some X.env.locals) (tk : Takes X (fun cls d _ H => W cls d H)) (hc : X.calm = true) (hN : X.N.Nodup) (ok : BlkOk X.N X.env.scope scope own) (hi : GI X W tg iter ρ ri) (hb : ∀ d, GCR X W scope (own.map (·.2)) tg ifs elt ρ d (g d))
    (hs : ∀ x, foldedSetIterable iter X.env x = pure x := by intro _; rfl) : GO X W (.ListComp elt [⟨tg, iter, ifs, 0⟩] scope pos) ρ (comRX ri g) := fun A σ H Q ev q =>
  ⟨_, pe_air (W := W) (own := own) st fr tk hc hN wi_ok ok xG_ok xT_ok xE_ok hs, comp_runX hi hb ev q⟩
end
end Dt
namespace Dt
open PySem PySem.Spec PyProof.Rows L2
section
variable {X : Cx} {E : XK} {k i : Nat} {ρ ρ0 ρs : List Sl} {sh : Empty → List Sl} {body rest suite : List Stmt} {b₀ : Stmt} {m : Res (Out Empty)} {n : Str} {cs ts : List Str} {hm : Str → Res (Out Unit)} {shb : Empty → List Sl} {kr : Res (Out Empty)} {np pos pos' : Pos}
end
end Dt
namespace Dt
open PySem PySem.Spec PyProof.Rows L2
section
variable {α β : Type} {X : Cx} {E : XK} {ρ ρ' : List Sl} {es : List Expr} {pos : Pos} {sh : α → List Sl} {body : List Stmt}
end
end Dt
namespace Dt
open PySem PySem.Spec PyProof.Rows L2
def repD (y z : Str) : PyData → Res PyData
  | .str x => if x.length + (x.length + 1) * z.length ≤ 16777216 then .ok (.str (Txt.replace x y z)) else .stuck
  | _ => .stuck
section
variable {X : Cx} {a b o e : Expr} {es : List Expr} {ta tb to : TE} {tas : TA} {op : Operator} {r2 : R2} {pos apos : Pos}
theorem pet_op (ho : OpR X (binaryOp op) r2) (ha : PE X a ta) (hb : PET X b tb) : PET X (.BinOp a op b pos) (tOp r2 ta tb) := fun pins s σ H Q one J h => by
  refine wpAny_BinOp (wpAny_mono (PySem.wpAny_toks (ha.run pins s σ H _ J h)) (fun v s1 w => ?_) fun _ _ z => z.2)
  obtain ⟨le, x, H1, J1, rx, q1⟩ := w
  refine thn (hb pins s1 σ H1 _ (Nat.le_trans one le) J1 q1) fun u s2 ⟨y, H2, J2, ry, q2⟩ => ho pins s2 σ H2 x y v u Q J2 rx ry q2
def tRpl (to : TE) (y z : Str) : TE := fun σ H Q => to σ H fun v H1 => ∃ x, v = .str x ∧ x.length + (x.length + 1) * z.length ≤ 16777216 ∧ Q (.str (Txt.replace x y z)) H1
theorem pet_rpl {y z : Str} {j0 j1 : Nat} {c0 c1 : Pos} (ho : PE X o to) (ne : (y == z) = false) (hst : starEach [.Constant (.str y) j0 c0, .Constant (.str z) j1 c1] X.env = [(false, eval (.Constant (.str y) j0 c0) X.env), (false, eval (.Constant (.str z) j1 c1) X.env)])
    (hbase : attributeBase o "replace" X.env (eval o X.env) = eval o X.env) (hline : (apos.endLine == pos.line) = true) :
    PET X (.Call (.Attribute o "replace" apos) [.Constant (.str y) j0 c0, .Constant (.str z) j1 c1] [] pos) (tRpl to y z) := fun pins s σ H Q one J h => by
  refine PySem.Call_method2 hbase hst hline (wpAny_mono (PySem.wpAny_toks (ho.run pins s σ H _ J h)) (fun u s1 w => ?_) fun _ _ z => z.2)
  obtain ⟨le, v, H1, J1, rv, x, ev, big, q⟩ := w
  subst ev
  obtain ⟨tx, eu⟩ := rv
  subst eu
  refine ⟨"str", _, F.plainAttrs_str, F.slot_str_replace, F.type_str_replace, typeIs_str _ _ _, (fun _ e => nomatch e), Calls.callWith_builtin rfl (Calls.evalArgs_plain (Calls.spliced_cons (Calls.Constant_str (Calls.spliced_cons (Calls.Constant_str (Calls.spliced_nil ?_))))))⟩
  have one1 : 1 ≤ s1.toks := Nat.le_trans one le
  exact PySem.SC.replace (show s1.toks ≠ 0 by omega) (show s1.toks + 1 ≠ 0 by omega) (show s1.toks ≠ s1.toks + 1 by omega) ne big fun t' k => ⟨.str (Txt.replace x y z), H1, J1.tok k, ⟨t', rfl⟩, q⟩
/-- name = [a written text, ..]: behind it a token is out -/
theorem pss_lstT {i j : Nat} {x c : Str} {cpos lpos pos' : Pos} {rest : List Stmt} {u : TS} (hN : X.N.Nodup) (hi : X.N[i]? = some x) (hx : Loc X.env.scope x) (pa : PA X es tas) (h2 : PSsT X rest u)
    (hst : starEach (.Constant (.str c) j cpos :: es) X.env = (false, eval (.Constant (.str c) j cpos) X.env) :: starEach es X.env) (hs : swapsWith (.List (.Constant (.str c) j cpos :: es) lpos) (some (.Name x pos')) pos.line X.env = pure false) (hf : X.fn x = true ∨ X.env.scope.names.lookup x = some .local) :
    PSs X (.Assign [.Name x pos'] (.List (.Constant (.str c) j cpos :: es) lpos) pos :: rest) (tSeq (tAsg (tLst (tCons (tC (.str c)) tas)) (gName i)) u) := by
  refine ⟨fun pins s σ H D J h => ?_⟩
  refine wpAny_execs_cons (wpAny_Assign_Name (wpAny_List_spliced ?_) hs)
  rw [hst]
  show wpAny _ _ (spliced ((false, eval (.Constant (.str c) j cpos) X.env) :: backTo lpos (starEach es X.env))) _ _ s
  have h : tas σ H fun vs H1 => (V.str c :: vs).length ≤ sizeLine ∧ ∀ p, H1 p = none → gName i (.ref p) σ (upd H1 p (.lst (V.str c :: vs))) (fun σ' H' => u D σ' H') := h
  refine Calls.spliced_cons (Calls.Constant_str (wpAny_mono (PySem.wpAny_toks (pa.run lpos pins { s with toks := s.toks + 1 } σ H _ (J.tok _) h)) (fun us s1 w => ?_) fun _ _ z => z.2))
  obtain ⟨le, vs, H1, J1, rv, sz, q⟩ := w
  have le : s.toks + 1 ≤ s1.toks := le
  have sz2 : (Value.str c s.toks :: us).length ≤ sizeLine := by
    have := rv.length
    simp at sz ⊢
    omega
  refine ⟨sz2, ?_⟩
  have nw : H1 s1.heap.objs.size = none := J1.hok.fresh (Nat.le_refl _)
  have J2 := J1.laid (t' := s1.toks) (h' := s1.heap.push { cls := .type "list", data := .seq (Value.str c s.toks :: us).toArray }) (a := s1.heap.objs.size) (o := .lst (V.str c :: vs)) (fun b u e => Heap.get?_push_of_some _ e) (Nat.le_refl _) ⟨sz, Value.str c s.toks :: us, 0, .cons ⟨s.toks, rfl⟩ rv, Heap.get?_push_size _ rfl⟩
  refine wpAny_mono (PySem.wpAny_toks (store_ok (v := V.ref s1.heap.objs.size) (u := Value.ref s1.heap.objs.size) (Q := fun _ s2 => Inv X pins (σ.set i (some (V.ref s1.heap.objs.size))) (upd H1 s1.heap.objs.size (.lst (V.str c :: vs))) s2) J2 hN hi hx rfl (fun _ J3 => J3) hf)) (fun _ s2 w => ?_) fun _ _ z => z.2
  have hk : s1.toks ≤ s2.toks := w.1
  exact h2 pins s2 _ _ D (by omega) w.2 (q _ nw)
end
end Dt
namespace Dt
open PySem PySem.Spec PyProof.Rows L2
def WET (X : Cx) (e : Expr) : TE := fun σ H Q => ∃ t, PET X e t ∧ t σ H Q
theorem wet_ok {X : Cx} {e : Expr} : PET X e (WET X e) := fun pins s σ H Q one J ⟨t, h, q⟩ => h pins s σ H Q one J q
def WIT (X : Cx) (tg iter : Expr) : TI := fun σ H R => ∃ t, PIT X tg iter t ∧ t σ H R
theorem wit_ok {X : Cx} {tg iter : Expr} : PIT X tg iter (WIT X tg iter) := fun pins s σ H R one J ⟨t, h, q⟩ => h pins s σ H R one J q
def WSsT (X : Cx) (ss : List Stmt) : TS := fun D σ H => ∃ t, PSsT X ss t ∧ t D σ H
theorem wsst_ok {X : Cx} {ss : List Stmt} : PSsT X ss (WSsT X ss) := fun pins s σ H D one J ⟨t, h, q⟩ => h pins s σ H D one J q
def GET (X : Cx) (E : XK) (e : Expr) (ρ : List Sl) (r : Res PyData) : Prop := ∀ A σ H Q, EV A (kx X) ρ σ H → PostR X E H r (OkE X A H Q) → WET X e σ H Q
def GIT (X : Cx) (E : XK) (tg iter : Expr) (ρ : List Sl) (r : Res (List PyData)) : Prop := ∀ A σ H R, EV A (kx X) ρ σ H → PostR X E H r (OkI X A H R) → WIT X tg iter σ H R
def GSsT {α : Type} (X : Cx) (E : XK) (ss : List Stmt) (ρ : List Sl) (sh : α → List Sl) (r : Res (Out α)) : Prop := ∀ A0 H0 γ σ H D, ER A0 H0 (kx X) γ ρ σ H → PostR X E H0 r (OkS X A0 H0 γ sh D) → WSsT X ss D σ H
def seqL : PyData → Res (List PyData)
  | .list ds => .ok ds
  | _ => .stuck
section
variable {α β : Type} {X : Cx} {E : XK} {ρ ρ' : List Sl} {e a b o c iter tg : Expr} {es : List Expr} {r ra rb ro : Res PyData} {ri rs : Res (List PyData)} {pos apos p' p : Pos} {sh : α → List Sl} {sb : β → List Sl} {x : Str} {rest body : List Stmt}
theorem get_rpl {y z : Str} {j0 j1 : Nat} {c0 c1 : Pos} (ho : GE X E o ρ ro) (ne : (y == z) = false := by decide) (hst : starEach [.Constant (.str y) j0 c0, .Constant (.str z) j1 c1] X.env = [(false, eval (.Constant (.str y) j0 c0) X.env), (false, eval (.Constant (.str z) j1 c1) X.env)] := by rfl)
    (hbase : attributeBase o "replace" X.env (eval o X.env) = eval o X.env := by rfl) (hline : (apos.endLine == pos.line) = true := by rfl) :
    GET X E (.Call (.Attribute o "replace" apos) [.Constant (.str y) j0 c0, .Constant (.str z) j1 c1] [] pos) ρ (ro >>= repD y z) := fun A σ H Q ev q => by
  refine ⟨_, pet_rpl we_ok ne hst hbase hline, ?_⟩
  refine ho A σ H _ ev ((PostR.bind q).mono fun d qd v H1 s1 rv => ?_)
  cases rv with
  | str t =>
    have qd : PostR X E H (if t.length + (t.length + 1) * z.length ≤ 16777216 then Res.ok (PyData.str (Txt.replace t y z)) else .stuck) (OkE X A H Q) := qd
    split at qd
    · rename_i hz
      exact ⟨t, rfl, hz, qd _ H1 s1 (.str _)⟩
    · exact qd.elim
  | _ => exact qd.elim
theorem get_lst2 (h1 : GET X E a ρ ra) (h2 : GET X E b ρ rb) (hs1 : starEach [a, b] X.env = (false, eval a X.env) :: starEach [b] X.env := by rfl) (hs2 : starEach [b] X.env = (false, eval b X.env) :: starEach [] X.env := by rfl) :
    GET X E (.List [a, b] pos) ρ (ra >>= fun d => rb >>= fun e => .ok (.list [d, e])) := fun A σ H Q ev q => by
  refine ⟨_, pet_lst (pat_cons wet_ok (pat_cons wet_ok pat_nil hs2) hs1), ?_⟩
  refine h1 A σ H _ ev ((PostR.bind q).mono fun d qd v H1 s1 rv => ?_)
  refine h2 A σ H1 _ (ev.same s1) ((PostR.bind qd).imp s1 fun e qe u H2 s2 ru => ?_)
  refine ⟨show 2 ≤ sizeLine by decide, fun p n => ?_⟩
  have sn := same_new (o := HO.lst [v, u]) n
  refine qe _ _ (s1.trans (s2.trans sn)) ?_
  refine .lst upd_same ?_ (.cons ((rv.same s2).same sn) (.cons (ru.same sn) .nil))
  exact not_own ((ev.same s1).same s2).tr n
theorem get_bin {op : Operator} {g : PyData → PyData → Res PyData} (o2 : Op2 X (binaryOp op) g) (ha : GW X E a ρ ra) (hb : GET X E b ρ rb) : GET X E (.BinOp a op b pos) ρ (b2 g ra rb) := fun A σ H Q ev q => by
  obtain ⟨r2, ho, hr⟩ := o2
  have q : PostR X E H (ra >>= fun d => rb >>= fun e => g d e) (OkE X A H Q) := q
  refine ⟨_, pet_op ho we_ok wet_ok, ?_⟩
  refine ha A σ H _ ev ((PostR.bind q).mono fun d qd v H1 s1 rv => ?_)
  refine hb A σ H1 _ (ev.same s1) ((PostR.bind qd).imp s1 fun e qe u H2 s2 ru => ?_)
  exact hr E A H2 v u d e Q ((ev.same s1).same s2).tr (rv.same s2) (.inl ru) (PostR.imp (show PostR X E H (g d e) _ from qe) (s1.trans s2) fun f k w H3 s3 rw => k w H3 ((s1.trans s2).trans s3) rw)
theorem git_list (h : GET X E iter ρ r) : GIT X E tg iter ρ (r >>= seqL) := fun A σ H R ev q => by
  refine ⟨_, pit_list wet_ok, ?_⟩
  refine h A σ H _ ev ((PostR.bind q).mono fun d qd v H1 s1 rv => ?_)
  cases d with
  | list ds =>
    have qd : OkI X A H R ds := qd
    obtain ⟨p, vs, rfl, h1, h2⟩ := RepW.lst (Or.inl rv)
    exact ⟨_, rfl, ⟨_, .of h1⟩, qd _ _ H1 s1 (gs_one rv) wk_list⟩
  | _ => exact qd.elim
theorem gsst_for {f : PyData → β → Res (Out β)} {k : β → Res (Out α)} (a0 : β) (hp : PassesOwn (model X.prog X.w) X.A X.env X.xe) (hc : X.calm = true) (hi : GIT X E tg iter ρ ri) (hl : Le (sb a0) ρ)
    (hb : ∀ d a, GB X E tg body (sb a) d sb (f d a)) (hk : ∀ a, GSs X E rest (sb a) sh (k a)) (hs : ∀ x, foldedSetIterable iter X.env x = pure x := by intro _; rfl) :
    GSsT X E (.For tg iter body [] pos :: rest) ρ sh (ri >>= fun ds => seqR (forD ds a0 f) k) := fun A0 H0 γ σ H D er q => by
  obtain ⟨A, er⟩ := er
  refine ⟨_, psst_cons (pst_for hp hc wit_ok wg_ok wss_ok hs) (PSsT.of wss_ok), ?_⟩
  refine hi A σ H _ er.ev (q.bind.imp er.same fun ds qd J δ H1 s1 gd wk => ?_)
  have er1 : ER A0 H0 (kx X) (γ ++ δ) (sb a0) σ H1 := by
    have e := er.same' s1
    exact ER.le ⟨A, e.ev, e.gs.app gd, e.sub, e.same, e.new, e.t0⟩ hl
  refine ⟨fun i m σ H => ∃ a, i + m = ds.length ∧ ER A0 H0 (kx X) (γ ++ δ) (sb a) σ H ∧ PostR X E H0 (seqR (forD (ds.drop i) a f) k) (OkS X A0 H0 γ sh D), ⟨ds.length, a0, Nat.zero_add _, er1, qd⟩, fun i m σ H2 ⟨a, em, er2, q2⟩ => ?_⟩
  obtain ⟨A2, er2⟩ := er2
  have gd2 : GsOk A2 (kx X) H2 δ := fun g hg => er2.gs g (List.mem_append_right _ hg)
  by_cases hi : i < ds.length
  · obtain ⟨go, yl⟩ := wk.go A2 i ds[i] H2 er2.ev.tr gd2 (List.getElem?_eq_getElem hi)
    refine .inr ⟨go, fun σ' H' => ∃ a', ER A0 H0 (kx X) (γ ++ δ) (sb a') σ' H' ∧ PostR X E H0 (seqR (forD (ds.drop (i + 1)) a' f) k) (OkS X A0 H0 γ sh D), fun σ' H' ⟨a', h1, h2⟩ => ⟨m - 1, by omega, a', by omega, h1, h2⟩, fun v H' hy => ?_⟩
    obtain ⟨s2, rv⟩ := yl v H' hy
    rw [List.drop_eq_getElem_cons hi] at q2
    have er3 := er2.same' s2
    have hb' := hb ds[i] a A2 A0 H0 (γ ++ δ) σ H' { D with nx := fun σ' H' => ∃ a', ER A0 H0 (kx X) (γ ++ δ) (sb a') σ' H' ∧ PostR X E H0 (seqR (forD (ds.drop (i + 1)) a' f) k) (OkS X A0 H0 γ sh D), ct := fun σ' H' => ∃ a', ER A0 H0 (kx X) (γ ++ δ) (sb a') σ' H' ∧ PostR X E H0 (seqR (forD (ds.drop (i + 1)) a' f) k) (OkS X A0 H0 γ sh D), bk := WSs X rest D } v er3 rv
    refine hb' ?_
    have q3 : PostR X E H0 (f ds[i] a) fun o => PostR X E H0 (seqR (match o with | .nx a' => forD (ds.drop (i + 1)) a' f | .rt d => .ok (.rt d)) k) (OkS X A0 H0 γ sh D) := by
      have z : seqR (forD (ds[i] :: ds.drop (i + 1)) a f) k = (f ds[i] a >>= fun o => seqR (match o with | .nx a' => forD (ds.drop (i + 1)) a' f | .rt d => .ok (.rt d)) k) := by
        show seqR (seqR (f ds[i] a) _) k = _
        cases f ds[i] a with
        | ok o => cases o <;> rfl
        | err c => rfl
        | stuck => rfl
      rw [z] at q2
      exact q2.bind
    refine q3.mono fun o qo => ?_
    cases o with
    | nx a' => exact fun σ' H' er' => ⟨a', er', qo⟩
    | rt d => exact qo
  · refine .inl ⟨wk.stop A2 i H2 er2.ev.tr gd2 (by omega), ?_⟩
    rw [List.drop_eq_nil_of_le (by omega)] at q2
    exact hk a A0 H0 γ σ H2 D ⟨A2, er2.ev, fun g hg => er2.gs g (List.mem_append_left _ hg), er2.sub, er2.same, er2.new, er2.t0⟩ q2
theorem gss_lstT {i j : Nat} {y c : Str} {cpos lpos py : Pos} {k : List PyData → Res (Out α)} (hN : X.N.Nodup) (h : GA X E es ρ rs) (k' : ∀ d, GSsT X E rest (ρ.set i (.ow (.list d))) sh (k d))
    (hi : X.N[i]? = some y := by rfl) (hx : Loc X.env.scope y := by first | exact .inl rfl | exact .inr rfl) (hst : starEach (.Constant (.str c) j cpos :: es) X.env = (false, eval (.Constant (.str c) j cpos) X.env) :: starEach es X.env := by rfl)
    (hs : swapsWith (.List (.Constant (.str c) j cpos :: es) lpos) (some (.Name y py)) pos.line X.env = pure false := by rfl) (hf : X.fn y = true ∨ X.env.scope.names.lookup y = some .local := by first | exact .inl rfl | exact .inr rfl) :
    GSs X E (.Assign [.Name y py] (.List (.Constant (.str c) j cpos :: es) lpos) pos :: rest) ρ sh ((rs >>= fun ds => lstD (.str c :: ds)) >>= k) := fun A0 H0 γ σ H D er q => by
  obtain ⟨A, er⟩ := er
  refine ⟨_, pss_lstT hN hi hx wa_ok wsst_ok hst hs hf, ?_⟩
  have q : PostR X E H0 (rs >>= fun ds => lstD (.str c :: ds) >>= k) (OkS X A0 H0 γ sh D) := by
    cases rs with
    | ok ds => exact q
    | err z => exact q
    | stuck => exact q
  refine h A σ H _ er.ev (q.bind.imp er.same fun ds qd vs H1 s1 rv => ?_)
  unfold lstD at qd
  split at qd
  · rename_i hz
    refine ⟨by simp at hz ⊢; rw [rv.length]; exact hz, fun p n => ?_⟩
    have sn := same_new (o := HO.lst (V.str c :: vs)) n
    refine k' _ A0 H0 γ _ _ D (er.set_ow s1 n sn ⟨_, upd_same, ?_⟩) qd
    exact (Reps.newA (.cons (.str c) rv) n).same sn
  · exact qd.elim
end
end Dt
namespace Dt
open PySem PySem.Spec PyProof.Rows L2
open PySem.Froz (sObj TxOk addTx)
section
variable {P : Program} {w : World} {A : Around} {E : Value → Shared → Prop} {s : Shared}
theorem tset_loop {it : Addr} {fp wr : List Addr} {G : Array GenState → Array GenState → Prop} {n : Nat} {Pv : Nat → Value → Prop} {St : Nat → Shared → Prop} {R : Result → Shared → Prop}
    (W : WalksS P w A.in1 it fp wr G n Pv St) (a : Addr) (nfp : a ∉ fp) (ks : List Str) (len : n = ks.length) (nd : ks.Nodup) (few : ks.length < 300)
    (val : ∀ i v, Pv i v → ∃ k t, ks[i]? = some k ∧ v = .str k t) (hp0 : Heap) (na : hp0.get? a = none) (nw : ∀ b ∈ wr, hp0.get? b = none) :
    ∀ (j i : Nat) (s : Shared), n - i = j → i ≤ n → St i s → (∀ b o, hp0.get? b = some o → s.heap.get? b = some o) → (∃ D, s.heap.get? a = some (sObj "set" D) ∧ TxOk P w D (ks.take i).reverse) →
      (∀ s' D, Moved (a :: wr) G s s' → s'.heap.get? a = some (sObj "set" D) → TxOk P w D ks.reverse → (∀ b o, hp0.get? b = some o → s'.heap.get? b = some o) → R (.ok (.ret .none)) s') →
      codeAny (model P w) A (.builtin "set.update.loop" ⟨[.ref a, .ref it], []⟩) R s := by
  have nwr : a ∉ wr := fun q => nfp (W.sub _ q)
  have up : ∀ b ∈ wr, b ∈ a :: wr := fun b q => List.mem_cons_of_mem _ q
  have stay : ∀ {s s' : Shared}, Moved wr G s s' → (∀ b o, hp0.get? b = some o → s.heap.get? b = some o) → ∀ b o, hp0.get? b = some o → s'.heap.get? b = some o := fun mv old b o q =>
    mv.heap b o (fun z => by rw [nw b z] at q; exact nomatch q) (old b o q)
  intro j
  induction j with
  | zero =>
    intro i s ej le st old ⟨D, hD, T⟩ fin
    obtain rfl : i = n := by omega
    refine codeAny_builtin F.entry_set_update_loop (by
      rw [Around.under_plainId F.plain_set_update_loop _]
      refine (show wpAny _ A.in1 (pyNext (.ref it) >>= _) _ _ s from wpAny_bind (W.done s _ _ st fun s' mv => ?_))
      rw [len, List.take_length] at T
      exact (show wpAny _ A.in1 (ret Value.none) _ _ s' from wpAny_pure (fin s' D (mv.mono up) (mv.heap a _ nwr hD) T (stay mv old))))
  | succ j ih =>
    intro i s ej le st old ⟨D, hD, T⟩ fin
    have lt : i < n := by omega
    refine codeAny_builtin F.entry_set_update_loop (by
      rw [Around.under_plainId F.plain_set_update_loop _]
      refine (show wpAny _ A.in1 (pyNext (.ref it) >>= _) _ _ s from wpAny_bind (W.item i s _ _ lt st fun v s' pv st' mv => ?_))
      obtain ⟨k, tk, ik, rfl⟩ := val i v pv
      have old' := stay mv old
      have hD' := mv.heap a _ nwr hD
      obtain ⟨il, ik'⟩ := List.getElem?_eq_some_iff.mp ik
      have tks : ks.take (i + 1) = ks.take i ++ [k] := by rw [← ik']; exact (List.take_append_getElem il).symm
      have nk : k ∉ (ks.take i).reverse := fun z => by
        have z := List.mem_reverse.mp z
        have nd2 : (ks.take (i + 1)).Nodup := nd.sublist (List.take_sublist _ _)
        rw [tks, List.nodup_append] at nd2
        exact nd2.2.2 k z k List.mem_cons_self rfl
      have small : (ks.take i).reverse.length + 1 < scanBound := by
        rw [List.length_reverse, List.length_take]
        unfold scanBound
        omega
      refine (show wpAny _ A.in1 (holding [Value.str k tk] (setAdd a (.str k tk)) >>= _) _ _ s' from wpAny_bind (wpAny_holding ?_))
      unfold setAdd
      refine wpAny_holding (wpAny_bind ((strKind P w).pyHash (PySem.Froz.is_str k tk) ?_))
      refine PySem.Froz.add_x (P := P) (s := { s' with toks := s'.toks + 1 }) hD' T nk small ?_
      generalize hh : s'.heap.update a (fun _ => sObj "set" (addTx (hashStr w k) (.str k tk) D)) = h'
      have other : ∀ b, b ≠ a → h'.get? b = s'.heap.get? b := fun b hb => by rw [← hh]; exact Heap.get?_update_other _ _ (Ne.symm hb)
      have mine : h'.get? a = some (sObj "set" (addTx (hashStr w k) (.str k tk) D)) := by rw [← hh]; exact PySem.Froz.get_upd _ hD' rfl
      have T' := PySem.Froz.add_ok (k := k) tk T
      have T' : TxOk P w (addTx (hashStr w k) (.str k tk) D) (ks.take (i + 1)).reverse := by
        rw [tks, List.reverse_append]
        exact T'
      have old2 : ∀ b o, hp0.get? b = some o → h'.get? b = some o := fun b o q => (other b (fun z => by rw [z, na] at q; exact nomatch q)).trans (old' b o q)
      refine wpAny_pure ⟨plainId_quiet F.plain_set_update_loop _, ih (i + 1) _ (by omega) lt (W.frame _ s' _ _ st' (Nat.le_add_right _ _) fun b q o e => (other b fun z : b = a => nfp (z ▸ q)).trans e) old2 ⟨_, mine, T'⟩ ?_⟩
      intro s'' D2 mv2 B3 g3 old3
      exact fin s'' D2 (Moved.trans W.gtrans ((mv.mono up).then_heap (Nat.le_add_right _ _) fun b o q e => (other b fun z : b = a => q (z ▸ List.mem_cons_self)).trans e) mv2) B3 g3 old3)
def FilledX2 (P : Program) (w : World) (s : Shared) (ks : List Str) (r : Value) (t : Shared) : Prop := r = .none ∧ ∃ (hp : Heap) (k : Nat), t = { s with heap := hp, toks := k } ∧ (∃ D, hp.get? s.heap.objs.size = some (sObj "set" D) ∧ TxOk P w D ks.reverse) ∧ ∀ b o, s.heap.get? b = some o → hp.get? b = some o
set_option maxHeartbeats 3200000 in
theorem set_ofTxt {l : Addr} {xs : Array Value} {ks : List Str} {Q : Value → Shared → Prop} (hd : A.handled = none) (hl : s.heap.IsList l xs) (len : xs.size = ks.length) (isS : ∀ (i : Nat) (v : Value), xs[i]? = some v → ∃ k t, ks[i]? = some k ∧ v = .str k t)
    (nd : ks.Nodup) (few : ks.length < 300)
    (fin : ∀ (hp : Heap) (k : Nat) D, hp.get? s.heap.objs.size = some (sObj "set" D) → TxOk P w D ks.reverse → (∀ b o, s.heap.get? b = some o → hp.get? b = some o) → Q (.ref s.heap.objs.size) { s with heap := hp, toks := k }) :
    wpAny (model P w) A (call (.type "set") [.ref l]) Q E s := by
  obtain ⟨c0, tl0, order⟩ := F.called_set.mro
  have z1 := F.called_set.made
  have z2 := F.called_set.sub
  refine wpAny_call (codeAny_of_tree (show wpAny _ _ (callAny (.type "set") _) _ _ _ from ?_))
  refine wpAny_pure (And.intro (Code.quiet_builtin _ (by decide +kernel)) (codeAny_builtin F.entry_type_call ?_))
  rw [Around.under_plain (weight_type_call_type "set" [.ref l] []) rfl]
  have z3 := F.called_set.notType
  have z4 := F.called_set.canCreate
  have z5 := F.typeCall_set_1 (.ref l)
  repeat any_goals first | assumption | wp_step
  refine codeAny_mono (code_set_led1 (.ref l) (E := E) (Q₁ := fun x t => x = .ref s.heap.objs.size ∧ t = { s with heap := s.heap.push (emS w) }) ⟨rfl, rfl⟩) fun r t ht => ?_
  cases r with
  | error e => exact ht
  | ok fl =>
    cases fl with
    | ret x =>
      obtain ⟨rfl, rfl⟩ := ht
      have y1 : (s.heap.push (emS w)).get? s.heap.objs.size = some (emS w) := Heap.get?_push_size _ rfl
      have y2 : Shared.TypeIs { s with heap := s.heap.push (emS w) } (.ref s.heap.objs.size) "set" := ⟨_, y1, rfl⟩
      have y3 := F.called_set.init.lookup
      have y4 := F.called_set.init.bind (.ref s.heap.objs.size)
      repeat any_goals first | assumption | wp_step
      refine codeAny_mono (codeAny_call_builtin (R := wants (FilledX2 P w s ks) E) F.called_set.init.plain F.entry_set_init (check_set_init_1 y2 ?_)) fun r2 t2 ht2 => ?_
      · obtain ⟨⟨oc, od, ot, os⟩, g1, g2, n1, g3⟩ := hl
        simp only at g2 g3
        subst g2
        subst g3
        have x1 : (s.heap.push (emS w)).get? l = some { cls := .type "list", dict := od, data := .seq xs n1, slots := os } := Heap.get?_push_of_some _ g1
        have x2 := F.sub_list_set
        have x3 := F.sub_list_frozenset
        have x4 : (Value.type "list" == Value.type "dict") = false := by decide
        have x5 : (s.heap.push (emS w)).IsList l xs := ⟨_, x1, rfl, n1, rfl⟩
        unfold Builtin.«set.__init__» noKeywords Builtin.Frozenset.updateFrom
        generalize hPI : pyIter = PI
        wp_walk
        subst hPI
        refine wpAny_pyIter_list x5 (wpAny_bind (wpAny_runValue ?_))
        have lt : l < s.heap.objs.size := Heap.lt_size g1
        have d3 : A.in1.in1.in1.handled = none := by simp [hd]
        have sz : (s.heap.push (emS w)).objs.size = s.heap.objs.size + 1 := Heap.size_push ..
        have ne1 : l ≠ (s.heap.push (emS w)).objs.size := by rw [sz]; exact Nat.ne_of_lt (Nat.lt_succ_of_lt lt)
        have ne2 : s.heap.objs.size ∉ [(s.heap.push (emS w)).objs.size, l] := by
          rw [sz]
          intro q
          rcases List.mem_cons.mp q with q | q
          · exact Nat.ne_of_lt (Nat.lt_succ_self _) q
          · exact Nat.ne_of_gt lt (List.mem_singleton.mp q)
        have gone : ∀ b, s.heap.objs.size ≤ b → s.heap.get? b = none := fun b le => by
          cases q : s.heap.get? b with
          | none => rfl
          | some o => exact absurd (Heap.lt_size q) (Nat.not_lt.mpr le)
        refine tset_loop (P := P) ((Walks.list d3 _ l ne1 xs).toS) s.heap.objs.size ne2 ks len nd few isS s.heap (gone _ (Nat.le_refl _)) (fun b hb => gone b (by
          rw [List.mem_singleton.mp hb, sz]
          exact Nat.le_succ _)) (xs.size - 0) 0 _ (by omega) (Nat.zero_le _) ⟨⟨_, Heap.get?_push_size _ rfl, rfl, rfl⟩, x5.push _⟩ (fun b o e => Heap.get?_push_of_some _ (Heap.get?_push_of_some _ e)) ?start ?rest
        case start => exact ⟨(#[], 0, .fresh 0 0 (!w.params.followText "set-order")), Heap.get?_push_of_some _ y1, PySem.Froz.TxOk.nil (by cases w.params.followText "set-order" <;> decide)⟩
        case rest =>
          intro t D km kS g old
          obtain ⟨hp, gg, dd, tk, oo⟩ := t
          have q1 : gg = s.gens := km.gens
          have q2 : dd = s.drawn := km.drawn
          have q3 : oo = s.os := km.os
          subst q1
          subst q2
          subst q3
          refine (show wpAny _ _ _ _ _ _ from wpAny_pure (show wpAny _ _ (ret Value.none) _ _ _ from ?_))
          exact wpAny_pure ⟨rfl, hp, tk, rfl, ⟨D, kS, g⟩, old⟩
      · cases r2 with
        | error e => exact ht2
        | ok fl2 =>
          cases fl2 with
          | ret r =>
            obtain ⟨rfl, hp, k, rfl, ⟨D, q1, q2⟩, q3⟩ := ht2
            repeat any_goals first | assumption | wp_step
            exact fin _ _ _ q1 q2 q3
          | _ => exact ht2.elim
    | _ => exact ht.elim
end
/-- the set of texts at a -/
def TS0 (P : Program) (w : World) (h : Heap) (a : Addr) (l : List Str) : Prop := ∃ D, h.get? a = some (sObj "set" D) ∧ TxOk P w D l
def TSO (P : Program) (w : World) (a : Addr) (l : List Str) : HO := .ext fun h => TS0 P w h a l
theorem tso_new {P : Program} {w : World} {H : Hp} {h : Heap} {a : Addr} {l : List Str} (B : TS0 P w h a l) : ObjOk P w H h a (TSO P w a l) := by
  have ⟨D, h1, h2⟩ := B
  refine ⟨B, ⟨_, h1⟩, fun g1 g2 p k => ?_⟩
  have ⟨D', e1, e2⟩ : TS0 P w g1 a l := p
  exact ⟨D', k _ e1, e2⟩
theorem vals_strs : ∀ {ks : List Str} {us : List Value}, Vals (ks.map V.str) us → us.length = ks.length ∧ ∀ (i : Nat) (v : Value), us[i]? = some v → ∃ k t, ks[i]? = some k ∧ v = .str k t
  | [], us, h => by
    cases h
    exact ⟨rfl, fun i v e => by simp at e⟩
  | k :: ks, us, h => by
    cases h with
    | cons r rs =>
      obtain ⟨t, rfl⟩ := r
      obtain ⟨h1, h2⟩ := vals_strs rs
      refine ⟨by simp [h1], fun i v e => ?_⟩
      cases i with
      | zero => exact ⟨k, t, rfl, by simpa using e.symm⟩
      | succ i => exact h2 i v (by simpa using e)
section
variable {X : Cx}
def rSetX2 (X : Cx) : List V → Hp → VK → Prop := fun xs H Q => ∃ (l : Addr) (ks : List Str), xs = [V.ref l] ∧ SqL X.K H l (ks.map V.str) ∧ ks.Nodup ∧ ks.length < 300 ∧ ∀ a, H a = none → Q (.ref a) (upd H a (TSO X.prog X.w a ks.reverse))
theorem cr_setX2 (hc : X.calm = true) : CallR X (.type "set") (rSetX2 X) := by
  intro pins s σ H xs us Q I r h
  obtain ⟨l, ks, rfl, hl, nd, few, q⟩ := h
  rw [Vals.ref1 r]
  obtain ⟨its, rv, pl, hz⟩ := I.list hl
  obtain ⟨h1, h2⟩ := vals_strs rv
  refine set_ofTxt (P := X.prog) (w := X.w) (ks := ks) (I.ok.hd hc) pl.isList (by simpa using h1) (fun i v e => h2 i v (by simpa using e)) nd few fun hp k D e1 e2 old => ?_
  exact ⟨.ref s.heap.objs.size, _, I.laid (t' := k) old (Nat.le_refl _) (tso_new ⟨D, e1, e2⟩), rfl, q _ (I.hok.fresh (Nat.le_refl _))⟩
def rLenX2 (X : Cx) : List V → Hp → VK → Prop := fun vs H Q => ∃ (a : Addr) (l : List Str), vs = [V.ref a] ∧ H a = some (TSO X.prog X.w a l) ∧ l.length < 300 ∧ Q (.int (l.length : Int)) H
theorem cr_lenX2 : CallR X (.builtin "len") (rLenX2 X) := by
  intro pins s σ H xs us Q I r h
  obtain ⟨a, l, rfl, ha, few, q⟩ := h
  rw [Vals.ref1 r]
  have B : TS0 X.prog X.w s.heap a l := (I.hok a _ ha).1
  obtain ⟨D, h1, T⟩ := B
  refine call_len_set h1 ⟨rfl, rfl, rfl⟩ rfl T.fit (by rw [T.sz]; omega) ⟨.int (l.length : Int), H, I.tok _, ⟨_, by rw [T.sz]⟩, q⟩
end
def lenSetT : PyData → Res PyData
  | .list ds => match strsD ds with
    | some ks => if ks.Nodup ∧ ks.length < 300 then .ok (.int (ks.length : Int)) else .stuck
    | none => .stuck
  | _ => .stuck
section
variable {X : Cx} {E : XK} {ρ : List Sl} {e : Expr} {r : Res PyData} {pos p p2 q : Pos}
theorem ge_lensetT (hc : X.calm = true) (hg : Gl X "len") (hm : X.mg "len" = none) (hg2 : Gl X "set") (hm2 : X.mg "set" = none) (h : GW X E e ρ r)
    (he : starEach [e] X.env = (false, eval e X.env) :: starEach [] X.env := by rfl)
    (he1 : starEach [.Call (.Name "set" p2) [e] [] q] X.env = (false, eval (.Call (.Name "set" p2) [e] [] q) X.env) :: starEach [] X.env := by rfl)
    (hpl : (backTo q (starEach [] X.env)).any (·.1) = false := by rfl) (hpl1 : (backTo pos (starEach [] X.env)).any (·.1) = false := by rfl) :
    GE X E (.Call (.Name "len" p) [.Call (.Name "set" p2) [e] [] q] [] pos) ρ (r >>= lenSetT) := by
  obtain ⟨t, pe, hh⟩ := h.ex
  refine .mk ⟨_, pe_callB cr_lenX2 hg hm bt_len (pa_cons (pe_callTy (cr_setX2 hc) hg2 hm2 bt_set (pa_cons pe pa_nil he) (by decide) (by decide) he hpl) pa_nil he1) (by decide) (by decide) he1 hpl1, fun A σ H Q ev q => ?_⟩
  refine hh A σ H _ ev (q.bind.mono fun d qd v H1 s1 rv => ?_)
  unfold lenSetT at qd
  split at qd
  · rename_i ds
    split at qd
    · rename_i ks hk
      split at qd
      · rename_i hz
        obtain ⟨nd, few⟩ := hz
        obtain ⟨pl, vs, rfl, hl, rs⟩ := rv.lst
        rw [strsD_back hk] at rs
        rw [reps_str rs] at hl
        refine ⟨pl, ks, rfl, .of hl, nd, few, fun a na => ?_⟩
        have sn := same_new (o := TSO X.prog X.w a ks.reverse) na
        refine ⟨a, _, rfl, upd_same, by rw [List.length_reverse]; exact few, ?_⟩
        rw [List.length_reverse]
        exact qd _ _ (s1.trans sn) (.int _)
      · exact qd.elim
    · exact qd.elim
  · exact qd.elim
end
end Dt
namespace Dt
open PySem PySem.Spec PyProof.Rows L2
@[simp] theorem b2_ok (g : PyData → PyData → Res PyData) (a b : PyData) : b2 g (.ok a) (.ok b) = g a b := rfl
@[simp] theorem allR_nil : allR [] = .ok [] := rfl
@[simp] theorem allR_ok (d : PyData) (rs : List (Res PyData)) : allR (.ok d :: rs) = (allR rs >>= fun ds => .ok (d :: ds)) := rfl
@[simp] theorem asL_ok (ds : List PyData) : asL (.ok ds) = .ok (.list ds) := rfl
@[simp] theorem retR_ok {α : Type} (d : PyData) : (retR (.ok d) : Res (Out α)) = .ok (.rt d) := rfl
@[simp] theorem boolD_bool (b : Bool) : boolD (.bool b) = .ok b := rfl
@[simp] theorem truD_bool (b : Bool) : truD (.bool b) = .ok b := rfl
@[simp] theorem forD_nil {α : Type} (a : α) (f : PyData → α → Res (Out α)) : forD [] a f = .ok (.nx a) := rfl
theorem forD_cons {α : Type} (d : PyData) (ds : List PyData) (a : α) (f : PyData → α → Res (Out α)) : forD (d :: ds) a f = seqR (f d a) fun a' => forD ds a' f := rfl
@[simp] theorem nt_ok (b : Bool) : nt (.ok b) = .ok (!b) := rfl
@[simp] theorem orR_t (u : Res Bool) : orR (.ok true) u = .ok true := rfl
@[simp] theorem orR_f (u : Res Bool) : orR (.ok false) u = u := rfl
@[simp] theorem andR_t (u : Res Bool) : andR (.ok true) u = u := rfl
@[simp] theorem andR_f (u : Res Bool) : andR (.ok false) u = .ok false := rfl
theorem andV_bool (b : Bool) (u : Res PyData) : andV (.ok (.bool b)) u = if b = true then u else .ok (.bool false) := rfl
@[simp] theorem andV_t (u : Res PyData) : andV (.ok (.bool true)) u = u := rfl
@[simp] theorem andV_f (u : Res PyData) : andV (.ok (.bool false)) u = .ok (.bool false) := rfl
@[simp] theorem orV_t (u : Res PyData) : orV (.ok (.bool true)) u = .ok (.bool true) := rfl
@[simp] theorem orV_f (u : Res PyData) : orV (.ok (.bool false)) u = u := rfl
@[simp] theorem notV_bool (b : Bool) : notV (.ok (.bool b)) = .ok (.bool (!b)) := rfl
@[simp] theorem ite3_t (a b : Res PyData) : ite3 (.ok true) a b = a := rfl
@[simp] theorem ite3_f (a b : Res PyData) : ite3 (.ok false) a b = b := rfl
theorem addI (i j : Int) : addD (.int i) (.int j) = .ok (.int (i + j)) := rfl
theorem subI (i j : Int) : subD (.int i) (.int j) = .ok (.int (i - j)) := rfl
theorem mul_small {i j : Int} (h : -(2 ^ 64) < i ∧ i < 2 ^ 64 ∨ -(2 ^ 64) < j ∧ j < 2 ^ 64) : mulD (.int i) (.int j) = .ok (.int (i * j)) := by
  show (if (smallI i || smallI j) = true then Res.ok (PyData.int (i * j)) else .stuck) = _
  rw [if_pos]
  unfold smallI
  simp only [Bool.or_eq_true, Bool.and_eq_true, decide_eq_true_eq]
  exact h
theorem mod_pos {i j : Int} (h : 0 < j) : modD (.int i) (.int j) = .ok (.int (i % j)) := by
  show (if 0 < j then Res.ok (PyData.int (i % j)) else .stuck) = _
  rw [if_pos h]
theorem fdiv_pos {i j : Int} (h : 0 < j) (h' : j < 1073741824) : fdivD (.int i) (.int j) = .ok (.int (i / j)) := by
  show (if 0 < j ∧ j < 1073741824 then Res.ok (PyData.int (i / j)) else .stuck) = _
  rw [if_pos ⟨h, h'⟩]
theorem leI (i j : Int) : leD (.int i) (.int j) = .ok (.bool (decide (i ≤ j))) := rfl
theorem gtI (i j : Int) : gtD (.int i) (.int j) = .ok (.bool (decide (j < i))) := rfl
theorem geI (i j : Int) : geD (.int i) (.int j) = .ok (.bool (decide (j ≤ i))) := rfl
theorem shp_int (i : Int) : shp (.int i) = true := rfl
theorem shp_bool (i : Bool) : shp (.bool i) = true := rfl
theorem eqI (i j : Int) : eqD (.int i) (.int j) = .ok (.bool (decide (i = j))) := by
  unfold eqD
  rw [shp_int, shp_int, if_pos (by rfl)]
  rfl
theorem neI (i j : Int) : neD (.int i) (.int j) = .ok (.bool (!decide (i = j))) := by
  unfold neD
  rw [shp_int, shp_int, if_pos (by rfl)]
  rfl
@[simp] theorem eqB (i j : Bool) : eqD (.bool i) (.bool j) = .ok (.bool (decide (i = j))) := by
  unfold eqD
  rw [shp_bool, shp_bool, if_pos (by rfl)]
  cases i <;> cases j <;> rfl
@[simp] theorem neB (i j : Bool) : neD (.bool i) (.bool j) = .ok (.bool (!decide (i = j))) := by
  unfold neD
  rw [shp_bool, shp_bool, if_pos (by rfl)]
  cases i <;> cases j <;> rfl
theorem lstD_ok {ds : List PyData} (h : ds.length ≤ sizeLine) : lstD ds = .ok ds := if_pos h
theorem tupD_ok {ds : List PyData} (h : ds.length ≤ sizeLine) : Dt.tupD ds = .ok (.tuple ds) := if_pos h
theorem appR_ok {ds : List PyData} {d : PyData} (h : ds.length < sizeLine) : appR ds d = .ok (ds ++ [d]) := if_pos h
theorem forD_inv {α : Type} {f : PyData → α → Res (Out α)} (I : Nat → α → Prop) : ∀ (ds : List PyData) (k : Nat) (a : α), I k a → (∀ (i : Nat) (d : PyData) (a : α), ds[i]? = some d → I (k + i) a → ∃ a', f d a = .ok (.nx a') ∧ I (k + i + 1) a') →
    ∃ a', forD ds a f = .ok (.nx a') ∧ I (k + ds.length) a'
  | [], k, a, h, _ => ⟨a, rfl, h⟩
  | d :: ds, k, a, h, s => by
    obtain ⟨a1, e1, h1⟩ := s 0 d a rfl h
    obtain ⟨a2, e2, h2⟩ := forD_inv I ds (k + 1) a1 h1 fun i d' a' e q => by
      have := s (i + 1) d' a' (by simpa using e) (by rw [show k + (i + 1) = k + 1 + i by omega]; exact q)
      rw [show k + (i + 1) + 1 = k + 1 + i + 1 by omega] at this
      exact this
    refine ⟨a2, by rw [forD_cons, e1, seqR_nx, e2], ?_⟩
    rw [List.length_cons, show k + (ds.length + 1) = k + 1 + ds.length by omega]
    exact h2
/-- over range(lo, lo + n) -/
theorem forD_range {α : Type} {f : PyData → α → Res (Out α)} (I : Int → α → Prop) (lo : Int) (n : Nat) (a : α) (h : I lo a) (s : ∀ (i : Int) (a : α), lo ≤ i → i < lo + n → I i a → ∃ a', f (.int i) a = .ok (.nx a') ∧ I (i + 1) a') :
    ∃ a', forD (rangeL lo n) a f = .ok (.nx a') ∧ I (lo + n) a' := by
  have hl : (rangeL lo n).length = n := by unfold rangeL; simp
  obtain ⟨a', e, h'⟩ := forD_inv (f := f) (fun k a => I (lo + (k : Nat)) a) (rangeL lo n) 0 a (by simpa using h) fun i d a e q => by
    have hi : i < n := by
      have := (List.getElem?_eq_some_iff.mp e).1
      omega
    have ed : d = .int (lo + (i : Nat)) := by
      unfold rangeL at e
      rw [List.getElem?_map, List.getElem?_range hi] at e
      exact (Option.some.inj e).symm
    subst ed
    rw [Nat.zero_add] at q
    obtain ⟨a', e1, e2⟩ := s (lo + (i : Nat)) a (by omega) (by omega) q
    refine ⟨a', e1, ?_⟩
    have : (lo + ((0 + i + 1 : Nat) : Int)) = lo + (i : Nat) + 1 := by omega
    rw [this]
    exact e2
  rw [Nat.zero_add, hl] at h'
  exact ⟨a', e, h'⟩
/-- all turns hand on, and nothing is kept -/
theorem forD_unit {f : PyData → Unit → Res (Out Unit)} : ∀ (ds : List PyData), (∀ d ∈ ds, f d () = .ok (.nx ())) → forD ds () f = .ok (.nx ())
  | [], _ => rfl
  | d :: ds, h => by
    rw [forD_cons, h d List.mem_cons_self, seqR_nx]
    exact forD_unit ds fun e he => h e (List.mem_cons_of_mem _ he)
theorem compF_all {g : PyData → Res (Option PyData)} {h : PyData → Option PyData} : ∀ (ds : List PyData), (∀ d ∈ ds, g d = .ok (h d)) → compF ds g = .ok (ds.filterMap h)
  | [], _ => rfl
  | d :: ds, e => by
    have e1 := e d List.mem_cons_self
    have e2 := compF_all ds fun z hz => e z (List.mem_cons_of_mem _ hz)
    show (hard (g d) >>= fun o => compF ds g >>= fun ys => Res.ok (match o with | some y => y :: ys | none => ys)) = _
    rw [e1, e2]
    show Res.ok _ = Res.ok _
    rw [List.filterMap_cons]
    cases h d <;> rfl
theorem compD_all {g : PyData → Res (Option PyData)} {h : PyData → Option PyData} {ds : List PyData} (hl : ds.length ≤ sizeLine) (e : ∀ d ∈ ds, g d = .ok (h d)) : compD ds g = .ok (ds.filterMap h) := by
  unfold compD
  rw [if_pos hl]
  exact compF_all ds e
@[simp] theorem cel_t (d : PyData) : cel (.ok true) (.ok d) = .ok (some d) := rfl
@[simp] theorem cel_f (r : Res PyData) : cel (.ok false) r = .ok none := rfl
end Dt
namespace Dt
open PySem PySem.Spec PyProof.Rows L2
def gd (n : Nat) : Nat → PyData → Bool
  | _, .none => true
  | _, .bool _ => true
  | _, .int _ => true
  | _, .str x => PyData.canLay0 (.str x)
  | 0, _ => false
  | k + 1, .list xs => decide (xs.length ≤ n) && xs.all (gd n k)
  | k + 1, .tuple xs => decide (xs.length ≤ n) && xs.all (gd n k)
  | _ + 1, .dict _ => false
theorem lay_of_all : ∀ {xs : List PyData}, (∀ x ∈ xs, PyData.canLay0 x = true) → PyData.canLayAll0 xs = true
  | [], _ => by simp [PyData.canLayAll0]
  | x :: xs, h => by simp [PyData.canLayAll0, h x List.mem_cons_self, lay_of_all fun y hy => h y (List.mem_cons_of_mem _ hy)]
theorem depth_of_all {k : Nat} : ∀ {xs : List PyData}, (∀ x ∈ xs, PyData.depth x ≤ k) → PyData.depthAll xs ≤ k
  | [], _ => by simp [PyData.depthAll]
  | x :: xs, h => by
    have h1 := h x List.mem_cons_self
    have h2 := depth_of_all fun y hy => h y (List.mem_cons_of_mem _ hy)
    simp only [PyData.depthAll]
    omega
theorem gd_all {n k : Nat} {xs : List PyData} : (decide (xs.length ≤ n) && xs.all (gd n k)) = true ↔ xs.length ≤ n ∧ ∀ x ∈ xs, gd n k x = true := by
  rw [Bool.and_eq_true, decide_eq_true_eq, List.all_eq_true]
theorem gd_tup {n k : Nat} {xs : List PyData} : gd n (k + 1) (.tuple xs) = true ↔ xs.length ≤ n ∧ ∀ x ∈ xs, gd n k x = true := gd_all
theorem gd_lst {n k : Nat} {xs : List PyData} : gd n (k + 1) (.list xs) = true ↔ xs.length ≤ n ∧ ∀ x ∈ xs, gd n k x = true := gd_all
theorem gd_ok {n : Nat} : ∀ {k : Nat} {d : PyData}, gd n k d = true → d.canLay0 = true ∧ d.depth ≤ k
  | k, .none, _ => ⟨rfl, Nat.zero_le _⟩
  | k, .bool _, _ => ⟨rfl, Nat.zero_le _⟩
  | k, .int _, _ => ⟨rfl, Nat.zero_le _⟩
  | 0, .str x, h => ⟨h, Nat.zero_le _⟩
  | k + 1, .str x, h => ⟨h, Nat.zero_le _⟩
  | 0, .list xs, h => by cases h
  | 0, .tuple xs, h => by cases h
  | 0, .dict xs, h => by cases h
  | k + 1, .dict xs, h => by cases h
  | k + 1, .list xs, h => by
    obtain ⟨h1, h2⟩ := gd_lst.mp h
    refine ⟨by simp only [PyData.canLay0]; exact lay_of_all fun x hx => (gd_ok (h2 x hx)).1, ?_⟩
    have := depth_of_all fun x hx => (gd_ok (h2 x hx)).2
    simp only [PyData.depth]
    omega
  | k + 1, .tuple xs, h => by
    obtain ⟨h1, h2⟩ := gd_tup.mp h
    refine ⟨by simp only [PyData.canLay0]; exact lay_of_all fun x hx => (gd_ok (h2 x hx)).1, ?_⟩
    have := depth_of_all fun x hx => (gd_ok (h2 x hx)).2
    simp only [PyData.depth]
    omega
theorem gd_shp {n k : Nat} {d : PyData} (h : gd n k d = true) (hk : k ≤ 64) : shp d = true := by
  obtain ⟨h1, h2⟩ := gd_ok h
  unfold shp SeqAt.shaped
  rw [h1, Bool.true_and]
  exact decide_eq_true (Nat.le_trans h2 hk)
theorem gd_mono {n m : Nat} (hn : n ≤ m) : ∀ {k j : Nat} {d : PyData}, k ≤ j → gd n k d = true → gd m j d = true
  | _, 0, .none, _, _ => rfl
  | _, _ + 1, .none, _, _ => rfl
  | _, 0, .bool _, _, _ => rfl
  | _, _ + 1, .bool _, _, _ => rfl
  | _, 0, .int _, _, _ => rfl
  | _, _ + 1, .int _, _, _ => rfl
  | 0, 0, .str _, _, h => h
  | 0, _ + 1, .str _, _, h => h
  | _ + 1, 0, .str _, _, h => h
  | _ + 1, _ + 1, .str _, _, h => h
  | 0, _, .list xs, _, h => by cases h
  | 0, _, .tuple xs, _, h => by cases h
  | 0, _, .dict xs, _, h => by cases h
  | _ + 1, _, .dict xs, _, h => by cases h
  | k + 1, 0, _, e, _ => by omega
  | k + 1, j + 1, .list xs, e, h => by
    obtain ⟨h1, h2⟩ := gd_lst.mp h
    exact gd_lst.mpr ⟨by omega, fun x hx => gd_mono hn (by omega) (h2 x hx)⟩
  | k + 1, j + 1, .tuple xs, e, h => by
    obtain ⟨h1, h2⟩ := gd_tup.mp h
    exact gd_tup.mpr ⟨by omega, fun x hx => gd_mono hn (by omega) (h2 x hx)⟩
def isTup : PyData → Bool
  | .tuple _ => true
  | _ => false
def isInt : PyData → Bool
  | .int _ => true
  | .bool _ => true
  | _ => false
def isBool : PyData → Bool
  | .bool _ => true
  | _ => false
def isStr : PyData → Bool
  | .str _ => true
  | _ => false
def notDic : PyData → Bool
  | .dict _ => false
  | _ => true
theorem gd_notDic {n k : Nat} {d : PyData} (h : gd n k d = true) : notDic d = true := by
  cases d with
  | dict _ => cases k <;> cases h
  | _ => rfl
theorem isi_tuple {d : PyData} (h : notDic d = true) : isiD "tuple" d = .ok (.bool (isTup d)) := by
  cases d <;> first | rfl | (cases h)
theorem isi_int {d : PyData} (h : notDic d = true) : isiD "int" d = .ok (.bool (isInt d)) := by
  cases d <;> first | rfl | (cases h)
theorem isi_bool {d : PyData} (h : notDic d = true) : isiD "bool" d = .ok (.bool (isBool d)) := by
  cases d <;> first | rfl | (cases h)
theorem isi_str {d : PyData} (h : notDic d = true) : isiD "str" d = .ok (.bool (isStr d)) := by
  cases d <;> first | rfl | (cases h)
def numOk (lo hi : Int) : PyData → Bool
  | .int i => decide (lo ≤ i) && decide (i ≤ hi)
  | _ => false
theorem num_eval {d : PyData} (h : notDic d = true) (lo hi : Int) : andV ((.ok d) >>= isiD "int") (andV (notV ((.ok d) >>= isiD "bool")) (chainV (.ok (.int lo)) (.ok d) (.ok (.int hi)) leD leD)) = .ok (.bool (numOk lo hi d)) := by
  rw [ok_bind, ok_bind, isi_int h, isi_bool h]
  cases d with
  | int i =>
    show (Res.ok (PyData.bool (decide (lo ≤ i))) >>= fun z => boolD z >>= fun k => if k = true then Res.ok (PyData.bool (decide (i ≤ hi))) else .ok (.bool false)) = .ok (.bool (decide (lo ≤ i) && decide (i ≤ hi)))
    rw [ok_bind, boolD_bool, ok_bind]
    cases decide (lo ≤ i) <;> rfl
  | _ => rfl
def pairOk (x : List Int) : Prop := ∃ a b, x = [a, b] ∧ (0 ≤ a ∧ a < 4096) ∧ 0 ≤ b ∧ b < 4096
theorem code2 (a b : Int) : _root_.TS.code 4096 [a, b] = a * 4096 + b := by
  show a * 4096 ^ 1 + (b * 4096 ^ 0 + 0) = _
  have e1 : (4096 : Int) ^ 1 = 4096 := by decide
  have e0 : (4096 : Int) ^ 0 = 1 := by decide
  rw [e1, e0]
  omega
theorem lex_code {x y : List Int} (hx : pairOk x) (hy : pairOk y) : HT.lexLt x y = decide (_root_.TS.code 4096 x < _root_.TS.code 4096 y) := by
  obtain ⟨a, b, rfl, h1, h2⟩ := hx
  obtain ⟨c, d, rfl, h3, h4⟩ := hy
  rw [code2, code2, HT.lexLt_cons, HT.lexLt_cons, HT.lexLt_nil_nil]
  by_cases e : a = c
  · rw [if_pos e]
    subst e
    by_cases e2 : b = d
    · rw [if_pos e2]; exact (decide_eq_false (by omega)).symm
    · rw [if_neg e2]; exact decide_eq_decide.mpr (by omega)
  · rw [if_neg e]; exact decide_eq_decide.mpr (by omega)
/-- each is less than the next -/
def incr : List (List Int) → Bool
  | x :: y :: r => HT.lexLt x y && incr (y :: r)
  | _ => true
theorem incr_pw : ∀ {l : List (List Int)}, (∀ x ∈ l, pairOk x) → (incr l = true ↔ l.Pairwise fun x y => _root_.TS.code 4096 x < _root_.TS.code 4096 y)
  | [], _ => by simp [incr]
  | [x], _ => by simp [incr]
  | x :: y :: r, h => by
    have ih := incr_pw (l := y :: r) fun z hz => h z (List.mem_cons_of_mem _ hz)
    show (HT.lexLt x y && incr (y :: r)) = true ↔ _
    rw [Bool.and_eq_true, ih, lex_code (h x List.mem_cons_self) (h y (List.mem_cons_of_mem _ List.mem_cons_self)), decide_eq_true_eq, List.pairwise_cons (a := x) (l := y :: r)]
    constructor
    · rintro ⟨h1, h2⟩
      refine ⟨fun z hz => ?_, h2⟩
      rcases List.mem_cons.mp hz with e | e
      · rw [e]; exact h1
      · exact Int.lt_trans h1 ((List.pairwise_cons.mp h2).1 z e)
    · rintro ⟨h1, h2⟩
      exact ⟨h1 y List.mem_cons_self, h2⟩
theorem eqv_int (i j : Int) : PyData.eqv (.int i) (.int j) = decide (i = j) := rfl
theorem eqvAll_ints : ∀ (x y : List Int), PyData.eqvAll (x.map PyData.int) (y.map PyData.int) = decide (x = y)
  | [], [] => rfl
  | [], _ :: _ => rfl
  | _ :: _, [] => rfl
  | a :: x, b :: y => by
    show (PyData.eqv (.int a) (.int b) && PyData.eqvAll (x.map PyData.int) (y.map PyData.int)) = _
    rw [eqvAll_ints x y, eqv_int, ← Bool.decide_and]
    exact decide_eq_decide.mpr (by rw [List.cons.injEq])
end Dt
namespace Dt
open PySem PySem.Spec PyProof.Rows L2
theorem big60 : 60 ≤ sizeLine := by rw [sizeLine_eq]; decide
theorem compD_map {g : PyData → Res (Option PyData)} {f : PyData → PyData} {ds : List PyData} (hl : ds.length ≤ sizeLine) (e : ∀ d ∈ ds, g d = .ok (some (f d))) : compD ds g = .ok (ds.map f) := by
  rw [compD_all (h := fun d => some (f d)) hl e]
  congr 1
  induction ds with
  | nil => rfl
  | cons d ds ih => simp
theorem comR_map {g : PyData → Res (Option PyData)} {f : PyData → PyData} {ds : List PyData} (hl : ds.length ≤ sizeLine) (e : ∀ d ∈ ds, g d = .ok (some (f d))) : comR (.ok ds) g = .ok (ds.map f) := compD_map hl e
theorem bools_map {p : PyData → Bool} : ∀ (xs : List PyData), boolsOf (xs.map fun d => .bool (p d)) = some (xs.map p)
  | [] => rfl
  | x :: xs => by
    show (boolsOf (xs.map fun d => .bool (p d))).map (p x :: ·) = _
    rw [bools_map xs]
    rfl
theorem all_map (p : PyData → Bool) (xs : List PyData) : (allR [asL (.ok (xs.map fun d => .bool (p d)))] >>= allC) = .ok (.bool (xs.all p)) := by
  show allC [.list (xs.map fun d => .bool (p d))] = _
  unfold allC
  dsimp only
  rw [bools_map]
  dsimp only
  congr 2
  rw [List.all_map]
  rfl
theorem any_map (p : PyData → Bool) (xs : List PyData) : (allR [asL (.ok (xs.map fun d => .bool (p d)))] >>= anyC) = .ok (.bool (xs.any p)) := by
  show anyC [.list (xs.map fun d => .bool (p d))] = _
  unfold anyC
  dsimp only
  rw [bools_map]
  dsimp only
  congr 2
  rw [List.any_map]
  rfl
theorem cut_from (xs : List PyData) (k : Nat) (j : Int) (e : j = (k : Nat)) : cutD xs (some j) none = xs.drop k := by
  subst e
  unfold cutD
  rw [HT.sIx_nat, HT.sIx_none]
  by_cases h : k ≤ xs.length
  · rw [Nat.min_eq_left h]
    exact List.take_of_length_le (by rw [List.length_drop]; omega)
  · rw [Nat.min_eq_right (by omega), List.drop_length, List.take_nil, List.drop_eq_nil_of_le (by omega)]
theorem cut_to (xs : List PyData) (k : Nat) (j : Int) (e : j = (k : Nat)) : cutD xs none (some j) = xs.take k := by
  subst e
  unfold cutD
  rw [HT.sIx_nat, HT.sIx_none, List.drop_zero, Nat.sub_zero]
  by_cases h : k ≤ xs.length
  · rw [Nat.min_eq_left h]
  · rw [Nat.min_eq_right (by omega), List.take_length, List.take_of_length_le (by omega)]
@[simp] theorem part_int (i : Int) : ((Res.ok (PyData.int i)) >>= partD) = .ok (some i) := rfl
theorem sl_from (xs : List PyData) (k : Nat) (j : Int) (e : j = (k : Nat)) : sl3 (.ok (.tuple xs)) ((.ok (.int j)) >>= partD) (.ok none) = .ok (.tuple (xs.drop k)) := by
  show Res.ok (PyData.tuple (cutD xs (some j) none)) = _
  rw [cut_from xs k j e]
theorem slL_to (xs : List PyData) (k : Nat) (j : Int) (e : j = (k : Nat)) : sl3 (.ok (.list xs)) (.ok none) ((.ok (.int j)) >>= partD) = .ok (.list (xs.take k)) := by
  show Res.ok (PyData.list (cutD xs none (some j))) = _
  rw [cut_to xs k j e]
theorem mem_zip {d : PyData} : ∀ {xs ys : List PyData}, d ∈ zipL xs ys → ∃ x y, d = .tuple [x, y] ∧ x ∈ xs ∧ y ∈ ys
  | [], _, h => by cases h
  | _ :: _, [], h => by cases h
  | x :: xs, y :: ys, h => by
    rcases List.mem_cons.mp h with e | e
    · exact ⟨x, y, e, List.mem_cons_self, List.mem_cons_self⟩
    · obtain ⟨a, b, e1, e2, e3⟩ := mem_zip (xs := xs) (ys := ys) e
      exact ⟨a, b, e1, List.mem_cons_of_mem _ e2, List.mem_cons_of_mem _ e3⟩
theorem zip_len (xs ys : List PyData) : (zipL xs ys).length ≤ xs.length := by
  unfold zipL
  rw [List.length_zipWith]
  omega
@[simp] theorem tD0 : Dt.tupD [] = .ok (.tuple []) := tupD_ok (Nat.le_trans (show 0 ≤ 60 by decide) big60)
@[simp] theorem lD0 : lstD [] = .ok [] := lstD_ok (Nat.le_trans (show 0 ≤ 60 by decide) big60)
@[simp] theorem tD1 (a : PyData) : Dt.tupD [a] = .ok (.tuple [a]) := tupD_ok (Nat.le_trans (show 1 ≤ 60 by decide) big60)
@[simp] theorem lD1 (a : PyData) : lstD [a] = .ok [a] := lstD_ok (Nat.le_trans (show 1 ≤ 60 by decide) big60)
@[simp] theorem tD2 (a b : PyData) : Dt.tupD [a, b] = .ok (.tuple [a, b]) := tupD_ok (Nat.le_trans (show 2 ≤ 60 by decide) big60)
@[simp] theorem lD2 (a b : PyData) : lstD [a, b] = .ok [a, b] := lstD_ok (Nat.le_trans (show 2 ≤ 60 by decide) big60)
@[simp] theorem tD3 (a b c : PyData) : Dt.tupD [a, b, c] = .ok (.tuple [a, b, c]) := tupD_ok (Nat.le_trans (show 3 ≤ 60 by decide) big60)
@[simp] theorem lD3 (a b c : PyData) : lstD [a, b, c] = .ok [a, b, c] := lstD_ok (Nat.le_trans (show 3 ≤ 60 by decide) big60)
@[simp] theorem tD4 (a b c d : PyData) : Dt.tupD [a, b, c, d] = .ok (.tuple [a, b, c, d]) := tupD_ok (Nat.le_trans (show 4 ≤ 60 by decide) big60)
@[simp] theorem lD4 (a b c d : PyData) : lstD [a, b, c, d] = .ok [a, b, c, d] := lstD_ok (Nat.le_trans (show 4 ≤ 60 by decide) big60)
@[simp] theorem tD5 (a b c d e : PyData) : Dt.tupD [a, b, c, d, e] = .ok (.tuple [a, b, c, d, e]) := tupD_ok (Nat.le_trans (show 5 ≤ 60 by decide) big60)
@[simp] theorem lD5 (a b c d e : PyData) : lstD [a, b, c, d, e] = .ok [a, b, c, d, e] := lstD_ok (Nat.le_trans (show 5 ≤ 60 by decide) big60)
@[simp] theorem tD6 (a b c d e f : PyData) : Dt.tupD [a, b, c, d, e, f] = .ok (.tuple [a, b, c, d, e, f]) := tupD_ok (Nat.le_trans (show 6 ≤ 60 by decide) big60)
@[simp] theorem lD6 (a b c d e f : PyData) : lstD [a, b, c, d, e, f] = .ok [a, b, c, d, e, f] := lstD_ok (Nat.le_trans (show 6 ≤ 60 by decide) big60)
end Dt
namespace Lw
open PySem PySem.Spec PyProof.Rows L2 Dt
def m_is_number (thing_1 low_2 high_3 : PyData) : Res (Out Empty) :=
  (retR (andV ((.ok thing_1) >>= isiD "int") (andV (notV ((.ok thing_1) >>= isiD "bool")) (chainV (.ok low_2) (.ok thing_1) (.ok high_3) leD leD))))
def g_is_number : List PyData → Res (Out Empty)
  | [thing_1, low_2, high_3] => m_is_number thing_1 low_2 high_3
  | _ => .stuck
def F_is_number (ds : List PyData) : Res PyData := finR (g_is_number ds)
theorem F_is_number_eq (thing_1 low_2 high_3 : PyData) : F_is_number [thing_1, low_2, high_3] = finR (m_is_number thing_1 low_2 high_3) := rfl
def m_is_way (places_1 thing_2 : PyData) : Res (Out Empty) :=
  ((orR (nt (((.ok thing_2) >>= isiD "tuple") >>= truD)) (orR (b2 neD ((allR [(.ok thing_2)]) >>= lenC) (.ok (.int 3)) >>= boolD) (nt (((allR [(b2 idxD (.ok thing_2) (.ok (.int 0))), (.ok (.int 0)), (b2 subD (.ok places_1) (.ok (.int 1)))]) >>= F_is_number) >>= truD)))) >>= fun z => if z = true then onlyR (retR (.ok (.bool false))) else (retR (andV ((allR [(b2 idxD (.ok thing_2) (.ok (.int 1))), (b2 addD (b2 idxD (.ok thing_2) (.ok (.int 0))) (.ok (.int 1))), (b2 subD (.ok places_1) (.ok (.int 1)))]) >>= F_is_number) ((allR [(b2 idxD (.ok thing_2) (.ok (.int 2))), (.ok (.int 1)), (.ok (.int 4))]) >>= F_is_number))))
def g_is_way : List PyData → Res (Out Empty)
  | [places_1, thing_2] => m_is_way places_1 thing_2
  | _ => .stuck
def F_is_way (ds : List PyData) : Res PyData := finR (g_is_way ds)
theorem F_is_way_eq (places_1 thing_2 : PyData) : F_is_way [places_1, thing_2] = finR (m_is_way places_1 thing_2) := rfl
def m_is_town (thing_1 : PyData) : Res (Out Empty) :=
  ((orR (nt (((.ok thing_1) >>= isiD "tuple") >>= truD)) (orR (b2 neD ((allR [(.ok thing_1)]) >>= lenC) (.ok (.int 2)) >>= boolD) (nt (((allR [(b2 idxD (.ok thing_1) (.ok (.int 0))), (.ok (.int 1)), (.ok (.int 5))]) >>= F_is_number) >>= truD)))) >>= fun z => if z = true then onlyR (retR (.ok (.bool false))) else ((orR (nt (((b2 idxD (.ok thing_1) (.ok (.int 1))) >>= isiD "tuple") >>= truD)) (nt (((allR [(asL (comR ((b2 idxD (.ok thing_1) (.ok (.int 1))) >>= seqOf) (fun d_2 => cel (.ok true) ((allR [(b2 idxD (.ok thing_1) (.ok (.int 0))), (.ok d_2)]) >>= F_is_way))))]) >>= allC) >>= truD))) >>= fun z => if z = true then onlyR (retR (.ok (.bool false))) else (retR ((allR [(asL (comR ((allR [(b2 idxD (.ok thing_1) (.ok (.int 1))), (sl3 (b2 idxD (.ok thing_1) (.ok (.int 1))) ((.ok (.int 1)) >>= partD) (.ok none))]) >>= zip2) (fun d_4 => unp2 d_4 fun one_5 other_6 => cel (.ok true) (b2 ltD (sl3 (.ok one_5) (.ok none) ((.ok (.int 2)) >>= partD)) (sl3 (.ok other_6) (.ok none) ((.ok (.int 2)) >>= partD))))))]) >>= allC))))
def g_is_town : List PyData → Res (Out Empty)
  | [thing_1] => m_is_town thing_1
  | _ => .stuck
def F_is_town (ds : List PyData) : Res PyData := finR (g_is_town ds)
theorem F_is_town_eq (thing_1 : PyData) : F_is_town [thing_1] = finR (m_is_town thing_1) := rfl
def m_fits (places_1 persons_2 last_3 thing_4 : PyData) : Res (Out Empty) :=
  ((orR (nt (((.ok thing_4) >>= isiD "tuple") >>= truD)) (orR (b2 neD ((allR [(.ok thing_4)]) >>= lenC) (.ok (.int 5)) >>= boolD) (orR (nt (((b2 idxD (.ok thing_4) (.ok (.int 0))) >>= isiD "str") >>= truD)) (b2 notInD (b2 idxD (.ok thing_4) (.ok (.int 0))) (.ok (.tuple ([("there" : Str), ("seen" : Str), ("never" : Str), ("met" : Str), ("apart" : Str)].map PyData.str))) >>= boolD)))) >>= fun z => if z = true then onlyR (retR (.ok (.bool false))) else ((.ok thing_4) >>= fun d_5 => (unp5 d_5 fun word_6 who_7 what_8 first_9 end_10 => ((orR (nt (((allR [(.ok who_7), (.ok (.int 0)), (b2 subD (.ok persons_2) (.ok (.int 1)))]) >>= F_is_number) >>= truD)) (orR (nt (((allR [(.ok first_9), (.ok (.int 0)), (.ok last_3)]) >>= F_is_number) >>= truD)) (nt (((allR [(.ok end_10), (.ok first_9), (.ok last_3)]) >>= F_is_number) >>= truD)))) >>= fun z => if z = true then onlyR (retR (.ok (.bool false))) else ((b2 inD (.ok word_6) (.ok (.tuple ([("met" : Str), ("apart" : Str)].map PyData.str))) >>= boolD) >>= fun z => if z = true then onlyR (retR (andV ((allR [(.ok what_8), (.ok (.int 0)), (b2 subD (.ok persons_2) (.ok (.int 1)))]) >>= F_is_number) (b2 neD (.ok what_8) (.ok who_7)))) else (retR ((allR [(.ok what_8), (.ok (.int 0)), (b2 subD (.ok places_1) (.ok (.int 1)))]) >>= F_is_number)))))))
def g_fits : List PyData → Res (Out Empty)
  | [places_1, persons_2, last_3, thing_4] => m_fits places_1 persons_2 last_3 thing_4
  | _ => .stuck
def F_fits (ds : List PyData) : Res PyData := finR (g_fits ds)
theorem F_fits_eq (places_1 persons_2 last_3 thing_4 : PyData) : F_fits [places_1, persons_2, last_3, thing_4] = finR (m_fits places_1 persons_2 last_3 thing_4) := rfl
def m_is_case (thing_1 : PyData) : Res (Out Empty) :=
  ((orR (nt (((.ok thing_1) >>= isiD "tuple") >>= truD)) (orR (b2 neD ((allR [(.ok thing_1)]) >>= lenC) (.ok (.int 4)) >>= boolD) (nt (((allR [(b2 idxD (.ok thing_1) (.ok (.int 0)))]) >>= F_is_town) >>= truD)))) >>= fun z => if z = true then onlyR (retR (.ok (.bool false))) else ((.ok thing_1) >>= fun d_2 => (unp4 d_2 fun town_3 persons_4 last_5 tellings_6 => ((orR (nt (((allR [(.ok persons_4), (.ok (.int 1)), (.ok (.int 3))]) >>= F_is_number) >>= truD)) (nt (((allR [(.ok last_5), (.ok (.int 0)), (.ok (.int 9))]) >>= F_is_number) >>= truD))) >>= fun z => if z = true then onlyR (retR (.ok (.bool false))) else ((orR (nt (((.ok tellings_6) >>= isiD "tuple") >>= truD)) (b2 gtD ((allR [(.ok tellings_6)]) >>= lenC) (.ok (.int 6)) >>= boolD)) >>= fun z => if z = true then onlyR (retR (.ok (.bool false))) else (retR ((allR [(asL (comR ((.ok tellings_6) >>= seqOf) (fun d_7 => cel (.ok true) ((allR [(b2 idxD (.ok town_3) (.ok (.int 0))), (.ok persons_4), (.ok last_5), (.ok d_7)]) >>= F_fits))))]) >>= allC)))))))
def g_is_case : List PyData → Res (Out Empty)
  | [thing_1] => m_is_case thing_1
  | _ => .stuck
def F_is_case (ds : List PyData) : Res PyData := finR (g_is_case ds)
theorem F_is_case_eq (thing_1 : PyData) : F_is_case [thing_1] = finR (m_is_case thing_1) := rfl
def m_need_case (case_1 : PyData) : Res (Out Unit) :=
  ((nt (((allR [(.ok case_1)]) >>= F_is_case) >>= truD)) >>= fun z => if z = true then onlyR (.err "NoCase") else (.ok (.nx ())))
def g_need_case : List PyData → Res (Out Unit)
  | [case_1] => m_need_case case_1
  | _ => .stuck
def F_need_case (ds : List PyData) : Res PyData := finR (g_need_case ds)
theorem F_need_case_eq (case_1 : PyData) : F_need_case [case_1] = finR (m_need_case case_1) := rfl
def m_is_telling (case_1 thing_2 : PyData) : Res (Out Empty) :=
  (((allR [(.ok case_1)]) >>= F_need_case) >>= fun _ => (retR ((allR [(b2 idxD (b2 idxD (.ok case_1) (.ok (.int 0))) (.ok (.int 0))), (b2 idxD (.ok case_1) (.ok (.int 1))), (b2 idxD (.ok case_1) (.ok (.int 2))), (.ok thing_2)]) >>= F_fits)))
def g_is_telling : List PyData → Res (Out Empty)
  | [case_1, thing_2] => m_is_telling case_1 thing_2
  | _ => .stuck
def F_is_telling (ds : List PyData) : Res PyData := finR (g_is_telling ds)
theorem F_is_telling_eq (case_1 thing_2 : PyData) : F_is_telling [case_1, thing_2] = finR (m_is_telling case_1 thing_2) := rfl
def m_steps (town_1 stand_2 : PyData) : Res (Out Empty) :=
  ((.ok stand_2) >>= fun d_3 => (unp2 d_3 fun place_4 left_5 => ((b2 gtD (.ok left_5) (.ok (.int 0)) >>= boolD) >>= fun z => if z = true then onlyR (retR (asL ((allR [((allR [(.ok place_4), (b2 subD (.ok left_5) (.ok (.int 1)))]) >>= tupD)]) >>= lstD))) else (((allR [(.ok stand_2)]) >>= lstD) >>= fun found_6 => (((b2 idxD (.ok town_1) (.ok (.int 1))) >>= seqOf) >>= fun ds => seqR (forD ds found_6 fun d_8 (st_7 : List PyData) => (unp3 d_8 fun one_9 other_10 time_11 => ((b2 inD (.ok place_4) ((allR [(.ok one_9), (.ok other_10)]) >>= tupD) >>= boolD) >>= fun z => seqR (if z = true then (((allR [(ite3 (b2 eqD (.ok place_4) (.ok one_9) >>= boolD) (.ok other_10) (.ok one_9)), (b2 subD (.ok time_11) (.ok (.int 1)))]) >>= tupD) >>= fun d_13 => appR st_7 d_13 >>= fun found_14 => (.ok (.nx found_14))) else (.ok (.nx st_7))) fun (st_12 : List PyData) => (.ok (.nx st_12))))) fun (st_7 : List PyData) => (retR (asL ((allR [(.ok (.list st_7))]) >>= sortE))))))))
def g_steps : List PyData → Res (Out Empty)
  | [town_1, stand_2] => m_steps town_1 stand_2
  | _ => .stuck
def F_steps (ds : List PyData) : Res PyData := finR (g_steps ds)
theorem F_steps_eq (town_1 stand_2 : PyData) : F_steps [town_1, stand_2] = finR (m_steps town_1 stand_2) := rfl
def m_need_telling (case_1 thing_2 : PyData) : Res (Out Unit) :=
  ((nt (((allR [(.ok case_1), (.ok thing_2)]) >>= F_is_telling) >>= truD)) >>= fun z => if z = true then onlyR (.err "NoTelling") else (.ok (.nx ())))
def g_need_telling : List PyData → Res (Out Unit)
  | [case_1, thing_2] => m_need_telling case_1 thing_2
  | _ => .stuck
def F_need_telling (ds : List PyData) : Res PyData := finR (g_need_telling ds)
theorem F_need_telling_eq (case_1 thing_2 : PyData) : F_need_telling [case_1, thing_2] = finR (m_need_telling case_1 thing_2) := rfl
def m_rows_of (choices_1 : PyData) : Res (Out Empty) :=
  (((allR [((allR []) >>= tupD)]) >>= lstD) >>= fun found_2 => (((.ok choices_1) >>= seqOf) >>= fun ds => seqR (forD ds (PyData.list found_2) fun d_4 (st_3 : PyData) => (((allR []) >>= lstD) >>= fun longer_14 => (((.ok st_3) >>= seqE) >>= fun ds => seqR (forD ds longer_14 fun d_16 (st_15 : List PyData) => ((asL (comR ((.ok d_4) >>= seqOf) (fun d_17 => cel (.ok true) (b2 addD (.ok d_16) ((allR [(.ok d_17)]) >>= tupD))))) >>= fun d_19 => extR st_15 d_19 >>= fun longer_20 => (.ok (.nx longer_20)))) fun (st_15 : List PyData) => ((.ok (PyData.list st_15)) >>= fun found_22 => (.ok (.nx found_22)))))) fun (st_3 : PyData) => (retR (.ok st_3))))
def g_rows_of : List PyData → Res (Out Empty)
  | [choices_1] => m_rows_of choices_1
  | _ => .stuck
def F_rows_of (ds : List PyData) : Res PyData := finR (g_rows_of ds)
def m_begun (town_1 : PyData) : Res (Out Empty) :=
  (retR (asL (comR ((allR [(b2 idxD (.ok town_1) (.ok (.int 0)))]) >>= rng1) (fun d_2 => cel (.ok true) ((allR [(.ok d_2), (.ok (.int 0))]) >>= tupD)))))
def g_begun : List PyData → Res (Out Empty)
  | [town_1] => m_begun town_1
  | _ => .stuck
def F_begun (ds : List PyData) : Res PyData := finR (g_begun ds)
def m_first_stands (case_1 : PyData) : Res (Out Empty) :=
  (retR ((allR [(b2 mulE (asL ((allR [((allR [(b2 idxD (.ok case_1) (.ok (.int 0)))]) >>= F_begun)]) >>= lstD)) (b2 idxD (.ok case_1) (.ok (.int 1))))]) >>= F_rows_of))
def g_first_stands : List PyData → Res (Out Empty)
  | [case_1] => m_first_stands case_1
  | _ => .stuck
def F_first_stands (ds : List PyData) : Res PyData := finR (g_first_stands ds)
def m_place_of (stand_1 : PyData) : Res (Out Empty) :=
  (retR (ite3 (b2 gtD (b2 idxD (.ok stand_1) (.ok (.int 1))) (.ok (.int 0)) >>= boolD) (.ok .none) (b2 idxD (.ok stand_1) (.ok (.int 0)))))
def g_place_of : List PyData → Res (Out Empty)
  | [stand_1] => m_place_of stand_1
  | _ => .stuck
def F_place_of (ds : List PyData) : Res PyData := finR (g_place_of ds)
def m_is_so (telling_1 places_2 : PyData) : Res (Out Empty) :=
  ((.ok telling_1) >>= fun d_3 => (unp5 d_3 fun word_4 who_5 what_6 first_7 last_8 => ((b2 inD (.ok word_4) (.ok (.tuple ([("met" : Str), ("apart" : Str)].map PyData.str))) >>= boolD) >>= fun z => if z = true then onlyR (retR (andV (b2 notND (b2 idxD (.ok places_2) (.ok who_5)) (.ok .none)) (b2 eqD (b2 idxD (.ok places_2) (.ok who_5)) (b2 idxD (.ok places_2) (.ok what_6))))) else (retR (b2 eqD (b2 idxD (.ok places_2) (.ok who_5)) (.ok what_6))))))
def g_is_so : List PyData → Res (Out Empty)
  | [telling_1, places_2] => m_is_so telling_1 places_2
  | _ => .stuck
def F_is_so (ds : List PyData) : Res PyData := finR (g_is_so ds)
def m_looked (case_1 moment_2 stands_3 done_4 : PyData) : Res (Out Empty) :=
  (comR ((.ok stands_3) >>= seqOf) (fun d_6 => cel (.ok true) ((allR [(.ok d_6)]) >>= F_place_of)) >>= fun places_5 => (((allR []) >>= lstD) >>= fun found_8 => (((allR [(b2 idxD (.ok case_1) (.ok (.int 3))), (.ok done_4)]) >>= zip2) >>= fun ds => seqR (forD ds found_8 fun d_10 (st_9 : List PyData) => (unp2 d_10 fun telling_24 was_25 => ((.ok telling_24) >>= fun d_26 => (unp5 d_26 fun word_27 who_28 what_29 first_30 last_31 => ((andV (chainV (.ok first_30) (.ok moment_2) (.ok last_31) leD leD) ((allR [(.ok telling_24), (.ok (PyData.list places_5))]) >>= F_is_so)) >>= fun so_32 => ((andR (b2 eqD (.ok word_27) (.ok (.str "there")) >>= boolD) (andR ((chainV (.ok first_30) (.ok moment_2) (.ok last_31) leD leD) >>= boolD) (nt ((.ok so_32) >>= truD)))) >>= fun z => if z = true then onlyR (retR (.ok .none)) else ((andR (b2 inD (.ok word_27) ((allR [(.ok (.str "never")), (.ok (.str "apart"))]) >>= tupD) >>= boolD) ((.ok so_32) >>= truD)) >>= fun z => if z = true then onlyR (retR (.ok .none)) else ((orV (.ok was_25) (andV (b2 inD (.ok word_27) ((allR [(.ok (.str "seen")), (.ok (.str "met"))]) >>= tupD)) (.ok so_32))) >>= fun is_done_33 => ((andR (b2 inD (.ok word_27) ((allR [(.ok (.str "seen")), (.ok (.str "met"))]) >>= tupD) >>= boolD) (andR (b2 geD (.ok moment_2) (.ok last_31) >>= boolD) (nt ((.ok is_done_33) >>= truD)))) >>= fun z => if z = true then onlyR (retR (.ok .none)) else ((.ok is_done_33) >>= fun d_34 => appR st_9 d_34 >>= fun found_35 => (.ok (.nx found_35)))))))))))) fun (st_9 : List PyData) => (retR ((allR [(.ok (.list st_9))]) >>= tupC)))))
def g_looked : List PyData → Res (Out Empty)
  | [case_1, moment_2, stands_3, done_4] => m_looked case_1 moment_2 stands_3 done_4
  | _ => .stuck
def F_looked (ds : List PyData) : Res PyData := finR (g_looked ds)
def m_next_stands (case_1 stands_2 : PyData) : Res (Out Empty) :=
  (retR ((allR [(asL (comR ((.ok stands_2) >>= seqOf) (fun d_3 => cel (.ok true) ((allR [(b2 idxD (.ok case_1) (.ok (.int 0))), (.ok d_3)]) >>= F_steps))))]) >>= F_rows_of))
def g_next_stands : List PyData → Res (Out Empty)
  | [case_1, stands_2] => m_next_stands case_1 stands_2
  | _ => .stuck
def F_next_stands (ds : List PyData) : Res PyData := finR (g_next_stands ds)
def m_are_stands (town_1 thing_2 many_3 : PyData) : Res (Out Empty) :=
  ((orR (nt (((.ok thing_2) >>= isiD "tuple") >>= truD)) (b2 neD ((allR [(.ok thing_2)]) >>= lenC) (.ok many_3) >>= boolD)) >>= fun z => if z = true then onlyR (retR (.ok (.bool false))) else (((.ok thing_2) >>= seqOf) >>= fun ds => seqR (forD ds () fun d_5 (st_4 : Unit) => ((orR (nt (((.ok d_5) >>= isiD "tuple") >>= truD)) (orR (b2 neD ((allR [(.ok d_5)]) >>= lenC) (.ok (.int 2)) >>= boolD) (nt (((allR [(b2 idxD (.ok d_5) (.ok (.int 0))), (.ok (.int 0)), (b2 subD (b2 idxD (.ok town_1) (.ok (.int 0))) (.ok (.int 1)))]) >>= F_is_number) >>= truD)))) >>= fun z => if z = true then onlyR (retR (.ok (.bool false))) else ((nt (((allR [(b2 idxD (.ok d_5) (.ok (.int 1))), (.ok (.int 0)), (.ok (.int 3))]) >>= F_is_number) >>= truD)) >>= fun z => if z = true then onlyR (retR (.ok (.bool false))) else (.ok (.nx ()))))) fun (st_4 : Unit) => (retR (.ok (.bool true)))))
def g_are_stands : List PyData → Res (Out Empty)
  | [town_1, thing_2, many_3] => m_are_stands town_1 thing_2 many_3
  | _ => .stuck
def F_are_stands (ds : List PyData) : Res PyData := finR (g_are_stands ds)
theorem F_are_stands_eq (town_1 thing_2 many_3 : PyData) : F_are_stands [town_1, thing_2, many_3] = finR (m_are_stands town_1 thing_2 many_3) := rfl
def m_is_day (case_1 thing_2 : PyData) : Res (Out Empty) :=
  (((allR [(.ok case_1)]) >>= F_need_case) >>= fun _ => ((b2 idxD (.ok case_1) (.ok (.int 0))) >>= fun town_3 => ((orR (nt (((allR [(.ok town_3), (.ok thing_2), (b2 addD (b2 idxD (.ok case_1) (.ok (.int 2))) (.ok (.int 1)))]) >>= F_are_stands) >>= truD)) (b2 gtD (b2 idxD (b2 idxD (.ok thing_2) (.ok (.int 0))) (.ok (.int 1))) (.ok (.int 0)) >>= boolD)) >>= fun z => if z = true then onlyR (retR (.ok (.bool false))) else (retR ((allR [(asL (comR ((allR [(.ok thing_2), (sl3 (.ok thing_2) ((.ok (.int 1)) >>= partD) (.ok none))]) >>= zip2) (fun d_4 => unp2 d_4 fun one_5 other_6 => cel (.ok true) (b2 inD (.ok other_6) ((allR [(.ok town_3), (.ok one_5)]) >>= F_steps)))))]) >>= allC)))))
def g_is_day : List PyData → Res (Out Empty)
  | [case_1, thing_2] => m_is_day case_1 thing_2
  | _ => .stuck
def F_is_day (ds : List PyData) : Res PyData := finR (g_is_day ds)
theorem F_is_day_eq (case_1 thing_2 : PyData) : F_is_day [case_1, thing_2] = finR (m_is_day case_1 thing_2) := rfl
def m_is_world (case_1 thing_2 : PyData) : Res (Out Empty) :=
  (((allR [(.ok case_1)]) >>= F_need_case) >>= fun _ => (retR (andV ((.ok thing_2) >>= isiD "tuple") (andV (b2 eqD ((allR [(.ok thing_2)]) >>= lenC) (b2 idxD (.ok case_1) (.ok (.int 1)))) ((allR [(asL (comR ((.ok thing_2) >>= seqOf) (fun d_3 => cel (.ok true) ((allR [(.ok case_1), (.ok d_3)]) >>= F_is_day))))]) >>= allC)))))
def g_is_world : List PyData → Res (Out Empty)
  | [case_1, thing_2] => m_is_world case_1 thing_2
  | _ => .stuck
def F_is_world (ds : List PyData) : Res PyData := finR (g_is_world ds)
theorem F_is_world_eq (case_1 thing_2 : PyData) : F_is_world [case_1, thing_2] = finR (m_is_world case_1 thing_2) := rfl
def m_layer_behind (case_1 moment_2 layer_3 : PyData) : Res (Out Empty) :=
  ((Res.ok ([] : List (PyData × List PyData))) >>= fun found_4 => (((.ok layer_3) >>= seqE) >>= fun ds => seqR (forD ds found_4 fun d_6 (st_5 : List (PyData × List PyData)) => ((((allR [(.ok case_1), (b2 idxD (.ok d_6) (.ok (.int 0)))]) >>= F_next_stands) >>= seqOf) >>= fun ds => seqR (forD ds st_5 fun d_8 (st_7 : List (PyData × List PyData)) => (((allR [(.ok case_1), (.ok moment_2), (.ok d_8), (b2 idxD (.ok d_6) (.ok (.int 1)))]) >>= F_looked) >>= fun done_9 => ((b2 notND (.ok done_9) (.ok .none) >>= boolD) >>= fun z => seqR (if z = true then (((allR [(.ok d_8), (.ok done_9)]) >>= tupD) >>= fun there_11 => (((.ok there_11) >>= odNot st_7) >>= fun z => seqR (if z = true then (((allR [(.ok d_6), (.ok (.int 0))]) >>= lstD) >>= fun d_13 => (.ok there_11) >>= fun j_14 => odPut st_7 j_14 d_13 >>= fun found_15 => (.ok (.nx found_15))) else (.ok (.nx st_7))) fun (st_12 : List (PyData × List PyData)) => (setOD st_12 (b2 addD (b2 idxD ((.ok there_11) >>= odAt st_12) (.ok (.int 1))) (b2 idxD (b2 idxE (.ok layer_3) (.ok d_6)) (.ok (.int 1)))) (.ok there_11) (.ok (.int 1)) fun found_16 => (.ok (.nx found_16))))) else (.ok (.nx st_7))) fun (st_10 : List (PyData × List PyData)) => (.ok (.nx st_10))))) fun (st_7 : List (PyData × List PyData)) => (.ok (.nx st_7)))) fun (st_5 : List (PyData × List PyData)) => (retR (.ok (PyData.dict (List.map (fun p => (p.1, PyData.list p.2)) st_5))))))
def g_layer_behind : List PyData → Res (Out Empty)
  | [case_1, moment_2, layer_3] => m_layer_behind case_1 moment_2 layer_3
  | _ => .stuck
def F_layer_behind (ds : List PyData) : Res PyData := finR (g_layer_behind ds)
def m_layers (case_1 : PyData) : Res (Out Empty) :=
  ((b2 mulE ((allR [(.ok (.bool false))]) >>= tupD) ((allR [(b2 idxD (.ok case_1) (.ok (.int 3)))]) >>= lenC)) >>= fun none_2 => ((Res.ok ([] : List (PyData × List PyData))) >>= fun found_3 => ((((allR [(.ok case_1)]) >>= F_first_stands) >>= seqOf) >>= fun ds => seqR (forD ds found_3 fun d_5 (st_4 : List (PyData × List PyData)) => (((allR [(.ok case_1), (.ok (.int 0)), (.ok d_5), (.ok none_2)]) >>= F_looked) >>= fun done_6 => ((b2 notND (.ok done_6) (.ok .none) >>= boolD) >>= fun z => seqR (if z = true then (((allR [(.ok .none), (.ok (.int 1))]) >>= lstD) >>= fun d_8 => ((allR [(.ok d_5), (.ok done_6)]) >>= tupD) >>= fun j_9 => odPut st_4 j_9 d_8 >>= fun found_10 => (.ok (.nx found_10))) else (.ok (.nx st_4))) fun (st_7 : List (PyData × List PyData)) => (.ok (.nx st_7))))) fun (st_4 : List (PyData × List PyData)) => (((allR [(.ok (PyData.dict (List.map (fun p => (p.1, PyData.list p.2)) st_4)))]) >>= lstD) >>= fun rows_12 => (((allR [(.ok (.int 1)), (b2 addD (b2 idxD (.ok case_1) (.ok (.int 2))) (.ok (.int 1)))]) >>= rng2) >>= fun ds => seqR (forD ds rows_12 fun d_14 (st_13 : List PyData) => (((allR [(.ok case_1), (.ok d_14), (b2 idxD (.ok (.list st_13)) ((.ok (.int 1)) >>= negD))]) >>= F_layer_behind) >>= fun d_15 => appR st_13 d_15 >>= fun rows_16 => (.ok (.nx rows_16)))) fun (st_13 : List PyData) => (retR (.ok (PyData.list st_13))))))))
def g_layers : List PyData → Res (Out Empty)
  | [case_1] => m_layers case_1
  | _ => .stuck
def F_layers (ds : List PyData) : Res PyData := finR (g_layers ds)
def m_how_many (case_1 : PyData) : Res (Out Empty) :=
  (((allR [(.ok case_1)]) >>= F_need_case) >>= fun _ => ((b2 idxD ((allR [(.ok case_1)]) >>= F_layers) ((.ok (.int 1)) >>= negD)) >>= fun last_2 => (retR ((allR [(asL (comR ((.ok last_2) >>= seqE) (fun d_3 => cel (.ok true) (b2 idxD (b2 idxE (.ok last_2) (.ok d_3)) (.ok (.int 1))))))]) >>= sumC))))
def g_how_many : List PyData → Res (Out Empty)
  | [case_1] => m_how_many case_1
  | _ => .stuck
def F_how_many (ds : List PyData) : Res PyData := finR (g_how_many ds)
theorem F_how_many_eq (case_1 : PyData) : F_how_many [case_1] = finR (m_how_many case_1) := rfl
def m_has_world (case_1 : PyData) : Res (Out Empty) :=
  (retR (b2 neE (b2 idxD ((allR [(.ok case_1)]) >>= F_layers) ((.ok (.int 1)) >>= negD)) (.ok (.dict []))))
def g_has_world : List PyData → Res (Out Empty)
  | [case_1] => m_has_world case_1
  | _ => .stuck
def F_has_world (ds : List PyData) : Res PyData := finR (g_has_world ds)
def m_can_be (case_1 : PyData) : Res (Out Empty) :=
  (((allR [(.ok case_1)]) >>= F_need_case) >>= fun _ => (retR ((allR [(.ok case_1)]) >>= F_has_world)))
def g_can_be : List PyData → Res (Out Empty)
  | [case_1] => m_can_be case_1
  | _ => .stuck
def F_can_be (ds : List PyData) : Res PyData := finR (g_can_be ds)
theorem F_can_be_eq (case_1 : PyData) : F_can_be [case_1] = finR (m_can_be case_1) := rfl
def m_need_world (case_1 world_2 : PyData) : Res (Out Unit) :=
  ((nt (((allR [(.ok case_1), (.ok world_2)]) >>= F_is_world) >>= truD)) >>= fun z => if z = true then onlyR (.err "NoCase") else (.ok (.nx ())))
def g_need_world : List PyData → Res (Out Unit)
  | [case_1, world_2] => m_need_world case_1 world_2
  | _ => .stuck
def F_need_world (ds : List PyData) : Res PyData := finR (g_need_world ds)
theorem F_need_world_eq (case_1 world_2 : PyData) : F_need_world [case_1, world_2] = finR (m_need_world case_1 world_2) := rfl
def m_a_world (case_1 : PyData) : Res (Out Empty) :=
  (((allR [(.ok case_1)]) >>= F_need_case) >>= fun _ => (((allR [(.ok case_1)]) >>= F_layers) >>= fun rows_2 => ((b2 eqE (b2 idxD (.ok rows_2) ((.ok (.int 1)) >>= negD)) (.ok (.dict [])) >>= boolD) >>= fun z => if z = true then onlyR (retR (.ok .none)) else (((allR [(b2 idxD (.ok rows_2) ((.ok (.int 1)) >>= negD))]) >>= minC) >>= fun here_3 => (((allR []) >>= lstD) >>= fun found_4 => ((((.ok rows_2) >>= revB) >>= seqOf) >>= fun ds => seqR (forD ds (here_3, (PyData.list found_4)) fun d_6 (st_5 : PyData × PyData) => ((b2 addD (asL ((allR [(b2 idxD (.ok st_5.1) (.ok (.int 0)))]) >>= lstD)) (.ok st_5.2)) >>= fun found_9 => ((b2 idxD (b2 idxE (.ok d_6) (.ok st_5.1)) (.ok (.int 0))) >>= fun here_10 => (.ok (.nx (here_10, found_9)))))) fun (st_5 : PyData × PyData) => (retR ((allR [(asL (comR ((allR [(b2 idxD (.ok case_1) (.ok (.int 1)))]) >>= rng1) (fun d_11 => cel (.ok true) ((allR [(asL (comR ((.ok st_5.2) >>= seqE) (fun d_13 => cel (.ok true) (b2 idxD (.ok d_13) (.ok d_11)))))]) >>= tupC))))]) >>= tupC))))))))
def g_a_world : List PyData → Res (Out Empty)
  | [case_1] => m_a_world case_1
  | _ => .stuck
def F_a_world (ds : List PyData) : Res PyData := finR (g_a_world ds)
theorem F_a_world_eq (case_1 : PyData) : F_a_world [case_1] = finR (m_a_world case_1) := rfl
def m_sign_of (stand_1 : PyData) : Res (Out Empty) :=
  (retR (ite3 (b2 eqD (b2 idxD (.ok stand_1) (.ok (.int 1))) (.ok (.int 0)) >>= boolD) (b2 idxD (.ok (.str "abcde")) (b2 idxD (.ok stand_1) (.ok (.int 0)))) (b2 idxD (.ok (.str "ABCDE")) (b2 idxD (.ok stand_1) (.ok (.int 0))))))
def g_sign_of : List PyData → Res (Out Empty)
  | [stand_1] => m_sign_of stand_1
  | _ => .stuck
def F_sign_of (ds : List PyData) : Res PyData := finR (g_sign_of ds)
theorem F_sign_of_eq (stand_1 : PyData) : F_sign_of [stand_1] = finR (m_sign_of stand_1) := rfl
def m_day_text (case_1 day_2 : PyData) : Res (Out Empty) :=
  (((allR [(.ok case_1)]) >>= F_need_case) >>= fun _ => ((nt (((allR [(.ok case_1), (.ok day_2)]) >>= F_is_day) >>= truD)) >>= fun z => if z = true then onlyR (.err "NoCase") else (retR (onS joinD (.ok (.str "")) (asL (comR ((.ok day_2) >>= seqOf) (fun d_3 => cel (.ok true) ((allR [(.ok d_3)]) >>= F_sign_of))))))))
def g_day_text : List PyData → Res (Out Empty)
  | [case_1, day_2] => m_day_text case_1 day_2
  | _ => .stuck
def F_day_text (ds : List PyData) : Res PyData := finR (g_day_text ds)
theorem F_day_text_eq (case_1 day_2 : PyData) : F_day_text [case_1, day_2] = finR (m_day_text case_1 day_2) := rfl
def m_read_day (case_1 text_2 : PyData) : Res (Out Empty) :=
  (((allR [(.ok case_1)]) >>= F_need_case) >>= fun _ => ((orR (nt (((.ok text_2) >>= isiD "str") >>= truD)) (orR (b2 neD ((allR [(.ok text_2)]) >>= lenC) (b2 addD (b2 idxD (.ok case_1) (.ok (.int 2))) (.ok (.int 1))) >>= boolD) (b2 notInD (b2 idxD (.ok text_2) (.ok (.int 0))) (sl3S (.ok (.str "abcde")) (.ok none) ((b2 idxD (b2 idxD (.ok case_1) (.ok (.int 0))) (.ok (.int 0))) >>= partD)) >>= boolD))) >>= fun z => if z = true then onlyR (.err "NoText") else (((allR [((allR [(onS sidxD (.ok (.str "abcde")) (b2 idxD (.ok text_2) (.ok (.int 0)))), (.ok (.int 0))]) >>= tupD)]) >>= lstD) >>= fun found_3 => (((sl3S (.ok text_2) ((.ok (.int 1)) >>= partD) (.ok none)) >>= seqS) >>= fun ds => seqR (forD ds found_3 fun d_5 (st_4 : List PyData) => (comR (((allR [(b2 idxD (.ok case_1) (.ok (.int 0))), (b2 idxD (.ok (.list st_4)) ((.ok (.int 1)) >>= negD))]) >>= F_steps) >>= seqOf) (fun d_7 => cel (b2 eqD ((allR [(.ok d_7)]) >>= F_sign_of) (.ok d_5) >>= boolD) (.ok d_7)) >>= fun some_6 => ((b2 eqD (.ok (.list some_6)) (asL ((allR []) >>= lstD)) >>= boolD) >>= fun z => if z = true then onlyR (.err "NoText") else ((b2 idxD (.ok (.list some_6)) (.ok (.int 0))) >>= fun d_9 => appR st_4 d_9 >>= fun found_10 => (.ok (.nx found_10)))))) fun (st_4 : List PyData) => (retR ((allR [(.ok (.list st_4))]) >>= tupC))))))
def g_read_day : List PyData → Res (Out Empty)
  | [case_1, text_2] => m_read_day case_1 text_2
  | _ => .stuck
def F_read_day (ds : List PyData) : Res PyData := finR (g_read_day ds)
theorem F_read_day_eq (case_1 text_2 : PyData) : F_read_day [case_1, text_2] = finR (m_read_day case_1 text_2) := rfl
def m_world_text (case_1 world_2 : PyData) : Res (Out Empty) :=
  (((allR [(.ok case_1)]) >>= F_need_case) >>= fun _ => (((allR [(.ok case_1), (.ok world_2)]) >>= F_need_world) >>= fun _ => (retR (onS joinD (.ok (.str "")) (asL (comR ((allR [(.ok world_2)]) >>= enumE) (fun d_3 => unp2 d_3 fun who_4 day_5 => cel (.ok true) (b2 addD (b2 addD (b2 addD (b2 idxD (.ok (.str "XYZ")) (.ok who_4)) (.ok (.str " "))) ((allR [(.ok case_1), (.ok day_5)]) >>= F_day_text)) (.ok (.str "\n"))))))))))
def g_world_text : List PyData → Res (Out Empty)
  | [case_1, world_2] => m_world_text case_1 world_2
  | _ => .stuck
def F_world_text (ds : List PyData) : Res PyData := finR (g_world_text ds)
theorem F_world_text_eq (case_1 world_2 : PyData) : F_world_text [case_1, world_2] = finR (m_world_text case_1 world_2) := rfl
def m_read_world (case_1 text_2 : PyData) : Res (Out Empty) :=
  (((allR [(.ok case_1)]) >>= F_need_case) >>= fun _ => ((nt (((.ok text_2) >>= isiD "str") >>= truD)) >>= fun z => if z = true then onlyR (.err "NoText") else ((sl3 (asL (onS splitD (.ok text_2) (.ok (.str "\n")))) (.ok none) (((.ok (.int 1)) >>= negD) >>= partD)) >>= fun lines_3 => ((b2 neD ((allR [(.ok lines_3)]) >>= lenC) (b2 idxD (.ok case_1) (.ok (.int 1))) >>= boolD) >>= fun z => if z = true then onlyR (.err "NoText") else (((allR [(asL (comRX ((.ok lines_3) >>= seqOf) (fun d_5 => cel (.ok true) ((allR [(.ok case_1), (sl3S (.ok d_5) ((.ok (.int 2)) >>= partD) (.ok none))]) >>= F_read_day))))]) >>= tupC) >>= fun found_4 => ((b2 neD ((allR [(.ok case_1), (.ok found_4)]) >>= F_world_text) (.ok text_2) >>= boolD) >>= fun z => if z = true then onlyR (.err "NoText") else (retR (.ok found_4))))))))
def g_read_world : List PyData → Res (Out Empty)
  | [case_1, text_2] => m_read_world case_1 text_2
  | _ => .stuck
def F_read_world (ds : List PyData) : Res PyData := finR (g_read_world ds)
theorem F_read_world_eq (case_1 text_2 : PyData) : F_read_world [case_1, text_2] = finR (m_read_world case_1 text_2) := rfl
end Lw
namespace Lw
open PySem PySem.Spec PyProof.Rows L2 Dt
end Lw
namespace Lw
open PySem PySem.Spec PyProof.Rows L2 Dt
theorem len_ne (xs : List PyData) (k : Nat) (j : Int) (e : j = (k : Nat)) : (b2 neD ((allR [(.ok (.tuple xs))]) >>= lenC) (.ok (.int j)) >>= boolD) = .ok (!decide (xs.length = k)) := by
  subst e
  show (neD (.int (xs.length : Nat)) (.int (k : Nat)) >>= boolD) = _
  rw [neI, ok_bind, boolD_bool]
  congr 2
  exact decide_eq_decide.mpr (by omega)
theorem idx_tup (xs : List PyData) (i : Nat) (j : Int) (e : j = (i : Nat)) {d : PyData} (h : xs[i]? = some d) : b2 idxD (.ok (.tuple xs)) (.ok (.int j)) = .ok d := by
  subst e
  rw [b2_ok]
  unfold idxD
  dsimp only
  rw [atI_nat h]
theorem len2 {xs : List PyData} (h : xs.length = 2) : ∃ a b, xs = [a, b] := by
  match xs, h with
  | [a, b], _ => exact ⟨a, b, rfl⟩
theorem len3 {xs : List PyData} (h : xs.length = 3) : ∃ a b c, xs = [a, b, c] := by
  match xs, h with
  | [a, b, c], _ => exact ⟨a, b, c, rfl⟩
theorem len4 {xs : List PyData} (h : xs.length = 4) : ∃ a b c d, xs = [a, b, c, d] := by
  match xs, h with
  | [a, b, c, d], _ => exact ⟨a, b, c, d, rfl⟩
theorem len5 {xs : List PyData} (h : xs.length = 5) : ∃ a b c d e, xs = [a, b, c, d, e] := by
  match xs, h with
  | [a, b, c, d, e], _ => exact ⟨a, b, c, d, e, rfl⟩
theorem is_number_ok {d : PyData} (h : notDic d = true) (lo hi : Int) : F_is_number [d, .int lo, .int hi] = .ok (.bool (numOk lo hi d)) := by
  rw [F_is_number_eq]
  unfold m_is_number
  rw [num_eval h]
  rfl
def wayOk (n : Int) : PyData → Bool
  | .tuple [a, b, c] => numOk 0 (n - 1) a && (numOk (intV a + 1) (n - 1) b && numOk 1 4 c)
  | _ => false
theorem num_int {lo hi : Int} {d : PyData} (h : numOk lo hi d = true) : ∃ i, d = .int i ∧ lo ≤ i ∧ i ≤ hi := by
  cases d with
  | int i =>
    unfold numOk at h
    rw [Bool.and_eq_true, decide_eq_true_eq, decide_eq_true_eq] at h
    exact ⟨i, rfl, h.1, h.2⟩
  | _ => cases h
theorem is_way_ok {n : Int} {d : PyData} {m k : Nat} (h : gd m k d = true) : F_is_way [.int n, d] = .ok (.bool (wayOk n d)) := by
  rw [F_is_way_eq]
  unfold m_is_way
  rw [ok_bind, isi_tuple (gd_notDic h), ok_bind, truD_bool, nt_ok]
  cases d with
  | tuple xs =>
    rw [show (!isTup (.tuple xs)) = false from rfl, orR_f, len_ne xs 3 3 rfl]
    by_cases e : xs.length = 3
    · obtain ⟨a, b, c, rfl⟩ := len3 e
      cases k with
      | zero => cases h
      | succ k =>
        obtain ⟨_, hg⟩ := gd_tup.mp h
        have ha := gd_notDic (hg a (by simp))
        have hb := gd_notDic (hg b (by simp))
        have hc := gd_notDic (hg c (by simp))
        rw [idx_tup [a, b, c] 0 0 rfl rfl, idx_tup [a, b, c] 1 1 rfl rfl, idx_tup [a, b, c] 2 2 rfl rfl]
        rw [show (!decide ([a, b, c].length = 3)) = false from rfl, orR_f]
        simp only [allR_ok, allR_nil, ok_bind, b2_ok, subI]
        rw [is_number_ok ha]
        simp only [ok_bind, truD_bool, nt_ok]
        show _ = Res.ok (PyData.bool (numOk 0 (n - 1) a && (numOk (intV a + 1) (n - 1) b && numOk 1 4 c)))
        by_cases q : numOk 0 (n - 1) a = true
        · obtain ⟨i, rfl, _, _⟩ := num_int q
          rw [q]
          simp only [addI, allR_ok, allR_nil, ok_bind, Bool.not_true, Bool.false_eq_true, if_false]
          rw [is_number_ok hb, is_number_ok hc, andV_bool]
          show finR (retR (if numOk (i + 1) (n - 1) b = true then _ else _)) = _
          show _ = Res.ok (PyData.bool (true && (numOk (i + 1) (n - 1) b && numOk 1 4 c)))
          cases numOk (i + 1) (n - 1) b <;> rfl
        · rw [Bool.not_eq_true] at q
          rw [q]
          rfl
    · rw [show decide (xs.length = 3) = false from decide_eq_false e]
      have : wayOk n (.tuple xs) = false := by
        unfold wayOk
        split
        · rename_i heq
          cases heq
          exact absurd rfl e
        · rfl
      rw [this]
      rfl
  | _ => rfl
def pairOf : PyData → List Int
  | .tuple (a :: b :: _) => [intV a, intV b]
  | _ => []
def townOk : PyData → Bool
  | .tuple [n, .tuple ws] => numOk 1 5 n && (ws.all (wayOk (intV n)) && incr (ws.map pairOf))
  | _ => false
theorem wayOk_inv {n : Int} {d : PyData} (h : wayOk n d = true) : ∃ a b c, d = .tuple [.int a, .int b, .int c] ∧ 0 ≤ a ∧ a < b ∧ b < n ∧ 1 ≤ c ∧ c ≤ 4 := by
  unfold wayOk at h
  split at h
  · rename_i a b c
    rw [Bool.and_eq_true, Bool.and_eq_true] at h
    obtain ⟨i, rfl, h1, h2⟩ := num_int h.1
    obtain ⟨j, rfl, h3, h4⟩ := num_int h.2.1
    obtain ⟨t, rfl, h5, h6⟩ := num_int h.2.2
    have h3 : i + 1 ≤ j := h3
    exact ⟨i, j, t, rfl, h1, by omega, by omega, h5, h6⟩
  · cases h
theorem incr_zip : ∀ ws : List PyData, ((zipL ws (ws.drop 1)).all fun d => match d with | .tuple [x, y] => HT.lexLt (pairOf x) (pairOf y) | _ => false) = incr (ws.map pairOf)
  | [] => rfl
  | [x] => rfl
  | x :: y :: r => by
    have ih := incr_zip (y :: r)
    show (HT.lexLt (pairOf x) (pairOf y) && ((zipL (y :: r) ((y :: r).drop 1)).all fun d => match d with | .tuple [x, y] => HT.lexLt (pairOf x) (pairOf y) | _ => false)) = (HT.lexLt (pairOf x) (pairOf y) && incr ((y :: r).map pairOf))
    rw [ih]
theorem is_town_ok {d : PyData} {m k : Nat} (hm : m ≤ 60) (h : gd m k d = true) : F_is_town [d] = .ok (.bool (townOk d)) := by
  rw [F_is_town_eq]
  unfold m_is_town
  rw [ok_bind, isi_tuple (gd_notDic h), ok_bind, truD_bool, nt_ok]
  cases d with
  | tuple xs =>
    rw [show (!isTup (.tuple xs)) = false from rfl, orR_f, len_ne xs 2 2 rfl]
    by_cases e : xs.length = 2
    · obtain ⟨a, b, rfl⟩ := len2 e
      cases k with
      | zero => cases h
      | succ k =>
        obtain ⟨_, hg⟩ := gd_tup.mp h
        have ga := hg a (by simp)
        have gb := hg b (by simp)
        rw [idx_tup [a, b] 0 0 rfl rfl, idx_tup [a, b] 1 1 rfl rfl]
        rw [show (!decide ([a, b].length = 2)) = false from rfl, orR_f]
        simp only [allR_ok, allR_nil, ok_bind]
        rw [is_number_ok (gd_notDic ga)]
        simp only [ok_bind, truD_bool, nt_ok]
        by_cases q : numOk 1 5 a = true
        · obtain ⟨n, rfl, n1, n2⟩ := num_int q
          rw [q]
          simp only [ok_bind, Bool.not_true, Bool.false_eq_true, if_false]
          rw [isi_tuple (gd_notDic gb)]
          simp only [ok_bind, truD_bool, nt_ok]
          cases b with
          | tuple ws =>
            cases k with
            | zero => cases gb
            | succ k =>
              obtain ⟨hl, hw⟩ := gd_tup.mp gb
              have hl' : ws.length ≤ sizeLine := Nat.le_trans hl (Nat.le_trans hm big60)
              rw [show (!isTup (.tuple ws)) = false from rfl, orR_f]
              rw [show seqOf (.tuple ws) = .ok ws from rfl, comR_map (f := fun d => .bool (wayOk n d)) hl' fun d hd => by rw [is_way_ok (hw d hd), cel_t]]
              have ea := all_map (wayOk n) ws
              simp only [asL_ok, allR_ok, allR_nil, ok_bind] at ea ⊢
              rw [ea]
              simp only [ok_bind, truD_bool, nt_ok]
              show _ = Res.ok (PyData.bool (numOk 1 5 (.int n) && (ws.all (wayOk n) && incr (ws.map pairOf))))
              rw [q]
              by_cases z : ws.all (wayOk n) = true
              · rw [z]
                simp only [Bool.not_true, Bool.false_eq_true, if_false]
                have hsl := sl_from ws 1 1 rfl
                simp only [ok_bind] at hsl
                rw [hsl]
                simp only [allR_ok, allR_nil, ok_bind]
                rw [show zip2 [.tuple ws, .tuple (ws.drop 1)] = .ok (zipL ws (ws.drop 1)) from rfl]
                rw [comR_map (f := fun d => .bool (match d with | .tuple [x, y] => HT.lexLt (pairOf x) (pairOf y) | _ => false)) (Nat.le_trans (zip_len _ _) hl') fun d hd => by
                  obtain ⟨x, y, rfl, hx, hy⟩ := mem_zip hd
                  have hy' : y ∈ ws := List.mem_of_mem_drop hy
                  obtain ⟨a1, b1, c1, rfl, _⟩ := wayOk_inv (List.all_eq_true.mp z x hx)
                  obtain ⟨a2, b2, c2, rfl, _⟩ := wayOk_inv (List.all_eq_true.mp z y hy')
                  rfl]
                have ez := all_map (fun d => match d with | .tuple [x, y] => HT.lexLt (pairOf x) (pairOf y) | _ => false) (zipL ws (ws.drop 1))
                simp only [asL_ok, allR_ok, allR_nil, ok_bind] at ez ⊢
                rw [ez, incr_zip]
                rfl
              · rw [Bool.not_eq_true] at z
                rw [z]
                rfl
          | _ => rfl
        · rw [Bool.not_eq_true] at q
          rw [q]
          have : townOk (.tuple [a, b]) = false := by
            unfold townOk
            split
            · rename_i heq
              cases heq
              rw [q, Bool.false_and]
            · rfl
          rw [this]
          rfl
    · rw [show decide (xs.length = 2) = false from decide_eq_false e]
      have : townOk (.tuple xs) = false := by
        unfold townOk
        split
        · rename_i heq
          cases heq
          exact absurd rfl e
        · rfl
      rw [this]
      rfl
  | _ => rfl
def inW (xs : List Str) (d : PyData) : Bool := (xs.map PyData.str).any fun z => PyData.eqv z d
def W5 : List Str := ["there", "seen", "never", "met", "apart"]
def W2 : List Str := ["met", "apart"]
theorem inW_str {xs : List Str} {d : PyData} (h : inW xs d = true) : isStr d = true := by
  unfold inW at h
  obtain ⟨z, hz, e⟩ := List.any_eq_true.mp h
  obtain ⟨x, _, rfl⟩ := List.mem_map.mp hz
  cases d with
  | str y => rfl
  | _ => cases e
theorem in_eval {xs : List Str} {d : PyData} (h : shp d = true) (hx : shp (.tuple (xs.map PyData.str)) = true) : b2 inD (.ok d) (.ok (.tuple (xs.map PyData.str))) = .ok (.bool (inW xs d)) := by
  rw [b2_ok]
  show (if (shp d && shp (.tuple (xs.map PyData.str))) = true then Res.ok (PyData.bool (inW xs d)) else .stuck) = _
  rw [h, hx, if_pos (by rfl)]
theorem notIn_eval {xs : List Str} {d : PyData} (h : shp d = true) (hx : shp (.tuple (xs.map PyData.str)) = true) : b2 notInD (.ok d) (.ok (.tuple (xs.map PyData.str))) = .ok (.bool (!inW xs d)) := by
  rw [b2_ok]
  show (if (shp d && shp (.tuple (xs.map PyData.str))) = true then Res.ok (PyData.bool (!inW xs d)) else .stuck) = _
  rw [h, hx, if_pos (by rfl)]
theorem shp5 : shp (.tuple (W5.map PyData.str)) = true := by decide +kernel
theorem shp2 : shp (.tuple (W2.map PyData.str)) = true := by decide +kernel
theorem tupS (xs : List Str) (h : xs.length ≤ 60) : Dt.tupD (xs.map PyData.str) = .ok (.tuple (xs.map PyData.str)) := tupD_ok (by rw [List.length_map]; exact Nat.le_trans h big60)
theorem words2 : ((allR [(.ok (.str "met")), (.ok (.str "apart"))]) >>= Dt.tupD) = .ok (.tuple (W2.map PyData.str)) := tupS W2 (by decide)
def tellOk (n p l : Int) : PyData → Bool
  | .tuple [w, a, b, c, e] => inW W5 w && (numOk 0 (p - 1) a && (numOk 0 l c && (numOk (intV c) l e && (if inW W2 w = true then numOk 0 (p - 1) b && !decide (intV b = intV a) else numOk 0 (n - 1) b))))
  | _ => false
theorem tellOk_len {n p l : Int} {xs : List PyData} (h : xs.length ≠ 5) : tellOk n p l (.tuple xs) = false := by
  unfold tellOk
  split
  · rename_i heq
    cases heq
    exact absurd rfl h
  · rfl
theorem fits_ok {n p l : Int} {d : PyData} {m k : Nat} (hk : k ≤ 60) (h : gd m k d = true) : F_fits [.int n, .int p, .int l, d] = .ok (.bool (tellOk n p l d)) := by
  rw [F_fits_eq]
  unfold m_fits
  rw [ok_bind, isi_tuple (gd_notDic h), ok_bind, truD_bool, nt_ok]
  cases d with
  | tuple xs =>
    rw [show (!isTup (.tuple xs)) = false from rfl, orR_f, len_ne xs 5 5 rfl]
    by_cases e5 : xs.length = 5
    · obtain ⟨w, a, b, c, e, rfl⟩ := len5 e5
      cases k with
      | zero => cases h
      | succ k =>
        obtain ⟨_, hg⟩ := gd_tup.mp h
        have gw := hg w (by simp)
        have ha := gd_notDic (hg a (by simp))
        have hb := gd_notDic (hg b (by simp))
        have hc := gd_notDic (hg c (by simp))
        have he := gd_notDic (hg e (by simp))
        have sw := gd_shp gw (by omega)
        rw [idx_tup [w, a, b, c, e] 0 0 rfl rfl, ok_bind, isi_str (gd_notDic gw), ok_bind, truD_bool, nt_ok, show (!decide ([w, a, b, c, e].length = 5)) = false from rfl, orR_f]
        have n5 := notIn_eval sw shp5
        have n2 := in_eval sw shp2
        unfold W5 at n5
        unfold W2 at n2
        rw [n5]
        show _ = Res.ok (PyData.bool (inW W5 w && (numOk 0 (p - 1) a && (numOk 0 l c && (numOk (intV c) l e && (if inW W2 w = true then numOk 0 (p - 1) b && !decide (intV b = intV a) else numOk 0 (n - 1) b))))))
        by_cases q : inW W5 w = true
        · have hq : inW ["there", "seen", "never", "met", "apart"] w = true := q
          rw [inW_str q, q, hq]
          simp only [Bool.not_true, orR_f, ok_bind, boolD_bool, Bool.false_eq_true, if_false]
          show finR (do
            let z ← orR (nt (((allR [(.ok a), (.ok (.int 0)), (b2 subD (.ok (.int p)) (.ok (.int 1)))]) >>= F_is_number) >>= truD)) (orR (nt (((allR [(.ok c), (.ok (.int 0)), (.ok (.int l))]) >>= F_is_number) >>= truD)) (nt (((allR [(.ok e), (.ok c), (.ok (.int l))]) >>= F_is_number) >>= truD)))
            if z = true then onlyR (retR (.ok (.bool false))) else ((b2 inD (.ok w) (.ok (.tuple ([("met" : Str), ("apart" : Str)].map PyData.str))) >>= boolD) >>= fun z => if z = true then onlyR (retR (andV ((allR [(.ok b), (.ok (.int 0)), (b2 subD (.ok (.int p)) (.ok (.int 1)))]) >>= F_is_number) (b2 neD (.ok b) (.ok a)))) else (retR ((allR [(.ok b), (.ok (.int 0)), (b2 subD (.ok (.int n)) (.ok (.int 1)))]) >>= F_is_number)))) = _
          rw [n2]
          simp only [allR_ok, allR_nil, ok_bind, b2_ok, subI, boolD_bool]
          rw [is_number_ok ha, is_number_ok hc, is_number_ok hb, is_number_ok hb]
          simp only [ok_bind, truD_bool, nt_ok]
          by_cases q1 : numOk 0 (p - 1) a = true
          · obtain ⟨i, rfl, _, _⟩ := num_int q1
            by_cases q2 : numOk 0 l c = true
            · obtain ⟨j, rfl, _, _⟩ := num_int q2
              rw [is_number_ok he, q1, q2]
              simp only [ok_bind, truD_bool, nt_ok, Bool.not_true, orR_f, Bool.true_and]
              show finR ((if (!numOk j l e) = true then _ else _)) = Res.ok (PyData.bool (numOk j l e && _))
              by_cases q3 : numOk j l e = true
              · rw [q3]
                simp only [Bool.not_true, Bool.false_eq_true, if_false, Bool.true_and]
                show finR (if inW W2 w = true then _ else _) = _
                by_cases q4 : inW W2 w = true
                · rw [if_pos q4, if_pos q4, andV_bool]
                  by_cases q5 : numOk 0 (p - 1) b = true
                  · obtain ⟨t, rfl, _, _⟩ := num_int q5
                    rw [q5, neI]
                    rfl
                  · rw [Bool.not_eq_true] at q5
                    rw [q5]
                    rfl
                · rw [if_neg q4, if_neg q4]
                  rfl
              · rw [Bool.not_eq_true] at q3
                rw [q3]
                rfl
            · rw [Bool.not_eq_true] at q2
              rw [q1, q2]
              rfl
          · rw [Bool.not_eq_true] at q1
            rw [q1]
            rfl
        · rw [Bool.not_eq_true] at q
          have hq : inW ["there", "seen", "never", "met", "apart"] w = false := q
          rw [q, hq]
          cases isStr w <;> rfl
    · rw [show decide (xs.length = 5) = false from decide_eq_false e5, tellOk_len e5]
      rfl
  | _ => rfl
def townN : PyData → Int
  | .tuple (n :: _) => intV n
  | _ => 0
def caseOk : PyData → Bool
  | .tuple [t, p, l, .tuple ts] => townOk t && ((numOk 1 3 p && numOk 0 9 l) && (decide (ts.length ≤ 6) && ts.all (tellOk (townN t) (intV p) (intV l))))
  | _ => false
theorem townOk_inv {d : PyData} (h : townOk d = true) : ∃ n ws, d = .tuple [.int n, .tuple ws] ∧ 1 ≤ n ∧ n ≤ 5 ∧ ws.all (wayOk n) = true ∧ incr (ws.map pairOf) = true := by
  unfold townOk at h
  split at h
  · rename_i n ws
    rw [Bool.and_eq_true, Bool.and_eq_true] at h
    obtain ⟨i, rfl, h1, h2⟩ := num_int h.1
    exact ⟨i, ws, rfl, h1, h2, h.2.1, h.2.2⟩
  · cases h
theorem caseOk_len {xs : List PyData} (h : xs.length ≠ 4) : caseOk (.tuple xs) = false := by
  unfold caseOk
  split
  · rename_i heq
    cases heq
    exact absurd rfl h
  · rfl
theorem gt6 (xs : List PyData) : (b2 gtD ((allR [(.ok (.tuple xs))]) >>= lenC) (.ok (.int 6)) >>= boolD) = .ok (!decide (xs.length ≤ 6)) := by
  show Res.ok (decide ((6 : Int) < (xs.length : Nat))) = _
  congr 1
  rw [← decide_not]
  exact decide_eq_decide.mpr (by omega)
theorem is_case_ok {d : PyData} {m k : Nat} (hm : m ≤ 60) (hk : k ≤ 60) (h : gd m k d = true) : F_is_case [d] = .ok (.bool (caseOk d)) := by
  rw [F_is_case_eq]
  unfold m_is_case
  rw [ok_bind, isi_tuple (gd_notDic h), ok_bind, truD_bool, nt_ok]
  cases d with
  | tuple xs =>
    rw [show (!isTup (.tuple xs)) = false from rfl, orR_f, len_ne xs 4 4 rfl]
    by_cases e4 : xs.length = 4
    · obtain ⟨t, p, l, ts, rfl⟩ := len4 e4
      cases k with
      | zero => cases h
      | succ k =>
        obtain ⟨_, hg⟩ := gd_tup.mp h
        have gt := hg t (by simp)
        have hp := gd_notDic (hg p (by simp))
        have hl := gd_notDic (hg l (by simp))
        have gs := hg ts (by simp)
        rw [idx_tup [t, p, l, ts] 0 0 rfl rfl, show (!decide ([t, p, l, ts].length = 4)) = false from rfl, orR_f]
        simp only [allR_ok, allR_nil, ok_bind]
        rw [is_town_ok hm gt]
        simp only [ok_bind, truD_bool, nt_ok]
        by_cases q : townOk t = true
        · obtain ⟨n, ws, rfl, n1, n2, _⟩ := townOk_inv q
          rw [q]
          simp only [Bool.not_true, Bool.false_eq_true, if_false]
          show finR (do
            let z ← orR (nt (F_is_number [p, .int 1, .int 3] >>= truD)) (nt (F_is_number [l, .int 0, .int 9] >>= truD))
            if z = true then onlyR (retR (.ok (.bool false))) else ((orR (nt (((.ok ts) >>= isiD "tuple") >>= truD)) (b2 gtD ((allR [(.ok ts)]) >>= lenC) (.ok (.int 6)) >>= boolD)) >>= fun z => if z = true then onlyR (retR (.ok (.bool false))) else (retR ((allR [(asL (comR ((.ok ts) >>= seqOf) (fun d_7 => cel (.ok true) ((allR [(b2 idxD (.ok (.tuple [.int n, .tuple ws])) (.ok (.int 0))), (.ok p), (.ok l), (.ok d_7)]) >>= F_fits))))]) >>= allC)))) = _
          have it : ((Res.ok ts) >>= isiD "tuple") = .ok (.bool (isTup ts)) := isi_tuple (gd_notDic gs)
          rw [is_number_ok hp, is_number_ok hl, it, idx_tup [.int n, .tuple ws] 0 0 rfl rfl]
          simp only [ok_bind, truD_bool, nt_ok]
          by_cases q1 : numOk 1 3 p = true
          · obtain ⟨i, rfl, _, _⟩ := num_int q1
            by_cases q2 : numOk 0 9 l = true
            · obtain ⟨j, rfl, _, _⟩ := num_int q2
              rw [q1, q2]
              simp only [Bool.not_true, orR_f, ok_bind, Bool.false_eq_true, if_false]
              cases ts with
              | tuple ts =>
                rw [show (!isTup (.tuple ts)) = false from rfl, orR_f, gt6]
                show _ = Res.ok (PyData.bool (townOk (.tuple [.int n, .tuple ws]) && ((numOk 1 3 (.int i) && numOk 0 9 (.int j)) && (decide (ts.length ≤ 6) && ts.all (tellOk n i j)))))
                rw [q, q1, q2]
                by_cases q3 : ts.length ≤ 6
                · rw [decide_eq_true q3]
                  simp only [Bool.not_true, ok_bind, Bool.false_eq_true, if_false, Bool.true_and]
                  cases k with
                  | zero => cases gs
                  | succ k =>
                    obtain ⟨hls, hgs⟩ := gd_tup.mp gs
                    rw [show seqOf (.tuple ts) = .ok ts from rfl, comR_map (f := fun d => .bool (tellOk n i j d)) (Nat.le_trans (by omega) big60) fun d hd => by
                      simp only [allR_ok, allR_nil, ok_bind]
                      rw [fits_ok (k := k) (by omega) (hgs d hd), cel_t]]
                    rw [all_map]
                    rfl
                · rw [decide_eq_false q3]
                  rfl
              | _ => rfl
            · rw [Bool.not_eq_true] at q2
              have : caseOk (.tuple [.tuple [.int n, .tuple ws], .int i, l, ts]) = false := by
                unfold caseOk
                split
                · rename_i heq
                  cases heq
                  rw [q2]
                  simp
                · rfl
              rw [q1, q2, this]
              rfl
          · rw [Bool.not_eq_true] at q1
            have : caseOk (.tuple [.tuple [.int n, .tuple ws], p, l, ts]) = false := by
              unfold caseOk
              split
              · rename_i heq
                cases heq
                rw [q1]
                simp
              · rfl
            rw [q1, this]
            rfl
        · rw [Bool.not_eq_true] at q
          have : caseOk (.tuple [t, p, l, ts]) = false := by
            unfold caseOk
            split
            · rename_i heq
              cases heq
              rw [q, Bool.false_and]
            · rfl
          rw [q, this]
          rfl
    · rw [show decide (xs.length = 4) = false from decide_eq_false e4, caseOk_len e4]
      rfl
  | _ => rfl
end Lw
namespace Lw
open PySem PySem.Spec PyProof.Rows L2 Dt
def m_law_cell (law_script_1 law_k_2 : PyData) : Res (Out Empty) :=
  ((b2 nilS (.ok law_script_1) (asL ((allR []) >>= lstD)) >>= boolD) >>= fun z => if z = true then onlyR (retR (b2 mulE (.ok (.int 7)) (.ok law_k_2))) else (retR (b2 addD (b2 ixS (.ok law_script_1) (b2 modD (.ok law_k_2) ((.ok law_script_1) >>= lenS))) (b2 mulE (.ok (.int 6553)) (b2 fdivD (.ok law_k_2) ((.ok law_script_1) >>= lenS))))))
def g_law_cell : List PyData → Res (Out Empty)
  | [law_script_1, law_k_2] => m_law_cell law_script_1 law_k_2
  | _ => .stuck
def F_law_cell (ds : List PyData) : Res PyData := finR (g_law_cell ds)
theorem F_law_cell_eq (law_script_1 law_k_2 : PyData) : F_law_cell [law_script_1, law_k_2] = finR (m_law_cell law_script_1 law_k_2) := rfl
def m_law_drawn (law_script_1 law_k_2 law_many_3 : PyData) : Res (Out Empty) :=
  ((b2 modD (b2 addD (b2 mulE (b2 modD ((allR [(.ok law_script_1), (.ok law_k_2)]) >>= F_law_cell) (.ok (.int 2147483563))) (.ok (.int 69069))) (b2 mulE (.ok (.int 104723)) (b2 addD (.ok law_k_2) (.ok (.int 1))))) (.ok (.int 2147483563))) >>= fun law_cell_here_4 => ((b2 modD (b2 addD (b2 mulE (.ok law_cell_here_4) (.ok law_cell_here_4)) (b2 fdivD (.ok law_cell_here_4) (.ok (.int 3)))) (.ok (.int 2147483399))) >>= fun law_cell_here_5 => (retR (b2 modD (b2 fdivD (b2 modD (b2 addD (b2 mulE (.ok law_cell_here_5) (.ok law_cell_here_5)) (b2 fdivD (.ok law_cell_here_5) (.ok (.int 7)))) (.ok (.int 2147483647))) (.ok (.int 11))) (.ok law_many_3)))))
def g_law_drawn : List PyData → Res (Out Empty)
  | [law_script_1, law_k_2, law_many_3] => m_law_drawn law_script_1 law_k_2 law_many_3
  | _ => .stuck
def F_law_drawn (ds : List PyData) : Res PyData := finR (g_law_drawn ds)
theorem F_law_drawn_eq (law_script_1 law_k_2 law_many_3 : PyData) : F_law_drawn [law_script_1, law_k_2, law_many_3] = finR (m_law_drawn law_script_1 law_k_2 law_many_3) := rfl
def m_law_town (law_script_1 law_at_2 law_most_3 : PyData) : Res (Out Empty) :=
  ((b2 addD (.ok (.int 1)) ((allR [(.ok law_script_1), (.ok law_at_2), (.ok law_most_3)]) >>= F_law_drawn)) >>= fun law_many_4 => (((allR []) >>= lstD) >>= fun law_ways_5 => (((allR [(.ok law_many_4)]) >>= rng1) >>= fun ds => seqR (forD ds law_ways_5 fun d_7 (st_6 : List PyData) => (((allR [(b2 addD (.ok d_7) (.ok (.int 1))), (.ok law_many_4)]) >>= rng2) >>= fun ds => seqR (forD ds st_6 fun d_9 (st_8 : List PyData) => ((b2 gtD ((allR [(.ok law_script_1), (b2 addD (b2 addD (b2 addD (.ok law_at_2) (.ok (.int 1))) (b2 mulE (.ok (.int 4)) (.ok d_7))) (.ok d_9)), (.ok (.int 4))]) >>= F_law_drawn) (.ok (.int 0)) >>= boolD) >>= fun z => seqR (if z = true then (((allR [(.ok d_7), (.ok d_9), (b2 idxD (asL ((allR [(.ok (.int 1)), (.ok (.int 1)), (.ok (.int 2))]) >>= lstD)) ((allR [(.ok law_script_1), (b2 addD (b2 addD (b2 addD (.ok law_at_2) (.ok (.int 20))) (b2 mulE (.ok (.int 4)) (.ok d_7))) (.ok d_9)), (.ok (.int 3))]) >>= F_law_drawn))]) >>= tupD) >>= fun d_11 => appR st_8 d_11 >>= fun law_ways_12 => (.ok (.nx law_ways_12))) else (.ok (.nx st_8))) fun (st_10 : List PyData) => (.ok (.nx st_10)))) fun (st_8 : List PyData) => (.ok (.nx st_8)))) fun (st_6 : List PyData) => (retR ((allR [(.ok law_many_4), ((allR [(.ok (.list st_6))]) >>= tupC)]) >>= tupD)))))
def g_law_town : List PyData → Res (Out Empty)
  | [law_script_1, law_at_2, law_most_3] => m_law_town law_script_1 law_at_2 law_most_3
  | _ => .stuck
def F_law_town (ds : List PyData) : Res PyData := finR (g_law_town ds)
theorem F_law_town_eq (law_script_1 law_at_2 law_most_3 : PyData) : F_law_town [law_script_1, law_at_2, law_most_3] = finR (m_law_town law_script_1 law_at_2 law_most_3) := rfl
def m_law_telling (law_script_1 law_at_2 law_many_3 law_persons_4 law_last_5 : PyData) : Res (Out Empty) :=
  ((sl3 (asL ((allR [(.ok (.str "there")), (.ok (.str "seen")), (.ok (.str "seen")), (.ok (.str "never")), (.ok (.str "met")), (.ok (.str "apart"))]) >>= lstD)) (.ok none) ((b2 addD (.ok (.int 4)) (b2 mulE (.ok (.int 2)) ((allR [(b2 gtD (.ok law_persons_4) (.ok (.int 1)))]) >>= intC))) >>= partD)) >>= fun law_words_6 => ((b2 idxD (.ok law_words_6) ((allR [(.ok law_script_1), (.ok law_at_2), ((allR [(.ok law_words_6)]) >>= lenC)]) >>= F_law_drawn)) >>= fun law_word_7 => (((allR [(.ok law_script_1), (b2 addD (.ok law_at_2) (.ok (.int 1))), (.ok law_persons_4)]) >>= F_law_drawn) >>= fun law_who_8 => (((allR [(.ok law_script_1), (b2 addD (.ok law_at_2) (.ok (.int 3))), (b2 addD (.ok law_last_5) (.ok (.int 1)))]) >>= F_law_drawn) >>= fun law_first_9 => ((b2 addD (.ok law_first_9) ((allR [(.ok law_script_1), (b2 addD (.ok law_at_2) (.ok (.int 4))), (b2 addD (b2 subD (.ok law_last_5) (.ok law_first_9)) (.ok (.int 1)))]) >>= F_law_drawn)) >>= fun law_end_10 => (((allR [(.ok law_script_1), (b2 addD (.ok law_at_2) (.ok (.int 2))), (.ok law_many_3)]) >>= F_law_drawn) >>= fun law_what_11 => ((b2 inD (.ok law_word_7) ((allR [(.ok (.str "met")), (.ok (.str "apart"))]) >>= tupD) >>= boolD) >>= fun z => seqR (if z = true then ((b2 modD (b2 addD (b2 addD (.ok law_who_8) (.ok (.int 1))) ((allR [(.ok law_script_1), (b2 addD (.ok law_at_2) (.ok (.int 2))), (b2 subD (.ok law_persons_4) (.ok (.int 1)))]) >>= F_law_drawn)) (.ok law_persons_4)) >>= fun law_what_13 => (.ok (.nx law_what_13))) else (.ok (.nx law_what_11))) fun (st_12 : PyData) => (retR ((allR [(.ok law_word_7), (.ok law_who_8), (.ok st_12), (.ok law_first_9), (.ok law_end_10)]) >>= tupD)))))))))
def g_law_telling : List PyData → Res (Out Empty)
  | [law_script_1, law_at_2, law_many_3, law_persons_4, law_last_5] => m_law_telling law_script_1 law_at_2 law_many_3 law_persons_4 law_last_5
  | _ => .stuck
def F_law_telling (ds : List PyData) : Res PyData := finR (g_law_telling ds)
theorem F_law_telling_eq (law_script_1 law_at_2 law_many_3 law_persons_4 law_last_5 : PyData) : F_law_telling [law_script_1, law_at_2, law_many_3, law_persons_4, law_last_5] = finR (m_law_telling law_script_1 law_at_2 law_many_3 law_persons_4 law_last_5) := rfl
def m_law_case (law_script_1 law_at_2 law_most_3 : PyData) : Res (Out Empty) :=
  (((allR [(.ok law_script_1), (.ok law_at_2), (.ok (.int 3))]) >>= F_law_town) >>= fun law_town_here_4 => ((b2 addD (.ok (.int 1)) ((allR [(.ok law_script_1), (b2 addD (.ok law_at_2) (.ok (.int 40))), (.ok (.int 2))]) >>= F_law_drawn)) >>= fun law_persons_5 => (((allR [(.ok law_script_1), (b2 addD (.ok law_at_2) (.ok (.int 41))), (b2 subD (.ok (.int 5)) (.ok law_persons_5))]) >>= F_law_drawn) >>= fun law_last_6 => (((allR []) >>= lstD) >>= fun law_tellings_7 => (((allR [((allR [(.ok law_script_1), (b2 addD (.ok law_at_2) (.ok (.int 42))), (b2 addD (.ok law_most_3) (.ok (.int 1)))]) >>= F_law_drawn)]) >>= rng1) >>= fun ds => seqR (forD ds law_tellings_7 fun d_9 (st_8 : List PyData) => (((allR [(.ok law_script_1), (b2 addD (b2 addD (.ok law_at_2) (.ok (.int 43))) (b2 mulE (.ok (.int 5)) (.ok d_9))), (b2 idxD (.ok law_town_here_4) (.ok (.int 0))), (.ok law_persons_5), (.ok law_last_6)]) >>= F_law_telling) >>= fun d_10 => appR st_8 d_10 >>= fun law_tellings_11 => (.ok (.nx law_tellings_11)))) fun (st_8 : List PyData) => (retR ((allR [(.ok law_town_here_4), (.ok law_persons_5), (.ok law_last_6), ((allR [(.ok (.list st_8))]) >>= tupC)]) >>= tupD)))))))
def g_law_case : List PyData → Res (Out Empty)
  | [law_script_1, law_at_2, law_most_3] => m_law_case law_script_1 law_at_2 law_most_3
  | _ => .stuck
def F_law_case (ds : List PyData) : Res PyData := finR (g_law_case ds)
theorem F_law_case_eq (law_script_1 law_at_2 law_most_3 : PyData) : F_law_case [law_script_1, law_at_2, law_most_3] = finR (m_law_case law_script_1 law_at_2 law_most_3) := rfl
def m_law_steps (law_town_here_1 law_stand_2 : PyData) : Res (Out Empty) :=
  ((b2 gtD (b2 idxD (.ok law_stand_2) (.ok (.int 1))) (.ok (.int 0)) >>= boolD) >>= fun z => if z = true then onlyR (retR (asL ((allR [((allR [(b2 idxD (.ok law_stand_2) (.ok (.int 0))), (b2 subD (b2 idxD (.ok law_stand_2) (.ok (.int 1))) (.ok (.int 1)))]) >>= tupD)]) >>= lstD))) else (((allR [(.ok law_stand_2)]) >>= lstD) >>= fun law_found_3 => (((b2 idxD (.ok law_town_here_1) (.ok (.int 1))) >>= seqOf) >>= fun ds => seqR (forD ds law_found_3 fun d_5 (st_4 : List PyData) => (unp3 d_5 fun law_one_6 law_other_7 law_time_8 => ((b2 eqD (b2 idxD (.ok law_stand_2) (.ok (.int 0))) (.ok law_one_6) >>= boolD) >>= fun z => seqR (if z = true then (((allR [(.ok law_other_7), (b2 subD (.ok law_time_8) (.ok (.int 1)))]) >>= tupD) >>= fun d_10 => appR st_4 d_10 >>= fun law_found_11 => (.ok (.nx law_found_11))) else (.ok (.nx st_4))) fun (st_9 : List PyData) => ((b2 eqD (b2 idxD (.ok law_stand_2) (.ok (.int 0))) (.ok law_other_7) >>= boolD) >>= fun z => seqR (if z = true then (((allR [(.ok law_one_6), (b2 subD (.ok law_time_8) (.ok (.int 1)))]) >>= tupD) >>= fun d_13 => appR st_9 d_13 >>= fun law_found_14 => (.ok (.nx law_found_14))) else (.ok (.nx st_9))) fun (st_12 : List PyData) => (.ok (.nx st_12)))))) fun (st_4 : List PyData) => (retR (asL ((allR [(.ok (.list st_4))]) >>= sortE))))))
def g_law_steps : List PyData → Res (Out Empty)
  | [law_town_here_1, law_stand_2] => m_law_steps law_town_here_1 law_stand_2
  | _ => .stuck
def F_law_steps (ds : List PyData) : Res PyData := finR (g_law_steps ds)
theorem F_law_steps_eq (law_town_here_1 law_stand_2 : PyData) : F_law_steps [law_town_here_1, law_stand_2] = finR (m_law_steps law_town_here_1 law_stand_2) := rfl
def m_law_days (law_town_here_1 law_last_2 : PyData) : Res (Out Empty) :=
  (comR ((allR [(b2 idxD (.ok law_town_here_1) (.ok (.int 0)))]) >>= rng1) (fun d_4 => cel (.ok true) ((allR [((allR [(.ok d_4), (.ok (.int 0))]) >>= tupD)]) >>= tupD)) >>= fun law_found_3 => (((allR [(.ok law_last_2)]) >>= rng1) >>= fun ds => seqR (forD ds (PyData.list law_found_3) fun d_7 (st_6 : PyData) => (((allR []) >>= lstD) >>= fun law_longer_18 => (((.ok st_6) >>= seqE) >>= fun ds => seqR (forD ds (PyData.list law_longer_18) fun d_20 (st_19 : PyData) => ((b2 addD (.ok st_19) (asL (comR (((allR [(.ok law_town_here_1), (b2 idxD (.ok d_20) ((.ok (.int 1)) >>= negD))]) >>= F_law_steps) >>= seqOf) (fun d_25 => cel (.ok true) (b2 addD (.ok d_20) ((allR [(.ok d_25)]) >>= tupD)))))) >>= fun law_longer_24 => (.ok (.nx law_longer_24)))) fun (st_19 : PyData) => ((.ok st_19) >>= fun law_found_27 => (.ok (.nx law_found_27)))))) fun (st_6 : PyData) => (retR (.ok st_6))))
def g_law_days : List PyData → Res (Out Empty)
  | [law_town_here_1, law_last_2] => m_law_days law_town_here_1 law_last_2
  | _ => .stuck
def F_law_days (ds : List PyData) : Res PyData := finR (g_law_days ds)
theorem F_law_days_eq (law_town_here_1 law_last_2 : PyData) : F_law_days [law_town_here_1, law_last_2] = finR (m_law_days law_town_here_1 law_last_2) := rfl
end Lw
namespace Lw
open PySem PySem.Spec PyProof.Rows L2 Dt
theorem mulE_small {i j : Int} (h : -(2 ^ 64) < i ∧ i < 2 ^ 64 ∨ -(2 ^ 64) < j ∧ j < 2 ^ 64) : mulE (.int i) (.int j) = .ok (.int (i * j)) := mul_small h

theorem cell_ok (ns : List Int) (hl : ns.length ≤ 63) (k : Int) : ∃ c, F_law_cell [scrD ns, .int k] = .ok (.int c) := by
  rw [F_law_cell_eq]
  unfold m_law_cell
  cases ns with
  | nil =>
    refine ⟨7 * k, ?_⟩
    have e : nilS (scrD []) (.list []) = .ok (.bool true) := rfl
    simp only [b2, asL, allR, lstD, ok_bind, List.length_nil, Nat.zero_le, if_true, e, boolD, onlyR, retR]
    rw [mulE_small (.inl (by decide))]
    rfl
  | cons n ns =>
    have e : nilS (scrD (n :: ns)) (.list []) = .ok (.bool false) := rfl
    have hp : (0 : Int) < ((n :: ns).length : Nat) := by simp only [List.length_cons]; omega
    have hm : (((n :: ns).map PyData.int).length : Int) = ((n :: ns).length : Nat) := by rw [List.length_map]
    have h0 := Int.emod_nonneg k (Int.ne_of_gt hp)
    have h1 := Int.emod_lt_of_pos k hp
    have hlt : (k % ((n :: ns).length : Nat)).toNat < (n :: ns).length := by omega
    have e2 : lenS (scrD (n :: ns)) = .ok (.int ((n :: ns).length : Nat)) := by
      unfold lenS
      rw [scrV_D]
      show Res.ok (PyData.int (((n :: ns).map PyData.int).length : Int)) = _
      rw [hm]
    have e3 : ixS (scrD (n :: ns)) (.int (k % ((n :: ns).length : Nat))) = .ok (.int ((n :: ns)[(k % ((n :: ns).length : Nat)).toNat])) := by
      unfold ixS
      rw [scrV_D]
      dsimp only
      rw [if_pos h0, List.getElem?_map, List.getElem?_eq_getElem hlt]
      rfl
    refine ⟨(n :: ns)[(k % ((n :: ns).length : Nat)).toNat] + 6553 * (k / ((n :: ns).length : Nat)), ?_⟩
    simp only [b2, asL, allR, lstD, ok_bind, List.length_nil, Nat.zero_le, if_true, e, boolD, retR, e2]
    rw [mod_pos hp, fdiv_pos hp (by omega)]
    simp only [ok_bind, e3, if_false, Bool.false_eq_true]
    rw [mulE_small (.inl (by decide))]
    rfl
theorem drawn_ok (ns : List Int) (hl : ns.length ≤ 63) (k m : Int) (hm : 0 < m) : ∃ d, F_law_drawn [scrD ns, .int k, .int m] = .ok (.int d) ∧ 0 ≤ d ∧ d < m := by
  obtain ⟨c, hc⟩ := cell_ok ns hl k
  rw [F_law_drawn_eq]
  unfold m_law_drawn
  simp only [b2, allR, ok_bind, hc, retR]
  rw [mod_pos (by decide)]
  simp only [ok_bind]
  rw [mulE_small (.inr (by decide)), ]
  simp only [ok_bind]
  have ea : ∀ i j : Int, addD (.int i) (.int j) = .ok (.int (i + j)) := fun _ _ => rfl
  rw [ea]
  simp only [ok_bind]
  rw [mulE_small (.inl (by decide))]
  simp only [ok_bind, ea]
  rw [mod_pos (by decide)]
  generalize hx : (c % 2147483563 * 69069 + 104723 * (k + 1)) % 2147483563 = x
  have x0 : 0 ≤ x ∧ x < 2147483563 := by rw [← hx]; exact ⟨Int.emod_nonneg _ (by decide), Int.emod_lt_of_pos _ (by decide)⟩
  simp only [ok_bind]
  rw [mulE_small (.inl (by omega)), fdiv_pos (by decide) (by decide)]
  simp only [ok_bind, ea]
  rw [mod_pos (by decide)]
  generalize hy : (x * x + x / 3) % 2147483399 = y
  have y0 : 0 ≤ y ∧ y < 2147483399 := by rw [← hy]; exact ⟨Int.emod_nonneg _ (by decide), Int.emod_lt_of_pos _ (by decide)⟩
  simp only [ok_bind]
  rw [mulE_small (.inl (by omega)), fdiv_pos (by decide) (by decide)]
  simp only [ok_bind, ea]
  rw [mod_pos (by decide)]
  simp only [ok_bind]
  rw [fdiv_pos (by decide) (by decide)]
  simp only [ok_bind]
  rw [mod_pos hm]
  exact ⟨_, rfl, Int.emod_nonneg _ (Int.ne_of_gt hm), Int.emod_lt_of_pos _ hm⟩

structure Ways (n : Int) (c : Int) (l : Nat) (ws : List PyData) : Prop where
  ok : ∀ w ∈ ws, wayOk n w = true
  inc : incr (ws.map pairOf) = true
  lt : ∀ w ∈ ws, _root_.TS.code 4096 (pairOf w) < c
  len : ws.length ≤ l
  two : ∀ w ∈ ws, ∃ a b t : Int, w = .tuple [.int a, .int b, .int t] ∧ t ≤ 2
theorem way_pair {n : Int} {w : PyData} (h : wayOk n w = true) (h5 : n ≤ 5) : pairOk (pairOf w) := by
  obtain ⟨i, j, t, rfl, h1, h2, h3, h4, h5⟩ := wayOk_inv h
  exact ⟨i, j, rfl, by omega, by omega⟩
theorem Ways.add {n c c' : Int} {l : Nat} {ws : List PyData} {i j t : Int} (h : Ways n c l ws) (h5 : n ≤ 5) (ht2 : t ≤ 2) (hw : wayOk n (.tuple [.int i, .int j, .int t]) = true) (hc : c ≤ i * 4096 + j) (hc' : i * 4096 + j < c') :
    Ways n c' (l + 1) (ws ++ [.tuple [.int i, .int j, .int t]]) := by
  have pk : ∀ x ∈ ws.map pairOf, pairOk x := fun x hx => by
    obtain ⟨w, hw, rfl⟩ := List.mem_map.mp hx
    exact way_pair (h.ok w hw) h5
  have pn : pairOk [i, j] := way_pair hw h5
  refine ⟨fun w hw' => ?_, ?_, fun w hw' => ?_, by rw [List.length_append]; have := h.len; simp; omega, fun w hw' => ?_⟩
  · rcases List.mem_append.mp hw' with e | e
    · exact h.ok w e
    · rw [List.mem_singleton.mp e]; exact hw
  · rw [List.map_append]
    show incr (ws.map pairOf ++ [[i, j]]) = true
    rw [incr_pw fun x hx => (List.mem_append.mp hx).elim (pk x) fun e => by rw [List.mem_singleton.mp e]; exact pn]
    refine List.pairwise_append.mpr ⟨(incr_pw pk).mp h.inc, List.pairwise_singleton _ _, fun x hx y hy => ?_⟩
    rw [List.mem_singleton.mp hy, code2]
    obtain ⟨w, hw, rfl⟩ := List.mem_map.mp hx
    exact Int.lt_of_lt_of_le (h.lt w hw) hc
  · rcases List.mem_append.mp hw' with e | e
    · have := h.lt w e
      omega
    · rw [List.mem_singleton.mp e]
      show _root_.TS.code 4096 [i, j] < c'
      rw [code2]
      exact hc'
  · rcases List.mem_append.mp hw' with e | e
    · exact h.two w e
    · exact ⟨i, j, t, List.mem_singleton.mp e, ht2⟩
theorem Ways.up {n c c' : Int} {l l' : Nat} {ws : List PyData} (h : Ways n c l ws) (hc : c ≤ c') (hl : l ≤ l') : Ways n c' l' ws :=
  ⟨h.ok, h.inc, fun w hw => Int.lt_of_lt_of_le (h.lt w hw) hc, Nat.le_trans h.len hl, h.two⟩
theorem one_of_three (d : Int) (h : 0 ≤ d ∧ d < 3) : ∃ t, b2 idxD (asL ((allR [(.ok (.int 1)), (.ok (.int 1)), (.ok (.int 2))]) >>= lstD)) (.ok (.int d)) = .ok (.int t) ∧ 1 ≤ t ∧ t ≤ 2 := by
  have e : asL ((allR [(.ok (.int 1)), (.ok (.int 1)), (.ok (.int 2))]) >>= lstD) = .ok (.list [.int 1, .int 1, .int 2]) := by
    show asL (lstD [.int 1, .int 1, .int 2]) = _
    rw [lstD_ok (Nat.le_trans (by decide) big60)]
    rfl
  rw [e, b2_ok]
  have hd : d = 0 ∨ d = 1 ∨ d = 2 := by omega
  rcases hd with rfl | rfl | rfl
  · exact ⟨1, rfl, by decide, by decide⟩
  · exact ⟨1, rfl, by decide, by decide⟩
  · exact ⟨2, rfl, by decide, by decide⟩
def town_in (scr at' one other : PyData) (st_8 : List PyData) : Res (Out (List PyData)) :=
  ((b2 gtD ((allR [(.ok scr), (b2 addD (b2 addD (b2 addD (.ok at') (.ok (.int 1))) (b2 mulE (.ok (.int 4)) (.ok one))) (.ok other)), (.ok (.int 4))]) >>= F_law_drawn) (.ok (.int 0)) >>= boolD) >>= fun z => seqR (if z = true then (((allR [(.ok one), (.ok other), (b2 idxD (asL ((allR [(.ok (.int 1)), (.ok (.int 1)), (.ok (.int 2))]) >>= lstD)) ((allR [(.ok scr), (b2 addD (b2 addD (b2 addD (.ok at') (.ok (.int 20))) (b2 mulE (.ok (.int 4)) (.ok one))) (.ok other)), (.ok (.int 3))]) >>= F_law_drawn))]) >>= Dt.tupD) >>= fun d_11 => appR st_8 d_11 >>= fun law_ways_12 => (.ok (.nx law_ways_12))) else (.ok (.nx st_8))) fun (st_10 : List PyData) => (.ok (.nx st_10)))
def town_out (scr at' many one : PyData) (st_6 : List PyData) : Res (Out (List PyData)) :=
  (((allR [(b2 addD (.ok one) (.ok (.int 1))), (.ok many)]) >>= rng2) >>= fun ds => seqR (forD ds st_6 fun d_9 (st_8 : List PyData) => town_in scr at' one d_9 st_8) fun (st_8 : List PyData) => (.ok (.nx st_8)))
theorem town_in_ok (ns : List Int) (hl : ns.length ≤ 63) (at' n i j : Int) {l : Nat} {ws : List PyData} (h : Ways n (i * 4096 + j) l ws) (h5 : n ≤ 5) (hi : 0 ≤ i) (hij : i < j) (hj : j < n) (hs : l < 60) :
    ∃ ws', town_in (scrD ns) (.int at') (.int i) (.int j) ws = .ok (.nx ws') ∧ Ways n (i * 4096 + (j + 1)) (l + 1) ws' := by
  unfold town_in
  obtain ⟨d1, e1, h1a, h1b⟩ := drawn_ok ns hl (at' + 1 + 4 * i + j) 4 (by decide)
  obtain ⟨d2, e2, h2a, h2b⟩ := drawn_ok ns hl (at' + 20 + 4 * i + j) 3 (by decide)
  obtain ⟨t, e3, t1, t2⟩ := one_of_three d2 ⟨h2a, h2b⟩
  simp only [b2_ok, addI, ok_bind]
  rw [mulE_small (.inl (by decide))]
  simp only [ok_bind, b2_ok, addI, allR_ok, allR_nil, e1, e2, gtI, boolD_bool]
  simp only [allR_ok, allR_nil, ok_bind] at e3
  by_cases z : 0 < d1
  · rw [decide_eq_true z, if_pos (by rfl), e3]
    simp only [allR_ok, allR_nil, ok_bind, tD3]
    rw [appR_ok (Nat.lt_of_lt_of_le (Nat.lt_of_le_of_lt h.len hs) big60)]
    refine ⟨_, rfl, h.add h5 (by omega) ?_ (Int.le_refl _) (by omega)⟩
    show ((decide (0 ≤ i) && decide (i ≤ n - 1)) && ((decide (i + 1 ≤ j) && decide (j ≤ n - 1)) && (decide (1 ≤ t) && decide (t ≤ 4)))) = true
    simp only [Bool.and_eq_true, decide_eq_true_eq]
    exact ⟨⟨hi, by omega⟩, ⟨by omega, by omega⟩, t1, by omega⟩
  · rw [decide_eq_false z, if_neg (by decide)]
    exact ⟨ws, rfl, h.up (by omega) (by omega)⟩
theorem town_out_ok (ns : List Int) (hl : ns.length ≤ 63) (at' n i : Int) {l : Nat} {ws : List PyData} (h : Ways n (i * 4096) l ws) (h5 : n ≤ 5) (hi : 0 ≤ i) (hn : i < n) (hs : l ≤ 50) :
    ∃ ws', town_out (scrD ns) (.int at') (.int n) (.int i) ws = .ok (.nx ws') ∧ Ways n ((i + 1) * 4096) (l + 5) ws' := by
  unfold town_out
  have er : rng2 [.int (i + 1), .int n] = .ok (rangeL (i + 1) (n - (i + 1)).toNat) := by
    show (if (-(2 ^ 62) ≤ (i + 1) ∧ (i + 1) < 2 ^ 62) ∧ -(2 ^ 62) ≤ n ∧ n < 2 ^ 62 then Res.ok (rangeL (i + 1) (n - (i + 1)).toNat) else .stuck) = _
    rw [if_pos (by omega)]
  simp only [b2_ok, addI, ok_bind, allR_ok, allR_nil, er]
  obtain ⟨ws', ew, hw⟩ := forD_range (f := fun d_9 (st_8 : List PyData) => town_in (scrD ns) (.int at') (.int i) d_9 st_8) (fun (j : Int) (ws : List PyData) => Ways n (i * 4096 + j) (l + (j - (i + 1)).toNat) ws) (i + 1) (n - (i + 1)).toNat ws (h.up (by omega) (by omega)) fun j ws2 j1 j2 h2 => by
    obtain ⟨ws3, e3, h3⟩ := town_in_ok ns hl at' n i j h2 h5 hi (by omega) (by omega) (by omega)
    exact ⟨ws3, e3, h3.up (by omega) (by omega)⟩
  rw [ew, seqR_nx]
  exact ⟨ws', rfl, hw.up (by omega) (by omega)⟩
theorem town_ok (ns : List Int) (hl : ns.length ≤ 63) (at' most : Int) (h0 : 0 < most) (h5 : most ≤ 5) :
    ∃ n ws, F_law_town [scrD ns, .int at', .int most] = .ok (.tuple [.int n, .tuple ws]) ∧ 1 ≤ n ∧ n ≤ most ∧ Ways n (n * 4096) (n.toNat * 5) ws := by
  rw [F_law_town_eq]
  unfold m_law_town
  obtain ⟨d0, e0, d0a, d0b⟩ := drawn_ok ns hl at' most h0
  simp only [allR_ok, allR_nil, ok_bind, e0, b2_ok, addI]
  rw [lstD_ok (Nat.zero_le _)]
  simp only [ok_bind]
  generalize hn : (1 + d0 : Int) = n
  have n1 : 1 ≤ n := by omega
  have n2 : n ≤ 5 := by omega
  have er : rng1 [.int n] = .ok (rangeL 0 n.toNat) := by
    show (if -(2 ^ 62) ≤ n ∧ n < 2 ^ 62 then Res.ok (rangeL 0 n.toNat) else .stuck) = _
    rw [if_pos (by omega)]
  rw [er]
  simp only [ok_bind]
  obtain ⟨ws, ew, hw⟩ := forD_range (f := fun d_7 (st_6 : List PyData) => town_out (scrD ns) (.int at') (.int n) d_7 st_6) (fun (i : Int) (ws : List PyData) => Ways n (i * 4096) (i.toNat * 5) ws)
    0 n.toNat [] ⟨fun w h => (by cases h), rfl, fun w h => (by cases h), Nat.zero_le _, fun w h => (by cases h)⟩ fun i ws2 h1 h2 h3 => by
    obtain ⟨ws3, e3, h3⟩ := town_out_ok ns hl at' n i h3 n2 h1 (by omega) (by omega)
    exact ⟨ws3, e3, h3.up (by omega) (by omega)⟩
  unfold town_out town_in at ew
  try simp only [allR_ok, allR_nil, ok_bind, b2_ok, addI] at ew
  rw [ew, seqR_nx]
  rw [show tupC [.list ws] = .ok (.tuple ws) from rfl]
  simp only [allR_ok, allR_nil, ok_bind, tD2]
  refine ⟨n, ws, rfl, n1, by omega, hw.up (by omega) (by omega)⟩

def L6 : List PyData := [.str "there", .str "seen", .str "seen", .str "never", .str "met", .str "apart"]
theorem words_cut (p : Int) (h1 : 1 ≤ p) : (sl3 (asL ((allR [(.ok (.str "there")), (.ok (.str "seen")), (.ok (.str "seen")), (.ok (.str "never")), (.ok (.str "met")), (.ok (.str "apart"))]) >>= lstD)) (.ok none) ((b2 addD (.ok (.int 4)) (b2 mulE (.ok (.int 2)) ((allR [(b2 gtD (.ok (.int p)) (.ok (.int 1)))]) >>= intC))) >>= partD)) = .ok (.list (L6.take (if 1 < p then 6 else 4))) := by
  have e : asL ((allR [(.ok (.str "there")), (.ok (.str "seen")), (.ok (.str "seen")), (.ok (.str "never")), (.ok (.str "met")), (.ok (.str "apart"))]) >>= lstD) = .ok (.list L6) := by
    show asL (lstD L6) = _
    rw [lstD_ok (Nat.le_trans (show 6 ≤ 60 by decide) big60)]
    rfl
  rw [e]
  have e2 : b2 addD (.ok (.int 4)) (b2 mulE (.ok (.int 2)) ((allR [(b2 gtD (.ok (.int p)) (.ok (.int 1)))]) >>= intC)) = .ok (.int (((if 1 < p then 6 else 4 : Nat)) : Int)) := by
    by_cases z : 1 < p
    · have : b2 gtD (.ok (.int p)) (.ok (.int 1)) = .ok (.bool true) := by rw [b2_ok, gtI, decide_eq_true z]
      rw [this, if_pos z]
      rfl
    · have : b2 gtD (.ok (.int p)) (.ok (.int 1)) = .ok (.bool false) := by rw [b2_ok, gtI, decide_eq_false z]
      rw [this, if_neg z]
      rfl
  rw [e2]
  exact slL_to L6 _ _ rfl
theorem idx_mem (xs : List PyData) (d : Int) (h0 : 0 ≤ d) (h1 : d < (xs.length : Nat)) : ∃ w, b2 idxD (.ok (.list xs)) (.ok (.int d)) = .ok w ∧ w ∈ xs := by
  obtain ⟨k, rfl⟩ : ∃ k : Nat, d = k := ⟨d.toNat, by omega⟩
  have hlt : k < xs.length := by omega
  refine ⟨xs[k], ?_, List.getElem_mem hlt⟩
  rw [b2_ok]
  unfold idxD
  dsimp only
  rw [atI_nat (List.getElem?_eq_getElem hlt)]
theorem L6_str : ∀ w ∈ L6, ∃ s, w = .str s ∧ shp (.str s) = true ∧ inW W5 (.str s) = true := fun w hw => by
  have : ∀ s ∈ (["there", "seen", "seen", "never", "met", "apart"] : List Str), shp (.str s) = true ∧ inW W5 (.str s) = true := by decide +kernel
  unfold L6 at hw
  obtain ⟨s, hs, rfl⟩ : ∃ s ∈ (["there", "seen", "seen", "never", "met", "apart"] : List Str), w = .str s := by
    simp only [List.mem_cons, List.not_mem_nil, or_false] at hw
    rcases hw with rfl | rfl | rfl | rfl | rfl | rfl
    · exact ⟨_, by simp, rfl⟩
    · exact ⟨_, by simp, rfl⟩
    · exact ⟨_, by simp, rfl⟩
    · exact ⟨_, by simp, rfl⟩
    · exact ⟨_, by simp, rfl⟩
    · exact ⟨_, by simp, rfl⟩
  exact ⟨s, rfl, this s hs⟩
theorem L4_no : ∀ w ∈ L6.take 4, inW W2 w = false := fun w hw => by
  have : ∀ s ∈ (["there", "seen", "seen", "never"] : List Str), inW W2 (.str s) = false := by decide +kernel
  have e : L6.take 4 = [.str "there", .str "seen", .str "seen", .str "never"] := rfl
  rw [e] at hw
  simp only [List.mem_cons, List.not_mem_nil, or_false] at hw
  rcases hw with rfl | rfl | rfl | rfl
  · exact this _ (by simp)
  · exact this _ (by simp)
  · exact this _ (by simp)
  · exact this _ (by simp)
structure Tell (n p l : Int) (d : PyData) : Prop where
  ok : tellOk n p l d = true
  gd : gd 8 1 d = true
theorem telling_ok (ns : List Int) (hl : ns.length ≤ 63) (at' n p l : Int) (hn : 1 ≤ n) (hp : 1 ≤ p) (hp2 : p ≤ 2) (h0 : 0 ≤ l) :
    ∃ d, F_law_telling [scrD ns, .int at', .int n, .int p, .int l] = .ok d ∧ Tell n p l d := by
  rw [F_law_telling_eq]
  unfold m_law_telling
  rw [words_cut p hp]
  have hlen : ((L6.take (if 1 < p then 6 else 4)).length : Nat) = if 1 < p then 6 else 4 := by split <;> rfl
  have hsub : ∀ w ∈ L6.take (if 1 < p then 6 else 4), w ∈ L6 := fun w hw => List.mem_of_mem_take hw
  have hno : p = 1 → ∀ w ∈ L6.take (if 1 < p then 6 else 4), inW W2 w = false := fun e => by
    subst e
    exact L4_no
  generalize hL : L6.take (if 1 < p then 6 else 4) = L at hlen hsub hno
  have hpos : (0 : Int) < (L.length : Nat) := by rw [hlen]; split <;> omega
  obtain ⟨d0, e0, a0, b0⟩ := drawn_ok ns hl at' (L.length : Nat) hpos
  obtain ⟨w, ew, hw⟩ := idx_mem L d0 a0 b0
  obtain ⟨s, rfl, sw, w5⟩ := L6_str w (hsub w hw)
  obtain ⟨d1, e1, a1, b1⟩ := drawn_ok ns hl (at' + 1) p (by omega)
  obtain ⟨d3, e3, a3, b3⟩ := drawn_ok ns hl (at' + 3) (l + 1) (by omega)
  obtain ⟨d4, e4, a4, b4⟩ := drawn_ok ns hl (at' + 4) (l - d3 + 1) (by omega)
  obtain ⟨d2, e2, a2, b2'⟩ := drawn_ok ns hl (at' + 2) n (by omega)
  have elen : lenC [.list L] = .ok (.int (L.length : Nat)) := rfl
  rw [words2]
  simp only [ok_bind, allR_ok, allR_nil, elen, e0]
  rw [ew, ok_bind, in_eval sw shp2]
  simp only [b2_ok, ok_bind, allR_ok, allR_nil, addI, subI, e1, e2, e3, e4, boolD_bool]
  have fin : ∀ b : Int, (inW W2 (.str s) = true → 0 ≤ b ∧ b < p ∧ b ≠ d1) → (inW W2 (.str s) = false → 0 ≤ b ∧ b < n) → Tell n p l (.tuple [.str s, .int d1, .int b, .int d3, .int (d3 + d4)]) := fun b h1 h2 => by
    refine ⟨?_, ?_⟩
    · show (inW W5 (.str s) && ((decide (0 ≤ d1) && decide (d1 ≤ p - 1)) && ((decide (0 ≤ d3) && decide (d3 ≤ l)) && ((decide (d3 ≤ d3 + d4) && decide (d3 + d4 ≤ l)) && (if inW W2 (.str s) = true then (decide (0 ≤ b) && decide (b ≤ p - 1)) && !decide (b = d1) else (decide (0 ≤ b) && decide (b ≤ n - 1))))))) = true
      rw [w5, decide_eq_true a1, decide_eq_true (show d1 ≤ p - 1 by omega), decide_eq_true a3, decide_eq_true (show d3 ≤ l by omega), decide_eq_true (show d3 ≤ d3 + d4 by omega), decide_eq_true (show d3 + d4 ≤ l by omega)]
      simp only [Bool.and_self, Bool.true_and]
      by_cases q : inW W2 (.str s) = true
      · obtain ⟨x1, x2, x3⟩ := h1 q
        rw [if_pos q, decide_eq_true x1, decide_eq_true (show b ≤ p - 1 by omega), decide_eq_false x3]
        rfl
      · obtain ⟨x1, x2⟩ := h2 (by simpa using q)
        rw [if_neg q, decide_eq_true x1, decide_eq_true (show b ≤ n - 1 by omega)]
        rfl
    · refine gd_tup.mpr ⟨(show 5 ≤ 8 by decide), fun x hx => ?_⟩
      simp only [List.mem_cons, List.not_mem_nil, or_false] at hx
      rcases hx with rfl | rfl | rfl | rfl | rfl
      · exact shp_lay sw
      · rfl
      · rfl
      · rfl
      · rfl
  by_cases q : inW W2 (.str s) = true
  · have p2 : p = 2 := by
      rcases (by omega : p = 1 ∨ p = 2) with e | e
      · rw [hno e _ hw] at q; cases q
      · exact e
    subst p2
    obtain ⟨d5, e5, a5, b5⟩ := drawn_ok ns hl (at' + 2) (2 - 1) (by decide)
    rw [q, if_pos (by rfl), e5]
    simp only [ok_bind, b2_ok, addI]
    rw [mod_pos (by decide)]
    simp only [ok_bind, seqR_nx, tD5]
    exact ⟨_, rfl, fin _ (fun _ => by omega) fun z => by rw [q] at z; cases z⟩
  · rw [Bool.not_eq_true] at q
    rw [q, if_neg (by decide)]
    simp only [ok_bind, seqR_nx, allR_ok, allR_nil, tD5]
    exact ⟨_, rfl, fin _ (fun z => by rw [q] at z; cases z) fun _ => ⟨a2, b2'⟩⟩
/-- what is known of a case that is drawn -/
structure Case (d : PyData) (n p l : Int) (ws ts : List PyData) (most : Int) : Prop where
  eq : d = .tuple [.tuple [.int n, .tuple ws], .int p, .int l, .tuple ts]
  n1 : 1 ≤ n
  n3 : n ≤ 3
  p1 : 1 ≤ p
  p2 : p ≤ 2
  l0 : 0 ≤ l
  l4 : l + p ≤ 4
  ways : Ways n (n * 4096) (n.toNat * 5) ws
  tells : ∀ t ∈ ts, Tell n p l t
  len : (ts.length : Int) ≤ most
theorem case_ok (ns : List Int) (hl : ns.length ≤ 63) (at' most : Int) (hm : 0 ≤ most) (hm2 : most ≤ 50) :
    ∃ d n p l ws ts, F_law_case [scrD ns, .int at', .int most] = .ok d ∧ Case d n p l ws ts most := by
  rw [F_law_case_eq]
  unfold m_law_case
  obtain ⟨n, ws, et, n1, n3, hw⟩ := town_ok ns hl at' 3 (by decide) (by decide)
  obtain ⟨d1, e1, a1, b1⟩ := drawn_ok ns hl (at' + 40) 2 (by decide)
  obtain ⟨d2, e2, a2, b2'⟩ := drawn_ok ns hl (at' + 41) (5 - (1 + d1)) (by omega)
  obtain ⟨d3, e3, a3, b3⟩ := drawn_ok ns hl (at' + 42) (most + 1) (by omega)
  simp only [b2_ok, ok_bind, allR_ok, allR_nil, addI, subI, et, e1, e2, e3, lD0]
  have er : rng1 [.int d3] = .ok (rangeL 0 d3.toNat) := by
    show (if -(2 ^ 62) ≤ d3 ∧ d3 < 2 ^ 62 then Res.ok (rangeL 0 d3.toNat) else .stuck) = _
    rw [if_pos (by omega)]
  have ei := idx_tup [.int n, .tuple ws] 0 0 rfl rfl
  rw [b2_ok] at ei
  rw [er]
  simp only [ok_bind, ei]
  obtain ⟨ts, ew, h1, h2⟩ := forD_range (f := fun d_9 (st_8 : List PyData) => (do
      let ds ← mulE (.int 5) d_9 >>= fun y => addD (.int (at' + 43)) y >>= fun x => Res.ok [scrD ns, x, .int n, .int (1 + d1), .int d2]
      let d_10 ← F_law_telling ds
      let law_tellings_11 ← appR st_8 d_10
      Res.ok (Out.nx law_tellings_11)))
    (fun (i : Int) (ts : List PyData) => (ts.length : Int) = i ∧ ∀ t ∈ ts, Tell n (1 + d1) d2 t) 0 d3.toNat [] ⟨rfl, fun t h => (by cases h)⟩ fun i ts2 h1 h2 h3 => by
    obtain ⟨t, e4, h4⟩ := telling_ok ns hl (at' + 43 + 5 * i) n (1 + d1) d2 n1 (by omega) (by omega) a2
    refine ⟨ts2 ++ [t], ?_, ?_, fun x hx => ?_⟩
    · rw [mulE_small (.inl (by decide))]
      simp only [ok_bind, addI, e4]
      rw [appR_ok (Nat.lt_of_lt_of_le (show ts2.length < 60 by omega) big60)]
      rfl
    · rw [List.length_append]
      simp
      omega
    · rcases List.mem_append.mp hx with e | e
      · exact h3.2 x e
      · rw [List.mem_singleton.mp e]; exact h4
  have ew2 := ew
  simp only [bind_assoc', ok_bind] at ew2
  rw [show (forD (rangeL 0 d3.toNat) [] _ : Res (Out (List PyData))) = .ok (.nx ts) from ?_]
  · rw [seqR_nx]
    rw [show tupC [.list ts] = .ok (.tuple ts) from rfl]
    simp only [allR_ok, allR_nil, ok_bind, tD4]
    exact ⟨_, n, 1 + d1, d2, ws, ts, rfl, ⟨rfl, n1, n3, by omega, by omega, a2, by omega, hw, h2, by omega⟩⟩
  · refine Eq.trans ?_ ew
    congr 1
    funext d_9 st_8
    cases mulE (.int 5) d_9 with
    | ok y =>
      simp only [b2_ok, ok_bind, allR_ok, allR_nil]
      cases addD (.int (at' + 43)) y <;> rfl
    | err c => rfl
    | stuck => rfl
end Lw
namespace Lw
open PySem PySem.Spec PyProof.Rows L2 Dt

abbrev Std := Nat × Nat
structure Twn where
  n : Nat
  ws : List (Nat × Nat × Nat)
inductive Wd where
  | there | seen | never | met | apart
deriving DecidableEq
def Wd.s : Wd → Str
  | .there => "there"
  | .seen => "seen"
  | .never => "never"
  | .met => "met"
  | .apart => "apart"
def Wd.two : Wd → Bool
  | .met => true
  | .apart => true
  | _ => false
def Wd.once : Wd → Bool
  | .met => true
  | .seen => true
  | _ => false
structure Tlg where
  w : Wd
  who : Nat
  what : Nat
  fst : Nat
  lst : Nat
deriving DecidableEq
structure Cs where
  tn : Twn
  ps : Nat
  last : Nat
  ts : List Tlg
def eStd (s : Std) : PyData := .tuple [.int (s.1 : Int), .int (s.2 : Int)]
def eWay (w : Nat × Nat × Nat) : PyData := .tuple [.int (w.1 : Int), .int (w.2.1 : Int), .int (w.2.2 : Int)]
def eTwn (t : Twn) : PyData := .tuple [.int (t.n : Int), .tuple (t.ws.map eWay)]
def eTlg (t : Tlg) : PyData := .tuple [.str t.w.s, .int (t.who : Int), .int (t.what : Int), .int (t.fst : Int), .int (t.lst : Int)]
def eTls (ts : List Tlg) : PyData := .tuple (ts.map eTlg)
def eCs (c : Cs) : PyData := .tuple [eTwn c.tn, .int (c.ps : Int), .int (c.last : Int), eTls c.ts]

structure TwnOk (t : Twn) : Prop where
  n1 : 1 ≤ t.n
  n5 : t.n ≤ 5
  way : ∀ w ∈ t.ws, w.1 < w.2.1 ∧ w.2.1 < t.n ∧ 1 ≤ w.2.2 ∧ w.2.2 ≤ 4
  inc : incr (t.ws.map fun w => [(w.1 : Int), (w.2.1 : Int)]) = true
  len : t.ws.length ≤ 60
structure TlgOk (n p l : Nat) (t : Tlg) : Prop where
  who : t.who < p
  fl : t.fst ≤ t.lst
  ll : t.lst ≤ l
  two : t.w.two = true → t.what < p ∧ t.what ≠ t.who
  one : t.w.two = false → t.what < n
structure CsOk (c : Cs) : Prop where
  tn : TwnOk c.tn
  p1 : 1 ≤ c.ps
  p3 : c.ps ≤ 3
  l9 : c.last ≤ 9
  ts : ∀ t ∈ c.ts, TlgOk c.tn.n c.ps c.last t
  len : c.ts.length ≤ 6
/-- the same, with a telling more -/
structure CsW (c : Cs) : Prop where
  tn : TwnOk c.tn
  p1 : 1 ≤ c.ps
  p3 : c.ps ≤ 3
  l9 : c.last ≤ 9
  ts : ∀ t ∈ c.ts, TlgOk c.tn.n c.ps c.last t
  len : c.ts.length ≤ 7
theorem CsOk.w {c : Cs} (h : CsOk c) : CsW c := ⟨h.tn, h.p1, h.p3, h.l9, h.ts, Nat.le_succ_of_le h.len⟩
theorem decode {α : Type} {f : α → PyData} {P : α → Prop} : ∀ {ds : List PyData}, (∀ d ∈ ds, ∃ x, d = f x ∧ P x) → ∃ xs : List α, ds = xs.map f ∧ ∀ x ∈ xs, P x
  | [], _ => ⟨[], rfl, fun x h => by cases h⟩
  | d :: ds, h => by
    obtain ⟨x, e, p⟩ := h d List.mem_cons_self
    obtain ⟨xs, e2, p2⟩ := decode fun d hd => h d (List.mem_cons_of_mem _ hd)
    refine ⟨x :: xs, by rw [e, e2]; rfl, fun y hy => ?_⟩
    rcases List.mem_cons.mp hy with z | z
    · rw [z]; exact p
    · exact p2 y z
theorem num_nat {lo hi : Int} {d : PyData} (h : numOk lo hi d = true) (h0 : 0 ≤ lo) : ∃ i : Nat, d = .int (i : Int) ∧ lo ≤ i ∧ (i : Int) ≤ hi := by
  obtain ⟨i, rfl, h1, h2⟩ := num_int h
  exact ⟨i.toNat, by rw [Int.toNat_of_nonneg (by omega)], by omega, by omega⟩
theorem way_dec {n : Nat} {d : PyData} (h : wayOk n d = true) : ∃ w : Nat × Nat × Nat, d = eWay w ∧ w.1 < w.2.1 ∧ w.2.1 < n ∧ 1 ≤ w.2.2 ∧ w.2.2 ≤ 4 := by
  obtain ⟨a, b, t, rfl, h1, h2, h3, h4, h5⟩ := wayOk_inv h
  refine ⟨(a.toNat, b.toNat, t.toNat), ?_, by show a.toNat < b.toNat; omega, by show b.toNat < n; omega, by show 1 ≤ t.toNat; omega, by show t.toNat ≤ 4; omega⟩
  unfold eWay
  rw [Int.toNat_of_nonneg h1, Int.toNat_of_nonneg (by omega), Int.toNat_of_nonneg (by omega)]
theorem wd_dec {d : PyData} (h : inW W5 d = true) : ∃ w : Wd, d = .str w.s := by
  unfold inW W5 at h
  have hs : isStr d = true := inW_str (xs := W5) h
  cases d with
  | str x =>
    simp only [List.map_cons, List.map_nil, List.any_cons, List.any_nil, Bool.or_eq_true, Bool.or_false] at h
    have e : ∀ y : Str, PyData.eqv (.str y) (.str x) = true → y = x := fun y h => by
      simpa [PyData.eqv] using h
    rcases h with h | h | h | h | h
    · exact ⟨.there, by rw [← e _ h]; rfl⟩
    · exact ⟨.seen, by rw [← e _ h]; rfl⟩
    · exact ⟨.never, by rw [← e _ h]; rfl⟩
    · exact ⟨.met, by rw [← e _ h]; rfl⟩
    · exact ⟨.apart, by rw [← e _ h]; rfl⟩
  | _ => cases hs
theorem two_in (w : Wd) : inW W2 (.str w.s) = w.two := by cases w <;> rfl
theorem five_in (w : Wd) : inW W5 (.str w.s) = true := by cases w <;> rfl
theorem tell_dec {n p l : Nat} {d : PyData} (h : tellOk n p l d = true) : ∃ t : Tlg, d = eTlg t ∧ TlgOk n p l t := by
  unfold tellOk at h
  split at h
  · rename_i w a b c e
    rw [Bool.and_eq_true, Bool.and_eq_true, Bool.and_eq_true, Bool.and_eq_true] at h
    obtain ⟨h1, h2, h3, h4, h5⟩ := h
    obtain ⟨w, rfl⟩ := wd_dec h1
    obtain ⟨i, rfl, i1, i2⟩ := num_nat h2 (by omega)
    obtain ⟨f, rfl, f1, f2⟩ := num_nat h3 (by omega)
    obtain ⟨g, rfl, g1, g2⟩ := num_nat h4 (by show (0 : Int) ≤ (f : Int); omega)
    have g1 : (f : Int) ≤ (g : Int) := g1
    rw [two_in] at h5
    by_cases q : w.two = true
    · rw [if_pos q, Bool.and_eq_true] at h5
      obtain ⟨k, rfl, k1, k2⟩ := num_nat h5.1 (by omega)
      have h6 : (!decide ((k : Int) = (i : Int))) = true := h5.2
      refine ⟨⟨w, i, k, f, g⟩, rfl, ⟨by show i < p; omega, by show f ≤ g; omega, by show g ≤ l; omega, fun _ => ⟨by show k < p; omega, ?_⟩, fun z => ?_⟩⟩
      · show k ≠ i
        intro e
        rw [e] at h6
        simp at h6
      · rw [show w.two = true from q] at z
        cases z
    · rw [if_neg q] at h5
      obtain ⟨k, rfl, k1, k2⟩ := num_nat h5 (by omega)
      exact ⟨⟨w, i, k, f, g⟩, rfl, ⟨by show i < p; omega, by show f ≤ g; omega, by show g ≤ l; omega, fun z => absurd z q, fun _ => by show k < n; omega⟩⟩
  · cases h
theorem numOk_mk {lo hi : Int} {i : Nat} (h1 : lo ≤ i) (h2 : (i : Int) ≤ hi) : numOk lo hi (.int (i : Int)) = true := by
  unfold numOk
  rw [Bool.and_eq_true]
  exact ⟨decide_eq_true h1, decide_eq_true h2⟩
theorem tell_enc {n p l : Nat} {t : Tlg} (h : TlgOk n p l t) : tellOk n p l (eTlg t) = true := by
  show (inW W5 (.str t.w.s) && (numOk 0 ((p : Int) - 1) (.int (t.who : Int)) && (numOk 0 l (.int (t.fst : Int)) && (numOk (t.fst : Int) l (.int (t.lst : Int)) && (if inW W2 (.str t.w.s) = true then numOk 0 ((p : Int) - 1) (.int (t.what : Int)) && !decide ((t.what : Int) = (t.who : Int)) else numOk 0 ((n : Int) - 1) (.int (t.what : Int))))))) = true
  have h1 := h.who
  have h2 := h.fl
  have h3 := h.ll
  rw [five_in, two_in, numOk_mk (by omega) (by omega), numOk_mk (by omega) (by omega), numOk_mk (by omega) (by omega)]
  by_cases q : t.w.two = true
  · obtain ⟨a, b⟩ := h.two q
    rw [if_pos q, numOk_mk (by omega) (by omega), decide_eq_false (by omega)]
    rfl
  · have a := h.one (by simpa using q)
    rw [if_neg q, numOk_mk (by omega) (by omega)]
    rfl
theorem way_enc {n : Nat} {w : Nat × Nat × Nat} (h : w.1 < w.2.1 ∧ w.2.1 < n ∧ 1 ≤ w.2.2 ∧ w.2.2 ≤ 4) : wayOk n (eWay w) = true := by
  show (numOk 0 ((n : Int) - 1) (.int (w.1 : Int)) && (numOk ((w.1 : Int) + 1) ((n : Int) - 1) (.int (w.2.1 : Int)) && numOk 1 4 (.int (w.2.2 : Int)))) = true
  rw [numOk_mk (by omega) (by omega), numOk_mk (by omega) (by omega), numOk_mk (by omega) (by omega)]
  rfl
theorem pairs_enc (ws : List (Nat × Nat × Nat)) : (ws.map eWay).map pairOf = ws.map fun w => [(w.1 : Int), (w.2.1 : Int)] := by
  rw [List.map_map]
  rfl
theorem town_enc {t : Twn} (h : TwnOk t) : townOk (eTwn t) = true := by
  show (numOk 1 5 (.int (t.n : Int)) && ((t.ws.map eWay).all (wayOk (t.n : Int)) && incr ((t.ws.map eWay).map pairOf))) = true
  have h1 := h.n1
  have h5 := h.n5
  rw [numOk_mk (by omega) (by omega), pairs_enc, h.inc, Bool.and_true, Bool.true_and, List.all_eq_true]
  intro d hd
  obtain ⟨w, hw, rfl⟩ := List.mem_map.mp hd
  exact way_enc (h.way w hw)
theorem case_enc {c : Cs} (h : CsOk c) : caseOk (eCs c) = true := by
  show (townOk (eTwn c.tn) && ((numOk 1 3 (.int (c.ps : Int)) && numOk 0 9 (.int (c.last : Int))) && (decide ((c.ts.map eTlg).length ≤ 6) && (c.ts.map eTlg).all (tellOk (c.tn.n : Int) (c.ps : Int) (c.last : Int))))) = true
  have h1 := h.p1
  have h3 := h.p3
  have h9 := h.l9
  rw [town_enc h.tn, numOk_mk (by omega) (by omega), numOk_mk (by omega) (by omega), decide_eq_true (by rw [List.length_map]; exact h.len)]
  show (c.ts.map eTlg).all (tellOk (c.tn.n : Int) (c.ps : Int) (c.last : Int)) = true
  rw [List.all_eq_true]
  intro d hd
  obtain ⟨t, ht, rfl⟩ := List.mem_map.mp hd
  exact tell_enc (h.ts t ht)
theorem gd_int (n k : Nat) (i : Int) : gd n k (.int i) = true := by cases k <;> rfl
theorem lay_wd (w : Wd) : PyData.canLay0 (.str w.s) = true := by cases w <;> decide +kernel
theorem gd_str (n k : Nat) (w : Wd) : gd n k (.str w.s) = true := by cases k <;> exact lay_wd w
theorem gd_way (w : Nat × Nat × Nat) : gd 60 1 (eWay w) = true := gd_tup.mpr ⟨by simp, fun x hx => by
  simp only [List.mem_cons, List.not_mem_nil, or_false] at hx
  rcases hx with rfl | rfl | rfl <;> exact gd_int _ _ _⟩
theorem gd_tlg (t : Tlg) : gd 60 1 (eTlg t) = true := gd_tup.mpr ⟨by simp, fun x hx => by
  simp only [List.mem_cons, List.not_mem_nil, or_false] at hx
  rcases hx with rfl | rfl | rfl | rfl | rfl
  · exact gd_str _ _ _
  all_goals exact gd_int _ _ _⟩
theorem gd_twn {t : Twn} (h : TwnOk t) : gd 60 3 (eTwn t) = true := gd_tup.mpr ⟨by simp, fun x hx => by
  simp only [List.mem_cons, List.not_mem_nil, or_false] at hx
  rcases hx with rfl | rfl
  · exact gd_int _ _ _
  · refine gd_tup.mpr ⟨by rw [List.length_map]; exact h.len, fun y hy => ?_⟩
    obtain ⟨w, hw, rfl⟩ := List.mem_map.mp hy
    exact gd_way w⟩
theorem gd_tls {ts : List Tlg} (h : ts.length ≤ 60) : gd 60 2 (eTls ts) = true := gd_tup.mpr ⟨by rw [List.length_map]; exact h, fun y hy => by
  obtain ⟨w, hw, rfl⟩ := List.mem_map.mp hy
  exact gd_tlg w⟩
theorem gd_cs {c : Cs} (h : TwnOk c.tn) (hl : c.ts.length ≤ 60) : gd 60 4 (eCs c) = true := gd_tup.mpr ⟨by simp, fun x hx => by
  simp only [List.mem_cons, List.not_mem_nil, or_false] at hx
  rcases hx with rfl | rfl | rfl | rfl
  · exact gd_twn h
  · exact gd_int _ _ _
  · exact gd_int _ _ _
  · exact gd_mono (Nat.le_refl _) (by omega) (gd_tls hl)⟩
theorem is_case_enc {c : Cs} (h : CsOk c) : F_is_case [eCs c] = .ok (.bool true) := by
  rw [is_case_ok (by decide) (by decide) (gd_cs h.tn (Nat.le_trans h.len (by decide))), case_enc h]
theorem need_case_enc {c : Cs} (h : CsOk c) : F_need_case [eCs c] = .ok .none := by
  rw [F_need_case_eq]
  unfold m_need_case
  simp only [allR_ok, allR_nil, ok_bind, is_case_enc h, truD_bool, nt_ok]
  rfl
/-- a case that a law draws -/
structure Drawn (c : Cs) (most : Nat) : Prop where
  ok : CsOk c
  n3 : c.tn.n ≤ 3
  p2 : c.ps ≤ 2
  l4 : c.last + c.ps ≤ 4
  ways : c.tn.ws.length ≤ 15
  two : ∀ w ∈ c.tn.ws, w.2.2 ≤ 2
  len : c.ts.length ≤ most
theorem case_drawn (ns : List Int) (hl : ns.length ≤ 63) (at' : Int) (most : Nat) (hm : most ≤ 6) : ∃ c : Cs, F_law_case [scrD ns, .int at', .int (most : Int)] = .ok (eCs c) ∧ Drawn c most := by
  obtain ⟨d, n, p, l, ws, ts, e, k⟩ := case_ok ns hl at' (most : Int) (by omega) (by omega)
  obtain rfl := k.eq
  have n1 := k.n1
  have n3 := k.n3
  have p1 := k.p1
  have p2 := k.p2
  have l0 := k.l0
  have l4 := k.l4
  obtain ⟨n, rfl⟩ : ∃ m : Nat, n = (m : Int) := ⟨n.toNat, by omega⟩
  obtain ⟨p, rfl⟩ : ∃ m : Nat, p = (m : Int) := ⟨p.toNat, by omega⟩
  obtain ⟨l, rfl⟩ : ∃ m : Nat, l = (m : Int) := ⟨l.toNat, by omega⟩
  obtain ⟨ws, rfl, hw⟩ := decode (f := eWay) (P := fun w => w.1 < w.2.1 ∧ w.2.1 < n ∧ 1 ≤ w.2.2 ∧ w.2.2 ≤ 4) fun d hd => way_dec (k.ways.ok d hd)
  obtain ⟨ts, rfl, ht⟩ := decode (f := eTlg) (P := TlgOk n p l) fun d hd => tell_dec (k.tells d hd).ok
  have hinc := k.ways.inc
  rw [pairs_enc] at hinc
  have h2 := k.ways.two
  have hlen := k.len
  have hwl := k.ways.len
  rw [List.length_map] at hlen hwl
  have hwl2 : ws.length ≤ 15 := by
    have : ((n : Int).toNat) * 5 ≤ 15 := by rw [Int.toNat_natCast]; omega
    omega
  refine ⟨⟨⟨n, ws⟩, p, l, ts⟩, e, ⟨⟨⟨by show 1 ≤ n; omega, by show n ≤ 5; omega, hw, hinc, by show ws.length ≤ 60; omega⟩, by show 1 ≤ p; omega, by show p ≤ 3; omega, by show l ≤ 9; omega, ht, by show ts.length ≤ 6; omega⟩, by show n ≤ 3; omega, by show p ≤ 2; omega, by show l + p ≤ 4; omega, hwl2, (fun w hw => by
    obtain ⟨a, b, t, e, ht⟩ := h2 _ (List.mem_map_of_mem hw)
    have e : PyData.tuple [.int (w.1 : Int), .int (w.2.1 : Int), .int (w.2.2 : Int)] = PyData.tuple [.int a, .int b, .int t] := e
    simp only [PyData.tuple.injEq, List.cons.injEq, PyData.int.injEq, and_true] at e
    show w.2.2 ≤ 2
    omega), by show ts.length ≤ most; omega⟩⟩
end Lw
namespace Lw
open PySem PySem.Spec PyProof.Rows L2 Dt

theorem bigN {n : Nat} (h : n ≤ 1000000) : n ≤ sizeLine := by rw [sizeLine_eq]; omega
@[simp] theorem addN (a b : Nat) : addD (.int (a : Int)) (.int (b : Int)) = .ok (.int ((a + b : Nat) : Int)) := by
  rw [addI]; rfl
@[simp] theorem idxT0 (a : PyData) (xs : List PyData) : idxD (.tuple (a :: xs)) (.int 0) = .ok a := by
  unfold idxD
  dsimp only
  rw [show atI (a :: xs) (0 : Int) = some a from atI_nat (j := 0) rfl]
@[simp] theorem idxT1 (a b : PyData) (xs : List PyData) : idxD (.tuple (a :: b :: xs)) (.int 1) = .ok b := by
  unfold idxD
  dsimp only
  rw [show atI (a :: b :: xs) (1 : Int) = some b from atI_nat (j := 1) rfl]
@[simp] theorem idxT2 (a b c : PyData) (xs : List PyData) : idxD (.tuple (a :: b :: c :: xs)) (.int 2) = .ok c := by
  unfold idxD
  dsimp only
  rw [show atI (a :: b :: c :: xs) (2 : Int) = some c from atI_nat (j := 2) rfl]
@[simp] theorem idxT3 (a b c d : PyData) (xs : List PyData) : idxD (.tuple (a :: b :: c :: d :: xs)) (.int 3) = .ok d := by
  unfold idxD
  dsimp only
  rw [show atI (a :: b :: c :: d :: xs) (3 : Int) = some d from atI_nat (j := 3) rfl]
theorem idxL {xs : List PyData} {i : Nat} {d : PyData} (h : xs[i]? = some d) : idxD (.list xs) (.int (i : Int)) = .ok d := by
  unfold idxD
  dsimp only
  rw [atI_nat h]
@[simp] theorem c_tn (c : Cs) : idxD (eCs c) (.int 0) = .ok (eTwn c.tn) := idxT0 _ _
@[simp] theorem c_ps (c : Cs) : idxD (eCs c) (.int 1) = .ok (.int (c.ps : Int)) := idxT1 _ _ _
@[simp] theorem c_last (c : Cs) : idxD (eCs c) (.int 2) = .ok (.int (c.last : Int)) := idxT2 _ _ _ _
@[simp] theorem c_ts (c : Cs) : idxD (eCs c) (.int 3) = .ok (eTls c.ts) := idxT3 _ _ _ _ _
@[simp] theorem t_n (t : Twn) : idxD (eTwn t) (.int 0) = .ok (.int (t.n : Int)) := idxT0 _ _
@[simp] theorem t_ws (t : Twn) : idxD (eTwn t) (.int 1) = .ok (.tuple (t.ws.map eWay)) := idxT1 _ _ _
@[simp] theorem s_0 (s : Std) : idxD (eStd s) (.int 0) = .ok (.int (s.1 : Int)) := idxT0 _ _
@[simp] theorem s_1 (s : Std) : idxD (eStd s) (.int 1) = .ok (.int (s.2 : Int)) := idxT1 _ _ _
/-- with a bound that goes along -/
theorem forD_mapI {α β γ : Type} {e : β → PyData} {s : γ → α} {f : PyData → α → Res (Out α)} {g : γ → β → γ} (I : Nat → γ → Prop) (K : Nat) : ∀ (xs : List β) (k : Nat) (a : γ), k + xs.length ≤ K → I k a → (∀ x ∈ xs, ∀ k a, k < K → I k a → f (e x) (s a) = .ok (.nx (s (g a x))) ∧ I (k + 1) (g a x)) →
    forD (xs.map e) (s a) f = .ok (.nx (s (xs.foldl g a))) ∧ I (k + xs.length) (xs.foldl g a)
  | [], k, a, _, i, _ => ⟨rfl, i⟩
  | x :: xs, k, a, hk, i, h => by
    rw [List.length_cons] at hk
    obtain ⟨e1, i1⟩ := h x List.mem_cons_self k a (by omega) i
    rw [List.map_cons, forD_cons, e1, seqR_nx]
    obtain ⟨e2, i2⟩ := forD_mapI I K xs (k + 1) (g a x) (by omega) i1 fun y hy => h y (List.mem_cons_of_mem _ hy)
    refine ⟨e2, ?_⟩
    rw [List.length_cons, show k + (xs.length + 1) = k + 1 + xs.length by omega]
    exact i2
/-- comprehensions over what stands for a list -/
theorem comR_enc {β γ : Type} {e : β → PyData} {e' : γ → PyData} {f : β → γ} {g : PyData → Res (Option PyData)} {xs : List β} (hl : xs.length ≤ sizeLine) (h : ∀ x ∈ xs, g (e x) = .ok (some (e' (f x)))) : comR (.ok (xs.map e)) g = .ok ((xs.map f).map e') := by
  show compD (xs.map e) g = _
  unfold compD
  rw [if_pos (by rw [List.length_map]; exact hl)]
  clear hl
  induction xs with
  | nil => rfl
  | cons x xs ih =>
    show (hard (g (e x)) >>= fun o => compF (xs.map e) g >>= fun ys => Res.ok (match o with | some y => y :: ys | none => ys)) = _
    rw [h x List.mem_cons_self, hard_ok, ok_bind, ih fun y hy => h y (List.mem_cons_of_mem _ hy)]
    rfl
theorem comR_encF {β γ : Type} {e : β → PyData} {e' : γ → PyData} {f : β → Option γ} {g : PyData → Res (Option PyData)} {xs : List β} (hl : xs.length ≤ sizeLine) (h : ∀ x ∈ xs, g (e x) = .ok ((f x).map e')) : comR (.ok (xs.map e)) g = .ok ((xs.filterMap f).map e') := by
  show compD (xs.map e) g = _
  unfold compD
  rw [if_pos (by rw [List.length_map]; exact hl)]
  clear hl
  induction xs with
  | nil => rfl
  | cons x xs ih =>
    show (hard (g (e x)) >>= fun o => compF (xs.map e) g >>= fun ys => Res.ok (match o with | some y => y :: ys | none => ys)) = _
    rw [h x List.mem_cons_self, hard_ok, ok_bind, ih fun y hy => h y (List.mem_cons_of_mem _ hy), List.filterMap_cons]
    cases f x <;> rfl
@[simp] theorem seq_list (xs : List PyData) : seqOf (.list xs) = .ok xs := rfl
@[simp] theorem seq_tup (xs : List PyData) : seqOf (.tuple xs) = .ok xs := rfl
@[simp] theorem seqE_list (xs : List PyData) : seqE (.list xs) = .ok xs := rfl
@[simp] theorem seqE_tup (xs : List PyData) : seqE (.tuple xs) = .ok xs := rfl
abbrev eN (i : Nat) : PyData := .int (i : Int)
theorem rangeN (n : Nat) : rangeL 0 n = (List.range n).map eN := by
  unfold rangeL
  refine List.map_congr_left fun i _ => ?_
  show PyData.int (0 + (i : Int)) = PyData.int (i : Int)
  rw [Int.zero_add]
theorem rng1N {n : Nat} (h : n ≤ 1000000) : rng1 [.int (n : Int)] = .ok ((List.range n).map eN) := by
  unfold rng1
  dsimp only
  rw [if_pos (by omega), Int.toNat_natCast, rangeN]
@[simp] theorem gtN (a b : Nat) : gtD (.int (a : Int)) (.int (b : Int)) = .ok (.bool (decide (b < a))) := by
  rw [gtI]
  exact congrArg (fun z => Res.ok (PyData.bool z)) (decide_eq_decide.mpr (by omega))
@[simp] theorem gt0N (a : Nat) : gtD (.int (a : Int)) (.int 0) = .ok (.bool (decide (0 < a))) := gtN a 0
@[simp] theorem eqN (a b : Nat) : eqD (.int (a : Int)) (.int (b : Int)) = .ok (.bool (decide (a = b))) := by
  rw [eqI]
  exact congrArg (fun z => Res.ok (PyData.bool z)) (decide_eq_decide.mpr (by omega))
@[simp] theorem neN (a b : Nat) : neD (.int (a : Int)) (.int (b : Int)) = .ok (.bool (!decide (a = b))) := by
  rw [neI]
  exact congrArg (fun z => Res.ok (PyData.bool (!z))) (decide_eq_decide.mpr (by omega))
@[simp] theorem leN (a b : Nat) : leD (.int (a : Int)) (.int (b : Int)) = .ok (.bool (decide (a ≤ b))) := by
  rw [leI]
  exact congrArg (fun z => Res.ok (PyData.bool z)) (decide_eq_decide.mpr (by omega))
@[simp] theorem geN (a b : Nat) : geD (.int (a : Int)) (.int (b : Int)) = .ok (.bool (decide (b ≤ a))) := by
  rw [geI]
  exact congrArg (fun z => Res.ok (PyData.bool z)) (decide_eq_decide.mpr (by omega))
theorem sub1N {a : Nat} (h : 0 < a) : subD (.int (a : Int)) (.int 1) = .ok (.int ((a - 1 : Nat) : Int)) := by
  rw [subI]
  exact congrArg (fun z => Res.ok (PyData.int z)) (by omega)
@[simp] theorem add1N (a : Nat) : addD (.int (a : Int)) (.int 1) = .ok (.int ((a + 1 : Nat) : Int)) := by
  rw [addI]
  rfl
@[simp] theorem appR_mk (ds : List PyData) (d : PyData) : appR ds d = if ds.length < sizeLine then .ok (ds ++ [d]) else .stuck := rfl
@[simp] theorem partI (i : Int) : partD (.int i) = .ok (some i) := rfl
end Lw
namespace Lw
open PySem PySem.Spec PyProof.Rows L2 Dt

def srt {α : Type} (e : α → PyData) (xs : List α) : List α := xs.mergeSort fun a b => PySem.W.dataLe false id (e a) (e b)
theorem sorD_map {α : Type} (e : α → PyData) (xs : List α) : sorD (xs.map e) = (srt e xs).map e := by
  unfold sorD srt
  exact (List.map_mergeSort (f := e) (r := fun a b => PySem.W.dataLe false id (e a) (e b)) (s := PySem.W.dataLe false id) fun a _ b _ => rfl).symm
theorem srt_perm {α : Type} (e : α → PyData) (xs : List α) : (srt e xs).Perm xs := List.mergeSort_perm _ _
theorem mem_srt {α : Type} {e : α → PyData} {xs : List α} {x : α} : x ∈ srt e xs ↔ x ∈ xs := (srt_perm e xs).mem_iff
theorem srt_len {α : Type} (e : α → PyData) (xs : List α) : (srt e xs).length = xs.length := (srt_perm e xs).length_eq
theorem shp_tup {xs : List PyData} (h : ∀ x ∈ xs, PyData.canLay0 x = true) (k : Nat) (hk : k < 64) (hd : ∀ x ∈ xs, PyData.depth x ≤ k) : shp (.tuple xs) = true := by
  unfold shp SeqAt.shaped
  rw [Bool.and_eq_true]
  refine ⟨by simp [PyData.canLay0, lay_of_all h], decide_eq_true ?_⟩
  have := depth_of_all hd
  simp only [PyData.depth]
  omega
theorem shp_std (s : Std) : shp (eStd s) = true := shp_tup (fun x hx => by
  simp only [List.mem_cons, List.not_mem_nil, or_false] at hx
  rcases hx with rfl | rfl <;> rfl) 0 (by decide) (fun x hx => by
  simp only [List.mem_cons, List.not_mem_nil, or_false] at hx
  rcases hx with rfl | rfl <;> exact Nat.le_refl _)
theorem sort_std (xs : List Std) : sortE [.list (xs.map eStd)] = .ok ((srt eStd xs).map eStd) := by
  show (if (sortable (xs.map eStd) && (xs.map eStd).all shp) = true then Res.ok (sorD (xs.map eStd)) else .stuck) = _
  rw [if_pos, sorD_map]
  rw [Bool.and_eq_true, List.all_eq_true]
  refine ⟨?_, fun x hx => ?_⟩
  · unfold sortable
    rw [Bool.and_eq_true, List.all_eq_true, Bool.or_eq_true, List.all_eq_true]
    refine ⟨fun x hx => List.all_eq_true.mpr fun y hy => ?_, .inl fun x hx => ?_⟩
    · obtain ⟨a, _, rfl⟩ := List.mem_map.mp hx
      obtain ⟨b, _, rfl⟩ := List.mem_map.mp hy
      rfl
    · obtain ⟨a, _, rfl⟩ := List.mem_map.mp hx
      rfl
  · obtain ⟨a, _, rfl⟩ := List.mem_map.mp hx
    exact shp_std a
def via (s : Std) (w : Nat × Nat × Nat) : Option Std := if s.1 = w.1 then some (w.2.1, w.2.2 - 1) else if s.1 = w.2.1 then some (w.1, w.2.2 - 1) else none
def stepsT (t : Twn) (s : Std) : List Std := if 0 < s.2 then [(s.1, s.2 - 1)] else srt eStd (s :: t.ws.filterMap (via s))
theorem foldl_snoc {α β : Type} (f : β → Option α) : ∀ (xs : List β) (acc : List α), xs.foldl (fun acc x => acc ++ (f x).toList) acc = acc ++ xs.filterMap f
  | [], acc => by simp
  | x :: xs, acc => by
    rw [List.foldl_cons, foldl_snoc f xs, List.filterMap_cons]
    cases f x <;> simp
theorem shp_int2 (a b : Int) : shp (.tuple [.int a, .int b]) = true := shp_tup (fun x hx => by
  simp only [List.mem_cons, List.not_mem_nil, or_false] at hx
  rcases hx with rfl | rfl <;> rfl) 0 (by decide) (fun x hx => by
  simp only [List.mem_cons, List.not_mem_nil, or_false] at hx
  rcases hx with rfl | rfl <;> exact Nat.le_refl _)
theorem in2N (p a b : Nat) : inD (.int (p : Int)) (.tuple [.int (a : Int), .int (b : Int)]) = .ok (.bool (decide (p = a) || decide (p = b))) := by
  unfold inD
  dsimp only
  rw [shp_int, shp_int2, if_pos (by rfl)]
  show Res.ok (PyData.bool (decide ((a : Int) = (p : Int)) || (decide ((b : Int) = (p : Int)) || false))) = _
  rw [Bool.or_false]
  congr 3
  · exact decide_eq_decide.mpr (by omega)
  · exact decide_eq_decide.mpr (by omega)
theorem steps_enc {t : Twn} (h : TwnOk t) (s : Std) : F_steps [eTwn t, eStd s] = .ok (.list ((stepsT t s).map eStd)) := by
  rw [F_steps_eq]
  unfold m_steps stepsT
  rw [ok_bind, show eStd s = .tuple [.int (s.1 : Int), .int (s.2 : Int)] from rfl, unp2_mk]
  simp only [b2_ok, gt0N, ok_bind, boolD_bool, allR_ok, allR_nil, lD1, t_ws, seq_tup]
  by_cases q : 0 < s.2
  · simp only [decide_eq_true q, if_true, if_pos q, sub1N q, ok_bind, tD2, lD1, asL_ok, retR_ok, onlyR_rt, finR_rt]
    rfl
  · simp only [decide_eq_false q, if_false, Bool.false_eq_true, if_neg q]
    rw [show [PyData.tuple [.int (s.1 : Int), .int (s.2 : Int)]] = [s].map eStd from rfl]
    rw [(forD_mapI (s := fun l : List Std => l.map eStd) (g := fun acc w => acc ++ (via s w).toList) (fun k l => l.length ≤ 1 + k) 60 t.ws 0 [s] (by have := h.len; omega) (by simp) ?hh).1]
    case hh =>
      intro w hw k l hk hl
      refine ⟨?_, ?_⟩
      · have hw1 := (h.way w hw).2.2.1
        have hl2 : l.length < sizeLine := by
          rw [sizeLine_eq]; omega
        show unp3 (.tuple [.int (w.1 : Int), .int (w.2.1 : Int), .int (w.2.2 : Int)]) _ = _
        unfold via
        by_cases q1 : s.1 = w.1
        · simp [q1, hl2, eStd, in2N, sub1N hw1]
        · by_cases q2 : s.1 = w.2.1
          · have q3 : w.2.1 ≠ w.1 := fun z => q1 (q2.trans z)
            simp [q1, q2, q3, hl2, eStd, in2N, sub1N hw1]
          · simp [q1, q2, hl2, eStd, in2N, sub1N hw1]
      · show (l ++ (via s w).toList).length ≤ 1 + (k + 1)
        unfold via
        split
        · simp; omega
        · split <;> simp <;> omega
    rw [seqR_nx, foldl_snoc]
    simp only [sort_std, asL_ok, ok_bind, allR_ok, allR_nil]
    rfl
end Lw
namespace Lw
open PySem PySem.Spec PyProof.Rows L2 Dt

abbrev Day := List Std
abbrev Wld := List Day
def plc (s : Std) : Option Nat := if 0 < s.2 then none else some s.1
def eDay (d : Day) : PyData := .tuple (d.map eStd)
def eWld (w : Wld) : PyData := .tuple (w.map eDay)
def pd (d : Day) (m : Nat) : Option Nat := (d[m]?).elim none plc
@[simp] theorem tupC_list (xs : List PyData) : tupC [.list xs] = .ok (.tuple xs) := rfl
def soO (t : Tlg) (a b : Option Nat) : Bool := if t.w.two = true then a.isSome && decide (a = b) else decide (a = some t.what)
def so (t : Tlg) (f : Nat → Option Nat) : Bool := soO t (f t.who) (f t.what)
end Lw
namespace Lw
open PySem PySem.Spec PyProof.Rows L2 Dt

theorem boolsOf_map : ∀ bs : List Bool, boolsOf (bs.map PyData.bool) = some bs
  | [] => rfl
  | b :: bs => by
    show (boolsOf (bs.map PyData.bool)).map (b :: ·) = _
    rw [boolsOf_map bs]
    rfl
@[simp] theorem allB (bs : List Bool) : allC [.list (bs.map PyData.bool)] = .ok (.bool (bs.all id)) := by
  unfold allC
  dsimp only
  rw [boolsOf_map]
@[simp] theorem anyB (bs : List Bool) : Dt.anyC [.list (bs.map PyData.bool)] = .ok (.bool (bs.any id)) := by
  unfold Dt.anyC
  dsimp only
  rw [boolsOf_map]
@[simp] theorem lenL (xs : List PyData) : lenC [.list xs] = .ok (.int xs.length) := rfl
@[simp] theorem lenT (xs : List PyData) : lenC [.tuple xs] = .ok (.int xs.length) := rfl
@[simp] theorem isi_tup (xs : List PyData) : isiD "tuple" (.tuple xs) = .ok (.bool true) := rfl
@[simp] theorem isi_day (d : Day) : isiD "tuple" (eDay d) = .ok (.bool true) := rfl
@[simp] theorem isi_wld (d : Wld) : isiD "tuple" (eWld d) = .ok (.bool true) := rfl
@[simp] theorem isi_std (d : Std) : isiD "tuple" (eStd d) = .ok (.bool true) := rfl
@[simp] theorem seq_day (d : Day) : seqOf (eDay d) = .ok (d.map eStd) := rfl
@[simp] theorem seq_wld (d : Wld) : seqOf (eWld d) = .ok (d.map eDay) := rfl
@[simp] theorem len_day (d : Day) : lenC [eDay d] = .ok (.int (d.length : Nat)) := by rw [show lenC [eDay d] = .ok (.int ((d.map eStd).length : Nat)) from rfl, List.length_map]
@[simp] theorem len_wld (d : Wld) : lenC [eWld d] = .ok (.int (d.length : Nat)) := by rw [show lenC [eWld d] = .ok (.int ((d.map eDay).length : Nat)) from rfl, List.length_map]
@[simp] theorem len_std (d : Std) : lenC [eStd d] = .ok (.int 2) := rfl
structure DayOk (t : Twn) (l : Nat) (d : Day) : Prop where
  len : d.length = l + 1
  std : ∀ s ∈ d, s.1 < t.n ∧ s.2 ≤ 3
  hd : ∀ s, d[0]? = some s → s.2 = 0
  go : ∀ i a b, d[i]? = some a → d[i + 1]? = some b → b ∈ stepsT t a
structure WldOk (c : Cs) (w : Wld) : Prop where
  len : w.length = c.ps
  day : ∀ d ∈ w, DayOk c.tn c.last d
theorem is_num_nat {i lo hi : Nat} (h1 : lo ≤ i) (h2 : i ≤ hi) : F_is_number [.int (i : Int), .int (lo : Int), .int (hi : Int)] = .ok (.bool true) := by
  rw [is_number_ok rfl, numOk_mk (by omega) (by omega)]
theorem is_num_0 {i hi : Nat} (h2 : i ≤ hi) : F_is_number [.int (i : Int), .int 0, .int (hi : Int)] = .ok (.bool true) := is_num_nat (lo := 0) (Nat.zero_le _) h2
theorem is_num_3 {i : Nat} (h2 : i ≤ 3) : F_is_number [.int (i : Int), .int 0, .int 3] = .ok (.bool true) := is_num_0 (hi := 3) h2
theorem forD_un {β : Type} {e : β → PyData} {f : PyData → Unit → Res (Out Unit)} (xs : List β) (h : ∀ x ∈ xs, f (e x) () = .ok (.nx ())) : forD (xs.map e) () f = .ok (.nx ()) :=
  forD_unit _ fun d hd => by
    obtain ⟨x, hx, rfl⟩ := List.mem_map.mp hd
    exact h x hx
theorem are_stands_enc {t : Twn} (h1 : 1 ≤ t.n) {d : List Std} {m : Nat} (hl : d.length = m) (hs : ∀ s ∈ d, s.1 < t.n ∧ s.2 ≤ 3) : F_are_stands [eTwn t, eDay d, .int (m : Int)] = .ok (.bool true) := by
  rw [F_are_stands_eq]
  unfold m_are_stands
  have e1 : neD (.int (d.length : Nat)) (.int (m : Int)) = .ok (.bool false) := by rw [neN]; simp [hl]
  have e2 : neD (.int 2) (.int 2) = .ok (.bool false) := rfl
  simp only [ok_bind, isi_day, seq_day, truD_bool, nt_ok, Bool.not_true, orR_f, allR_ok, allR_nil, len_day, b2_ok, e1, boolD_bool, Bool.false_eq_true, if_false]
  rw [forD_un]
  · rfl
  · intro s hd
    obtain ⟨h2, h3⟩ := hs s hd
    simp only [ok_bind, isi_std, truD_bool, nt_ok, Bool.not_true, orR_f, allR_ok, allR_nil, len_std, b2_ok, e2, boolD_bool, Bool.false_eq_true, if_false, s_0, s_1, t_n, sub1N h1, is_num_0 (show s.1 ≤ t.n - 1 by omega), is_num_3 h3]
theorem eqv_std (a b : Std) : PyData.eqv (eStd a) (eStd b) = decide (a = b) := by
  show PyData.eqvAll ([(a.1 : Int), (a.2 : Int)].map PyData.int) ([(b.1 : Int), (b.2 : Int)].map PyData.int) = _
  rw [eqvAll_ints]
  exact decide_eq_decide.mpr (by
    rw [Prod.ext_iff]
    simp only [List.cons.injEq, and_true]
    omega)
theorem shp_list {xs : List PyData} (h : ∀ x ∈ xs, PyData.canLay0 x = true) (k : Nat) (hk : k < 64) (hd : ∀ x ∈ xs, PyData.depth x ≤ k) : shp (.list xs) = true := shp_tup h k hk hd
theorem lay_std (s : Std) : PyData.canLay0 (eStd s) = true := rfl
theorem dep_std (s : Std) : PyData.depth (eStd s) ≤ 1 := Nat.le_refl 1
theorem shp_stds (xs : List Std) : shp (.list (xs.map eStd)) = true := shp_list (fun x hx => by
    obtain ⟨s, _, rfl⟩ := List.mem_map.mp hx
    exact lay_std s) 1 (by decide) fun x hx => by
    obtain ⟨s, _, rfl⟩ := List.mem_map.mp hx
    exact dep_std s
theorem in_stds (s : Std) (xs : List Std) : inD (eStd s) (.list (xs.map eStd)) = .ok (.bool (decide (s ∈ xs))) := by
  show (if (shp (eStd s) && shp (.list (xs.map eStd))) = true then Res.ok (PyData.bool ((xs.map eStd).any fun z => PyData.eqv z (eStd s))) else .stuck) = _
  rw [shp_std, shp_stds, if_pos (by rfl), List.any_map]
  congr 2
  rw [Bool.eq_iff_iff, List.any_eq_true, decide_eq_true_eq]
  constructor
  · rintro ⟨x, hx, e⟩
    rw [Function.comp, eqv_std, decide_eq_true_eq] at e
    rw [← e]; exact hx
  · intro hx
    exact ⟨s, hx, by rw [Function.comp, eqv_std]; simp⟩
theorem zipL_map {β : Type} (e : β → PyData) (xs ys : List β) : zipL (xs.map e) (ys.map e) = (xs.zip ys).map fun p => .tuple [e p.1, e p.2] := by
  unfold zipL
  rw [List.zipWith_map, ← List.map_uncurry_zip_eq_zipWith]
  rfl
theorem zip_map {β : Type} (e : β → PyData) (xs ys : List β) : zip2 [.tuple (xs.map e), .tuple (ys.map e)] = .ok ((xs.zip ys).map fun p => .tuple [e p.1, e p.2]) := by
  rw [← zipL_map]; rfl
theorem slT_from {β : Type} {e : β → PyData} (xs : List β) (k : Nat) : sl3 (.ok (.tuple (xs.map e))) (.ok (some (k : Int))) (.ok none) = .ok (.tuple ((xs.drop k).map e)) := by
  rw [List.map_drop]
  exact sl_from (xs.map e) k k rfl
theorem zip_idx {β : Type} {xs : List β} {p : β × β} (h : p ∈ xs.zip (xs.drop 1)) : ∃ i, xs[i]? = some p.1 ∧ xs[i + 1]? = some p.2 := by
  obtain ⟨i, hi⟩ := List.mem_iff_getElem?.mp h
  rw [List.getElem?_zip_eq_some] at hi
  refine ⟨i, hi.1, ?_⟩
  have := hi.2
  rw [List.getElem?_drop] at this
  rw [← this, Nat.add_comm]
theorem is_day_enc {c : Cs} (hc : CsOk c) {d : Day} (h : DayOk c.tn c.last d) : F_is_day [eCs c, eDay d] = .ok (.bool true) := by
  rw [F_is_day_eq]
  unfold m_is_day
  obtain ⟨s, ds, rfl⟩ : ∃ s ds, d = s :: ds := by
    have := h.len
    cases d with
    | nil => simp at this
    | cons s ds => exact ⟨s, ds, rfl⟩
  have hs : s.2 = 0 := h.hd s rfl
  have e1 : idxD (eDay (s :: ds)) (.int 0) = .ok (eStd s) := idxT0 _ _
  have e2 : gtD (.int (s.2 : Int)) (.int 0) = .ok (.bool false) := by rw [gt0N, hs]; rfl
  have e3 : sl3 (.ok (eDay (s :: ds))) (.ok (some 1)) (.ok none) = .ok (eDay ((s :: ds).drop 1)) := slT_from (s :: ds) 1
  have e4 : zip2 [eDay (s :: ds), eDay ((s :: ds).drop 1)] = .ok (((s :: ds).zip ((s :: ds).drop 1)).map fun p => .tuple [eStd p.1, eStd p.2]) := zip_map _ _ _
  simp only [allR_ok, allR_nil, ok_bind, need_case_enc hc, b2_ok, c_tn, c_last, add1N, are_stands_enc hc.tn.n1 h.len h.std, truD_bool, nt_ok, Bool.not_true, orR_f, e1, s_1, e2, boolD_bool, Bool.false_eq_true, if_false, partI, e3, e4]
  rw [comR_enc (e' := PyData.bool) (f := fun _ => true)]
  · rw [asL_ok, allR_ok, allR_nil, ok_bind, ok_bind, allB]
    simp
  · have h1 := h.len
    have h2 := hc.l9
    rw [List.length_zip]
    refine Nat.le_trans ?_ big60
    omega
  · rintro ⟨a, b⟩ hx
    obtain ⟨i, h1, h2⟩ := zip_idx hx
    have := h.go i a b h1 h2
    simp [steps_enc hc.tn, in_stds, this]
theorem is_world_enc {c : Cs} (hc : CsOk c) {w : Wld} (h : WldOk c w) : F_is_world [eCs c, eWld w] = .ok (.bool true) := by
  rw [F_is_world_eq]
  unfold m_is_world
  have e1 : eqD (.int (w.length : Nat)) (.int (c.ps : Int)) = .ok (.bool true) := by rw [eqN]; simp [h.len]
  simp only [allR_ok, allR_nil, ok_bind, need_case_enc hc, isi_wld, andV_t, len_wld, b2_ok, c_ps, e1, seq_wld]
  rw [comR_enc (e' := PyData.bool) (f := fun _ => true)]
  · rw [asL_ok, allR_ok, allR_nil, ok_bind, ok_bind, allB]
    simp
  · have h1 := h.len
    have h2 := hc.p3
    refine Nat.le_trans ?_ big60
    omega
  · intro d hd
    simp [is_day_enc hc (h.day d hd)]
theorem need_world_enc {c : Cs} (hc : CsOk c) {w : Wld} (h : WldOk c w) : F_need_world [eCs c, eWld w] = .ok .none := by
  rw [F_need_world_eq]
  unfold m_need_world
  simp [is_world_enc hc h]
def holds (w : Wld) (t : Tlg) (m : Nat) : Bool := so t fun p => pd (w.getD p []) m
def tru (w : Wld) (t : Tlg) : Bool := match t.w with
  | .there => (List.range' t.fst (t.lst + 1 - t.fst)).all (holds w t)
  | .seen => (List.range' t.fst (t.lst + 1 - t.fst)).any (holds w t)
  | .met => (List.range' t.fst (t.lst + 1 - t.fst)).any (holds w t)
  | .never => !(List.range' t.fst (t.lst + 1 - t.fst)).any (holds w t)
  | .apart => !(List.range' t.fst (t.lst + 1 - t.fst)).any (holds w t)
theorem enum_map {β : Type} (e : β → PyData) (xs : List β) : enumE [.tuple (xs.map e)] = .ok ((xs.zipIdx).map fun p => .tuple [.int (p.2 : Int), e p.1]) := by
  show Res.ok (enumL (xs.map e)) = _
  congr 1
  unfold enumL
  refine List.ext_getElem? fun i => ?_
  rw [List.getElem?_mapIdx, List.getElem?_map, List.getElem?_map, List.getElem?_zipIdx]
  cases xs[i]? with
  | none => rfl
  | some x => simp
end Lw
namespace Lw
open PySem PySem.Spec PyProof.Rows L2 Dt

theorem forD_app {β : Type} {e : β → PyData} {f : PyData → PyData → Res (Out PyData)} (G : β → List PyData) : ∀ (xs : List β) (acc : List PyData), acc.length + (xs.flatMap G).length ≤ sizeLine →
    (∀ x ∈ xs, ∀ a : List PyData, a.length + (G x).length ≤ sizeLine → f (e x) (.list a) = .ok (.nx (.list (a ++ G x)))) → forD (xs.map e) (.list acc) f = .ok (.nx (.list (acc ++ xs.flatMap G)))
  | [], acc, _, _ => by simp [forD]
  | x :: xs, acc, hb, h => by
    rw [List.flatMap_cons, List.length_append] at hb
    rw [List.map_cons, forD_cons, h x List.mem_cons_self acc (by omega), seqR_nx, forD_app G xs (acc ++ G x) (by rw [List.length_append]; omega) fun y hy => h y (List.mem_cons_of_mem _ hy), List.flatMap_cons, List.append_assoc]
theorem forD_iterA {α : Type} {f : PyData → α → Res (Out α)} (S : Nat → α) : ∀ (n j : Nat), (∀ i, j ≤ i → i < j + n → f (eN i) (S i) = .ok (.nx (S (i + 1)))) → forD ((List.range' j n).map eN) (S j) f = .ok (.nx (S (j + n)))
  | 0, j, _ => rfl
  | n + 1, j, h => by
    rw [List.range'_succ, List.map_cons, forD_cons, h j (Nat.le_refl _) (by omega), seqR_nx, forD_iterA S n (j + 1) fun i h1 h2 => h i (by omega) (by omega)]
    rw [show j + 1 + n = j + (n + 1) by omega]
theorem forD_iter {α : Type} {f : PyData → α → Res (Out α)} (S : Nat → α) (n : Nat) (h : ∀ i, i < n → f (eN i) (S i) = .ok (.nx (S (i + 1)))) : forD ((List.range n).map eN) (S 0) f = .ok (.nx (S n)) := by
  rw [List.range_eq_range', forD_iterA S n 0 fun i _ h2 => h i (by omega), Nat.zero_add]
theorem addL {xs ys : List PyData} (h : xs.length + ys.length ≤ sizeLine) : addD (.list xs) (.list ys) = .ok (.list (xs ++ ys)) := if_pos h
theorem addT {xs ys : List PyData} (h : xs.length + ys.length ≤ sizeLine) : addD (.tuple xs) (.tuple ys) = .ok (.tuple (xs ++ ys)) := if_pos h
theorem law_steps_enc {t : Twn} (h : TwnOk t) (s : Std) : F_law_steps [eTwn t, eStd s] = .ok (.list ((stepsT t s).map eStd)) := by
  rw [F_law_steps_eq]
  unfold m_law_steps stepsT
  simp -implicitDefEqProofs only [b2_ok, s_0, s_1, gt0N, ok_bind, boolD_bool, allR_ok, allR_nil, lD1, t_ws, seq_tup]
  by_cases q : 0 < s.2
  · simp -implicitDefEqProofs [q, sub1N q, eStd]
  · simp -implicitDefEqProofs only [decide_eq_false q, if_false, Bool.false_eq_true, if_neg q]
    rw [show [eStd s] = [s].map eStd from rfl]
    rw [(forD_mapI (s := fun l : List Std => l.map eStd) (g := fun acc w => acc ++ (via s w).toList) (fun k l => l.length ≤ 1 + k) 60 t.ws 0 [s] (by have := h.len; omega) (by simp) ?hh).1]
    case hh =>
      intro w hw k l hk hl
      refine ⟨?_, ?_⟩
      · obtain ⟨hlt, hb, hw1, _⟩ := h.way w hw
        have hl2 : l.length < sizeLine := by
          rw [sizeLine_eq]; omega
        show unp3 (.tuple [.int (w.1 : Int), .int (w.2.1 : Int), .int (w.2.2 : Int)]) _ = _
        unfold via
        by_cases q1 : s.1 = w.1
        · have q2 : w.1 ≠ w.2.1 := by omega
          simp -implicitDefEqProofs [q1, q2, hl2, eStd, sub1N hw1]
        · by_cases q2 : s.1 = w.2.1
          · have q3 : w.2.1 ≠ w.1 := fun z => q1 (q2.trans z)
            simp -implicitDefEqProofs [q1, q2, q3, hl2, eStd, sub1N hw1]
          · simp -implicitDefEqProofs [q1, q2, hl2, eStd, sub1N hw1]
      · show (l ++ (via s w).toList).length ≤ 1 + (k + 1)
        unfold via
        split
        · simp; omega
        · split <;> simp <;> omega
    rw [seqR_nx, foldl_snoc]
    simp only [sort_std, asL_ok, ok_bind, allR_ok, allR_nil]
    rfl
def lastS (d : Day) : Std := d.getLastD (0, 0)
def daysT (t : Twn) : Nat → List Day
  | 0 => (List.range t.n).map fun p => [(p, 0)]
  | k + 1 => (daysT t k).flatMap fun d => (stepsT t (lastS d)).map fun s => d ++ [s]
theorem idx_lastD {d : Day} (h : d ≠ []) : idxD (eDay d) (.int (-1)) = .ok (eStd (lastS d)) := by
  have e : L2.atI (d.map eStd) (-1) = some (eStd (lastS d)) := by
    unfold L2.atI
    have h1 : 0 < d.length := List.length_pos_iff.mpr h
    rw [List.length_map]
    unfold ixN
    rw [if_neg (by omega), if_pos (by omega)]
    show (d.map eStd)[(((d.length : Nat) : Int) + (-1 : Int)).toNat]? = _
    rw [List.getElem?_map, show (((d.length : Nat) : Int) + (-1 : Int)).toNat = d.length - 1 by omega, ← List.getLast?_eq_getElem?, List.getLast?_eq_some_getLast h]
    unfold lastS
    rw [List.getLastD_eq_getLast?, List.getLast?_eq_some_getLast h]
    rfl
  unfold idxD eDay
  dsimp only
  rw [e]
theorem steps_len (t : Twn) (s : Std) : (stepsT t s).length ≤ 1 + t.ws.length := by
  unfold stepsT
  split
  · simp
  · rw [srt_len, List.length_cons]
    have := List.length_filterMap_le (via s) t.ws
    omega
theorem daysT_len (t : Twn) : ∀ k, ∀ d ∈ daysT t k, d.length = k + 1
  | 0, d, h => by
    obtain ⟨p, _, rfl⟩ := List.mem_map.mp h
    rfl
  | k + 1, d, h => by
    obtain ⟨d', h1, h2⟩ := List.mem_flatMap.mp h
    obtain ⟨s, _, rfl⟩ := List.mem_map.mp h2
    rw [List.length_append, daysT_len t k d' h1]
    rfl
theorem daysT_many (t : Twn) {b : Nat} (hb : 1 + t.ws.length ≤ b) : ∀ k, (daysT t k).length ≤ t.n * b ^ k
  | 0 => by simp [daysT]
  | k + 1 => by
    show ((daysT t k).flatMap fun d => (stepsT t (lastS d)).map fun s => d ++ [s]).length ≤ _
    have h1 : ∀ xs : List Day, (xs.flatMap fun d => (stepsT t (lastS d)).map fun s => d ++ [s]).length ≤ xs.length * b := fun xs => by
      induction xs with
      | nil => simp
      | cons x xs ih =>
        rw [List.flatMap_cons, List.length_append, List.length_map, List.length_cons, Nat.succ_mul]
        have := steps_len t (lastS x)
        omega
    refine Nat.le_trans (h1 _) ?_
    rw [Nat.pow_succ, ← Nat.mul_assoc]
    exact Nat.mul_le_mul_right b (daysT_many t hb k)
theorem law_days_enc {t : Twn} (h : TwnOk t) {last : Nat} (hl : last ≤ 60) (hs : ∀ k, k ≤ last → (daysT t k).length ≤ 1000000) : F_law_days [eTwn t, .int (last : Int)] = .ok (.list ((daysT t last).map eDay)) := by
  rw [F_law_days_eq]
  unfold m_law_days
  have h5 := h.n5
  simp -implicitDefEqProofs only [b2_ok, t_n, allR_ok, allR_nil, ok_bind, rng1N (show t.n ≤ 1000000 by omega), rng1N (show last ≤ 1000000 by omega)]
  rw [comR_enc (e' := eDay) (f := fun p => [(p, 0)])]
  · rw [ok_bind]
    rw [show (List.range t.n).map (fun p => [(p, 0)]) = daysT t 0 from rfl]
    rw [forD_iter (S := fun k => PyData.list ((daysT t k).map eDay))]
    · rfl
    · intro k hk
      simp -implicitDefEqProofs only [lD0, ok_bind, seqE_list]
      rw [forD_app (G := fun d : Day => ((stepsT t (lastS d)).map fun s => d ++ [s]).map eDay)]
      · rw [seqR_nx, List.nil_append, ← List.map_flatMap]
        rfl
      · rw [← List.map_flatMap, List.length_map]
        have := hs (k + 1) (by omega)
        have e : (daysT t (k + 1)).length = ((daysT t k).flatMap fun d => (stepsT t (lastS d)).map fun s => d ++ [s]).length := rfl
        have := bigN this
        simp only [List.length_nil]
        omega
      · intro d hd a ha
        have hdl := daysT_len t k d hd
        have hne : d ≠ [] := fun z => by rw [z] at hdl; simp at hdl
        rw [show negD (.int 1) = .ok (.int (-1)) from rfl] 
        simp -implicitDefEqProofs only [ok_bind, b2_ok, idx_lastD hne, allR_ok, allR_nil, law_steps_enc h, seq_list]
        rw [comR_enc (e' := eDay) (f := fun s => d ++ [s])]
        · rw [asL_ok, b2_ok, addL ha]
          rfl
        · have := steps_len t (lastS d)
          have := h.len
          exact bigN (by omega)
        · intro s _
          simp -implicitDefEqProofs only [allR_ok, allR_nil, ok_bind, tD1, b2_ok]
          unfold eDay
          rw [addT (by rw [List.length_map, sizeLine_eq]; simp; omega), ← List.map_singleton (f := eStd), ← List.map_append]
          rfl
  · rw [List.length_range]; exact bigN (by omega)
  · intro p _
    simp -implicitDefEqProofs [eDay, eStd]
end Lw
namespace Lw
open PySem PySem.Spec PyProof.Rows L2 Dt

def drw (ns : List Int) (k m : Int) : Nat := match F_law_drawn [scrD ns, .int k, .int m] with
  | .ok (.int d) => d.toNat
  | _ => 0
theorem drw_spec {ns : List Int} (hl : ns.length ≤ 63) (k : Int) {m : Int} (hm : 0 < m) : F_law_drawn [scrD ns, .int k, .int m] = .ok (.int (drw ns k m : Int)) ∧ (drw ns k m : Int) < m := by
  obtain ⟨d, e, h0, h1⟩ := drawn_ok ns hl k m hm
  unfold drw
  rw [e]
  dsimp only
  rw [Int.toNat_of_nonneg h0]
  exact ⟨rfl, h1⟩
theorem drw_nat {ns : List Int} (hl : ns.length ≤ 63) (k : Int) {m : Nat} (hm : 0 < m) : F_law_drawn [scrD ns, .int k, .int (m : Int)] = .ok (.int (drw ns k m : Int)) ∧ drw ns k m < m := by
  obtain ⟨h1, h2⟩ := drw_spec hl k (m := (m : Int)) (by omega)
  exact ⟨h1, by omega⟩
theorem steps_in {t : Twn} (h : TwnOk t) {a b : Std} (ha : a.1 < t.n ∧ a.2 ≤ 3) (hb : b ∈ stepsT t a) : b.1 < t.n ∧ b.2 ≤ 3 := by
  unfold stepsT at hb
  split at hb
  · obtain rfl := List.mem_singleton.mp hb
    exact ⟨ha.1, by show a.2 - 1 ≤ 3; omega⟩
  · rw [mem_srt, List.mem_cons, List.mem_filterMap] at hb
    rcases hb with rfl | ⟨w, hw, e⟩
    · exact ha
    · obtain ⟨h1, h2, h3, h4⟩ := h.way w hw
      unfold via at e
      split at e
      · cases e
        exact ⟨h2, by show w.2.2 - 1 ≤ 3; omega⟩
      · split at e
        · cases e
          exact ⟨by show w.1 < t.n; omega, by show w.2.2 - 1 ≤ 3; omega⟩
        · cases e
theorem DayOk.snoc {t : Twn} (h : TwnOk t) {l : Nat} {d : Day} (hd : DayOk t l d) {s : Std} (hs : s ∈ stepsT t (lastS d)) : DayOk t (l + 1) (d ++ [s]) := by
  have hlen := hd.len
  have hlast : d[l]? = some (lastS d) := by
    unfold lastS
    rw [List.getLastD_eq_getLast?, List.getLast?_eq_getElem?, hlen, Nat.add_sub_cancel]
    rw [List.getElem?_eq_getElem (by omega)]
    rfl
  refine ⟨by rw [List.length_append, hlen]; rfl, fun x hx => ?_, fun x hx => ?_, fun i a b ha hb => ?_⟩
  · rcases List.mem_append.mp hx with hx | hx
    · exact hd.std x hx
    · obtain rfl := List.mem_singleton.mp hx
      exact steps_in h (hd.std _ (List.mem_iff_getElem?.mpr ⟨_, hlast⟩)) hs
  · rw [List.getElem?_append_left (by omega)] at hx
    exact hd.hd x hx
  · by_cases q : i + 1 < d.length
    · rw [List.getElem?_append_left (by omega)] at ha
      rw [List.getElem?_append_left q] at hb
      exact hd.go i a b ha hb
    · by_cases q2 : i + 1 = d.length
      · have : i = l := by omega
        subst this
        rw [List.getElem?_append_left (by omega), hlast] at ha
        cases ha
        rw [List.getElem?_append_right (by omega), show i + 1 - d.length = 0 by omega] at hb
        cases hb
        exact hs
      · rw [List.getElem?_append_right (by omega), List.getElem?_eq_none (by simp; omega)] at hb
        cases hb
theorem daysT_ok {t : Twn} (h : TwnOk t) : ∀ k, ∀ d ∈ daysT t k, DayOk t k d
  | 0, d, hd => by
    obtain ⟨p, hp, rfl⟩ := List.mem_map.mp hd
    rw [List.mem_range] at hp
    refine ⟨rfl, fun s hs => ?_, fun s hs => by cases hs; rfl, fun i a b ha hb => by cases hb⟩
    obtain rfl := List.mem_singleton.mp hs
    exact ⟨hp, Nat.zero_le _⟩
  | k + 1, d, hd => by
    obtain ⟨d', h1, h2⟩ := List.mem_flatMap.mp hd
    obtain ⟨s, hs, rfl⟩ := List.mem_map.mp h2
    exact (daysT_ok h k d' h1).snoc h hs
theorem steps_pos (t : Twn) (s : Std) : 0 < (stepsT t s).length := by
  unfold stepsT
  split
  · exact Nat.zero_lt_one
  · rw [srt_len]; exact Nat.succ_pos _
theorem daysT_pos {t : Twn} (h : TwnOk t) : ∀ k, 0 < (daysT t k).length
  | 0 => by
    have := h.n1
    simp [daysT]; omega
  | k + 1 => by
    have h1 := daysT_pos h k
    show 0 < ((daysT t k).flatMap fun d => (stepsT t (lastS d)).map fun s => d ++ [s]).length
    cases e : daysT t k with
    | nil => rw [e] at h1; cases h1
    | cons d ds =>
      rw [List.flatMap_cons, List.length_append, List.length_map]
      have := steps_pos t (lastS d)
      omega
theorem Drawn.days {c : Cs} {most : Nat} (h : Drawn c most) : ∀ k, k ≤ c.last → (daysT c.tn k).length ≤ 1000000 := fun k hk => by
  have h1 := daysT_many c.tn (b := 16) (by have := h.ways; omega) k
  have h3 := h.n3
  have h4 : k ≤ 3 := by have := h.l4; have := h.ok.p1; omega
  have h5 : 16 ^ k ≤ 16 ^ 3 := Nat.pow_le_pow_right (by decide) h4
  have h6 : c.tn.n * 16 ^ k ≤ 3 * 16 ^ 3 := Nat.mul_le_mul h3 h5
  have h7 : 3 * 16 ^ 3 = 12288 := by decide
  omega
theorem Drawn.days_enc {c : Cs} {most : Nat} (h : Drawn c most) : F_law_days [eTwn c.tn, .int (c.last : Int)] = .ok (.list ((daysT c.tn c.last).map eDay)) :=
  law_days_enc h.ok.tn (Nat.le_trans h.ok.l9 (by decide)) h.days
theorem idx_mapL {β : Type} {e : β → PyData} {xs : List β} {i : Nat} (h : i < xs.length) (d : β) : idxD (.list (xs.map e)) (.int (i : Int)) = .ok (e (xs.getD i d)) := by
  refine idxL ?_
  rw [List.getElem?_map, List.getElem?_eq_getElem h, List.getD_eq_getElem?_getD, List.getElem?_eq_getElem h]
  rfl
theorem res_str {r : Res PyData} {y : Str} (h : (match r with | .ok (.str x) => decide (x = y) | _ => false) = true) : r = .ok (.str y) := by
  split at h
  · rw [of_decide_eq_true h]
  · cases h
def withT (c : Cs) (ts : List Tlg) : Cs := { c with ts := ts }
theorem withT_ok {c : Cs} (h : CsOk c) {ts : List Tlg} (h1 : ∀ t ∈ ts, TlgOk c.tn.n c.ps c.last t) (h2 : ts.length ≤ 6) : CsOk (withT c ts) := ⟨h.tn, h.p1, h.p3, h.l9, h1, h2⟩
@[simp] theorem mk_there (a b c d : Nat) : PyData.tuple [.str "there", .int (a : Int), .int (b : Int), .int (c : Int), .int (d : Int)] = eTlg ⟨.there, a, b, c, d⟩ := rfl
@[simp] theorem mk_seen (a b c d : Nat) : PyData.tuple [.str "seen", .int (a : Int), .int (b : Int), .int (c : Int), .int (d : Int)] = eTlg ⟨.seen, a, b, c, d⟩ := rfl
@[simp] theorem mk_never (a b c d : Nat) : PyData.tuple [.str "never", .int (a : Int), .int (b : Int), .int (c : Int), .int (d : Int)] = eTlg ⟨.never, a, b, c, d⟩ := rfl
@[simp] theorem mk_met (a b c d : Nat) : PyData.tuple [.str "met", .int (a : Int), .int (b : Int), .int (c : Int), .int (d : Int)] = eTlg ⟨.met, a, b, c, d⟩ := rfl
@[simp] theorem mk_apart (a b c d : Nat) : PyData.tuple [.str "apart", .int (a : Int), .int (b : Int), .int (c : Int), .int (d : Int)] = eTlg ⟨.apart, a, b, c, d⟩ := rfl
end Lw
namespace Lw
open PySem PySem.Spec PyProof.Rows L2 Dt

def rowsT {α : Type} : List (List α) → List (List α) → List (List α)
  | found, [] => found
  | found, ch :: cs => rowsT (found.flatMap fun row => ch.map fun one => row ++ [one]) cs
def sizes {α : Type} : Nat → List (List α) → Nat
  | n, [] => n
  | n, c :: cs => sizes (n * max 1 c.length) cs
theorem sizes_mono {α : Type} : ∀ (cs : List (List α)) {n m : Nat}, n ≤ m → sizes n cs ≤ sizes m cs
  | [], _, _, h => h
  | c :: cs, _, _, h => sizes_mono cs (Nat.mul_le_mul_right _ h)
theorem flat_len {α β : Type} (xs : List α) (ys : List β) (f : α → β → γ) : (xs.flatMap fun x => ys.map (f x)).length = xs.length * ys.length := by
  induction xs with
  | nil => simp
  | cons x xs ih => rw [List.flatMap_cons, List.length_append, List.length_map, ih, List.length_cons, Nat.succ_mul, Nat.add_comm]
def begunT (t : Twn) : List Std := (List.range t.n).map fun p => (p, 0)
def firstsT (c : Cs) : List (List Std) := rowsT [[]] (List.replicate c.ps (begunT c.tn))
def nextsT (c : Cs) (ss : List Std) : List (List Std) := rowsT [[]] (ss.map (stepsT c.tn))
theorem sizes_rep {α : Type} (b : Nat) (hb : 1 ≤ b) : ∀ (cs : List (List α)) (n : Nat), (∀ c ∈ cs, c.length ≤ b) → sizes n cs ≤ n * b ^ cs.length
  | [], n, _ => by simp [sizes]
  | c :: cs, n, h => by
    have h1 : max 1 c.length ≤ b := Nat.max_le.mpr ⟨hb, h c List.mem_cons_self⟩
    refine Nat.le_trans (sizes_rep b hb cs _ fun x hx => h x (List.mem_cons_of_mem _ hx)) ?_
    rw [List.length_cons, Nat.pow_succ, Nat.mul_comm (b ^ cs.length) b, ← Nat.mul_assoc]
    exact Nat.mul_le_mul_right _ (Nat.mul_le_mul_left _ h1)
end Lw
namespace Lw
open PySem PySem.Spec PyProof.Rows L2 Dt

def Wd.nev : Wd → Bool
  | .never => true
  | .apart => true
  | _ => false
def inT (t : Tlg) (m : Nat) : Bool := decide (t.fst ≤ m) && decide (m ≤ t.lst)
def look1 (m : Nat) (f : Nat → Option Nat) (t : Tlg) (was : Bool) : Option Bool :=
  let s := inT t m && so t f
  if (decide (t.w = .there) && (inT t m && !s)) = true then none
  else if (t.w.nev && s) = true then none
  else
    let d := was || (t.w.once && s)
    if (t.w.once && (decide (t.lst ≤ m) && !d)) = true then none else some d
def lookL (m : Nat) (f : Nat → Option Nat) (ts : List Tlg) (bs : List Bool) : Option (List Bool) := (ts.zip bs).mapM fun p => look1 m f p.1 p.2
def plS (ss : List Std) (p : Nat) : Option Nat := plc (ss.getD p (0, 0))
end Lw
namespace Lw
open PySem PySem.Spec PyProof.Rows L2 Dt

abbrev Mk := List Std × List Bool
abbrev Ent := Mk × (Option Mk × Nat)
theorem map_inj {α β : Type} {f : α → β} (h : ∀ a b, f a = f b → a = b) {xs ys : List α} (e : xs.map f = ys.map f) : xs = ys := (List.map_inj_right h).mp e
theorem keysIn_of {xs : List PyData} (h : ∀ x ∈ xs, keyIn x = true) : keysIn xs = true := by
  induction xs with
  | nil => rfl
  | cons x xs ih =>
    show (keyIn x && keysIn xs) = true
    rw [h x List.mem_cons_self, ih fun y hy => h y (List.mem_cons_of_mem _ hy)]
    rfl
def lookT {β : Type} (L : List (Mk × β)) (k : Mk) : Option β := (L.find? fun e => decide (e.1 = k)).map (·.2)
def setT {β : Type} : List (Mk × β) → Mk → β → List (Mk × β)
  | [], _, _ => []
  | e :: L, k, v => if e.1 = k then (e.1, v) :: L else e :: setT L k v
theorem setT_keys {β : Type} (k : Mk) (v : β) : ∀ L : List (Mk × β), (setT L k v).map (·.1) = L.map (·.1)
  | [] => rfl
  | e :: L => by
    unfold setT
    split
    · rfl
    · rw [List.map_cons, List.map_cons, setT_keys k v L]
theorem lookT_none {β : Type} {L : List (Mk × β)} {k : Mk} : lookT L k = none ↔ k ∉ L.map (·.1) := by
  unfold lookT
  rw [Option.map_eq_none_iff, List.find?_eq_none]
  constructor
  · intro h hk
    obtain ⟨e, he, rfl⟩ := List.mem_map.mp hk
    exact h e he (decide_eq_true rfl)
  · intro h e he hd
    exact h (List.mem_map.mpr ⟨e, he, of_decide_eq_true hd⟩)
theorem lookT_mem {β : Type} {L : List (Mk × β)} {k : Mk} {v : β} (h : lookT L k = some v) : (k, v) ∈ L := by
  unfold lookT at h
  obtain ⟨e, h1, h2⟩ := Option.map_eq_some_iff.mp h
  have h3 := List.find?_some h1
  have e1 : e.1 = k := of_decide_eq_true h3
  have this := List.mem_of_find?_eq_some h1
  obtain ⟨a, b⟩ := e
  cases h2
  subst e1
  exact this
theorem lookT_of {β : Type} : ∀ {L : List (Mk × β)}, (L.map (·.1)).Nodup → ∀ e ∈ L, lookT L e.1 = some e.2
  | [], _, e, he => by cases he
  | x :: L, hn, e, he => by
    unfold lookT
    rw [List.find?_cons]
    rw [List.map_cons, List.nodup_cons] at hn
    rcases List.mem_cons.mp he with rfl | he
    · rw [decide_eq_true rfl]; rfl
    · have hne : x.1 ≠ e.1 := fun z => hn.1 (z ▸ List.mem_map.mpr ⟨e, he, rfl⟩)
      rw [decide_eq_false hne]
      exact lookT_of hn.2 e he
end Lw
namespace Lw
open PySem PySem.Spec PyProof.Rows L2 Dt

def bump (L : List Ent) (k : Mk) (here : Option Mk) (n : Nat) : List Ent := match lookT L k with
  | none => L ++ [(k, (here, n))]
  | some v => setT L k (v.1, v.2 + n)
structure MkOk (c : Cs) (k : Mk) : Prop where
  ss : k.1.length = c.ps
  bs : k.2.length = c.ts.length
structure LayOk (c : Cs) (L : List Ent) : Prop where
  nd : (L.map (·.1)).Nodup
  ok : ∀ e ∈ L, MkOk c e.1
theorem bump_keys (L : List Ent) (k : Mk) (here : Option Mk) (n : Nat) : (bump L k here n).map (·.1) = if k ∈ L.map (·.1) then L.map (·.1) else L.map (·.1) ++ [k] := by
  unfold bump
  cases q : lookT L k with
  | none => rw [if_neg (lookT_none.mp q)]; simp
  | some v =>
    rw [if_pos (Decidable.not_not.mp fun z => by rw [lookT_none.mpr z] at q; cases q)]
    exact setT_keys _ _ _
theorem LayOk.keys {c : Cs} {L : List Ent} (h : LayOk c L) : ∀ k ∈ L.map (·.1), MkOk c k := fun k hk => by
  obtain ⟨e, he, rfl⟩ := List.mem_map.mp hk
  exact h.ok e he
theorem LayOk.ofKeys {c : Cs} {L : List Ent} (h1 : (L.map (·.1)).Nodup) (h2 : ∀ k ∈ L.map (·.1), MkOk c k) : LayOk c L := ⟨h1, fun e he => h2 _ (List.mem_map.mpr ⟨e, he, rfl⟩)⟩
theorem LayOk.bump {c : Cs} {L : List Ent} (h : LayOk c L) {k : Mk} (hk : MkOk c k) (here : Option Mk) (n : Nat) : LayOk c (bump L k here n) := by
  refine .ofKeys ?_ ?_
  · rw [bump_keys]
    split
    · exact h.nd
    · rename_i q
      rw [List.nodup_append]
      exact ⟨h.nd, by simp, fun a ha b hb e => by rw [List.mem_singleton.mp hb] at e; exact q (e ▸ ha)⟩
  · intro x hx
    rw [bump_keys] at hx
    split at hx
    · exact h.keys x hx
    · rcases List.mem_append.mp hx with hx | hx
      · exact h.keys x hx
      · rw [List.mem_singleton.mp hx]; exact hk
theorem bump_len (L : List Ent) (k : Mk) (here : Option Mk) (n : Nat) : (bump L k here n).length ≤ L.length + 1 := by
  have h := congrArg List.length (bump_keys L k here n)
  rw [List.length_map] at h
  rw [h]
  split
  · rw [List.length_map]; omega
  · rw [List.length_append, List.length_map]; exact Nat.le_refl _
def behind1 (c : Cs) (m : Nat) (e : Ent) (found : List Ent) (ss : List Std) : List Ent := match lookL m (plS ss) c.ts e.1.2 with
  | none => found
  | some bs => bump found (ss, bs) (some e.1) e.2.2
def behindT (c : Cs) (m : Nat) (L : List Ent) : List Ent := L.foldl (fun found e => (nextsT c e.1.1).foldl (behind1 c m e) found) []
theorem mapM_len {α β : Type} {f : α → Option β} : ∀ {xs : List α} {ys : List β}, xs.mapM f = some ys → ys.length = xs.length
  | [], ys, h => by cases h; rfl
  | x :: xs, ys, h => by
    rw [List.mapM_cons] at h
    cases q : f x with
    | none => rw [q] at h; cases h
    | some y =>
      cases q2 : xs.mapM f with
      | none => rw [q, q2] at h; cases h
      | some zs =>
        rw [q, q2] at h
        cases h
        rw [List.length_cons, List.length_cons, mapM_len q2]
theorem lookL_len {c : Cs} {m : Nat} {f : Nat → Option Nat} {bs bs' : List Bool} (hb : bs.length = c.ts.length) (h : lookL m f c.ts bs = some bs') : bs'.length = c.ts.length := by
  have := mapM_len h
  rw [this, List.length_zip, hb, Nat.min_self]
theorem rowsT_len {α : Type} : ∀ (cs : List (List α)) (found : List (List α)) (k : Nat), (∀ r ∈ found, r.length = k) → ∀ r ∈ rowsT found cs, r.length = k + cs.length
  | [], found, k, h, r, hr => h r hr
  | c :: cs, found, k, h, r, hr => by
    have := rowsT_len cs _ (k + 1) (fun r hr => by
      obtain ⟨r', h1, h2⟩ := List.mem_flatMap.mp hr
      obtain ⟨x, _, rfl⟩ := List.mem_map.mp h2
      rw [List.length_append, h r' h1]
      rfl) r hr
    rw [this, List.length_cons]
    omega
theorem nexts_len {c : Cs} {ss : List Std} : ∀ r ∈ nextsT c ss, r.length = ss.length := fun r hr => by
  have := rowsT_len (ss.map (stepsT c.tn)) [[]] 0 (fun r hr => by rw [List.mem_singleton.mp hr]; rfl) r hr
  rw [this, List.length_map, Nat.zero_add]
theorem firsts_len {c : Cs} : ∀ r ∈ firstsT c, r.length = c.ps := fun r hr => by
  have := rowsT_len (List.replicate c.ps (begunT c.tn)) [[]] 0 (fun r hr => by rw [List.mem_singleton.mp hr]; rfl) r hr
  rw [this, List.length_replicate, Nat.zero_add]
theorem behind1_ok {c : Cs} {m : Nat} {e : Ent} {found : List Ent} {ss : List Std} (h : LayOk c found) (he : MkOk c e.1) (hs : ss.length = c.ps) : LayOk c (behind1 c m e found ss) := by
  unfold behind1
  split
  · exact h
  · rename_i bs q
    exact h.bump ⟨hs, lookL_len he.bs q⟩ _ _
theorem behind1_len {c : Cs} {m : Nat} {e : Ent} {found : List Ent} {ss : List Std} : (behind1 c m e found ss).length ≤ found.length + 1 := by
  unfold behind1
  split
  · omega
  · exact bump_len _ _ _ _
theorem fold_inv {β γ : Type} {g : γ → β → γ} (I : Nat → γ → Prop) : ∀ (xs : List β) (k : Nat) (a : γ), I k a → (∀ x ∈ xs, ∀ k a, I k a → I (k + 1) (g a x)) → I (k + xs.length) (xs.foldl g a)
  | [], k, a, i, _ => i
  | x :: xs, k, a, i, h => by
    rw [List.length_cons, show k + (xs.length + 1) = k + 1 + xs.length by omega]
    exact fold_inv I xs (k + 1) (g a x) (h x List.mem_cons_self k a i) fun y hy => h y (List.mem_cons_of_mem _ hy)
theorem inner_inv {c : Cs} {m : Nat} {e : Ent} (he : MkOk c e.1) (found : List Ent) (h : LayOk c found) : LayOk c ((nextsT c e.1.1).foldl (behind1 c m e) found) ∧ ((nextsT c e.1.1).foldl (behind1 c m e) found).length ≤ found.length + (nextsT c e.1.1).length := by
  have := fold_inv (g := behind1 c m e) (fun k L => LayOk c L ∧ L.length ≤ found.length + k) (nextsT c e.1.1) 0 found ⟨h, Nat.le_refl _⟩ fun ss hs k a i =>
    ⟨behind1_ok i.1 he (by rw [nexts_len ss hs, he.ss]), Nat.le_trans behind1_len (by omega)⟩
  rw [Nat.zero_add] at this
  exact this
theorem behindT_ok {c : Cs} {m : Nat} {L : List Ent} (h : LayOk c L) {B : Nat} (hB : ∀ e ∈ L, (nextsT c e.1.1).length ≤ B) : LayOk c (behindT c m L) ∧ (behindT c m L).length ≤ L.length * B := by
  have := fold_inv (g := fun found e => (nextsT c e.1.1).foldl (behind1 c m e) found) (fun k L' => LayOk c L' ∧ L'.length ≤ k * B) L 0 [] ⟨⟨by simp, fun e he => by cases he⟩, Nat.zero_le _⟩ fun e he k a i => by
    obtain ⟨h1, h2⟩ := inner_inv (m := m) (h.ok e he) a i.1
    have := hB e he
    refine ⟨h1, ?_⟩
    rw [Nat.succ_mul]
    have := i.2
    omega
  rw [Nat.zero_add] at this
  exact this
end Lw
namespace Lw
open PySem PySem.Spec PyProof.Rows L2 Dt

theorem neg1 : negD (.int 1) = .ok (.int (-1)) := rfl
def none0 (c : Cs) : List Bool := List.replicate c.ts.length false
def first1 (c : Cs) (ss : List Std) : Option Ent := (lookL 0 (plS ss) c.ts (none0 c)).map fun bs => ((ss, bs), (none, 1))
def layT (c : Cs) : Nat → List Ent
  | 0 => (firstsT c).filterMap (first1 c)
  | k + 1 => behindT c (k + 1) (layT c k)
theorem rowsT_nodup {α : Type} : ∀ (cs : List (List α)) (found : List (List α)) (k : Nat), (∀ r ∈ found, r.length = k) → found.Nodup → (∀ c ∈ cs, c.Nodup) → (rowsT found cs).Nodup
  | [], found, k, _, h, _ => h
  | c :: cs, found, k, hk, h, hc => by
    refine rowsT_nodup cs _ (k + 1) (fun r hr => ?_) ?_ fun x hx => hc x (List.mem_cons_of_mem _ hx)
    · obtain ⟨r', h1, h2⟩ := List.mem_flatMap.mp hr
      obtain ⟨x, _, rfl⟩ := List.mem_map.mp h2
      rw [List.length_append, hk r' h1]
      rfl
    · have hc1 := hc c List.mem_cons_self
      clear hc
      induction found with
      | nil => simp
      | cons f found ih =>
        rw [List.nodup_cons] at h
        rw [List.flatMap_cons, List.nodup_append]
        refine ⟨?_, ih (fun r hr => hk r (List.mem_cons_of_mem _ hr)) h.2, ?_⟩
        · refine List.Pairwise.map _ ?_ hc1
          intro x y hxy e
          exact hxy (by simpa using e)
        · intro a ha b hb e
          obtain ⟨x, _, rfl⟩ := List.mem_map.mp ha
          obtain ⟨f', hf', hb⟩ := List.mem_flatMap.mp hb
          obtain ⟨y, _, rfl⟩ := List.mem_map.mp hb
          have h1 := hk f List.mem_cons_self
          have h2 := hk f' (List.mem_cons_of_mem _ hf')
          have := (List.append_inj e (by rw [h1, h2])).1
          exact h.1 (this ▸ hf')
theorem begunT_nodup (t : Twn) : (begunT t).Nodup := by
  unfold begunT
  refine List.Pairwise.map _ ?_ List.nodup_range
  intro a b h e
  exact h (congrArg Prod.fst e)
theorem firstsT_nodup (c : Cs) : (firstsT c).Nodup := rowsT_nodup _ _ 0 (fun r hr => by rw [List.mem_singleton.mp hr]; rfl) (by simp) fun x hx => by
  rw [List.eq_of_mem_replicate hx]; exact begunT_nodup _
theorem lay0_keys (c : Cs) : ∀ xs : List (List Std), xs.Nodup → ((xs.filterMap (first1 c)).map (·.1)).Nodup
  | [], _ => by simp
  | x :: xs, h => by
    rw [List.nodup_cons] at h
    rw [List.filterMap_cons]
    have ih := lay0_keys c xs h.2
    cases q : first1 c x with
    | none => exact ih
    | some e =>
      dsimp only
      rw [List.map_cons, List.nodup_cons]
      refine ⟨fun z => ?_, ih⟩
      obtain ⟨e', h1, h2⟩ := List.mem_map.mp z
      obtain ⟨y, h3, h4⟩ := List.mem_filterMap.mp h1
      unfold first1 at q h4
      obtain ⟨bs, _, rfl⟩ := Option.map_eq_some_iff.mp q
      obtain ⟨bs', _, rfl⟩ := Option.map_eq_some_iff.mp h4
      have h5 : y = x := congrArg Prod.fst h2
      rw [h5] at h3
      exact h.1 h3
theorem lay0_ok (c : Cs) : LayOk c (layT c 0) := by
  refine ⟨lay0_keys c _ (firstsT_nodup c), fun e he => ?_⟩
  obtain ⟨ss, h1, h2⟩ := List.mem_filterMap.mp he
  unfold first1 at h2
  obtain ⟨bs, h3, rfl⟩ := Option.map_eq_some_iff.mp h2
  exact ⟨firsts_len ss h1, lookL_len (by simp [none0]) h3⟩
/-- how many rows of stands may follow -/
def wide (c : Cs) : Nat := (1 + c.tn.ws.length) ^ c.ps
theorem rowsT_many {α : Type} : ∀ (cs : List (List α)) (found : List (List α)), (rowsT found cs).length ≤ sizes found.length cs
  | [], found => Nat.le_refl _
  | c :: cs, found => by
    refine Nat.le_trans (rowsT_many cs _) (sizes_mono cs ?_)
    rw [flat_len]
    exact Nat.mul_le_mul_left _ (Nat.le_max_right 1 c.length)
theorem nexts_many {c : Cs} {ss : List Std} (h : ss.length = c.ps) : (nextsT c ss).length ≤ wide c := by
  refine Nat.le_trans (rowsT_many _ _) (Nat.le_trans (sizes_rep (1 + c.tn.ws.length) (by omega) _ 1 fun x hx => ?_) ?_)
  · obtain ⟨s, _, rfl⟩ := List.mem_map.mp hx
    exact steps_len _ _
  · rw [Nat.one_mul, List.length_map, h]
    exact Nat.le_refl _
theorem firsts_many {c : Cs} (h : 1 ≤ c.tn.n) : (firstsT c).length ≤ c.tn.n ^ c.ps := by
  refine Nat.le_trans (rowsT_many _ _) (Nat.le_trans (sizes_rep c.tn.n h _ 1 fun x hx => ?_) ?_)
  · rw [List.eq_of_mem_replicate hx]; simp [begunT]
  · rw [Nat.one_mul, List.length_replicate]
    exact Nat.le_refl _
theorem layT_ok {c : Cs} (h1 : 1 ≤ c.tn.n) : ∀ k, LayOk c (layT c k) ∧ (layT c k).length ≤ c.tn.n ^ c.ps * wide c ^ k
  | 0 => ⟨lay0_ok c, by
    rw [Nat.pow_zero, Nat.mul_one]
    exact Nat.le_trans (List.length_filterMap_le _ _) (firsts_many h1)⟩
  | k + 1 => by
    obtain ⟨a, b⟩ := layT_ok h1 k
    obtain ⟨x, y⟩ := behindT_ok (m := k + 1) a (B := wide c) fun e he => nexts_many (a.ok e he).ss
    refine ⟨x, Nat.le_trans y ?_⟩
    rw [Nat.pow_succ, ← Nat.mul_assoc]
    exact Nat.mul_le_mul_right _ b
def InAll {α : Type} : List α → List (List α) → Prop
  | [], [] => True
  | x :: xs, c :: cs => x ∈ c ∧ InAll xs cs
  | _, _ => False
theorem mem_rowsT {α : Type} {r : List α} : ∀ {cs : List (List α)} {found : List (List α)}, r ∈ rowsT found cs ↔ ∃ f ∈ found, ∃ g, InAll g cs ∧ r = f ++ g
  | [], found => by
    constructor
    · intro h; exact ⟨r, h, [], trivial, by simp⟩
    · rintro ⟨f, hf, g, hg, rfl⟩
      cases g with
      | nil => rw [List.append_nil]; exact hf
      | cons x xs => cases hg
  | c :: cs, found => by
    show r ∈ rowsT (found.flatMap fun row => c.map fun one => row ++ [one]) cs ↔ _
    rw [mem_rowsT (cs := cs)]
    constructor
    · rintro ⟨f, hf, g, hg, rfl⟩
      obtain ⟨f', h1, h2⟩ := List.mem_flatMap.mp hf
      obtain ⟨x, hx, rfl⟩ := List.mem_map.mp h2
      exact ⟨f', h1, x :: g, ⟨hx, hg⟩, by simp⟩
    · rintro ⟨f, hf, g, hg, rfl⟩
      cases g with
      | nil => cases hg
      | cons x xs =>
        exact ⟨f ++ [x], List.mem_flatMap.mpr ⟨f, hf, List.mem_map.mpr ⟨x, hg.1, rfl⟩⟩, xs, hg.2, by simp⟩
theorem mem_rows {α : Type} {r : List α} {cs : List (List α)} : r ∈ rowsT [[]] cs ↔ InAll r cs := by
  rw [mem_rowsT]
  constructor
  · rintro ⟨f, hf, g, hg, rfl⟩
    rw [List.mem_singleton.mp hf]
    exact hg
  · intro h
    exact ⟨[], List.mem_singleton.mpr rfl, r, h, rfl⟩
theorem inAll_get {α : Type} : ∀ {r : List α} {cs : List (List α)}, InAll r cs ↔ r.length = cs.length ∧ ∀ (i : Nat) (x : α) (c : List α), r[i]? = some x → cs[i]? = some c → x ∈ c
  | [], [] => ⟨fun _ => ⟨rfl, fun i x c h => by cases h⟩, fun _ => trivial⟩
  | x :: xs, c :: cs => by
    show x ∈ c ∧ InAll xs cs ↔ _
    rw [inAll_get (r := xs) (cs := cs)]
    constructor
    · rintro ⟨h1, h2, h3⟩
      refine ⟨by rw [List.length_cons, List.length_cons, h2], fun i y d hy hd => ?_⟩
      cases i with
      | zero => cases hy; cases hd; exact h1
      | succ i => exact h3 i y d hy hd
    · rintro ⟨h1, h2⟩
      refine ⟨h2 0 x c rfl rfl, by simpa using h1, fun i y d hy hd => h2 (i + 1) y d hy hd⟩
  | [], _ :: _ => ⟨fun h => h.elim, fun h => by simp at h⟩
  | _ :: _, [] => ⟨fun h => h.elim, fun h => by simp at h⟩
theorem rep_at {α : Type} {n i : Nat} {c d : α} (h : (List.replicate n c)[i]? = some d) : d = c := by
  have := List.mem_iff_getElem?.mpr ⟨i, h⟩
  exact List.eq_of_mem_replicate this
theorem begun_ok {t : Twn} {s : Std} (h : s ∈ begunT t) : s.1 < t.n ∧ s.2 = 0 := by
  obtain ⟨p, hp, rfl⟩ := List.mem_map.mp h
  exact ⟨List.mem_range.mp hp, rfl⟩
theorem nd_len {α : Type} [DecidableEq α] : ∀ {l U : List α}, l.Nodup → (∀ x ∈ l, x ∈ U) → l.length ≤ U.length
  | [], _, _, _ => Nat.zero_le _
  | x :: l, U, h, hs => by
    rw [List.nodup_cons] at h
    have hx := hs x List.mem_cons_self
    have := nd_len (U := U.erase x) h.2 fun y hy => (List.mem_erase_of_ne (fun e => by rw [e] at hy; exact h.1 hy)).mpr (hs y (List.mem_cons_of_mem _ hy))
    rw [List.length_erase_of_mem hx] at this
    have hp : 0 < U.length := List.length_pos_of_mem hx
    rw [List.length_cons]
    omega
theorem rep_all {α : Type} {r u : List α} {n : Nat} (hl : r.length = n) (h : ∀ x ∈ r, x ∈ u) : r ∈ rowsT [[]] (List.replicate n u) := by
  refine mem_rows.mpr (inAll_get.mpr ⟨by rw [List.length_replicate, hl], fun i x c hx hc => ?_⟩)
  rw [rep_at hc]
  exact h x (List.mem_iff_getElem?.mpr ⟨i, hx⟩)
theorem std_next {c : Cs} (h : TwnOk c.tn) {ss r : List Std} (hr : r ∈ nextsT c ss) (hs : ∀ s ∈ ss, s.1 < c.tn.n ∧ s.2 ≤ 3) : ∀ s ∈ r, s.1 < c.tn.n ∧ s.2 ≤ 3 := fun s h1 => by
  obtain ⟨a1, a2⟩ := inAll_get.mp (mem_rows.mp hr)
  rw [List.length_map] at a1
  obtain ⟨i, hi⟩ := List.mem_iff_getElem?.mp h1
  have hlt : i < ss.length := by
    rcases Nat.lt_or_ge i ss.length with z | z
    · exact z
    · rw [List.getElem?_eq_none (by omega)] at hi; cases hi
  have hg := List.getElem?_eq_getElem hlt
  refine steps_in h (hs _ (List.getElem_mem hlt)) (a2 i s _ hi ?_)
  rw [List.getElem?_map, hg]
  rfl
theorem std_lay {c : Cs} (h : TwnOk c.tn) : ∀ k, ∀ x ∈ (layT c k).map (·.1), ∀ s ∈ x.1, s.1 < c.tn.n ∧ s.2 ≤ 3
  | 0, x, hx, s, hs => by
    obtain ⟨e, he, rfl⟩ := List.mem_map.mp hx
    obtain ⟨ss, h1, h2⟩ := List.mem_filterMap.mp he
    unfold first1 at h2
    obtain ⟨bs, _, rfl⟩ := Option.map_eq_some_iff.mp h2
    obtain ⟨a1, a2⟩ := inAll_get.mp (mem_rows.mp h1)
    obtain ⟨i, hi⟩ := List.mem_iff_getElem?.mp (show s ∈ ss from hs)
    have hlt : i < c.ps := by
      rcases Nat.lt_or_ge i c.ps with z | z
      · exact z
      · rw [List.getElem?_eq_none (by rw [a1, List.length_replicate]; exact z)] at hi; cases hi
    obtain ⟨b1, b2⟩ := begun_ok (a2 i s _ hi (by rw [List.getElem?_replicate, if_pos hlt]))
    exact ⟨b1, by omega⟩
  | k + 1, x, hx, s, hs => by
    have := fold_inv (g := fun found e => (nextsT c e.1.1).foldl (behind1 c (k + 1) e) found) (fun _ L => ∀ x ∈ L.map (·.1), ∀ s ∈ x.1, s.1 < c.tn.n ∧ s.2 ≤ 3) (layT c k) 0 [] (fun x hx => by cases hx) fun e he _ a i =>
      fold_inv (g := behind1 c (k + 1) e) (fun _ L => ∀ x ∈ L.map (·.1), ∀ s ∈ x.1, s.1 < c.tn.n ∧ s.2 ≤ 3) (nextsT c e.1.1) 0 a i fun ss hss _ b j => by
        unfold behind1
        split
        · exact j
        · intro x hx
          rw [bump_keys] at hx
          split at hx
          · exact j x hx
          · rcases List.mem_append.mp hx with hx | hx
            · exact j x hx
            · rw [List.mem_singleton.mp hx]
              exact std_next h hss (std_lay h k e.1 (List.mem_map.mpr ⟨e, he, rfl⟩))
    exact this x hx s hs
theorem rows_rep_len {α : Type} (c : List α) : ∀ (n : Nat) (found : List (List α)), (rowsT found (List.replicate n c)).length = found.length * c.length ^ n
  | 0, found => by simp [rowsT]
  | n + 1, found => by
    rw [List.replicate_succ]
    show (rowsT (found.flatMap fun row => c.map fun one => row ++ [one]) (List.replicate n c)).length = _
    rw [rows_rep_len c n, flat_len, Nat.pow_succ, Nat.mul_assoc, Nat.mul_comm (c.length ^ n)]
def stdV (n : Nat) : List Std := (List.range n).flatMap fun p => [(p, 0), (p, 1), (p, 2), (p, 3)]
theorem lay_U {c : Cs} (hc : CsW c) (k : Nat) : (layT c k).length ≤ (4 * c.tn.n) ^ c.ps * 2 ^ c.ts.length := by
  obtain ⟨ok, _⟩ := layT_ok (c := c) hc.tn.n1 k
  have hU : ((rowsT [[]] (List.replicate c.ps (stdV c.tn.n))).flatMap fun a => (rowsT [[]] (List.replicate c.ts.length [false, true])).map fun b => (a, b)).length = (4 * c.tn.n) ^ c.ps * 2 ^ c.ts.length := by
    rw [flat_len, rows_rep_len, rows_rep_len]
    have : (stdV c.tn.n).length = 4 * c.tn.n := by
      unfold stdV
      induction c.tn.n with
      | zero => rfl
      | succ k ih => rw [List.range_succ, List.flatMap_append, List.length_append, ih]; simp; omega
    rw [this]
    simp
  rw [← hU, ← List.length_map (f := (·.1)) (as := layT c k)]
  refine nd_len ok.nd fun x hx => ?_
  have hk := ok.keys x hx
  refine List.mem_flatMap.mpr ⟨x.1, rep_all hk.ss fun s hs => ?_, List.mem_map.mpr ⟨x.2, rep_all hk.bs fun b _ => by cases b <;> simp, rfl⟩⟩
  obtain ⟨l1, l2⟩ := std_lay hc.tn k x hx s hs
  refine List.mem_flatMap.mpr ⟨s.1, List.mem_range.mpr l1, ?_⟩
  obtain ⟨a, b⟩ := s
  have : b = 0 ∨ b = 1 ∨ b = 2 ∨ b = 3 := by have l2 : b ≤ 3 := l2; omega
  rcases this with rfl | rfl | rfl | rfl <;> simp
/-- few enough marks to be gone through -/
def Few (c : Cs) : Prop := c.tn.n ^ c.ps * wide c ^ c.last ≤ 1000000 ∨ (4 * c.tn.n) ^ c.ps * 2 ^ 7 * wide c ≤ 1000000
theorem idx_lastL {xs : List PyData} {d : PyData} (h : xs.getLast? = some d) : idxD (.list xs) (.int (-1)) = .ok d := by
  have hne : xs ≠ [] := fun z => by rw [z] at h; cases h
  have h1 : 0 < xs.length := List.length_pos_iff.mpr hne
  have e : L2.atI xs (-1) = some d := by
    unfold L2.atI ixN
    rw [if_neg (by omega), if_pos (by omega)]
    show xs[((-1 : Int) + ((xs.length : Nat) : Int)).toNat]? = _
    rw [show ((-1 : Int) + ((xs.length : Nat) : Int)).toNat = xs.length - 1 by omega, ← List.getLast?_eq_getElem?, h]
  unfold idxD
  dsimp only
  rw [e]
def total (L : List Ent) : Nat := (L.map fun e => e.2.2).sum
theorem Drawn.few {c : Cs} {most : Nat} (h : Drawn c most) : Few c := by
  refine .inl ?_
  have h1 : wide c ≤ 16 ^ c.ps := Nat.pow_le_pow_left (by have := h.ways; omega) _
  have h2 : c.tn.n ^ c.ps ≤ 3 ^ c.ps := Nat.pow_le_pow_left h.n3 _
  have h3 : wide c ^ c.last ≤ (16 ^ c.ps) ^ c.last := Nat.pow_le_pow_left h1 _
  refine Nat.le_trans (Nat.mul_le_mul h2 h3) ?_
  have h4 := h.l4
  have h5 := h.p2
  have h6 := h.ok.p1
  have : c.ps = 1 ∨ c.ps = 2 := by omega
  rcases this with q | q
  · rw [q]
    exact Nat.le_trans (Nat.mul_le_mul_left _ (Nat.pow_le_pow_right (by decide) (show c.last ≤ 3 by omega))) (by decide)
  · rw [q]
    exact Nat.le_trans (Nat.mul_le_mul_left _ (Nat.pow_le_pow_right (by decide) (show c.last ≤ 2 by omega))) (by decide)
end Lw
namespace Lw
open PySem PySem.Spec PyProof.Rows L2 Dt

def succT (c : Cs) (m : Nat) (k : Mk) : List Mk := (nextsT c k.1).filterMap fun ss => (lookL m (plS ss) c.ts k.2).map fun bs => (ss, bs)
def marksT (c : Cs) : Nat → List Mk
  | 0 => (firstsT c).filterMap fun ss => (lookL 0 (plS ss) c.ts (none0 c)).map fun bs => (ss, bs)
  | k + 1 => (marksT c k).flatMap (succT c (k + 1))
def expand (L : List Ent) : List Mk := L.flatMap fun e => List.replicate e.2.2 e.1
theorem expand_app (L M : List Ent) : expand (L ++ M) = expand L ++ expand M := List.flatMap_append
theorem expand_set {k : Mk} {v v' : Option Mk × Nat} {n : Nat} (hv : v'.2 = v.2 + n) : ∀ {L : List Ent}, lookT L k = some v → (expand (setT L k v')).Perm (expand L ++ List.replicate n k)
  | [], h => by cases h
  | e :: L, h => by
    unfold lookT at h
    rw [List.find?_cons] at h
    show (expand (if e.1 = k then (e.1, v') :: L else e :: setT L k v')).Perm _
    by_cases q : e.1 = k
    · rw [if_pos q]
      rw [decide_eq_true q] at h
      have h : e.2 = v := Option.some.inj h
      show (List.replicate v'.2 e.1 ++ expand L).Perm (List.replicate e.2.2 e.1 ++ expand L ++ List.replicate n k)
      rw [hv, ← h, q, ← List.replicate_append_replicate, List.append_assoc, List.append_assoc]
      exact List.perm_append_comm.append_left _
    · rw [if_neg q]
      rw [decide_eq_false q] at h
      show (List.replicate e.2.2 e.1 ++ expand (setT L k v')).Perm (List.replicate e.2.2 e.1 ++ expand L ++ List.replicate n k)
      rw [List.append_assoc]
      exact (expand_set hv h).append_left _
theorem expand_bump (L : List Ent) (k : Mk) (here : Option Mk) (n : Nat) : (expand (bump L k here n)).Perm (expand L ++ List.replicate n k) := by
  unfold bump
  cases q : lookT L k with
  | none =>
    dsimp only
    rw [expand_app]
    have : expand [(k, (here, n))] = List.replicate n k := by simp [expand]
    rw [this]
  | some v => exact expand_set rfl q
theorem expand_inner (c : Cs) (m : Nat) (e : Ent) : ∀ (xs : List (List Std)) (F : List Ent), (expand (xs.foldl (behind1 c m e) F)).Perm (expand F ++ (xs.filterMap fun ss => (lookL m (plS ss) c.ts e.1.2).map fun bs => (ss, bs)).flatMap (List.replicate e.2.2))
  | [], F => by simp
  | x :: xs, F => by
    rw [List.foldl_cons, List.filterMap_cons]
    refine (expand_inner c m e xs _).trans ?_
    unfold behind1
    cases lookL m (plS x) c.ts e.1.2 with
    | none => exact List.Perm.refl _
    | some bs =>
      show (expand (bump F (x, bs) (some e.1) e.2.2) ++ _).Perm (expand F ++ (List.replicate e.2.2 (x, bs) ++ _))
      rw [← List.append_assoc]
      exact (expand_bump F _ _ _).append_right _
theorem flat_split {α β : Type} (xs : List α) (f g : α → List β) : (xs.flatMap fun x => f x ++ g x).Perm (xs.flatMap f ++ xs.flatMap g) := by
  induction xs with
  | nil => simp
  | cons x xs ih =>
    rw [List.flatMap_cons, List.flatMap_cons, List.flatMap_cons]
    refine (ih.append_left _).trans ?_
    rw [List.append_assoc, List.append_assoc]
    refine List.Perm.append_left _ ?_
    rw [← List.append_assoc, ← List.append_assoc]
    exact List.perm_append_comm.append_right _
theorem rep_flat {α β : Type} (xs : List β) (x : α) : ∀ n : Nat, (xs.flatMap (List.replicate n)).Perm ((List.replicate n x).flatMap fun _ => xs)
  | 0 => by simp
  | n + 1 => by
    rw [List.replicate_succ, List.flatMap_cons]
    have h1 := flat_split xs (fun y => [y]) (List.replicate n)
    have h2 : (xs.flatMap fun y => [y]) = xs := by simp
    rw [h2] at h1
    exact h1.trans ((rep_flat xs x n).append_left _)
theorem rep_fun {α β : Type} (f : α → List β) (x : α) (n : Nat) : ((List.replicate n x).flatMap fun _ => f x) = (List.replicate n x).flatMap f := by
  induction n with
  | zero => rfl
  | succ n ih => rw [List.replicate_succ, List.flatMap_cons, List.flatMap_cons, ih]
theorem expand_outer (c : Cs) (m : Nat) : ∀ (L F : List Ent), (expand (L.foldl (fun found e => (nextsT c e.1.1).foldl (behind1 c m e) found) F)).Perm (expand F ++ (expand L).flatMap (succT c m))
  | [], F => by simp [expand]
  | e :: L, F => by
    rw [List.foldl_cons]
    refine (expand_outer c m L _).trans ?_
    refine ((expand_inner c m e (nextsT c e.1.1) F).append_right _).trans ?_
    rw [List.append_assoc]
    refine List.Perm.append_left _ ?_
    rw [show expand (e :: L) = List.replicate e.2.2 e.1 ++ expand L from rfl]
    rw [List.flatMap_append]
    refine List.Perm.append_right _ ?_
    refine (rep_flat _ e.1 e.2.2).trans ?_
    rw [← rep_fun (succT c m)]
    exact List.Perm.refl _
theorem expand_behind (c : Cs) (m : Nat) (L : List Ent) : (expand (behindT c m L)).Perm ((expand L).flatMap (succT c m)) := expand_outer c m L []
theorem flat_perm {α β : Type} {f : α → List β} {xs ys : List α} (h : xs.Perm ys) : (xs.flatMap f).Perm (ys.flatMap f) := List.Perm.flatMap_right f h
theorem expand_lay (c : Cs) : ∀ k, (expand (layT c k)).Perm (marksT c k)
  | 0 => by
    show (expand ((firstsT c).filterMap (first1 c))).Perm ((firstsT c).filterMap _)
    have : ∀ xs : List (List Std), expand (xs.filterMap (first1 c)) = xs.filterMap fun ss => (lookL 0 (plS ss) c.ts (none0 c)).map fun bs => (ss, bs) := fun xs => by
      induction xs with
      | nil => rfl
      | cons x xs ih =>
        rw [List.filterMap_cons, List.filterMap_cons]
        unfold first1
        cases lookL 0 (plS x) c.ts (none0 c) with
        | none => exact ih
        | some bs =>
          show List.replicate 1 (x, bs) ++ expand (xs.filterMap (first1 c)) = _
          rw [ih]
          rfl
    rw [this]
  | k + 1 => (expand_behind c (k + 1) (layT c k)).trans (flat_perm (expand_lay c k))
theorem pos_set {k : Mk} {v : Option Mk × Nat} (hv : 0 < v.2) : ∀ {L : List Ent}, (∀ e ∈ L, 0 < e.2.2) → ∀ e ∈ setT L k v, 0 < e.2.2
  | [], _, e, he => by cases he
  | x :: L, h, e, he => by
    unfold setT at he
    split at he
    · rcases List.mem_cons.mp he with rfl | he
      · exact hv
      · exact h e (List.mem_cons_of_mem _ he)
    · rcases List.mem_cons.mp he with rfl | he
      · exact h e List.mem_cons_self
      · exact pos_set hv (fun y hy => h y (List.mem_cons_of_mem _ hy)) e he
theorem pos_bump {L : List Ent} (h : ∀ e ∈ L, 0 < e.2.2) (k : Mk) (here : Option Mk) {n : Nat} (hn : 0 < n) : ∀ e ∈ bump L k here n, 0 < e.2.2 := by
  unfold bump
  cases q : lookT L k with
  | none =>
    intro e he
    rcases List.mem_append.mp he with he | he
    · exact h e he
    · rw [List.mem_singleton.mp he]; exact hn
  | some v => exact pos_set (by show 0 < v.2 + n; omega) h
theorem pos_lay (c : Cs) : ∀ k, ∀ e ∈ layT c k, 0 < e.2.2
  | 0, e, he => by
    obtain ⟨ss, _, h2⟩ := List.mem_filterMap.mp he
    unfold first1 at h2
    obtain ⟨bs, _, rfl⟩ := Option.map_eq_some_iff.mp h2
    exact Nat.zero_lt_one
  | k + 1, e, he => by
    have := fold_inv (g := fun found e => (nextsT c e.1.1).foldl (behind1 c (k + 1) e) found) (fun _ L => ∀ e ∈ L, 0 < e.2.2) (layT c k) 0 [] (fun e he => by cases he) fun x hx _ a i =>
      fold_inv (g := behind1 c (k + 1) x) (fun _ L => ∀ e ∈ L, 0 < e.2.2) (nextsT c x.1.1) 0 a i fun ss _ _ b j => by
        unfold behind1
        split
        · exact j
        · exact pos_bump j _ _ (pos_lay c k x hx)
    exact this e he
theorem mem_expand {L : List Ent} (h : ∀ e ∈ L, 0 < e.2.2) (k : Mk) : k ∈ expand L ↔ k ∈ L.map (·.1) := by
  unfold expand
  rw [List.mem_flatMap, List.mem_map]
  constructor
  · rintro ⟨e, he, hk⟩
    exact ⟨e, he, (List.eq_of_mem_replicate hk).symm⟩
  · rintro ⟨e, he, rfl⟩
    exact ⟨e, he, List.mem_replicate.mpr ⟨Nat.ne_of_gt (h e he), rfl⟩⟩
theorem key_lay (c : Cs) (k : Nat) (x : Mk) : x ∈ (layT c k).map (·.1) ↔ x ∈ marksT c k := by
  rw [← mem_expand (pos_lay c k), (expand_lay c k).mem_iff]
end Lw
namespace Lw
open PySem PySem.Spec PyProof.Rows L2 Dt

abbrev Pth := List (List Std)
def nextsW (t : Twn) (ss : List Std) : List (List Std) := rowsT [[]] (ss.map (stepsT t))
def firstsW (t : Twn) (ps : Nat) : List (List Std) := rowsT [[]] (List.replicate ps (begunT t))
def lastR (p : Pth) : List Std := p.getLastD []
def pathsT (t : Twn) (ps : Nat) : Nat → List Pth
  | 0 => (firstsW t ps).map fun ss => [ss]
  | k + 1 => (pathsT t ps k).flatMap fun p => (nextsW t (lastR p)).map fun ss => p ++ [ss]
/-- truth by where each is at each moment -/
def truG (g : Nat → Nat → Option Nat) (t : Tlg) : Bool := match t.w with
  | .there => (List.range' t.fst (t.lst + 1 - t.fst)).all fun m => so t (g m)
  | .seen => (List.range' t.fst (t.lst + 1 - t.fst)).any fun m => so t (g m)
  | .met => (List.range' t.fst (t.lst + 1 - t.fst)).any fun m => so t (g m)
  | .never => !(List.range' t.fst (t.lst + 1 - t.fst)).any fun m => so t (g m)
  | .apart => !(List.range' t.fst (t.lst + 1 - t.fst)).any fun m => so t (g m)
def gP (p : Pth) (m : Nat) : Nat → Option Nat := plS (p.getD m [])
/-- what is done of one telling behind a moment -/
def stT (t : Tlg) (g : Nat → Nat → Option Nat) : Nat → Option Bool
  | 0 => look1 0 (g 0) t false
  | k + 1 => (stT t g k).bind fun b => look1 (k + 1) (g (k + 1)) t b
def statT (ts : List Tlg) (p : Pth) (k : Nat) : Option (List Bool) := ts.mapM fun t => stT t (gP p) k
def mpT (c : Cs) : Nat → List (Pth × List Bool)
  | 0 => (firstsW c.tn c.ps).filterMap fun ss => (lookL 0 (plS ss) c.ts (none0 c)).map fun bs => ([ss], bs)
  | k + 1 => (mpT c k).flatMap fun x => (nextsW c.tn (lastR x.1)).filterMap fun ss => (lookL (k + 1) (plS ss) c.ts x.2).map fun bs => (x.1 ++ [ss], bs)
theorem lastR_snoc (p : Pth) (ss : List Std) : lastR (p ++ [ss]) = ss := by
  unfold lastR
  rw [List.getLastD_eq_getLast?]
  simp
theorem mp_marks (c : Cs) : ∀ k, (mpT c k).map (fun x => (lastR x.1, x.2)) = marksT c k
  | 0 => by
    show List.map _ (List.filterMap _ _) = List.filterMap _ _
    rw [List.map_filterMap]
    congr 1
    funext ss
    cases lookL 0 (plS ss) c.ts (none0 c) <;> rfl
  | k + 1 => by
    show List.map _ (List.flatMap _ _) = (marksT c k).flatMap _
    rw [← mp_marks c k, List.map_flatMap, List.flatMap_map]
    congr 1
    funext x
    unfold succT
    rw [List.map_filterMap]
    show List.filterMap _ (nextsW c.tn (lastR x.1)) = List.filterMap _ (nextsW c.tn (lastR x.1))
    congr 1
    funext ss
    cases lookL (k + 1) (plS ss) c.ts x.2 with
    | none => rfl
    | some bs =>
      show some (lastR (x.1 ++ [ss]), bs) = some (ss, bs)
      rw [lastR_snoc]
theorem zip_mapM {α β γ : Type} {F : α → Option β} {G : α → β → Option γ} : ∀ {ts : List α} {bs : List β}, ts.mapM F = some bs → (ts.zip bs).mapM (fun p => G p.1 p.2) = ts.mapM fun t => (F t).bind (G t)
  | [], bs, h => by cases h; rfl
  | t :: ts, bs, h => by
    rw [List.mapM_cons] at h
    cases q : F t with
    | none => rw [q] at h; cases h
    | some b =>
      cases q2 : ts.mapM F with
      | none => rw [q, q2] at h; cases h
      | some bs' =>
        rw [q, q2] at h
        cases h
        rw [List.zip_cons_cons, List.mapM_cons, List.mapM_cons, zip_mapM q2, q]
        rfl
theorem mapM_bind_none {α β γ : Type} {F : α → Option β} {G : α → β → Option γ} : ∀ {ts : List α}, ts.mapM F = none → (ts.mapM fun t => (F t).bind (G t)) = none
  | [], h => by cases h
  | t :: ts, h => by
    rw [List.mapM_cons] at h ⊢
    cases q : F t with
    | none => rfl
    | some b =>
      rw [q] at h
      have h2 : ts.mapM F = none := by
        cases q2 : ts.mapM F with
        | none => rfl
        | some bs => rw [q2] at h; cases h
      rw [mapM_bind_none h2]
      cases (some b : Option β).bind (G t) <;> rfl
theorem mapM_congr {α β : Type} {F G : α → Option β} : ∀ {ts : List α}, (∀ t ∈ ts, F t = G t) → ts.mapM F = ts.mapM G
  | [], _ => rfl
  | t :: ts, h => by rw [List.mapM_cons, List.mapM_cons, h t List.mem_cons_self, mapM_congr fun x hx => h x (List.mem_cons_of_mem _ hx)]
theorem stT_congr {t : Tlg} {g g' : Nat → Nat → Option Nat} : ∀ {k : Nat}, (∀ m, m ≤ k → g m = g' m) → stT t g k = stT t g' k
  | 0, h => by unfold stT; rw [h 0 (Nat.le_refl _)]
  | k + 1, h => by unfold stT; rw [stT_congr (k := k) fun m hm => h m (by omega), h (k + 1) (Nat.le_refl _)]
theorem pathsT_len {t : Twn} {ps : Nat} : ∀ k, ∀ p ∈ pathsT t ps k, p.length = k + 1
  | 0, p, h => by
    obtain ⟨ss, _, rfl⟩ := List.mem_map.mp h
    rfl
  | k + 1, p, h => by
    obtain ⟨q, h1, h2⟩ := List.mem_flatMap.mp h
    obtain ⟨ss, _, rfl⟩ := List.mem_map.mp h2
    rw [List.length_append, pathsT_len k q h1]
    rfl
theorem gP_snoc {p : Pth} {k : Nat} (h : p.length = k + 1) (ss : List Std) : (∀ m, m ≤ k → gP (p ++ [ss]) m = gP p m) ∧ gP (p ++ [ss]) (k + 1) = plS ss := by
  constructor
  · intro m hm
    unfold gP
    rw [List.getD_eq_getElem?_getD, List.getElem?_append_left (by omega), ← List.getD_eq_getElem?_getD]
  · unfold gP
    rw [List.getD_eq_getElem?_getD, List.getElem?_append_right (by omega), show k + 1 - p.length = 0 by omega]
    rfl
theorem stat_snoc {ts : List Tlg} {p : Pth} {k : Nat} (h : p.length = k + 1) (ss : List Std) : statT ts (p ++ [ss]) (k + 1) = (statT ts p k).bind fun bs => lookL (k + 1) (plS ss) ts bs := by
  obtain ⟨h1, h2⟩ := gP_snoc h ss
  have e : statT ts (p ++ [ss]) (k + 1) = ts.mapM fun t => (stT t (gP p) k).bind fun b => look1 (k + 1) (plS ss) t b := by
    refine mapM_congr fun t _ => ?_
    show (stT t (gP (p ++ [ss])) k).bind _ = _
    rw [stT_congr h1, h2]
  rw [e]
  cases q : statT ts p k with
  | none => exact mapM_bind_none q
  | some bs => exact (zip_mapM (G := fun t b => look1 (k + 1) (plS ss) t b) q).symm
theorem mp_paths (c : Cs) : ∀ k, mpT c k = (pathsT c.tn c.ps k).filterMap fun p => (statT c.ts p k).map fun bs => (p, bs)
  | 0 => by
    show List.filterMap _ _ = List.filterMap _ (List.map _ _)
    rw [List.filterMap_map]
    congr 1
    funext ss
    show _ = (statT c.ts [ss] 0).map _
    have : statT c.ts [ss] 0 = lookL 0 (plS ss) c.ts (none0 c) := by
      unfold statT lookL none0
      have hF : c.ts.mapM (fun _ => some false) = some (List.replicate c.ts.length false) := by
        induction c.ts with
        | nil => rfl
        | cons t ts ih => rw [List.mapM_cons, ih]; rfl
      rw [zip_mapM (F := fun _ => some false) (G := fun t b => look1 0 (plS ss) t b) hF]
      rfl
    rw [this]
  | k + 1 => by
    show List.flatMap _ (mpT c k) = List.filterMap _ (List.flatMap _ _)
    rw [mp_paths c k, List.filterMap_flatMap]
    have : ∀ xs : List Pth, (∀ p ∈ xs, p.length = k + 1) → (xs.filterMap fun p => (statT c.ts p k).map fun bs => (p, bs)).flatMap (fun x => (nextsW c.tn (lastR x.1)).filterMap fun ss => (lookL (k + 1) (plS ss) c.ts x.2).map fun bs => (x.1 ++ [ss], bs)) =
        xs.flatMap fun p => List.filterMap (fun p => (statT c.ts p (k + 1)).map fun bs => (p, bs)) ((nextsW c.tn (lastR p)).map fun ss => p ++ [ss]) := fun xs => by
      induction xs with
      | nil => intro _; rfl
      | cons p xs ih =>
        intro h
        have hp := h p List.mem_cons_self
        have ih := ih fun q hq => h q (List.mem_cons_of_mem _ hq)
        rw [List.filterMap_cons]
        cases q : statT c.ts p k with
        | none =>
          rw [List.flatMap_cons, List.filterMap_map]
          have : List.filterMap ((fun p => (statT c.ts p (k + 1)).map fun bs => (p, bs)) ∘ fun ss => p ++ [ss]) (nextsW c.tn (lastR p)) = [] := by
            rw [List.filterMap_eq_nil_iff]
            intro ss _
            show (statT c.ts (p ++ [ss]) (k + 1)).map _ = none
            rw [stat_snoc hp, q]
            rfl
          rw [this, List.nil_append]
          exact ih
        | some bs =>
          show List.flatMap _ (_ :: _) = _
          rw [List.flatMap_cons, List.flatMap_cons, List.filterMap_map, ih]
          congr 1
          congr 1
          funext ss
          show _ = (statT c.ts (p ++ [ss]) (k + 1)).map _
          rw [stat_snoc hp, q]
          rfl
    exact this _ (pathsT_len k)
end Lw
namespace Lw
open PySem PySem.Spec PyProof.Rows L2 Dt

/-- whether it is so at a moment of a telling, up to a moment -/
def evr (t : Tlg) (g : Nat → Nat → Option Nat) (k : Nat) : Bool := (List.range (k + 1)).any fun m => inT t m && so t (g m)
/-- whether it is not so at a moment of a telling -/
def gap (t : Tlg) (g : Nat → Nat → Option Nat) (k : Nat) : Bool := (List.range (k + 1)).any fun m => inT t m && !so t (g m)
/-- the paths so that all tellings are true -/
def goods (c : Cs) : List Pth := (pathsT c.tn c.ps c.last).filter fun p => c.ts.all fun t => truG (gP p) t
end Lw
namespace Lw
open PySem PySem.Spec PyProof.Rows L2 Dt

theorem pathsT_row {t : Twn} {ps : Nat} : ∀ k, ∀ p ∈ pathsT t ps k, ∀ row ∈ p, row.length = ps
  | 0, p, h, row, hr => by
    obtain ⟨ss, h1, rfl⟩ := List.mem_map.mp h
    rw [List.mem_singleton.mp hr]
    exact firsts_len (c := ⟨t, ps, 0, []⟩) ss h1
  | k + 1, p, h, row, hr => by
    obtain ⟨q, h1, h2⟩ := List.mem_flatMap.mp h
    obtain ⟨ss, h3, rfl⟩ := List.mem_map.mp h2
    have hq := pathsT_row k q h1
    rcases List.mem_append.mp hr with hr | hr
    · exact hq row hr
    · rw [List.mem_singleton.mp hr]
      have h4 := nexts_len (c := ⟨t, ps, 0, []⟩) (ss := lastR q) ss h3
      have hl := pathsT_len k q h1
      rw [h4]
      refine hq _ ?_
      unfold lastR
      rw [List.getLastD_eq_getLast?, List.getLast?_eq_getElem?, List.getElem?_eq_getElem (by omega)]
      exact List.getElem_mem _
end Lw
namespace Lw
open PySem PySem.Spec PyProof.Rows L2 Dt

def colT (i : Nat) (p : Pth) : Day := p.map fun row => row.getD i (0, 0)
theorem lastS_snoc (d : Day) (s : Std) : lastS (d ++ [s]) = s := by
  unfold lastS
  rw [List.getLastD_eq_getLast?]
  simp
theorem col_snoc (i : Nat) (p : Pth) (ss : List Std) : colT i (p ++ [ss]) = colT i p ++ [ss.getD i (0, 0)] := by
  unfold colT
  rw [List.map_append]
  rfl
theorem col_last {t : Twn} {ps k : Nat} {p : Pth} (h : p ∈ pathsT t ps k) (i : Nat) : lastS (colT i p) = (lastR p).getD i (0, 0) := by
  have hl := pathsT_len k p h
  obtain ⟨q, ss, rfl⟩ : ∃ q ss, p = q ++ [ss] := by
    have hne : p ≠ [] := fun z => by rw [z] at hl; cases hl
    exact ⟨p.dropLast, p.getLast hne, (List.dropLast_concat_getLast hne).symm⟩
  rw [col_snoc, lastS_snoc, lastR_snoc]
theorem getD_at {α : Type} {xs : List α} {i : Nat} (h : i < xs.length) (d : α) : xs[i]? = some (xs.getD i d) := by
  rw [List.getD_eq_getElem?_getD, List.getElem?_eq_getElem h]
  rfl
theorem next_at {t : Twn} {ss r : List Std} (h : r ∈ nextsW t ss) {i : Nat} (hi : i < ss.length) : r.length = ss.length ∧ r.getD i (0, 0) ∈ stepsT t (ss.getD i (0, 0)) := by
  obtain ⟨h1, h2⟩ := inAll_get.mp (mem_rows.mp h)
  rw [List.length_map] at h1
  refine ⟨h1, h2 i _ _ (getD_at (by omega) (0, 0)) ?_⟩
  rw [List.getElem?_map, getD_at hi (0, 0)]
  rfl
theorem lastR_len {t : Twn} {ps k : Nat} {p : Pth} (h : p ∈ pathsT t ps k) : (lastR p).length = ps := by
  have hl := pathsT_len k p h
  refine pathsT_row k p h _ ?_
  unfold lastR
  rw [List.getLastD_eq_getLast?, List.getLast?_eq_getElem?, List.getElem?_eq_getElem (by omega)]
  exact List.getElem_mem _
theorem col_ok {t : Twn} (ht : TwnOk t) {ps : Nat} : ∀ k, ∀ p ∈ pathsT t ps k, ∀ i, i < ps → DayOk t k (colT i p)
  | 0, p, h, i, hi => by
    obtain ⟨ss, h1, rfl⟩ := List.mem_map.mp h
    obtain ⟨h2, h3⟩ := inAll_get.mp (mem_rows.mp h1)
    rw [List.length_replicate] at h2
    have hb : ss.getD i (0, 0) ∈ begunT t := h3 i _ _ (getD_at (by omega) (0, 0)) (by rw [List.getElem?_replicate, if_pos (by omega)])
    obtain ⟨b1, b2⟩ := begun_ok hb
    refine ⟨rfl, fun s hs => ?_, fun s hs => ?_, fun j a b ha hb => by cases hb⟩
    · rw [List.mem_singleton.mp hs]
      exact ⟨b1, by rw [b2]; exact Nat.zero_le _⟩
    · have hs : some (ss.getD i (0, 0)) = some s := hs
      cases hs
      exact b2
  | k + 1, p, h, i, hi => by
    obtain ⟨q, h1, h2⟩ := List.mem_flatMap.mp h
    obtain ⟨ss, h3, rfl⟩ := List.mem_map.mp h2
    rw [col_snoc]
    refine (col_ok ht k q h1 i hi).snoc ht ?_
    rw [col_last h1]
    exact (next_at h3 (by rw [lastR_len h1]; exact hi)).2
end Lw
namespace Lw
open PySem PySem.Spec PyProof.Rows L2 Dt

theorem few_with {c : Cs} (h : Few c) (ts : List Tlg) : Few (withT c ts) := h
theorem goods_with (c : Cs) (ts : List Tlg) : goods (withT c ts) = (pathsT c.tn c.ps c.last).filter fun p => ts.all fun t => truG (gP p) t := rfl
end Lw
namespace Lw
open PySem PySem.Spec PyProof.Rows L2 Dt

/-- a day up to a moment, by steps -/
structure Goes (t : Twn) (k : Nat) (d : Day) : Prop where
  hd : d.getD 0 (0, 0) ∈ begunT t
  go : ∀ m, m < k → d.getD (m + 1) (0, 0) ∈ stepsT t (d.getD m (0, 0))
theorem DayOk.goes {t : Twn} {l : Nat} {d : Day} (h : DayOk t l d) : Goes t l d := by
  have hl := h.len
  refine ⟨?_, fun m hm => h.go m _ _ (getD_at (by omega) _) (getD_at (by omega) _)⟩
  have h0 := getD_at (xs := d) (i := 0) (by omega) (0, 0)
  have h1 := h.hd _ h0
  have h2 := (h.std _ (List.mem_iff_getElem?.mpr ⟨0, h0⟩)).1
  exact List.mem_map.mpr ⟨(d.getD 0 (0, 0)).1, List.mem_range.mpr h2, Prod.ext rfl h1.symm⟩
theorem ways_nodup {t : Twn} (h : TwnOk t) : t.ws.Pairwise fun a b => ¬ (a.1 = b.1 ∧ a.2.1 = b.2.1) := by
  have h1 := h.inc
  have h5 := h.n5
  rw [incr_pw fun x hx => by
    obtain ⟨w, hw, rfl⟩ := List.mem_map.mp hx
    obtain ⟨a, b, _, _⟩ := h.way w hw
    exact way_pair (n := t.n) (w := eWay w) (way_enc (h.way w hw)) (by omega)] at h1
  rw [List.pairwise_map] at h1
  refine h1.imp fun {a b} hab e => ?_
  rw [code2, code2, e.1, e.2] at hab
  omega
theorem fst_eq {a b : Std} (h : some a = some b) : a.1 = b.1 := by cases h; rfl
theorem via_inj {t : Twn} (h : TwnOk t) {s : Std} {a b : Nat × Nat × Nat} (ha : a ∈ t.ws) (hb : b ∈ t.ws) {x : Std} (e1 : via s a = some x) (e2 : via s b = some x) : a.1 = b.1 ∧ a.2.1 = b.2.1 := by
  obtain ⟨a1, _⟩ := h.way a ha
  obtain ⟨b1, _⟩ := h.way b hb
  unfold via at e1 e2
  split at e1
  · cases e1
    split at e2
    · have z := fst_eq e2
      have : b.2.1 = a.2.1 := z
      omega
    · split at e2
      · have z := fst_eq e2
        have : b.1 = a.2.1 := z
        omega
      · cases e2
  · split at e1
    · cases e1
      split at e2
      · have z := fst_eq e2
        have : b.2.1 = a.1 := z
        omega
      · split at e2
        · have z := fst_eq e2
          have : b.1 = a.1 := z
          omega
        · cases e2
    · cases e1
theorem via_ne {t : Twn} (h : TwnOk t) {s x : Std} {a : Nat × Nat × Nat} (ha : a ∈ t.ws) (e : via s a = some x) : x ≠ s := fun z => by
  obtain ⟨a1, _⟩ := h.way a ha
  subst z
  unfold via at e
  split at e
  · have z := fst_eq e
    have : a.2.1 = x.1 := z
    omega
  · split at e
    · have z := fst_eq e
      have : a.1 = x.1 := z
      omega
    · cases e
theorem stepsT_nodup {t : Twn} (h : TwnOk t) (s : Std) : (stepsT t s).Nodup := by
  unfold stepsT
  split
  · simp
  · rw [(srt_perm _ _).nodup_iff, List.nodup_cons]
    refine ⟨fun z => ?_, ?_⟩
    · obtain ⟨a, ha, e⟩ := List.mem_filterMap.mp z
      exact via_ne h ha e rfl
    · have := ways_nodup h
      have key : ∀ ws : List (Nat × Nat × Nat), (∀ w ∈ ws, w ∈ t.ws) → ws.Pairwise (fun a b => ¬ (a.1 = b.1 ∧ a.2.1 = b.2.1)) → (ws.filterMap (via s)).Nodup := fun ws => by
        induction ws with
        | nil => intro _ _; simp
        | cons w ws ih =>
          intro hin hp
          rw [List.pairwise_cons] at hp
          have ih := ih (fun x hx => hin x (List.mem_cons_of_mem _ hx)) hp.2
          rw [List.filterMap_cons]
          cases q : via s w with
          | none => exact ih
          | some x =>
            dsimp only
            rw [List.nodup_cons]
            refine ⟨fun z => ?_, ih⟩
            obtain ⟨b, hb, e⟩ := List.mem_filterMap.mp z
            exact hp.1 b hb (via_inj h (hin w List.mem_cons_self) (hin b (List.mem_cons_of_mem _ hb)) q e)
      exact key t.ws (fun w hw => hw) this
theorem snoc_nodup {α : Type} {f : List α → List α} : ∀ {xs : List (List α)} {k : Nat}, (∀ r ∈ xs, r.length = k) → xs.Nodup → (∀ r ∈ xs, (f r).Nodup) → (xs.flatMap fun r => (f r).map fun x => r ++ [x]).Nodup
  | [], _, _, _, _ => by simp
  | r :: xs, k, hk, h, hf => by
    rw [List.nodup_cons] at h
    rw [List.flatMap_cons, List.nodup_append]
    refine ⟨?_, snoc_nodup (fun r hr => hk r (List.mem_cons_of_mem _ hr)) h.2 (fun r hr => hf r (List.mem_cons_of_mem _ hr)), ?_⟩
    · refine List.Pairwise.map _ ?_ (hf r List.mem_cons_self)
      intro x y hxy e
      exact hxy (by simpa using e)
    · intro a ha b hb e
      obtain ⟨x, _, rfl⟩ := List.mem_map.mp ha
      obtain ⟨f', hf', hb⟩ := List.mem_flatMap.mp hb
      obtain ⟨y, _, rfl⟩ := List.mem_map.mp hb
      have h1 := hk r List.mem_cons_self
      have h2 := hk f' (List.mem_cons_of_mem _ hf')
      have := (List.append_inj e (by rw [h1, h2])).1
      exact h.1 (this ▸ hf')
theorem daysT_nodup {t : Twn} (h : TwnOk t) : ∀ k, (daysT t k).Nodup
  | 0 => by
    refine List.Pairwise.map _ ?_ List.nodup_range
    intro a b hab e
    exact hab (congrArg Prod.fst (List.cons.inj e).1)
  | k + 1 => snoc_nodup (f := fun d => stepsT t (lastS d)) (daysT_len t k) (daysT_nodup h k) fun d _ => stepsT_nodup h _
theorem goes_day {t : Twn} : ∀ {k : Nat} {d : Day}, d.length = k + 1 → Goes t k d → d ∈ daysT t k
  | 0, d, hl, h => by
    obtain ⟨s, rfl⟩ := List.length_eq_one_iff.mp hl
    obtain ⟨p, hp, e⟩ := List.mem_map.mp h.hd
    exact List.mem_map.mpr ⟨p, hp, by rw [e]; rfl⟩
  | k + 1, d, hl, h => by
    have hne : d ≠ [] := fun z => by rw [z] at hl; cases hl
    have e := List.dropLast_concat_getLast hne
    have hl2 : d.dropLast.length = k + 1 := by rw [List.length_dropLast, hl]; rfl
    have hg : ∀ m, m < k + 1 → d.dropLast.getD m (0, 0) = d.getD m (0, 0) := fun m hm => by
      conv => rhs; rw [← e]
      rw [List.getD_eq_getElem?_getD, List.getD_eq_getElem?_getD, List.getElem?_append_left (by omega)]
    have hlast : d.getLast hne = d.getD (k + 1) (0, 0) := by
      conv => rhs; rw [← e]
      rw [List.getD_eq_getElem?_getD, List.getElem?_append_right (by omega), show k + 1 - d.dropLast.length = 0 by omega]
      rfl
    have ih := goes_day hl2 ⟨by rw [hg 0 (by omega)]; exact h.hd, fun m hm => by rw [hg m (by omega), hg (m + 1) (by omega)]; exact h.go m (by omega)⟩
    rw [← e]
    refine List.mem_flatMap.mpr ⟨_, ih, List.mem_map.mpr ⟨_, ?_, rfl⟩⟩
    have : lastS d.dropLast = d.getD k (0, 0) := by
      unfold lastS
      rw [List.getLastD_eq_getLast?, List.getLast?_eq_getElem?, hl2, ← hg k (by omega), Nat.add_sub_cancel, List.getD_eq_getElem?_getD]
    rw [this, hlast]
    exact h.go k (Nat.lt_succ_self k)
theorem mem_daysT {t : Twn} (h : TwnOk t) {k : Nat} {d : Day} : d ∈ daysT t k ↔ DayOk t k d := ⟨daysT_ok h k d, fun hd => goes_day hd.len hd.goes⟩
end Lw
namespace Lw
open PySem PySem.Spec PyProof.Rows L2 Dt

structure MkV (c : Cs) (k : Mk) : Prop where
  ss : k.1.length = c.ps
  bs : k.2.length = c.ts.length
  std : ∀ s ∈ k.1, s.1 < c.tn.n ∧ s.2 ≤ 3
theorem forD_unB {β : Type} {e : β → PyData} {f : PyData → Unit → Res (Out Unit)} {q : β → Bool} : ∀ (xs : List β), (∀ x ∈ xs, f (e x) () = if q x = true then .ok (.nx ()) else .ok (.rt (.bool false))) → forD (xs.map e) () f = if xs.all q = true then .ok (.nx ()) else .ok (.rt (.bool false))
  | [], _ => rfl
  | x :: xs, h => by
    rw [List.map_cons, forD_cons, h x List.mem_cons_self, List.all_cons]
    cases q x with
    | false => rfl
    | true =>
      rw [if_pos rfl, seqR_nx, forD_unB xs fun y hy => h y (List.mem_cons_of_mem _ hy), Bool.true_and]
theorem marks_ok {c : Cs} (hc : CsOk c) {k : Nat} {x : Mk} (h : x ∈ marksT c k) : MkV c x := by
  rw [← mp_marks] at h
  obtain ⟨⟨p, bs⟩, hp, rfl⟩ := List.mem_map.mp h
  have hk := (layT_ok (c := c) hc.tn.n1 k).1.keys (lastR p, bs) ((key_lay c k _).mpr (by rw [← mp_marks]; exact List.mem_map.mpr ⟨_, hp, rfl⟩))
  rw [mp_paths] at hp
  obtain ⟨q, h1, h2⟩ := List.mem_filterMap.mp hp
  obtain ⟨bs', h3, h4⟩ := Option.map_eq_some_iff.mp h2
  cases h4
  refine ⟨hk.ss, hk.bs, fun s hs => ?_⟩
  obtain ⟨i, hi⟩ := List.mem_iff_getElem?.mp hs
  have hl := lastR_len h1
  have hlt : i < c.ps := by
    rcases Nat.lt_or_ge i c.ps with z | z
    · exact z
    · rw [List.getElem?_eq_none (by show (lastR p).length ≤ i; omega)] at hi; cases hi
  have hd := col_ok hc.tn k p h1 i hlt
  have e : s = lastS (colT i p) := by
    rw [col_last h1]
    have := getD_at (xs := lastR p) (i := i) (by omega) (0, 0)
    exact Option.some.inj (hi.symm.trans this)
  rw [e]
  refine hd.std _ ?_
  have hl2 := hd.len
  unfold lastS
  rw [List.getLastD_eq_getLast?, List.getLast?_eq_getElem?, List.getElem?_eq_getElem (by omega)]
  exact List.getElem_mem _
end Lw
namespace Lw
open PySem PySem.Spec PyProof.Rows L2 Dt

theorem eq0N (a : Nat) : eqD (.int (a : Int)) (.int 0) = .ok (.bool (decide (a = 0))) := eqN a 0
theorem comR_fil2 {γ : Type} {e : γ → PyData} {q : γ → Bool} {g : PyData → Res (Option PyData)} {xs : List γ} (hl : xs.length ≤ sizeLine) (h : ∀ x ∈ xs, g (e x) = .ok (if q x = true then some (e x) else none)) : comR (.ok (xs.map e)) g = .ok ((xs.filter q).map e) := by
  rw [comR_encF (e' := e) (f := fun x => if q x = true then some x else none) hl fun x hx => by
    rw [h x hx]
    split <;> rfl]
  congr 2
  induction xs with
  | nil => rfl
  | cons x xs ih =>
    rw [List.filterMap_cons, List.filter_cons]
    have := ih (Nat.le_trans (Nat.le_succ _) hl) fun y hy => h y (List.mem_cons_of_mem _ hy)
    rw [this]
    cases q x <;> rfl
end Lw
namespace Lw
open PySem PySem.Spec PyProof.Rows L2 Dt

end Lw
namespace Lw
open PySem PySem.Spec PyProof.Rows L2 Dt

end Lw
namespace Lw
open PySem PySem.Spec PyProof.Rows L2 Dt

theorem pos_behind (c : Cs) (m : Nat) {L : List Ent} (hL : ∀ e ∈ L, 0 < e.2.2) : ∀ e ∈ behindT c m L, 0 < e.2.2 := by
  have := fold_inv (g := fun found e => (nextsT c e.1.1).foldl (behind1 c m e) found) (fun _ L => ∀ e ∈ L, 0 < e.2.2) L 0 [] (fun e he => by cases he) fun x hx _ a i =>
    fold_inv (g := behind1 c m x) (fun _ L => ∀ e ∈ L, 0 < e.2.2) (nextsT c x.1.1) 0 a i fun ss _ _ b j => by
      unfold behind1
      split
      · exact j
      · exact pos_bump j _ _ (hL x hx)
  exact this
theorem one_keys (c : Cs) (m : Nat) (h x : Mk) : x ∈ (behindT c m [(h, (none, 1))]).map (·.1) ↔ x ∈ succT c m h := by
  rw [← mem_expand (pos_behind c m fun e he => by rw [List.mem_singleton.mp he]; exact Nat.zero_lt_one), (expand_behind c m _).mem_iff]
  have : expand [(h, (none, 1))] = [h] := rfl
  rw [this]
  simp
end Lw
namespace Lw
open PySem PySem.Spec PyProof.Rows L2 Dt

theorem mp_len {c : Cs} {k : Nat} {p : Pth} {bs : List Bool} (h : (p, bs) ∈ mpT c k) : p ∈ pathsT c.tn c.ps k ∧ p.length = k + 1 ∧ statT c.ts p k = some bs := by
  rw [mp_paths] at h
  obtain ⟨q, h1, h2⟩ := List.mem_filterMap.mp h
  obtain ⟨b, h3, h4⟩ := Option.map_eq_some_iff.mp h2
  cases h4
  exact ⟨h1, pathsT_len k _ h1, h3⟩
theorem mp_succ {c : Cs} {k : Nat} {q : Pth} {b : List Bool} (h : (q, b) ∈ mpT c k) {s : Mk} (hs : s ∈ succT c (k + 1) (lastR q, b)) : (q ++ [s.1], s.2) ∈ mpT c (k + 1) := by
  obtain ⟨ss, h1, h2⟩ := List.mem_filterMap.mp hs
  obtain ⟨bs, h3, h4⟩ := Option.map_eq_some_iff.mp h2
  refine List.mem_flatMap.mpr ⟨_, h, List.mem_filterMap.mpr ⟨ss, h1, ?_⟩⟩
  rw [show lookL (k + 1) (plS ss) c.ts b = some bs from h3, ← h4]
  rfl
theorem mp_pred {c : Cs} {k : Nat} {p : Pth} {b : List Bool} (h : (p, b) ∈ mpT c (k + 1)) : ∃ q b', (q, b') ∈ mpT c k ∧ q = p.take (k + 1) ∧ (lastR p, b) ∈ succT c (k + 1) (lastR q, b') := by
  obtain ⟨⟨q, b'⟩, h1, h2⟩ := List.mem_flatMap.mp h
  obtain ⟨ss, h3, h4⟩ := List.mem_filterMap.mp h2
  obtain ⟨bs, h5, h6⟩ := Option.map_eq_some_iff.mp h4
  cases h6
  have hl := (mp_len h1).2.1
  refine ⟨q, b', h1, ?_, ?_⟩
  · show q = (q ++ [ss]).take (k + 1)
    rw [List.take_append_of_le_length (by omega), List.take_of_length_le (by omega)]
  · rw [show lastR (q ++ [ss]) = ss from lastR_snoc _ _]
    refine List.mem_filterMap.mpr ⟨ss, h3, ?_⟩
    rw [show lookL (k + 1) (plS ss) c.ts b' = some _ from h5]
    rfl
theorem mark_mp {c : Cs} {k : Nat} {x : Mk} : x ∈ marksT c k ↔ ∃ q, (q, x.2) ∈ mpT c k ∧ lastR q = x.1 := by
  rw [← mp_marks, List.mem_map]
  constructor
  · rintro ⟨⟨q, b⟩, h, rfl⟩
    exact ⟨q, h, rfl⟩
  · rintro ⟨q, h, e⟩
    exact ⟨(q, x.2), h, Prod.ext e rfl⟩
end Lw
namespace Lw
open PySem PySem.Spec PyProof.Rows L2 Dt

theorem left1 {t : Twn} (ht : TwnOk t) (h2 : ∀ w ∈ t.ws, w.2.2 ≤ 2) {ps : Nat} : ∀ k, ∀ p ∈ pathsT t ps k, ∀ row ∈ p, ∀ s ∈ row, s.2 ≤ 1
  | 0, p, h, row, hr, s, hs => by
    obtain ⟨ss, h1, rfl⟩ := List.mem_map.mp h
    rw [List.mem_singleton.mp hr] at hs
    obtain ⟨a1, a2⟩ := inAll_get.mp (mem_rows.mp h1)
    obtain ⟨i, hi⟩ := List.mem_iff_getElem?.mp hs
    have hlt : i < ps := by
      rcases Nat.lt_or_ge i ps with z | z
      · exact z
      · rw [List.getElem?_eq_none (by rw [a1, List.length_replicate]; exact z)] at hi; cases hi
    have := (begun_ok (a2 i s _ hi (by rw [List.getElem?_replicate, if_pos hlt]))).2
    omega
  | k + 1, p, h, row, hr, s, hs => by
    obtain ⟨q, h1, hx⟩ := List.mem_flatMap.mp h
    obtain ⟨ss, h3, rfl⟩ := List.mem_map.mp hx
    rcases List.mem_append.mp hr with hr | hr
    · exact left1 ht h2 k q h1 row hr s hs
    · rw [List.mem_singleton.mp hr] at hs
      obtain ⟨i, hi⟩ := List.mem_iff_getElem?.mp hs
      have hl := lastR_len h1
      have hlt : i < (lastR q).length := by
        have := nexts_len (c := ⟨t, ps, 0, []⟩) (ss := lastR q) ss h3
        rcases Nat.lt_or_ge i (lastR q).length with z | z
        · exact z
        · rw [List.getElem?_eq_none (by omega)] at hi; cases hi
      obtain ⟨_, hst⟩ := next_at h3 hlt
      have e : ss.getD i (0, 0) = s := by rw [List.getD_eq_getElem?_getD, hi]; rfl
      rw [e] at hst
      have hq : ((lastR q).getD i (0, 0)).2 ≤ 1 := by
        have hne : q ≠ [] := fun z => by rw [z] at h1; have := pathsT_len k _ h1; cases this
        refine left1 ht h2 k q h1 (lastR q) ?_ _ (List.mem_iff_getElem?.mpr ⟨i, getD_at hlt _⟩)
        unfold lastR
        rw [List.getLastD_eq_getLast?, List.getLast?_eq_some_getLast hne]
        exact List.getLast_mem hne
      unfold stepsT at hst
      split at hst
      · rw [List.mem_singleton.mp hst]
        show _ - 1 ≤ 1
        omega
      · rw [mem_srt, List.mem_cons, List.mem_filterMap] at hst
        rcases hst with rfl | ⟨w, hw, e⟩
        · exact hq
        · have := h2 w hw
          unfold via at e
          split at e
          · cases e; show w.2.2 - 1 ≤ 1; omega
          · split at e
            · cases e; show w.2.2 - 1 ≤ 1; omega
            · cases e
def stdU (n : Nat) : List Std := (List.range n).flatMap fun p => [(p, 0), (p, 1)]
def mkU (c : Cs) : List Mk := (rowsT [[]] (List.replicate c.ps (stdU c.tn.n))).flatMap fun a => (rowsT [[]] (List.replicate c.ts.length [false, true])).map fun b => (a, b)
theorem mkU_len (c : Cs) : (mkU c).length = (2 * c.tn.n) ^ c.ps * 2 ^ c.ts.length := by
  unfold mkU
  rw [flat_len, rows_rep_len, rows_rep_len]
  have : (stdU c.tn.n).length = 2 * c.tn.n := by
    unfold stdU
    induction c.tn.n with
    | zero => rfl
    | succ k ih => rw [List.range_succ, List.flatMap_append, List.length_append, ih]; simp; omega
  rw [this]
  simp
theorem mark_U {c : Cs} (hc : CsOk c) (h2 : ∀ w ∈ c.tn.ws, w.2.2 ≤ 2) {k : Nat} {x : Mk} (h : x ∈ marksT c k) : x ∈ mkU c := by
  have hv := marks_ok hc h
  obtain ⟨q, h1, hl⟩ := mark_mp.mp h
  obtain ⟨hp, hql, _⟩ := mp_len h1
  have hin : x.1 ∈ q := by
    have hne : q ≠ [] := fun z => by rw [z] at hql; cases hql
    rw [← hl]
    unfold lastR
    rw [List.getLastD_eq_getLast?, List.getLast?_eq_some_getLast hne]
    exact List.getLast_mem hne
  refine List.mem_flatMap.mpr ⟨x.1, rep_all hv.ss fun s hs => ?_, List.mem_map.mpr ⟨x.2, rep_all hv.bs fun b _ => by cases b <;> simp, rfl⟩⟩
  have l1 := left1 hc.tn h2 k q hp x.1 hin s hs
  have l2 := (hv.std s hs).1
  refine List.mem_flatMap.mpr ⟨s.1, List.mem_range.mpr l2, ?_⟩
  have : s.2 = 0 ∨ s.2 = 1 := by omega
  obtain ⟨a, b⟩ := s
  rcases this with rfl | rfl <;> simp
/-- few marks at each moment -/
def Sml (c : Cs) : Prop := ((∀ w ∈ c.tn.ws, w.2.2 ≤ 2) ∧ (2 * c.tn.n) ^ c.ps * 2 ^ c.ts.length < 4000) ∨ (4 * c.tn.n) ^ c.ps * 2 ^ c.ts.length < 4000
theorem lay_few {c : Cs} (hc : CsOk c) (hs : Sml c) (k : Nat) : (layT c k).length < 4000 := by
  rcases hs with hs | hs
  · obtain ⟨ok, _⟩ := layT_ok (c := c) hc.tn.n1 k
    have := nd_len ok.nd fun x hx => mark_U hc hs.1 ((key_lay c k x).mp hx)
    rw [mkU_len, List.length_map] at this
    have := hs.2
    omega
  · exact Nat.lt_of_le_of_lt (lay_U hc.w k) hs
end Lw
namespace Lw
open PySem PySem.Spec PyProof.Rows L2 Dt

theorem more_ok {c : Cs} (hc : CsOk c) {t : Tlg} (ht : TlgOk c.tn.n c.ps c.last t) (hl : c.ts.length ≤ 5) : CsOk (withT c (c.ts ++ [t])) := withT_ok hc (fun u hu => by
  rcases List.mem_append.mp hu with hu | hu
  · exact hc.ts u hu
  · rw [List.mem_singleton.mp hu]; exact ht) (by rw [List.length_append]; simp; omega)
end Lw
namespace Lw
open PySem PySem.Spec PyProof.Rows L2 Dt

end Lw
namespace Lw
open PySem PySem.Spec PyProof.Rows L2 Dt

inductive Vd where
  | non | tru | opn | fls
deriving DecidableEq
def Vd.s : Vd → Str
  | .non => "none"
  | .tru => "true"
  | .opn => "open"
  | .fls => "false"
def restT (c : Cs) (i : Nat) : Cs := withT c (c.ts.take i ++ c.ts.drop (i + 1))
theorem rest_ok {c : Cs} (hc : CsOk c) (i : Nat) : CsOk (restT c i) := withT_ok hc (fun t ht => by
  rcases List.mem_append.mp ht with ht | ht
  · exact hc.ts t (List.take_subset _ _ ht)
  · exact hc.ts t (List.drop_subset _ _ ht)) (by rw [List.length_append, List.length_take, List.length_drop]; have := hc.len; omega)
end Lw
namespace Lw
open PySem PySem.Spec PyProof.Rows L2 Dt

end Lw
namespace Lw
open PySem PySem.Spec PyProof.Rows L2 Dt

/-- so near at least -/
def lo (x : Option Nat) (n : Nat) : Prop := ∃ d, x = some d ∧ d ≤ n
theorem lo.up {x : Option Nat} {n m : Nat} (h : lo x n) (hm : n ≤ m) : lo x m := let ⟨d, e, l⟩ := h; ⟨d, e, Nat.le_trans l hm⟩
/-- so many steps from stand to stand -/
inductive Rch (t : Twn) : Nat → Std → Std → Prop where
  | refl (s : Std) : Rch t 0 s s
  | step {n : Nat} {s u v : Std} : Rch t n s u → v ∈ stepsT t u → Rch t (n + 1) s v
theorem Rch.trans {t : Twn} {m n : Nat} {s u v : Std} (h1 : Rch t m s u) (h2 : Rch t n u v) : Rch t (m + n) s v := by
  induction h2 with
  | refl => exact h1
  | step _ hv ih => exact .step (ih h1) hv
theorem stay (t : Twn) (p : Nat) : ∀ n, Rch t n (p, 0) (p, 0)
  | 0 => .refl _
  | n + 1 => .step (stay t p n) (by
    unfold stepsT
    rw [if_neg (by simp), mem_srt]
    exact List.mem_cons_self)
theorem down (t : Twn) (p : Nat) : ∀ l, Rch t l (p, l) (p, 0)
  | 0 => .refl _
  | l + 1 => by
    have h : Rch t 1 (p, l + 1) (p, l) := .step (.refl _) (by
      unfold stepsT
      rw [if_pos (by simp)]
      exact List.mem_singleton.mpr rfl)
    have := h.trans (down t p l)
    rw [Nat.add_comm] at this
    exact this
end Lw
namespace Lw
open PySem PySem.Spec PyProof.Rows L2 Dt

end Lw
namespace Lw
open PySem PySem.Spec PyProof.Rows L2 Dt

end Lw
namespace Lw
open PySem PySem.Spec PyProof.Rows L2 Dt

end Lw
namespace Lw
open PySem PySem.Spec PyProof.Rows L2 Dt

structure Cod {α : Type} [DecidableEq α] (e : α → PyData) (k : Nat) : Prop where
  lay : ∀ a, PyData.canLay0 (e a) = true
  dep : ∀ a, PyData.depth (e a) ≤ k
  eqv : ∀ a b, PyData.eqv (e a) (e b) = decide (a = b)
section
variable {α β : Type} [DecidableEq α] [DecidableEq β] {e : α → PyData} {e2 : β → PyData} {k j : Nat}
theorem Cod.shp (h : Cod e k) (hk : k ≤ 60) (a : α) : shp (e a) = true := by
  show SeqAt.shaped (e a) = true
  unfold SeqAt.shaped
  rw [Bool.and_eq_true]
  exact ⟨h.lay a, decide_eq_true (by have := h.dep a; omega)⟩
theorem Cod.all (h : Cod e k) : ∀ a b : List α, PyData.eqvAll (a.map e) (b.map e) = decide (a = b)
  | [], [] => rfl
  | [], _ :: _ => rfl
  | _ :: _, [] => rfl
  | x :: a, y :: b => by
    show (PyData.eqv (e x) (e y) && PyData.eqvAll (a.map e) (b.map e)) = _
    rw [h.all a b, h.eqv, Bool.eq_iff_iff]
    simp
theorem Cod.lays (h : Cod e k) (xs : List α) : PyData.canLayAll0 (xs.map e) = true := lay_of_all fun x hx => by
  obtain ⟨a, _, rfl⟩ := List.mem_map.mp hx
  exact h.lay a
theorem Cod.deps (h : Cod e k) (xs : List α) : PyData.depthAll (xs.map e) ≤ k := depth_of_all fun x hx => by
  obtain ⟨a, _, rfl⟩ := List.mem_map.mp hx
  exact h.dep a
theorem Cod.tup (h : Cod e k) : Cod (fun xs : List α => PyData.tuple (xs.map e)) (k + 1) := ⟨fun xs => by simpa [PyData.canLay0] using h.lays xs, fun xs => by
  have := h.deps xs
  simp only [PyData.depth]
  omega, fun a b => h.all a b⟩
theorem Cod.lst (h : Cod e k) : Cod (fun xs : List α => PyData.list (xs.map e)) (k + 1) := ⟨fun xs => by simpa [PyData.canLay0] using h.lays xs, fun xs => by
  have := h.deps xs
  simp only [PyData.depth]
  omega, fun a b => h.all a b⟩
theorem Cod.mono (h : Cod e k) (hj : k ≤ j) : Cod e j := ⟨h.lay, fun a => Nat.le_trans (h.dep a) hj, h.eqv⟩
theorem Cod.pair (h : Cod e k) (h2 : Cod e2 k) : Cod (fun p : α × β => PyData.tuple [e p.1, e2 p.2]) (k + 1) := ⟨fun p => by simp [PyData.canLay0, PyData.canLayAll0, h.lay, h2.lay], fun p => by
  have := h.dep p.1
  have := h2.dep p.2
  simp only [PyData.depth, PyData.depthAll]
  omega, fun a b => by
  show (PyData.eqv (e a.1) (e b.1) && (PyData.eqv (e2 a.2) (e2 b.2) && true)) = _
  rw [h.eqv, h2.eqv, Bool.and_true, Bool.eq_iff_iff, Bool.and_eq_true, decide_eq_true_eq, decide_eq_true_eq, decide_eq_true_eq, Prod.ext_iff]⟩
theorem Cod.eq (h : Cod e k) (hk : k ≤ 60) (a b : α) : eqD (e a) (e b) = .ok (.bool (decide (a = b))) := by
  unfold eqD
  rw [h.shp hk, h.shp hk, if_pos (by rfl), h.eqv]
theorem Cod.ne (h : Cod e k) (hk : k ≤ 60) (a b : α) : neD (e a) (e b) = .ok (.bool (!decide (a = b))) := by
  unfold neD
  rw [h.shp hk, h.shp hk, if_pos (by rfl), h.eqv]
theorem Cod.any (h : Cod e k) (a : α) (xs : List α) : ((xs.map e).any fun z => PyData.eqv z (e a)) = decide (a ∈ xs) := by
  induction xs with
  | nil => simp
  | cons x xs ih =>
    rw [List.map_cons, List.any_cons, ih, h.eqv, Bool.eq_iff_iff]
    simp only [Bool.or_eq_true, decide_eq_true_eq, List.mem_cons]
    exact or_congr ⟨Eq.symm, Eq.symm⟩ Iff.rfl
theorem Cod.inL (h : Cod e k) (hk : k ≤ 59) (a : α) (xs : List α) : inD (e a) (.list (xs.map e)) = .ok (.bool (decide (a ∈ xs))) := by
  unfold inD
  dsimp only
  rw [h.shp (by omega), show Dt.shp (.list (xs.map e)) = true from h.lst.shp (by omega) xs, if_pos (by rfl), h.any]
theorem Cod.eqNil (h : Cod e k) (hk : k ≤ 59) (xs : List α) : eqD (.list (xs.map e)) (.list []) = .ok (.bool xs.isEmpty) := by
  have := h.lst.eq (by omega) xs []
  rw [show (PyData.list []) = .list (([] : List α).map e) from rfl, this]
  cases xs <;> simp
end
theorem cod_std : Cod eStd 1 := ⟨lay_std, dep_std, eqv_std⟩
theorem cod_day : Cod eDay 2 := cod_std.tup
theorem cod_wld : Cod eWld 3 := cod_day.tup
end Lw
namespace Lw
open PySem PySem.Spec PyProof.Rows L2 Dt

end Lw
namespace Lw
open PySem PySem.Spec PyProof.Rows L2 Dt

end Lw
namespace Lw
open PySem PySem.Spec PyProof.Rows L2 Dt

/-- no case, of a fair shape -/
structure NoCs (d : PyData) : Prop where
  ex : ∃ k, k ≤ 60 ∧ gd 60 k d = true
  no : caseOk d = false
theorem NoCs.is {d : PyData} (h : NoCs d) : F_is_case [d] = .ok (.bool false) := by
  obtain ⟨k, h1, h2⟩ := h.ex
  rw [is_case_ok (Nat.le_refl _) h1 h2, h.no]
theorem NoCs.need {d : PyData} (h : NoCs d) : F_need_case [d] = .err "NoCase" := by
  rw [F_need_case_eq]
  unfold m_need_case
  simp -implicitDefEqProofs only [allR_ok, allR_nil, ok_bind, b2_ok, asL_ok, retR_ok, finR_rt, seqR_nx, seqR_rt, onlyR_rt, boolD_bool, truD_bool, nt_ok, Bool.not_true, Bool.not_false, Bool.false_eq_true, if_true, if_false, ↓reduceIte, decide_true, decide_false, orR_t, orR_f, andR_t, andR_f, andV_t, andV_f, orV_t, orV_f, notV_bool, ite3_t, ite3_f, cel_t, cel_f, partI, tD0, tD1, tD2, tD3, tD4, tD5, lD0, lD1, lD2, lD3, unp2_mk, unp3_mk, unp4_mk, unp5_mk, seq_list, seq_tup, seqE_list, seqE_tup, c_tn, c_ps, c_last, c_ts, t_n, t_ws, s_0, s_1, eqB, neB, lenL, h.is]
  rfl
theorem cs_parts {c : Cs} (hc : CsOk c) : ∀ x ∈ [eTwn c.tn, .int (c.ps : Int), .int (c.last : Int), eTls c.ts], gd 60 3 x = true := (gd_tup.mp (gd_cs hc.tn (by have := hc.len; omega))).2
/-- the first three -/
theorem no_cut {c : Cs} (hc : CsOk c) : NoCs (.tuple [eTwn c.tn, .int (c.ps : Int), .int (c.last : Int)]) := ⟨⟨4, by decide, gd_tup.mpr ⟨by simp, fun x hx => cs_parts hc x (by
  simp only [List.mem_cons, List.not_mem_nil, or_false] at hx ⊢
  rcases hx with h | h | h <;> simp [h])⟩⟩, caseOk_len (by simp)⟩
theorem NoCs.can {d : PyData} (h : NoCs d) : F_can_be [d] = .err "NoCase" := by
  rw [F_can_be_eq]
  unfold m_can_be
  simp -implicitDefEqProofs only [allR_ok, allR_nil, ok_bind, b2_ok, asL_ok, retR_ok, finR_rt, seqR_nx, seqR_rt, onlyR_rt, boolD_bool, truD_bool, nt_ok, Bool.not_true, Bool.not_false, Bool.false_eq_true, if_true, if_false, ↓reduceIte, decide_true, decide_false, orR_t, orR_f, andR_t, andR_f, andV_t, andV_f, orV_t, orV_f, notV_bool, ite3_t, ite3_f, cel_t, cel_f, partI, tD0, tD1, tD2, tD3, tD4, tD5, lD0, lD1, lD2, lD3, unp2_mk, unp3_mk, unp4_mk, unp5_mk, seq_list, seq_tup, seqE_list, seqE_tup, c_tn, c_ps, c_last, c_ts, t_n, t_ws, s_0, s_1, eqB, neB, lenL, h.need, err_bind]
  rfl
theorem NoCs.many {d : PyData} (h : NoCs d) : F_how_many [d] = .err "NoCase" := by
  rw [F_how_many_eq]
  unfold m_how_many
  simp -implicitDefEqProofs only [allR_ok, allR_nil, ok_bind, b2_ok, asL_ok, retR_ok, finR_rt, seqR_nx, seqR_rt, onlyR_rt, boolD_bool, truD_bool, nt_ok, Bool.not_true, Bool.not_false, Bool.false_eq_true, if_true, if_false, ↓reduceIte, decide_true, decide_false, orR_t, orR_f, andR_t, andR_f, andV_t, andV_f, orV_t, orV_f, notV_bool, ite3_t, ite3_f, cel_t, cel_f, partI, tD0, tD1, tD2, tD3, tD4, tD5, lD0, lD1, lD2, lD3, unp2_mk, unp3_mk, unp4_mk, unp5_mk, seq_list, seq_tup, seqE_list, seqE_tup, c_tn, c_ps, c_last, c_ts, t_n, t_ws, s_0, s_1, eqB, neB, lenL, h.need, err_bind]
  rfl
theorem NoCs.world {d : PyData} (h : NoCs d) : F_a_world [d] = .err "NoCase" := by
  rw [F_a_world_eq]
  unfold m_a_world
  simp -implicitDefEqProofs only [allR_ok, allR_nil, ok_bind, b2_ok, asL_ok, retR_ok, finR_rt, seqR_nx, seqR_rt, onlyR_rt, boolD_bool, truD_bool, nt_ok, Bool.not_true, Bool.not_false, Bool.false_eq_true, if_true, if_false, ↓reduceIte, decide_true, decide_false, orR_t, orR_f, andR_t, andR_f, andV_t, andV_f, orV_t, orV_f, notV_bool, ite3_t, ite3_f, cel_t, cel_f, partI, tD0, tD1, tD2, tD3, tD4, tD5, lD0, lD1, lD2, lD3, unp2_mk, unp3_mk, unp4_mk, unp5_mk, seq_list, seq_tup, seqE_list, seqE_tup, c_tn, c_ps, c_last, c_ts, t_n, t_ws, s_0, s_1, eqB, neB, lenL, h.need, err_bind]
  rfl
@[simp] theorem tryR_ok {α : Type} (F : Str → Res PyData) (o : Out α) : tryR F (.ok o) = .ok o := rfl
theorem tryR_err {α : Type} {F : Str → Res PyData} {c : Str} {d : PyData} (h : F c = .ok d) : tryR (α := α) F (.err c) = .ok (.rt d) := by
  unfold tryR
  dsimp only
  rw [h]
theorem callF_at {Fs : List (List PyData → Res PyData)} {rs : Res (List PyData)} (i : Nat) {F : List PyData → Res PyData} (h : Fs[i]? = some F) : callF Fs rs (.int (i : Int)) = rs >>= F := by
  unfold callF
  dsimp only
  rw [atI_nat h]
/-- an answer that is handed back, or the refusal -/
theorem try_ret {α : Type} {F : Str → Res PyData} {r : Res PyData} {d : PyData} (h : r = .ok d) : finR (tryR (α := α) F (retR r)) = .ok d := by
  rw [h]; rfl
theorem try_no {α : Type} {F : Str → Res PyData} {r : Res PyData} {c : Str} {d : PyData} (h : r = .err c) (hF : F c = .ok d) : finR (tryR (α := α) F (retR r)) = .ok d := by
  rw [h]
  show finR (tryR F (.err c)) = _
  rw [tryR_err hF]
  rfl
/-- no case: what is refused -/
def refD (i : Int) : PyData := .tuple [.str "refused", .int i]
theorem eq_ref (i j : Int) : PyData.eqv (refD i) (refD j) = decide (i = j) := by
  show (PyData.eqv (.str "refused") (.str "refused") && (decide (i = j) && true)) = _
  rw [show PyData.eqv (.str "refused") (.str "refused") = true from by decide +kernel, Bool.true_and, Bool.and_true]
theorem cod_ref : Cod refD 1 := ⟨fun i => by
  have h : PyData.strOk ("refused" : Str) = true := by decide +kernel
  simp [refD, PyData.canLay0, PyData.canLayAll0, h], fun i => by simp [refD, PyData.depth, PyData.depthAll], eq_ref⟩
end Lw
namespace Lw
open PySem PySem.Spec PyProof.Rows L2 Dt

end Lw
namespace Lw
open PySem PySem.Spec PyProof.Rows L2 Dt

end Lw
namespace Lw
open PySem PySem.Spec PyProof.Rows L2 Dt

def standB (n : Nat) : PyData → Bool
  | .tuple [a, b] => numOk 0 ((n : Int) - 1) a && numOk 0 3 b
  | _ => false
theorem standB_iff {n : Nat} {d : PyData} : standB n d = true ↔ ∃ s : Std, d = eStd s ∧ s.1 < n ∧ s.2 ≤ 3 := by
  constructor
  · intro h
    unfold standB at h
    split at h
    · rename_i a b
      rw [Bool.and_eq_true] at h
      obtain ⟨i, rfl, i1, i2⟩ := num_nat h.1 (by omega)
      obtain ⟨j, rfl, j1, j2⟩ := num_nat h.2 (by omega)
      exact ⟨(i, j), rfl, by show i < n; omega, by show j ≤ 3; omega⟩
    · cases h
  · rintro ⟨s, rfl, h1, h2⟩
    show (numOk 0 ((n : Int) - 1) (.int (s.1 : Int)) && numOk 0 3 (.int (s.2 : Int))) = true
    rw [numOk_mk (by omega) (by omega), numOk_mk (by omega) (by omega)]
    rfl
theorem stands_of {n : Nat} {xs : List PyData} : xs.all (standB n) = true ↔ ∃ s : List Std, xs = s.map eStd ∧ ∀ x ∈ s, x.1 < n ∧ x.2 ≤ 3 := by
  rw [List.all_eq_true]
  constructor
  · intro h
    exact decode fun d hd => standB_iff.mp (h d hd)
  · rintro ⟨s, rfl, h⟩ x hx
    obtain ⟨y, hy, rfl⟩ := List.mem_map.mp hx
    exact standB_iff.mpr ⟨y, rfl, h y hy⟩
theorem are_stands_gd {t : Twn} {d : PyData} {k : Nat} (g : gd 60 k d = true) (m : Nat) : ∃ b, F_are_stands [eTwn t, d, .int (m : Int)] = .ok (.bool b) ∧ (b = true ↔ ∃ s : Day, d = eDay s ∧ s.length = m ∧ ∀ x ∈ s, x.1 < t.n ∧ x.2 ≤ 3) := by
  rw [F_are_stands_eq]
  unfold m_are_stands
  simp -implicitDefEqProofs only [allR_ok, allR_nil, ok_bind, b2_ok, asL_ok, retR_ok, finR_rt, seqR_nx, seqR_rt, onlyR_rt, boolD_bool, truD_bool, nt_ok, Bool.not_true, Bool.not_false, Bool.false_eq_true, if_true, if_false, ↓reduceIte, decide_true, decide_false, orR_t, orR_f, andR_t, andR_f, andV_t, andV_f, orV_t, orV_f, notV_bool, ite3_t, ite3_f, cel_t, cel_f, partI, tD0, tD1, tD2, tD3, tD4, tD5, lD0, lD1, lD2, lD3, unp2_mk, unp3_mk, unp4_mk, unp5_mk, seq_list, seq_tup, seqE_list, seqE_tup, c_tn, c_ps, c_last, c_ts, t_n, t_ws, s_0, s_1, eqB, neB, lenL, isi_tuple (gd_notDic g)]
  cases d with
  | tuple xs =>
    have e1 : neD (.int (xs.length : Nat)) (.int (m : Int)) = .ok (.bool (!decide (xs.length = m))) := neN _ _
    have e0 : lenC [.tuple xs] = .ok (.int (xs.length : Nat)) := rfl
    simp -implicitDefEqProofs only [allR_ok, allR_nil, ok_bind, b2_ok, asL_ok, retR_ok, finR_rt, seqR_nx, seqR_rt, onlyR_rt, boolD_bool, truD_bool, nt_ok, Bool.not_true, Bool.not_false, Bool.false_eq_true, if_true, if_false, ↓reduceIte, decide_true, decide_false, orR_t, orR_f, andR_t, andR_f, andV_t, andV_f, orV_t, orV_f, notV_bool, ite3_t, ite3_f, cel_t, cel_f, partI, tD0, tD1, tD2, tD3, tD4, tD5, lD0, lD1, lD2, lD3, unp2_mk, unp3_mk, unp4_mk, unp5_mk, seq_list, seq_tup, seqE_list, seqE_tup, c_tn, c_ps, c_last, c_ts, t_n, t_ws, s_0, s_1, eqB, neB, lenL, show isTup (.tuple xs) = true from rfl, e0, e1]
    by_cases q : xs.length = m
    · simp -implicitDefEqProofs only [allR_ok, allR_nil, ok_bind, b2_ok, asL_ok, retR_ok, finR_rt, seqR_nx, seqR_rt, onlyR_rt, boolD_bool, truD_bool, nt_ok, Bool.not_true, Bool.not_false, Bool.false_eq_true, if_true, if_false, ↓reduceIte, decide_true, decide_false, orR_t, orR_f, andR_t, andR_f, andV_t, andV_f, orV_t, orV_f, notV_bool, ite3_t, ite3_f, cel_t, cel_f, partI, tD0, tD1, tD2, tD3, tD4, tD5, lD0, lD1, lD2, lD3, unp2_mk, unp3_mk, unp4_mk, unp5_mk, seq_list, seq_tup, seqE_list, seqE_tup, c_tn, c_ps, c_last, c_ts, t_n, t_ws, s_0, s_1, eqB, neB, lenL, q]
      cases k with
      | zero => cases g
      | succ k =>
        obtain ⟨g1, g2⟩ := gd_tup.mp g
        rw [show xs = xs.map id by rw [List.map_id], forD_unB (q := standB t.n) (e := id) xs fun x hx => ?_]
        · refine ⟨xs.all (standB t.n), ?_, ?_⟩
          · cases xs.all (standB t.n) <;> rfl
          · rw [stands_of, List.map_id]
            constructor
            · rintro ⟨s, rfl, h⟩
              exact ⟨s, rfl, by rw [List.length_map] at q; exact q, h⟩
            · rintro ⟨s, e, _, h⟩
              have e : PyData.tuple xs = .tuple (s.map eStd) := e
              exact ⟨s, PyData.tuple.inj e, h⟩
        · have gx := g2 x hx
          show ((orR (nt (isiD "tuple" x >>= truD)) _) >>= _) = _
          rw [isi_tuple (gd_notDic gx)]
          cases x with
          | tuple ys =>
            have e3 : lenC [.tuple ys] = .ok (.int (ys.length : Nat)) := rfl
            have e2 : neD (.int (ys.length : Nat)) (.int 2) = .ok (.bool (!decide (ys.length = 2))) := neN _ 2
            simp -implicitDefEqProofs only [allR_ok, allR_nil, ok_bind, b2_ok, asL_ok, retR_ok, finR_rt, seqR_nx, seqR_rt, onlyR_rt, boolD_bool, truD_bool, nt_ok, Bool.not_true, Bool.not_false, Bool.false_eq_true, if_true, if_false, ↓reduceIte, decide_true, decide_false, orR_t, orR_f, andR_t, andR_f, andV_t, andV_f, orV_t, orV_f, notV_bool, ite3_t, ite3_f, cel_t, cel_f, partI, tD0, tD1, tD2, tD3, tD4, tD5, lD0, lD1, lD2, lD3, unp2_mk, unp3_mk, unp4_mk, unp5_mk, seq_list, seq_tup, seqE_list, seqE_tup, c_tn, c_ps, c_last, c_ts, t_n, t_ws, s_0, s_1, eqB, neB, lenL, show isTup (.tuple ys) = true from rfl, id, e3, e2]
            by_cases q2 : ys.length = 2
            · obtain ⟨a, b, rfl⟩ := len2 q2
              cases k with
              | zero => cases gx
              | succ k =>
                obtain ⟨_, g3⟩ := gd_tup.mp gx
                have ga := gd_notDic (g3 a (by simp))
                have gb := gd_notDic (g3 b (by simp))
                simp -implicitDefEqProofs only [allR_ok, allR_nil, ok_bind, b2_ok, asL_ok, retR_ok, finR_rt, seqR_nx, seqR_rt, onlyR_rt, boolD_bool, truD_bool, nt_ok, Bool.not_true, Bool.not_false, Bool.false_eq_true, if_true, if_false, ↓reduceIte, decide_true, decide_false, orR_t, orR_f, andR_t, andR_f, andV_t, andV_f, orV_t, orV_f, notV_bool, ite3_t, ite3_f, cel_t, cel_f, partI, tD0, tD1, tD2, tD3, tD4, tD5, lD0, lD1, lD2, lD3, unp2_mk, unp3_mk, unp4_mk, unp5_mk, seq_list, seq_tup, seqE_list, seqE_tup, c_tn, c_ps, c_last, c_ts, t_n, t_ws, s_0, s_1, eqB, neB, lenL, idxT0, idxT1, subI, is_number_ok ga, is_number_ok gb, List.length_cons, List.length_nil]
                show _ = if (numOk 0 ((t.n : Int) - 1) a && numOk 0 3 b) = true then _ else _
                cases numOk 0 ((t.n : Int) - 1) a <;> cases numOk 0 3 b <;> rfl
            · simp -implicitDefEqProofs only [allR_ok, allR_nil, ok_bind, b2_ok, asL_ok, retR_ok, finR_rt, seqR_nx, seqR_rt, onlyR_rt, boolD_bool, truD_bool, nt_ok, Bool.not_true, Bool.not_false, Bool.false_eq_true, if_true, if_false, ↓reduceIte, decide_true, decide_false, orR_t, orR_f, andR_t, andR_f, andV_t, andV_f, orV_t, orV_f, notV_bool, ite3_t, ite3_f, cel_t, cel_f, partI, tD0, tD1, tD2, tD3, tD4, tD5, lD0, lD1, lD2, lD3, unp2_mk, unp3_mk, unp4_mk, unp5_mk, seq_list, seq_tup, seqE_list, seqE_tup, c_tn, c_ps, c_last, c_ts, t_n, t_ws, s_0, s_1, eqB, neB, lenL, q2]
              rw [if_neg]
              unfold standB
              intro h
              split at h
              · rename_i heq
                cases heq
                exact q2 rfl
              · cases h
          | _ => rfl
    · simp -implicitDefEqProofs only [allR_ok, allR_nil, ok_bind, b2_ok, asL_ok, retR_ok, finR_rt, seqR_nx, seqR_rt, onlyR_rt, boolD_bool, truD_bool, nt_ok, Bool.not_true, Bool.not_false, Bool.false_eq_true, if_true, if_false, ↓reduceIte, decide_true, decide_false, orR_t, orR_f, andR_t, andR_f, andV_t, andV_f, orV_t, orV_f, notV_bool, ite3_t, ite3_f, cel_t, cel_f, partI, tD0, tD1, tD2, tD3, tD4, tD5, lD0, lD1, lD2, lD3, unp2_mk, unp3_mk, unp4_mk, unp5_mk, seq_list, seq_tup, seqE_list, seqE_tup, c_tn, c_ps, c_last, c_ts, t_n, t_ws, s_0, s_1, eqB, neB, lenL, q]
      refine ⟨false, rfl, (nomatch ·), ?_⟩
      rintro ⟨s, e, h, _⟩
      have e : PyData.tuple xs = .tuple (s.map eStd) := e
      rw [PyData.tuple.inj e, List.length_map] at q
      exact absurd h q
  | _ =>
    refine ⟨false, rfl, (nomatch ·), ?_⟩
    rintro ⟨s, e, _⟩
    cases e
def IsDay (c : Cs) (d : PyData) : Prop := ∃ s : Day, d = eDay s ∧ DayOk c.tn c.last s
theorem day_goes {t : Twn} {s : Day} : (s.zip (s.drop 1)).all (fun p => decide (p.2 ∈ stepsT t p.1)) = true ↔ ∀ i a b, s[i]? = some a → s[i + 1]? = some b → b ∈ stepsT t a := by
  rw [List.all_eq_true]
  constructor
  · intro h i a b ha hb
    refine of_decide_eq_true (h (a, b) (List.mem_iff_getElem?.mpr ⟨i, ?_⟩))
    rw [List.getElem?_zip_eq_some]
    exact ⟨ha, by rw [List.getElem?_drop, Nat.add_comm]; exact hb⟩
  · rintro h ⟨a, b⟩ hp
    obtain ⟨i, h1, h2⟩ := zip_idx hp
    exact decide_eq_true (h i a b h1 h2)
theorem is_day_gd {c : Cs} (hc : CsOk c) {d : PyData} {k : Nat} (g : gd 60 k d = true) : ∃ b, F_is_day [eCs c, d] = .ok (.bool b) ∧ (b = true ↔ IsDay c d) := by
  rw [F_is_day_eq]
  unfold m_is_day
  have h9 := hc.l9
  obtain ⟨b, e, hb⟩ := are_stands_gd (t := c.tn) g (c.last + 1)
  simp -implicitDefEqProofs only [allR_ok, allR_nil, ok_bind, b2_ok, asL_ok, retR_ok, finR_rt, seqR_nx, seqR_rt, onlyR_rt, boolD_bool, truD_bool, nt_ok, Bool.not_true, Bool.not_false, Bool.false_eq_true, if_true, if_false, ↓reduceIte, decide_true, decide_false, orR_t, orR_f, andR_t, andR_f, andV_t, andV_f, orV_t, orV_f, notV_bool, ite3_t, ite3_f, cel_t, cel_f, partI, tD0, tD1, tD2, tD3, tD4, tD5, lD0, lD1, lD2, lD3, unp2_mk, unp3_mk, unp4_mk, unp5_mk, seq_list, seq_tup, seqE_list, seqE_tup, c_tn, c_ps, c_last, c_ts, t_n, t_ws, s_0, s_1, eqB, neB, lenL, need_case_enc hc, add1N, e]
  cases b with
  | false =>
    refine ⟨false, rfl, (nomatch ·), ?_⟩
    rintro ⟨s, e, h⟩
    exact absurd (hb.mpr ⟨s, e, h.len, h.std⟩) (by simp)
  | true =>
    obtain ⟨s, rfl, hl, hs⟩ := hb.mp rfl
    obtain ⟨x, ds, rfl⟩ : ∃ x ds, s = x :: ds := by
      cases s with
      | nil => simp at hl
      | cons x ds => exact ⟨x, ds, rfl⟩
    have e1 : idxD (eDay (x :: ds)) (.int 0) = .ok (eStd x) := idxT0 _ _
    have e3 : sl3 (.ok (eDay (x :: ds))) (.ok (some 1)) (.ok none) = .ok (eDay ((x :: ds).drop 1)) := slT_from (x :: ds) 1
    have e4 : zip2 [eDay (x :: ds), eDay ((x :: ds).drop 1)] = .ok (((x :: ds).zip ((x :: ds).drop 1)).map fun p => .tuple [eStd p.1, eStd p.2]) := zip_map _ _ _
    simp -implicitDefEqProofs only [allR_ok, allR_nil, ok_bind, b2_ok, asL_ok, retR_ok, finR_rt, seqR_nx, seqR_rt, onlyR_rt, boolD_bool, truD_bool, nt_ok, Bool.not_true, Bool.not_false, Bool.false_eq_true, if_true, if_false, ↓reduceIte, decide_true, decide_false, orR_t, orR_f, andR_t, andR_f, andV_t, andV_f, orV_t, orV_f, notV_bool, ite3_t, ite3_f, cel_t, cel_f, partI, tD0, tD1, tD2, tD3, tD4, tD5, lD0, lD1, lD2, lD3, unp2_mk, unp3_mk, unp4_mk, unp5_mk, seq_list, seq_tup, seqE_list, seqE_tup, c_tn, c_ps, c_last, c_ts, t_n, t_ws, s_0, s_1, eqB, neB, lenL, e1, gt0N]
    by_cases q : 0 < x.2
    · simp -implicitDefEqProofs only [allR_ok, allR_nil, ok_bind, b2_ok, asL_ok, retR_ok, finR_rt, seqR_nx, seqR_rt, onlyR_rt, boolD_bool, truD_bool, nt_ok, Bool.not_true, Bool.not_false, Bool.false_eq_true, if_true, if_false, ↓reduceIte, decide_true, decide_false, orR_t, orR_f, andR_t, andR_f, andV_t, andV_f, orV_t, orV_f, notV_bool, ite3_t, ite3_f, cel_t, cel_f, partI, tD0, tD1, tD2, tD3, tD4, tD5, lD0, lD1, lD2, lD3, unp2_mk, unp3_mk, unp4_mk, unp5_mk, seq_list, seq_tup, seqE_list, seqE_tup, c_tn, c_ps, c_last, c_ts, t_n, t_ws, s_0, s_1, eqB, neB, lenL, q]
      refine ⟨false, rfl, (nomatch ·), ?_⟩
      rintro ⟨s, e, h⟩
      have e : s = x :: ds := by
        have e : PyData.tuple ((x :: ds).map eStd) = .tuple (s.map eStd) := e
        have := cod_std.all (x :: ds) s
        rw [← PyData.tuple.inj e] at this
        have h2 := cod_std.all (x :: ds) (x :: ds)
        rw [this] at h2
        simp only [decide_true, decide_eq_true_eq] at h2
        exact h2.symm
      have := h.hd x (by rw [e]; rfl)
      omega
    · simp -implicitDefEqProofs only [allR_ok, allR_nil, ok_bind, b2_ok, asL_ok, retR_ok, finR_rt, seqR_nx, seqR_rt, onlyR_rt, boolD_bool, truD_bool, nt_ok, Bool.not_true, Bool.not_false, Bool.false_eq_true, if_true, if_false, ↓reduceIte, decide_true, decide_false, orR_t, orR_f, andR_t, andR_f, andV_t, andV_f, orV_t, orV_f, notV_bool, ite3_t, ite3_f, cel_t, cel_f, partI, tD0, tD1, tD2, tD3, tD4, tD5, lD0, lD1, lD2, lD3, unp2_mk, unp3_mk, unp4_mk, unp5_mk, seq_list, seq_tup, seqE_list, seqE_tup, c_tn, c_ps, c_last, c_ts, t_n, t_ws, s_0, s_1, eqB, neB, lenL, q, e3, e4]
      rw [comR_enc (e' := PyData.bool) (f := fun p : Std × Std => decide (p.2 ∈ stepsT c.tn p.1))]
      · simp -implicitDefEqProofs only [allR_ok, allR_nil, ok_bind, b2_ok, asL_ok, retR_ok, finR_rt, seqR_nx, seqR_rt, onlyR_rt, boolD_bool, truD_bool, nt_ok, Bool.not_true, Bool.not_false, Bool.false_eq_true, if_true, if_false, ↓reduceIte, decide_true, decide_false, orR_t, orR_f, andR_t, andR_f, andV_t, andV_f, orV_t, orV_f, notV_bool, ite3_t, ite3_f, cel_t, cel_f, partI, tD0, tD1, tD2, tD3, tD4, tD5, lD0, lD1, lD2, lD3, unp2_mk, unp3_mk, unp4_mk, unp5_mk, seq_list, seq_tup, seqE_list, seqE_tup, c_tn, c_ps, c_last, c_ts, t_n, t_ws, s_0, s_1, eqB, neB, lenL, allB, List.all_map]
        refine ⟨((x :: ds).zip ((x :: ds).drop 1)).all fun p => decide (p.2 ∈ stepsT c.tn p.1), rfl, ?_⟩
        rw [day_goes]
        constructor
        · intro h
          exact ⟨x :: ds, rfl, hl, hs, fun y hy => by cases hy; omega, h⟩
        · rintro ⟨s, e, h⟩
          have e : s = x :: ds := by
            have e : PyData.tuple ((x :: ds).map eStd) = .tuple (s.map eStd) := e
            have := cod_std.all (x :: ds) s
            rw [← PyData.tuple.inj e] at this
            have h2 := cod_std.all (x :: ds) (x :: ds)
            rw [this] at h2
            simp only [decide_true, decide_eq_true_eq] at h2
            exact h2.symm
          rw [← e]
          exact h.go
      · rw [List.length_zip]
        refine Nat.le_trans ?_ big60
        omega
      · rintro ⟨a, b⟩ hx
        simp -implicitDefEqProofs only [allR_ok, allR_nil, ok_bind, b2_ok, asL_ok, retR_ok, finR_rt, seqR_nx, seqR_rt, onlyR_rt, boolD_bool, truD_bool, nt_ok, Bool.not_true, Bool.not_false, Bool.false_eq_true, if_true, if_false, ↓reduceIte, decide_true, decide_false, orR_t, orR_f, andR_t, andR_f, andV_t, andV_f, orV_t, orV_f, notV_bool, ite3_t, ite3_f, cel_t, cel_f, partI, tD0, tD1, tD2, tD3, tD4, tD5, lD0, lD1, lD2, lD3, unp2_mk, unp3_mk, unp4_mk, unp5_mk, seq_list, seq_tup, seqE_list, seqE_tup, c_tn, c_ps, c_last, c_ts, t_n, t_ws, s_0, s_1, eqB, neB, lenL, steps_enc hc.tn, in_stds]
def IsWld (c : Cs) (d : PyData) : Prop := ∃ w : Wld, d = eWld w ∧ WldOk c w
theorem is_world_gd {c : Cs} (hc : CsOk c) {d : PyData} {k : Nat} (g : gd 60 k d = true) : ∃ b, F_is_world [eCs c, d] = .ok (.bool b) ∧ (b = true ↔ IsWld c d) := by
  rw [F_is_world_eq]
  unfold m_is_world
  simp -implicitDefEqProofs only [allR_ok, allR_nil, ok_bind, b2_ok, asL_ok, retR_ok, finR_rt, seqR_nx, seqR_rt, onlyR_rt, boolD_bool, truD_bool, nt_ok, Bool.not_true, Bool.not_false, Bool.false_eq_true, if_true, if_false, ↓reduceIte, decide_true, decide_false, orR_t, orR_f, andR_t, andR_f, andV_t, andV_f, orV_t, orV_f, notV_bool, ite3_t, ite3_f, cel_t, cel_f, partI, tD0, tD1, tD2, tD3, tD4, tD5, lD0, lD1, lD2, lD3, unp2_mk, unp3_mk, unp4_mk, unp5_mk, seq_list, seq_tup, seqE_list, seqE_tup, c_tn, c_ps, c_last, c_ts, t_n, t_ws, s_0, s_1, eqB, neB, lenL, need_case_enc hc, isi_tuple (gd_notDic g)]
  cases d with
  | tuple xs =>
    have e1 : eqD (.int (xs.length : Nat)) (.int (c.ps : Int)) = .ok (.bool (decide (xs.length = c.ps))) := eqN _ _
    have e0 : lenC [.tuple xs] = .ok (.int (xs.length : Nat)) := rfl
    simp -implicitDefEqProofs only [allR_ok, allR_nil, ok_bind, b2_ok, asL_ok, retR_ok, finR_rt, seqR_nx, seqR_rt, onlyR_rt, boolD_bool, truD_bool, nt_ok, Bool.not_true, Bool.not_false, Bool.false_eq_true, if_true, if_false, ↓reduceIte, decide_true, decide_false, orR_t, orR_f, andR_t, andR_f, andV_t, andV_f, orV_t, orV_f, notV_bool, ite3_t, ite3_f, cel_t, cel_f, partI, tD0, tD1, tD2, tD3, tD4, tD5, lD0, lD1, lD2, lD3, unp2_mk, unp3_mk, unp4_mk, unp5_mk, seq_list, seq_tup, seqE_list, seqE_tup, c_tn, c_ps, c_last, c_ts, t_n, t_ws, s_0, s_1, eqB, neB, lenL, show isTup (.tuple xs) = true from rfl, e0, e1]
    by_cases q : xs.length = c.ps
    · simp -implicitDefEqProofs only [allR_ok, allR_nil, ok_bind, b2_ok, asL_ok, retR_ok, finR_rt, seqR_nx, seqR_rt, onlyR_rt, boolD_bool, truD_bool, nt_ok, Bool.not_true, Bool.not_false, Bool.false_eq_true, if_true, if_false, ↓reduceIte, decide_true, decide_false, orR_t, orR_f, andR_t, andR_f, andV_t, andV_f, orV_t, orV_f, notV_bool, ite3_t, ite3_f, cel_t, cel_f, partI, tD0, tD1, tD2, tD3, tD4, tD5, lD0, lD1, lD2, lD3, unp2_mk, unp3_mk, unp4_mk, unp5_mk, seq_list, seq_tup, seqE_list, seqE_tup, c_tn, c_ps, c_last, c_ts, t_n, t_ws, s_0, s_1, eqB, neB, lenL, q]
      cases k with
      | zero => cases g
      | succ k =>
        obtain ⟨g1, g2⟩ := gd_tup.mp g
        have hx : ∀ x ∈ xs, ∃ b, F_is_day [eCs c, x] = .ok (.bool b) ∧ (b = true ↔ IsDay c x) := fun x hx => is_day_gd hc (g2 x hx)
        let f : PyData → Bool := fun x => match F_is_day [eCs c, x] with
          | .ok (.bool b) => b
          | _ => false
        have hf : ∀ x ∈ xs, F_is_day [eCs c, x] = .ok (.bool (f x)) ∧ (f x = true ↔ IsDay c x) := fun x hx2 => by
          obtain ⟨b, e, h⟩ := hx x hx2
          have : f x = b := by
            show (match F_is_day [eCs c, x] with
              | .ok (.bool b) => b
              | _ => false) = b
            rw [e]
          rw [this]
          exact ⟨e, h⟩
        have hcom : comR (.ok xs) (fun d_3 => cel (.ok true) (F_is_day [eCs c, d_3])) = .ok ((xs.map f).map PyData.bool) := by
          have := comR_enc (e := id) (e' := PyData.bool) (f := f) (g := fun d_3 => cel (.ok true) (F_is_day [eCs c, d_3])) (xs := xs) (bigN (by omega)) fun x hx2 => by
            simp -implicitDefEqProofs only [allR_ok, allR_nil, ok_bind, b2_ok, asL_ok, retR_ok, finR_rt, seqR_nx, seqR_rt, onlyR_rt, boolD_bool, truD_bool, nt_ok, Bool.not_true, Bool.not_false, Bool.false_eq_true, if_true, if_false, ↓reduceIte, decide_true, decide_false, orR_t, orR_f, andR_t, andR_f, andV_t, andV_f, orV_t, orV_f, notV_bool, ite3_t, ite3_f, cel_t, cel_f, partI, tD0, tD1, tD2, tD3, tD4, tD5, lD0, lD1, lD2, lD3, unp2_mk, unp3_mk, unp4_mk, unp5_mk, seq_list, seq_tup, seqE_list, seqE_tup, c_tn, c_ps, c_last, c_ts, t_n, t_ws, s_0, s_1, eqB, neB, lenL, id, (hf x hx2).1]
          rw [List.map_id] at this
          exact this
        simp -implicitDefEqProofs only [allR_ok, allR_nil, ok_bind, b2_ok, asL_ok, retR_ok, finR_rt, seqR_nx, seqR_rt, onlyR_rt, boolD_bool, truD_bool, nt_ok, Bool.not_true, Bool.not_false, Bool.false_eq_true, if_true, if_false, ↓reduceIte, decide_true, decide_false, orR_t, orR_f, andR_t, andR_f, andV_t, andV_f, orV_t, orV_f, notV_bool, ite3_t, ite3_f, cel_t, cel_f, partI, tD0, tD1, tD2, tD3, tD4, tD5, lD0, lD1, lD2, lD3, unp2_mk, unp3_mk, unp4_mk, unp5_mk, seq_list, seq_tup, seqE_list, seqE_tup, c_tn, c_ps, c_last, c_ts, t_n, t_ws, s_0, s_1, eqB, neB, lenL, hcom, allB, List.all_map]
        refine ⟨xs.all (id ∘ f), rfl, ?_⟩
        rw [List.all_eq_true]
        constructor
        · intro h
          obtain ⟨w, e, hw⟩ := decode (f := eDay) (P := fun s => DayOk c.tn c.last s) fun x hx2 => (hf x hx2).2.mp (h x hx2)
          exact ⟨w, by rw [e]; rfl, by rw [e, List.length_map] at q; exact q, hw⟩
        · rintro ⟨w, e, hw⟩ x hx2
          have e : PyData.tuple xs = .tuple (w.map eDay) := e
          rw [PyData.tuple.inj e] at hx2
          obtain ⟨y, hy, rfl⟩ := List.mem_map.mp hx2
          exact (hf _ (by rw [PyData.tuple.inj e]; exact hx2)).2.mpr ⟨y, rfl, hw.day y hy⟩
    · simp -implicitDefEqProofs only [allR_ok, allR_nil, ok_bind, b2_ok, asL_ok, retR_ok, finR_rt, seqR_nx, seqR_rt, onlyR_rt, boolD_bool, truD_bool, nt_ok, Bool.not_true, Bool.not_false, Bool.false_eq_true, if_true, if_false, ↓reduceIte, decide_true, decide_false, orR_t, orR_f, andR_t, andR_f, andV_t, andV_f, orV_t, orV_f, notV_bool, ite3_t, ite3_f, cel_t, cel_f, partI, tD0, tD1, tD2, tD3, tD4, tD5, lD0, lD1, lD2, lD3, unp2_mk, unp3_mk, unp4_mk, unp5_mk, seq_list, seq_tup, seqE_list, seqE_tup, c_tn, c_ps, c_last, c_ts, t_n, t_ws, s_0, s_1, eqB, neB, lenL, q]
      refine ⟨false, rfl, (nomatch ·), ?_⟩
      rintro ⟨w, e, h⟩
      have e : PyData.tuple xs = .tuple (w.map eDay) := e
      rw [PyData.tuple.inj e, List.length_map] at q
      exact absurd h.len q
  | _ =>
    refine ⟨false, rfl, (nomatch ·), ?_⟩
    rintro ⟨s, e, _⟩
    cases e
end Lw
namespace Lw
open PySem PySem.Spec PyProof.Rows L2 Dt

structure NoTg (c : Cs) (d : PyData) : Prop where
  ex : ∃ k, k ≤ 60 ∧ gd 60 k d = true
  no : tellOk c.tn.n c.ps c.last d = false
theorem NoTg.need {c : Cs} (hc : CsOk c) {d : PyData} (h : NoTg c d) : F_need_telling [eCs c, d] = .err "NoTelling" := by
  obtain ⟨k, h1, h2⟩ := h.ex
  have e : F_is_telling [eCs c, d] = .ok (.bool false) := by
    rw [F_is_telling_eq]
    unfold m_is_telling
    simp -implicitDefEqProofs only [allR_ok, allR_nil, ok_bind, b2_ok, asL_ok, retR_ok, finR_rt, seqR_nx, seqR_rt, onlyR_rt, boolD_bool, truD_bool, nt_ok, Bool.not_true, Bool.not_false, Bool.false_eq_true, if_true, if_false, ↓reduceIte, decide_true, decide_false, orR_t, orR_f, andR_t, andR_f, andV_t, andV_f, orV_t, orV_f, notV_bool, ite3_t, ite3_f, cel_t, cel_f, partI, tD0, tD1, tD2, tD3, tD4, tD5, lD0, lD1, lD2, lD3, unp2_mk, unp3_mk, unp4_mk, unp5_mk, seq_list, seq_tup, seqE_list, seqE_tup, c_tn, c_ps, c_last, c_ts, t_n, t_ws, s_0, s_1, eqB, neB, lenL, need_case_enc hc]
    rw [fits_ok h1 h2, h.no]
    rfl
  rw [F_need_telling_eq]
  unfold m_need_telling
  simp -implicitDefEqProofs only [allR_ok, allR_nil, ok_bind, b2_ok, asL_ok, retR_ok, finR_rt, seqR_nx, seqR_rt, onlyR_rt, boolD_bool, truD_bool, nt_ok, Bool.not_true, Bool.not_false, Bool.false_eq_true, if_true, if_false, ↓reduceIte, decide_true, decide_false, orR_t, orR_f, andR_t, andR_f, andV_t, andV_f, orV_t, orV_f, notV_bool, ite3_t, ite3_f, cel_t, cel_f, partI, tD0, tD1, tD2, tD3, tD4, tD5, lD0, lD1, lD2, lD3, unp2_mk, unp3_mk, unp4_mk, unp5_mk, seq_list, seq_tup, seqE_list, seqE_tup, c_tn, c_ps, c_last, c_ts, t_n, t_ws, s_0, s_1, eqB, neB, lenL, e]
  rfl
theorem NoCs.telling {d : PyData} (h : NoCs d) (x : PyData) : F_need_telling [d, x] = .err "NoCase" := by
  have e : F_is_telling [d, x] = .err "NoCase" := by
    rw [F_is_telling_eq]
    unfold m_is_telling
    simp -implicitDefEqProofs only [allR_ok, allR_nil, ok_bind, b2_ok, asL_ok, retR_ok, finR_rt, seqR_nx, seqR_rt, onlyR_rt, boolD_bool, truD_bool, nt_ok, Bool.not_true, Bool.not_false, Bool.false_eq_true, if_true, if_false, ↓reduceIte, decide_true, decide_false, orR_t, orR_f, andR_t, andR_f, andV_t, andV_f, orV_t, orV_f, notV_bool, ite3_t, ite3_f, cel_t, cel_f, partI, tD0, tD1, tD2, tD3, tD4, tD5, lD0, lD1, lD2, lD3, unp2_mk, unp3_mk, unp4_mk, unp5_mk, seq_list, seq_tup, seqE_list, seqE_tup, c_tn, c_ps, c_last, c_ts, t_n, t_ws, s_0, s_1, eqB, neB, lenL, h.need, err_bind]
    rfl
  rw [F_need_telling_eq]
  unfold m_need_telling
  simp -implicitDefEqProofs only [allR_ok, allR_nil, ok_bind, b2_ok, asL_ok, retR_ok, finR_rt, seqR_nx, seqR_rt, onlyR_rt, boolD_bool, truD_bool, nt_ok, Bool.not_true, Bool.not_false, Bool.false_eq_true, if_true, if_false, ↓reduceIte, decide_true, decide_false, orR_t, orR_f, andR_t, andR_f, andV_t, andV_f, orV_t, orV_f, notV_bool, ite3_t, ite3_f, cel_t, cel_f, partI, tD0, tD1, tD2, tD3, tD4, tD5, lD0, lD1, lD2, lD3, unp2_mk, unp3_mk, unp4_mk, unp5_mk, seq_list, seq_tup, seqE_list, seqE_tup, c_tn, c_ps, c_last, c_ts, t_n, t_ws, s_0, s_1, eqB, neB, lenL, e, err_bind]
  rfl
structure NoWl (c : Cs) (d : PyData) : Prop where
  ex : ∃ k, k ≤ 60 ∧ gd 60 k d = true
  no : ¬ IsWld c d
theorem NoWl.need {c : Cs} (hc : CsOk c) {d : PyData} (h : NoWl c d) : F_need_world [eCs c, d] = .err "NoCase" := by
  obtain ⟨k, h1, h2⟩ := h.ex
  obtain ⟨b, e, hb⟩ := is_world_gd hc h2
  have : b = false := by
    cases b with
    | false => rfl
    | true => exact absurd (hb.mp rfl) h.no
  subst this
  rw [F_need_world_eq]
  unfold m_need_world
  simp -implicitDefEqProofs only [allR_ok, allR_nil, ok_bind, b2_ok, asL_ok, retR_ok, finR_rt, seqR_nx, seqR_rt, onlyR_rt, boolD_bool, truD_bool, nt_ok, Bool.not_true, Bool.not_false, Bool.false_eq_true, if_true, if_false, ↓reduceIte, decide_true, decide_false, orR_t, orR_f, andR_t, andR_f, andV_t, andV_f, orV_t, orV_f, notV_bool, ite3_t, ite3_f, cel_t, cel_f, partI, tD0, tD1, tD2, tD3, tD4, tD5, lD0, lD1, lD2, lD3, unp2_mk, unp3_mk, unp4_mk, unp5_mk, seq_list, seq_tup, seqE_list, seqE_tup, c_tn, c_ps, c_last, c_ts, t_n, t_ws, s_0, s_1, eqB, neB, lenL, e]
  rfl
theorem WldOk.gd {c : Cs} (hc : CsOk c) {w : Wld} (h : WldOk c w) : (w.length ≤ 60 ∧ ∀ d ∈ w, d.length ≤ 60) := by
  have := hc.p3
  have := hc.l9
  have := h.len
  exact ⟨by omega, fun d hd => by have := (h.day d hd).len; omega⟩
end Lw
namespace Lw
open PySem PySem.Spec PyProof.Rows L2 Dt

end Lw
namespace Lw
open PySem PySem.Spec PyProof.Rows L2 Dt

abbrev Spn := List (Mk × (Nat × Nat))
def putT {β : Type} (L : List (Mk × β)) (k : Mk) (v : β) : List (Mk × β) := if (lookT L k).isSome then L.map (fun e => if e.1 = k then (e.1, v) else e) else L ++ [(k, v)]
theorem mem_putT {β : Type} {L : List (Mk × β)} {k : Mk} {v : β} {e : Mk × β} : e ∈ putT L k v ↔ e = (k, v) ∨ (e ∈ L ∧ e.1 ≠ k) := by
  unfold putT
  split
  · rename_i q
    rw [List.mem_map]
    constructor
    · rintro ⟨x, hx, rfl⟩
      split
      · rename_i z
        exact .inl (by rw [z])
      · rename_i z
        exact .inr ⟨hx, z⟩
    · rintro (rfl | ⟨h1, h2⟩)
      · obtain ⟨v', hv⟩ := Option.isSome_iff_exists.mp q
        exact ⟨_, lookT_mem hv, by rw [if_pos rfl]⟩
      · exact ⟨e, h1, if_neg h2⟩
  · rename_i q
    have q' : k ∉ L.map (·.1) := lookT_none.mp (by cases z : lookT L k <;> simp_all)
    rw [List.mem_append, List.mem_singleton]
    constructor
    · rintro (h | h)
      · exact .inr ⟨h, fun z => q' (List.mem_map.mpr ⟨e, h, z⟩)⟩
      · exact .inl h
    · rintro (h | h)
      · exact .inr h
      · exact .inl h.1
theorem putT_keys {β : Type} (L : List (Mk × β)) (k : Mk) (v : β) : (putT L k v).map (·.1) = if k ∈ L.map (·.1) then L.map (·.1) else L.map (·.1) ++ [k] := by
  unfold putT
  cases q : lookT L k with
  | none => rw [if_neg (lookT_none.mp q)]; simp
  | some v' =>
    have hk : k ∈ L.map (·.1) := Decidable.not_not.mp fun z => by rw [lookT_none.mpr z] at q; cases q
    rw [if_pos hk]
    simp only [Option.isSome_some, if_true, List.map_map]
    refine List.map_congr_left fun x _ => ?_
    show (if x.1 = k then (x.1, v) else x).1 = x.1
    split <;> rfl
theorem putT_nd {β : Type} {L : List (Mk × β)} (h : (L.map (·.1)).Nodup) (k : Mk) (v : β) : ((putT L k v).map (·.1)).Nodup := by
  rw [putT_keys]
  split
  · exact h
  · rename_i q
    rw [List.nodup_append]
    exact ⟨h, by simp, fun a ha b hb e => by rw [List.mem_singleton.mp hb] at e; exact q (e ▸ ha)⟩
/-- whether, as a number -/
def hereN (w p : Nat) (ss : List Std) : Nat := if plS ss w = some p then 1 else 0
def wid (L : Spn) (k : Mk) (lo hi : Nat) : Spn := match lookT L k with
  | none => putT L k (lo, hi)
  | some v => putT L k (min lo v.1, max hi v.2)
/-- what some contributions come to -/
structure Wid (C : List (Mk × (Nat × Nat))) (L : Spn) : Prop where
  nd : (L.map (·.1)).Nodup
  lo : ∀ e ∈ L, ∃ x ∈ C, x.1 = e.1 ∧ x.2.1 = e.2.1
  hi : ∀ e ∈ L, ∃ x ∈ C, x.1 = e.1 ∧ x.2.2 = e.2.2
  all : ∀ x ∈ C, ∃ e ∈ L, e.1 = x.1 ∧ e.2.1 ≤ x.2.1 ∧ x.2.2 ≤ e.2.2
theorem Wid.nil : Wid [] [] := ⟨by simp, (fun e h => by cases h), (fun e h => by cases h), (fun e h => by cases h)⟩
theorem Wid.add {C : List (Mk × (Nat × Nat))} {L : Spn} (h : Wid C L) (k : Mk) (lo hi : Nat) : Wid (C ++ [(k, (lo, hi))]) (wid L k lo hi) := by
  have up : ∀ {x}, x ∈ C → x ∈ C ++ [(k, (lo, hi))] := fun z => List.mem_append_left _ z
  have new : (k, (lo, hi)) ∈ C ++ [(k, (lo, hi))] := List.mem_append_right _ (List.mem_singleton.mpr rfl)
  unfold wid
  cases q : lookT L k with
  | none =>
    have nk := lookT_none.mp q
    refine ⟨putT_nd h.nd _ _, fun e he => ?_, fun e he => ?_, fun x hx => ?_⟩
    · rcases mem_putT.mp he with rfl | ⟨he, _⟩
      · exact ⟨_, new, rfl, rfl⟩
      · obtain ⟨x, a, b⟩ := h.lo e he; exact ⟨x, up a, b⟩
    · rcases mem_putT.mp he with rfl | ⟨he, _⟩
      · exact ⟨_, new, rfl, rfl⟩
      · obtain ⟨x, a, b⟩ := h.hi e he; exact ⟨x, up a, b⟩
    · rcases List.mem_append.mp hx with hx | hx
      · obtain ⟨e, a, b, d⟩ := h.all x hx
        exact ⟨e, mem_putT.mpr (.inr ⟨a, fun z => nk (List.mem_map.mpr ⟨e, a, z⟩)⟩), b, d⟩
      · rw [List.mem_singleton.mp hx]
        exact ⟨_, mem_putT.mpr (.inl rfl), rfl, Nat.le_refl _, Nat.le_refl _⟩
  | some v =>
    have hv := lookT_mem q
    refine ⟨putT_nd h.nd _ _, fun e he => ?_, fun e he => ?_, fun x hx => ?_⟩
    · rcases mem_putT.mp he with rfl | ⟨he, _⟩
      · by_cases z : lo ≤ v.1
        · exact ⟨_, new, rfl, (Nat.min_eq_left z).symm⟩
        · obtain ⟨x, a, b, d⟩ := h.lo _ hv
          exact ⟨x, up a, b, by rw [d]; exact (Nat.min_eq_right (Nat.le_of_lt (Nat.lt_of_not_le z))).symm⟩
      · obtain ⟨x, a, b⟩ := h.lo e he; exact ⟨x, up a, b⟩
    · rcases mem_putT.mp he with rfl | ⟨he, _⟩
      · by_cases z : v.2 ≤ hi
        · exact ⟨_, new, rfl, (Nat.max_eq_left z).symm⟩
        · obtain ⟨x, a, b, d⟩ := h.hi _ hv
          exact ⟨x, up a, b, by rw [d]; exact (Nat.max_eq_right (Nat.le_of_lt (Nat.lt_of_not_le z))).symm⟩
      · obtain ⟨x, a, b⟩ := h.hi e he; exact ⟨x, up a, b⟩
    · have key : ∀ x : Mk × (Nat × Nat), x.1 = k → (min lo v.1 ≤ x.2.1) → (x.2.2 ≤ max hi v.2) → ∃ e ∈ putT L k (min lo v.1, max hi v.2), e.1 = x.1 ∧ e.2.1 ≤ x.2.1 ∧ x.2.2 ≤ e.2.2 := fun x z a b =>
        ⟨_, mem_putT.mpr (.inl rfl), z.symm, a, b⟩
      rcases List.mem_append.mp hx with hx | hx
      · obtain ⟨e, a, b, d1, d2⟩ := h.all x hx
        by_cases z : e.1 = k
        · have ev : e.2 = v := by
            have := lookT_of h.nd e a
            rw [z, q] at this
            exact (Option.some.inj this).symm
          rw [ev] at d1 d2
          exact key x (by rw [← b, z]) (Nat.le_trans (Nat.min_le_right _ _) d1) (Nat.le_trans d2 (Nat.le_max_right _ _))
        · exact ⟨e, mem_putT.mpr (.inr ⟨a, z⟩), b, d1, d2⟩
      · rw [List.mem_singleton.mp hx]
        exact key _ rfl (Nat.min_le_left _ _) (Nat.le_max_left _ _)
def cntP (w pl : Nat) (p : Pth) : Nat := (p.map (hereN w pl)).sum
theorem cnt_snoc (w pl : Nat) (p : Pth) (ss : List Std) : cntP w pl (p ++ [ss]) = cntP w pl p + hereN w pl ss := by
  unfold cntP
  rw [List.map_append, List.sum_append]
  rfl
/-- what can come behind, each once -/
def nextK (c : Cs) (m : Nat) (h : Mk) : List Mk := (behindT c m [(h, (none, 1))]).map (·.1)
def addS (c : Cs) (w pl m : Nat) (F : Spn) (e : Mk × (Nat × Nat)) : Spn := (nextK c m e.1).foldl (fun F t => wid F t (e.2.1 + hereN w pl t.1) (e.2.2 + hereN w pl t.1)) F
def stepS (c : Cs) (w pl m : Nat) (L : Spn) : Spn := L.foldl (addS c w pl m) []
structure SpnOk (c : Cs) (w pl k : Nat) (L : Spn) : Prop where
  nd : (L.map (·.1)).Nodup
  lo : ∀ e ∈ L, ∃ x ∈ mpT c k, (lastR x.1, x.2) = e.1 ∧ cntP w pl x.1 = e.2.1
  hi : ∀ e ∈ L, ∃ x ∈ mpT c k, (lastR x.1, x.2) = e.1 ∧ cntP w pl x.1 = e.2.2
  all : ∀ x ∈ mpT c k, ∃ e ∈ L, e.1 = (lastR x.1, x.2) ∧ e.2.1 ≤ cntP w pl x.1 ∧ cntP w pl x.1 ≤ e.2.2
theorem SpnOk.key {c : Cs} {w pl k : Nat} {L : Spn} (h : SpnOk c w pl k L) : ∀ x ∈ L.map (·.1), x ∈ (layT c k).map (·.1) := fun x hx => by
  obtain ⟨e, he, rfl⟩ := List.mem_map.mp hx
  obtain ⟨y, hy, e1, _⟩ := h.lo e he
  rw [key_lay, ← mp_marks]
  exact List.mem_map.mpr ⟨y, hy, e1⟩
theorem nodup_sub {α : Type} [DecidableEq α] : ∀ {l D : List α}, l.Nodup → (∀ x ∈ l, x ∈ D) → l.length ≤ D.length
  | [], _, _, _ => Nat.zero_le _
  | x :: l, D, h, s => by
    obtain ⟨h1, h2⟩ := List.nodup_cons.mp h
    have q := nodup_sub (l := l) (D := D.erase x) h2 fun y hy => (List.mem_erase_of_ne (fun e : y = x => h1 (by rw [← e]; exact hy))).2 (s y (List.mem_cons_of_mem _ hy))
    have e := List.length_erase_of_mem (s x List.mem_cons_self)
    have p := List.length_pos_of_mem (s x List.mem_cons_self)
    rw [List.length_cons]
    omega
theorem contrib_wid (c : Cs) (w pl m : Nat) (L : Spn) : Wid (L.flatMap fun e => (nextK c m e.1).map fun t => (t, (e.2.1 + hereN w pl t.1, e.2.2 + hereN w pl t.1))) (stepS c w pl m L) := by
  have inner : ∀ (e : Mk × (Nat × Nat)) (ts : List Mk) (C : List (Mk × (Nat × Nat))) (F : Spn), Wid C F → Wid (C ++ ts.map fun t => (t, (e.2.1 + hereN w pl t.1, e.2.2 + hereN w pl t.1))) (ts.foldl (fun F t => wid F t (e.2.1 + hereN w pl t.1) (e.2.2 + hereN w pl t.1)) F) := fun e ts => by
    induction ts with
    | nil => intro C F h; rw [List.map_nil, List.append_nil]; exact h
    | cons t ts ih =>
      intro C F h
      rw [List.map_cons, List.foldl_cons, ← List.singleton_append, ← List.append_assoc]
      exact ih _ _ (h.add t _ _)
  have outer : ∀ (L : Spn) (C : List (Mk × (Nat × Nat))) (F : Spn), Wid C F → Wid (C ++ L.flatMap fun e => (nextK c m e.1).map fun t => (t, (e.2.1 + hereN w pl t.1, e.2.2 + hereN w pl t.1))) (L.foldl (addS c w pl m) F) := fun L => by
    induction L with
    | nil => intro C F h; rw [List.flatMap_nil, List.append_nil]; exact h
    | cons e L ih =>
      intro C F h
      rw [List.flatMap_cons, List.foldl_cons, ← List.append_assoc]
      exact ih _ _ (inner e _ _ _ h)
  exact outer L [] [] Wid.nil
theorem mem_nextK {c : Cs} {m : Nat} {h x : Mk} : x ∈ nextK c m h ↔ x ∈ succT c m h := one_keys c m h x
theorem snoc_last {p : Pth} {k : Nat} (h : p.length = k + 2) : p.take (k + 1) ++ [lastR p] = p := by
  have hne : p ≠ [] := fun e => by rw [e] at h; cases h
  have e1 := List.dropLast_concat_getLast hne
  rw [List.dropLast_eq_take, h] at e1
  have e2 : lastR p = p.getLast hne := by
    unfold lastR
    rw [List.getLastD_eq_getLast?, List.getLast?_eq_getLast hne]
    rfl
  rw [e2]
  exact e1
theorem SpnOk.step {c : Cs} {w pl k : Nat} {L : Spn} (h : SpnOk c w pl k L) : SpnOk c w pl (k + 1) (stepS c w pl (k + 1) L) := by
  have W := contrib_wid c w pl (k + 1) L
  refine ⟨W.nd, fun e he => ?_, fun e he => ?_, fun x hx => ?_⟩
  · obtain ⟨x, hx, e1, e2⟩ := W.lo e he
    obtain ⟨e0, h0, hx⟩ := List.mem_flatMap.mp hx
    obtain ⟨t, ht, rfl⟩ := List.mem_map.mp hx
    obtain ⟨y, hy, f1, f2⟩ := h.lo e0 h0
    have hs := mem_nextK.mp ht
    rw [← f1] at hs
    refine ⟨_, mp_succ hy hs, ?_, ?_⟩
    · show (lastR (y.1 ++ [t.1]), t.2) = _
      rw [lastR_snoc, ← e1]
    · show cntP w pl (y.1 ++ [t.1]) = _
      rw [cnt_snoc, f2, ← e2]
  · obtain ⟨x, hx, e1, e2⟩ := W.hi e he
    obtain ⟨e0, h0, hx⟩ := List.mem_flatMap.mp hx
    obtain ⟨t, ht, rfl⟩ := List.mem_map.mp hx
    obtain ⟨y, hy, f1, f2⟩ := h.hi e0 h0
    have hs := mem_nextK.mp ht
    rw [← f1] at hs
    refine ⟨_, mp_succ hy hs, ?_, ?_⟩
    · show (lastR (y.1 ++ [t.1]), t.2) = _
      rw [lastR_snoc, ← e1]
    · show cntP w pl (y.1 ++ [t.1]) = _
      rw [cnt_snoc, f2, ← e2]
  · obtain ⟨p, b⟩ := x
    obtain ⟨q, b', hq, e1, hs⟩ := mp_pred hx
    obtain ⟨e0, h0, f1, f2, f3⟩ := h.all _ hq
    have hl : p.length = k + 2 := (mp_len hx).2.1
    have ep : cntP w pl p = cntP w pl q + hereN w pl (lastR p) := by
      rw [← cnt_snoc, e1, snoc_last hl]
    have hc : ((lastR p, b), (e0.2.1 + hereN w pl (lastR p), e0.2.2 + hereN w pl (lastR p))) ∈ L.flatMap fun e => (nextK c (k + 1) e.1).map fun t => (t, (e.2.1 + hereN w pl t.1, e.2.2 + hereN w pl t.1)) :=
      List.mem_flatMap.mpr ⟨e0, h0, List.mem_map.mpr ⟨(lastR p, b), mem_nextK.mpr (by rw [f1]; exact hs), rfl⟩⟩
    obtain ⟨e, he, g1, g2, g3⟩ := W.all _ hc
    refine ⟨e, he, g1, ?_, ?_⟩
    · show e.2.1 ≤ cntP w pl p
      rw [ep]
      exact Nat.le_trans g2 (Nat.add_le_add_right f2 _)
    · show cntP w pl p ≤ e.2.2
      rw [ep]
      exact Nat.le_trans (Nat.add_le_add_right f3 _) g3
end Lw
namespace Lw
open PySem PySem.Spec PyProof.Rows L2 Dt
/-- the keys all are of one layer -/
structure InL (c : Cs) (m : Nat) (L : Spn) : Prop where
  nd : (L.map (·.1)).Nodup
  key : ∀ x ∈ L.map (·.1), x ∈ (layT c m).map (·.1)
theorem InL.few {c : Cs} {m : Nat} {L : Spn} (h : InL c m L) (hc : CsOk c) (hs : Sml c) : L.length < 4000 := by
  have a := nodup_sub h.nd h.key
  rw [List.length_map, List.length_map] at a
  exact Nat.lt_of_le_of_lt a (lay_few hc hs m)
theorem InL.wid {c : Cs} {m : Nat} {L : Spn} (h : InL c m L) {k : Mk} (hk : k ∈ (layT c m).map (·.1)) (lo hi : Nat) : InL c m (wid L k lo hi) := by
  have : ∀ v, InL c m (putT L k v) := fun v => ⟨putT_nd h.nd _ _, fun x hx => by
    rw [putT_keys] at hx
    split at hx
    · exact h.key x hx
    · rcases List.mem_append.mp hx with hx | hx
      · exact h.key x hx
      · rw [List.mem_singleton.mp hx]; exact hk⟩
  unfold Lw.wid
  split <;> exact this _
end Lw
namespace Lw
open PySem PySem.Spec PyProof.Rows L2 Dt

theorem via_fst {t : Twn} (h : TwnOk t) {s x : Std} {a : Nat × Nat × Nat} (ha : a ∈ t.ws) (e : via s a = some x) : x.1 ≠ s.1 ∧ x.1 < t.n ∧ ((s.1 = a.1 ∧ x.1 = a.2.1) ∨ (s.1 = a.2.1 ∧ x.1 = a.1)) := by
  obtain ⟨a1, a2, _⟩ := h.way a ha
  unfold via at e
  split at e
  · rename_i q
    have z : a.2.1 = x.1 := by cases e; rfl
    exact ⟨by omega, by omega, .inl ⟨q, z.symm⟩⟩
  · split at e
    · rename_i q
      have z : a.1 = x.1 := by cases e; rfl
      exact ⟨by omega, by omega, .inr ⟨q, z.symm⟩⟩
    · cases e
theorem steps_n {t : Twn} (h : TwnOk t) {s : Std} (hs : s.1 < t.n) : (stepsT t s).length ≤ t.n := by
  unfold stepsT
  split
  · show 1 ≤ t.n
    omega
  · rw [srt_len]
    have nd : ((s :: t.ws.filterMap (via s)).map (·.1)).Nodup := by
      rw [List.map_cons, List.nodup_cons]
      refine ⟨fun z => ?_, ?_⟩
      · obtain ⟨x, hx, ex⟩ := List.mem_map.mp z
        obtain ⟨a, ha, ea⟩ := List.mem_filterMap.mp hx
        exact (via_fst h ha ea).1 ex
      · refine List.pairwise_map.mpr (List.pairwise_filterMap.mpr (List.Pairwise.imp_of_mem ?_ (ways_nodup h)))
        intro a b ha hb hab x ex y ey z
        obtain ⟨_, _, h1⟩ := via_fst h ha ex
        obtain ⟨_, _, h2⟩ := via_fst h hb ey
        obtain ⟨a1, _⟩ := h.way a ha
        obtain ⟨b1, _⟩ := h.way b hb
        have z : x.1 = y.1 := z
        refine hab ?_
        omega
    have := nd_len nd (U := List.range t.n) fun x hx => by
      rw [List.mem_range]
      rw [List.map_cons, List.mem_cons] at hx
      rcases hx with rfl | hx
      · exact hs
      · obtain ⟨y, hy, rfl⟩ := List.mem_map.mp hx
        obtain ⟨a, ha, ea⟩ := List.mem_filterMap.mp hy
        exact (via_fst h ha ea).2.1
    rw [List.length_map, List.length_range] at this
    exact this
theorem flatB {α β : Type} {f : α → List β} {b : Nat} : ∀ {xs : List α}, (∀ x ∈ xs, (f x).length ≤ b) → (xs.flatMap f).length ≤ xs.length * b
  | [], _ => by simp
  | x :: xs, h => by
    rw [List.flatMap_cons, List.length_append, List.length_cons, Nat.succ_mul]
    have := h x List.mem_cons_self
    have := flatB (f := f) (b := b) (xs := xs) fun y hy => h y (List.mem_cons_of_mem _ hy)
    omega
theorem days_n {t : Twn} (h : TwnOk t) : ∀ k, (daysT t k).length ≤ t.n * t.n ^ k
  | 0 => by simp [daysT]
  | k + 1 => by
    show ((daysT t k).flatMap fun d => (stepsT t (lastS d)).map fun s => d ++ [s]).length ≤ _
    rw [Nat.pow_succ, ← Nat.mul_assoc]
    refine Nat.le_trans (flatB (b := t.n) fun d hd => ?_) (Nat.mul_le_mul_right _ (days_n h k))
    rw [List.length_map]
    have ok := (mem_daysT h).mp hd
    refine steps_n h (ok.std _ ?_).1
    unfold lastS
    have := ok.len
    rw [List.getLastD_eq_getLast?, List.getLast?_eq_getElem?, List.getElem?_eq_getElem (by omega)]
    exact List.getElem_mem _
theorem enum_mapL {β : Type} (e : β → PyData) (xs : List β) : enumE [.list (xs.map e)] = .ok ((xs.zipIdx).map fun p => .tuple [.int (p.2 : Int), e p.1]) := enum_map e xs
end Lw
namespace Lw
open PySem PySem.Spec PyProof.Rows L2 Dt

end Lw
namespace Lw
open PySem PySem.Spec PyProof.Rows L2 Dt

end Lw
namespace Lw
open PySem PySem.Spec PyProof.Rows L2 Dt
section
variable {α β : Type} [DecidableEq α]
def lookA (L : List (α × β)) (k : α) : Option β := (L.find? fun e => decide (e.1 = k)).map (·.2)
def putA (L : List (α × β)) (k : α) (v : β) : List (α × β) := if (lookA L k).isSome then L.map (fun e => if e.1 = k then (e.1, v) else e) else L ++ [(k, v)]
theorem lookA_cons (e : α × β) (L : List (α × β)) (k : α) : lookA (e :: L) k = if e.1 = k then some e.2 else lookA L k := by
  unfold lookA
  rw [List.find?_cons]
  by_cases h : e.1 = k
  · rw [if_pos h, decide_eq_true h]; rfl
  · rw [if_neg h, decide_eq_false h]
theorem lookA_none {k : α} : ∀ {L : List (α × β)}, lookA L k = none ↔ k ∉ L.map (·.1)
  | [] => by simp [lookA]
  | e :: L => by
    rw [lookA_cons, List.map_cons, List.mem_cons, not_or]
    by_cases h : e.1 = k
    · rw [if_pos h]; simp [h]
    · rw [if_neg h, lookA_none]
      exact ⟨fun z => ⟨fun y => h y.symm, z⟩, fun z => z.2⟩
theorem lookA_of : ∀ {L : List (α × β)}, (L.map (·.1)).Nodup → ∀ e ∈ L, lookA L e.1 = some e.2
  | [], _, e, h => by cases h
  | x :: L, nd, e, h => by
    rw [List.map_cons, List.nodup_cons] at nd
    rw [lookA_cons]
    rcases List.mem_cons.mp h with rfl | h
    · rw [if_pos rfl]
    · rw [if_neg fun z => nd.1 (List.mem_map.mpr ⟨e, h, z.symm⟩), lookA_of nd.2 e h]
theorem lookA_map (k : α) (v : β) (x : α) : ∀ L : List (α × β), lookA (L.map fun e => if e.1 = k then (e.1, v) else e) x = if x = k then (lookA L k).map fun _ => v else lookA L x
  | [] => by simp [lookA]
  | e :: L => by
    rw [List.map_cons, lookA_cons, lookA_cons, lookA_cons, lookA_map k v x L]
    by_cases h : e.1 = k
    · rw [if_pos h, if_pos h]
      by_cases z : x = k
      · rw [if_pos (by rw [h, z]), if_pos z]; rfl
      · rw [if_neg (show ¬ e.1 = x from fun y => z (by rw [← y, h])), if_neg z, if_neg z, if_neg fun y => z (by rw [← y, h])]
    · rw [if_neg h, if_neg h]
      by_cases z : x = k
      · rw [if_neg fun y => h (by rw [y, z]), if_pos z, if_pos z]
      · rw [if_neg z, if_neg z]
theorem lookA_snoc (k : α) (v : β) (x : α) : ∀ {L : List (α × β)}, lookA L k = none → lookA (L ++ [(k, v)]) x = if x = k then some v else lookA L x
  | [], _ => by
    show lookA [(k, v)] x = _
    rw [lookA_cons]
    by_cases z : x = k
    · rw [if_pos z, if_pos z.symm]
    · rw [if_neg z, if_neg fun y => z y.symm]
  | e :: L, h => by
    rw [lookA_cons] at h
    split at h
    · cases h
    · rename_i q
      rw [List.cons_append, lookA_cons, lookA_cons, lookA_snoc k v x h]
      by_cases z : x = k
      · rw [if_pos z, if_pos z, if_neg (fun y => q (by rw [y, z]))]
      · rw [if_neg z, if_neg z]
theorem lookA_put (L : List (α × β)) (k : α) (v : β) (x : α) : lookA (putA L k v) x = if x = k then some v else lookA L x := by
  unfold putA
  cases q : lookA L k with
  | none => exact lookA_snoc k v x q
  | some v' =>
    rw [Option.isSome_some, if_pos rfl, lookA_map, q]
    rfl
theorem putA_keys (L : List (α × β)) (k : α) (v : β) : (putA L k v).map (·.1) = if k ∈ L.map (·.1) then L.map (·.1) else L.map (·.1) ++ [k] := by
  unfold putA
  cases q : lookA L k with
  | none => rw [if_neg (lookA_none.mp q)]; simp
  | some v' =>
    have hk : k ∈ L.map (·.1) := Decidable.not_not.mp fun z => by rw [lookA_none.mpr z] at q; cases q
    rw [if_pos hk]
    simp only [Option.isSome_some, if_true, List.map_map]
    refine List.map_congr_left fun x _ => ?_
    show (if x.1 = k then (x.1, v) else x).1 = x.1
    split <;> rfl
theorem putA_nd {L : List (α × β)} (h : (L.map (·.1)).Nodup) (k : α) (v : β) : ((putA L k v).map (·.1)).Nodup := by
  rw [putA_keys]
  split
  · exact h
  · rename_i q
    rw [List.nodup_append]
    exact ⟨h, by simp, fun a ha b hb e => by rw [List.mem_singleton.mp hb] at e; exact q (e ▸ ha)⟩
structure Cnt (L : List (α × Nat)) (l : List α) : Prop where
  nd : (L.map (·.1)).Nodup
  cnt : ∀ x, (lookA L x).getD 0 = l.count x
  pos : ∀ e ∈ L, 0 < e.2
def bumpA (L : List (α × Nat)) (k : α) (n : Nat) : List (α × Nat) := putA L k ((lookA L k).getD 0 + n)
theorem Cnt.nil : Cnt ([] : List (α × Nat)) [] := ⟨by simp, fun x => by simp [lookA], fun e h => by cases h⟩
theorem put_in {L : List (α × β)} {k : α} {v : β} {e : α × β} (h : e ∈ putA L k v) : e ∈ L ∨ e = (k, v) := by
  unfold putA at h
  split at h
  · obtain ⟨x, hx, rfl⟩ := List.mem_map.mp h
    split
    · rename_i q
      exact .inr (by rw [q])
    · exact .inl hx
  · rcases List.mem_append.mp h with h | h
    · exact .inl h
    · exact .inr (List.mem_singleton.mp h)
theorem Cnt.bump {L : List (α × Nat)} {l : List α} (h : Cnt L l) (k : α) {n : Nat} (hn : 0 < n) : Cnt (bumpA L k n) (l ++ List.replicate n k) := by
  refine ⟨putA_nd h.nd _ _, fun x => ?_, fun e he => ?_⟩
  · unfold bumpA
    rw [lookA_put, List.count_append, List.count_replicate, ← h.cnt]
    by_cases z : x = k
    · rw [if_pos z, z]
      simp
    · rw [if_neg z]
      have : (k == x) = false := beq_eq_false_iff_ne.mpr fun y => z y.symm
      simp [this]
  · rcases put_in he with he | rfl
    · exact h.pos e he
    · show 0 < _ + n
      omega
theorem Cnt.perm {L : List (α × Nat)} {l m : List α} (h : Cnt L l) (p : l.Perm m) : Cnt L m := ⟨h.nd, fun x => by rw [h.cnt, p.count_eq], h.pos⟩
theorem Cnt.key {L : List (α × Nat)} {l : List α} (h : Cnt L l) {k : α} : k ∈ L.map (·.1) ↔ k ∈ l := by
  rw [show (k ∈ l) ↔ 0 < l.count k from List.count_pos_iff.symm, ← h.cnt]
  constructor
  · intro hk
    obtain ⟨e, he, rfl⟩ := List.mem_map.mp hk
    rw [lookA_of h.nd e he]
    exact h.pos e he
  · intro z
    refine Decidable.not_not.mp fun n => ?_
    rw [lookA_none.mpr n] at z
    exact Nat.lt_irrefl 0 z
theorem Cnt.len {L : List (α × Nat)} {l : List α} (h : Cnt L l) : L.length ≤ l.length := by
  have := nodup_sub h.nd fun x hx => h.key.mp hx
  rwa [List.length_map] at this
end
section
variable {α : Type} [DecidableEq α] {e : α → PyData}
end
end Lw
namespace Lw
open PySem PySem.Spec PyProof.Rows L2 Dt
abbrev Tk := List Std × List Bool × List Bool
/-- behind a moment -/
def an1 (t : Tlg) (g : Nat → Nat → Option Nat) (k : Nat) : Bool := match t.w with
  | .there => !gap t g k
  | .seen => evr t g k
  | .met => evr t g k
  | .never => !evr t g k
  | .apart => !evr t g k
def ansF (ts : List Tlg) (p : Pth) (k : Nat) : List Bool := ts.map fun t => an1 t (gP p) k
end Lw
namespace Lw
open PySem PySem.Spec PyProof.Rows L2 Dt
def tri (c : Cs) (ts : List Tlg) (k : Nat) : List Tk := (mpT c k).map fun x => (lastR x.1, x.2, ansF ts x.1 k)
/-- few paths, up to each moment -/
def Pfew (c : Cs) : Prop := ∀ k, k ≤ c.last → (mpT c k).length < 4000
structure In3 (c : Cs) (ts : List Tlg) (k : Nat) (L : List (Tk × Nat)) : Prop where
  nd : (L.map (·.1)).Nodup
  key : ∀ x ∈ L.map (·.1), x ∈ tri c ts k
theorem In3.len {c : Cs} {ts : List Tlg} {k : Nat} {L : List (Tk × Nat)} (h : In3 c ts k L) (hp : Pfew c) (hk : k ≤ c.last) : L.length < 4000 := by
  have := nodup_sub h.nd h.key
  rw [List.length_map] at this
  unfold tri at this
  rw [List.length_map] at this
  exact Nat.lt_of_le_of_lt this (hp k hk)
theorem In3.put {c : Cs} {ts : List Tlg} {k : Nat} {L : List (Tk × Nat)} (h : In3 c ts k L) {x : Tk} (hx : x ∈ tri c ts k) (n : Nat) : In3 c ts k (putA L x n) := ⟨putA_nd h.nd _ _, fun y hy => by
  rw [putA_keys] at hy
  split at hy
  · exact h.key y hy
  · rcases List.mem_append.mp hy with hy | hy
    · exact h.key y hy
    · rw [List.mem_singleton.mp hy]; exact hx⟩
end Lw
namespace Lw
open PySem PySem.Spec PyProof.Rows L2 Dt
end Lw
namespace Lw
open PySem PySem.Spec PyProof.Rows L2 Dt
section
variable {α : Type} [DecidableEq α]
end
section
variable {c : Cs} {D : PyData} {ts : List Tlg}
end
end Lw
namespace Lw
open PySem PySem.Spec PyProof.Rows L2 Dt

theorem _root_.Lw.Cod.inT {α : Type} [DecidableEq α] {e : α → PyData} {k : Nat} (h : Cod e k) (hk : k ≤ 59) (a : α) (xs : List α) : inD (e a) (.tuple (xs.map e)) = .ok (.bool (decide (a ∈ xs))) := by
  unfold inD
  dsimp only
  rw [h.shp (by omega), show Dt.shp (.tuple (xs.map e)) = true from h.tup.shp (by omega) xs, if_pos (by rfl), h.any]
end Lw
namespace Lw
open PySem PySem.Spec PyProof.Rows L2 Dt

end Lw
namespace Lw
open PySem PySem.Spec PyProof.Rows L2 Dt

end Lw
namespace Lw
open PySem PySem.Spec PyProof.Rows L2 Dt

end Lw
namespace Lw
open PySem PySem.Spec PyProof.Rows L2 Dt

end Lw
namespace Lw
open PySem PySem.Spec PyProof.Rows L2 Dt

abbrev Gr := List (List Nat)
def lab (N : List Nat) (e : Nat × Nat) : List Nat := (N.set e.1 (min (N.getD e.1 0) (N.getD e.2 0))).set e.2 (min (N.getD e.1 0) (N.getD e.2 0))
def init (ps : Nat) : Gr := (List.range ps).map fun p => [p]
def turn (es : List (Nat × Nat)) (N : List Nat) : List Nat := es.foldl lab N
end Lw
namespace Lw
open PySem PySem.Spec PyProof.Rows L2 Dt

end Lw
namespace Lw
open PySem PySem.Spec PyProof.Rows L2 Dt

instance decTwn : DecidableEq Twn := fun a b => decidable_of_iff (a.n = b.n ∧ a.ws = b.ws) (by cases a; cases b; simp)
instance decCs : DecidableEq Cs := fun a b => decidable_of_iff (a.tn = b.tn ∧ a.ps = b.ps ∧ a.last = b.last ∧ a.ts = b.ts) (by cases a; cases b; simp)
section
variable {S T U α : Type}
end
end Lw
namespace Lw
open PySem PySem.Spec PyProof.Rows L2 Dt

theorem cut_m1 (xs : List PyData) (x : PyData) : Dt.cutD (xs ++ [x]) none (some (-1)) = xs := by
  unfold Dt.cutD
  rw [HT.sIx_none, List.drop_zero, Nat.sub_zero]
  have : HT.sIx (xs ++ [x]).length (xs ++ [x]).length (some (-1)) = xs.length := by
    show (if (-1 : Int) < 0 then ((-1 : Int) + ((xs ++ [x]).length : Nat)).toNat else min (-1 : Int).toNat (xs ++ [x]).length) = _
    rw [if_pos (by decide), List.length_append, List.length_singleton]
    omega
  rw [this, List.take_left]
theorem slL_m1 {α : Type} {e : α → PyData} (xs : List α) (x : α) : sl3 (.ok (.list ((xs ++ [x]).map e))) (.ok none) (.ok (some (-1))) = .ok (.list (xs.map e)) := by
  show Res.ok (PyData.list (Dt.cutD ((xs ++ [x]).map e) none (some (-1)))) = _
  rw [List.map_append, List.map_cons, List.map_nil, cut_m1]
theorem slT_m1 {α : Type} {e : α → PyData} (xs : List α) (x : α) : sl3 (.ok (.tuple ((xs ++ [x]).map e))) (.ok none) (.ok (some (-1))) = .ok (.tuple (xs.map e)) := by
  show Res.ok (PyData.tuple (Dt.cutD ((xs ++ [x]).map e) none (some (-1)))) = _
  rw [List.map_append, List.map_cons, List.map_nil, cut_m1]
end Lw
namespace Lw
open PySem PySem.Spec PyProof.Rows L2 Dt

inductive HW where
  | hear | letgo
deriving DecidableEq
def HW.s : HW → Str
  | .hear => "hear"
  | .letgo => "let_go"
structure Stp where
  w : HW
  c : Cs
  r : List Tlg
instance decStp : DecidableEq Stp := fun a b => decidable_of_iff (a.w = b.w ∧ a.c = b.c ∧ a.r = b.r) (by cases a; cases b; simp)
/-- whether a telling is kept -/
def fitT (c : Cs) (t : Tlg) : Bool := decide (c.ts.length < 6) && decide (0 < (goods (withT c (c.ts ++ [t]))).length)
def stepT (z : Cs × List Tlg) (t : Tlg) : Cs × List Tlg := if fitT z.1 t = true then (withT z.1 (z.1.ts ++ [t]), z.2) else (z.1, z.2 ++ [t])
theorem stepT_ok {c : Cs} (hc : CsOk c) {t : Tlg} (ht : TlgOk c.tn.n c.ps c.last t) (r : List Tlg) : CsOk (stepT (c, r) t).1 := by
  unfold stepT
  split
  · rename_i h
    unfold fitT at h
    rw [Bool.and_eq_true, decide_eq_true_eq] at h
    have h1 : c.ts.length < 6 := h.1
    exact more_ok hc ht (by omega)
  · exact hc
def letT (c : Cs) (r : List Tlg) (i : Nat) : Cs × List Tlg := r.foldl stepT (restT c i, [])
end Lw
namespace Lw
open PySem PySem.Spec PyProof.Rows L2 Dt

/-- what a talk of c0 holds -/
structure TkOk (c0 : Cs) (z : Cs × List Tlg) : Prop where
  us : ∃ us, z.1 = withT c0 us
  ok : CsOk z.1
  rs : ∀ t ∈ z.2, TlgOk c0.tn.n c0.ps c0.last t
theorem TkOk.step {c0 : Cs} {z : Cs × List Tlg} (h : TkOk c0 z) {t : Tlg} (ht : TlgOk c0.tn.n c0.ps c0.last t) : TkOk c0 (stepT z t) := by
  obtain ⟨⟨us, e⟩, ok, rs⟩ := h
  obtain ⟨c, r⟩ := z
  have e : c = withT c0 us := e
  refine ⟨?_, stepT_ok ok (by rw [e]; exact ht) r, ?_⟩
  · unfold stepT
    split
    · exact ⟨_, by rw [e]; rfl⟩
    · exact ⟨us, e⟩
  · unfold stepT
    split
    · exact rs
    · intro u hu
      rcases List.mem_append.mp hu with hu | hu
      · exact rs u hu
      · rw [List.mem_singleton.mp hu]; exact ht
theorem TkOk.fold {c0 : Cs} : ∀ (old : List Tlg) {z : Cs × List Tlg}, TkOk c0 z → (∀ t ∈ old, TlgOk c0.tn.n c0.ps c0.last t) → TkOk c0 (old.foldl stepT z)
  | [], z, h, _ => h
  | t :: old, z, h, ho => TkOk.fold old (h.step (ho t List.mem_cons_self)) fun u hu => ho u (List.mem_cons_of_mem _ hu)
theorem TkOk.go {c0 : Cs} {c : Cs} {r : List Tlg} (h : TkOk c0 (c, r)) (i : Nat) : TkOk c0 (letT c r i) := by
  obtain ⟨⟨us, e⟩, ok, rs⟩ := h
  have e : c = withT c0 us := e
  exact TkOk.fold r ⟨⟨_, by show restT c i = _; rw [e]; rfl⟩, rest_ok ok i, fun t ht => by cases ht⟩ rs
theorem TkOk.few {c0 : Cs} {z : Cs × List Tlg} (h : TkOk c0 z) (hf : Few c0) : Few z.1 := by
  obtain ⟨us, e⟩ := h.us
  rw [e]
  exact few_with hf _
end Lw
namespace Lw
open PySem PySem.Spec PyProof.Rows L2 Dt

theorem goods_zero {c : Cs} {us vs : List Tlg} (h : ∀ u ∈ us, u ∈ vs) (hz : (goods (withT c us)).length = 0) : (goods (withT c vs)).length = 0 := by
  rw [List.length_eq_zero_iff, goods_with, List.filter_eq_nil_iff] at *
  intro p hp ha
  refine hz p hp ?_
  rw [List.all_eq_true] at ha ⊢
  exact fun u hu => ha u (h u hu)
/-- what is aside could not be with what is kept, or six are kept -/
def AsdOk (z : Cs × List Tlg) : Prop := z.1.ts.length = 6 ∨ ∀ t ∈ z.2, (goods (withT z.1 (z.1.ts ++ [t]))).length = 0
theorem fit_no {c : Cs} {t : Tlg} (h6 : c.ts.length ≤ 6) (h : ¬ fitT c t = true) : c.ts.length = 6 ∨ (goods (withT c (c.ts ++ [t]))).length = 0 := by
  unfold fitT at h
  rw [Bool.and_eq_true, decide_eq_true_eq, decide_eq_true_eq] at h
  by_cases q : c.ts.length < 6
  · exact .inr (by
      by_cases z : 0 < (goods (withT c (c.ts ++ [t]))).length
      · exact absurd ⟨q, z⟩ h
      · omega)
  · exact .inl (by omega)
theorem fit_yes {c : Cs} {t : Tlg} (h : fitT c t = true) : c.ts.length < 6 ∧ 0 < (goods (withT c (c.ts ++ [t]))).length := by
  unfold fitT at h
  rw [Bool.and_eq_true, decide_eq_true_eq, decide_eq_true_eq] at h
  exact h
theorem AsdOk.step {z : Cs × List Tlg} (h : AsdOk z) (h6 : z.1.ts.length ≤ 6) (t : Tlg) : AsdOk (stepT z t) := by
  unfold stepT
  by_cases q : fitT z.1 t = true
  · rw [if_pos q]
    obtain ⟨a, b⟩ := fit_yes q
    rcases h with h | h
    · omega
    · refine .inr fun u hu => ?_
      have := h u hu
      refine goods_zero (c := z.1) (us := z.1.ts ++ [u]) (fun x hx => ?_) this
      show x ∈ (z.1.ts ++ [t]) ++ [u]
      rcases List.mem_append.mp hx with hx | hx
      · exact List.mem_append_left _ (List.mem_append_left _ hx)
      · exact List.mem_append_right _ hx
  · rw [if_neg q]
    rcases h with h | h
    · exact .inl h
    · rcases fit_no h6 q with z6 | z0
      · exact .inl z6
      · refine .inr fun u hu => ?_
        rcases List.mem_append.mp hu with hu | hu
        · exact h u hu
        · rw [List.mem_singleton.mp hu]; exact z0
end Lw
namespace Lw
open PySem PySem.Spec PyProof.Rows L2 Dt

abbrev Zst := Cs × List Tlg
structure TS where
  p : List Stp
  z : Zst
  l : List Stp
/-- what holds of a talk behind so many steps -/
structure TsOk (c0 : Cs) (k : Nat) (t : TS) : Prop where
  now : TkOk c0 t.z ∧ t.z.2.length ≤ k
  past : ∀ s ∈ t.p, TkOk c0 (s.c, s.r) ∧ s.r.length ≤ k
  later : ∀ s ∈ t.l, TkOk c0 (s.c, s.r) ∧ s.r.length ≤ k
  many : t.p.length + t.l.length ≤ k
theorem TsOk.mono {c0 : Cs} {k m : Nat} {t : TS} (h : TsOk c0 k t) (hm : k ≤ m) : TsOk c0 m t :=
  ⟨⟨h.now.1, by have := h.now.2; omega⟩, fun s hs => ⟨(h.past s hs).1, by have := (h.past s hs).2; omega⟩, fun s hs => ⟨(h.later s hs).1, by have := (h.later s hs).2; omega⟩, by have := h.many; omega⟩
theorem TsOk.step {c0 : Cs} {k : Nat} {t : TS} (h : TsOk c0 k t) (w : HW) {z : Zst} (hz : TkOk c0 z) (hl : z.2.length ≤ t.z.2.length + 1) : TsOk c0 (k + 1) ⟨t.p ++ [⟨w, t.z.1, t.z.2⟩], z, []⟩ := by
  refine ⟨⟨hz, by have := h.now.2; show z.2.length ≤ _; omega⟩, fun s hs => ?_, fun s hs => (by cases hs), ?_⟩
  · rcases List.mem_append.mp hs with hs | hs
    · exact ((h.mono (Nat.le_succ k)).past s hs)
    · rw [List.mem_singleton.mp hs]
      exact (h.mono (Nat.le_succ k)).now
  · show (t.p ++ [_]).length + 0 ≤ _
    rw [List.length_append, List.length_singleton]
    have := h.many
    omega
theorem TsOk.back {c0 : Cs} {k : Nat} {p : List Stp} {s : Stp} {z : Zst} {l : List Stp} (h : TsOk c0 k ⟨p ++ [s], z, l⟩) : TsOk c0 k ⟨p, (s.c, s.r), l ++ [⟨s.w, z.1, z.2⟩]⟩ := by
  refine ⟨h.past s (List.mem_append_right _ (List.mem_singleton.mpr rfl)), fun x hx => h.past x (List.mem_append_left _ hx), fun x hx => ?_, ?_⟩
  · rcases List.mem_append.mp hx with hx | hx
    · exact h.later x hx
    · rw [List.mem_singleton.mp hx]
      exact h.now
  · have : (p ++ [s]).length + l.length ≤ k := h.many
    show p.length + (l ++ [_]).length ≤ k
    rw [List.length_append, List.length_singleton] at *
    omega
/-- the first state of all -/
def botT : List Stp → Zst → Zst
  | [], z => z
  | s :: _, _ => (s.c, s.r)
theorem bot_app (p : List Stp) (s : Stp) (z : Zst) : botT (p ++ [s]) z = botT p (s.c, s.r) := by cases p <;> rfl
def posZ (z : Zst) : Prop := 0 < (goods z.1).length
structure TkInv (c0 : Cs) (k : Nat) (t : TS) : Prop where
  ok : TsOk c0 k t
  now : posZ t.z
  past : ∀ s ∈ t.p, posZ (s.c, s.r)
  later : ∀ s ∈ t.l, posZ (s.c, s.r)
  bot : botT t.p t.z = (c0, [])
theorem TkInv.mono {c0 : Cs} {k m : Nat} {t : TS} (h : TkInv c0 k t) (hm : k ≤ m) : TkInv c0 m t := ⟨h.ok.mono hm, h.now, h.past, h.later, h.bot⟩
theorem TkInv.step {c0 : Cs} {k : Nat} {t : TS} (h : TkInv c0 k t) (w : HW) {z : Zst} (hz : TkOk c0 z) (hl : z.2.length ≤ t.z.2.length + 1) (hp : posZ z) : TkInv c0 (k + 1) ⟨t.p ++ [⟨w, t.z.1, t.z.2⟩], z, []⟩ :=
  ⟨h.ok.step w hz hl, hp, fun s hs => by
    rcases List.mem_append.mp hs with hs | hs
    · exact h.past s hs
    · rw [List.mem_singleton.mp hs]; exact h.now, fun s hs => (by cases hs), by
    show botT (t.p ++ [_]) z = _
    rw [bot_app]
    exact h.bot⟩
theorem TkInv.back {c0 : Cs} {k : Nat} {p : List Stp} {s : Stp} {z : Zst} {l : List Stp} (h : TkInv c0 k ⟨p ++ [s], z, l⟩) : TkInv c0 k ⟨p, (s.c, s.r), l ++ [⟨s.w, z.1, z.2⟩]⟩ :=
  ⟨h.ok.back, h.past s (List.mem_append_right _ (List.mem_singleton.mpr rfl)), fun x hx => h.past x (List.mem_append_left _ hx), fun x hx => by
    rcases List.mem_append.mp hx with hx | hx
    · exact h.later x hx
    · rw [List.mem_singleton.mp hx]; exact h.now, by
    have := h.bot
    rw [bot_app] at this
    exact this⟩
theorem TkInv.start {c0 : Cs} (hk : CsOk c0) (hp : 0 < (goods c0).length) : TkInv c0 0 ⟨[], (c0, []), []⟩ :=
  ⟨⟨⟨⟨⟨c0.ts, rfl⟩, hk, fun t ht => by cases ht⟩, Nat.le_refl _⟩, fun s hs => (by cases hs), fun s hs => (by cases hs), Nat.le_refl _⟩, hp, fun s hs => (by cases hs), fun s hs => (by cases hs), rfl⟩
end Lw
namespace Lw
open PySem PySem.Spec PyProof.Rows L2 Dt
open PySem.Builtin PySem.Builtin.Str

/-- the text of some signs -/
def S (l : List Nat) : Str := ⟨l.toArray⟩
theorem S_cps (l : List Nat) : (S l).cps.toList = l := rfl
theorem S_len (l : List Nat) : (S l).length = l.length := by
  show l.toArray.size = _
  rw [List.size_toArray]
theorem S_app (a b : List Nat) : S a ++ S b = S (a ++ b) := by
  show (⟨a.toArray ++ b.toArray⟩ : Str) = ⟨(a ++ b).toArray⟩
  rw [List.append_toArray]
theorem S_inj {a b : List Nat} (h : S a = S b) : a = b := congrArg (fun s : Str => s.cps.toList) h
def splitL (c : Nat) : List Nat → List (List Nat)
  | [] => [[]]
  | a :: l => if a = c then [] :: splitL c l else match splitL c l with
    | [] => [[a]]
    | p :: ps => (a :: p) :: ps
def posL (c : Nat) : List Nat → Nat → List Nat
  | [], _ => []
  | a :: l, i => if a = c then i :: posL c l (i + 1) else posL c l (i + 1)
theorem posL_cons (c a : Nat) (l : List Nat) (i : Nat) : posL c (a :: l) i = if a = c then i :: posL c l (i + 1) else posL c l (i + 1) := rfl
theorem splitL_cons (c a : Nat) (l : List Nat) : splitL c (a :: l) = if a = c then [] :: splitL c l else match splitL c l with
    | [] => [[a]]
    | p :: ps => (a :: p) :: ps := rfl
def appH (p : List Nat) : List (List Nat) → List (List Nat)
  | [] => [p]
  | q :: qs => (p ++ q) :: qs
theorem splitL_ne (c : Nat) : ∀ l, splitL c l ≠ []
  | [] => by simp [splitL]
  | a :: l => by
    unfold splitL
    split
    · simp
    · split <;> simp
theorem appH_nil (c : Nat) (l : List Nat) : appH [] (splitL c l) = splitL c l := by
  cases h : splitL c l with
  | nil => exact absurd h (splitL_ne c l)
  | cons p ps => rfl
theorem occ_run (x : Str) (c : Nat) : ∀ (k i : Nat) (found : Array Nat) (free : Nat), i + k = x.length + 1 → free ≤ i → found.size ≤ i →
    (forIn (List.range' i k) (found, free) (PySem.StrLaws.occBody x ⟨#[c]⟩ x.length (x.length + 1))).run.fst.toList = found.toList ++ posL c (x.cps.toList.drop i) i
  | 0, i, found, free, h, hf, hs => by
    have : x.cps.toList.drop i = [] := List.drop_eq_nil_of_le (by simp [Str.length] at h ⊢; omega)
    rw [this]
    simp [posL]
  | k + 1, i, found, free, h, hf, hs => by
    rw [List.range'_succ, List.forIn_cons]
    unfold PySem.StrLaws.occBody
    have key := PySem.StrLaws.subAt_one x c i
    by_cases hi : i < x.cps.toList.length
    · have hd : x.cps.toList.drop i = x.cps.toList[i] :: x.cps.toList.drop (i + 1) := List.drop_eq_getElem_cons hi
      rw [hd]
      by_cases hc : x.cps.toList[i] = c
      · have h1 : x.cps.toList[i]? = some c := by rw [List.getElem?_eq_getElem hi, hc]
        obtain ⟨k1, k2⟩ := key.mpr h1
        have hlt : found.size < x.length + 1 := by
          have : x.cps.toList.length = x.length := Array.length_toList
          omega
        rw [if_pos ⟨⟨⟨hlt, hf⟩, k1⟩, k2⟩]
        refine (occ_run x c k (i + 1) (found.push i) (i + 1) (by omega) (Nat.le_refl _) (by rw [Array.size_push]; omega)).trans ?_
        rw [posL_cons, if_pos hc]
        simp
      · have h1 : ¬ x.cps.toList[i]? = some c := by
          rw [List.getElem?_eq_getElem hi]
          exact fun z => hc (Option.some.inj z)
        rw [if_neg fun z => h1 (key.mp ⟨z.1.2, z.2⟩)]
        refine (occ_run x c k (i + 1) found free (by omega) (by omega) (by omega)).trans ?_
        rw [posL_cons, if_neg hc]
    · have h1 : ¬ x.cps.toList[i]? = some c := by
        rw [List.getElem?_eq_none (by omega)]
        exact fun z => by cases z
      rw [if_neg fun z => h1 (key.mp ⟨z.1.2, z.2⟩)]
      refine (occ_run x c k (i + 1) found free (by omega) (by omega) (by omega)).trans ?_
      rw [List.drop_eq_nil_of_le (by omega), List.drop_eq_nil_of_le (by omega)]
      rfl
theorem occ_one (x : Str) (c : Nat) : occurrences x ⟨#[c]⟩ 0 x.length (x.length + 1) = posL c x.cps.toList 0 := by
  rw [PySem.StrLaws.occ_eq, occ_run x c _ 0 #[] 0 (by omega) (Nat.le_refl _) (Nat.le_refl _)]
  rfl
theorem parts_run (x : List Nat) (c : Nat) : ∀ (l : List Nat) (i s : Nat), x.drop i = l → s ≤ i → i ≤ x.length →
    ((s :: (posL c l i).map (· + 1)).zip (posL c l i ++ [x.length])).map (fun z => (x.drop z.1).take (z.2 - z.1)) = appH ((x.drop s).take (i - s)) (splitL c l)
  | [], i, s, h, hs, hl => by
    have hi : x.length ≤ i := List.drop_eq_nil_iff.mp h
    have e : i = x.length := by omega
    subst e
    simp [posL, splitL, appH]
  | a :: l, i, s, h, hs, hl => by
    have hi : i < x.length := by
      have := congrArg List.length h
      rw [List.length_drop, List.length_cons] at this
      omega
    have hd := List.drop_eq_getElem_cons hi
    rw [h] at hd
    have e1 : x[i] = a := (List.cons.inj hd).1.symm
    have e2 : x.drop (i + 1) = l := (List.cons.inj hd).2.symm
    unfold posL splitL
    by_cases hc : a = c
    · rw [if_pos hc, if_pos hc]
      rw [List.map_cons, List.cons_append, List.zip_cons_cons, List.map_cons, parts_run x c l (i + 1) (i + 1) e2 (Nat.le_refl _) (by omega), Nat.sub_self, List.take_zero, appH_nil]
      show _ = (_ ++ []) :: splitL c l
      rw [List.append_nil]
    · rw [if_neg hc, if_neg hc]
      rw [parts_run x c l (i + 1) s e2 (by omega) (by omega)]
      have e3 : (x.drop s).take (i + 1 - s) = (x.drop s).take (i - s) ++ [a] := by
        rw [show i + 1 - s = (i - s) + 1 by omega, List.take_succ, List.getElem?_drop, show s + (i - s) = i by omega, List.getElem?_eq_getElem hi, e1]
        rfl
      rw [e3]
      cases z : splitL c l with
      | nil => exact absurd z (splitL_ne c l)
      | cons p ps =>
        show (_ ++ [a] ++ p) :: ps = (_ ++ (a :: p)) :: ps
        rw [List.append_assoc]
        rfl
theorem strSub_S (x : Str) (i j : Nat) : strSub x i j = S ((x.cps.toList.drop i).take (j - i)) := by
  rw [← PySem.StrLaws.strSub_toList]
  rfl
theorem split_one (x : List Nat) (c : Nat) (hc : c < 256) : Txt.split (S x) (S [c]) = (splitL c x).map S := by
  unfold Txt.split
  have hk : decide (PySem.Builtin.Str.strKind (S x) < PySem.Builtin.Str.strKind (S [c])) = false := by
    have : PySem.Builtin.Str.strKind (S [c]) = 1 := by
      unfold PySem.Builtin.Str.strKind
      rw [if_pos (by show (#[c].all fun z => decide (z < 256)) = true; simp [hc])]
    rw [this]
    refine decide_eq_false fun h => ?_
    unfold PySem.Builtin.Str.strKind at h
    split at h
    · omega
    · split at h <;> omega
  rw [hk, Bool.or_false]
  have ho : occurrences (S x) (S [c]) 0 (S x).length ((S x).length + 1) = posL c x 0 := occ_one (S x) c
  rw [ho]
  have hp : partsBetween (S x) (posL c x 0) (S [c]).length = (splitL c x).map S := by
    unfold partsBetween
    show ((0 :: (posL c x 0).map (· + 1)).zip (posL c x 0 ++ [(S x).length])).map (fun (i, j) => strSub (S x) i j) = _
    rw [S_len]
    have := parts_run x c x 0 0 rfl (Nat.le_refl _) (Nat.zero_le _)
    rw [Nat.sub_self, List.take_zero, appH_nil] at this
    rw [← this, List.map_map]
    refine List.map_congr_left fun z _ => ?_
    exact strSub_S (S x) z.1 z.2
  by_cases h0 : x.length < 1
  · have hx : x = [] := List.length_eq_zero_iff.mp (by omega)
    subst hx
    rfl
  · rw [if_neg (by rw [S_len, S_len]; exact fun z => h0 (of_decide_eq_true z))]
    split
    · rename_i he
      have : posL c x 0 = [] := List.isEmpty_iff.mp he
      rw [this] at hp
      rw [← hp]
      have : partsBetween (S x) [] (S [c]).length = [S x] := by
        unfold partsBetween
        show [strSub (S x) 0 (S x).length] = _
        rw [strSub_S, S_len]
        simp [S_cps]
      rw [this]
    · exact hp
theorem splitL_app {c : Nat} : ∀ {p : List Nat} (l : List Nat), c ∉ p → splitL c (p ++ c :: l) = p :: splitL c l
  | [], l, _ => by
    show splitL c (c :: l) = _
    rw [splitL_cons, if_pos rfl]
  | a :: p, l, h => by
    show splitL c (a :: (p ++ c :: l)) = _
    rw [splitL_cons, if_neg fun z : a = c => h (by rw [z]; exact List.mem_cons_self), splitL_app l fun z => h (List.mem_cons_of_mem _ z)]
/-- lines, each with its end -/
def linesL (c : Nat) : List (List Nat) → List Nat
  | [] => []
  | p :: ps => p ++ c :: linesL c ps
theorem split_lines {c : Nat} : ∀ {ps : List (List Nat)}, (∀ p ∈ ps, c ∉ p) → splitL c (linesL c ps) = ps ++ [[]]
  | [], _ => rfl
  | p :: ps, h => by
    show splitL c (p ++ c :: linesL c ps) = _
    rw [splitL_app _ (h p List.mem_cons_self), split_lines fun q hq => h q (List.mem_cons_of_mem _ hq)]
    rfl
theorem join_all : ∀ ps : List (List Nat), Str.join (S []) (ps.map S) = S ps.flatten
  | [] => rfl
  | [p] => by
    show S p = S ([p].flatten)
    simp
  | p :: q :: ps => by
    show S p ++ S [] ++ Str.join (S []) ((q :: ps).map S) = _
    rw [join_all (q :: ps), S_app, S_app, List.append_nil]
    rfl
theorem txt_cat (ps : List (List Nat)) : Txt.join (S []) (ps.map S) = S ps.flatten := by
  unfold Txt.join
  rw [PySem.StrLaws.glued_eq_join, join_all]
theorem lines_flat (c : Nat) (ps : List (List Nat)) : (ps.map fun p => p ++ [c]).flatten = linesL c ps := by
  induction ps with
  | nil => rfl
  | cons p ps ih => rw [List.map_cons, List.flatten_cons, ih, List.append_assoc]; rfl
end Lw
namespace Lw
open PySem PySem.Spec PyProof.Rows L2 Dt

theorem addX {a b : List Nat} (h : a.length + b.length ≤ 100000) : addD (.str (S a)) (.str (S b)) = .ok (.str (S (a ++ b))) := by
  show (if (S a).length + (S b).length ≤ sizeLine then Res.ok (PyData.str (S a ++ S b)) else .stuck) = _
  rw [if_pos (by rw [S_len, S_len, sizeLine_eq]; omega), S_app]
theorem splitS {x : List Nat} {c : Nat} (hc : c < 256) (h : x.length ≤ 1000000) : splitD (.str (S x)) (.str (S [c])) = .ok ((splitL c x).map fun l => PyData.str (S l)) := by
  show (if ((S [c]).length == 0) = false ∧ (S x).length + 2 ≤ sizeLine then Res.ok ((Txt.split (S x) (S [c])).map PyData.str) else .stuck) = _
  rw [if_pos ⟨rfl, by rw [S_len, sizeLine_eq]; omega⟩, split_one x c hc, List.map_map]
  rfl
theorem catS {ps : List (List Nat)} (h : (ps.map (·.length)).sum ≤ 1000000) : joinD (.str (S [])) (.list (ps.map fun l => PyData.str (S l))) = .ok (.str (S ps.flatten)) := by
  show (match strsD (ps.map fun l => PyData.str (S l)) with
    | some ys => if (ys.map fun l : Str => l.length).sum + ys.length * (S []).length ≤ 16777216 then Res.ok (PyData.str (Txt.join (S []) ys)) else .stuck
    | none => .stuck) = _
  rw [show (ps.map fun l => PyData.str (S l)) = (ps.map S).map PyData.str by rw [List.map_map]; rfl, strsD_map]
  dsimp only
  rw [if_pos, txt_cat]
  have e : ((ps.map S).map fun l : Str => l.length).sum = (ps.map (·.length)).sum := by
    rw [List.map_map]
    congr 1
  rw [e, List.length_map]
  show _ + ps.length * 0 ≤ _
  omega
theorem onS_str {α : Type} (g : PyData → PyData → Res α) (a : Str) (re : Res PyData) : onS g (.ok (.str a)) re = re >>= fun u => g (.str a) u := rfl
theorem s_sp : (" " : Str) = S [32] := by decide +kernel
theorem s_nl : ("\n" : Str) = S [10] := by decide +kernel
theorem s_no : ("" : Str) = S [] := by decide +kernel
def Wd.cs : Wd → List Nat
  | .there => [116, 104, 101, 114, 101]
  | .seen => [115, 101, 101, 110]
  | .never => [110, 101, 118, 101, 114]
  | .met => [109, 101, 116]
  | .apart => [97, 112, 97, 114, 116]
theorem pl_at {i : Nat} (h : i < 5) : idxD (.str "abcde") (.int (i : Int)) = .ok (.str (S [97 + i])) := by
  match i, h with
  | 0, _ => rfl
  | 1, _ => rfl
  | 2, _ => rfl
  | 3, _ => rfl
  | 4, _ => rfl
theorem nm_at {i : Nat} (h : i < 3) : idxD (.str "XYZ") (.int (i : Int)) = .ok (.str (S [88 + i])) := by
  match i, h with
  | 0, _ => rfl
  | 1, _ => rfl
  | 2, _ => rfl
def plL (n : Nat) : List Nat := (List.range n).map (97 + ·)
theorem pl_to {n : Nat} (h : n ≤ 5) : sl3S (.ok (.str "abcde")) (.ok none) (.ok (some (n : Int))) = .ok (.str (S (plL n))) := by
  match n, h with
  | 0, _ => rfl
  | 1, _ => rfl
  | 2, _ => rfl
  | 3, _ => rfl
  | 4, _ => rfl
  | 5, _ => rfl
theorem sum_le {B : Nat} : ∀ {ps : List (List Nat)}, (∀ p ∈ ps, p.length ≤ B) → (ps.map (·.length)).sum ≤ ps.length * B
  | [], _ => Nat.zero_le _
  | p :: ps, h => by
    rw [List.map_cons, List.sum_cons, List.length_cons, Nat.succ_mul]
    have := h p List.mem_cons_self
    have := sum_le fun q hq => h q (List.mem_cons_of_mem p hq)
    omega
end Lw
namespace Lw
open PySem PySem.Spec PyProof.Rows L2 Dt

theorem shpS {a : List Nat} (h : ∀ x ∈ a, x < 1000) : shp (.str (S a)) = true := by
  have e : PyData.canLay0 (.str (S a)) = true := by
    show PyData.strOk (S a) = true
    unfold PyData.strOk
    rw [Array.all_eq_true_iff_forall_mem]
    intro x hx
    have : x ∈ a := by simpa [S] using hx
    have := h x this
    simp
    omega
  simp [shp, SeqAt.shaped, e, PyData.depth]
theorem eqvS (a b : List Nat) : PyData.eqv (.str (S a)) (.str (S b)) = decide (a = b) := by
  have : PyData.eqv (.str (S a)) (.str (S b)) = decide (S a = S b) := by
    show (S a == S b) = _
    rw [Bool.eq_iff_iff, beq_iff_eq, decide_eq_true_eq]
  rw [this]
  by_cases e : a = b
  · rw [e, decide_eq_true rfl, decide_eq_true rfl]
  · rw [decide_eq_false e, decide_eq_false fun h => e (S_inj h)]
theorem eqS {a b : List Nat} (ha : ∀ x ∈ a, x < 1000) (hb : ∀ x ∈ b, x < 1000) : eqD (.str (S a)) (.str (S b)) = .ok (.bool (decide (a = b))) := by
  unfold eqD
  rw [shpS ha, shpS hb, Bool.and_true, if_pos rfl, eqvS]
theorem neS {a b : List Nat} (ha : ∀ x ∈ a, x < 1000) (hb : ∀ x ∈ b, x < 1000) : neD (.str (S a)) (.str (S b)) = .ok (.bool (!decide (a = b))) := by
  unfold neD
  rw [shpS ha, shpS hb, Bool.and_true, if_pos rfl, eqvS]
theorem lenS_S {a : List Nat} (h : a.length ≤ 1000000) : lenC [.str (S a)] = .ok (.int (a.length : Int)) := by
  show (if (S a).length ≤ sizeLine then Res.ok (PyData.int (S a).length) else .stuck) = _
  rw [if_pos (by rw [S_len, sizeLine_eq]; omega), S_len]
theorem res_int {r : Res PyData} {n : Int} (h : (match r with | .ok (.int i) => decide (i = n) | _ => false) = true) : r = .ok (.int n) := by
  cases r with
  | ok d =>
    cases d with
    | int i => rw [of_decide_eq_true h]
    | _ => cases h
  | err c => cases h
  | stuck => cases h
theorem lines_small : ∀ {ps : List (List Nat)}, (∀ p ∈ ps, ∀ x ∈ p, x < 1000) → ∀ x ∈ linesL 10 ps, x < 1000
  | [], _, x, hx => by simp [linesL] at hx
  | p :: ps, h, x, hx => by
    have hx : x ∈ p ++ 10 :: linesL 10 ps := hx
    rw [List.mem_append, List.mem_cons] at hx
    rcases hx with z | rfl | z
    · exact h p List.mem_cons_self x z
    · decide
    · exact lines_small (fun r hr => h r (List.mem_cons_of_mem _ hr)) x z
end Lw
namespace Lw
open PySem PySem.Spec PyProof.Rows L2 Dt

/-- what a set takes and sorts -/
structure Srd {α : Type} (e : α → PyData) : Prop where
  ok : ∀ a, okN (e a) = true
  inj : ∀ a b, nk (e a) = nk (e b) → a = b
  bq : ∀ a, beqP (e a) (e a) = true
  lt : ∀ a b, PySem.W.dataLt (e a) (e b) = false → PySem.W.dataLt (e b) (e a) = false → a = b
  al : ∀ a b, PySem.W.alike (e a) (e b) = true
  shp : ∀ a, Dt.shp (e a) = true
def dedG {α : Type} [DecidableEq α] : List α → List α
  | [] => []
  | b :: bs => if b ∈ dedG bs then dedG bs else b :: dedG bs
section
variable {α : Type} [DecidableEq α] {e : α → PyData} (S : Srd e)
include S
theorem Srd.ded : ∀ xs : List α, dedN (xs.map e) = (dedG xs).map e
  | [] => rfl
  | b :: bs => by
    have z : ((dedG bs).map e).any (fun x => decide (nk x = nk (e b))) = decide (b ∈ dedG bs) := by
      rw [Bool.eq_iff_iff, List.any_eq_true, decide_eq_true_eq]
      constructor
      · rintro ⟨x, hx, h⟩
        obtain ⟨y, hy, rfl⟩ := List.mem_map.mp hx
        rw [← S.inj _ _ (of_decide_eq_true h)]
        exact hy
      · exact fun h => ⟨_, List.mem_map_of_mem h, decide_eq_true rfl⟩
    show (if (dedN (bs.map e)).any (fun x => decide (nk x = nk (e b))) = true then dedN (bs.map e) else e b :: dedN (bs.map e)) = _
    rw [Srd.ded bs, z, show dedG (b :: bs) = if b ∈ dedG bs then dedG bs else b :: dedG bs from rfl]
    by_cases h : b ∈ dedG bs
    · rw [decide_eq_true h, if_pos rfl, if_pos h]
    · rw [decide_eq_false h, if_neg (by decide), if_neg h]
      rfl
theorem Srd.okA (xs : List α) : (xs.map e).all okN = true := List.all_eq_true.mpr fun d hd => by
  obtain ⟨b, _, rfl⟩ := List.mem_map.mp hd
  exact S.ok b
theorem Srd.injA (xs : List α) : injN (xs.map e) = true := List.all_eq_true.mpr fun d hd => List.all_eq_true.mpr fun d' hd' => by
  obtain ⟨x, _, rfl⟩ := List.mem_map.mp hd
  obtain ⟨y, _, rfl⟩ := List.mem_map.mp hd'
  by_cases h : nk (e x) = nk (e y)
  · rw [S.inj _ _ h, S.bq, Bool.or_true]
  · rw [decide_eq_false h]
    rfl
theorem Srd.len {xs : List α} (few : (dedG xs).length < 300) : lenSetN (.list (xs.map e)) = .ok (.int ((dedG xs).length : Nat)) := by
  unfold lenSetN
  dsimp only
  rw [S.okA, S.injA, S.ded, List.length_map, decide_eq_true few, if_pos (by rfl)]
theorem Srd.perm {xs ys : List α} (p : xs.Perm ys) : srt e xs = srt e ys := by
  have h := sorD_perm (p.map e) fun a ha b hb h1 h2 => by
    obtain ⟨x, _, rfl⟩ := List.mem_map.mp ha
    obtain ⟨y, _, rfl⟩ := List.mem_map.mp hb
    rw [S.lt x y h1 h2]
  rw [sorD_map, sorD_map] at h
  exact map_inj (f := e) (fun a b z => S.inj a b (by rw [z])) h
end
end Lw
namespace Lw
open PySem PySem.Spec PyProof.Rows L2 Dt

def sgn (s : Std) : Nat := (if s.2 = 0 then 97 else 65) + s.1
def dayL (d : Day) : List Nat := d.map sgn
theorem sgn_small {s : Std} (h : s.1 < 5) : sgn s < 1000 := by unfold sgn; split <;> omega
theorem gr_at {i : Nat} (h : i < 5) : idxD (.str "ABCDE") (.int (i : Int)) = .ok (.str (S [65 + i])) := by
  have : ∀ i : Fin 5, (match idxD (.str "ABCDE") (.int ((i : Nat) : Int)) with | .ok (.str x) => decide (x = S [65 + (i : Nat)]) | _ => false) = true := by decide +kernel
  exact res_str (this ⟨i, h⟩)
theorem sign_of_enc {s : Std} (h : s.1 < 5) : F_sign_of [eStd s] = .ok (.str (S [sgn s])) := by
  rw [F_sign_of_eq]
  unfold m_sign_of
  unfold sgn
  by_cases q : s.2 = 0
  · simp -implicitDefEqProofs only [allR_ok, allR_nil, ok_bind, b2_ok, asL_ok, retR_ok, finR_rt, seqR_nx, seqR_rt, onlyR_rt, boolD_bool, truD_bool, nt_ok, Bool.not_true, Bool.not_false, Bool.false_eq_true, if_true, if_false, ↓reduceIte, decide_true, decide_false, orR_t, orR_f, andR_t, andR_f, andV_t, andV_f, orV_t, orV_f, notV_bool, ite3_t, ite3_f, cel_t, cel_f, partI, tD0, tD1, tD2, tD3, tD4, tD5, lD0, lD1, lD2, lD3, unp2_mk, unp3_mk, unp4_mk, unp5_mk, seq_list, seq_tup, seqE_list, seqE_tup, c_tn, c_ps, c_last, c_ts, t_n, t_ws, s_0, s_1, eqB, neB, lenL, eq0N, q, pl_at h]
  · simp -implicitDefEqProofs only [allR_ok, allR_nil, ok_bind, b2_ok, asL_ok, retR_ok, finR_rt, seqR_nx, seqR_rt, onlyR_rt, boolD_bool, truD_bool, nt_ok, Bool.not_true, Bool.not_false, Bool.false_eq_true, if_true, if_false, ↓reduceIte, decide_true, decide_false, orR_t, orR_f, andR_t, andR_f, andV_t, andV_f, orV_t, orV_f, notV_bool, ite3_t, ite3_f, cel_t, cel_f, partI, tD0, tD1, tD2, tD3, tD4, tD5, lD0, lD1, lD2, lD3, unp2_mk, unp3_mk, unp4_mk, unp5_mk, seq_list, seq_tup, seqE_list, seqE_tup, c_tn, c_ps, c_last, c_ts, t_n, t_ws, s_0, s_1, eqB, neB, lenL, eq0N, q, gr_at h]
theorem step_place {t : Twn} (h : TwnOk t) {s x y : Std} (hx : x ∈ stepsT t s) (hy : y ∈ stepsT t s) (e : x.1 = y.1) : x = y := by
  unfold stepsT at hx hy
  by_cases h0 : 0 < s.2
  · rw [if_pos h0] at hx hy
    rw [List.mem_singleton.mp hx, List.mem_singleton.mp hy]
  · rw [if_neg h0] at hx hy
    rw [mem_srt, List.mem_cons] at hx hy
    have other : ∀ {z : Std} {a : Nat × Nat × Nat}, a ∈ t.ws → via s a = some z → (a.1 = s.1 ∧ a.2.1 = z.1 ∧ z.2 = a.2.2 - 1 ∨ a.2.1 = s.1 ∧ a.1 = z.1 ∧ z.2 = a.2.2 - 1) ∧ z.1 ≠ s.1 := fun {z a} ha e => by
      obtain ⟨a1, _⟩ := h.way a ha
      unfold via at e
      split at e
      · cases e
        refine ⟨.inl ⟨by first | assumption | (symm; assumption), rfl, rfl⟩, ?_⟩
        show a.2.1 ≠ s.1
        omega
      · split at e
        · cases e
          refine ⟨.inr ⟨by first | assumption | (symm; assumption), rfl, rfl⟩, ?_⟩
          show a.1 ≠ s.1
          omega
        · cases e
    rcases hx with hx | hx <;> rcases hy with hy | hy
    · rw [hx, hy]
    · obtain ⟨a, ha, ea⟩ := List.mem_filterMap.mp hy
      exact absurd (e.symm.trans (by rw [hx])) (other ha ea).2
    · obtain ⟨a, ha, ea⟩ := List.mem_filterMap.mp hx
      exact absurd (e.trans (by rw [hy])) (other ha ea).2
    · obtain ⟨a, ha, ea⟩ := List.mem_filterMap.mp hx
      obtain ⟨b, hb, eb⟩ := List.mem_filterMap.mp hy
      obtain ⟨a1, _⟩ := h.way a ha
      obtain ⟨b1, _⟩ := h.way b hb
      obtain ⟨o1, _⟩ := other ha ea
      obtain ⟨o2, _⟩ := other hb eb
      have same : a.1 = b.1 ∧ a.2.1 = b.2.1 := by omega
      have ab : a = b := Classical.byContradiction fun ne => by
        obtain ⟨i, hi⟩ := List.mem_iff_getElem?.mp ha
        obtain ⟨j, hj⟩ := List.mem_iff_getElem?.mp hb
        have pw := List.pairwise_iff_getElem.mp (ways_nodup h)
        obtain ⟨i1, i2⟩ := List.getElem?_eq_some_iff.mp hi
        obtain ⟨j1, j2⟩ := List.getElem?_eq_some_iff.mp hj
        rcases Nat.lt_trichotomy i j with z | z | z
        · have := pw i j i1 j1 z
          rw [i2, j2] at this
          exact this same
        · subst z
          exact ne (i2.symm.trans j2)
        · have := pw j i j1 i1 z
          rw [i2, j2] at this
          exact this ⟨same.1.symm, same.2.symm⟩
      subst ab
      exact Prod.ext e (by omega)
theorem sgn_inj {t : Twn} (h : TwnOk t) {s x y : Std} (hx : x ∈ stepsT t s) (hy : y ∈ stepsT t s) (lx : x.1 < 5) (ly : y.1 < 5) (e : sgn x = sgn y) : x = y := by
  refine step_place h hx hy ?_
  unfold sgn at e
  split at e <;> split at e <;> omega
theorem day_small {n : Nat} (hn : n ≤ 5) {d : Day} (h : ∀ s ∈ d, s.1 < n ∧ s.2 ≤ 3) : ∀ x ∈ dayL d, x < 1000 := fun x hx => by
  obtain ⟨s, hs, rfl⟩ := List.mem_map.mp hx
  exact sgn_small (by have := (h s hs).1; omega)
theorem day_text_enc {c : Cs} (hc : CsOk c) {d : Day} (hd : DayOk c.tn c.last d) : F_day_text [eCs c, eDay d] = .ok (.str (S (dayL d))) := by
  rw [F_day_text_eq]
  unfold m_day_text
  have h5 := hc.tn.n5
  have h9 := hc.l9
  have hl := hd.len
  simp -implicitDefEqProofs only [allR_ok, allR_nil, ok_bind, b2_ok, asL_ok, retR_ok, finR_rt, seqR_nx, seqR_rt, onlyR_rt, boolD_bool, truD_bool, nt_ok, Bool.not_true, Bool.not_false, Bool.false_eq_true, if_true, if_false, ↓reduceIte, decide_true, decide_false, orR_t, orR_f, andR_t, andR_f, andV_t, andV_f, orV_t, orV_f, notV_bool, ite3_t, ite3_f, cel_t, cel_f, partI, tD0, tD1, tD2, tD3, tD4, tD5, lD0, lD1, lD2, lD3, unp2_mk, unp3_mk, unp4_mk, unp5_mk, seq_list, seq_tup, seqE_list, seqE_tup, c_tn, c_ps, c_last, c_ts, t_n, t_ws, s_0, s_1, eqB, neB, lenL, need_case_enc hc, is_day_enc hc hd, show seqOf (eDay d) = .ok (d.map eStd) from rfl]
  rw [comR_enc (e := eStd) (e' := fun l => PyData.str (S l)) (f := fun s => [sgn s]) (bigN (by omega)) fun s hs => by
    simp -implicitDefEqProofs only [allR_ok, allR_nil, ok_bind, b2_ok, asL_ok, retR_ok, finR_rt, seqR_nx, seqR_rt, onlyR_rt, boolD_bool, truD_bool, nt_ok, Bool.not_true, Bool.not_false, Bool.false_eq_true, if_true, if_false, ↓reduceIte, decide_true, decide_false, orR_t, orR_f, andR_t, andR_f, andV_t, andV_f, orV_t, orV_f, notV_bool, ite3_t, ite3_f, cel_t, cel_f, partI, tD0, tD1, tD2, tD3, tD4, tD5, lD0, lD1, lD2, lD3, unp2_mk, unp3_mk, unp4_mk, unp5_mk, seq_list, seq_tup, seqE_list, seqE_tup, c_tn, c_ps, c_last, c_ts, t_n, t_ws, s_0, s_1, eqB, neB, lenL, sign_of_enc (show s.1 < 5 by have := (hd.std s hs).1; omega)]]
  have fl : ∀ d : Day, (d.map fun s => [sgn s]).flatten = dayL d := fun d => by
    induction d with
    | nil => rfl
    | cons x xs ih => rw [List.map_cons, List.flatten_cons, ih]; rfl
  have ct := catS (ps := d.map fun s => [sgn s]) (by
    refine Nat.le_trans (sum_le (B := 1) fun p hp => ?_) ?_
    · obtain ⟨s, _, rfl⟩ := List.mem_map.mp hp
      simp
    · rw [List.length_map]; omega)
  rw [fl] at ct
  simp -implicitDefEqProofs only [allR_ok, allR_nil, ok_bind, b2_ok, asL_ok, retR_ok, finR_rt, seqR_nx, seqR_rt, onlyR_rt, boolD_bool, truD_bool, nt_ok, Bool.not_true, Bool.not_false, Bool.false_eq_true, if_true, if_false, ↓reduceIte, decide_true, decide_false, orR_t, orR_f, andR_t, andR_f, andV_t, andV_f, orV_t, orV_f, notV_bool, ite3_t, ite3_f, cel_t, cel_f, partI, tD0, tD1, tD2, tD3, tD4, tD5, lD0, lD1, lD2, lD3, unp2_mk, unp3_mk, unp4_mk, unp5_mk, seq_list, seq_tup, seqE_list, seqE_tup, c_tn, c_ps, c_last, c_ts, t_n, t_ws, s_0, s_1, eqB, neB, lenL, s_no, onS_str, ct]
theorem cut_from {l : List Nat} (h : l.length ≤ 100000) (k : Nat) : sl3S (.ok (.str (S l))) (.ok (some (k : Int))) (.ok none) = .ok (.str (S (l.drop k))) := by
  show (if (S l).length ≤ sizeLine then Res.ok (PyData.str (L2.cutS (S l) (some (k : Int)) none)) else .stuck) = _
  rw [if_pos (by rw [S_len, sizeLine_eq]; omega)]
  congr 2
  unfold L2.cutS
  rw [HT.sIx_nat, HT.sIx_none, S_len]
  show S ((l.drop (min k l.length)).take (l.length - min k l.length)) = _
  congr 1
  rcases Nat.le_total k l.length with q | q
  · rw [Nat.min_eq_left q, List.take_of_length_le (by rw [List.length_drop]; omega)]
  · rw [Nat.min_eq_right q, List.drop_length, List.drop_eq_nil_of_le q, List.take_nil]
theorem cut_to {l : List Nat} (h : l.length ≤ 100000) (k : Nat) : sl3S (.ok (.str (S l))) (.ok none) (.ok (some (k : Int))) = .ok (.str (S (l.take k))) := by
  show (if (S l).length ≤ sizeLine then Res.ok (PyData.str (L2.cutS (S l) none (some (k : Int)))) else .stuck) = _
  rw [if_pos (by rw [S_len, sizeLine_eq]; omega)]
  congr 2
  unfold L2.cutS
  rw [HT.sIx_nat, HT.sIx_none, S_len]
  show S ((l.drop 0).take (min k l.length - 0)) = _
  congr 1
  rw [List.drop_zero, Nat.sub_zero, List.take_eq_take_iff]
  omega
theorem cut_m1S {l : List Nat} (h : l.length ≤ 100000) : sl3S (.ok (.str (S l))) (.ok none) (.ok (some (-1))) = .ok (.str (S (l.take (l.length - 1)))) := by
  show (if (S l).length ≤ sizeLine then Res.ok (PyData.str (L2.cutS (S l) none (some (-1)))) else .stuck) = _
  rw [if_pos (by rw [S_len, sizeLine_eq]; omega)]
  congr 2
  unfold L2.cutS
  rw [S_len, HT.sIx_none]
  show S ((l.drop 0).take (((-1 : Int) + (l.length : Int)).toNat - 0)) = _
  congr 1
  rw [List.drop_zero, Nat.sub_zero]
  congr 1
  omega
theorem ixZ (n : Nat) : ixN (n + 1) 0 = some 0 := by
  unfold ixN
  rw [if_pos (by decide), if_pos (by omega)]
  rfl
theorem hd_str {a : Nat} {l : List Nat} (h : l.length ≤ 100000) : idxD (.str (S (a :: l))) (.int 0) = .ok (.str (S [a])) := by
  show (if (S (a :: l)).length ≤ sizeLine then match L2.atI (a :: l) 0 with | some c => Res.ok (PyData.str ⟨#[c]⟩) | none => .stuck else .stuck) = _
  have e : L2.atI (a :: l) 0 = some a := by
    unfold L2.atI
    rw [List.length_cons, ixZ]
    rfl
  rw [if_pos (by rw [S_len, sizeLine_eq, List.length_cons]; omega), e]
  rfl
theorem in_pl {n p : Nat} (hn : n ≤ 5) (hp : p < n) : notInD (.str (S [97 + p])) (.str (S (plL n))) = .ok (.bool false) := by
  have : ∀ n : Fin 6, ∀ p : Fin 5, p.val < n.val → (match notInD (.str (S [97 + p.val])) (.str (S (plL n.val))) with | .ok (.bool b) => !b | _ => false) = true := by decide +kernel
  have := this ⟨n, by omega⟩ ⟨p, by omega⟩ hp
  revert this
  generalize notInD (.str (S [97 + p])) (.str (S (plL n))) = r
  intro h
  match r, h with
  | .ok (.bool false), _ => rfl
theorem ix_pl {p : Nat} (hp : p < 5) : sidxD (.str "abcde") (.str (S [97 + p])) = .ok (.int (p : Int)) := by
  have : ∀ p : Fin 5, (match sidxD (.str "abcde") (.str (S [97 + p.val])) with | .ok (.int i) => decide (i = ((p.val : Nat) : Int)) | _ => false) = true := by decide +kernel
  exact res_int (this ⟨p, hp⟩)
/-- the stands of the rest of a text -/
theorem read_loop {t : Twn} (ht : TwnOk t) {f : PyData → List PyData → Res (Out (List PyData))}
    (hf : ∀ (L : List Std) (s x : Std), L.length ≤ 100 → x ∈ stepsT t s → (∀ y ∈ stepsT t s, y.1 < 5) → f (.str (S [sgn x])) ((L ++ [s]).map eStd) = .ok (.nx ((L ++ [s] ++ [x]).map eStd))) :
    ∀ (rest L : List Std) (s : Std), L.length + rest.length ≤ 100 → (∀ y ∈ s :: rest, ∀ z ∈ stepsT t y, z.1 < 5) → (∀ i a b, (s :: rest)[i]? = some a → (s :: rest)[i + 1]? = some b → b ∈ stepsT t a) →
      forD (rest.map fun x => PyData.str (S [sgn x])) ((L ++ [s]).map eStd) f = .ok (.nx ((L ++ [s] ++ rest).map eStd))
  | [], L, s, _, _, _ => by rw [List.append_nil]; rfl
  | x :: rest, L, s, hl, h5, go => by
    rw [List.length_cons] at hl
    have hx : x ∈ stepsT t s := go 0 s x rfl rfl
    rw [List.map_cons, forD_cons, hf L s x (by omega) hx (h5 s List.mem_cons_self), seqR_nx]
    have := read_loop ht hf rest (L ++ [s]) x (by rw [List.length_append, List.length_singleton]; omega) (fun y hy => h5 y (List.mem_cons_of_mem _ hy)) fun i a b h1 h2 => go (i + 1) a b h1 h2
    rw [this]
    simp
theorem isi_S (l : List Nat) : isiD "str" (.str (S l)) = .ok (.bool true) := rfl
theorem read_day_enc {c : Cs} (hc : CsOk c) {d : Day} (hd : DayOk c.tn c.last d) : F_read_day [eCs c, .str (S (dayL d))] = .ok (eDay d) := by
  rw [F_read_day_eq]
  unfold m_read_day
  have h5 := hc.tn.n5
  have h9 := hc.l9
  have hl := hd.len
  obtain ⟨s, rest, rfl⟩ : ∃ s rest, d = s :: rest := by
    cases d with
    | nil => simp at hl
    | cons s rest => exact ⟨s, rest, rfl⟩
  have hs := hd.std s List.mem_cons_self
  have h0 := hd.hd s rfl
  rw [List.length_cons] at hl
  have esg : sgn s = 97 + s.1 := by unfold sgn; rw [if_pos h0]
  have el : lenC [.str (S (dayL (s :: rest)))] = .ok (.int ((c.last + 1 : Nat) : Int)) := by
    rw [lenS_S (by unfold dayL; rw [List.length_map, List.length_cons]; omega)]
    unfold dayL
    rw [List.length_map, List.length_cons]
    congr 2
    omega
  have nl : neD (.int ((c.last + 1 : Nat) : Int)) (.int ((c.last + 1 : Nat) : Int)) = .ok (.bool false) := by rw [neN]; simp
  have hi : idxD (.str (S (dayL (s :: rest)))) (.int 0) = .ok (.str (S [97 + s.1])) := by
    rw [← esg]
    exact hd_str (by rw [List.length_map]; omega)
  have cf : sl3S (.ok (.str (S (dayL (s :: rest))))) (.ok (some 1)) (.ok none) = .ok (.str (S (dayL rest))) := cut_from (l := dayL (s :: rest)) (by unfold dayL; rw [List.length_map, List.length_cons]; omega) 1
  have sq : seqS (.str (S (dayL rest))) = .ok (rest.map fun x => PyData.str (S [sgn x])) := by
    show Res.ok ((dayL rest).map fun c => PyData.str ⟨#[c]⟩) = _
    unfold dayL
    rw [List.map_map]
    rfl
  have es : PyData.tuple [.int (s.1 : Int), .int 0] = eStd s := by
    show _ = PyData.tuple [.int (s.1 : Int), .int (s.2 : Int)]
    rw [h0]
    rfl
  simp -implicitDefEqProofs only [allR_ok, allR_nil, ok_bind, b2_ok, asL_ok, retR_ok, finR_rt, seqR_nx, seqR_rt, onlyR_rt, boolD_bool, truD_bool, nt_ok, Bool.not_true, Bool.not_false, Bool.false_eq_true, if_true, if_false, ↓reduceIte, decide_true, decide_false, orR_t, orR_f, andR_t, andR_f, andV_t, andV_f, orV_t, orV_f, notV_bool, ite3_t, ite3_f, cel_t, cel_f, partI, tD0, tD1, tD2, tD3, tD4, tD5, lD0, lD1, lD2, lD3, unp2_mk, unp3_mk, unp4_mk, unp5_mk, seq_list, seq_tup, seqE_list, seqE_tup, c_tn, c_ps, c_last, c_ts, t_n, t_ws, s_0, s_1, eqB, neB, lenL, need_case_enc hc, isi_S, el, add1N, nl, hi, pl_to h5, in_pl h5 hs.1, onS_str, ix_pl (show s.1 < 5 by omega), cf, sq, es]
  rw [show ([eStd s] : List PyData) = ([] ++ [s]).map eStd from rfl, read_loop hc.tn (L := []) (s := s) (rest := rest)]
  · rfl
  · intro L s' x hL hx h5'
    have il : idxD (.list ((L ++ [s']).map eStd)) (.int (-1)) = .ok (eStd s') := idx_lastL (by rw [List.map_append]; simp)
    simp -implicitDefEqProofs only [allR_ok, allR_nil, ok_bind, b2_ok, asL_ok, retR_ok, finR_rt, seqR_nx, seqR_rt, onlyR_rt, boolD_bool, truD_bool, nt_ok, Bool.not_true, Bool.not_false, Bool.false_eq_true, if_true, if_false, ↓reduceIte, decide_true, decide_false, orR_t, orR_f, andR_t, andR_f, andV_t, andV_f, orV_t, orV_f, notV_bool, ite3_t, ite3_f, cel_t, cel_f, partI, tD0, tD1, tD2, tD3, tD4, tD5, lD0, lD1, lD2, lD3, unp2_mk, unp3_mk, unp4_mk, unp5_mk, seq_list, seq_tup, seqE_list, seqE_tup, c_tn, c_ps, c_last, c_ts, t_n, t_ws, s_0, s_1, eqB, neB, lenL, neg1, il, steps_enc hc.tn]
    rw [comR_fil2 (q := fun y : Std => decide (sgn y = sgn x)) (bigN (by
      have := steps_len c.tn s'
      have := hc.tn.len
      omega)) fun y hy => by
      simp -implicitDefEqProofs only [allR_ok, allR_nil, ok_bind, b2_ok, asL_ok, retR_ok, finR_rt, seqR_nx, seqR_rt, onlyR_rt, boolD_bool, truD_bool, nt_ok, Bool.not_true, Bool.not_false, Bool.false_eq_true, if_true, if_false, ↓reduceIte, decide_true, decide_false, orR_t, orR_f, andR_t, andR_f, andV_t, andV_f, orV_t, orV_f, notV_bool, ite3_t, ite3_f, cel_t, cel_f, partI, tD0, tD1, tD2, tD3, tD4, tD5, lD0, lD1, lD2, lD3, unp2_mk, unp3_mk, unp4_mk, unp5_mk, seq_list, seq_tup, seqE_list, seqE_tup, c_tn, c_ps, c_last, c_ts, t_n, t_ws, s_0, s_1, eqB, neB, lenL, sign_of_enc (h5' y hy), eqS (a := [sgn y]) (b := [sgn x]) (by simp; exact sgn_small (h5' y hy)) (by simp; exact sgn_small (h5' x hx))]
      by_cases q : sgn y = sgn x <;> simp [q]]
    have fl : (stepsT c.tn s').filter (fun y => decide (sgn y = sgn x)) = [x] := by
      have h1 : x ∈ (stepsT c.tn s').filter (fun y => decide (sgn y = sgn x)) := List.mem_filter.mpr ⟨hx, decide_eq_true rfl⟩
      have h2 : ∀ y ∈ (stepsT c.tn s').filter (fun y => decide (sgn y = sgn x)), y = x := fun y hy => by
        obtain ⟨y1, y2⟩ := List.mem_filter.mp hy
        exact sgn_inj hc.tn y1 hx (h5' y y1) (h5' x hx) (of_decide_eq_true y2)
      have nd : ((stepsT c.tn s').filter (fun y => decide (sgn y = sgn x))).Nodup := (stepsT_nodup hc.tn s').sublist List.filter_sublist
      generalize (stepsT c.tn s').filter (fun y => decide (sgn y = sgn x)) = L at h1 h2 nd
      match L, h1, h2, nd with
      | [z], _, h2, _ => rw [h2 z List.mem_cons_self]
      | z :: y :: r, _, h2, nd =>
        have a := h2 z List.mem_cons_self
        have b := h2 y (List.mem_cons_of_mem _ List.mem_cons_self)
        exact absurd (a.trans b.symm) ((List.pairwise_cons.mp nd).1 y List.mem_cons_self)
    rw [fl]
    have i0 : idxD (.list ([x].map eStd)) (.int 0) = .ok (eStd x) := rfl
    have en : eqD (.list ([x].map eStd)) (.list []) = .ok (.bool false) := cod_std.eqNil (show 1 ≤ 59 by decide) [x]
    simp -implicitDefEqProofs only [allR_ok, allR_nil, ok_bind, b2_ok, asL_ok, retR_ok, finR_rt, seqR_nx, seqR_rt, onlyR_rt, boolD_bool, truD_bool, nt_ok, Bool.not_true, Bool.not_false, Bool.false_eq_true, if_true, if_false, ↓reduceIte, decide_true, decide_false, orR_t, orR_f, andR_t, andR_f, andV_t, andV_f, orV_t, orV_f, notV_bool, ite3_t, ite3_f, cel_t, cel_f, partI, tD0, tD1, tD2, tD3, tD4, tD5, lD0, lD1, lD2, lD3, unp2_mk, unp3_mk, unp4_mk, unp5_mk, seq_list, seq_tup, seqE_list, seqE_tup, c_tn, c_ps, c_last, c_ts, t_n, t_ws, s_0, s_1, eqB, neB, lenL, en, i0, appR_ok (show ((L ++ [s']).map eStd).length < sizeLine by rw [List.length_map, List.length_append, sizeLine_eq]; simp; omega)]
    rw [List.map_append (l₁ := L ++ [s'])]
    rfl
  · show 0 + rest.length ≤ 100
    omega
  · intro y hy z hz
    have := (steps_in hc.tn (hd.std y hy) hz).1
    omega
  · exact hd.go
/-- a text that is none, by its size or its first sign -/
theorem read_day_size {c : Cs} (hc : CsOk c) {l : List Nat} (hl : l.length ≤ 100000) (h : l.length ≠ c.last + 1) : F_read_day [eCs c, .str (S l)] = .err "NoText" := by
  rw [F_read_day_eq]
  unfold m_read_day
  have e : neD (.int (l.length : Int)) (.int ((c.last + 1 : Nat) : Int)) = .ok (.bool true) := by rw [neN]; simp [h]
  simp -implicitDefEqProofs only [allR_ok, allR_nil, ok_bind, b2_ok, asL_ok, retR_ok, finR_rt, seqR_nx, seqR_rt, onlyR_rt, boolD_bool, truD_bool, nt_ok, Bool.not_true, Bool.not_false, Bool.false_eq_true, if_true, if_false, ↓reduceIte, decide_true, decide_false, orR_t, orR_f, andR_t, andR_f, andV_t, andV_f, orV_t, orV_f, notV_bool, ite3_t, ite3_f, cel_t, cel_f, partI, tD0, tD1, tD2, tD3, tD4, tD5, lD0, lD1, lD2, lD3, unp2_mk, unp3_mk, unp4_mk, unp5_mk, seq_list, seq_tup, seqE_list, seqE_tup, c_tn, c_ps, c_last, c_ts, t_n, t_ws, s_0, s_1, eqB, neB, lenL, need_case_enc hc, isi_S, lenS_S (show l.length ≤ 1000000 by omega), add1N, e]
  rfl
def rowW (i : Nat) (d : Day) : List Nat := (88 + i) :: 32 :: dayL d
def rowsW (w : Wld) : List (List Nat) := w.zipIdx.map fun p => rowW p.2 p.1
def wldT (w : Wld) : List Nat := linesL 10 (rowsW w)
theorem wrow {c : Cs} (hc : CsOk c) {w : Wld} (h : WldOk c w) : ∀ p ∈ w.zipIdx, DayOk c.tn c.last p.1 ∧ p.2 < c.ps := fun p hp => by
  obtain ⟨d, i⟩ := p
  have hp := List.mem_zipIdx_iff_getElem?.mp hp
  obtain ⟨h1, h2⟩ := List.getElem?_eq_some_iff.mp hp
  exact ⟨h.day _ (List.mem_of_getElem? hp), by have := h.len; show i < c.ps; omega⟩
theorem row_length {c : Cs} (hc : CsOk c) {w : Wld} (h : WldOk c w) : ∀ l ∈ rowsW w, l.length ≤ 12 := fun l hl => by
  obtain ⟨p, hp, rfl⟩ := List.mem_map.mp hl
  have := (wrow hc h p hp).1.len
  have := hc.l9
  unfold rowW dayL
  rw [List.length_cons, List.length_cons, List.length_map]
  omega
theorem row_nl {c : Cs} (hc : CsOk c) {w : Wld} (h : WldOk c w) : ∀ l ∈ rowsW w, 10 ∉ l ∧ ∀ x ∈ l, x < 1000 := fun l hl => by
  obtain ⟨p, hp, rfl⟩ := List.mem_map.mp hl
  obtain ⟨h1, h2⟩ := wrow hc h p hp
  have h5 := hc.tn.n5
  have h3 := hc.p3
  have key : ∀ x ∈ rowW p.2 p.1, x ≠ 10 ∧ x < 1000 := fun x hx => by
    unfold rowW at hx
    rcases List.mem_cons.mp hx with rfl | hx
    · omega
    · rcases List.mem_cons.mp hx with rfl | hx
      · omega
      · obtain ⟨s, hs, rfl⟩ := List.mem_map.mp hx
        have := (h1.std s hs).1
        unfold sgn
        split <;> omega
  exact ⟨fun z => (key 10 z).1 rfl, fun x hx => (key x hx).2⟩
theorem world_text_enc {c : Cs} (hc : CsOk c) {w : Wld} (h : WldOk c w) : F_world_text [eCs c, eWld w] = .ok (.str (S (wldT w))) := by
  rw [F_world_text_eq]
  unfold m_world_text
  have h3 := hc.p3
  have hl := h.len
  have h9 := hc.l9
  simp -implicitDefEqProofs only [allR_ok, allR_nil, ok_bind, b2_ok, asL_ok, retR_ok, finR_rt, seqR_nx, seqR_rt, onlyR_rt, boolD_bool, truD_bool, nt_ok, Bool.not_true, Bool.not_false, Bool.false_eq_true, if_true, if_false, ↓reduceIte, decide_true, decide_false, orR_t, orR_f, andR_t, andR_f, andV_t, andV_f, orV_t, orV_f, notV_bool, ite3_t, ite3_f, cel_t, cel_f, partI, tD0, tD1, tD2, tD3, tD4, tD5, lD0, lD1, lD2, lD3, unp2_mk, unp3_mk, unp4_mk, unp5_mk, seq_list, seq_tup, seqE_list, seqE_tup, c_tn, c_ps, c_last, c_ts, t_n, t_ws, s_0, s_1, eqB, neB, lenL, need_case_enc hc, need_world_enc hc h, show enumE [eWld w] = .ok ((w.zipIdx).map fun p => .tuple [.int (p.2 : Int), eDay p.1]) from enum_map eDay w]
  rw [comR_enc (e := fun p : Day × Nat => PyData.tuple [.int (p.2 : Int), eDay p.1]) (e' := fun l => PyData.str (S l)) (f := fun p => rowW p.2 p.1 ++ [10]) (bigN (by rw [List.length_zipIdx]; omega)) fun p hp => by
    obtain ⟨h1, h2⟩ := wrow hc h p hp
    have dl : (dayL p.1).length ≤ 10 := by unfold dayL; rw [List.length_map, h1.len]; omega
    simp -implicitDefEqProofs only [allR_ok, allR_nil, ok_bind, b2_ok, asL_ok, retR_ok, finR_rt, seqR_nx, seqR_rt, onlyR_rt, boolD_bool, truD_bool, nt_ok, Bool.not_true, Bool.not_false, Bool.false_eq_true, if_true, if_false, ↓reduceIte, decide_true, decide_false, orR_t, orR_f, andR_t, andR_f, andV_t, andV_f, orV_t, orV_f, notV_bool, ite3_t, ite3_f, cel_t, cel_f, partI, tD0, tD1, tD2, tD3, tD4, tD5, lD0, lD1, lD2, lD3, unp2_mk, unp3_mk, unp4_mk, unp5_mk, seq_list, seq_tup, seqE_list, seqE_tup, c_tn, c_ps, c_last, c_ts, t_n, t_ws, s_0, s_1, eqB, neB, lenL, nm_at (show p.2 < 3 by omega), s_sp, s_nl, day_text_enc hc h1, addX (a := [88 + p.2]) (b := [32]) (by simp), addX (a := [88 + p.2] ++ [32]) (b := dayL p.1) (by simp; omega), addX (a := [88 + p.2] ++ [32] ++ dayL p.1) (b := [10]) (by simp; omega)]
    rfl]
  have ct := catS (ps := w.zipIdx.map fun p => rowW p.2 p.1 ++ [10]) (by
    refine Nat.le_trans (sum_le (B := 13) fun l hl => ?_) ?_
    · obtain ⟨p, hp, rfl⟩ := List.mem_map.mp hl
      have := row_length hc h _ (List.mem_map.mpr ⟨p, hp, rfl⟩)
      rw [List.length_append]
      simp
      omega
    · rw [List.length_map, List.length_zipIdx]; omega)
  have fl : (w.zipIdx.map fun p => rowW p.2 p.1 ++ [10]).flatten = wldT w := by
    unfold wldT rowsW
    rw [← lines_flat, List.map_map]
    rfl
  rw [fl] at ct
  simp -implicitDefEqProofs only [allR_ok, allR_nil, ok_bind, b2_ok, asL_ok, retR_ok, finR_rt, seqR_nx, seqR_rt, onlyR_rt, boolD_bool, truD_bool, nt_ok, Bool.not_true, Bool.not_false, Bool.false_eq_true, if_true, if_false, ↓reduceIte, decide_true, decide_false, orR_t, orR_f, andR_t, andR_f, andV_t, andV_f, orV_t, orV_f, notV_bool, ite3_t, ite3_f, cel_t, cel_f, partI, tD0, tD1, tD2, tD3, tD4, tD5, lD0, lD1, lD2, lD3, unp2_mk, unp3_mk, unp4_mk, unp5_mk, seq_list, seq_tup, seqE_list, seqE_tup, c_tn, c_ps, c_last, c_ts, t_n, t_ws, s_0, s_1, eqB, neB, lenL, s_no, onS_str, ct]
theorem world_len {c : Cs} (hc : CsOk c) {w : Wld} (h : WldOk c w) : (wldT w).length ≤ 1000 := by
  have key : ∀ ps : List (List Nat), (∀ p ∈ ps, p.length ≤ 12) → (linesL 10 ps).length ≤ 13 * ps.length := fun ps => by
    induction ps with
    | nil => exact fun _ => Nat.le_refl _
    | cons p ps ih =>
      intro hp
      have := hp p List.mem_cons_self
      have := ih fun x hx => hp x (List.mem_cons_of_mem _ hx)
      show (p ++ 10 :: linesL 10 ps).length ≤ _
      rw [List.length_append, List.length_cons, List.length_cons]
      omega
  have := key (rowsW w) (row_length hc h)
  have h2 : (rowsW w).length = w.length := by unfold rowsW; rw [List.length_map, List.length_zipIdx]
  have := h.len
  have := hc.p3
  unfold wldT
  omega
theorem world_lines {c : Cs} (hc : CsOk c) {w : Wld} (h : WldOk c w) : sl3 (asL (splitD (.str (S (wldT w))) (.str (S [10])))) (.ok none) (.ok (some (-1))) = .ok (.list ((rowsW w).map fun l => PyData.str (S l))) := by
  rw [splitS (by decide) (by have := world_len hc h; omega), show splitL 10 (wldT w) = rowsW w ++ [[]] from split_lines fun p hp => (row_nl hc h p hp).1]
  exact slL_m1 (e := fun l => PyData.str (S l)) (rowsW w) []
theorem read_world_enc {c : Cs} (hc : CsOk c) {w : Wld} (h : WldOk c w) : F_read_world [eCs c, .str (S (wldT w))] = .ok (eWld w) := by
  rw [F_read_world_eq]
  unfold m_read_world
  have h3 := hc.p3
  have hl := h.len
  have h9 := hc.l9
  have wl := world_len hc h
  have hr : (rowsW w).length = c.ps := by unfold rowsW; rw [List.length_map, List.length_zipIdx, hl]
  have nl : neD (.int (c.ps : Int)) (.int (c.ps : Int)) = .ok (.bool false) := by rw [neN]; simp
  have ln : lenC [.list ((rowsW w).map fun l => PyData.str (S l))] = .ok (.int (c.ps : Int)) := by
    show Res.ok (PyData.int (((rowsW w).map fun l => PyData.str (S l)).length : Int)) = _
    rw [List.length_map, hr]
  have sm : ∀ x ∈ wldT w, x < 1000 := lines_small fun p hp => (row_nl hc h p hp).2
  have ne := neS sm sm
  simp -implicitDefEqProofs only [allR_ok, allR_nil, ok_bind, b2_ok, asL_ok, retR_ok, finR_rt, seqR_nx, seqR_rt, onlyR_rt, boolD_bool, truD_bool, nt_ok, Bool.not_true, Bool.not_false, Bool.false_eq_true, if_true, if_false, ↓reduceIte, decide_true, decide_false, orR_t, orR_f, andR_t, andR_f, andV_t, andV_f, orV_t, orV_f, notV_bool, ite3_t, ite3_f, cel_t, cel_f, partI, tD0, tD1, tD2, tD3, tD4, tD5, lD0, lD1, lD2, lD3, unp2_mk, unp3_mk, unp4_mk, unp5_mk, seq_list, seq_tup, seqE_list, seqE_tup, c_tn, c_ps, c_last, c_ts, t_n, t_ws, s_0, s_1, eqB, neB, lenL, need_case_enc hc, isi_S, s_nl, onS_str, neg1, world_lines hc h, ln, nl]
  have cm : comR (.ok ((rowsW w).map fun l => PyData.str (S l))) (fun d_5 => cel (.ok true) ((allR [sl3S (.ok d_5) (.ok (some 2)) (.ok none)] >>= fun ds => Res.ok (eCs c :: ds)) >>= F_read_day)) = .ok (w.map eDay) := by
    show comR (.ok ((w.zipIdx.map fun p => rowW p.2 p.1).map fun l => PyData.str (S l))) _ = _
    rw [List.map_map, comR_enc (e := (fun l => PyData.str (S l)) ∘ fun p : Day × Nat => rowW p.2 p.1) (e' := eDay) (f := fun p => p.1) (bigN (by rw [List.length_zipIdx]; omega)) fun p hp => by
      obtain ⟨h1, h2⟩ := wrow hc h p hp
      have cf : sl3S (.ok (.str (S (rowW p.2 p.1)))) (.ok (some 2)) (.ok none) = .ok (.str (S (dayL p.1))) := cut_from (l := rowW p.2 p.1) (by have := row_length hc h _ (List.mem_map.mpr ⟨p, hp, rfl⟩); omega) 2
      simp -implicitDefEqProofs only [allR_ok, allR_nil, ok_bind, b2_ok, asL_ok, retR_ok, finR_rt, seqR_nx, seqR_rt, onlyR_rt, boolD_bool, truD_bool, nt_ok, Bool.not_true, Bool.not_false, Bool.false_eq_true, if_true, if_false, ↓reduceIte, decide_true, decide_false, orR_t, orR_f, andR_t, andR_f, andV_t, andV_f, orV_t, orV_f, notV_bool, ite3_t, ite3_f, cel_t, cel_f, partI, tD0, tD1, tD2, tD3, tD4, tD5, lD0, lD1, lD2, lD3, unp2_mk, unp3_mk, unp4_mk, unp5_mk, seq_list, seq_tup, seqE_list, seqE_tup, c_tn, c_ps, c_last, c_ts, t_n, t_ws, s_0, s_1, eqB, neB, lenL, Function.comp, cf, read_day_enc hc h1]]
    congr 1
    exact congrArg (List.map eDay) (List.zipIdx_map_fst 0 w)
  rw [comRX_ok cm]
  have ne1 : neD (.str (S (wldT w))) (.str (S (wldT w))) = .ok (.bool false) := by rw [ne]; simp
  simp -implicitDefEqProofs only [allR_ok, allR_nil, ok_bind, b2_ok, asL_ok, retR_ok, finR_rt, seqR_nx, seqR_rt, onlyR_rt, boolD_bool, truD_bool, nt_ok, Bool.not_true, Bool.not_false, Bool.false_eq_true, if_true, if_false, ↓reduceIte, decide_true, decide_false, orR_t, orR_f, andR_t, andR_f, andV_t, andV_f, orV_t, orV_f, notV_bool, ite3_t, ite3_f, cel_t, cel_f, partI, tD0, tD1, tD2, tD3, tD4, tD5, lD0, lD1, lD2, lD3, unp2_mk, unp3_mk, unp4_mk, unp5_mk, seq_list, seq_tup, seqE_list, seqE_tup, c_tn, c_ps, c_last, c_ts, t_n, t_ws, s_0, s_1, eqB, neB, lenL, show tupC [.list (w.map eDay)] = .ok (eWld w) from rfl, world_text_enc hc h, ne1]
end Lw
namespace Lw
open PySem PySem.Spec PyProof.Rows L2 Dt
def m_law_sign (law_stand_1 : PyData) : Res (Out Empty) :=
  (retR (b2 idxD (ite3 (b2 eqD (b2 idxD (.ok law_stand_1) (.ok (.int 1))) (.ok (.int 0)) >>= boolD) (.ok (.str "abcde")) (.ok (.str "ABCDE"))) (b2 idxD (.ok law_stand_1) (.ok (.int 0)))))
def g_law_sign : List PyData → Res (Out Empty)
  | [law_stand_1] => m_law_sign law_stand_1
  | _ => .stuck
def F_law_sign (ds : List PyData) : Res PyData := finR (g_law_sign ds)
theorem F_law_sign_eq (law_stand_1 : PyData) : F_law_sign [law_stand_1] = finR (m_law_sign law_stand_1) := rfl
abbrev CS_law : List Str := ["NoCase", "NoText"]
abbrev TS_law : List Str := ["NoCase", "NoText", "ValueError"]
def m_law_refused (law_e_1 : Str) : Res (Out Empty) :=
  (((allR [(.ok (.bool (isX law_e_1 "NoCase"))), (.ok (.bool (isX law_e_1 "NoText")))]) >>= lstD) >>= fun law_flags_2 => ((orR (b2 neD (onL cntD (.ok (.list law_flags_2)) (.ok (.bool true))) (.ok (.int 1)) >>= boolD) (nt ((.ok (.bool (isX law_e_1 "ValueError"))) >>= truD))) >>= fun z => if z = true then onlyR (retR ((allR [(.ok (.str "refused")), ((.ok (.int 1)) >>= negD)]) >>= tupD)) else (retR ((allR [(.ok (.str "refused")), (onL findD (.ok (.list law_flags_2)) (.ok (.bool true)))]) >>= tupD))))
def m_law_told (law_way_1 law_case_here_2 law_thing_3 : PyData) : Res (Out Empty) :=
  (tryR (inR CS_law m_law_refused) (retR ((.ok law_way_1) >>= callF [F_day_text, F_read_day, F_world_text, F_read_world] (allR [(.ok law_case_here_2), (.ok law_thing_3)]))))
def g_law_told : List PyData → Res (Out Empty)
  | [law_way_1, law_case_here_2, law_thing_3] => m_law_told law_way_1 law_case_here_2 law_thing_3
  | _ => .stuck
def F_law_told (ds : List PyData) : Res PyData := finR (g_law_told ds)
theorem F_law_told_eq (law_way_1 law_case_here_2 law_thing_3 : PyData) : F_law_told [law_way_1, law_case_here_2, law_thing_3] = finR (m_law_told law_way_1 law_case_here_2 law_thing_3) := rfl
def m_law_refuses (law_case_here_1 law_days_here_2 : PyData) : Res (Out Empty) :=
  ((((allR [(.ok .none), ((allR []) >>= tupD), (sl3 (b2 idxD (.ok law_days_here_2) (.ok (.int 0))) (.ok none) (((.ok (.int 1)) >>= negD) >>= partD)), (b2 addD (b2 idxD (.ok law_days_here_2) (.ok (.int 0))) (sl3 (b2 idxD (.ok law_days_here_2) (.ok (.int 0))) (.ok none) ((.ok (.int 1)) >>= partD))), (asL ((allR [(b2 idxD (.ok law_days_here_2) (.ok (.int 0)))]) >>= listC)), (b2 mulE ((allR [((allR [(.ok (.int 9)), (.ok (.int 0))]) >>= tupD)]) >>= tupD) ((allR [(b2 idxD (.ok law_days_here_2) (.ok (.int 0)))]) >>= lenC))]) >>= tupD) >>= seqOf) >>= fun ds => seqR (forD ds () fun d_4 (st_3 : Unit) => ((b2 neD ((allR [(.ok (.int 0)), (.ok law_case_here_1), (.ok d_4)]) >>= F_law_told) ((allR [(.ok (.str "refused")), (.ok (.int 0))]) >>= tupD) >>= boolD) >>= fun z => if z = true then onlyR (retR (.ok (.bool false))) else ((b2 neD ((allR [(.ok (.int 2)), (.ok law_case_here_1), (b2 mulE ((allR [(.ok d_4)]) >>= tupD) (b2 idxD (.ok law_case_here_1) (.ok (.int 1))))]) >>= F_law_told) ((allR [(.ok (.str "refused")), (.ok (.int 0))]) >>= tupD) >>= boolD) >>= fun z => if z = true then onlyR (retR (.ok (.bool false))) else (.ok (.nx ()))))) fun (st_3 : Unit) => (retR (b2 eqD (asL (comR ((allR [(.ok (.int 4))]) >>= rng1) (fun d_5 => cel (.ok true) ((allR [(.ok d_5), (sl3 (.ok law_case_here_1) (.ok none) ((.ok (.int 3)) >>= partD)), (.ok (.str "a"))]) >>= F_law_told)))) (b2 mulE (asL ((allR [((allR [(.ok (.str "refused")), (.ok (.int 0))]) >>= tupD)]) >>= lstD)) (.ok (.int 4))))))
def g_law_refuses : List PyData → Res (Out Empty)
  | [law_case_here_1, law_days_here_2] => m_law_refuses law_case_here_1 law_days_here_2
  | _ => .stuck
def F_law_refuses (ds : List PyData) : Res PyData := finR (g_law_refuses ds)
theorem F_law_refuses_eq (law_case_here_1 law_days_here_2 : PyData) : F_law_refuses [law_case_here_1, law_days_here_2] = finR (m_law_refuses law_case_here_1 law_days_here_2) := rfl
def m_law (law_script_1 : PyData) : Res (Out Empty) :=
  (((allR [(.ok law_script_1), (.ok (.int 0)), (.ok (.int 2))]) >>= F_law_case) >>= fun law_case_here_2 => (((allR [(b2 idxD (.ok law_case_here_2) (.ok (.int 0))), (b2 idxD (.ok law_case_here_2) (.ok (.int 2)))]) >>= F_law_days) >>= fun law_days_here_3 => ((comR ((.ok law_days_here_3) >>= seqOf) (fun d_5 => cel (.ok true) (onS joinD (.ok (.str "")) (asL (comR ((.ok d_5) >>= seqOf) (fun d_7 => cel (.ok true) ((allR [(.ok d_7)]) >>= F_law_sign))))))) >>= fun law_texts_4 => ((b2 neD ((.ok (.list law_texts_4)) >>= lenSetT) ((allR [(.ok law_days_here_3)]) >>= lenC) >>= boolD) >>= fun z => if z = true then onlyR (retR (.ok (.bool false))) else (((allR [(.ok (.int 6))]) >>= rng1) >>= fun ds => seqR (forD ds () fun d_10 (st_9 : Unit) => (((allR [(.ok law_script_1), (b2 addD (.ok (.int 80)) (b2 mulE (.ok (.int 4)) (.ok d_10))), ((allR [(.ok law_days_here_3)]) >>= lenC)]) >>= F_law_drawn) >>= fun law_number_11 => ((b2 neD ((allR [(.ok (.int 0)), (.ok law_case_here_2), (b2 idxD (.ok law_days_here_3) (.ok law_number_11))]) >>= F_law_told) (b2 idxD (.ok (.list law_texts_4)) (.ok law_number_11)) >>= boolD) >>= fun z => if z = true then onlyR (retR (.ok (.bool false))) else ((b2 neD ((allR [(.ok (.int 1)), (.ok law_case_here_2), (b2 idxD (.ok (.list law_texts_4)) (.ok law_number_11))]) >>= F_law_told) (b2 idxD (.ok law_days_here_3) (.ok law_number_11)) >>= boolD) >>= fun z => if z = true then onlyR (retR (.ok (.bool false))) else (((allR [(.ok law_script_1), (b2 addD (.ok (.int 81)) (b2 mulE (.ok (.int 4)) (.ok d_10))), (b2 addD ((allR [(b2 idxD (.ok (.list law_texts_4)) (.ok law_number_11))]) >>= lenC) (.ok (.int 1)))]) >>= F_law_drawn) >>= fun law_place_12 => ((b2 idxD (.ok (.str "abcABCd -")) ((allR [(.ok law_script_1), (b2 addD (.ok (.int 82)) (b2 mulE (.ok (.int 4)) (.ok d_10))), (.ok (.int 9))]) >>= F_law_drawn)) >>= fun law_sign_here_13 => ((b2 addD (.ok law_place_12) ((allR [(.ok law_script_1), (b2 addD (.ok (.int 83)) (b2 mulE (.ok (.int 4)) (.ok d_10))), (.ok (.int 2))]) >>= F_law_drawn)) >>= fun law_cut_14 => ((b2 addD (b2 addD (sl3S (b2 idxD (.ok (.list law_texts_4)) (.ok law_number_11)) (.ok none) ((.ok law_place_12) >>= partD)) (.ok law_sign_here_13)) (sl3S (b2 idxD (.ok (.list law_texts_4)) (.ok law_number_11)) ((.ok law_cut_14) >>= partD) (.ok none))) >>= fun law_spoilt_15 => ((ite3 (b2 inD (.ok law_spoilt_15) (.ok (.list law_texts_4)) >>= boolD) (b2 idxD (.ok law_days_here_3) (onL findD (.ok (.list law_texts_4)) (.ok law_spoilt_15))) ((allR [(.ok (.str "refused")), (.ok (.int 1))]) >>= tupD)) >>= fun law_due_16 => ((b2 neD ((allR [(.ok (.int 1)), (.ok law_case_here_2), (.ok law_spoilt_15)]) >>= F_law_told) (.ok law_due_16) >>= boolD) >>= fun z => if z = true then onlyR (retR (.ok (.bool false))) else (.ok (.nx ())))))))))))) fun (st_9 : Unit) => (comR ((allR [(b2 idxD (.ok law_case_here_2) (.ok (.int 1)))]) >>= rng1) (fun d_18 => cel (.ok true) ((allR [(.ok law_script_1), (b2 addD (.ok (.int 110)) (.ok d_18)), ((allR [(.ok law_days_here_3)]) >>= lenC)]) >>= F_law_drawn)) >>= fun law_numbers_17 => (((allR [(asL (comR ((.ok (PyData.list law_numbers_17)) >>= seqOf) (fun d_22 => cel (.ok true) (b2 idxD (.ok law_days_here_3) (.ok d_22)))))]) >>= tupC) >>= fun law_world_21 => (comR ((allR [(.ok (PyData.list law_numbers_17))]) >>= enumE) (fun d_25 => unp2 d_25 fun law_who_26 law_number_27 => cel (.ok true) (b2 addD (b2 addD (b2 addD (b2 idxD (.ok (.str "XYZ")) (.ok law_who_26)) (.ok (.str " "))) (b2 idxD (.ok (.list law_texts_4)) (.ok law_number_27))) (.ok (.str "\n")))) >>= fun law_lines_24 => ((onS joinD (.ok (.str "")) (.ok (PyData.list law_lines_24))) >>= fun law_text_29 => ((orR (b2 neD ((allR [(.ok (.int 2)), (.ok law_case_here_2), (.ok law_world_21)]) >>= F_law_told) (.ok law_text_29) >>= boolD) (b2 neD ((allR [(.ok (.int 3)), (.ok law_case_here_2), (.ok law_text_29)]) >>= F_law_told) (.ok law_world_21) >>= boolD)) >>= fun z => if z = true then onlyR (retR (.ok (.bool false))) else (((allR [(sl3S (.ok law_text_29) (.ok none) (((.ok (.int 1)) >>= negD) >>= partD)), (b2 addD (.ok law_text_29) (.ok (.str "\n"))), (b2 addD (.ok law_text_29) (b2 idxD (.ok (PyData.list law_lines_24)) (.ok (.int 0)))), (b2 addD (.ok (.str "\n")) (.ok law_text_29)), (onS joinD (.ok (.str "")) (sl3 (.ok (PyData.list law_lines_24)) ((.ok (.int 1)) >>= partD) (.ok none)))]) >>= fun ds => lstD (.str "" :: ds)) >>= fun law_odd_30 => (((b2 addD (.ok (.list law_odd_30)) (((.ok law_text_29) >>= repD "X" "Z") >>= fun d => ((.ok law_text_29) >>= repD " " "  ") >>= fun e => .ok (.list [d, e]))) >>= seqL) >>= fun ds => seqR (forD ds () fun d_32 (st_31 : Unit) => ((b2 neD ((allR [(.ok (.int 3)), (.ok law_case_here_2), (.ok d_32)]) >>= F_law_told) ((allR [(.ok (.str "refused")), (.ok (.int 1))]) >>= tupD) >>= boolD) >>= fun z => if z = true then onlyR (retR (.ok (.bool false))) else (.ok (.nx ())))) fun (st_31 : Unit) => ((andR (b2 gtD ((allR [(.ok (PyData.list law_lines_24))]) >>= lenC) (.ok (.int 1)) >>= boolD) (b2 neD ((allR [(.ok (.int 3)), (.ok law_case_here_2), (b2 addD (b2 idxD (.ok (PyData.list law_lines_24)) (.ok (.int 1))) (b2 idxD (.ok (PyData.list law_lines_24)) (.ok (.int 0))))]) >>= F_law_told) ((allR [(.ok (.str "refused")), (.ok (.int 1))]) >>= tupD) >>= boolD)) >>= fun z => if z = true then onlyR (retR (.ok (.bool false))) else (retR ((allR [(.ok law_case_here_2), (.ok law_days_here_3)]) >>= F_law_refuses)))))))))))))))
def g_law : List PyData → Res (Out Empty)
  | [law_script_1] => m_law law_script_1
  | _ => .stuck
def F_law (ds : List PyData) : Res PyData := finR (g_law ds)
theorem F_law_eq (law_script_1 : PyData) : F_law [law_script_1] = finR (m_law law_script_1) := rfl
end Lw
namespace Lw
open PySem PySem.Spec PyProof.Rows L2 Dt
theorem fst_in : ∀ n : Fin 4, ∀ x : Fin 1000, (match notInD (.str (S [x.val])) (.str (S (plL n.val))) with | .ok (.bool b) => b == !decide (97 ≤ x.val ∧ x.val < 97 + n.val) | _ => false) = true := by decide +kernel
theorem fst_inA {n x : Nat} (hn : n ≤ 3) (hx : x < 1000) : notInD (.str (S [x])) (.str (S (plL n))) = .ok (.bool (!decide (97 ≤ x ∧ x < 97 + n))) := by
  have h := fst_in ⟨n, by omega⟩ ⟨x, hx⟩
  revert h
  show (match notInD (.str (S [x])) (.str (S (plL n))) with | .ok (.bool b) => b == !decide (97 ≤ x ∧ x < 97 + n) | _ => false) = true → _
  generalize notInD (.str (S [x])) (.str (S (plL n))) = r
  intro h
  match r, h with
  | .ok (.bool b), h => rw [eq_of_beq h]
/-- the stands of the rest of a text, if it tells any -/
theorem read_walk {t : Twn} (ht : TwnOk t) {f : PyData → List PyData → Res (Out (List PyData))}
    (hf : ∀ (L : List Std) (s : Std) (x : Nat), L.length ≤ 100 → x < 1000 → (∀ y ∈ stepsT t s, y.1 < 5) → f (.str (S [x])) ((L ++ [s]).map eStd) = match (stepsT t s).filter (fun y => decide (sgn y = x)) with | [] => .err "NoText" | y :: _ => .ok (.nx ((L ++ [s] ++ [y]).map eStd))) :
    ∀ (xs : List Nat) (L : List Std) (s : Std), L.length + xs.length ≤ 100 → (s.1 < t.n ∧ s.2 ≤ 3) → (∀ x ∈ xs, x < 1000) →
      forD (xs.map fun x => PyData.str (S [x])) ((L ++ [s]).map eStd) f = .err "NoText" ∨
      ∃ r : List Std, r.map sgn = xs ∧ (∀ y ∈ r, y.1 < t.n ∧ y.2 ≤ 3) ∧ (∀ i a b, (s :: r)[i]? = some a → (s :: r)[i + 1]? = some b → b ∈ stepsT t a) ∧ forD (xs.map fun x => PyData.str (S [x])) ((L ++ [s]).map eStd) f = .ok (.nx ((L ++ [s] ++ r).map eStd))
  | [], L, s, _, _, _ => .inr ⟨[], rfl, fun y hy => (nomatch hy), fun i a b h1 h2 => by simp at h2, by rw [List.append_nil]; rfl⟩
  | x :: xs, L, s, hl, h5, hx => by
    rw [List.length_cons] at hl
    have n5 := ht.n5
    rw [List.map_cons, forD_cons, hf L s x (by omega) (hx x List.mem_cons_self) fun y hy => by
      have := (steps_in ht h5 hy).1
      omega]
    cases e : (stepsT t s).filter (fun y => decide (sgn y = x)) with
    | nil => exact .inl rfl
    | cons y ys =>
      have hy : y ∈ (stepsT t s).filter (fun y => decide (sgn y = x)) := by rw [e]; exact List.mem_cons_self
      obtain ⟨y1, y2⟩ := List.mem_filter.mp hy
      have y2 : sgn y = x := of_decide_eq_true y2
      show seqR (.ok (.nx ((L ++ [s] ++ [y]).map eStd))) _ = _ ∨ _
      have y5 := steps_in ht h5 y1
      rcases read_walk ht hf xs (L ++ [s]) y (by rw [List.length_append, List.length_singleton]; omega) y5 (fun z hz => hx z (List.mem_cons_of_mem _ hz)) with z | ⟨r, r1, r4, r2, r3⟩
      · exact .inl z
      · refine .inr ⟨y :: r, by rw [List.map_cons, r1, y2], fun z hz => ?_, fun i a b h1 h2 => ?_, ?_⟩
        · rcases List.mem_cons.mp hz with rfl | hz
          · exact y5
          · exact r4 z hz
        · cases i with
          | zero =>
            simp at h1 h2
            rw [← h1, ← h2]
            exact y1
          | succ i => exact r2 i a b h1 h2
        · show forD (xs.map fun x => PyData.str (S [x])) ((L ++ [s] ++ [y]).map eStd) f = _
          rw [r3]
          simp
theorem read_day_any {c : Cs} (hc : CsOk c) (h3 : c.tn.n ≤ 3) {l : List Nat} (hx : ∀ x ∈ l, x < 1000) (hl : l.length ≤ 100000) :
    (∃ d, DayOk c.tn c.last d ∧ l = dayL d ∧ F_read_day [eCs c, .str (S l)] = .ok (eDay d)) ∨ F_read_day [eCs c, .str (S l)] = .err "NoText" := by
  by_cases hlen : l.length = c.last + 1
  · cases l with
    | nil => simp at hlen
    | cons x xs =>
      have h5 := hc.tn.n5
      have h9 := hc.l9
      have lx : xs.length = c.last := by simpa using hlen
      rw [F_read_day_eq]
      unfold m_read_day
      have el : lenC [.str (S (x :: xs))] = .ok (.int ((c.last + 1 : Nat) : Int)) := by
        rw [lenS_S (by omega), hlen]
      have nl : neD (.int ((c.last + 1 : Nat) : Int)) (.int ((c.last + 1 : Nat) : Int)) = .ok (.bool false) := by rw [neN]; simp
      have hi := hd_str (a := x) (l := xs) (by simp at hl; omega)
      have ni := fst_inA (n := c.tn.n) h3 (hx x List.mem_cons_self)
      by_cases q : 97 ≤ x ∧ x < 97 + c.tn.n
      · obtain ⟨p, rfl⟩ : ∃ p, x = 97 + p := ⟨x - 97, by omega⟩
        have hp : p < c.tn.n := by omega
        have cf : sl3S (.ok (.str (S ((97 + p) :: xs)))) (.ok (some 1)) (.ok none) = .ok (.str (S xs)) := cut_from (l := (97 + p) :: xs) hl 1
        have sq : seqS (.str (S xs)) = .ok (xs.map fun x => PyData.str (S [x])) := rfl
        have es : PyData.tuple [.int (p : Int), .int 0] = eStd (p, 0) := rfl
        have ds : decide (97 ≤ 97 + p ∧ 97 + p < 97 + c.tn.n) = true := decide_eq_true q
        simp -implicitDefEqProofs only [allR_ok, allR_nil, ok_bind, b2_ok, asL_ok, retR_ok, finR_rt, seqR_nx, seqR_rt, onlyR_rt, boolD_bool, truD_bool, nt_ok, Bool.not_true, Bool.not_false, Bool.false_eq_true, if_true, if_false, ↓reduceIte, decide_true, decide_false, orR_t, orR_f, andR_t, andR_f, andV_t, andV_f, orV_t, orV_f, notV_bool, ite3_t, ite3_f, cel_t, cel_f, partI, tD0, tD1, tD2, tD3, tD4, tD5, lD0, lD1, lD2, lD3, unp2_mk, unp3_mk, unp4_mk, unp5_mk, seq_list, seq_tup, seqE_list, seqE_tup, c_tn, c_ps, c_last, c_ts, t_n, t_ws, s_0, s_1, eqB, neB, lenL, need_case_enc hc, isi_S, el, add1N, nl, hi, pl_to h5, ni, ds, onS_str, ix_pl (show p < 5 by omega), cf, sq, es]
        have key : ∀ (f : PyData → List PyData → Res (Out (List PyData))) (K : List PyData → Res (Out Empty)), (∀ (L : List Std) (s : Std) (x : Nat), L.length ≤ 100 → x < 1000 → (∀ y ∈ stepsT c.tn s, y.1 < 5) → f (.str (S [x])) ((L ++ [s]).map eStd) = match (stepsT c.tn s).filter (fun y => decide (sgn y = x)) with | [] => .err "NoText" | y :: _ => .ok (.nx ((L ++ [s] ++ [y]).map eStd))) →
            (∀ st, K st = .ok (.rt (.tuple st))) → (∃ d, DayOk c.tn c.last d ∧ (97 + p) :: xs = dayL d ∧ finR (seqR (forD (xs.map fun x => PyData.str (S [x])) [eStd (p, 0)] f) K) = .ok (eDay d)) ∨ finR (seqR (forD (xs.map fun x => PyData.str (S [x])) [eStd (p, 0)] f) K) = .err "NoText" := fun f K hf hK => by
          rw [show ([eStd (p, 0)] : List PyData) = ([] ++ [(p, 0)]).map eStd from rfl]
          rcases read_walk hc.tn hf xs [] (p, 0) (by rw [lx]; show 0 + c.last ≤ 100; omega) ⟨hp, Nat.zero_le _⟩ (fun z hz => hx z (List.mem_cons_of_mem _ hz)) with e | ⟨r, r1, r2, r3, e⟩
          · rw [e]; exact .inr rfl
          · refine .inl ⟨(p, 0) :: r, ⟨?_, fun s hs => ?_, fun s hs => ?_, r3⟩, ?_, ?_⟩
            · have : r.length = xs.length := by rw [← r1, List.length_map]
              rw [List.length_cons, this, lx]
            · rcases List.mem_cons.mp hs with rfl | hs
              · exact ⟨hp, Nat.zero_le _⟩
              · exact r2 s hs
            · have : (p, 0) = s := by simpa using hs
              rw [← this]
            · unfold dayL
              rw [List.map_cons, r1]
              rfl
            · rw [e, seqR_nx, hK]
              rfl
        refine key _ _ (fun L s x hL hx h5' => ?_) fun st => rfl
        have il : idxD (.list ((L ++ [s]).map eStd)) (.int (-1)) = .ok (eStd s) := idx_lastL (by rw [List.map_append]; simp)
        simp -implicitDefEqProofs only [allR_ok, allR_nil, ok_bind, b2_ok, asL_ok, retR_ok, finR_rt, seqR_nx, seqR_rt, onlyR_rt, boolD_bool, truD_bool, nt_ok, Bool.not_true, Bool.not_false, Bool.false_eq_true, if_true, if_false, ↓reduceIte, decide_true, decide_false, orR_t, orR_f, andR_t, andR_f, andV_t, andV_f, orV_t, orV_f, notV_bool, ite3_t, ite3_f, cel_t, cel_f, partI, tD0, tD1, tD2, tD3, tD4, tD5, lD0, lD1, lD2, lD3, unp2_mk, unp3_mk, unp4_mk, unp5_mk, seq_list, seq_tup, seqE_list, seqE_tup, c_tn, c_ps, c_last, c_ts, t_n, t_ws, s_0, s_1, eqB, neB, lenL, neg1, il, steps_enc hc.tn]
        rw [comR_fil2 (q := fun y : Std => decide (sgn y = x)) (bigN (by
          have := steps_len c.tn s
          have := hc.tn.len
          omega)) fun y hy => by
          simp -implicitDefEqProofs only [allR_ok, allR_nil, ok_bind, b2_ok, asL_ok, retR_ok, finR_rt, seqR_nx, seqR_rt, onlyR_rt, boolD_bool, truD_bool, nt_ok, Bool.not_true, Bool.not_false, Bool.false_eq_true, if_true, if_false, ↓reduceIte, decide_true, decide_false, orR_t, orR_f, andR_t, andR_f, andV_t, andV_f, orV_t, orV_f, notV_bool, ite3_t, ite3_f, cel_t, cel_f, partI, tD0, tD1, tD2, tD3, tD4, tD5, lD0, lD1, lD2, lD3, unp2_mk, unp3_mk, unp4_mk, unp5_mk, seq_list, seq_tup, seqE_list, seqE_tup, c_tn, c_ps, c_last, c_ts, t_n, t_ws, s_0, s_1, eqB, neB, lenL, sign_of_enc (h5' y hy), eqS (a := [sgn y]) (b := [x]) (by simp; exact sgn_small (h5' y hy)) (by simp; exact hx)]
          by_cases q : sgn y = x <;> simp [q]]
        cases e : (stepsT c.tn s).filter (fun y => decide (sgn y = x)) with
        | nil =>
          have en : eqD (.list (([] : List Std).map eStd)) (.list []) = .ok (.bool true) := cod_std.eqNil (show 1 ≤ 59 by decide) []
          simp -implicitDefEqProofs only [allR_ok, allR_nil, ok_bind, b2_ok, asL_ok, retR_ok, finR_rt, seqR_nx, seqR_rt, onlyR_rt, boolD_bool, truD_bool, nt_ok, Bool.not_true, Bool.not_false, Bool.false_eq_true, if_true, if_false, ↓reduceIte, decide_true, decide_false, orR_t, orR_f, andR_t, andR_f, andV_t, andV_f, orV_t, orV_f, notV_bool, ite3_t, ite3_f, cel_t, cel_f, partI, tD0, tD1, tD2, tD3, tD4, tD5, lD0, lD1, lD2, lD3, unp2_mk, unp3_mk, unp4_mk, unp5_mk, seq_list, seq_tup, seqE_list, seqE_tup, c_tn, c_ps, c_last, c_ts, t_n, t_ws, s_0, s_1, eqB, neB, lenL, en]
          rfl
        | cons y ys =>
          have i0 : idxD (.list ((y :: ys).map eStd)) (.int 0) = .ok (eStd y) := idx_mapL (e := eStd) (xs := y :: ys) (i := 0) (by simp) y
          have en : eqD (.list ((y :: ys).map eStd)) (.list []) = .ok (.bool false) := cod_std.eqNil (show 1 ≤ 59 by decide) (y :: ys)
          simp -implicitDefEqProofs only [allR_ok, allR_nil, ok_bind, b2_ok, asL_ok, retR_ok, finR_rt, seqR_nx, seqR_rt, onlyR_rt, boolD_bool, truD_bool, nt_ok, Bool.not_true, Bool.not_false, Bool.false_eq_true, if_true, if_false, ↓reduceIte, decide_true, decide_false, orR_t, orR_f, andR_t, andR_f, andV_t, andV_f, orV_t, orV_f, notV_bool, ite3_t, ite3_f, cel_t, cel_f, partI, tD0, tD1, tD2, tD3, tD4, tD5, lD0, lD1, lD2, lD3, unp2_mk, unp3_mk, unp4_mk, unp5_mk, seq_list, seq_tup, seqE_list, seqE_tup, c_tn, c_ps, c_last, c_ts, t_n, t_ws, s_0, s_1, eqB, neB, lenL, en, i0, appR_ok (show ((L ++ [s]).map eStd).length < sizeLine by rw [List.length_map, List.length_append, sizeLine_eq]; simp; omega)]
          rw [List.map_append (l₁ := L ++ [s])]
          rfl
      · simp -implicitDefEqProofs only [allR_ok, allR_nil, ok_bind, b2_ok, asL_ok, retR_ok, finR_rt, seqR_nx, seqR_rt, onlyR_rt, boolD_bool, truD_bool, nt_ok, Bool.not_true, Bool.not_false, Bool.false_eq_true, if_true, if_false, ↓reduceIte, decide_true, decide_false, orR_t, orR_f, andR_t, andR_f, andV_t, andV_f, orV_t, orV_f, notV_bool, ite3_t, ite3_f, cel_t, cel_f, partI, tD0, tD1, tD2, tD3, tD4, tD5, lD0, lD1, lD2, lD3, unp2_mk, unp3_mk, unp4_mk, unp5_mk, seq_list, seq_tup, seqE_list, seqE_tup, c_tn, c_ps, c_last, c_ts, t_n, t_ws, s_0, s_1, eqB, neB, lenL, need_case_enc hc, isi_S, el, add1N, nl, hi, pl_to h5, ni, decide_eq_false q]
        exact .inr rfl
  · exact .inr (read_day_size hc hl hlen)
end Lw
namespace Lw
open PySem PySem.Spec PyProof.Rows L2 Dt
def compW {γ : Type} : List γ → (γ → Res (Option PyData)) → Res (List PyData)
  | [], _ => .ok []
  | x :: xs, g => g x >>= fun o => compW xs g >>= fun ys => .ok (match (generalizing := false) o with | some y => y :: ys | none => ys)
theorem compFX_rows {γ : Type} {e : γ → PyData} {g : PyData → Res (Option PyData)} {gw : γ → Res (Option PyData)} : ∀ {xs : List γ}, (∀ x ∈ xs, g (e x) = gw x) → compFX (xs.map e) g = compW xs gw
  | [], _ => rfl
  | x :: xs, h => by
    rw [List.map_cons, compFX_cons, h x List.mem_cons_self, compFX_rows fun y hy => h y (List.mem_cons_of_mem _ hy)]
    rfl
theorem comRX_rows {γ : Type} {e : γ → PyData} {g : PyData → Res (Option PyData)} {gw : γ → Res (Option PyData)} {xs : List γ} (hl : xs.length ≤ sizeLine) (h : ∀ x ∈ xs, g (e x) = gw x) : comRX (.ok (xs.map e)) g = compW xs gw := by
  show (if (xs.map e).length ≤ sizeLine then compFX (xs.map e) g else .stuck) = _
  rw [if_pos (by rw [List.length_map]; exact hl), compFX_rows h]
theorem compW_all {γ δ : Type} {gw : γ → Res (Option PyData)} {e' : δ → PyData} {P : δ → Prop} : ∀ {xs : List γ}, (∀ x ∈ xs, gw x = .err "NoText" ∨ ∃ d, gw x = .ok (some (e' d)) ∧ P d) → compW xs gw = .err "NoText" ∨ ∃ ds : List δ, compW xs gw = .ok (ds.map e') ∧ (∀ d ∈ ds, P d) ∧ ds.length = xs.length
  | [], _ => .inr ⟨[], rfl, fun d hd => (nomatch hd), rfl⟩
  | x :: xs, h => by
    have ih := compW_all (xs := xs) fun y hy => h y (List.mem_cons_of_mem _ hy)
    unfold compW
    rcases h x List.mem_cons_self with e | ⟨d, e, p⟩
    · rw [e]; exact .inl rfl
    · rw [e]
      rcases ih with i | ⟨ds, i, k, kl⟩
      · rw [i]; exact .inl rfl
      · rw [i]
        refine .inr ⟨d :: ds, rfl, fun z hz => ?_, by simp [kl]⟩
        rcases List.mem_cons.mp hz with rfl | hz
        · exact p
        · exact k z hz
theorem splitL_mem {c : Nat} : ∀ {l : List Nat}, ∀ p ∈ splitL c l, p.length ≤ l.length ∧ ∀ x ∈ p, x ∈ l ∧ x ≠ c
  | [], p, hp => by
    have : p = [] := by simpa [splitL] using hp
    subst this
    exact ⟨Nat.le_refl _, fun x hx => by cases hx⟩
  | a :: l, p, hp => by
    rw [splitL_cons] at hp
    by_cases h : a = c
    · rw [if_pos h] at hp
      rcases List.mem_cons.mp hp with rfl | hp
      · exact ⟨by simp, fun x hx => by cases hx⟩
      · obtain ⟨h1, h2⟩ := splitL_mem p hp
        exact ⟨by simp; omega, fun x hx => ⟨List.mem_cons_of_mem _ (h2 x hx).1, (h2 x hx).2⟩⟩
    · rw [if_neg h] at hp
      cases e : splitL c l with
      | nil => exact absurd e (splitL_ne c l)
      | cons q qs =>
        rw [e] at hp
        rcases List.mem_cons.mp hp with rfl | hp
        · obtain ⟨h1, h2⟩ := splitL_mem (l := l) q (by rw [e]; exact List.mem_cons_self)
          refine ⟨by simp; omega, fun x hx => ?_⟩
          rcases List.mem_cons.mp hx with rfl | hx
          · exact ⟨List.mem_cons_self, h⟩
          · exact ⟨List.mem_cons_of_mem _ (h2 x hx).1, (h2 x hx).2⟩
        · obtain ⟨h1, h2⟩ := splitL_mem (l := l) p (by rw [e]; exact List.mem_cons_of_mem _ hp)
          exact ⟨by simp; omega, fun x hx => ⟨List.mem_cons_of_mem _ (h2 x hx).1, (h2 x hx).2⟩⟩
theorem read_world_any {c : Cs} (hc : CsOk c) (h3 : c.tn.n ≤ 3) {l : List Nat} (hx : ∀ x ∈ l, x < 1000) (hl : l.length ≤ 5000) :
    (∃ w, WldOk c w ∧ l = wldT w ∧ F_read_world [eCs c, .str (S l)] = .ok (eWld w)) ∨ F_read_world [eCs c, .str (S l)] = .err "NoText" := by
  rw [F_read_world_eq]
  unfold m_read_world
  have p3 := hc.p3
  have e := List.dropLast_concat_getLast (splitL_ne 10 l)
  have sp := splitS (x := l) (c := 10) (by decide) (by omega)
  have cut : sl3 (asL (splitD (.str (S l)) (.str (S [10])))) (.ok none) (.ok (some (-1))) = .ok (.list ((splitL 10 l).dropLast.map fun l => PyData.str (S l))) := by
    rw [sp, ← e, List.dropLast_concat]
    exact slL_m1 (e := fun l => PyData.str (S l)) _ _
  generalize hL : (splitL 10 l).dropLast = L at cut
  have hLm : ∀ p ∈ L, p.length ≤ 5000 ∧ ∀ x ∈ p, x < 1000 := fun p hp => by
    have := splitL_mem (l := l) p (List.dropLast_subset _ (by rw [hL]; exact hp))
    exact ⟨by omega, fun x h => hx x (this.2 x h).1⟩
  have ln : lenC [.list (L.map fun l => PyData.str (S l))] = .ok (.int (L.length : Int)) := by
    show Res.ok (PyData.int ((L.map fun l => PyData.str (S l)).length : Int)) = _
    rw [List.length_map]
  have nl : neD (.int (L.length : Int)) (.int (c.ps : Int)) = .ok (.bool (!decide (L.length = c.ps))) := neN _ _
  by_cases hp : L.length = c.ps
  · have nl1 : neD (.int (L.length : Int)) (.int (c.ps : Int)) = .ok (.bool false) := by rw [nl]; simp [hp]
    simp -implicitDefEqProofs only [allR_ok, allR_nil, ok_bind, b2_ok, asL_ok, retR_ok, finR_rt, seqR_nx, seqR_rt, onlyR_rt, boolD_bool, truD_bool, nt_ok, Bool.not_true, Bool.not_false, Bool.false_eq_true, if_true, if_false, ↓reduceIte, decide_true, decide_false, orR_t, orR_f, andR_t, andR_f, andV_t, andV_f, orV_t, orV_f, notV_bool, ite3_t, ite3_f, cel_t, cel_f, partI, tD0, tD1, tD2, tD3, tD4, tD5, lD0, lD1, lD2, lD3, unp2_mk, unp3_mk, unp4_mk, unp5_mk, seq_list, seq_tup, seqE_list, seqE_tup, c_tn, c_ps, c_last, c_ts, t_n, t_ws, s_0, s_1, eqB, neB, lenL, need_case_enc hc, isi_S, s_nl, onS_str, neg1, cut, ln, nl1]
    rw [comRX_rows (e := fun l => PyData.str (S l)) (gw := fun p => F_read_day [eCs c, .str (S (p.drop 2))] >>= fun y => .ok (some y)) (bigN (by omega)) fun p hp => by
      have cf : sl3S (.ok (.str (S p))) (.ok (some 2)) (.ok none) = .ok (.str (S (p.drop 2))) := cut_from (by have := (hLm p hp).1; omega) 2
      simp -implicitDefEqProofs only [allR_ok, allR_nil, ok_bind, b2_ok, asL_ok, retR_ok, finR_rt, seqR_nx, seqR_rt, onlyR_rt, boolD_bool, truD_bool, nt_ok, Bool.not_true, Bool.not_false, Bool.false_eq_true, if_true, if_false, ↓reduceIte, decide_true, decide_false, orR_t, orR_f, andR_t, andR_f, andV_t, andV_f, orV_t, orV_f, notV_bool, ite3_t, ite3_f, cel_t, cel_f, partI, tD0, tD1, tD2, tD3, tD4, tD5, lD0, lD1, lD2, lD3, unp2_mk, unp3_mk, unp4_mk, unp5_mk, seq_list, seq_tup, seqE_list, seqE_tup, c_tn, c_ps, c_last, c_ts, t_n, t_ws, s_0, s_1, eqB, neB, lenL, cf]
      rfl]
    rcases compW_all (xs := L) (gw := fun p => F_read_day [eCs c, .str (S (p.drop 2))] >>= fun y => .ok (some y)) (e' := eDay) (P := fun d => DayOk c.tn c.last d) (fun p hp => by
      obtain ⟨h1, h2⟩ := hLm p hp
      rcases read_day_any hc h3 (l := p.drop 2) (fun x h => h2 x (List.mem_of_mem_drop h)) (by rw [List.length_drop]; omega) with ⟨d, d1, d2, d3⟩ | d3
      · exact .inr ⟨d, by rw [d3]; rfl, d1⟩
      · exact .inl (by rw [d3]; rfl)) with z | ⟨w, z, hw, wl⟩
    · rw [z]; exact .inr rfl
    · rw [z]
      have ok : WldOk c w := ⟨by rw [wl, hp], hw⟩
      have sm : ∀ x ∈ wldT w, x < 1000 := lines_small fun p hp => (row_nl hc ok p hp).2
      have ne := neS sm hx
      simp -implicitDefEqProofs only [allR_ok, allR_nil, ok_bind, b2_ok, asL_ok, retR_ok, finR_rt, seqR_nx, seqR_rt, onlyR_rt, boolD_bool, truD_bool, nt_ok, Bool.not_true, Bool.not_false, Bool.false_eq_true, if_true, if_false, ↓reduceIte, decide_true, decide_false, orR_t, orR_f, andR_t, andR_f, andV_t, andV_f, orV_t, orV_f, notV_bool, ite3_t, ite3_f, cel_t, cel_f, partI, tD0, tD1, tD2, tD3, tD4, tD5, lD0, lD1, lD2, lD3, unp2_mk, unp3_mk, unp4_mk, unp5_mk, seq_list, seq_tup, seqE_list, seqE_tup, c_tn, c_ps, c_last, c_ts, t_n, t_ws, s_0, s_1, eqB, neB, lenL, show tupC [.list (w.map eDay)] = .ok (eWld w) from rfl, world_text_enc hc ok, ne]
      by_cases q : wldT w = l
      · refine .inl ⟨w, ok, q.symm, ?_⟩
        simp only [q, decide_true]
        rfl
      · simp only [q, decide_false]
        exact .inr rfl
  · simp -implicitDefEqProofs only [allR_ok, allR_nil, ok_bind, b2_ok, asL_ok, retR_ok, finR_rt, seqR_nx, seqR_rt, onlyR_rt, boolD_bool, truD_bool, nt_ok, Bool.not_true, Bool.not_false, Bool.false_eq_true, if_true, if_false, ↓reduceIte, decide_true, decide_false, orR_t, orR_f, andR_t, andR_f, andV_t, andV_f, orV_t, orV_f, notV_bool, ite3_t, ite3_f, cel_t, cel_f, partI, tD0, tD1, tD2, tD3, tD4, tD5, lD0, lD1, lD2, lD3, unp2_mk, unp3_mk, unp4_mk, unp5_mk, seq_list, seq_tup, seqE_list, seqE_tup, c_tn, c_ps, c_last, c_ts, t_n, t_ws, s_0, s_1, eqB, neB, lenL, need_case_enc hc, isi_S, s_nl, onS_str, neg1, cut, ln, nl, hp]
    exact .inr rfl
theorem read_world_no {c : Cs} (hc : CsOk c) (h3 : c.tn.n ≤ 3) {l : List Nat} (hx : ∀ x ∈ l, x < 1000) (hl : l.length ≤ 5000) (no : ∀ w, WldOk c w → l ≠ wldT w) : F_read_world [eCs c, .str (S l)] = .err "NoText" := by
  rcases read_world_any hc h3 hx hl with ⟨w, h1, h2, _⟩ | h
  · exact absurd h2 (no w h1)
  · exact h
theorem linesL_len (c k : Nat) : ∀ ps : List (List Nat), (∀ p ∈ ps, p.length = k) → (linesL c ps).length = ps.length * (k + 1)
  | [], _ => by simp [linesL]
  | p :: ps, h => by
    show (p ++ c :: linesL c ps).length = _
    rw [List.length_append, List.length_cons, linesL_len c k ps fun q hq => h q (List.mem_cons_of_mem _ hq), h p List.mem_cons_self, List.length_cons, Nat.succ_mul]
    omega
theorem row_len {c : Cs} {w : Wld} (h : WldOk c w) : ∀ p ∈ rowsW w, p.length = c.last + 3 := fun p hp => by
  obtain ⟨q, hq, rfl⟩ := List.mem_map.mp hp
  have m : q.1 ∈ w := List.mem_of_getElem? (List.mem_zipIdx_iff_getElem?.mp (show (q.1, q.2) ∈ w.zipIdx from hq))
  have := (h.day _ m).len
  unfold rowW dayL
  simp [this]
theorem wldT_len {c : Cs} {w : Wld} (h : WldOk c w) : (wldT w).length = c.ps * (c.last + 4) := by
  unfold wldT
  rw [linesL_len 10 (c.last + 3) _ (row_len h)]
  have : (rowsW w).length = c.ps := by unfold rowsW; rw [List.length_map, List.length_zipIdx, h.len]
  rw [this]
theorem wldT_head {c : Cs} (hc : CsOk c) {w : Wld} (h : WldOk c w) : ∃ x rest, wldT w = 88 :: 32 :: x :: rest ∧ 65 ≤ x := by
  have p1 := hc.p1
  have hl := h.len
  cases w with
  | nil => simp at hl; omega
  | cons d w =>
    have hd := h.day d List.mem_cons_self
    have dl := hd.len
    cases d with
    | nil => simp at dl
    | cons s d =>
      refine ⟨sgn s, d.map sgn ++ 10 :: linesL 10 ((w.zipIdx 1).map fun p => rowW p.2 p.1), rfl, ?_⟩
      unfold sgn
      split <;> omega
end Lw
namespace Lw
open PySem PySem.Spec PyProof.Rows L2 Dt
theorem ref_case : inR CS_law m_law_refused "NoCase" = .ok (refD 0) := by rfl
theorem ref_text : inR CS_law m_law_refused "NoText" = .ok (refD 1) := by rfl
def tellF : List (List PyData → Res PyData) := [F_day_text, F_read_day, F_world_text, F_read_world]
theorem told_at {i : Nat} {F : List PyData → Res PyData} {a b : PyData} (h : tellF[i]? = some F) : F_law_told [.int (i : Int), a, b] = finR (tryR (α := Empty) (inR CS_law m_law_refused) (retR (F [a, b]))) := by
  rw [F_law_told_eq]
  unfold m_law_told
  have e := callF_at (rs := allR [.ok a, .ok b]) i h
  have e : callF [F_day_text, F_read_day, F_world_text, F_read_world] (allR [.ok a, .ok b]) (.int (i : Int)) = allR [.ok a, .ok b] >>= F := e
  simp -implicitDefEqProofs only [allR_ok, allR_nil, ok_bind, b2_ok, asL_ok, retR_ok, finR_rt, seqR_nx, seqR_rt, onlyR_rt, boolD_bool, truD_bool, nt_ok, Bool.not_true, Bool.not_false, Bool.false_eq_true, if_true, if_false, ↓reduceIte, decide_true, decide_false, orR_t, orR_f, andR_t, andR_f, andV_t, andV_f, orV_t, orV_f, notV_bool, ite3_t, ite3_f, cel_t, cel_f, partI, tD0, tD1, tD2, tD3, tD4, tD5, lD0, lD1, lD2, lD3, unp2_mk, unp3_mk, unp4_mk, unp5_mk, seq_list, seq_tup, seqE_list, seqE_tup, c_tn, c_ps, c_last, c_ts, t_n, t_ws, s_0, s_1, eqB, neB, lenL] at e
  simp -implicitDefEqProofs only [allR_ok, allR_nil, ok_bind, b2_ok, asL_ok, retR_ok, finR_rt, seqR_nx, seqR_rt, onlyR_rt, boolD_bool, truD_bool, nt_ok, Bool.not_true, Bool.not_false, Bool.false_eq_true, if_true, if_false, ↓reduceIte, decide_true, decide_false, orR_t, orR_f, andR_t, andR_f, andV_t, andV_f, orV_t, orV_f, notV_bool, ite3_t, ite3_f, cel_t, cel_f, partI, tD0, tD1, tD2, tD3, tD4, tD5, lD0, lD1, lD2, lD3, unp2_mk, unp3_mk, unp4_mk, unp5_mk, seq_list, seq_tup, seqE_list, seqE_tup, c_tn, c_ps, c_last, c_ts, t_n, t_ws, s_0, s_1, eqB, neB, lenL, e]
theorem told_ok {i : Nat} {F : List PyData → Res PyData} {a b d : PyData} (h : tellF[i]? = some F) (e : F [a, b] = .ok d) : F_law_told [.int (i : Int), a, b] = .ok d := by
  rw [told_at h]
  exact try_ret e
theorem told_no {i : Nat} {F : List PyData → Res PyData} {a b : PyData} {x : Str} {d : PyData} (h : tellF[i]? = some F) (e : F [a, b] = .err x) (r : inR CS_law m_law_refused x = .ok d) : F_law_told [.int (i : Int), a, b] = .ok d := by
  rw [told_at h]
  exact try_no (α := Empty) e r
structure NoDy (c : Cs) (d : PyData) : Prop where
  ex : ∃ k, k ≤ 59 ∧ gd 60 k d = true
  no : ¬ IsDay c d
theorem NoDy.text {c : Cs} (hc : CsOk c) {d : PyData} (h : NoDy c d) : F_day_text [eCs c, d] = .err "NoCase" := by
  obtain ⟨k, h1, h2⟩ := h.ex
  obtain ⟨b, e, hb⟩ := is_day_gd hc h2
  have : b = false := by
    cases b with
    | false => rfl
    | true => exact absurd (hb.mp rfl) h.no
  subst this
  rw [F_day_text_eq]
  unfold m_day_text
  simp -implicitDefEqProofs only [allR_ok, allR_nil, ok_bind, b2_ok, asL_ok, retR_ok, finR_rt, seqR_nx, seqR_rt, onlyR_rt, boolD_bool, truD_bool, nt_ok, Bool.not_true, Bool.not_false, Bool.false_eq_true, if_true, if_false, ↓reduceIte, decide_true, decide_false, orR_t, orR_f, andR_t, andR_f, andV_t, andV_f, orV_t, orV_f, notV_bool, ite3_t, ite3_f, cel_t, cel_f, partI, tD0, tD1, tD2, tD3, tD4, tD5, lD0, lD1, lD2, lD3, unp2_mk, unp3_mk, unp4_mk, unp5_mk, seq_list, seq_tup, seqE_list, seqE_tup, c_tn, c_ps, c_last, c_ts, t_n, t_ws, s_0, s_1, eqB, neB, lenL, need_case_enc hc, e]
  rfl
theorem NoWl.text {c : Cs} (hc : CsOk c) {d : PyData} (h : NoWl c d) : F_world_text [eCs c, d] = .err "NoCase" := by
  rw [F_world_text_eq]
  unfold m_world_text
  simp -implicitDefEqProofs only [allR_ok, allR_nil, ok_bind, b2_ok, asL_ok, retR_ok, finR_rt, seqR_nx, seqR_rt, onlyR_rt, boolD_bool, truD_bool, nt_ok, Bool.not_true, Bool.not_false, Bool.false_eq_true, if_true, if_false, ↓reduceIte, decide_true, decide_false, orR_t, orR_f, andR_t, andR_f, andV_t, andV_f, orV_t, orV_f, notV_bool, ite3_t, ite3_f, cel_t, cel_f, partI, tD0, tD1, tD2, tD3, tD4, tD5, lD0, lD1, lD2, lD3, unp2_mk, unp3_mk, unp4_mk, unp5_mk, seq_list, seq_tup, seqE_list, seqE_tup, c_tn, c_ps, c_last, c_ts, t_n, t_ws, s_0, s_1, eqB, neB, lenL, need_case_enc hc, h.need hc, err_bind]
  rfl
theorem NoDy.wl {c : Cs} (hc : CsOk c) {d : PyData} (h : NoDy c d) : NoWl c (.tuple (List.replicate c.ps d)) := by
  obtain ⟨k, h1, h2⟩ := h.ex
  have p3 := hc.p3
  have p1 := hc.p1
  refine ⟨⟨k + 1, by omega, gd_tup.mpr ⟨by rw [List.length_replicate]; omega, fun x hx => by rw [(List.mem_replicate.mp hx).2]; exact h2⟩⟩, fun ⟨w, e, hw⟩ => h.no ?_⟩
  have e : List.replicate c.ps d = w.map eDay := by
    have e : PyData.tuple (List.replicate c.ps d) = .tuple (w.map eDay) := e
    rwa [PyData.tuple.injEq] at e
  have hm : d ∈ w.map eDay := by
    rw [← e]
    exact List.mem_replicate.mpr ⟨by omega, rfl⟩
  obtain ⟨s, hs, e2⟩ := List.mem_map.mp hm
  exact ⟨s, e2.symm, hw.day s hs⟩
theorem NoCs.four {d : PyData} (h : NoCs d) (x : PyData) : ∀ F ∈ tellF, F [d, x] = .err "NoCase" := fun F hF => by
  simp only [tellF, List.mem_cons, List.not_mem_nil, or_false] at hF
  rcases hF with rfl | rfl | rfl | rfl
  · rw [F_day_text_eq]; unfold m_day_text; simp -implicitDefEqProofs only [allR_ok, allR_nil, ok_bind, b2_ok, asL_ok, retR_ok, finR_rt, seqR_nx, seqR_rt, onlyR_rt, boolD_bool, truD_bool, nt_ok, Bool.not_true, Bool.not_false, Bool.false_eq_true, if_true, if_false, ↓reduceIte, decide_true, decide_false, orR_t, orR_f, andR_t, andR_f, andV_t, andV_f, orV_t, orV_f, notV_bool, ite3_t, ite3_f, cel_t, cel_f, partI, tD0, tD1, tD2, tD3, tD4, tD5, lD0, lD1, lD2, lD3, unp2_mk, unp3_mk, unp4_mk, unp5_mk, seq_list, seq_tup, seqE_list, seqE_tup, c_tn, c_ps, c_last, c_ts, t_n, t_ws, s_0, s_1, eqB, neB, lenL, h.need, err_bind]; rfl
  · rw [F_read_day_eq]; unfold m_read_day; simp -implicitDefEqProofs only [allR_ok, allR_nil, ok_bind, b2_ok, asL_ok, retR_ok, finR_rt, seqR_nx, seqR_rt, onlyR_rt, boolD_bool, truD_bool, nt_ok, Bool.not_true, Bool.not_false, Bool.false_eq_true, if_true, if_false, ↓reduceIte, decide_true, decide_false, orR_t, orR_f, andR_t, andR_f, andV_t, andV_f, orV_t, orV_f, notV_bool, ite3_t, ite3_f, cel_t, cel_f, partI, tD0, tD1, tD2, tD3, tD4, tD5, lD0, lD1, lD2, lD3, unp2_mk, unp3_mk, unp4_mk, unp5_mk, seq_list, seq_tup, seqE_list, seqE_tup, c_tn, c_ps, c_last, c_ts, t_n, t_ws, s_0, s_1, eqB, neB, lenL, h.need, err_bind]; rfl
  · rw [F_world_text_eq]; unfold m_world_text; simp -implicitDefEqProofs only [allR_ok, allR_nil, ok_bind, b2_ok, asL_ok, retR_ok, finR_rt, seqR_nx, seqR_rt, onlyR_rt, boolD_bool, truD_bool, nt_ok, Bool.not_true, Bool.not_false, Bool.false_eq_true, if_true, if_false, ↓reduceIte, decide_true, decide_false, orR_t, orR_f, andR_t, andR_f, andV_t, andV_f, orV_t, orV_f, notV_bool, ite3_t, ite3_f, cel_t, cel_f, partI, tD0, tD1, tD2, tD3, tD4, tD5, lD0, lD1, lD2, lD3, unp2_mk, unp3_mk, unp4_mk, unp5_mk, seq_list, seq_tup, seqE_list, seqE_tup, c_tn, c_ps, c_last, c_ts, t_n, t_ws, s_0, s_1, eqB, neB, lenL, h.need, err_bind]; rfl
  · rw [F_read_world_eq]; unfold m_read_world; simp -implicitDefEqProofs only [allR_ok, allR_nil, ok_bind, b2_ok, asL_ok, retR_ok, finR_rt, seqR_nx, seqR_rt, onlyR_rt, boolD_bool, truD_bool, nt_ok, Bool.not_true, Bool.not_false, Bool.false_eq_true, if_true, if_false, ↓reduceIte, decide_true, decide_false, orR_t, orR_f, andR_t, andR_f, andV_t, andV_f, orV_t, orV_f, notV_bool, ite3_t, ite3_f, cel_t, cel_f, partI, tD0, tD1, tD2, tD3, tD4, tD5, lD0, lD1, lD2, lD3, unp2_mk, unp3_mk, unp4_mk, unp5_mk, seq_list, seq_tup, seqE_list, seqE_tup, c_tn, c_ps, c_last, c_ts, t_n, t_ws, s_0, s_1, eqB, neB, lenL, h.need, err_bind]; rfl
def badL (d : Day) : List PyData := [.none, .tuple [], eDay d.dropLast, eDay (d ++ d.take 1), .list (d.map eStd), eDay (List.replicate d.length (9, 0))]
theorem gdStd (s : Std) : gd 60 1 (eStd s) = true := gd_tup.mpr ⟨by simp, fun x hx => by
  simp only [List.mem_cons, List.not_mem_nil, or_false] at hx
  rcases hx with rfl | rfl <;> exact gd_int _ _ _⟩
theorem gd_dy {d : Day} (h : d.length ≤ 60) : gd 60 2 (eDay d) = true := gd_tup.mpr ⟨by rw [List.length_map]; exact h, fun y hy => by
  obtain ⟨w, _, rfl⟩ := List.mem_map.mp hy
  exact gdStd w⟩
theorem eDay_same {a b : Day} (h : eDay a = eDay b) : a = b := by
  have h : PyData.tuple (a.map eStd) = .tuple (b.map eStd) := h
  rw [PyData.tuple.injEq] at h
  refine map_inj (f := eStd) (fun x y z => ?_) h
  have z : PyData.tuple [.int (x.1 : Int), .int (x.2 : Int)] = .tuple [.int (y.1 : Int), .int (y.2 : Int)] := z
  simp only [PyData.tuple.injEq, List.cons.injEq, PyData.int.injEq, and_true] at z
  exact Prod.ext (by omega) (by omega)
theorem no_day {c : Cs} {d : Day} (hl : d.length ≤ 60) (h : ¬ DayOk c.tn c.last d) : NoDy c (eDay d) := ⟨⟨2, by decide, gd_dy hl⟩, fun ⟨s, e, hs⟩ => h (by rw [eDay_same e]; exact hs)⟩
theorem bad_no {c : Cs} (hc : CsOk c) (h3 : c.tn.n ≤ 3) {d : Day} (hd : DayOk c.tn c.last d) : ∀ x ∈ badL d, NoDy c x := fun x hx => by
  have dl := hd.len
  have h9 := hc.l9
  simp only [badL, List.mem_cons, List.not_mem_nil, or_false] at hx
  rcases hx with rfl | rfl | rfl | rfl | rfl | rfl
  · exact ⟨⟨0, by decide, rfl⟩, fun ⟨s, e, _⟩ => nomatch e⟩
  · exact no_day (d := []) (by simp) fun h => by have := h.len; simp at this
  · refine no_day (by rw [List.length_dropLast]; omega) fun h => ?_
    have := h.len
    rw [List.length_dropLast] at this
    omega
  · refine no_day (by rw [List.length_append, List.length_take]; omega) fun h => ?_
    have := h.len
    rw [List.length_append, List.length_take] at this
    omega
  · refine ⟨⟨2, by decide, gd_lst.mpr ⟨by rw [List.length_map]; omega, fun y hy => ?_⟩⟩, fun ⟨s, e, _⟩ => nomatch e⟩
    obtain ⟨w, _, rfl⟩ := List.mem_map.mp hy
    exact gdStd w
  · refine no_day (by rw [List.length_replicate]; omega) fun h => ?_
    have := (h.std (9, 0) (List.mem_replicate.mpr ⟨by omega, rfl⟩)).1
    have : 9 < c.tn.n := this
    omega
theorem rep_one {α : Type} (k : Nat) (x : α) : (List.replicate k [x]).flatten = List.replicate k x := by
  induction k with
  | zero => rfl
  | succ k ih => rw [List.replicate_succ, List.flatten_cons, ih]; rfl
theorem mul_one {k : Nat} (h : k ≤ 1000) (x : PyData) : mulE (.tuple [x]) (.int (k : Int)) = .ok (.tuple (List.replicate k x)) := by
  show (if -1000 ≤ (k : Int) ∧ (k : Int) ≤ 1000 ∧ [x].length ≤ 1000 then Res.ok (PyData.tuple (List.replicate (k : Int).toNat [x]).flatten) else .stuck) = _
  rw [if_pos ⟨by omega, by omega, by simp⟩, Int.toNat_natCast, rep_one]
theorem ne_ref (i : Int) : neD (refD i) (.tuple [.str "refused", .int i]) = .ok (.bool false) := by
  rw [show PyData.tuple [.str "refused", .int i] = refD i from rfl, cod_ref.ne (by decide)]
  simp
theorem refuses_enc {c : Cs} (hc : CsOk c) (h3 : c.tn.n ≤ 3) {d : Day} {ds : List Day} (hd : DayOk c.tn c.last d) : F_law_refuses [eCs c, .list ((d :: ds).map eDay)] = .ok (.bool true) := by
  rw [F_law_refuses_eq]
  unfold m_law_refuses
  have dl := hd.len
  have h9 := hc.l9
  have p3 := hc.p3
  have hne : d ≠ [] := fun z => by rw [z] at dl; cases dl
  have e := List.dropLast_concat_getLast hne
  have i0 : idxD (.list ((d :: ds).map eDay)) (.int 0) = .ok (eDay d) := idx_mapL (e := eDay) (xs := d :: ds) (i := 0) (by simp) d
  have s1 : sl3 (.ok (eDay d)) (.ok none) (.ok (some (-1))) = .ok (eDay d.dropLast) := by
    conv => lhs; rw [← e]
    exact slT_m1 (e := eStd) _ _
  have s2 : sl3 (.ok (eDay d)) (.ok none) (.ok (some 1)) = .ok (eDay (d.take 1)) := by
    show Res.ok (PyData.tuple (Dt.cutD (d.map eStd) none (some ((1 : Nat) : Int)))) = _
    unfold Dt.cutD
    rw [HT.sIx_nat, HT.sIx_none, List.length_map, List.drop_zero, Nat.sub_zero, Nat.min_eq_left (by omega), ← List.map_take]
    rfl
  have ad : addD (eDay d) (eDay (d.take 1)) = .ok (eDay (d ++ d.take 1)) := by
    show (if (d.map eStd).length + ((d.take 1).map eStd).length ≤ sizeLine then Res.ok (PyData.tuple (d.map eStd ++ (d.take 1).map eStd)) else .stuck) = _
    rw [if_pos (by rw [List.length_map, List.length_map, List.length_take, sizeLine_eq]; omega), ← List.map_append]
    rfl
  have lc : listC [eDay d] = .ok (d.map eStd) := rfl
  have ln : lenC [eDay d] = .ok (.int (d.length : Int)) := by
    show Res.ok (PyData.int ((d.map eStd).length : Int)) = _
    rw [List.length_map]
  have tp0 : tupD [] = .ok (.tuple []) := rfl
  have tp1 : ∀ a, tupD [a] = .ok (.tuple [a]) := fun _ => rfl
  have tp2 : ∀ a b, tupD [a, b] = .ok (.tuple [a, b]) := fun _ _ => rfl
  have tp6 : ∀ a b c d e f, tupD [a, b, c, d, e, f] = .ok (.tuple [a, b, c, d, e, f]) := fun _ _ _ _ _ _ => rfl
  have st : PyData.tuple [.int 9, .int 0] = eStd (9, 0) := rfl
  have mu := mul_one (k := d.length) (by omega) (eStd (9, 0))
  have er : PyData.tuple (List.replicate d.length (eStd (9, 0))) = eDay (List.replicate d.length (9, 0)) := by
    show _ = PyData.tuple ((List.replicate d.length ((9, 0) : Std)).map eStd)
    rw [List.map_replicate]
  have sq : ∀ xs : List PyData, seqOf (.tuple xs) = .ok xs := fun _ => rfl
  simp -implicitDefEqProofs only [allR_ok, allR_nil, ok_bind, b2_ok, asL_ok, retR_ok, finR_rt, seqR_nx, seqR_rt, onlyR_rt, boolD_bool, truD_bool, nt_ok, Bool.not_true, Bool.not_false, Bool.false_eq_true, if_true, if_false, ↓reduceIte, decide_true, decide_false, orR_t, orR_f, andR_t, andR_f, andV_t, andV_f, orV_t, orV_f, notV_bool, ite3_t, ite3_f, cel_t, cel_f, partI, tD0, tD1, tD2, tD3, tD4, tD5, lD0, lD1, lD2, lD3, unp2_mk, unp3_mk, unp4_mk, unp5_mk, seq_list, seq_tup, seqE_list, seqE_tup, c_tn, c_ps, c_last, c_ts, t_n, t_ws, s_0, s_1, eqB, neB, lenL, neg1, i0, s1, s2, ad, lc, ln, tp0, tp2, st, mu, er, tp6, sq]
  have all : ∀ (f : PyData → Unit → Res (Out Unit)), (∀ x ∈ badL d, f x () = .ok (.nx ())) → forD (badL d) () f = .ok (.nx ()) := fun f h => forD_unit _ h
  have hb : [PyData.none, .tuple [], eDay d.dropLast, eDay (d ++ d.take 1), .list (d.map eStd), eDay (List.replicate d.length (9, 0))] = badL d := rfl
  rw [hb, all _ fun x hx => by
    have no := bad_no hc h3 hd x hx
    have t0 : F_law_told [.int 0, eCs c, x] = .ok (refD 0) := told_no (i := 0) rfl (no.text hc) ref_case
    have t2 : F_law_told [.int 2, eCs c, .tuple (List.replicate c.ps x)] = .ok (refD 0) := told_no (i := 2) rfl ((no.wl hc).text hc) ref_case
    have ip : idxD (eCs c) (.int 1) = .ok (.int (c.ps : Int)) := rfl
    simp -implicitDefEqProofs only [allR_ok, allR_nil, ok_bind, b2_ok, asL_ok, retR_ok, finR_rt, seqR_nx, seqR_rt, onlyR_rt, boolD_bool, truD_bool, nt_ok, Bool.not_true, Bool.not_false, Bool.false_eq_true, if_true, if_false, ↓reduceIte, decide_true, decide_false, orR_t, orR_f, andR_t, andR_f, andV_t, andV_f, orV_t, orV_f, notV_bool, ite3_t, ite3_f, cel_t, cel_f, partI, tD0, tD1, tD2, tD3, tD4, tD5, lD0, lD1, lD2, lD3, unp2_mk, unp3_mk, unp4_mk, unp5_mk, seq_list, seq_tup, seqE_list, seqE_tup, c_tn, c_ps, c_last, c_ts, t_n, t_ws, s_0, s_1, eqB, neB, lenL, t0, tp2, ne_ref, tp1, ip, mul_one (show c.ps ≤ 1000 by omega), t2]]
  have r4 : rng1 [.int 4] = .ok ((List.range 4).map eN) := rng1N (n := 4) (by decide)
  have s3 : sl3 (.ok (eCs c)) (.ok none) (.ok (some 3)) = .ok (.tuple [eTwn c.tn, .int (c.ps : Int), .int (c.last : Int)]) := rfl
  simp -implicitDefEqProofs only [allR_ok, allR_nil, ok_bind, b2_ok, asL_ok, retR_ok, finR_rt, seqR_nx, seqR_rt, onlyR_rt, boolD_bool, truD_bool, nt_ok, Bool.not_true, Bool.not_false, Bool.false_eq_true, if_true, if_false, ↓reduceIte, decide_true, decide_false, orR_t, orR_f, andR_t, andR_f, andV_t, andV_f, orV_t, orV_f, notV_bool, ite3_t, ite3_f, cel_t, cel_f, partI, tD0, tD1, tD2, tD3, tD4, tD5, lD0, lD1, lD2, lD3, unp2_mk, unp3_mk, unp4_mk, unp5_mk, seq_list, seq_tup, seqE_list, seqE_tup, c_tn, c_ps, c_last, c_ts, t_n, t_ws, s_0, s_1, eqB, neB, lenL, r4, s3]
  rw [comR_enc (e := eN) (e' := refD) (f := fun _ => 0) (bigN (by simp)) fun i hi => by
    have hi := List.mem_range.mp hi
    obtain ⟨F, hF⟩ : ∃ F, tellF[i]? = some F := ⟨tellF[i]'(by exact hi), List.getElem?_eq_getElem _⟩
    have t : F_law_told [eN i, .tuple [eTwn c.tn, .int (c.ps : Int), .int (c.last : Int)], .str "a"] = .ok (refD 0) := told_no hF ((no_cut hc).four _ F (List.mem_of_getElem? hF)) ref_case
    simp -implicitDefEqProofs only [allR_ok, allR_nil, ok_bind, b2_ok, asL_ok, retR_ok, finR_rt, seqR_nx, seqR_rt, onlyR_rt, boolD_bool, truD_bool, nt_ok, Bool.not_true, Bool.not_false, Bool.false_eq_true, if_true, if_false, ↓reduceIte, decide_true, decide_false, orR_t, orR_f, andR_t, andR_f, andV_t, andV_f, orV_t, orV_f, notV_bool, ite3_t, ite3_f, cel_t, cel_f, partI, tD0, tD1, tD2, tD3, tD4, tD5, lD0, lD1, lD2, lD3, unp2_mk, unp3_mk, unp4_mk, unp5_mk, seq_list, seq_tup, seqE_list, seqE_tup, c_tn, c_ps, c_last, c_ts, t_n, t_ws, s_0, s_1, eqB, neB, lenL, t]]
  have l1 : ∀ a : PyData, lstD [a] = .ok [a] := fun _ => rfl
  have f1 : mulE (.list [.tuple [.str "refused", .int 0]]) (.int 4) = .ok (.list ([0, 0, 0, 0].map refD)) := rfl
  have f2 : eqD (.list (((List.range 4).map fun _ => (0 : Int)).map refD)) (.list ([0, 0, 0, 0].map refD)) = .ok (.bool true) := by
    rw [show (List.range 4).map (fun _ => (0 : Int)) = [0, 0, 0, 0] from rfl, cod_ref.lst.eq (by decide)]
    simp
  simp -implicitDefEqProofs only [allR_ok, allR_nil, ok_bind, b2_ok, asL_ok, retR_ok, finR_rt, seqR_nx, seqR_rt, onlyR_rt, boolD_bool, truD_bool, nt_ok, Bool.not_true, Bool.not_false, Bool.false_eq_true, if_true, if_false, ↓reduceIte, decide_true, decide_false, orR_t, orR_f, andR_t, andR_f, andV_t, andV_f, orV_t, orV_f, notV_bool, ite3_t, ite3_f, cel_t, cel_f, partI, tD0, tD1, tD2, tD3, tD4, tD5, lD0, lD1, lD2, lD3, unp2_mk, unp3_mk, unp4_mk, unp5_mk, seq_list, seq_tup, seqE_list, seqE_tup, c_tn, c_ps, c_last, c_ts, t_n, t_ws, s_0, s_1, eqB, neB, lenL, tp2, l1, f1, f2]
end Lw
namespace Lw
open PySem PySem.Spec PyProof.Rows L2 Dt
open PySem.Builtin PySem.Builtin.Str
def glue (z : List Nat) : List (List Nat) → List Nat
  | [] => []
  | [p] => p
  | p :: q :: ps => p ++ z ++ glue z (q :: ps)
theorem join_glue (z : List Nat) : ∀ ps : List (List Nat), Str.join (S z) (ps.map S) = S (glue z ps)
  | [] => rfl
  | [p] => rfl
  | p :: q :: ps => by
    show S p ++ S z ++ Str.join (S z) ((q :: ps).map S) = _
    rw [join_glue z (q :: ps), S_app, S_app]
    rfl
theorem parts_S (x : List Nat) (c : Nat) : partsBetween (S x) (posL c x 0) (S [c]).length = (splitL c x).map S := by
  unfold partsBetween
  show ((0 :: (posL c x 0).map (· + 1)).zip (posL c x 0 ++ [(S x).length])).map (fun (i, j) => strSub (S x) i j) = _
  rw [S_len]
  have := parts_run x c x 0 0 rfl (Nat.le_refl _) (Nat.zero_le _)
  rw [Nat.sub_self, List.take_zero, appH_nil] at this
  rw [← this, List.map_map]
  refine List.map_congr_left fun z _ => ?_
  exact strSub_S (S x) z.1 z.2
theorem repl_S (x : List Nat) (c : Nat) (z : List Nat) : Txt.replace (S x) (S [c]) (S z) = S (glue z (splitL c x)) := by
  have ho : occurrences (S x) (S [c]) 0 (S x).length ((S x).length + 1) = posL c x 0 := occ_one (S x) c
  have hp := parts_S x c
  unfold Txt.replace
  rw [ho]
  split
  · rename_i he
    have he : posL c x 0 = [] := by
      rw [Bool.or_eq_true] at he
      rcases he with he | he
      · exact List.isEmpty_iff.mp he
      · rw [Bool.and_eq_true] at he
        exact absurd he.1 (by rw [S_len]; simp)
    rw [he] at hp
    have h1 : partsBetween (S x) [] (S [c]).length = [S x] := by
      unfold partsBetween
      show [strSub (S x) 0 (S x).length] = _
      rw [strSub_S, S_len]
      simp [S_cps]
    rw [h1] at hp
    have : splitL c x = [x] := by
      match splitL c x, hp with
      | [y], hp =>
        have hp : [S x] = [S y] := hp
        rw [List.cons.injEq] at hp
        rw [S_inj hp.1]
      | [], hp => cases hp
      | y :: u :: ys, hp => simp at hp
    rw [this]
    rfl
  · rw [hp, PySem.StrLaws.glued_eq_join, join_glue]
theorem glue_props {z : List Nat} : ∀ {ps : List (List Nat)}, (∀ x ∈ glue z ps, x ∈ z ∨ ∃ p ∈ ps, x ∈ p) ∧ (glue z ps).length ≤ (ps.map (·.length)).sum + ps.length * z.length
  | [] => ⟨fun x hx => (nomatch hx), Nat.zero_le _⟩
  | [p] => ⟨fun x hx => .inr ⟨p, List.mem_cons_self, hx⟩, by simp [glue]⟩
  | p :: q :: ps => by
    obtain ⟨h1, h2⟩ := glue_props (z := z) (ps := q :: ps)
    refine ⟨fun x hx => ?_, ?_⟩
    · have hx : x ∈ p ++ z ++ glue z (q :: ps) := hx
      rcases List.mem_append.mp hx with hx | hx
      · rcases List.mem_append.mp hx with hx | hx
        · exact .inr ⟨p, List.mem_cons_self, hx⟩
        · exact .inl hx
      · rcases h1 x hx with y | ⟨r, hr, y⟩
        · exact .inl y
        · exact .inr ⟨r, List.mem_cons_of_mem _ hr, y⟩
    · show (p ++ z ++ glue z (q :: ps)).length ≤ _
      rw [List.length_append, List.length_append, List.map_cons, List.sum_cons, List.length_cons (a := p), Nat.succ_mul]
      omega
theorem splitL_many {c : Nat} : ∀ l : List Nat, (splitL c l).length ≤ l.length + 1
  | [] => Nat.le_refl _
  | a :: l => by
    rw [splitL_cons]
    have ih := splitL_many (c := c) l
    by_cases h : a = c
    · rw [if_pos h]
      simp
      omega
    · rw [if_neg h]
      cases e : splitL c l with
      | nil => exact absurd e (splitL_ne c l)
      | cons q qs =>
        rw [e] at ih
        simp at ih ⊢
        omega
theorem repl_small {l z : List Nat} {c : Nat} (hx : ∀ x ∈ l, x < 1000) (hz : ∀ x ∈ z, x < 1000) (hl : l.length ≤ 30) (zl : z.length ≤ 2) : (∀ x ∈ glue z (splitL c l), x < 1000) ∧ (glue z (splitL c l)).length ≤ 5000 := by
  obtain ⟨h1, h2⟩ := glue_props (z := z) (ps := splitL c l)
  refine ⟨fun x h => ?_, ?_⟩
  · rcases h1 x h with y | ⟨p, hp, y⟩
    · exact hz x y
    · exact hx x ((splitL_mem p hp).2 x y).1
  · have m := splitL_many (c := c) l
    have s := sum_le (B := 30) (ps := splitL c l) fun p hp => Nat.le_trans (splitL_mem p hp).1 hl
    have : (splitL c l).length * z.length ≤ (splitL c l).length * 2 := Nat.mul_le_mul_left _ zl
    omega
/-- the text with Z ahead -/
theorem repl_X (x : List Nat) : ∃ r, glue [90] (splitL 88 (88 :: x)) = 90 :: r := by
  rw [splitL_cons, if_pos rfl]
  cases e : splitL 88 x with
  | nil => exact absurd e (splitL_ne 88 x)
  | cons q qs => exact ⟨_, rfl⟩
theorem repl_sp (x : List Nat) : ∃ r, glue [32, 32] (splitL 32 (88 :: 32 :: x)) = 88 :: 32 :: 32 :: r := by
  rw [splitL_cons, if_neg (by decide), splitL_cons, if_pos rfl]
  cases e : splitL 32 x with
  | nil => exact absurd e (splitL_ne 32 x)
  | cons q qs => exact ⟨_, rfl⟩
def eSt (l : List Nat) : PyData := .str (S l)
theorem shp_gd {n k : Nat} {d : PyData} (h : gd n k d = true) (hk : k ≤ 60) : shp d = true := by
  obtain ⟨h1, h2⟩ := gd_ok h
  show SeqAt.shaped d = true
  unfold SeqAt.shaped
  rw [Bool.and_eq_true]
  exact ⟨h1, decide_eq_true (by omega)⟩
theorem gdS {l : List Nat} (h : ∀ x ∈ l, x < 1000) (n k : Nat) : gd n k (.str (S l)) = true := by
  have z : PyData.canLay0 (.str (S l)) = true := shp_lay (shpS h)
  cases k <;> exact z
theorem shpTxts {Ls : List (List Nat)} (h : ∀ l ∈ Ls, ∀ x ∈ l, x < 1000) : shp (.list (Ls.map eSt)) = true := shp_gd (n := Ls.length) (k := 1) (gd_lst.mpr ⟨by rw [List.length_map]; exact Nat.le_refl _, fun y hy => by
  obtain ⟨l, hl, rfl⟩ := List.mem_map.mp hy
  exact gdS (h l hl) _ _⟩) (by decide)
theorem inL_S {Ls : List (List Nat)} (h : ∀ l ∈ Ls, ∀ x ∈ l, x < 1000) {l : List Nat} (hl : ∀ x ∈ l, x < 1000) : inD (.str (S l)) (.list (Ls.map eSt)) = .ok (.bool (decide (l ∈ Ls))) := by
  show (if (shp (.str (S l)) && shp (.list (Ls.map eSt))) = true then Res.ok (PyData.bool ((Ls.map eSt).any fun z => PyData.eqv z (.str (S l)))) else .stuck) = _
  rw [shpS hl, shpTxts h, if_pos (by rfl)]
  congr 2
  rw [Bool.eq_iff_iff, List.any_eq_true, decide_eq_true_eq]
  constructor
  · rintro ⟨z, hz, e⟩
    obtain ⟨m, hm, rfl⟩ := List.mem_map.mp hz
    have : decide (m = l) = true := by rw [← eqvS]; exact e
    rw [← of_decide_eq_true this]
    exact hm
  · exact fun hm => ⟨eSt l, List.mem_map.mpr ⟨l, hm, rfl⟩, by
      show PyData.eqv (.str (S l)) (.str (S l)) = true
      rw [eqvS]; simp⟩
theorem find_S {Ls : List (List Nat)} (h : ∀ l ∈ Ls, ∀ x ∈ l, x < 1000) {l : List Nat} (hl : l ∈ Ls) : ∃ j, findD (.list (Ls.map eSt)) (.str (S l)) = .ok (.int ((j : Nat) : Int)) ∧ Ls[j]? = some l := by
  have key : ∀ M : List (List Nat), l ∈ M → ∃ j, (M.map eSt).findIdx? (fun z => PyData.eqv z (.str (S l))) = some j ∧ M[j]? = some l := fun M => by
    induction M with
    | nil => exact fun hm => nomatch hm
    | cons m M ih =>
      intro hm
      rw [List.map_cons, List.findIdx?_cons]
      have e1 : PyData.eqv (eSt m) (.str (S l)) = decide (m = l) := eqvS m l
      rw [e1]
      by_cases q : m = l
      · exact ⟨0, by simp [q], by simp [q]⟩
      · obtain ⟨j, j1, j2⟩ := ih ((List.mem_cons.mp hm).resolve_left fun z => q z.symm)
        exact ⟨j + 1, by rw [j1]; simp [q], by simpa using j2⟩
  obtain ⟨j, j1, j2⟩ := key Ls hl
  refine ⟨j, ?_, j2⟩
  show (if (shp (.list (Ls.map eSt)) && shp (.str (S l))) = true then match (Ls.map eSt).findIdx? (fun z => PyData.eqv z (.str (S l))) with
    | some j => Res.ok (PyData.int ((j : Nat) : Int))
    | none => .stuck else .stuck) = _
  rw [shpTxts h, shpS (h l hl), if_pos (by rfl), j1]
theorem set_S {Ls : List (List Nat)} (nd : Ls.Nodup) (few : Ls.length < 300) : lenSetT (.list (Ls.map eSt)) = .ok (.int (Ls.length : Int)) := by
  have e : Ls.map eSt = (Ls.map S).map PyData.str := by rw [List.map_map]; rfl
  show (match strsD (Ls.map eSt) with
    | some ks => if ks.Nodup ∧ ks.length < 300 then Res.ok (PyData.int (ks.length : Int)) else .stuck
    | none => .stuck) = _
  rw [e, strsD_map]
  have nd2 : (Ls.map S).Nodup := by
    refine List.Pairwise.map _ ?_ nd
    exact fun a b h z => h (S_inj z)
  dsimp only
  rw [if_pos ⟨nd2, by rw [List.length_map]; exact few⟩, List.length_map]
theorem law_sign_enc {s : Std} (h : s.1 < 5) : F_law_sign [eStd s] = .ok (.str (S [sgn s])) := by
  rw [F_law_sign_eq]
  unfold m_law_sign
  unfold sgn
  by_cases q : s.2 = 0
  · simp -implicitDefEqProofs only [allR_ok, allR_nil, ok_bind, b2_ok, asL_ok, retR_ok, finR_rt, seqR_nx, seqR_rt, onlyR_rt, boolD_bool, truD_bool, nt_ok, Bool.not_true, Bool.not_false, Bool.false_eq_true, if_true, if_false, ↓reduceIte, decide_true, decide_false, orR_t, orR_f, andR_t, andR_f, andV_t, andV_f, orV_t, orV_f, notV_bool, ite3_t, ite3_f, cel_t, cel_f, partI, tD0, tD1, tD2, tD3, tD4, tD5, lD0, lD1, lD2, lD3, unp2_mk, unp3_mk, unp4_mk, unp5_mk, seq_list, seq_tup, seqE_list, seqE_tup, c_tn, c_ps, c_last, c_ts, t_n, t_ws, s_0, s_1, eqB, neB, lenL, eq0N, q, pl_at h]
  · simp -implicitDefEqProofs only [allR_ok, allR_nil, ok_bind, b2_ok, asL_ok, retR_ok, finR_rt, seqR_nx, seqR_rt, onlyR_rt, boolD_bool, truD_bool, nt_ok, Bool.not_true, Bool.not_false, Bool.false_eq_true, if_true, if_false, ↓reduceIte, decide_true, decide_false, orR_t, orR_f, andR_t, andR_f, andV_t, andV_f, orV_t, orV_f, notV_bool, ite3_t, ite3_f, cel_t, cel_f, partI, tD0, tD1, tD2, tD3, tD4, tD5, lD0, lD1, lD2, lD3, unp2_mk, unp3_mk, unp4_mk, unp5_mk, seq_list, seq_tup, seqE_list, seqE_tup, c_tn, c_ps, c_last, c_ts, t_n, t_ws, s_0, s_1, eqB, neB, lenL, eq0N, q, gr_at h]
theorem dayL_inj {c : Cs} (hc : CsOk c) {a b : Day} (ha : DayOk c.tn c.last a) (hb : DayOk c.tn c.last b) (e : dayL a = dayL b) : a = b := by
  have h1 := read_day_enc hc ha
  have h2 := read_day_enc hc hb
  rw [e, h2] at h1
  rw [Res.ok.injEq] at h1
  exact (eDay_same h1).symm
theorem dayL_small {c : Cs} (hc : CsOk c) {d : Day} (h : DayOk c.tn c.last d) : ∀ x ∈ dayL d, x < 1000 := day_small hc.tn.n5 h.std
theorem texts_nodup {c : Cs} (hc : CsOk c) : ((daysT c.tn c.last).map dayL).Nodup := by
  have h := daysT_nodup hc.tn c.last
  refine List.pairwise_map.mpr (List.Pairwise.imp_of_mem (fun {a b} ha hb hab e => hab ?_) h)
  exact dayL_inj hc (daysT_ok hc.tn _ a ha) (daysT_ok hc.tn _ b hb) e
end Lw
namespace Lw
open PySem PySem.Spec PyProof.Rows L2 Dt

theorem at_map {γ : Type} {e : γ → PyData} {xs : List γ} {i : Nat} {x : γ} (h : xs[i]? = some x) : idxD (.list (xs.map e)) (.int (i : Int)) = .ok (e x) := by
  have hi : i < xs.length := (List.getElem?_eq_some_iff.mp h).1
  show (match L2.atI (xs.map e) (i : Int) with | some d => Res.ok d | none => .stuck) = _
  have e1 : L2.atI (xs.map e) (i : Int) = some (e x) := by
    unfold L2.atI L2.ixN
    rw [List.length_map, if_pos (by omega), if_pos (by omega)]
    show (xs.map e)[((i : Int)).toNat]? = _
    rw [List.getElem?_map, Int.toNat_natCast, h]
    rfl
  rw [e1]
theorem at_S {w : List Nat} {i x : Nat} (hw : w.length ≤ 10000) (h : w[i]? = some x) : idxD (.str (S w)) (.int (i : Int)) = .ok (.str (S [x])) := by
  have hi : i < w.length := (List.getElem?_eq_some_iff.mp h).1
  show (if (S w).length ≤ sizeLine then (match L2.atI w (i : Int) with | some c => Res.ok (PyData.str ⟨#[c]⟩) | none => .stuck) else .stuck) = _
  rw [if_pos (by rw [S_len, sizeLine_eq]; omega)]
  have e : L2.atI w (i : Int) = some x := by
    unfold L2.atI L2.ixN
    rw [if_pos (by omega), if_pos (by omega)]
    exact h
  rw [e]
  rfl
def sgL2 : List Nat := [97, 98, 99, 65, 66, 67, 100, 32, 45]
theorem s_sg2 : ("abcABCd -" : Str) = S sgL2 := by decide +kernel
theorem s_X : ("X" : Str) = S [88] := by decide +kernel
theorem s_Z : ("Z" : Str) = S [90] := by decide +kernel
theorem s_2sp : ("  " : Str) = S [32, 32] := by decide +kernel
theorem texts_all : ∀ {ds : List PyData} {f : PyData → Unit → Res (Out Unit)}, (∀ d ∈ ds, f d () = .ok (.nx ())) → forD ds () f = .ok (.nx ())
  | [], _, _ => rfl
  | d :: ds, f, h => by
    rw [forD_cons, h d List.mem_cons_self, seqR_nx, texts_all fun e he => h e (List.mem_cons_of_mem _ he)]
theorem law_texts_enc {c : Cs} (hc : CsOk c) {f : PyData → Res (Option PyData)} {Ds : List Day} (hD : ∀ d ∈ Ds, DayOk c.tn c.last d) (hl : Ds.length ≤ 1000)
    (hf : ∀ d ∈ Ds, f (eDay d) = cel (.ok true) (asL (comR (.ok (d.map eStd)) (fun s => cel (.ok true) (F_law_sign [s]))) >>= fun u => joinD (.str (S [])) u)) : comR (.ok (Ds.map eDay)) f = .ok ((Ds.map dayL).map eSt) := by
  refine comR_enc (e := eDay) (e' := eSt) (f := dayL) (bigN (by omega)) fun d hd => ?_
  have h5 := hc.tn.n5
  have h9 := hc.l9
  have ok := hD d hd
  have hl := ok.len
  rw [hf d hd, comR_enc (e := eStd) (e' := fun l => PyData.str (S l)) (f := fun s => [sgn s]) (bigN (by omega)) fun s hs => by
    simp -implicitDefEqProofs only [allR_ok, allR_nil, ok_bind, b2_ok, asL_ok, retR_ok, finR_rt, seqR_nx, seqR_rt, onlyR_rt, boolD_bool, truD_bool, nt_ok, Bool.not_true, Bool.not_false, Bool.false_eq_true, if_true, if_false, ↓reduceIte, decide_true, decide_false, orR_t, orR_f, andR_t, andR_f, andV_t, andV_f, orV_t, orV_f, notV_bool, ite3_t, ite3_f, cel_t, cel_f, partI, tD0, tD1, tD2, tD3, tD4, tD5, lD0, lD1, lD2, lD3, unp2_mk, unp3_mk, unp4_mk, unp5_mk, seq_list, seq_tup, seqE_list, seqE_tup, c_tn, c_ps, c_last, c_ts, t_n, t_ws, s_0, s_1, eqB, neB, lenL, law_sign_enc (show s.1 < 5 by have := (ok.std s hs).1; omega)]]
  have fl : ∀ d : Day, (d.map fun s => [sgn s]).flatten = dayL d := fun d => by
    induction d with
    | nil => rfl
    | cons x xs ih => rw [List.map_cons, List.flatten_cons, ih]; rfl
  have ct := catS (ps := d.map fun s => [sgn s]) (by
    refine Nat.le_trans (sum_le (B := 1) fun p hp => ?_) ?_
    · obtain ⟨s, _, rfl⟩ := List.mem_map.mp hp
      simp
    · rw [List.length_map]; omega)
  rw [fl] at ct
  simp -implicitDefEqProofs only [allR_ok, allR_nil, ok_bind, b2_ok, asL_ok, retR_ok, finR_rt, seqR_nx, seqR_rt, onlyR_rt, boolD_bool, truD_bool, nt_ok, Bool.not_true, Bool.not_false, Bool.false_eq_true, if_true, if_false, ↓reduceIte, decide_true, decide_false, orR_t, orR_f, andR_t, andR_f, andV_t, andV_f, orV_t, orV_f, notV_bool, ite3_t, ite3_f, cel_t, cel_f, partI, tD0, tD1, tD2, tD3, tD4, tD5, lD0, lD1, lD2, lD3, unp2_mk, unp3_mk, unp4_mk, unp5_mk, seq_list, seq_tup, seqE_list, seqE_tup, c_tn, c_ps, c_last, c_ts, t_n, t_ws, s_0, s_1, eqB, neB, lenL, ct]
  rfl
theorem sl_from1 {γ : Type} {e : γ → PyData} {xs : List γ} (h : 1 ≤ xs.length) : sl3 (.ok (.list (xs.map e))) (.ok (some 1)) (.ok none) = .ok (.list ((xs.drop 1).map e)) := by
  show Res.ok (PyData.list (Dt.cutD (xs.map e) (some ((1 : Nat) : Int)) none)) = _
  unfold Dt.cutD
  rw [HT.sIx_nat, HT.sIx_none, List.length_map, Nat.min_eq_left h, List.map_drop]
  congr 2
  exact List.take_of_length_le (by rw [List.length_drop, List.length_map]; exact Nat.le_refl _)
theorem head_drop {α : Type} {L : List α} {x : α} (h : L[0]? = some x) : L = x :: L.drop 1 := by
  cases L with
  | nil => cases h
  | cons y ys =>
    have h : some y = some x := h
    cases h
    rfl
theorem hLaw : ∀ ns : List Int, ns.length ≤ 63 → F_law [scrD ns] = .ok (.bool true) := fun ns hl => by
  obtain ⟨c, ec, D⟩ := case_drawn ns hl 0 2 (by decide)
  have ec : F_law_case [scrD ns, .int 0, .int 2] = .ok (eCs c) := ec
  have hc := D.ok
  have n3 := D.n3
  have p2 := D.p2
  have l4 := D.l4
  have p1 := hc.p1
  have h5 := hc.tn.n5
  have h9 := hc.l9
  have de := D.days_enc
  have dpos := daysT_pos hc.tn c.last
  have dmany : (daysT c.tn c.last).length ≤ 81 := by
    have h := days_n hc.tn c.last
    have h1 : c.tn.n ^ c.last ≤ 3 ^ c.last := Nat.pow_le_pow_left n3 _
    have h2 : 3 ^ c.last ≤ 3 ^ 3 := Nat.pow_le_pow_right (by decide) (by omega)
    exact Nat.le_trans h (Nat.mul_le_mul n3 (Nat.le_trans h1 h2))
  have dok := daysT_ok hc.tn c.last
  have nd := texts_nodup hc
  have mem : ∀ d, DayOk c.tn c.last d → d ∈ daysT c.tn c.last := fun d h => (mem_daysT hc.tn).mpr h
  generalize daysT c.tn c.last = Ds at de dpos dmany dok nd mem
  obtain ⟨Ls, hLs⟩ : ∃ Ls, Ls = Ds.map dayL := ⟨_, rfl⟩
  have Ll : Ls.length = Ds.length := by rw [hLs, List.length_map]
  have Lsm : ∀ l ∈ Ls, ∀ x ∈ l, x < 1000 := fun l h => by
    rw [hLs] at h
    obtain ⟨d, hd, rfl⟩ := List.mem_map.mp h
    exact dayL_small hc (dok d hd)
  rw [← hLs] at nd
  rw [F_law_eq]
  unfold m_law
  have sl : seqOf (.list (Ds.map eDay)) = .ok (Ds.map eDay) := rfl
  simp -implicitDefEqProofs only [allR_ok, allR_nil, ok_bind, b2_ok, asL_ok, retR_ok, finR_rt, seqR_nx, seqR_rt, onlyR_rt, boolD_bool, truD_bool, nt_ok, Bool.not_true, Bool.not_false, Bool.false_eq_true, if_true, if_false, ↓reduceIte, decide_true, decide_false, orR_t, orR_f, andR_t, andR_f, andV_t, andV_f, orV_t, orV_f, notV_bool, ite3_t, ite3_f, cel_t, cel_f, partI, tD0, tD1, tD2, tD3, tD4, tD5, lD0, lD1, lD2, lD3, unp2_mk, unp3_mk, unp4_mk, unp5_mk, seq_list, seq_tup, seqE_list, seqE_tup, c_tn, c_ps, c_last, c_ts, t_n, t_ws, s_0, s_1, eqB, neB, lenL, ec, de, sl]
  rw [law_texts_enc hc dok (by omega) fun d hd => by
    have sd : seqOf (eDay d) = .ok (d.map eStd) := rfl
    simp -implicitDefEqProofs only [allR_ok, allR_nil, ok_bind, b2_ok, asL_ok, retR_ok, finR_rt, seqR_nx, seqR_rt, onlyR_rt, boolD_bool, truD_bool, nt_ok, Bool.not_true, Bool.not_false, Bool.false_eq_true, if_true, if_false, ↓reduceIte, decide_true, decide_false, orR_t, orR_f, andR_t, andR_f, andV_t, andV_f, orV_t, orV_f, notV_bool, ite3_t, ite3_f, cel_t, cel_f, partI, tD0, tD1, tD2, tD3, tD4, tD5, lD0, lD1, lD2, lD3, unp2_mk, unp3_mk, unp4_mk, unp5_mk, seq_list, seq_tup, seqE_list, seqE_tup, c_tn, c_ps, c_last, c_ts, t_n, t_ws, s_0, s_1, eqB, neB, lenL, sd, s_no, onS_str]]
  rw [← hLs]
  have ss := set_S nd (by omega)
  have ne1 : neD (.int (Ls.length : Int)) (.int (Ds.length : Int)) = .ok (.bool false) := by rw [neN, Ll]; simp
  have r6 : rng1 [.int 6] = .ok ((List.range 6).map eN) := rng1N (n := 6) (by decide)
  simp -implicitDefEqProofs only [allR_ok, allR_nil, ok_bind, b2_ok, asL_ok, retR_ok, finR_rt, seqR_nx, seqR_rt, onlyR_rt, boolD_bool, truD_bool, nt_ok, Bool.not_true, Bool.not_false, Bool.false_eq_true, if_true, if_false, ↓reduceIte, decide_true, decide_false, orR_t, orR_f, andR_t, andR_f, andV_t, andV_f, orV_t, orV_f, notV_bool, ite3_t, ite3_f, cel_t, cel_f, partI, tD0, tD1, tD2, tD3, tD4, tD5, lD0, lD1, lD2, lD3, unp2_mk, unp3_mk, unp4_mk, unp5_mk, seq_list, seq_tup, seqE_list, seqE_tup, c_tn, c_ps, c_last, c_ts, t_n, t_ws, s_0, s_1, eqB, neB, lenL, ss, List.length_map, ne1, r6]
  rw [forD_un]
  · have rp : rng1 [.int (c.ps : Int)] = .ok ((List.range c.ps).map eN) := rng1N (by omega)
    simp -implicitDefEqProofs only [allR_ok, allR_nil, ok_bind, b2_ok, asL_ok, retR_ok, finR_rt, seqR_nx, seqR_rt, onlyR_rt, boolD_bool, truD_bool, nt_ok, Bool.not_true, Bool.not_false, Bool.false_eq_true, if_true, if_false, ↓reduceIte, decide_true, decide_false, orR_t, orR_f, andR_t, andR_f, andV_t, andV_f, orV_t, orV_f, notV_bool, ite3_t, ite3_f, cel_t, cel_f, partI, tD0, tD1, tD2, tD3, tD4, tD5, lD0, lD1, lD2, lD3, unp2_mk, unp3_mk, unp4_mk, unp5_mk, seq_list, seq_tup, seqE_list, seqE_tup, c_tn, c_ps, c_last, c_ts, t_n, t_ws, s_0, s_1, eqB, neB, lenL, rp]
    rw [comR_enc (e := eN) (e' := eN) (f := fun p => drw ns (110 + (p : Int)) (Ds.length : Int)) (bigN (by simp; omega)) fun p _ => by
      have ad : addD (.int 110) (eN p) = .ok (.int (110 + (p : Int))) := rfl
      simp -implicitDefEqProofs only [allR_ok, allR_nil, ok_bind, b2_ok, asL_ok, retR_ok, finR_rt, seqR_nx, seqR_rt, onlyR_rt, boolD_bool, truD_bool, nt_ok, Bool.not_true, Bool.not_false, Bool.false_eq_true, if_true, if_false, ↓reduceIte, decide_true, decide_false, orR_t, orR_f, andR_t, andR_f, andV_t, andV_f, orV_t, orV_f, notV_bool, ite3_t, ite3_f, cel_t, cel_f, partI, tD0, tD1, tD2, tD3, tD4, tD5, lD0, lD1, lD2, lD3, unp2_mk, unp3_mk, unp4_mk, unp5_mk, seq_list, seq_tup, seqE_list, seqE_tup, c_tn, c_ps, c_last, c_ts, t_n, t_ws, s_0, s_1, eqB, neB, lenL, ad, List.length_map, (drw_nat hl (110 + (p : Int)) dpos).1]]
    have hnum : ∀ n ∈ (List.range c.ps).map (fun p : Nat => drw ns (110 + (p : Int)) (Ds.length : Int)), n < Ds.length := fun n hn => by
      obtain ⟨p, _, rfl⟩ := List.mem_map.mp hn
      exact (drw_nat hl (110 + (p : Int)) dpos).2
    have hnl : ((List.range c.ps).map (fun p : Nat => drw ns (110 + (p : Int)) (Ds.length : Int))).length = c.ps := by rw [List.length_map, List.length_range]
    generalize (List.range c.ps).map (fun p : Nat => drw ns (110 + (p : Int)) (Ds.length : Int)) = nums at hnum hnl
    have dayAt : ∀ n ∈ nums, ∃ d, Ds[n]? = some d ∧ Ds.getD n [] = d := fun n hn => ⟨Ds[n]'(hnum n hn), List.getElem?_eq_getElem _, by rw [List.getD_eq_getElem?_getD, List.getElem?_eq_getElem (hnum n hn)]; rfl⟩
    simp -implicitDefEqProofs only [allR_ok, allR_nil, ok_bind, b2_ok, asL_ok, retR_ok, finR_rt, seqR_nx, seqR_rt, onlyR_rt, boolD_bool, truD_bool, nt_ok, Bool.not_true, Bool.not_false, Bool.false_eq_true, if_true, if_false, ↓reduceIte, decide_true, decide_false, orR_t, orR_f, andR_t, andR_f, andV_t, andV_f, orV_t, orV_f, notV_bool, ite3_t, ite3_f, cel_t, cel_f, partI, tD0, tD1, tD2, tD3, tD4, tD5, lD0, lD1, lD2, lD3, unp2_mk, unp3_mk, unp4_mk, unp5_mk, seq_list, seq_tup, seqE_list, seqE_tup, c_tn, c_ps, c_last, c_ts, t_n, t_ws, s_0, s_1, eqB, neB, lenL]
    rw [comR_enc (e := eN) (e' := eDay) (f := fun n => Ds.getD n []) (bigN (by omega)) fun n hn => by
      obtain ⟨d, h1, h2⟩ := dayAt n hn
      have i1 : idxD (.list (Ds.map eDay)) (eN n) = .ok (eDay d) := at_map h1
      simp -implicitDefEqProofs only [allR_ok, allR_nil, ok_bind, b2_ok, asL_ok, retR_ok, finR_rt, seqR_nx, seqR_rt, onlyR_rt, boolD_bool, truD_bool, nt_ok, Bool.not_true, Bool.not_false, Bool.false_eq_true, if_true, if_false, ↓reduceIte, decide_true, decide_false, orR_t, orR_f, andR_t, andR_f, andV_t, andV_f, orV_t, orV_f, notV_bool, ite3_t, ite3_f, cel_t, cel_f, partI, tD0, tD1, tD2, tD3, tD4, tD5, lD0, lD1, lD2, lD3, unp2_mk, unp3_mk, unp4_mk, unp5_mk, seq_list, seq_tup, seqE_list, seqE_tup, c_tn, c_ps, c_last, c_ts, t_n, t_ws, s_0, s_1, eqB, neB, lenL, i1, h2]]
    obtain ⟨w, hw⟩ : ∃ w, w = nums.map fun n => Ds.getD n [] := ⟨_, rfl⟩
    rw [← hw]
    have wok : WldOk c w := ⟨by rw [hw, List.length_map, hnl], fun d hd => by
      rw [hw] at hd
      obtain ⟨n, hn, rfl⟩ := List.mem_map.mp hd
      obtain ⟨d', h1, h2⟩ := dayAt n hn
      rw [h2]
      exact dok d' (List.mem_of_getElem? h1)⟩
    have tc : tupC [.list (w.map eDay)] = .ok (eWld w) := rfl
    simp -implicitDefEqProofs only [allR_ok, allR_nil, ok_bind, b2_ok, asL_ok, retR_ok, finR_rt, seqR_nx, seqR_rt, onlyR_rt, boolD_bool, truD_bool, nt_ok, Bool.not_true, Bool.not_false, Bool.false_eq_true, if_true, if_false, ↓reduceIte, decide_true, decide_false, orR_t, orR_f, andR_t, andR_f, andV_t, andV_f, orV_t, orV_f, notV_bool, ite3_t, ite3_f, cel_t, cel_f, partI, tD0, tD1, tD2, tD3, tD4, tD5, lD0, lD1, lD2, lD3, unp2_mk, unp3_mk, unp4_mk, unp5_mk, seq_list, seq_tup, seqE_list, seqE_tup, c_tn, c_ps, c_last, c_ts, t_n, t_ws, s_0, s_1, eqB, neB, lenL, tc, enum_mapL]
    rw [comR_enc (e := fun p : Nat × Nat => PyData.tuple [.int (p.2 : Int), eN p.1]) (e' := eSt) (f := fun p => rowW p.2 (Ds.getD p.1 []) ++ [10]) (bigN (by rw [List.length_zipIdx]; omega)) fun p hp => by
      have hp' := List.mem_zipIdx_iff_getElem?.mp (show (p.1, p.2) ∈ nums.zipIdx from hp)
      have hp2 : p.2 < c.ps := by rw [← hnl]; exact (List.getElem?_eq_some_iff.mp hp').1
      obtain ⟨d, h1, h2⟩ := dayAt p.1 (List.mem_of_getElem? hp')
      have ok := dok d (List.mem_of_getElem? h1)
      have dl : (dayL d).length ≤ 10 := by unfold dayL; rw [List.length_map, ok.len]; omega
      have i2 : idxD (.list (Ls.map eSt)) (eN p.1) = .ok (.str (S (dayL d))) := at_map (e := eSt) (by rw [hLs, List.getElem?_map, h1]; rfl)
      simp -implicitDefEqProofs only [allR_ok, allR_nil, ok_bind, b2_ok, asL_ok, retR_ok, finR_rt, seqR_nx, seqR_rt, onlyR_rt, boolD_bool, truD_bool, nt_ok, Bool.not_true, Bool.not_false, Bool.false_eq_true, if_true, if_false, ↓reduceIte, decide_true, decide_false, orR_t, orR_f, andR_t, andR_f, andV_t, andV_f, orV_t, orV_f, notV_bool, ite3_t, ite3_f, cel_t, cel_f, partI, tD0, tD1, tD2, tD3, tD4, tD5, lD0, lD1, lD2, lD3, unp2_mk, unp3_mk, unp4_mk, unp5_mk, seq_list, seq_tup, seqE_list, seqE_tup, c_tn, c_ps, c_last, c_ts, t_n, t_ws, s_0, s_1, eqB, neB, lenL, nm_at (show p.2 < 3 by omega), s_sp, s_nl, i2, addX (a := [88 + p.2]) (b := [32]) (by simp), addX (a := [88 + p.2] ++ [32]) (b := dayL d) (by simp; omega), addX (a := [88 + p.2] ++ [32] ++ dayL d) (b := [10]) (by simp; omega), h2]
      rfl]
    obtain ⟨LL, hLL⟩ : ∃ LL, LL = nums.zipIdx.map fun p => rowW p.2 (Ds.getD p.1 []) ++ [10] := ⟨_, rfl⟩
    rw [← hLL]
    have eLL : LL = (rowsW w).map (· ++ [10]) := by
      rw [hLL, hw]
      unfold rowsW
      rw [List.zipIdx_map, List.map_map, List.map_map]
      rfl
    have fl : LL.flatten = wldT w := by rw [eLL, lines_flat]; rfl
    have rl : (rowsW w).length = c.ps := by unfold rowsW; rw [List.length_map, List.length_zipIdx, wok.len]
    have LLl : LL.length = c.ps := by rw [eLL, List.length_map, rl]
    have LLe : ∀ l ∈ LL, l.length = c.last + 4 ∧ ∀ x ∈ l, x < 1000 := fun l hl' => by
      rw [eLL] at hl'
      obtain ⟨r, hr, rfl⟩ := List.mem_map.mp hl'
      refine ⟨by rw [List.length_append, row_len wok r hr]; rfl, fun x hx => ?_⟩
      rcases List.mem_append.mp hx with hx | hx
      · exact (row_nl hc wok r hr).2 x hx
      · rw [List.mem_singleton.mp hx]; decide
    have Tsm : ∀ x ∈ wldT w, x < 1000 := lines_small fun p hp => (row_nl hc wok p hp).2
    have Tl := wldT_len wok
    have Tl14 : c.ps * (c.last + 4) ≤ 2 * 7 := Nat.mul_le_mul p2 (by omega)
    have Tl4 : c.last + 4 ≤ c.ps * (c.last + 4) := Nat.le_mul_of_pos_left _ p1
    obtain ⟨hx, hrest, hT, hx65⟩ := wldT_head hc wok
    have t2 : F_law_told [.int 2, eCs c, eWld w] = .ok (.str (S (wldT w))) := told_ok (i := 2) rfl (world_text_enc hc wok)
    have t3 : F_law_told [.int 3, eCs c, .str (S (wldT w))] = .ok (eWld w) := told_ok (i := 3) rfl (read_world_enc hc wok)
    have no : ∀ l : List Nat, (∀ x ∈ l, x < 1000) → l.length ≤ 5000 → (∀ v, WldOk c v → l ≠ wldT v) → F_law_told [.int 3, eCs c, .str (S l)] = .ok (refD 1) := fun l h1 h2 h3 => told_no (i := 3) rfl (read_world_no hc n3 h1 h2 h3) ref_text
    have noLen : ∀ l : List Nat, l.length ≠ c.ps * (c.last + 4) → ∀ v, WldOk c v → l ≠ wldT v := fun l h v hv e => h (by rw [e]; exact wldT_len hv)
    generalize hTT : wldT w = T at fl Tsm Tl hT t2 t3
    have ct := catS (ps := LL) (by
      have := sum_le (B := 7) (ps := LL) fun p hp => by rw [(LLe p hp).1]; omega
      omega)
    rw [fl] at ct
    have ct : joinD (.str (S [])) (.list (LL.map eSt)) = .ok (.str (S T)) := ct
    have n1 : neD (.str (S T)) (.str (S T)) = .ok (.bool false) := (neS Tsm Tsm).trans (by simp)
    have n2 : neD (eWld w) (eWld w) = .ok (.bool false) := by rw [cod_wld.ne (by decide)]; simp
    obtain ⟨l0, hl0⟩ : ∃ l0, LL[0]? = some l0 := ⟨LL[0]'(by omega), List.getElem?_eq_getElem _⟩
    have ml0 := List.mem_of_getElem? hl0
    have i0 : idxD (.list (LL.map eSt)) (.int 0) = .ok (.str (S l0)) := at_map (e := eSt) (i := 0) hl0
    have k1 := cut_m1S (l := T) (by omega)
    have p1' := addX (a := T) (b := [10]) (by simp; omega)
    have p2' := addX (a := T) (b := l0) (by rw [(LLe l0 ml0).1]; omega)
    have p3' := addX (a := [10]) (b := T) (by simp; omega)
    have s1 := sl_from1 (e := eSt) (xs := LL) (by omega)
    have ct1 : joinD (.str (S [])) (.list ((LL.drop 1).map eSt)) = .ok (.str (S (LL.drop 1).flatten)) := catS (ps := LL.drop 1) (by
      have := sum_le (B := 7) (ps := LL.drop 1) fun p hp => by rw [(LLe p (List.mem_of_mem_drop hp)).1]; omega
      rw [List.length_drop] at this
      omega)
    have r1 : repD "X" "Z" (.str (S T)) = .ok (.str (S (glue [90] (splitL 88 T)))) := by
      rw [s_X, s_Z]
      show (if (S T).length + ((S T).length + 1) * (S [90]).length ≤ 16777216 then Res.ok (PyData.str (Txt.replace (S T) (S [88]) (S [90]))) else .stuck) = _
      rw [if_pos (by rw [S_len, S_len]; show T.length + (T.length + 1) * 1 ≤ _; omega), repl_S]
    have r2 : repD " " "  " (.str (S T)) = .ok (.str (S (glue [32, 32] (splitL 32 T)))) := by
      rw [s_sp, s_2sp]
      show (if (S T).length + ((S T).length + 1) * (S [32, 32]).length ≤ 16777216 then Res.ok (PyData.str (Txt.replace (S T) (S [32]) (S [32, 32]))) else .stuck) = _
      rw [if_pos (by rw [S_len, S_len]; show T.length + (T.length + 1) * 2 ≤ _; omega), repl_S]
    have l6 : ∀ a b c d e f : PyData, lstD [a, b, c, d, e, f] = .ok [a, b, c, d, e, f] := fun _ _ _ _ _ _ => rfl
    have ad8 : ∀ a b c d e f g h : PyData, addD (.list [a, b, c, d, e, f]) (.list [g, h]) = .ok (.list [a, b, c, d, e, f, g, h]) := fun _ _ _ _ _ _ _ _ => rfl
    have sq : ∀ ds : List PyData, seqL (.list ds) = .ok ds := fun _ => rfl
    have tp2 : ∀ a b, tupD [a, b] = .ok (.tuple [a, b]) := fun _ _ => rfl
    simp -implicitDefEqProofs only [allR_ok, allR_nil, ok_bind, b2_ok, asL_ok, retR_ok, finR_rt, seqR_nx, seqR_rt, onlyR_rt, boolD_bool, truD_bool, nt_ok, Bool.not_true, Bool.not_false, Bool.false_eq_true, if_true, if_false, ↓reduceIte, decide_true, decide_false, orR_t, orR_f, andR_t, andR_f, andV_t, andV_f, orV_t, orV_f, notV_bool, ite3_t, ite3_f, cel_t, cel_f, partI, tD0, tD1, tD2, tD3, tD4, tD5, lD0, lD1, lD2, lD3, unp2_mk, unp3_mk, unp4_mk, unp5_mk, seq_list, seq_tup, seqE_list, seqE_tup, c_tn, c_ps, c_last, c_ts, t_n, t_ws, s_0, s_1, eqB, neB, lenL, onS_str, s_no, ct, t2, n1, t3, n2, neg1, k1, s_nl, p1', i0, p2', p3', s1, ct1, l6, r1, r2, ad8, sq]
    have Bs : ∀ l ∈ [[], T.take (T.length - 1), T ++ [10], T ++ l0, [10] ++ T, (LL.drop 1).flatten, glue [90] (splitL 88 T), glue [32, 32] (splitL 32 T)], F_law_told [.int 3, eCs c, .str (S l)] = .ok (refD 1) := fun l hl' => by
      simp only [List.mem_cons, List.not_mem_nil, or_false] at hl'
      rcases hl' with rfl | rfl | rfl | rfl | rfl | rfl | rfl | rfl
      · exact no _ (fun x hx => (nomatch hx)) (by simp) (noLen _ (by simp; omega))
      · exact no _ (fun x hx => Tsm x (List.mem_of_mem_take hx)) (by rw [List.length_take]; omega) (noLen _ (by rw [List.length_take]; omega))
      · exact no _ (fun x hx => (List.mem_append.mp hx).elim (Tsm x) fun h => by rw [List.mem_singleton.mp h]; decide) (by simp; omega) (noLen _ (by simp; omega))
      · exact no _ (fun x hx => (List.mem_append.mp hx).elim (Tsm x) fun h => (LLe l0 ml0).2 x h) (by rw [List.length_append, (LLe l0 ml0).1]; omega) (noLen _ (by rw [List.length_append, (LLe l0 ml0).1]; omega))
      · exact no _ (fun x hx => (List.mem_append.mp hx).elim (fun h => by rw [List.mem_singleton.mp h]; decide) (Tsm x)) (by simp; omega) (noLen _ (by simp; omega))
      · have fsum : T.length = l0.length + (LL.drop 1).flatten.length := by
          have this := head_drop hl0
          rw [← fl]
          conv => lhs; rw [this]
          rw [List.flatten_cons, List.length_append]
        rw [(LLe l0 ml0).1] at fsum
        exact no _ (fun x hx => by
          obtain ⟨p, hp, hx⟩ := List.mem_flatten.mp hx
          exact (LLe p (List.mem_of_mem_drop hp)).2 x hx) (by omega) (noLen _ (by omega))
      · obtain ⟨s1, s2⟩ := repl_small (c := 88) (z := [90]) Tsm (by decide) (by omega) (by simp)
        refine no _ s1 s2 fun v hv e => ?_
        obtain ⟨y, r, hv1, _⟩ := wldT_head hc hv
        obtain ⟨r', e2⟩ := repl_X (32 :: hx :: hrest)
        rw [hT, e2, hv1] at e
        cases e
      · obtain ⟨s1, s2⟩ := repl_small (c := 32) (z := [32, 32]) Tsm (by decide) (by omega) (by simp)
        refine no _ s1 s2 fun v hv e => ?_
        obtain ⟨y, r, hv1, hy⟩ := wldT_head hc hv
        obtain ⟨r', e2⟩ := repl_sp (hx :: hrest)
        rw [hT, e2, hv1] at e
        simp at e
        omega
    rw [texts_all fun d hd => by
      obtain ⟨l, hl', rfl⟩ : ∃ l ∈ [[], T.take (T.length - 1), T ++ [10], T ++ l0, [10] ++ T, (LL.drop 1).flatten, glue [90] (splitL 88 T), glue [32, 32] (splitL 32 T)], d = .str (S l) := by
        simp only [List.mem_cons, List.not_mem_nil, or_false] at hd
        rcases hd with rfl | rfl | rfl | rfl | rfl | rfl | rfl | rfl
        · exact ⟨_, by simp, rfl⟩
        · exact ⟨T.take (T.length - 1), by simp, rfl⟩
        · exact ⟨T ++ [10], by simp, rfl⟩
        · exact ⟨T ++ l0, by simp, rfl⟩
        · exact ⟨[10] ++ T, by simp, rfl⟩
        · exact ⟨(LL.drop 1).flatten, by simp, rfl⟩
        · exact ⟨glue [90] (splitL 88 T), by simp, rfl⟩
        · exact ⟨glue [32, 32] (splitL 32 T), by simp, rfl⟩
      simp -implicitDefEqProofs only [allR_ok, allR_nil, ok_bind, b2_ok, asL_ok, retR_ok, finR_rt, seqR_nx, seqR_rt, onlyR_rt, boolD_bool, truD_bool, nt_ok, Bool.not_true, Bool.not_false, Bool.false_eq_true, if_true, if_false, ↓reduceIte, decide_true, decide_false, orR_t, orR_f, andR_t, andR_f, andV_t, andV_f, orV_t, orV_f, notV_bool, ite3_t, ite3_f, cel_t, cel_f, partI, tD0, tD1, tD2, tD3, tD4, tD5, lD0, lD1, lD2, lD3, unp2_mk, unp3_mk, unp4_mk, unp5_mk, seq_list, seq_tup, seqE_list, seqE_tup, c_tn, c_ps, c_last, c_ts, t_n, t_ws, s_0, s_1, eqB, neB, lenL, Bs l hl', tp2, ne_ref]]
    have gl : gtD (.int (LL.length : Int)) (.int 1) = .ok (.bool (decide (1 < LL.length))) := gtN _ 1
    obtain ⟨d0, Dr, hD0⟩ : ∃ d0 Dr, Ds = d0 :: Dr := by
      cases Ds with
      | nil => simp at dpos
      | cons d0 Dr => exact ⟨d0, Dr, rfl⟩
    have ref : F_law_refuses [eCs c, .list (Ds.map eDay)] = .ok (.bool true) := by
      rw [hD0]
      exact refuses_enc hc n3 (dok d0 (by rw [hD0]; exact List.mem_cons_self))
    by_cases q : 1 < LL.length
    · obtain ⟨l1, hl1⟩ : ∃ l1, LL[1]? = some l1 := ⟨LL[1]'q, List.getElem?_eq_getElem _⟩
      have ml1 := List.mem_of_getElem? hl1
      have i1 : idxD (.list (LL.map eSt)) (.int 1) = .ok (.str (S l1)) := at_map (e := eSt) (i := 1) hl1
      have p4 := addX (a := l1) (b := l0) (by rw [(LLe l0 ml0).1, (LLe l1 ml1).1]; omega)
      have hd1 : ∃ r, l1 = 89 :: r := by
        rw [eLL, List.getElem?_map] at hl1
        obtain ⟨r, hr, rfl⟩ := Option.map_eq_some_iff.mp hl1
        unfold rowsW at hr
        rw [List.getElem?_map] at hr
        obtain ⟨p, hp, rfl⟩ := Option.map_eq_some_iff.mp hr
        rw [List.getElem?_zipIdx] at hp
        obtain ⟨d, _, rfl⟩ := Option.map_eq_some_iff.mp hp
        exact ⟨_, rfl⟩
      have t4 : F_law_told [.int 3, eCs c, .str (S (l1 ++ l0))] = .ok (refD 1) := no _ (fun x hx => (List.mem_append.mp hx).elim ((LLe l1 ml1).2 x) ((LLe l0 ml0).2 x)) (by rw [List.length_append, (LLe l0 ml0).1, (LLe l1 ml1).1]; omega) fun v hv e => by
        obtain ⟨r, hr⟩ := hd1
        obtain ⟨y, r', hv1, _⟩ := wldT_head hc hv
        rw [hr, hv1] at e
        cases e
      simp -implicitDefEqProofs only [allR_ok, allR_nil, ok_bind, b2_ok, asL_ok, retR_ok, finR_rt, seqR_nx, seqR_rt, onlyR_rt, boolD_bool, truD_bool, nt_ok, Bool.not_true, Bool.not_false, Bool.false_eq_true, if_true, if_false, ↓reduceIte, decide_true, decide_false, orR_t, orR_f, andR_t, andR_f, andV_t, andV_f, orV_t, orV_f, notV_bool, ite3_t, ite3_f, cel_t, cel_f, partI, tD0, tD1, tD2, tD3, tD4, tD5, lD0, lD1, lD2, lD3, unp2_mk, unp3_mk, unp4_mk, unp5_mk, seq_list, seq_tup, seqE_list, seqE_tup, c_tn, c_ps, c_last, c_ts, t_n, t_ws, s_0, s_1, eqB, neB, lenL, List.length_map, gl, decide_eq_true q, i1, i0, p4, t4, tp2, ne_ref, ref]
    · simp -implicitDefEqProofs only [allR_ok, allR_nil, ok_bind, b2_ok, asL_ok, retR_ok, finR_rt, seqR_nx, seqR_rt, onlyR_rt, boolD_bool, truD_bool, nt_ok, Bool.not_true, Bool.not_false, Bool.false_eq_true, if_true, if_false, ↓reduceIte, decide_true, decide_false, orR_t, orR_f, andR_t, andR_f, andV_t, andV_f, orV_t, orV_f, notV_bool, ite3_t, ite3_f, cel_t, cel_f, partI, tD0, tD1, tD2, tD3, tD4, tD5, lD0, lD1, lD2, lD3, unp2_mk, unp3_mk, unp4_mk, unp5_mk, seq_list, seq_tup, seqE_list, seqE_tup, c_tn, c_ps, c_last, c_ts, t_n, t_ws, s_0, s_1, eqB, neB, lenL, List.length_map, gl, decide_eq_false q, ref]
  · intro k hk
    obtain ⟨a1, a2⟩ := drw_nat hl (80 + 4 * (k : Int)) (m := Ds.length) dpos
    generalize drw ns (80 + 4 * (k : Int)) (Ds.length : Int) = number at a1 a2
    have mk : mulE (.int 4) (eN k) = .ok (.int (4 * (k : Int))) := mulE_small (.inl ⟨by decide, by decide⟩)
    have ad0 : addD (.int 80) (.int (4 * (k : Int))) = .ok (.int (80 + 4 * (k : Int))) := rfl
    have ad1 : addD (.int 81) (.int (4 * (k : Int))) = .ok (.int (81 + 4 * (k : Int))) := rfl
    have ad2 : addD (.int 82) (.int (4 * (k : Int))) = .ok (.int (82 + 4 * (k : Int))) := rfl
    have ad3 : addD (.int 83) (.int (4 * (k : Int))) = .ok (.int (83 + 4 * (k : Int))) := rfl
    obtain ⟨d, hd⟩ : ∃ d, Ds[number]? = some d := ⟨Ds[number], List.getElem?_eq_getElem a2⟩
    have hL : Ls[number]? = some (dayL d) := by rw [hLs, List.getElem?_map, hd]; rfl
    have ok := dok d (List.mem_of_getElem? hd)
    have i1 : idxD (.list (Ds.map eDay)) (.int (number : Int)) = .ok (eDay d) := at_map hd
    have i2 : idxD (.list (Ls.map eSt)) (.int (number : Int)) = .ok (.str (S (dayL d))) := at_map (e := eSt) hL
    have t0 : F_law_told [.int 0, eCs c, eDay d] = .ok (.str (S (dayL d))) := told_ok (i := 0) rfl (day_text_enc hc ok)
    have t1 : F_law_told [.int 1, eCs c, .str (S (dayL d))] = .ok (eDay d) := told_ok (i := 1) rfl (read_day_enc hc ok)
    have dsm := dayL_small hc ok
    have dl : (dayL d).length = c.last + 1 := by unfold dayL; rw [List.length_map, ok.len]
    have n1 : neD (.str (S (dayL d))) (.str (S (dayL d))) = .ok (.bool false) := (neS dsm dsm).trans (by simp)
    have n2 : neD (eDay d) (eDay d) = .ok (.bool false) := by rw [cod_day.ne (by decide)]; simp
    have ln := lenS_S (show (dayL d).length ≤ 1000000 by omega)
    obtain ⟨b1, b2⟩ := drw_nat hl (81 + 4 * (k : Int)) (m := (dayL d).length + 1) (by omega)
    have m1 : addD (.int ((dayL d).length : Int)) (.int 1) = .ok (.int (((dayL d).length + 1 : Nat) : Int)) := addN _ 1
    generalize drw ns (81 + 4 * (k : Int)) (((dayL d).length + 1 : Nat) : Int) = place at b1 b2
    obtain ⟨g1, g2⟩ := drw_nat hl (82 + 4 * (k : Int)) (m := 9) (by decide)
    have g1 : F_law_drawn [scrD ns, .int (82 + 4 * (k : Int)), .int 9] = .ok (.int (drw ns (82 + 4 * (k : Int)) 9 : Int)) := g1
    have g2 : drw ns (82 + 4 * (k : Int)) 9 < 9 := g2
    generalize drw ns (82 + 4 * (k : Int)) 9 = sg at g1 g2
    obtain ⟨x, hx⟩ : ∃ x, sgL2[sg]? = some x := ⟨sgL2[sg]'(by exact g2), List.getElem?_eq_getElem _⟩
    have hx9 : x < 1000 := (show ∀ x ∈ sgL2, x < 1000 by decide) x (List.mem_of_getElem? hx)
    have ig : idxD (.str (S sgL2)) (.int (sg : Int)) = .ok (.str (S [x])) := at_S (by decide) hx
    obtain ⟨f1, f2⟩ := drw_nat hl (83 + 4 * (k : Int)) (m := 2) (by decide)
    have f1 : F_law_drawn [scrD ns, .int (83 + 4 * (k : Int)), .int 2] = .ok (.int (drw ns (83 + 4 * (k : Int)) 2 : Int)) := f1
    generalize drw ns (83 + 4 * (k : Int)) 2 = j at f1
    have m2 : addD (.int (place : Int)) (.int (j : Int)) = .ok (.int ((place + j : Nat) : Int)) := addN place j
    have k1 : sl3S (.ok (.str (S (dayL d)))) (.ok none) (.ok (some (place : Int))) = .ok (.str (S ((dayL d).take place))) := Lw.cut_to (by omega) place
    have k2 : sl3S (.ok (.str (S (dayL d)))) (.ok (some ((place + j : Nat) : Int))) (.ok none) = .ok (.str (S ((dayL d).drop (place + j)))) := cut_from (by omega) (place + j)
    have p1 := addX (a := (dayL d).take place) (b := [x]) (by rw [List.length_take]; simp; omega)
    have p2 := addX (a := (dayL d).take place ++ [x]) (b := (dayL d).drop (place + j)) (by rw [List.length_append, List.length_take, List.length_drop]; simp; omega)
    have Psm : ∀ y ∈ (dayL d).take place ++ [x] ++ (dayL d).drop (place + j), y < 1000 := fun y hy => by
      rcases List.mem_append.mp hy with hy | hy
      · rcases List.mem_append.mp hy with hy | hy
        · exact dsm y (List.mem_of_mem_take hy)
        · rw [List.mem_singleton.mp hy]; exact hx9
      · exact dsm y (List.mem_of_mem_drop hy)
    have Pl : ((dayL d).take place ++ [x] ++ (dayL d).drop (place + j)).length ≤ 1000 := by rw [List.length_append, List.length_append, List.length_take, List.length_drop]; simp; omega
    generalize hP : (dayL d).take place ++ [x] ++ (dayL d).drop (place + j) = P at p2 Psm Pl
    have inn := inL_S Lsm Psm
    have tp2 : ∀ a b, tupD [a, b] = .ok (.tuple [a, b]) := fun _ _ => rfl
    by_cases q : P ∈ Ls
    · obtain ⟨jj, j1, j2⟩ := find_S Lsm q
      have j3 := j2
      rw [hLs, List.getElem?_map] at j3
      obtain ⟨dj, hdj, edj⟩ := Option.map_eq_some_iff.mp j3
      have okj := dok dj (List.mem_of_getElem? hdj)
      have i3 : idxD (.list (Ds.map eDay)) (.int (jj : Int)) = .ok (eDay dj) := at_map hdj
      have t2 : F_law_told [.int 1, eCs c, .str (S P)] = .ok (eDay dj) := by rw [← edj]; exact told_ok (i := 1) rfl (read_day_enc hc okj)
      have n3 : neD (eDay dj) (eDay dj) = .ok (.bool false) := by rw [cod_day.ne (by decide)]; simp
      simp -implicitDefEqProofs only [allR_ok, allR_nil, ok_bind, b2_ok, asL_ok, retR_ok, finR_rt, seqR_nx, seqR_rt, onlyR_rt, boolD_bool, truD_bool, nt_ok, Bool.not_true, Bool.not_false, Bool.false_eq_true, if_true, if_false, ↓reduceIte, decide_true, decide_false, orR_t, orR_f, andR_t, andR_f, andV_t, andV_f, orV_t, orV_f, notV_bool, ite3_t, ite3_f, cel_t, cel_f, partI, tD0, tD1, tD2, tD3, tD4, tD5, lD0, lD1, lD2, lD3, unp2_mk, unp3_mk, unp4_mk, unp5_mk, seq_list, seq_tup, seqE_list, seqE_tup, c_tn, c_ps, c_last, c_ts, t_n, t_ws, s_0, s_1, eqB, neB, lenL, mk, ad0, ad1, ad2, ad3, List.length_map, a1, i1, i2, t0, n1, t1, n2, ln, m1, b1, s_sg2, g1, ig, f1, m2, k1, k2, p1, p2, inn, decide_eq_true q, onL, j1, i3, t2, n3]
    · have t2 : F_law_told [.int 1, eCs c, .str (S P)] = .ok (refD 1) := by
        rcases read_day_any hc n3 Psm (by omega) with ⟨d', d1, d2, _⟩ | e
        · refine absurd ?_ q
          rw [hLs, d2]
          exact List.mem_map.mpr ⟨d', mem d' d1, rfl⟩
        · exact told_no (i := 1) rfl e ref_text
      simp -implicitDefEqProofs only [allR_ok, allR_nil, ok_bind, b2_ok, asL_ok, retR_ok, finR_rt, seqR_nx, seqR_rt, onlyR_rt, boolD_bool, truD_bool, nt_ok, Bool.not_true, Bool.not_false, Bool.false_eq_true, if_true, if_false, ↓reduceIte, decide_true, decide_false, orR_t, orR_f, andR_t, andR_f, andV_t, andV_f, orV_t, orV_f, notV_bool, ite3_t, ite3_f, cel_t, cel_f, partI, tD0, tD1, tD2, tD3, tD4, tD5, lD0, lD1, lD2, lD3, unp2_mk, unp3_mk, unp4_mk, unp5_mk, seq_list, seq_tup, seqE_list, seqE_tup, c_tn, c_ps, c_last, c_ts, t_n, t_ws, s_0, s_1, eqB, neB, lenL, mk, ad0, ad1, ad2, ad3, List.length_map, a1, i1, i2, t0, n1, t1, n2, ln, m1, b1, s_sg2, g1, ig, f1, m2, k1, k2, p1, p2, inn, decide_eq_false q, tp2, t2, ne_ref]
end Lw
namespace Lw
open PySem PySem.Spec PyProof.Rows L2 Dt
def topS (i : Nat) : Stmt := PySem.Challenge.pw_daytellings_k73_days_as_texts.main.body.getD i (.Pass ⟨0, 0, 0, 0⟩)
structure Tx (K : PySem.W.Frag) (mg : Str → Option Value) : Prop where
  z_all : mg "all" = none
  z_bool : mg "bool" = none
  c_GREAT : Gcon K mg "GREAT" (.str "ABCDE")
  c_MOST_MOMENT : Gcon K mg "MOST_MOMENT" (.int 9)
  c_MOST_PERSONS : Gcon K mg "MOST_PERSONS" (.int 3)
  c_MOST_PLACES : Gcon K mg "MOST_PLACES" (.int 5)
  c_MOST_TELLINGS : Gcon K mg "MOST_TELLINGS" (.int 6)
  c_MOST_TIME : Gcon K mg "MOST_TIME" (.int 4)
  c_OF_TWO : Gcon K mg "OF_TWO" (.tuple ([("met" : Str), ("apart" : Str)].map PyData.str))
  c_PERSONS : Gcon K mg "PERSONS" (.str "XYZ")
  c_SMALL : Gcon K mg "SMALL" (.str "abcde")
  c_WORDS : Gcon K mg "WORDS" (.tuple ([("there" : Str), ("seen" : Str), ("never" : Str), ("met" : Str), ("apart" : Str)].map PyData.str))
  z_enumerate : mg "enumerate" = none
  z_int : mg "int" = none
  z_isinstance : mg "isinstance" = none
  z_len : mg "len" = none
  z_list : mg "list" = none
  x_NoCase : Xcl K mg "NoCase"
  x_NoText : Xcl K mg "NoText"
  z_range : mg "range" = none
  z_set : mg "set" = none
  z_sorted : mg "sorted" = none
  z_str : mg "str" = none
  z_tuple : mg "tuple" = none
  xt : XTab K mg CS_law TS_law
  xte : ∃ D, mg "TellingError" = some (.ref D)
  z_zip : mg "zip" = none
section
variable {P : Program} {w : World} {K : PySem.W.Frag} {mg : Str → Option Value} {base : Heap}
abbrev s_is_number : Stmt := topS 12
abbrev N_is_number : List Str := ["thing", "low", "high"]
theorem sc_is_number : FnScope N_is_number ["thing", "low", "high"] (defScope s_is_number) := ⟨rfl, rfl, rfl, by decide +kernel, rfl, by decide +kernel, by decide +kernel⟩
set_option maxHeartbeats 4000000 in
theorem ok_is_number {f : Addr} {fd : FuncData} (T : Tx K mg) (F : Fun K "is_number" "is_number" s_is_number f fd)  :
    FnOk P w K mg base (L2.CX P w) 1 f fd ["thing", "low", "high"] (spF ⟨P, w, K⟩ mg F_is_number) := by
  refine def_ok (sh := fun (z : Empty) => nomatch z) F sc_is_number g_is_number (fun ds h => ?_) (fun cdv A outer s H E X hX hr ds hl => ?_)
  · match ds, h with
    | [], _ => rfl
    | [_], _ => rfl
    | [_, _], _ => rfl
    | [_, _, _], h => exact absurd rfl h
    | _ :: _ :: _ :: _ :: _, _ => rfl
  · subst hX
    have b := bd_of sc_is_number hr
    match ds, hl with
    | [thing_1, low_2, high_3], _ =>
    show GSs _ E _ [.fz thing_1, .fz low_2, .fz high_3] _ (m_is_number thing_1 low_2 high_3)
    exact gss_ret (ge_and (ge_isi (T := "int") (GE.w (ge_var (i := 0) (pv 0))) T.z_isinstance T.z_int) (ge_and (ge_not (ge_isi (T := "bool") (GE.w (ge_var (i := 0) (pv 0))) T.z_isinstance T.z_bool)) (ge_one (ge_chain (le_ok) (le_ok) (GE.w (ge_var (i := 1) (pv 1))) (GE.w (ge_var (i := 0) (pv 0))) (GE.w (ge_var (i := 2) (pv 2)))))))
abbrev s_is_way : Stmt := topS 13
abbrev N_is_way : List Str := ["places", "thing"]
theorem sc_is_way : FnScope N_is_way ["places", "thing"] (defScope s_is_way) := ⟨rfl, rfl, rfl, by decide +kernel, rfl, by decide +kernel, by decide +kernel⟩
set_option maxHeartbeats 4000000 in
theorem ok_is_way {f : Addr} {fd : FuncData} (T : Tx K mg) (F : Fun K "is_way" "is_way" s_is_way f fd) (c_is_number : Cal P w K mg base 1 "is_number" F_is_number) :
    FnOk P w K mg base (L2.CX P w) 2 f fd ["places", "thing"] (spF ⟨P, w, K⟩ mg F_is_way) := by
  refine def_ok (sh := fun (z : Empty) => nomatch z) F sc_is_way g_is_way (fun ds h => ?_) (fun cdv A outer s H E X hX hr ds hl => ?_)
  · match ds, h with
    | [], _ => rfl
    | [_], _ => rfl
    | [_, _], h => exact absurd rfl h
    | _ :: _ :: _ :: _, _ => rfl
  · subst hX
    have b := bd_of sc_is_way hr
    match ds, hl with
    | [places_1, thing_2], _ =>
    show GSs _ E _ [.fz places_1, .fz thing_2] _ (m_is_way places_1 thing_2)
    refine gss_if1 (se := fun z => nomatch z) (gt_w (gtw_or (gt_not (gt_val (GE.w (ge_isi (T := "tuple") (GE.w (ge_var (i := 1) (pv 1))) T.z_isinstance T.z_tuple)))) (gtw_or (gt_cmp (ne_ok b.u64) (GE.w (ge_callB len_ok rfl T.z_len bt_len (gaw_cons (GE.w (ge_var (i := 1) (pv 1))) gaw_nil))) (GE.w ge_int)) (gtw_or1 (gt_not (gt_val (GE.w (ge_call c_is_number b.hr (by decide) b.hx (ga_cons (ge_idx (GE.w (ge_var (i := 1) (pv 1))) (GE.w ge_int)) (ga_cons ge_int (ga_cons (ge_bin sub_ok (GE.w (ge_var (i := 0) (pv 0))) (GE.w ge_int)) ga_nil))))))))))) ?_ ?_
    · exact gss_ret ge_bl
    exact gss_ret (ge_and (ge_call c_is_number b.hr (by decide) b.hx (ga_cons (ge_idx (GE.w (ge_var (i := 1) (pv 1))) (GE.w ge_int)) (ga_cons (ge_bin add_ok (GE.w (ge_idx (GE.w (ge_var (i := 1) (pv 1))) (GE.w ge_int))) (GE.w ge_int)) (ga_cons (ge_bin sub_ok (GE.w (ge_var (i := 0) (pv 0))) (GE.w ge_int)) ga_nil)))) (ge_one (ge_call c_is_number b.hr (by decide) b.hx (ga_cons (ge_idx (GE.w (ge_var (i := 1) (pv 1))) (GE.w ge_int)) (ga_cons ge_int (ga_cons (ge_glob T.c_MOST_TIME) ga_nil))))))
abbrev s_is_town : Stmt := topS 14
abbrev N_is_town : List Str := ["thing", "other", "one"]
theorem sc_is_town : FnScope N_is_town ["thing"] (defScope s_is_town) := ⟨rfl, rfl, rfl, by decide +kernel, rfl, by decide +kernel, by decide +kernel⟩
set_option maxHeartbeats 4000000 in
theorem ok_is_town {f : Addr} {fd : FuncData} (T : Tx K mg) (F : Fun K "is_town" "is_town" s_is_town f fd) (c_is_number : Cal P w K mg base 1 "is_number" F_is_number) (c_is_way : Cal P w K mg base 2 "is_way" F_is_way) :
    FnOk P w K mg base (L2.CX P w) 3 f fd ["thing"] (spF ⟨P, w, K⟩ mg F_is_town) := by
  refine def_ok (sh := fun (z : Empty) => nomatch z) F sc_is_town g_is_town (fun ds h => ?_) (fun cdv A outer s H E X hX hr ds hl => ?_)
  · match ds, h with
    | [], _ => rfl
    | [_], h => exact absurd rfl h
    | _ :: _ :: _, _ => rfl
  · subst hX
    have b := bd_of sc_is_town hr
    match ds, hl with
    | [thing_1], _ =>
    show GSs _ E _ [.fz thing_1, .no, .no] _ (m_is_town thing_1)
    refine gss_if1 (se := fun z => nomatch z) (gt_w (gtw_or (gt_not (gt_val (GE.w (ge_isi (T := "tuple") (GE.w (ge_var (i := 0) (pv 0))) T.z_isinstance T.z_tuple)))) (gtw_or (gt_cmp (ne_ok b.u64) (GE.w (ge_callB len_ok rfl T.z_len bt_len (gaw_cons (GE.w (ge_var (i := 0) (pv 0))) gaw_nil))) (GE.w ge_int)) (gtw_or1 (gt_not (gt_val (GE.w (ge_call c_is_number b.hr (by decide) b.hx (ga_cons (ge_idx (GE.w (ge_var (i := 0) (pv 0))) (GE.w ge_int)) (ga_cons ge_int (ga_cons (ge_glob T.c_MOST_PLACES) ga_nil))))))))))) ?_ ?_
    · exact gss_ret ge_bl
    refine gss_if1 (se := fun z => nomatch z) (gt_w (gtw_or (gt_not (gt_val (GE.w (ge_isi (T := "tuple") (GE.w (ge_idx (GE.w (ge_var (i := 0) (pv 0))) (GE.w ge_int))) T.z_isinstance T.z_tuple)))) (gtw_or1 (gt_not (gt_val (GE.w (ge_callB (all_ok rfl) rfl T.z_all bt_all (gaw_cons (GE.w (GO.ge (go_comp (own := [("one", 2)]) rfl b.nd (blkOk_by (N := N_is_town) (sc := defScope s_is_town) (by decide +kernel)) (gi_seq (ge_idx (GE.w (ge_var (i := 0) (pv 0))) (GE.w ge_int))) (fun d_2 => gc_name (i := 2) (fun _ _ _ _ _ => pg_name (i := 2) b.nd rfl (Or.inl rfl)) (by decide) (fun _ _ _ _ _ => gts_nil) (fun _ _ _ _ _ => (ge_call c_is_way b.hr (by decide) passL (ga_cons (ge_idx (GE.w (ge_var (i := 0) (pv 0))) (GE.w ge_int)) (ga_cons (ge_var (i := 2) (pv 2)) ga_nil)))))))) gaw_nil)))))))) ?_ ?_
    · exact gss_ret ge_bl
    exact gss_ret (ge_callB (all_ok rfl) rfl T.z_all bt_all (gaw_cons (GE.w (GO.ge (go_comp (own := [("one", 2), ("other", 1)]) rfl b.nd (blkOk_by (N := N_is_town) (sc := defScope s_is_town) (by decide +kernel)) (gi_zip rfl T.z_zip (ga_cons (ge_idx (GE.w (ge_var (i := 0) (pv 0))) (GE.w ge_int)) (ga_cons (ge_slice (GE.w (ge_idx (GE.w (ge_var (i := 0) (pv 0))) (GE.w ge_int))) (gp_some (GE.w ge_int)) gp_none) ga_nil))) (fun d_4 => gc_tup2 (i := 2) (j := 1) (fun _ _ _ _ _ => pg_tup rfl (pgs_cons (pg_name (i := 2) b.nd rfl (Or.inl rfl)) (pgs_cons (pg_name (i := 1) b.nd rfl (Or.inl rfl)) pgs_nil))) (by decide) (by decide) (fun one_5 other_6 _ _ _ _ _ => gts_nil) (fun one_5 other_6 _ _ _ _ _ => (ge_cmp (lt_ok b.u0) (GE.w (ge_slice (GE.w (ge_var (i := 2) (pv 2))) gp_none (gp_some (GE.w ge_int)))) (GE.w (ge_slice (GE.w (ge_var (i := 1) (pv 1))) gp_none (gp_some (GE.w ge_int)))))))))) gaw_nil))
abbrev s_fits : Stmt := topS 15
abbrev N_fits : List Str := ["places", "persons", "last", "thing", "word", "who", "what", "first", "end"]
theorem sc_fits : FnScope N_fits ["places", "persons", "last", "thing"] (defScope s_fits) := ⟨rfl, rfl, rfl, by decide +kernel, rfl, by decide +kernel, by decide +kernel⟩
set_option maxHeartbeats 4000000 in
theorem ok_fits {f : Addr} {fd : FuncData} (T : Tx K mg) (F : Fun K "fits" "fits" s_fits f fd) (c_is_number : Cal P w K mg base 1 "is_number" F_is_number) :
    FnOk P w K mg base (L2.CX P w) 2 f fd ["places", "persons", "last", "thing"] (spF ⟨P, w, K⟩ mg F_fits) := by
  refine def_ok (sh := fun (z : Empty) => nomatch z) F sc_fits g_fits (fun ds h => ?_) (fun cdv A outer s H E X hX hr ds hl => ?_)
  · match ds, h with
    | [], _ => rfl
    | [_], _ => rfl
    | [_, _], _ => rfl
    | [_, _, _], _ => rfl
    | [_, _, _, _], h => exact absurd rfl h
    | _ :: _ :: _ :: _ :: _ :: _, _ => rfl
  · subst hX
    have b := bd_of sc_fits hr
    match ds, hl with
    | [places_1, persons_2, last_3, thing_4], _ =>
    show GSs _ E _ [.fz places_1, .fz persons_2, .fz last_3, .fz thing_4, .no, .no, .no, .no, .no] _ (m_fits places_1 persons_2 last_3 thing_4)
    refine gss_if1 (se := fun z => nomatch z) (gt_w (gtw_or (gt_not (gt_val (GE.w (ge_isi (T := "tuple") (GE.w (ge_var (i := 3) (pv 3))) T.z_isinstance T.z_tuple)))) (gtw_or (gt_cmp (ne_ok b.u64) (GE.w (ge_callB len_ok rfl T.z_len bt_len (gaw_cons (GE.w (ge_var (i := 3) (pv 3))) gaw_nil))) (GE.w ge_int)) (gtw_or (gt_not (gt_val (GE.w (ge_isi (T := "str") (GE.w (ge_idx (GE.w (ge_var (i := 3) (pv 3))) (GE.w ge_int))) T.z_isinstance T.z_str)))) (gtw_or1 (gt_cmp (notIn_ok b.u65) (GE.w (ge_idx (GE.w (ge_var (i := 3) (pv 3))) (GE.w ge_int))) (GE.w (ge_glob T.c_WORDS)))))))) ?_ ?_
    · exact gss_ret ge_bl
    refine gss_unp (ge_var (i := 3) (pv 3)) (fun d_5 => ?_)
    refine gb_tup5 (i := 4) (j := 5) (l := 6) (m := 7) (n := 8) b.nd rfl (fun word_6 who_7 what_8 first_9 end_10 => ?_)
    refine gss_if1 (se := fun z => nomatch z) (gt_w (gtw_or (gt_not (gt_val (GE.w (ge_call c_is_number b.hr (by decide) b.hx (ga_cons (ge_var (i := 5) (pv 5)) (ga_cons ge_int (ga_cons (ge_bin sub_ok (GE.w (ge_var (i := 1) (pv 1))) (GE.w ge_int)) ga_nil))))))) (gtw_or (gt_not (gt_val (GE.w (ge_call c_is_number b.hr (by decide) b.hx (ga_cons (ge_var (i := 7) (pv 7)) (ga_cons ge_int (ga_cons (ge_var (i := 2) (pv 2)) ga_nil))))))) (gtw_or1 (gt_not (gt_val (GE.w (ge_call c_is_number b.hr (by decide) b.hx (ga_cons (ge_var (i := 8) (pv 8)) (ga_cons (ge_var (i := 7) (pv 7)) (ga_cons (ge_var (i := 2) (pv 2)) ga_nil))))))))))) ?_ ?_
    · exact gss_ret ge_bl
    refine gss_if1 (se := fun z => nomatch z) (gt_cmp (in_ok b.u65) (GE.w (ge_var (i := 4) (pv 4))) (GE.w (ge_glob T.c_OF_TWO))) ?_ ?_
    · exact gss_ret (ge_and (ge_call c_is_number b.hr (by decide) b.hx (ga_cons (ge_var (i := 6) (pv 6)) (ga_cons ge_int (ga_cons (ge_bin sub_ok (GE.w (ge_var (i := 1) (pv 1))) (GE.w ge_int)) ga_nil)))) (ge_one (ge_cmp (ne_ok b.u64) (GE.w (ge_var (i := 6) (pv 6))) (GE.w (ge_var (i := 5) (pv 5))))))
    exact gss_ret (ge_call c_is_number b.hr (by decide) b.hx (ga_cons (ge_var (i := 6) (pv 6)) (ga_cons ge_int (ga_cons (ge_bin sub_ok (GE.w (ge_var (i := 0) (pv 0))) (GE.w ge_int)) ga_nil))))
abbrev s_is_case : Stmt := topS 16
abbrev N_is_case : List Str := ["thing", "town", "persons", "last", "tellings", "one"]
theorem sc_is_case : FnScope N_is_case ["thing"] (defScope s_is_case) := ⟨rfl, rfl, rfl, by decide +kernel, rfl, by decide +kernel, by decide +kernel⟩
set_option maxHeartbeats 4000000 in
theorem ok_is_case {f : Addr} {fd : FuncData} (T : Tx K mg) (F : Fun K "is_case" "is_case" s_is_case f fd) (c_fits : Cal P w K mg base 2 "fits" F_fits) (c_is_number : Cal P w K mg base 1 "is_number" F_is_number) (c_is_town : Cal P w K mg base 3 "is_town" F_is_town) :
    FnOk P w K mg base (L2.CX P w) 4 f fd ["thing"] (spF ⟨P, w, K⟩ mg F_is_case) := by
  refine def_ok (sh := fun (z : Empty) => nomatch z) F sc_is_case g_is_case (fun ds h => ?_) (fun cdv A outer s H E X hX hr ds hl => ?_)
  · match ds, h with
    | [], _ => rfl
    | [_], h => exact absurd rfl h
    | _ :: _ :: _, _ => rfl
  · subst hX
    have b := bd_of sc_is_case hr
    match ds, hl with
    | [thing_1], _ =>
    show GSs _ E _ [.fz thing_1, .no, .no, .no, .no, .no] _ (m_is_case thing_1)
    refine gss_if1 (se := fun z => nomatch z) (gt_w (gtw_or (gt_not (gt_val (GE.w (ge_isi (T := "tuple") (GE.w (ge_var (i := 0) (pv 0))) T.z_isinstance T.z_tuple)))) (gtw_or (gt_cmp (ne_ok b.u64) (GE.w (ge_callB len_ok rfl T.z_len bt_len (gaw_cons (GE.w (ge_var (i := 0) (pv 0))) gaw_nil))) (GE.w ge_int)) (gtw_or1 (gt_not (gt_val (GE.w (ge_call c_is_town b.hr (by decide) b.hx (ga_cons (ge_idx (GE.w (ge_var (i := 0) (pv 0))) (GE.w ge_int)) ga_nil))))))))) ?_ ?_
    · exact gss_ret ge_bl
    refine gss_unp (ge_var (i := 0) (pv 0)) (fun d_2 => ?_)
    refine gb_tup4 (i := 1) (j := 2) (l := 3) (m := 4) b.nd rfl (fun town_3 persons_4 last_5 tellings_6 => ?_)
    refine gss_if1 (se := fun z => nomatch z) (gt_w (gtw_or (gt_not (gt_val (GE.w (ge_call c_is_number b.hr (by decide) b.hx (ga_cons (ge_var (i := 2) (pv 2)) (ga_cons ge_int (ga_cons (ge_glob T.c_MOST_PERSONS) ga_nil))))))) (gtw_or1 (gt_not (gt_val (GE.w (ge_call c_is_number b.hr (by decide) b.hx (ga_cons (ge_var (i := 3) (pv 3)) (ga_cons ge_int (ga_cons (ge_glob T.c_MOST_MOMENT) ga_nil)))))))))) ?_ ?_
    · exact gss_ret ge_bl
    refine gss_if1 (se := fun z => nomatch z) (gt_w (gtw_or (gt_not (gt_val (GE.w (ge_isi (T := "tuple") (GE.w (ge_var (i := 4) (pv 4))) T.z_isinstance T.z_tuple)))) (gtw_or1 (gt_cmp (gt_ok) (GE.w (ge_callB len_ok rfl T.z_len bt_len (gaw_cons (GE.w (ge_var (i := 4) (pv 4))) gaw_nil))) (GE.w (ge_glob T.c_MOST_TELLINGS)))))) ?_ ?_
    · exact gss_ret ge_bl
    exact gss_ret (ge_callB (all_ok rfl) rfl T.z_all bt_all (gaw_cons (GE.w (GO.ge (go_comp (own := [("one", 5)]) rfl b.nd (blkOk_by (N := N_is_case) (sc := defScope s_is_case) (by decide +kernel)) (gi_seq (ge_var (i := 4) (pv 4))) (fun d_7 => gc_name (i := 5) (fun _ _ _ _ _ => pg_name (i := 5) b.nd rfl (Or.inl rfl)) (by decide) (fun _ _ _ _ _ => gts_nil) (fun _ _ _ _ _ => (ge_call c_fits b.hr (by decide) passL (ga_cons (ge_idx (GE.w (ge_var (i := 1) (pv 1))) (GE.w ge_int)) (ga_cons (ge_var (i := 2) (pv 2)) (ga_cons (ge_var (i := 3) (pv 3)) (ga_cons (ge_var (i := 5) (pv 5)) ga_nil)))))))))) gaw_nil))
abbrev s_need_case : Stmt := topS 17
abbrev N_need_case : List Str := ["case"]
theorem sc_need_case : FnScope N_need_case ["case"] (defScope s_need_case) := ⟨rfl, rfl, rfl, by decide +kernel, rfl, by decide +kernel, by decide +kernel⟩
set_option maxHeartbeats 4000000 in
theorem ok_need_case {f : Addr} {fd : FuncData} (T : Tx K mg) (F : Fun K "need_case" "need_case" s_need_case f fd) (c_is_case : Cal P w K mg base 4 "is_case" F_is_case) :
    FnOk P w K mg base (L2.CX P w) 5 f fd ["case"] (spF ⟨P, w, K⟩ mg F_need_case) := by
  refine def_ok (sh := fun (_ : Unit) => [.no]) F sc_need_case g_need_case (fun ds h => ?_) (fun cdv A outer s H E X hX hr ds hl => ?_)
  · match ds, h with
    | [], _ => rfl
    | [_], h => exact absurd rfl h
    | _ :: _ :: _, _ => rfl
  · subst hX
    have b := bd_of sc_need_case hr
    match ds, hl with
    | [case_1], _ =>
    show GSs _ E _ [.fz case_1] _ (m_need_case case_1)
    refine gss_if1 (se := fun z => nomatch z) (gt_not (gt_val (GE.w (ge_call c_is_case b.hr (by decide) b.hx (ga_cons (ge_var (i := 0) (pv 0)) ga_nil))))) ?_ ?_
    · exact gss_raiseX rfl b.tk T.x_NoCase
    exact gss_nil () (Le.n Le.nil)
abbrev s_steps : Stmt := topS 19
abbrev N_steps : List Str := ["town", "stand", "place", "left", "found", "one", "other", "time"]
theorem sc_steps : FnScope N_steps ["town", "stand"] (defScope s_steps) := ⟨rfl, rfl, rfl, by decide +kernel, rfl, by decide +kernel, by decide +kernel⟩
set_option maxHeartbeats 4000000 in
theorem ok_steps {f : Addr} {fd : FuncData} (T : Tx K mg) (F : Fun K "steps" "steps" s_steps f fd)  :
    FnOk P w K mg base (L2.CX P w) 1 f fd ["town", "stand"] (spF ⟨P, w, K⟩ mg F_steps) := by
  refine def_ok (sh := fun (z : Empty) => nomatch z) F sc_steps g_steps (fun ds h => ?_) (fun cdv A outer s H E X hX hr ds hl => ?_)
  · match ds, h with
    | [], _ => rfl
    | [_], _ => rfl
    | [_, _], h => exact absurd rfl h
    | _ :: _ :: _ :: _, _ => rfl
  · subst hX
    have b := bd_of sc_steps hr
    match ds, hl with
    | [town_1, stand_2], _ =>
    show GSs _ E _ [.fz town_1, .fz stand_2, .no, .no, .no, .no, .no, .no] _ (m_steps town_1 stand_2)
    refine gss_unp (ge_var (i := 1) (pv 1)) (fun d_3 => ?_)
    refine gb_tup2 (i := 2) (j := 3) b.nd rfl (fun place_4 left_5 => ?_)
    refine gss_if1 (se := fun z => nomatch z) (gt_cmp (gt_ok) (GE.w (ge_var (i := 3) (pv 3))) (GE.w ge_int)) ?_ ?_
    · exact gss_ret (GO.ge (go_lst (ga_cons (ge_tup (ga_cons (ge_var (i := 2) (pv 2)) (ga_cons (ge_bin sub_ok (GE.w (ge_var (i := 3) (pv 3))) (GE.w ge_int)) ga_nil))) ga_nil)))
    refine gss_own (i := 4) b.nd (go_lst (ga_cons (ge_var (i := 1) (pv 1)) ga_nil)) (fun found_6 => ?_)
    refine gss_for (sb := fun (st_7 : List PyData) => [.no, .no, .fz place_4, .no, .ow (.list st_7), .no, .no, .no]) found_6 b.po rfl (gi_seq (ge_idx (GE.w (ge_var (i := 0) (pv 0))) (GE.w ge_int))) (Le.n (Le.n (Le.e (Le.n (Le.e (Le.n (Le.n (Le.n Le.nil)))))))) (fun d_8 st_7 => ?_) (fun st_7 => ?_)
    · refine gb_tup3 (i := 5) (j := 6) (l := 7) b.nd rfl (fun one_9 other_10 time_11 => ?_)
      refine gss_if (sb := fun (st_12 : List PyData) => [.no, .no, .fz place_4, .no, .ow (.list st_12), .fz one_9, .fz other_10, .fz time_11]) (gt_cmp (in_ok b.u65) (GE.w (ge_var (i := 2) (pv 2))) (GE.w (ge_tup (ga_cons (ge_var (i := 5) (pv 5)) (ga_cons (ge_var (i := 6) (pv 6)) ga_nil))))) ?_ ?_ (fun st_12 => ?_)
      · refine gss_append (i := 4) (pv 4) (ge_tup (ga_cons (ge_if (gt_cmp (eq_ok b.u64) (GE.w (ge_var (i := 2) (pv 2))) (GE.w (ge_var (i := 5) (pv 5)))) (ge_var (i := 6) (pv 6)) (ge_var (i := 5) (pv 5))) (ga_cons (ge_bin sub_ok (GE.w (ge_var (i := 7) (pv 7))) (GE.w ge_int)) ga_nil))) (fun found_14 => ?_)
        exact gss_nil found_14 (Le.n (Le.n (Le.e (Le.n (Le.e (Le.e (Le.e (Le.e Le.nil))))))))
      · exact gss_nil st_7 (Le.n (Le.n (Le.e (Le.n (Le.e (Le.e (Le.e (Le.e Le.nil))))))))
      exact gss_nil st_12 (Le.n (Le.n (Le.e (Le.n (Le.e (Le.n (Le.n (Le.n Le.nil))))))))
    exact gss_ret (GO.ge (go_callB (sortE_ok rfl b.u70) rfl T.z_sorted bt_sorted (gaw_cons (gw_var (i := 4) (pv 4)) gaw_nil)))
abbrev s_are_stands : Stmt := topS 20
abbrev N_are_stands : List Str := ["town", "thing", "many", "one"]
theorem sc_are_stands : FnScope N_are_stands ["town", "thing", "many"] (defScope s_are_stands) := ⟨rfl, rfl, rfl, by decide +kernel, rfl, by decide +kernel, by decide +kernel⟩
set_option maxHeartbeats 4000000 in
theorem ok_are_stands {f : Addr} {fd : FuncData} (T : Tx K mg) (F : Fun K "are_stands" "are_stands" s_are_stands f fd) (c_is_number : Cal P w K mg base 1 "is_number" F_is_number) :
    FnOk P w K mg base (L2.CX P w) 2 f fd ["town", "thing", "many"] (spF ⟨P, w, K⟩ mg F_are_stands) := by
  refine def_ok (sh := fun (z : Empty) => nomatch z) F sc_are_stands g_are_stands (fun ds h => ?_) (fun cdv A outer s H E X hX hr ds hl => ?_)
  · match ds, h with
    | [], _ => rfl
    | [_], _ => rfl
    | [_, _], _ => rfl
    | [_, _, _], h => exact absurd rfl h
    | _ :: _ :: _ :: _ :: _, _ => rfl
  · subst hX
    have b := bd_of sc_are_stands hr
    match ds, hl with
    | [town_1, thing_2, many_3], _ =>
    show GSs _ E _ [.fz town_1, .fz thing_2, .fz many_3, .no] _ (m_are_stands town_1 thing_2 many_3)
    refine gss_if1 (se := fun z => nomatch z) (gt_w (gtw_or (gt_not (gt_val (GE.w (ge_isi (T := "tuple") (GE.w (ge_var (i := 1) (pv 1))) T.z_isinstance T.z_tuple)))) (gtw_or1 (gt_cmp (ne_ok b.u64) (GE.w (ge_callB len_ok rfl T.z_len bt_len (gaw_cons (GE.w (ge_var (i := 1) (pv 1))) gaw_nil))) (GE.w (ge_var (i := 2) (pv 2))))))) ?_ ?_
    · exact gss_ret ge_bl
    refine gss_for (sb := fun (st_4 : Unit) => [.fz town_1, .no, .no, .no]) () b.po rfl (gi_seq (ge_var (i := 1) (pv 1))) (Le.e (Le.n (Le.n (Le.n Le.nil)))) (fun d_5 st_4 => ?_) (fun st_4 => ?_)
    · refine gb_name (i := 3) b.nd ?_
      refine gss_if1 (se := fun z => nomatch z) (gt_w (gtw_or (gt_not (gt_val (GE.w (ge_isi (T := "tuple") (GE.w (ge_var (i := 3) (pv 3))) T.z_isinstance T.z_tuple)))) (gtw_or (gt_cmp (ne_ok b.u64) (GE.w (ge_callB len_ok rfl T.z_len bt_len (gaw_cons (GE.w (ge_var (i := 3) (pv 3))) gaw_nil))) (GE.w ge_int)) (gtw_or1 (gt_not (gt_val (GE.w (ge_call c_is_number b.hr (by decide) b.hx (ga_cons (ge_idx (GE.w (ge_var (i := 3) (pv 3))) (GE.w ge_int)) (ga_cons ge_int (ga_cons (ge_bin sub_ok (GE.w (ge_idx (GE.w (ge_var (i := 0) (pv 0))) (GE.w ge_int))) (GE.w ge_int)) ga_nil))))))))))) ?_ ?_
      · exact gss_ret ge_bl
      refine gss_if1 (se := fun z => nomatch z) (gt_not (gt_val (GE.w (ge_call c_is_number b.hr (by decide) b.hx (ga_cons (ge_idx (GE.w (ge_var (i := 3) (pv 3))) (GE.w ge_int)) (ga_cons ge_int (ga_cons ge_int ga_nil))))))) ?_ ?_
      · exact gss_ret ge_bl
      exact gss_nil () (Le.e (Le.n (Le.n (Le.n Le.nil))))
    exact gss_ret ge_bl
abbrev s_is_day : Stmt := topS 21
abbrev N_is_day : List Str := ["case", "thing", "town", "other", "one"]
theorem sc_is_day : FnScope N_is_day ["case", "thing"] (defScope s_is_day) := ⟨rfl, rfl, rfl, by decide +kernel, rfl, by decide +kernel, by decide +kernel⟩
set_option maxHeartbeats 4000000 in
theorem ok_is_day {f : Addr} {fd : FuncData} (T : Tx K mg) (F : Fun K "is_day" "is_day" s_is_day f fd) (c_are_stands : Cal P w K mg base 2 "are_stands" F_are_stands) (c_need_case : Cal P w K mg base 5 "need_case" F_need_case) (c_steps : Cal P w K mg base 1 "steps" F_steps) :
    FnOk P w K mg base (L2.CX P w) 6 f fd ["case", "thing"] (spF ⟨P, w, K⟩ mg F_is_day) := by
  refine def_ok (sh := fun (z : Empty) => nomatch z) F sc_is_day g_is_day (fun ds h => ?_) (fun cdv A outer s H E X hX hr ds hl => ?_)
  · match ds, h with
    | [], _ => rfl
    | [_], _ => rfl
    | [_, _], h => exact absurd rfl h
    | _ :: _ :: _ :: _, _ => rfl
  · subst hX
    have b := bd_of sc_is_day hr
    match ds, hl with
    | [case_1, thing_2], _ =>
    show GSs _ E _ [.fz case_1, .fz thing_2, .no, .no, .no] _ (m_is_day case_1 thing_2)
    refine gss_drop (GE.w (ge_call c_need_case b.hr (by decide) b.hx (ga_cons (ge_var (i := 0) (pv 0)) ga_nil))) ?_
    refine gss_set (i := 2) b.nd (ge_idx (GE.w (ge_var (i := 0) (pv 0))) (GE.w ge_int)) (fun town_3 => ?_)
    refine gss_if1 (se := fun z => nomatch z) (gt_w (gtw_or (gt_not (gt_val (GE.w (ge_call c_are_stands b.hr (by decide) b.hx (ga_cons (ge_var (i := 2) (pv 2)) (ga_cons (ge_var (i := 1) (pv 1)) (ga_cons (ge_bin add_ok (GE.w (ge_idx (GE.w (ge_var (i := 0) (pv 0))) (GE.w ge_int))) (GE.w ge_int)) ga_nil))))))) (gtw_or1 (gt_cmp (gt_ok) (GE.w (ge_idx (GE.w (ge_idx (GE.w (ge_var (i := 1) (pv 1))) (GE.w ge_int))) (GE.w ge_int))) (GE.w ge_int))))) ?_ ?_
    · exact gss_ret ge_bl
    exact gss_ret (ge_callB (all_ok rfl) rfl T.z_all bt_all (gaw_cons (GE.w (GO.ge (go_comp (own := [("one", 4), ("other", 3)]) rfl b.nd (blkOk_by (N := N_is_day) (sc := defScope s_is_day) (by decide +kernel)) (gi_zip rfl T.z_zip (ga_cons (ge_var (i := 1) (pv 1)) (ga_cons (ge_slice (GE.w (ge_var (i := 1) (pv 1))) (gp_some (GE.w ge_int)) gp_none) ga_nil))) (fun d_4 => gc_tup2 (i := 4) (j := 3) (fun _ _ _ _ _ => pg_tup rfl (pgs_cons (pg_name (i := 4) b.nd rfl (Or.inl rfl)) (pgs_cons (pg_name (i := 3) b.nd rfl (Or.inl rfl)) pgs_nil))) (by decide) (by decide) (fun one_5 other_6 _ _ _ _ _ => gts_nil) (fun one_5 other_6 _ _ _ _ _ => (ge_cmp (in_ok b.u65) (GE.w (ge_var (i := 3) (pv 3))) (GE.w (ge_call c_steps b.hr (by decide) passL (ga_cons (ge_var (i := 2) (pv 2)) (ga_cons (ge_var (i := 4) (pv 4)) ga_nil)))))))))) gaw_nil))
abbrev s_is_world : Stmt := topS 22
abbrev N_is_world : List Str := ["case", "thing", "day"]
theorem sc_is_world : FnScope N_is_world ["case", "thing"] (defScope s_is_world) := ⟨rfl, rfl, rfl, by decide +kernel, rfl, by decide +kernel, by decide +kernel⟩
set_option maxHeartbeats 4000000 in
theorem ok_is_world {f : Addr} {fd : FuncData} (T : Tx K mg) (F : Fun K "is_world" "is_world" s_is_world f fd) (c_is_day : Cal P w K mg base 6 "is_day" F_is_day) (c_need_case : Cal P w K mg base 5 "need_case" F_need_case) :
    FnOk P w K mg base (L2.CX P w) 7 f fd ["case", "thing"] (spF ⟨P, w, K⟩ mg F_is_world) := by
  refine def_ok (sh := fun (z : Empty) => nomatch z) F sc_is_world g_is_world (fun ds h => ?_) (fun cdv A outer s H E X hX hr ds hl => ?_)
  · match ds, h with
    | [], _ => rfl
    | [_], _ => rfl
    | [_, _], h => exact absurd rfl h
    | _ :: _ :: _ :: _, _ => rfl
  · subst hX
    have b := bd_of sc_is_world hr
    match ds, hl with
    | [case_1, thing_2], _ =>
    show GSs _ E _ [.fz case_1, .fz thing_2, .no] _ (m_is_world case_1 thing_2)
    refine gss_drop (GE.w (ge_call c_need_case b.hr (by decide) b.hx (ga_cons (ge_var (i := 0) (pv 0)) ga_nil))) ?_
    exact gss_ret (ge_and (ge_isi (T := "tuple") (GE.w (ge_var (i := 1) (pv 1))) T.z_isinstance T.z_tuple) (ge_and (ge_cmp (eq_ok b.u64) (GE.w (ge_callB len_ok rfl T.z_len bt_len (gaw_cons (GE.w (ge_var (i := 1) (pv 1))) gaw_nil))) (GE.w (ge_idx (GE.w (ge_var (i := 0) (pv 0))) (GE.w ge_int)))) (ge_one (ge_callB (all_ok rfl) rfl T.z_all bt_all (gaw_cons (GE.w (GO.ge (go_comp (own := [("day", 2)]) rfl b.nd (blkOk_by (N := N_is_world) (sc := defScope s_is_world) (by decide +kernel)) (gi_seq (ge_var (i := 1) (pv 1))) (fun d_3 => gc_name (i := 2) (fun _ _ _ _ _ => pg_name (i := 2) b.nd rfl (Or.inl rfl)) (by decide) (fun _ _ _ _ _ => gts_nil) (fun _ _ _ _ _ => (ge_call c_is_day b.hr (by decide) passL (ga_cons (ge_var (i := 0) (pv 0)) (ga_cons (ge_var (i := 2) (pv 2)) ga_nil)))))))) gaw_nil)))))
abbrev s_need_world : Stmt := topS 24
abbrev N_need_world : List Str := ["case", "world"]
theorem sc_need_world : FnScope N_need_world ["case", "world"] (defScope s_need_world) := ⟨rfl, rfl, rfl, by decide +kernel, rfl, by decide +kernel, by decide +kernel⟩
set_option maxHeartbeats 4000000 in
theorem ok_need_world {f : Addr} {fd : FuncData} (T : Tx K mg) (F : Fun K "need_world" "need_world" s_need_world f fd) (c_is_world : Cal P w K mg base 7 "is_world" F_is_world) :
    FnOk P w K mg base (L2.CX P w) 8 f fd ["case", "world"] (spF ⟨P, w, K⟩ mg F_need_world) := by
  refine def_ok (sh := fun (_ : Unit) => [.no, .no]) F sc_need_world g_need_world (fun ds h => ?_) (fun cdv A outer s H E X hX hr ds hl => ?_)
  · match ds, h with
    | [], _ => rfl
    | [_], _ => rfl
    | [_, _], h => exact absurd rfl h
    | _ :: _ :: _ :: _, _ => rfl
  · subst hX
    have b := bd_of sc_need_world hr
    match ds, hl with
    | [case_1, world_2], _ =>
    show GSs _ E _ [.fz case_1, .fz world_2] _ (m_need_world case_1 world_2)
    refine gss_if1 (se := fun z => nomatch z) (gt_not (gt_val (GE.w (ge_call c_is_world b.hr (by decide) b.hx (ga_cons (ge_var (i := 0) (pv 0)) (ga_cons (ge_var (i := 1) (pv 1)) ga_nil)))))) ?_ ?_
    · exact gss_raiseX rfl b.tk T.x_NoCase
    exact gss_nil () (Le.n (Le.n Le.nil))
abbrev s_sign_of : Stmt := topS 29
abbrev N_sign_of : List Str := ["stand"]
theorem sc_sign_of : FnScope N_sign_of ["stand"] (defScope s_sign_of) := ⟨rfl, rfl, rfl, by decide +kernel, rfl, by decide +kernel, by decide +kernel⟩
set_option maxHeartbeats 4000000 in
theorem ok_sign_of {f : Addr} {fd : FuncData} (T : Tx K mg) (F : Fun K "sign_of" "sign_of" s_sign_of f fd)  :
    FnOk P w K mg base (L2.CX P w) 1 f fd ["stand"] (spF ⟨P, w, K⟩ mg F_sign_of) := by
  refine def_ok (sh := fun (z : Empty) => nomatch z) F sc_sign_of g_sign_of (fun ds h => ?_) (fun cdv A outer s H E X hX hr ds hl => ?_)
  · match ds, h with
    | [], _ => rfl
    | [_], h => exact absurd rfl h
    | _ :: _ :: _, _ => rfl
  · subst hX
    have b := bd_of sc_sign_of hr
    match ds, hl with
    | [stand_1], _ =>
    show GSs _ E _ [.fz stand_1] _ (m_sign_of stand_1)
    exact gss_ret (ge_if (gt_cmp (eq_ok b.u64) (GE.w (ge_idx (GE.w (ge_var (i := 0) (pv 0))) (GE.w ge_int))) (GE.w ge_int)) (ge_idx (GE.w (ge_glob T.c_SMALL)) (GE.w (ge_idx (GE.w (ge_var (i := 0) (pv 0))) (GE.w ge_int)))) (ge_idx (GE.w (ge_glob T.c_GREAT)) (GE.w (ge_idx (GE.w (ge_var (i := 0) (pv 0))) (GE.w ge_int)))))
abbrev s_day_text : Stmt := topS 30
abbrev N_day_text : List Str := ["case", "day", "stand"]
theorem sc_day_text : FnScope N_day_text ["case", "day"] (defScope s_day_text) := ⟨rfl, rfl, rfl, by decide +kernel, rfl, by decide +kernel, by decide +kernel⟩
set_option maxHeartbeats 4000000 in
theorem ok_day_text {f : Addr} {fd : FuncData} (T : Tx K mg) (F : Fun K "day_text" "day_text" s_day_text f fd) (c_is_day : Cal P w K mg base 6 "is_day" F_is_day) (c_need_case : Cal P w K mg base 5 "need_case" F_need_case) (c_sign_of : Cal P w K mg base 1 "sign_of" F_sign_of) :
    FnOk P w K mg base (L2.CX P w) 7 f fd ["case", "day"] (spF ⟨P, w, K⟩ mg F_day_text) := by
  refine def_ok (sh := fun (z : Empty) => nomatch z) F sc_day_text g_day_text (fun ds h => ?_) (fun cdv A outer s H E X hX hr ds hl => ?_)
  · match ds, h with
    | [], _ => rfl
    | [_], _ => rfl
    | [_, _], h => exact absurd rfl h
    | _ :: _ :: _ :: _, _ => rfl
  · subst hX
    have b := bd_of sc_day_text hr
    match ds, hl with
    | [case_1, day_2], _ =>
    show GSs _ E _ [.fz case_1, .fz day_2, .no] _ (m_day_text case_1 day_2)
    refine gss_drop (GE.w (ge_call c_need_case b.hr (by decide) b.hx (ga_cons (ge_var (i := 0) (pv 0)) ga_nil))) ?_
    refine gss_if1 (se := fun z => nomatch z) (gt_not (gt_val (GE.w (ge_call c_is_day b.hr (by decide) b.hx (ga_cons (ge_var (i := 0) (pv 0)) (ga_cons (ge_var (i := 1) (pv 1)) ga_nil)))))) ?_ ?_
    · exact gss_raiseX rfl b.tk T.x_NoCase
    exact gss_ret (ge_join ge_str (GO.ge (go_comp (own := [("stand", 2)]) rfl b.nd (blkOk_by (N := N_day_text) (sc := defScope s_day_text) (by decide +kernel)) (gi_seq (ge_var (i := 1) (pv 1))) (fun d_3 => gc_name (i := 2) (fun _ _ _ _ _ => pg_name (i := 2) b.nd rfl (Or.inl rfl)) (by decide) (fun _ _ _ _ _ => gts_nil) (fun _ _ _ _ _ => (ge_call c_sign_of b.hr (by decide) passL (ga_cons (ge_var (i := 2) (pv 2)) ga_nil)))))))
abbrev s_read_day : Stmt := topS 31
abbrev N_read_day : List Str := ["case", "text", "found", "sign", "some", "stand"]
theorem sc_read_day : FnScope N_read_day ["case", "text"] (defScope s_read_day) := ⟨rfl, rfl, rfl, by decide +kernel, rfl, by decide +kernel, by decide +kernel⟩
set_option maxHeartbeats 4000000 in
theorem ok_read_day {f : Addr} {fd : FuncData} (T : Tx K mg) (F : Fun K "read_day" "read_day" s_read_day f fd) (c_need_case : Cal P w K mg base 5 "need_case" F_need_case) (c_sign_of : Cal P w K mg base 1 "sign_of" F_sign_of) (c_steps : Cal P w K mg base 1 "steps" F_steps) :
    FnOk P w K mg base (L2.CX P w) 6 f fd ["case", "text"] (spF ⟨P, w, K⟩ mg F_read_day) := by
  refine def_ok (sh := fun (z : Empty) => nomatch z) F sc_read_day g_read_day (fun ds h => ?_) (fun cdv A outer s H E X hX hr ds hl => ?_)
  · match ds, h with
    | [], _ => rfl
    | [_], _ => rfl
    | [_, _], h => exact absurd rfl h
    | _ :: _ :: _ :: _, _ => rfl
  · subst hX
    have b := bd_of sc_read_day hr
    match ds, hl with
    | [case_1, text_2], _ =>
    show GSs _ E _ [.fz case_1, .fz text_2, .no, .no, .no, .no] _ (m_read_day case_1 text_2)
    refine gss_drop (GE.w (ge_call c_need_case b.hr (by decide) b.hx (ga_cons (ge_var (i := 0) (pv 0)) ga_nil))) ?_
    refine gss_if1 (se := fun z => nomatch z) (gt_w (gtw_or (gt_not (gt_val (GE.w (ge_isi (T := "str") (GE.w (ge_var (i := 1) (pv 1))) T.z_isinstance T.z_str)))) (gtw_or (gt_cmp (ne_ok b.u64) (GE.w (ge_callB len_ok rfl T.z_len bt_len (gaw_cons (GE.w (ge_var (i := 1) (pv 1))) gaw_nil))) (GE.w (ge_bin add_ok (GE.w (ge_idx (GE.w (ge_var (i := 0) (pv 0))) (GE.w ge_int))) (GE.w ge_int)))) (gtw_or1 (gt_cmp (notIn_ok b.u65) (GE.w (ge_idx (GE.w (ge_var (i := 1) (pv 1))) (GE.w ge_int))) (GE.w (ge_sliceS (GE.w (ge_glob T.c_SMALL)) gp_none (gp_some (GE.w (ge_idx (GE.w (ge_idx (GE.w (ge_var (i := 0) (pv 0))) (GE.w ge_int))) (GE.w ge_int))))))))))) ?_ ?_
    · exact gss_raiseX rfl b.tk T.x_NoText
    refine gss_own (i := 2) b.nd (go_lst (ga_cons (ge_tup (ga_cons (ge_sidx (ge_glob T.c_SMALL) (ge_idx (GE.w (ge_var (i := 1) (pv 1))) (GE.w ge_int))) (ga_cons ge_int ga_nil))) ga_nil)) (fun found_3 => ?_)
    refine gss_for (sb := fun (st_4 : List PyData) => [.fz case_1, .no, .ow (.list st_4), .no, .no, .no]) found_3 b.po rfl (gi_str (ge_sliceS (GE.w (ge_var (i := 1) (pv 1))) (gp_some (GE.w ge_int)) gp_none)) (Le.e (Le.n (Le.e (Le.n (Le.n (Le.n Le.nil)))))) (fun d_5 st_4 => ?_) (fun st_4 => ?_)
    · refine gb_name (i := 3) b.nd ?_
      refine gss_ownLc (own := [("stand", 5)]) (i := 4) rfl b.nd (blkOk_by (N := N_read_day) (sc := defScope s_read_day) (by decide +kernel)) (gi_seq (ge_call c_steps b.hr (by decide) b.hx (ga_cons (ge_idx (GE.w (ge_var (i := 0) (pv 0))) (GE.w ge_int)) (ga_cons (ge_idx (gw_var (i := 2) (pv 2)) (GE.w (ge_un neg_ok (GE.w ge_int)))) ga_nil)))) (fun d_7 => gc_name (i := 5) (fun _ _ _ _ _ => pg_name (i := 5) b.nd rfl (Or.inl rfl)) (by decide) (fun _ _ _ _ _ => (gts_one (gt_cmp (eq_ok b.u64) (GE.w (ge_call c_sign_of b.hr (by decide) passL (ga_cons (ge_var (i := 5) (pv 5)) ga_nil))) (GE.w (ge_var (i := 3) (pv 3)))))) (fun _ _ _ _ _ => (ge_var (i := 5) (pv 5)))) (fun some_6 => ?_) (sw_true rfl rfl rfl (by decide +kernel))
      refine gss_if1 (se := fun z => nomatch z) (gt_cmp (eq_ok b.u64) (gw_var (i := 4) (pv 4)) (GE.w (GO.ge (go_lst ga_nil)))) ?_ ?_
      · exact gss_raiseX rfl b.tk T.x_NoText
      refine gss_append (i := 2) (pv 2) (ge_idx (gw_var (i := 4) (pv 4)) (GE.w ge_int)) (fun found_10 => ?_)
      exact gss_nil found_10 (Le.e (Le.n (Le.e (Le.n (Le.n (Le.n Le.nil))))))
    exact gss_ret (ge_callT tup_ok rfl T.z_tuple bt_tuple (gaw_cons (gw_var (i := 2) (pv 2)) gaw_nil))
abbrev s_world_text : Stmt := topS 32
abbrev N_world_text : List Str := ["case", "world", "day", "who"]
theorem sc_world_text : FnScope N_world_text ["case", "world"] (defScope s_world_text) := ⟨rfl, rfl, rfl, by decide +kernel, rfl, by decide +kernel, by decide +kernel⟩
set_option maxHeartbeats 4000000 in
theorem ok_world_text {f : Addr} {fd : FuncData} (T : Tx K mg) (F : Fun K "world_text" "world_text" s_world_text f fd) (c_day_text : Cal P w K mg base 7 "day_text" F_day_text) (c_need_case : Cal P w K mg base 5 "need_case" F_need_case) (c_need_world : Cal P w K mg base 8 "need_world" F_need_world) :
    FnOk P w K mg base (L2.CX P w) 9 f fd ["case", "world"] (spF ⟨P, w, K⟩ mg F_world_text) := by
  refine def_ok (sh := fun (z : Empty) => nomatch z) F sc_world_text g_world_text (fun ds h => ?_) (fun cdv A outer s H E X hX hr ds hl => ?_)
  · match ds, h with
    | [], _ => rfl
    | [_], _ => rfl
    | [_, _], h => exact absurd rfl h
    | _ :: _ :: _ :: _, _ => rfl
  · subst hX
    have b := bd_of sc_world_text hr
    match ds, hl with
    | [case_1, world_2], _ =>
    show GSs _ E _ [.fz case_1, .fz world_2, .no, .no] _ (m_world_text case_1 world_2)
    refine gss_drop (GE.w (ge_call c_need_case b.hr (by decide) b.hx (ga_cons (ge_var (i := 0) (pv 0)) ga_nil))) ?_
    refine gss_drop (GE.w (ge_call c_need_world b.hr (by decide) b.hx (ga_cons (ge_var (i := 0) (pv 0)) (ga_cons (ge_var (i := 1) (pv 1)) ga_nil)))) ?_
    exact gss_ret (ge_join ge_str (GO.ge (go_comp (own := [("who", 3), ("day", 2)]) rfl b.nd (blkOk_by (N := N_world_text) (sc := defScope s_world_text) (by decide +kernel)) (gi_enumE rfl T.z_enumerate (ga_cons (ge_var (i := 1) (pv 1)) ga_nil)) (fun d_3 => gc_tup2 (i := 3) (j := 2) (fun _ _ _ _ _ => pg_tup rfl (pgs_cons (pg_name (i := 3) b.nd rfl (Or.inl rfl)) (pgs_cons (pg_name (i := 2) b.nd rfl (Or.inl rfl)) pgs_nil))) (by decide) (by decide) (fun who_4 day_5 _ _ _ _ _ => gts_nil) (fun who_4 day_5 _ _ _ _ _ => (ge_bin add_ok (GE.w (ge_bin add_ok (GE.w (ge_bin add_ok (GE.w (ge_idx (GE.w (ge_glob T.c_PERSONS)) (GE.w (ge_var (i := 3) (pv 3))))) (GE.w ge_str))) (GE.w (ge_call c_day_text b.hr (by decide) passL (ga_cons (ge_var (i := 0) (pv 0)) (ga_cons (ge_var (i := 2) (pv 2)) ga_nil)))))) (GE.w ge_str)))))))
abbrev s_read_world : Stmt := topS 33
abbrev N_read_world : List Str := ["case", "text", "lines", "found", "line"]
theorem sc_read_world : FnScope N_read_world ["case", "text"] (defScope s_read_world) := ⟨rfl, rfl, rfl, by decide +kernel, rfl, by decide +kernel, by decide +kernel⟩
set_option maxHeartbeats 4000000 in
theorem ok_read_world {f : Addr} {fd : FuncData} (T : Tx K mg) (F : Fun K "read_world" "read_world" s_read_world f fd) (c_need_case : Cal P w K mg base 5 "need_case" F_need_case) (c_read_day : Cal P w K mg base 6 "read_day" F_read_day) (c_world_text : Cal P w K mg base 9 "world_text" F_world_text) :
    FnOk P w K mg base (L2.CX P w) 10 f fd ["case", "text"] (spF ⟨P, w, K⟩ mg F_read_world) := by
  refine def_ok (sh := fun (z : Empty) => nomatch z) F sc_read_world g_read_world (fun ds h => ?_) (fun cdv A outer s H E X hX hr ds hl => ?_)
  · match ds, h with
    | [], _ => rfl
    | [_], _ => rfl
    | [_, _], h => exact absurd rfl h
    | _ :: _ :: _ :: _, _ => rfl
  · subst hX
    have b := bd_of sc_read_world hr
    match ds, hl with
    | [case_1, text_2], _ =>
    show GSs _ E _ [.fz case_1, .fz text_2, .no, .no, .no] _ (m_read_world case_1 text_2)
    refine gss_drop (GE.w (ge_call c_need_case b.hr (by decide) b.hx (ga_cons (ge_var (i := 0) (pv 0)) ga_nil))) ?_
    refine gss_if1 (se := fun z => nomatch z) (gt_not (gt_val (GE.w (ge_isi (T := "str") (GE.w (ge_var (i := 1) (pv 1))) T.z_isinstance T.z_str)))) ?_ ?_
    · exact gss_raiseX rfl b.tk T.x_NoText
    refine gss_set (i := 2) b.nd (ge_slice (GE.w (GO.ge (go_split (ge_var (i := 1) (pv 1)) ge_str))) gp_none (gp_some (GE.w (ge_un neg_ok (GE.w ge_int))))) (fun lines_3 => ?_)
    refine gss_if1 (se := fun z => nomatch z) (gt_cmp (ne_ok b.u64) (GE.w (ge_callB len_ok rfl T.z_len bt_len (gaw_cons (GE.w (ge_var (i := 2) (pv 2))) gaw_nil))) (GE.w (ge_idx (GE.w (ge_var (i := 0) (pv 0))) (GE.w ge_int)))) ?_ ?_
    · exact gss_raiseX rfl b.tk T.x_NoText
    refine gss_set (i := 3) b.nd (ge_callT tup_ok rfl T.z_tuple bt_tuple (gaw_cons (GE.w (GO.ge (go_compX (own := [("line", 4)]) rfl rfl b.tk rfl b.nd (blkOk_by (N := N_read_world) (sc := defScope s_read_world) (by decide +kernel)) (gi_seq (ge_var (i := 2) (pv 2))) (fun d_5 => gcr_name (i := 4) (fun _ _ _ _ _ => pg_name (i := 4) b.nd rfl (Or.inl rfl)) (by decide) (fun _ _ _ _ _ => gts_nil) (fun _ _ _ _ _ => (ge_call c_read_day b.hr (by decide) passX (ga_cons (ge_var (i := 0) (pv 0)) (ga_cons (ge_sliceS (GE.w (ge_var (i := 4) (pv 4))) (gp_some (GE.w ge_int)) gp_none) ga_nil)))))))) gaw_nil)) (fun found_4 => ?_)
    refine gss_if1 (se := fun z => nomatch z) (gt_cmp (ne_ok b.u64) (GE.w (ge_call c_world_text b.hr (by decide) b.hx (ga_cons (ge_var (i := 0) (pv 0)) (ga_cons (ge_var (i := 3) (pv 3)) ga_nil)))) (GE.w (ge_var (i := 1) (pv 1)))) ?_ ?_
    · exact gss_raiseX rfl b.tk T.x_NoText
    exact gss_ret (ge_var (i := 3) (pv 3))
abbrev s_law_cell : Stmt := topS 35
abbrev N_law_cell : List Str := ["_law_script", "_law_k"]
theorem sc_law_cell : FnScope N_law_cell ["_law_script", "_law_k"] (defScope s_law_cell) := ⟨rfl, rfl, rfl, by decide +kernel, rfl, by decide +kernel, by decide +kernel⟩
set_option maxHeartbeats 4000000 in
theorem ok_law_cell {f : Addr} {fd : FuncData} (T : Tx K mg) (F : Fun K "_law_cell" "_law_cell" s_law_cell f fd)  :
    FnOk P w K mg base (L2.CX P w) 1 f fd ["_law_script", "_law_k"] (spF ⟨P, w, K⟩ mg F_law_cell) := by
  refine def_ok (sh := fun (z : Empty) => nomatch z) F sc_law_cell g_law_cell (fun ds h => ?_) (fun cdv A outer s H E X hX hr ds hl => ?_)
  · match ds, h with
    | [], _ => rfl
    | [_], _ => rfl
    | [_, _], h => exact absurd rfl h
    | _ :: _ :: _ :: _, _ => rfl
  · subst hX
    have b := bd_of sc_law_cell hr
    match ds, hl with
    | [law_script_1, law_k_2], _ =>
    show GSs _ E _ [.fz law_script_1, .fz law_k_2] _ (m_law_cell law_script_1 law_k_2)
    refine gss_if1 (se := fun z => nomatch z) (gt_cmp (nilS_ok b.u64) (GE.w (ge_var (i := 0) (pv 0))) (GE.w (GO.ge (go_lst ga_nil)))) ?_ ?_
    · exact gss_ret (ge_bin mulE_ok (GE.w ge_int) (GE.w (ge_var (i := 1) (pv 1))))
    exact gss_ret (ge_bin add_ok (GE.w (ge_ixS (GE.w (ge_var (i := 0) (pv 0))) (GE.w (ge_bin mod_ok (GE.w (ge_var (i := 1) (pv 1))) (GE.w (ge_lenS rfl T.z_len (GE.w (ge_var (i := 0) (pv 0))))))))) (GE.w (ge_bin mulE_ok (GE.w ge_int) (GE.w (ge_bin fdiv_ok (GE.w (ge_var (i := 1) (pv 1))) (GE.w (ge_lenS rfl T.z_len (GE.w (ge_var (i := 0) (pv 0))))))))))
abbrev s_law_drawn : Stmt := topS 36
abbrev N_law_drawn : List Str := ["_law_script", "_law_k", "_law_many", "_law_cell_here"]
theorem sc_law_drawn : FnScope N_law_drawn ["_law_script", "_law_k", "_law_many"] (defScope s_law_drawn) := ⟨rfl, rfl, rfl, by decide +kernel, rfl, by decide +kernel, by decide +kernel⟩
set_option maxHeartbeats 4000000 in
theorem ok_law_drawn {f : Addr} {fd : FuncData} (T : Tx K mg) (F : Fun K "_law_drawn" "_law_drawn" s_law_drawn f fd) (c_law_cell : Cal P w K mg base 1 "_law_cell" F_law_cell) :
    FnOk P w K mg base (L2.CX P w) 2 f fd ["_law_script", "_law_k", "_law_many"] (spF ⟨P, w, K⟩ mg F_law_drawn) := by
  refine def_ok (sh := fun (z : Empty) => nomatch z) F sc_law_drawn g_law_drawn (fun ds h => ?_) (fun cdv A outer s H E X hX hr ds hl => ?_)
  · match ds, h with
    | [], _ => rfl
    | [_], _ => rfl
    | [_, _], _ => rfl
    | [_, _, _], h => exact absurd rfl h
    | _ :: _ :: _ :: _ :: _, _ => rfl
  · subst hX
    have b := bd_of sc_law_drawn hr
    match ds, hl with
    | [law_script_1, law_k_2, law_many_3], _ =>
    show GSs _ E _ [.fz law_script_1, .fz law_k_2, .fz law_many_3, .no] _ (m_law_drawn law_script_1 law_k_2 law_many_3)
    refine gss_set (i := 3) b.nd (ge_bin mod_ok (GE.w (ge_bin add_ok (GE.w (ge_bin mulE_ok (GE.w (ge_bin mod_ok (GE.w (ge_call c_law_cell b.hr (by decide) b.hx (ga_cons (ge_var (i := 0) (pv 0)) (ga_cons (ge_var (i := 1) (pv 1)) ga_nil)))) (GE.w ge_int))) (GE.w ge_int))) (GE.w (ge_bin mulE_ok (GE.w ge_int) (GE.w (ge_bin add_ok (GE.w (ge_var (i := 1) (pv 1))) (GE.w ge_int))))))) (GE.w ge_int)) (fun law_cell_here_4 => ?_)
    refine gss_set (i := 3) b.nd (ge_bin mod_ok (GE.w (ge_bin add_ok (GE.w (ge_bin mulE_ok (GE.w (ge_var (i := 3) (pv 3))) (GE.w (ge_var (i := 3) (pv 3))))) (GE.w (ge_bin fdiv_ok (GE.w (ge_var (i := 3) (pv 3))) (GE.w ge_int))))) (GE.w ge_int)) (fun law_cell_here_5 => ?_)
    exact gss_ret (ge_bin mod_ok (GE.w (ge_bin fdiv_ok (GE.w (ge_bin mod_ok (GE.w (ge_bin add_ok (GE.w (ge_bin mulE_ok (GE.w (ge_var (i := 3) (pv 3))) (GE.w (ge_var (i := 3) (pv 3))))) (GE.w (ge_bin fdiv_ok (GE.w (ge_var (i := 3) (pv 3))) (GE.w ge_int))))) (GE.w ge_int))) (GE.w ge_int))) (GE.w (ge_var (i := 2) (pv 2))))
abbrev s_law_town : Stmt := topS 37
abbrev N_law_town : List Str := ["_law_script", "_law_at", "_law_most", "_law_many", "_law_ways", "_law_one", "_law_other"]
theorem sc_law_town : FnScope N_law_town ["_law_script", "_law_at", "_law_most"] (defScope s_law_town) := ⟨rfl, rfl, rfl, by decide +kernel, rfl, by decide +kernel, by decide +kernel⟩
set_option maxHeartbeats 4000000 in
theorem ok_law_town {f : Addr} {fd : FuncData} (T : Tx K mg) (F : Fun K "_law_town" "_law_town" s_law_town f fd) (c_law_drawn : Cal P w K mg base 2 "_law_drawn" F_law_drawn) :
    FnOk P w K mg base (L2.CX P w) 3 f fd ["_law_script", "_law_at", "_law_most"] (spF ⟨P, w, K⟩ mg F_law_town) := by
  refine def_ok (sh := fun (z : Empty) => nomatch z) F sc_law_town g_law_town (fun ds h => ?_) (fun cdv A outer s H E X hX hr ds hl => ?_)
  · match ds, h with
    | [], _ => rfl
    | [_], _ => rfl
    | [_, _], _ => rfl
    | [_, _, _], h => exact absurd rfl h
    | _ :: _ :: _ :: _ :: _, _ => rfl
  · subst hX
    have b := bd_of sc_law_town hr
    match ds, hl with
    | [law_script_1, law_at_2, law_most_3], _ =>
    show GSs _ E _ [.fz law_script_1, .fz law_at_2, .fz law_most_3, .no, .no, .no, .no] _ (m_law_town law_script_1 law_at_2 law_most_3)
    refine gss_set (i := 3) b.nd (ge_bin add_ok (GE.w ge_int) (GE.w (ge_call c_law_drawn b.hr (by decide) b.hx (ga_cons (ge_var (i := 0) (pv 0)) (ga_cons (ge_var (i := 1) (pv 1)) (ga_cons (ge_var (i := 2) (pv 2)) ga_nil)))))) (fun law_many_4 => ?_)
    refine gss_own (i := 4) b.nd (go_lst ga_nil) (fun law_ways_5 => ?_)
    refine gss_for (sb := fun (st_6 : List PyData) => [.fz law_script_1, .fz law_at_2, .no, .fz law_many_4, .ow (.list st_6), .no, .no]) law_ways_5 b.po rfl (gi_rng1 rfl T.z_range (ga_cons (ge_var (i := 3) (pv 3)) ga_nil)) (Le.e (Le.e (Le.n (Le.e (Le.e (Le.n (Le.n Le.nil))))))) (fun d_7 st_6 => ?_) (fun st_6 => ?_)
    · refine gb_name (i := 5) b.nd ?_
      refine gss_for (sb := fun (st_8 : List PyData) => [.fz law_script_1, .fz law_at_2, .no, .fz law_many_4, .ow (.list st_8), .fz d_7, .no]) st_6 b.po rfl (gi_rng2 rfl T.z_range (ga_cons (ge_bin add_ok (GE.w (ge_var (i := 5) (pv 5))) (GE.w ge_int)) (ga_cons (ge_var (i := 3) (pv 3)) ga_nil))) (Le.e (Le.e (Le.n (Le.e (Le.e (Le.e (Le.n Le.nil))))))) (fun d_9 st_8 => ?_) (fun st_8 => ?_)
      · refine gb_name (i := 6) b.nd ?_
        refine gss_if (sb := fun (st_10 : List PyData) => [.fz law_script_1, .fz law_at_2, .no, .fz law_many_4, .ow (.list st_10), .fz d_7, .fz d_9]) (gt_cmp (gt_ok) (GE.w (ge_call c_law_drawn b.hr (by decide) b.hx (ga_cons (ge_var (i := 0) (pv 0)) (ga_cons (ge_bin add_ok (GE.w (ge_bin add_ok (GE.w (ge_bin add_ok (GE.w (ge_var (i := 1) (pv 1))) (GE.w ge_int))) (GE.w (ge_bin mulE_ok (GE.w ge_int) (GE.w (ge_var (i := 5) (pv 5))))))) (GE.w (ge_var (i := 6) (pv 6)))) (ga_cons ge_int ga_nil))))) (GE.w ge_int)) ?_ ?_ (fun st_10 => ?_)
        · refine gss_append (i := 4) (pv 4) (ge_tup (ga_cons (ge_var (i := 5) (pv 5)) (ga_cons (ge_var (i := 6) (pv 6)) (ga_cons (ge_idx (GE.w (GO.ge (go_lst (ga_cons ge_int (ga_cons ge_int (ga_cons ge_int ga_nil)))))) (GE.w (ge_call c_law_drawn b.hr (by decide) b.hx (ga_cons (ge_var (i := 0) (pv 0)) (ga_cons (ge_bin add_ok (GE.w (ge_bin add_ok (GE.w (ge_bin add_ok (GE.w (ge_var (i := 1) (pv 1))) (GE.w ge_int))) (GE.w (ge_bin mulE_ok (GE.w ge_int) (GE.w (ge_var (i := 5) (pv 5))))))) (GE.w (ge_var (i := 6) (pv 6)))) (ga_cons ge_int ga_nil)))))) ga_nil)))) (fun law_ways_12 => ?_)
          exact gss_nil law_ways_12 (Le.e (Le.e (Le.n (Le.e (Le.e (Le.e (Le.e Le.nil)))))))
        · exact gss_nil st_8 (Le.e (Le.e (Le.n (Le.e (Le.e (Le.e (Le.e Le.nil)))))))
        exact gss_nil st_10 (Le.e (Le.e (Le.n (Le.e (Le.e (Le.e (Le.n Le.nil)))))))
      exact gss_nil st_8 (Le.e (Le.e (Le.n (Le.e (Le.e (Le.n (Le.n Le.nil)))))))
    exact gss_ret (ge_tup (ga_cons (ge_var (i := 3) (pv 3)) (ga_cons (ge_callT tup_ok rfl T.z_tuple bt_tuple (gaw_cons (gw_var (i := 4) (pv 4)) gaw_nil)) ga_nil)))
abbrev s_law_telling : Stmt := topS 38
abbrev N_law_telling : List Str := ["_law_script", "_law_at", "_law_many", "_law_persons", "_law_last", "_law_words", "_law_word", "_law_who", "_law_first", "_law_end", "_law_what"]
theorem sc_law_telling : FnScope N_law_telling ["_law_script", "_law_at", "_law_many", "_law_persons", "_law_last"] (defScope s_law_telling) := ⟨rfl, rfl, rfl, by decide +kernel, rfl, by decide +kernel, by decide +kernel⟩
set_option maxHeartbeats 4000000 in
theorem ok_law_telling {f : Addr} {fd : FuncData} (T : Tx K mg) (F : Fun K "_law_telling" "_law_telling" s_law_telling f fd) (c_law_drawn : Cal P w K mg base 2 "_law_drawn" F_law_drawn) :
    FnOk P w K mg base (L2.CX P w) 3 f fd ["_law_script", "_law_at", "_law_many", "_law_persons", "_law_last"] (spF ⟨P, w, K⟩ mg F_law_telling) := by
  refine def_ok (sh := fun (z : Empty) => nomatch z) F sc_law_telling g_law_telling (fun ds h => ?_) (fun cdv A outer s H E X hX hr ds hl => ?_)
  · match ds, h with
    | [], _ => rfl
    | [_], _ => rfl
    | [_, _], _ => rfl
    | [_, _, _], _ => rfl
    | [_, _, _, _], _ => rfl
    | [_, _, _, _, _], h => exact absurd rfl h
    | _ :: _ :: _ :: _ :: _ :: _ :: _, _ => rfl
  · subst hX
    have b := bd_of sc_law_telling hr
    match ds, hl with
    | [law_script_1, law_at_2, law_many_3, law_persons_4, law_last_5], _ =>
    show GSs _ E _ [.fz law_script_1, .fz law_at_2, .fz law_many_3, .fz law_persons_4, .fz law_last_5, .no, .no, .no, .no, .no, .no] _ (m_law_telling law_script_1 law_at_2 law_many_3 law_persons_4 law_last_5)
    refine gss_set (i := 5) b.nd (ge_slice (GE.w (GO.ge (go_lst (ga_cons ge_str (ga_cons ge_str (ga_cons ge_str (ga_cons ge_str (ga_cons ge_str (ga_cons ge_str ga_nil))))))))) gp_none (gp_some (GE.w (ge_bin add_ok (GE.w ge_int) (GE.w (ge_bin mulE_ok (GE.w ge_int) (GE.w (ge_callT int_ok rfl T.z_int bt_int (gaw_cons (GE.w (ge_cmp (gt_ok) (GE.w (ge_var (i := 3) (pv 3))) (GE.w ge_int))) gaw_nil))))))))) (fun law_words_6 => ?_)
    refine gss_set (i := 6) b.nd (ge_idx (GE.w (ge_var (i := 5) (pv 5))) (GE.w (ge_call c_law_drawn b.hr (by decide) b.hx (ga_cons (ge_var (i := 0) (pv 0)) (ga_cons (ge_var (i := 1) (pv 1)) (ga_cons (ge_callB len_ok rfl T.z_len bt_len (gaw_cons (GE.w (ge_var (i := 5) (pv 5))) gaw_nil)) ga_nil)))))) (fun law_word_7 => ?_)
    refine gss_set (i := 7) b.nd (ge_call c_law_drawn b.hr (by decide) b.hx (ga_cons (ge_var (i := 0) (pv 0)) (ga_cons (ge_bin add_ok (GE.w (ge_var (i := 1) (pv 1))) (GE.w ge_int)) (ga_cons (ge_var (i := 3) (pv 3)) ga_nil)))) (fun law_who_8 => ?_)
    refine gss_set (i := 8) b.nd (ge_call c_law_drawn b.hr (by decide) b.hx (ga_cons (ge_var (i := 0) (pv 0)) (ga_cons (ge_bin add_ok (GE.w (ge_var (i := 1) (pv 1))) (GE.w ge_int)) (ga_cons (ge_bin add_ok (GE.w (ge_var (i := 4) (pv 4))) (GE.w ge_int)) ga_nil)))) (fun law_first_9 => ?_)
    refine gss_set (i := 9) b.nd (ge_bin add_ok (GE.w (ge_var (i := 8) (pv 8))) (GE.w (ge_call c_law_drawn b.hr (by decide) b.hx (ga_cons (ge_var (i := 0) (pv 0)) (ga_cons (ge_bin add_ok (GE.w (ge_var (i := 1) (pv 1))) (GE.w ge_int)) (ga_cons (ge_bin add_ok (GE.w (ge_bin sub_ok (GE.w (ge_var (i := 4) (pv 4))) (GE.w (ge_var (i := 8) (pv 8))))) (GE.w ge_int)) ga_nil)))))) (fun law_end_10 => ?_)
    refine gss_set (i := 10) b.nd (ge_call c_law_drawn b.hr (by decide) b.hx (ga_cons (ge_var (i := 0) (pv 0)) (ga_cons (ge_bin add_ok (GE.w (ge_var (i := 1) (pv 1))) (GE.w ge_int)) (ga_cons (ge_var (i := 2) (pv 2)) ga_nil)))) (fun law_what_11 => ?_)
    refine gss_if (sb := fun (st_12 : PyData) => [.fz law_script_1, .fz law_at_2, .fz law_many_3, .fz law_persons_4, .fz law_last_5, .fz law_words_6, .fz law_word_7, .fz law_who_8, .fz law_first_9, .fz law_end_10, .fz st_12]) (gt_cmp (in_ok b.u65) (GE.w (ge_var (i := 6) (pv 6))) (GE.w (ge_tup (ga_cons ge_str (ga_cons ge_str ga_nil))))) ?_ ?_ (fun st_12 => ?_)
    · refine gss_set (i := 10) b.nd (ge_bin mod_ok (GE.w (ge_bin add_ok (GE.w (ge_bin add_ok (GE.w (ge_var (i := 7) (pv 7))) (GE.w ge_int))) (GE.w (ge_call c_law_drawn b.hr (by decide) b.hx (ga_cons (ge_var (i := 0) (pv 0)) (ga_cons (ge_bin add_ok (GE.w (ge_var (i := 1) (pv 1))) (GE.w ge_int)) (ga_cons (ge_bin sub_ok (GE.w (ge_var (i := 3) (pv 3))) (GE.w ge_int)) ga_nil))))))) (GE.w (ge_var (i := 3) (pv 3)))) (fun law_what_13 => ?_)
      exact gss_nil law_what_13 (Le.e (Le.e (Le.e (Le.e (Le.e (Le.e (Le.e (Le.e (Le.e (Le.e (Le.e Le.nil)))))))))))
    · exact gss_nil law_what_11 (Le.e (Le.e (Le.e (Le.e (Le.e (Le.e (Le.e (Le.e (Le.e (Le.e (Le.e Le.nil)))))))))))
    exact gss_ret (ge_tup (ga_cons (ge_var (i := 6) (pv 6)) (ga_cons (ge_var (i := 7) (pv 7)) (ga_cons (ge_var (i := 10) (pv 10)) (ga_cons (ge_var (i := 8) (pv 8)) (ga_cons (ge_var (i := 9) (pv 9)) ga_nil))))))
abbrev s_law_case : Stmt := topS 39
abbrev N_law_case : List Str := ["_law_script", "_law_at", "_law_most", "_law_town_here", "_law_persons", "_law_last", "_law_tellings", "_law_k"]
theorem sc_law_case : FnScope N_law_case ["_law_script", "_law_at", "_law_most"] (defScope s_law_case) := ⟨rfl, rfl, rfl, by decide +kernel, rfl, by decide +kernel, by decide +kernel⟩
set_option maxHeartbeats 4000000 in
theorem ok_law_case {f : Addr} {fd : FuncData} (T : Tx K mg) (F : Fun K "_law_case" "_law_case" s_law_case f fd) (c_law_drawn : Cal P w K mg base 2 "_law_drawn" F_law_drawn) (c_law_telling : Cal P w K mg base 3 "_law_telling" F_law_telling) (c_law_town : Cal P w K mg base 3 "_law_town" F_law_town) :
    FnOk P w K mg base (L2.CX P w) 4 f fd ["_law_script", "_law_at", "_law_most"] (spF ⟨P, w, K⟩ mg F_law_case) := by
  refine def_ok (sh := fun (z : Empty) => nomatch z) F sc_law_case g_law_case (fun ds h => ?_) (fun cdv A outer s H E X hX hr ds hl => ?_)
  · match ds, h with
    | [], _ => rfl
    | [_], _ => rfl
    | [_, _], _ => rfl
    | [_, _, _], h => exact absurd rfl h
    | _ :: _ :: _ :: _ :: _, _ => rfl
  · subst hX
    have b := bd_of sc_law_case hr
    match ds, hl with
    | [law_script_1, law_at_2, law_most_3], _ =>
    show GSs _ E _ [.fz law_script_1, .fz law_at_2, .fz law_most_3, .no, .no, .no, .no, .no] _ (m_law_case law_script_1 law_at_2 law_most_3)
    refine gss_set (i := 3) b.nd (ge_call c_law_town b.hr (by decide) b.hx (ga_cons (ge_var (i := 0) (pv 0)) (ga_cons (ge_var (i := 1) (pv 1)) (ga_cons ge_int ga_nil)))) (fun law_town_here_4 => ?_)
    refine gss_set (i := 4) b.nd (ge_bin add_ok (GE.w ge_int) (GE.w (ge_call c_law_drawn b.hr (by decide) b.hx (ga_cons (ge_var (i := 0) (pv 0)) (ga_cons (ge_bin add_ok (GE.w (ge_var (i := 1) (pv 1))) (GE.w ge_int)) (ga_cons ge_int ga_nil)))))) (fun law_persons_5 => ?_)
    refine gss_set (i := 5) b.nd (ge_call c_law_drawn b.hr (by decide) b.hx (ga_cons (ge_var (i := 0) (pv 0)) (ga_cons (ge_bin add_ok (GE.w (ge_var (i := 1) (pv 1))) (GE.w ge_int)) (ga_cons (ge_bin sub_ok (GE.w ge_int) (GE.w (ge_var (i := 4) (pv 4)))) ga_nil)))) (fun law_last_6 => ?_)
    refine gss_own (i := 6) b.nd (go_lst ga_nil) (fun law_tellings_7 => ?_)
    refine gss_for (sb := fun (st_8 : List PyData) => [.fz law_script_1, .fz law_at_2, .no, .fz law_town_here_4, .fz law_persons_5, .fz law_last_6, .ow (.list st_8), .no]) law_tellings_7 b.po rfl (gi_rng1 rfl T.z_range (ga_cons (ge_call c_law_drawn b.hr (by decide) b.hx (ga_cons (ge_var (i := 0) (pv 0)) (ga_cons (ge_bin add_ok (GE.w (ge_var (i := 1) (pv 1))) (GE.w ge_int)) (ga_cons (ge_bin add_ok (GE.w (ge_var (i := 2) (pv 2))) (GE.w ge_int)) ga_nil)))) ga_nil)) (Le.e (Le.e (Le.n (Le.e (Le.e (Le.e (Le.e (Le.n Le.nil)))))))) (fun d_9 st_8 => ?_) (fun st_8 => ?_)
    · refine gb_name (i := 7) b.nd ?_
      refine gss_append (i := 6) (pv 6) (ge_call c_law_telling b.hr (by decide) b.hx (ga_cons (ge_var (i := 0) (pv 0)) (ga_cons (ge_bin add_ok (GE.w (ge_bin add_ok (GE.w (ge_var (i := 1) (pv 1))) (GE.w ge_int))) (GE.w (ge_bin mulE_ok (GE.w ge_int) (GE.w (ge_var (i := 7) (pv 7)))))) (ga_cons (ge_idx (GE.w (ge_var (i := 3) (pv 3))) (GE.w ge_int)) (ga_cons (ge_var (i := 4) (pv 4)) (ga_cons (ge_var (i := 5) (pv 5)) ga_nil)))))) (fun law_tellings_11 => ?_)
      exact gss_nil law_tellings_11 (Le.e (Le.e (Le.n (Le.e (Le.e (Le.e (Le.e (Le.n Le.nil))))))))
    exact gss_ret (ge_tup (ga_cons (ge_var (i := 3) (pv 3)) (ga_cons (ge_var (i := 4) (pv 4)) (ga_cons (ge_var (i := 5) (pv 5)) (ga_cons (ge_callT tup_ok rfl T.z_tuple bt_tuple (gaw_cons (gw_var (i := 6) (pv 6)) gaw_nil)) ga_nil)))))
abbrev s_law_steps : Stmt := topS 40
abbrev N_law_steps : List Str := ["_law_town_here", "_law_stand", "_law_found", "_law_one", "_law_other", "_law_time"]
theorem sc_law_steps : FnScope N_law_steps ["_law_town_here", "_law_stand"] (defScope s_law_steps) := ⟨rfl, rfl, rfl, by decide +kernel, rfl, by decide +kernel, by decide +kernel⟩
set_option maxHeartbeats 4000000 in
theorem ok_law_steps {f : Addr} {fd : FuncData} (T : Tx K mg) (F : Fun K "_law_steps" "_law_steps" s_law_steps f fd)  :
    FnOk P w K mg base (L2.CX P w) 1 f fd ["_law_town_here", "_law_stand"] (spF ⟨P, w, K⟩ mg F_law_steps) := by
  refine def_ok (sh := fun (z : Empty) => nomatch z) F sc_law_steps g_law_steps (fun ds h => ?_) (fun cdv A outer s H E X hX hr ds hl => ?_)
  · match ds, h with
    | [], _ => rfl
    | [_], _ => rfl
    | [_, _], h => exact absurd rfl h
    | _ :: _ :: _ :: _, _ => rfl
  · subst hX
    have b := bd_of sc_law_steps hr
    match ds, hl with
    | [law_town_here_1, law_stand_2], _ =>
    show GSs _ E _ [.fz law_town_here_1, .fz law_stand_2, .no, .no, .no, .no] _ (m_law_steps law_town_here_1 law_stand_2)
    refine gss_if1 (se := fun z => nomatch z) (gt_cmp (gt_ok) (GE.w (ge_idx (GE.w (ge_var (i := 1) (pv 1))) (GE.w ge_int))) (GE.w ge_int)) ?_ ?_
    · exact gss_ret (GO.ge (go_lst (ga_cons (ge_tup (ga_cons (ge_idx (GE.w (ge_var (i := 1) (pv 1))) (GE.w ge_int)) (ga_cons (ge_bin sub_ok (GE.w (ge_idx (GE.w (ge_var (i := 1) (pv 1))) (GE.w ge_int))) (GE.w ge_int)) ga_nil))) ga_nil)))
    refine gss_own (i := 2) b.nd (go_lst (ga_cons (ge_var (i := 1) (pv 1)) ga_nil)) (fun law_found_3 => ?_)
    refine gss_for (sb := fun (st_4 : List PyData) => [.no, .fz law_stand_2, .ow (.list st_4), .no, .no, .no]) law_found_3 b.po rfl (gi_seq (ge_idx (GE.w (ge_var (i := 0) (pv 0))) (GE.w ge_int))) (Le.n (Le.e (Le.e (Le.n (Le.n (Le.n Le.nil)))))) (fun d_5 st_4 => ?_) (fun st_4 => ?_)
    · refine gb_tup3 (i := 3) (j := 4) (l := 5) b.nd rfl (fun law_one_6 law_other_7 law_time_8 => ?_)
      refine gss_if (sb := fun (st_9 : List PyData) => [.no, .fz law_stand_2, .ow (.list st_9), .fz law_one_6, .fz law_other_7, .fz law_time_8]) (gt_cmp (eq_ok b.u64) (GE.w (ge_idx (GE.w (ge_var (i := 1) (pv 1))) (GE.w ge_int))) (GE.w (ge_var (i := 3) (pv 3)))) ?_ ?_ (fun st_9 => ?_)
      · refine gss_append (i := 2) (pv 2) (ge_tup (ga_cons (ge_var (i := 4) (pv 4)) (ga_cons (ge_bin sub_ok (GE.w (ge_var (i := 5) (pv 5))) (GE.w ge_int)) ga_nil))) (fun law_found_11 => ?_)
        exact gss_nil law_found_11 (Le.n (Le.e (Le.e (Le.e (Le.e (Le.e Le.nil))))))
      · exact gss_nil st_4 (Le.n (Le.e (Le.e (Le.e (Le.e (Le.e Le.nil))))))
      refine gss_if (sb := fun (st_12 : List PyData) => [.no, .fz law_stand_2, .ow (.list st_12), .fz law_one_6, .fz law_other_7, .fz law_time_8]) (gt_cmp (eq_ok b.u64) (GE.w (ge_idx (GE.w (ge_var (i := 1) (pv 1))) (GE.w ge_int))) (GE.w (ge_var (i := 4) (pv 4)))) ?_ ?_ (fun st_12 => ?_)
      · refine gss_append (i := 2) (pv 2) (ge_tup (ga_cons (ge_var (i := 3) (pv 3)) (ga_cons (ge_bin sub_ok (GE.w (ge_var (i := 5) (pv 5))) (GE.w ge_int)) ga_nil))) (fun law_found_14 => ?_)
        exact gss_nil law_found_14 (Le.n (Le.e (Le.e (Le.e (Le.e (Le.e Le.nil))))))
      · exact gss_nil st_9 (Le.n (Le.e (Le.e (Le.e (Le.e (Le.e Le.nil))))))
      exact gss_nil st_12 (Le.n (Le.e (Le.e (Le.n (Le.n (Le.n Le.nil))))))
    exact gss_ret (GO.ge (go_callB (sortE_ok rfl b.u70) rfl T.z_sorted bt_sorted (gaw_cons (gw_var (i := 2) (pv 2)) gaw_nil)))
abbrev s_law_days : Stmt := topS 41
abbrev N_law_days : List Str := ["_law_town_here", "_law_last", "_law_found", "_law_turn", "_law_longer", "_law_day", "_law_place", "_law_stand"]
theorem sc_law_days : FnScope N_law_days ["_law_town_here", "_law_last"] (defScope s_law_days) := ⟨rfl, rfl, rfl, by decide +kernel, rfl, by decide +kernel, by decide +kernel⟩
set_option maxHeartbeats 4000000 in
theorem ok_law_days {f : Addr} {fd : FuncData} (T : Tx K mg) (F : Fun K "_law_days" "_law_days" s_law_days f fd) (c_law_steps : Cal P w K mg base 1 "_law_steps" F_law_steps) :
    FnOk P w K mg base (L2.CX P w) 2 f fd ["_law_town_here", "_law_last"] (spF ⟨P, w, K⟩ mg F_law_days) := by
  refine def_ok (sh := fun (z : Empty) => nomatch z) F sc_law_days g_law_days (fun ds h => ?_) (fun cdv A outer s H E X hX hr ds hl => ?_)
  · match ds, h with
    | [], _ => rfl
    | [_], _ => rfl
    | [_, _], h => exact absurd rfl h
    | _ :: _ :: _ :: _, _ => rfl
  · subst hX
    have b := bd_of sc_law_days hr
    match ds, hl with
    | [law_town_here_1, law_last_2], _ =>
    show GSs _ E _ [.fz law_town_here_1, .fz law_last_2, .no, .no, .no, .no, .no, .no] _ (m_law_days law_town_here_1 law_last_2)
    refine gss_ownLc (own := [("_law_place", 6)]) (i := 2) rfl b.nd (blkOk_by (N := N_law_days) (sc := defScope s_law_days) (by decide +kernel)) (gi_rng1 rfl T.z_range (ga_cons (ge_idx (GE.w (ge_var (i := 0) (pv 0))) (GE.w ge_int)) ga_nil)) (fun d_4 => gc_name (i := 6) (fun _ _ _ _ _ => pg_name (i := 6) b.nd rfl (Or.inl rfl)) (by decide) (fun _ _ _ _ _ => gts_nil) (fun _ _ _ _ _ => (ge_tup (ga_cons (ge_tup (ga_cons (ge_var (i := 6) (pv 6)) (ga_cons ge_int ga_nil))) ga_nil)))) (fun law_found_3 => ?_) (sw_true rfl rfl rfl (by decide +kernel))
    refine gss_for (sb := fun (st_6 : PyData) => [.fz law_town_here_1, .no, .fz st_6, .no, .no, .no, .no, .no]) (PyData.list law_found_3) b.po rfl (gi_rng1 rfl T.z_range (ga_cons (ge_var (i := 1) (pv 1)) ga_nil)) (Le.e (Le.n (Le.f (Le.n (Le.n (Le.n (Le.n (Le.n Le.nil)))))))) (fun d_7 st_6 => ?_) (fun st_6 => ?_)
    · refine gb_name (i := 3) b.nd ?_
      refine gss_own (i := 4) b.nd (go_lst ga_nil) (fun law_longer_18 => ?_)
      refine gss_for (sb := fun (st_19 : PyData) => [.fz law_town_here_1, .no, .no, .no, .fz st_19, .no, .no, .no]) (PyData.list law_longer_18) b.po rfl (gi_seqE (ge_var (i := 2) (pv 2))) (Le.e (Le.n (Le.n (Le.n (Le.f (Le.n (Le.n (Le.n Le.nil)))))))) (fun d_20 st_19 => ?_) (fun st_19 => ?_)
      · refine gb_name (i := 5) b.nd ?_
        refine gss_set (i := 4) b.nd (ge_bin add_ok (GE.w (ge_var (i := 4) (pv 4))) (GE.w (GO.ge (go_comp (own := [("_law_stand", 7)]) rfl b.nd (blkOk_by (N := N_law_days) (sc := defScope s_law_days) (by decide +kernel)) (gi_seq (ge_call c_law_steps b.hr (by decide) b.hx (ga_cons (ge_var (i := 0) (pv 0)) (ga_cons (ge_idx (GE.w (ge_var (i := 5) (pv 5))) (GE.w (ge_un neg_ok (GE.w ge_int)))) ga_nil)))) (fun d_25 => gc_name (i := 7) (fun _ _ _ _ _ => pg_name (i := 7) b.nd rfl (Or.inl rfl)) (by decide) (fun _ _ _ _ _ => gts_nil) (fun _ _ _ _ _ => (ge_bin add_ok (GE.w (ge_var (i := 5) (pv 5))) (GE.w (ge_tup (ga_cons (ge_var (i := 7) (pv 7)) ga_nil)))))))))) (fun law_longer_24 => ?_)
        exact gss_nil law_longer_24 (Le.e (Le.n (Le.n (Le.n (Le.e (Le.n (Le.n (Le.n Le.nil))))))))
      refine gss_set (i := 2) b.nd (ge_var (i := 4) (pv 4)) (fun law_found_27 => ?_)
      exact gss_nil law_found_27 (Le.e (Le.n (Le.e (Le.n (Le.n (Le.n (Le.n (Le.n Le.nil))))))))
    exact gss_ret (ge_var (i := 2) (pv 2))
abbrev s_law_sign : Stmt := topS 42
abbrev N_law_sign : List Str := ["_law_stand"]
theorem sc_law_sign : FnScope N_law_sign ["_law_stand"] (defScope s_law_sign) := ⟨rfl, rfl, rfl, by decide +kernel, rfl, by decide +kernel, by decide +kernel⟩
set_option maxHeartbeats 4000000 in
theorem ok_law_sign {f : Addr} {fd : FuncData} (T : Tx K mg) (F : Fun K "_law_sign" "_law_sign" s_law_sign f fd)  :
    FnOk P w K mg base (L2.CX P w) 1 f fd ["_law_stand"] (spF ⟨P, w, K⟩ mg F_law_sign) := by
  refine def_ok (sh := fun (z : Empty) => nomatch z) F sc_law_sign g_law_sign (fun ds h => ?_) (fun cdv A outer s H E X hX hr ds hl => ?_)
  · match ds, h with
    | [], _ => rfl
    | [_], h => exact absurd rfl h
    | _ :: _ :: _, _ => rfl
  · subst hX
    have b := bd_of sc_law_sign hr
    match ds, hl with
    | [law_stand_1], _ =>
    show GSs _ E _ [.fz law_stand_1] _ (m_law_sign law_stand_1)
    exact gss_ret (ge_idx (GE.w (ge_if (gt_cmp (eq_ok b.u64) (GE.w (ge_idx (GE.w (ge_var (i := 0) (pv 0))) (GE.w ge_int))) (GE.w ge_int)) ge_str ge_str)) (GE.w (ge_idx (GE.w (ge_var (i := 0) (pv 0))) (GE.w ge_int))))
abbrev s_law_refused : Stmt := topS 43
abbrev N_law_refused : List Str := ["_law_e", "_law_flags"]
theorem sc_law_refused : FnScope N_law_refused ["_law_e"] (defScope s_law_refused) := ⟨rfl, rfl, rfl, by decide +kernel, rfl, by decide +kernel, by decide +kernel⟩
set_option maxHeartbeats 4000000 in
theorem ok_law_refused {f : Addr} {fd : FuncData} (T : Tx K mg) (F : Fun K "_law_refused" "_law_refused" s_law_refused f fd) :
    FnQ P w K mg base 1 f fd ["_law_e"] (spQ ⟨P, w, K⟩ mg (inR CS_law m_law_refused)) := by
  refine def_okQ (ts := TS_law) (sh := fun (z : Empty) => nomatch z) F sc_law_refused m_law_refused T.xt (fun cdv A outer s H q D c hc b C hz hf hk => ?_)
  · show GSs _ _ _ [.ex q.1, .no] _ (m_law_refused c)
    refine gss_own (i := 1) b.nd (go_lst (ga_cons (ge_isx (i := 0) C hz hf List.mem_cons_self (hk "NoCase" (by decide)) (pv 0) rfl T.z_isinstance) (ga_cons (ge_isx (i := 0) C hz hf List.mem_cons_self (hk "NoText" (by decide)) (pv 0) rfl T.z_isinstance) ga_nil))) (fun law_flags_2 => ?_)
    refine gss_if1 (se := fun z => nomatch z) (gt_w (gtw_or (gt_cmp (ne_ok b.u64) (GE.w (ge_cnt b.u65 (gw_var (i := 1) (pv 1)) (GE.w ge_bl))) (GE.w ge_int)) (gtw_or1 (gt_not (gt_val (GE.w (ge_isx (i := 0) C hz hf List.mem_cons_self (hk "ValueError" (by decide)) (pv 0) rfl T.z_isinstance))))))) ?_ ?_
    · exact gss_ret (ge_tup (ga_cons ge_str (ga_cons (ge_un neg_ok (GE.w ge_int)) ga_nil)))
    exact gss_ret (ge_tup (ga_cons ge_str (ga_cons (ge_find b.u65 (gw_var (i := 1) (pv 1)) (GE.w ge_bl)) ga_nil)))
abbrev s_law_told : Stmt := topS 44
abbrev N_law_told : List Str := ["_law_way", "_law_case_here", "_law_thing", "_law_e"]
theorem sc_law_told : FnScope N_law_told ["_law_way", "_law_case_here", "_law_thing"] (defScope s_law_told) := ⟨rfl, rfl, rfl, by decide +kernel, rfl, by decide +kernel, by decide +kernel⟩
set_option maxHeartbeats 4000000 in
theorem ok_law_told {f : Addr} {fd : FuncData} (T : Tx K mg) (F : Fun K "_law_told" "_law_told" s_law_told f fd) (c_law_refused : CalQ P w K mg base 1 "_law_refused" (inR CS_law m_law_refused)) (c_day_text : Cal P w K mg base 7 "day_text" F_day_text) (c_read_day : Cal P w K mg base 6 "read_day" F_read_day) (c_read_world : Cal P w K mg base 10 "read_world" F_read_world) (c_world_text : Cal P w K mg base 9 "world_text" F_world_text) :
    FnOk P w K mg base (L2.CX P w) 11 f fd ["_law_way", "_law_case_here", "_law_thing"] (spF ⟨P, w, K⟩ mg F_law_told) := by
  refine def_ok (sh := fun (z : Empty) => nomatch z) F sc_law_told g_law_told (fun ds h => ?_) (fun cdv A outer s H E X hX hr ds hl => ?_)
  · match ds, h with
    | [], _ => rfl
    | [_], _ => rfl
    | [_, _], _ => rfl
    | [_, _, _], h => exact absurd rfl h
    | _ :: _ :: _ :: _ :: _, _ => rfl
  · subst hX
    have b := bd_of sc_law_told hr
    match ds, hl with
    | [law_way_1, law_case_here_2, law_thing_3], _ =>
    show GSs _ E _ [.fz law_way_1, .fz law_case_here_2, .fz law_thing_3, .no] _ (m_law_told law_way_1 law_case_here_2 law_thing_3)
    refine gss_try (i := 3) b c_law_refused (by decide) T.xt (fun pn xe E' b => ?_) rfl T.xte
    exact gss_ret (ge_callF (k := 10) (.cons c_day_text (by decide) rfl (by decide) rfl (.cons c_read_day (by decide) rfl (by decide) rfl (.cons c_world_text (by decide) rfl (by decide) rfl (.cons c_read_world (by decide) rfl (by decide) rfl .nil)))) (by decide) b.hr (by decide) b.hx (GE.w (ge_var (i := 0) (pv 0))) (ga_cons (ge_var (i := 1) (pv 1)) (ga_cons (ge_var (i := 2) (pv 2)) ga_nil)))
abbrev s_law_refuses : Stmt := topS 45
abbrev N_law_refuses : List Str := ["_law_case_here", "_law_days_here", "_law_bad", "_law_way"]
theorem sc_law_refuses : FnScope N_law_refuses ["_law_case_here", "_law_days_here"] (defScope s_law_refuses) := ⟨rfl, rfl, rfl, by decide +kernel, rfl, by decide +kernel, by decide +kernel⟩
set_option maxHeartbeats 4000000 in
theorem ok_law_refuses {f : Addr} {fd : FuncData} (T : Tx K mg) (F : Fun K "_law_refuses" "_law_refuses" s_law_refuses f fd) (c_law_told : Cal P w K mg base 11 "_law_told" F_law_told) :
    FnOk P w K mg base (L2.CX P w) 12 f fd ["_law_case_here", "_law_days_here"] (spF ⟨P, w, K⟩ mg F_law_refuses) := by
  refine def_ok (sh := fun (z : Empty) => nomatch z) F sc_law_refuses g_law_refuses (fun ds h => ?_) (fun cdv A outer s H E X hX hr ds hl => ?_)
  · match ds, h with
    | [], _ => rfl
    | [_], _ => rfl
    | [_, _], h => exact absurd rfl h
    | _ :: _ :: _ :: _, _ => rfl
  · subst hX
    have b := bd_of sc_law_refuses hr
    match ds, hl with
    | [law_case_here_1, law_days_here_2], _ =>
    show GSs _ E _ [.fz law_case_here_1, .fz law_days_here_2, .no, .no] _ (m_law_refuses law_case_here_1 law_days_here_2)
    refine gss_for (sb := fun (st_3 : Unit) => [.fz law_case_here_1, .no, .no, .no]) () b.po rfl (gi_seq (ge_tup (ga_cons ge_non (ga_cons (ge_tup ga_nil) (ga_cons (ge_slice (GE.w (ge_idx (GE.w (ge_var (i := 1) (pv 1))) (GE.w ge_int))) gp_none (gp_some (GE.w (ge_un neg_ok (GE.w ge_int))))) (ga_cons (ge_bin add_ok (GE.w (ge_idx (GE.w (ge_var (i := 1) (pv 1))) (GE.w ge_int))) (GE.w (ge_slice (GE.w (ge_idx (GE.w (ge_var (i := 1) (pv 1))) (GE.w ge_int))) gp_none (gp_some (GE.w ge_int))))) (ga_cons (GO.ge (go_callT list_ok rfl T.z_list bt_list (gaw_cons (GE.w (ge_idx (GE.w (ge_var (i := 1) (pv 1))) (GE.w ge_int))) gaw_nil))) (ga_cons (ge_bin mulE_ok (GE.w (ge_tup (ga_cons (ge_tup (ga_cons ge_int (ga_cons ge_int ga_nil))) ga_nil))) (GE.w (ge_callB len_ok rfl T.z_len bt_len (gaw_cons (GE.w (ge_idx (GE.w (ge_var (i := 1) (pv 1))) (GE.w ge_int))) gaw_nil)))) ga_nil)))))))) (Le.e (Le.n (Le.n (Le.n Le.nil)))) (fun d_4 st_3 => ?_) (fun st_3 => ?_)
    · refine gb_name (i := 2) b.nd ?_
      refine gss_if1 (se := fun z => nomatch z) (gt_cmp (ne_ok b.u64) (GE.w (ge_call c_law_told b.hr (by decide) b.hx (ga_cons ge_int (ga_cons (ge_var (i := 0) (pv 0)) (ga_cons (ge_var (i := 2) (pv 2)) ga_nil))))) (GE.w (ge_tup (ga_cons ge_str (ga_cons ge_int ga_nil))))) ?_ ?_
      · exact gss_ret ge_bl
      refine gss_if1 (se := fun z => nomatch z) (gt_cmp (ne_ok b.u64) (GE.w (ge_call c_law_told b.hr (by decide) b.hx (ga_cons ge_int (ga_cons (ge_var (i := 0) (pv 0)) (ga_cons (ge_bin mulE_ok (GE.w (ge_tup (ga_cons (ge_var (i := 2) (pv 2)) ga_nil))) (GE.w (ge_idx (GE.w (ge_var (i := 0) (pv 0))) (GE.w ge_int)))) ga_nil))))) (GE.w (ge_tup (ga_cons ge_str (ga_cons ge_int ga_nil))))) ?_ ?_
      · exact gss_ret ge_bl
      exact gss_nil () (Le.e (Le.n (Le.n (Le.n Le.nil))))
    exact gss_ret (ge_cmp (eq_ok b.u64) (GE.w (GO.ge (go_comp (own := [("_law_way", 3)]) rfl b.nd (blkOk_by (N := N_law_refuses) (sc := defScope s_law_refuses) (by decide +kernel)) (gi_rng1 rfl T.z_range (ga_cons ge_int ga_nil)) (fun d_5 => gc_name (i := 3) (fun _ _ _ _ _ => pg_name (i := 3) b.nd rfl (Or.inl rfl)) (by decide) (fun _ _ _ _ _ => gts_nil) (fun _ _ _ _ _ => (ge_call c_law_told b.hr (by decide) passL (ga_cons (ge_var (i := 3) (pv 3)) (ga_cons (ge_slice (GE.w (ge_var (i := 0) (pv 0))) gp_none (gp_some (GE.w ge_int))) (ga_cons ge_str ga_nil))))))))) (GE.w (ge_bin mulE_ok (GE.w (GO.ge (go_lst (ga_cons (ge_tup (ga_cons ge_str (ga_cons ge_int ga_nil))) ga_nil)))) (GE.w ge_int))))
abbrev s_law : Stmt := topS 46
abbrev N_law : List Str := ["_law_script", "_law_case_here", "_law_days_here", "_law_texts", "_law_k", "_law_number", "_law_place", "_law_sign_here", "_law_cut", "_law_spoilt", "_law_due", "_law_numbers", "_law_world", "_law_lines", "_law_text", "_law_odd", "_law_bad", "_law_day", "_law_who", "_law_stand"]
theorem sc_law : FnScope N_law ["_law_script"] (defScope s_law) := ⟨rfl, rfl, rfl, by decide +kernel, rfl, by decide +kernel, by decide +kernel⟩
set_option maxHeartbeats 4000000 in
theorem ok_law {f : Addr} {fd : FuncData} (T : Tx K mg) (F : Fun K "law" "law" s_law f fd) (c_law_case : Cal P w K mg base 4 "_law_case" F_law_case) (c_law_days : Cal P w K mg base 2 "_law_days" F_law_days) (c_law_drawn : Cal P w K mg base 2 "_law_drawn" F_law_drawn) (c_law_refuses : Cal P w K mg base 12 "_law_refuses" F_law_refuses) (c_law_sign : Cal P w K mg base 1 "_law_sign" F_law_sign) (c_law_told : Cal P w K mg base 11 "_law_told" F_law_told) :
    FnOk P w K mg base (L2.CX P w) 13 f fd ["_law_script"] (spF ⟨P, w, K⟩ mg F_law) := by
  refine def_ok (sh := fun (z : Empty) => nomatch z) F sc_law g_law (fun ds h => ?_) (fun cdv A outer s H E X hX hr ds hl => ?_)
  · match ds, h with
    | [], _ => rfl
    | [_], h => exact absurd rfl h
    | _ :: _ :: _, _ => rfl
  · subst hX
    have b := bd_of sc_law hr
    match ds, hl with
    | [law_script_1], _ =>
    show GSs _ E _ [.fz law_script_1, .no, .no, .no, .no, .no, .no, .no, .no, .no, .no, .no, .no, .no, .no, .no, .no, .no, .no, .no] _ (m_law law_script_1)
    refine gss_set (i := 1) b.nd (ge_call c_law_case b.hr (by decide) b.hx (ga_cons (ge_var (i := 0) (pv 0)) (ga_cons ge_int (ga_cons ge_int ga_nil)))) (fun law_case_here_2 => ?_)
    refine gss_set (i := 2) b.nd (ge_call c_law_days b.hr (by decide) b.hx (ga_cons (ge_idx (GE.w (ge_var (i := 1) (pv 1))) (GE.w ge_int)) (ga_cons (ge_idx (GE.w (ge_var (i := 1) (pv 1))) (GE.w ge_int)) ga_nil))) (fun law_days_here_3 => ?_)
    refine gss_own (i := 3) b.nd (go_comp (own := [("_law_day", 17)]) rfl b.nd (blkOk_by (N := N_law) (sc := defScope s_law) (by decide +kernel)) (gi_seq (ge_var (i := 2) (pv 2))) (fun d_5 => gc_name (i := 17) (fun _ _ _ _ _ => pg_name (i := 17) b.nd rfl (Or.inl rfl)) (by decide) (fun _ _ _ _ _ => gts_nil) (fun _ _ _ _ _ => (ge_join ge_str (GO.ge (go_comp (own := [("_law_stand", 19)]) rfl b.nd (blk_in (N := N_law) (sc := defScope s_law) rfl rfl (by decide +kernel)) (gi_seq (ge_var (i := 17) (pv 17))) (fun d_7 => gc_name (i := 19) (fun _ _ _ _ _ => pg_name (i := 19) b.nd rfl (Or.inl rfl)) (by decide) (fun _ _ _ _ _ => gts_nil) (fun _ _ _ _ _ => (ge_call c_law_sign b.hr (by decide) passL (ga_cons (ge_var (i := 19) (pv 19)) ga_nil)))))))))) (fun law_texts_4 => ?_)
    refine gss_if1 (se := fun z => nomatch z) (gt_cmp (ne_ok b.u64) (GE.w (ge_lensetT rfl rfl T.z_len rfl T.z_set (gw_var (i := 3) (pv 3)))) (GE.w (ge_callB len_ok rfl T.z_len bt_len (gaw_cons (GE.w (ge_var (i := 2) (pv 2))) gaw_nil)))) ?_ ?_
    · exact gss_ret ge_bl
    refine gss_for (sb := fun (st_9 : Unit) => [.fz law_script_1, .fz law_case_here_2, .fz law_days_here_3, .ow (.list law_texts_4), .no, .no, .no, .no, .no, .no, .no, .no, .no, .no, .no, .no, .no, .no, .no, .no]) () b.po rfl (gi_rng1 rfl T.z_range (ga_cons ge_int ga_nil)) (Le.e (Le.e (Le.e (Le.e (Le.n (Le.n (Le.n (Le.n (Le.n (Le.n (Le.n (Le.n (Le.n (Le.n (Le.n (Le.n (Le.n (Le.n (Le.n (Le.n Le.nil)))))))))))))))))))) (fun d_10 st_9 => ?_) (fun st_9 => ?_)
    · refine gb_name (i := 4) b.nd ?_
      refine gss_set (i := 5) b.nd (ge_call c_law_drawn b.hr (by decide) b.hx (ga_cons (ge_var (i := 0) (pv 0)) (ga_cons (ge_bin add_ok (GE.w ge_int) (GE.w (ge_bin mulE_ok (GE.w ge_int) (GE.w (ge_var (i := 4) (pv 4)))))) (ga_cons (ge_callB len_ok rfl T.z_len bt_len (gaw_cons (GE.w (ge_var (i := 2) (pv 2))) gaw_nil)) ga_nil)))) (fun law_number_11 => ?_)
      refine gss_if1 (se := fun z => nomatch z) (gt_cmp (ne_ok b.u64) (GE.w (ge_call c_law_told b.hr (by decide) b.hx (ga_cons ge_int (ga_cons (ge_var (i := 1) (pv 1)) (ga_cons (ge_idx (GE.w (ge_var (i := 2) (pv 2))) (GE.w (ge_var (i := 5) (pv 5)))) ga_nil))))) (GE.w (ge_idx (gw_var (i := 3) (pv 3)) (GE.w (ge_var (i := 5) (pv 5)))))) ?_ ?_
      · exact gss_ret ge_bl
      refine gss_if1 (se := fun z => nomatch z) (gt_cmp (ne_ok b.u64) (GE.w (ge_call c_law_told b.hr (by decide) b.hx (ga_cons ge_int (ga_cons (ge_var (i := 1) (pv 1)) (ga_cons (ge_idx (gw_var (i := 3) (pv 3)) (GE.w (ge_var (i := 5) (pv 5)))) ga_nil))))) (GE.w (ge_idx (GE.w (ge_var (i := 2) (pv 2))) (GE.w (ge_var (i := 5) (pv 5)))))) ?_ ?_
      · exact gss_ret ge_bl
      refine gss_set (i := 6) b.nd (ge_call c_law_drawn b.hr (by decide) b.hx (ga_cons (ge_var (i := 0) (pv 0)) (ga_cons (ge_bin add_ok (GE.w ge_int) (GE.w (ge_bin mulE_ok (GE.w ge_int) (GE.w (ge_var (i := 4) (pv 4)))))) (ga_cons (ge_bin add_ok (GE.w (ge_callB len_ok rfl T.z_len bt_len (gaw_cons (GE.w (ge_idx (gw_var (i := 3) (pv 3)) (GE.w (ge_var (i := 5) (pv 5))))) gaw_nil))) (GE.w ge_int)) ga_nil)))) (fun law_place_12 => ?_)
      refine gss_set (i := 7) b.nd (ge_idx (GE.w ge_str) (GE.w (ge_call c_law_drawn b.hr (by decide) b.hx (ga_cons (ge_var (i := 0) (pv 0)) (ga_cons (ge_bin add_ok (GE.w ge_int) (GE.w (ge_bin mulE_ok (GE.w ge_int) (GE.w (ge_var (i := 4) (pv 4)))))) (ga_cons ge_int ga_nil)))))) (fun law_sign_here_13 => ?_)
      refine gss_set (i := 8) b.nd (ge_bin add_ok (GE.w (ge_var (i := 6) (pv 6))) (GE.w (ge_call c_law_drawn b.hr (by decide) b.hx (ga_cons (ge_var (i := 0) (pv 0)) (ga_cons (ge_bin add_ok (GE.w ge_int) (GE.w (ge_bin mulE_ok (GE.w ge_int) (GE.w (ge_var (i := 4) (pv 4)))))) (ga_cons ge_int ga_nil)))))) (fun law_cut_14 => ?_)
      refine gss_set (i := 9) b.nd (ge_bin add_ok (GE.w (ge_bin add_ok (GE.w (ge_sliceS (GE.w (ge_idx (gw_var (i := 3) (pv 3)) (GE.w (ge_var (i := 5) (pv 5))))) gp_none (gp_some (GE.w (ge_var (i := 6) (pv 6)))))) (GE.w (ge_var (i := 7) (pv 7))))) (GE.w (ge_sliceS (GE.w (ge_idx (gw_var (i := 3) (pv 3)) (GE.w (ge_var (i := 5) (pv 5))))) (gp_some (GE.w (ge_var (i := 8) (pv 8)))) gp_none))) (fun law_spoilt_15 => ?_)
      refine gss_set (i := 10) b.nd (ge_if (gt_cmp (in_ok b.u65) (GE.w (ge_var (i := 9) (pv 9))) (gw_var (i := 3) (pv 3))) (ge_idx (GE.w (ge_var (i := 2) (pv 2))) (GE.w (ge_find b.u65 (gw_var (i := 3) (pv 3)) (GE.w (ge_var (i := 9) (pv 9)))))) (ge_tup (ga_cons ge_str (ga_cons ge_int ga_nil)))) (fun law_due_16 => ?_)
      refine gss_if1 (se := fun z => nomatch z) (gt_cmp (ne_ok b.u64) (GE.w (ge_call c_law_told b.hr (by decide) b.hx (ga_cons ge_int (ga_cons (ge_var (i := 1) (pv 1)) (ga_cons (ge_var (i := 9) (pv 9)) ga_nil))))) (GE.w (ge_var (i := 10) (pv 10)))) ?_ ?_
      · exact gss_ret ge_bl
      exact gss_nil () (Le.e (Le.e (Le.e (Le.e (Le.n (Le.n (Le.n (Le.n (Le.n (Le.n (Le.n (Le.n (Le.n (Le.n (Le.n (Le.n (Le.n (Le.n (Le.n (Le.n Le.nil))))))))))))))))))))
    refine gss_ownLc (own := [("_law_who", 18)]) (i := 11) rfl b.nd (blkOk_by (N := N_law) (sc := defScope s_law) (by decide +kernel)) (gi_rng1 rfl T.z_range (ga_cons (ge_idx (GE.w (ge_var (i := 1) (pv 1))) (GE.w ge_int)) ga_nil)) (fun d_18 => gc_name (i := 18) (fun _ _ _ _ _ => pg_name (i := 18) b.nd rfl (Or.inl rfl)) (by decide) (fun _ _ _ _ _ => gts_nil) (fun _ _ _ _ _ => (ge_call c_law_drawn b.hr (by decide) passL (ga_cons (ge_var (i := 0) (pv 0)) (ga_cons (ge_bin add_ok (GE.w ge_int) (GE.w (ge_var (i := 18) (pv 18)))) (ga_cons (ge_callB len_ok rfl T.z_len bt_len (gaw_cons (GE.w (ge_var (i := 2) (pv 2))) gaw_nil)) ga_nil)))))) (fun law_numbers_17 => ?_) (sw_true rfl rfl rfl (by decide +kernel))
    refine gss_le (ρ' := [.fz law_script_1, .fz law_case_here_2, .fz law_days_here_3, .ow (.list law_texts_4), .no, .no, .no, .no, .no, .no, .no, .fz (PyData.list law_numbers_17), .no, .no, .no, .no, .no, .no, .no, .no]) (Le.e (Le.e (Le.e (Le.e (Le.n (Le.n (Le.n (Le.n (Le.n (Le.n (Le.n (Le.f (Le.n (Le.n (Le.n (Le.n (Le.n (Le.n (Le.n (Le.n Le.nil)))))))))))))))))))) ?_
    refine gss_set (i := 12) b.nd (ge_callT tup_ok rfl T.z_tuple bt_tuple (gaw_cons (GE.w (GO.ge (go_comp (own := [("_law_number", 5)]) rfl b.nd (blkOk_by (N := N_law) (sc := defScope s_law) (by decide +kernel)) (gi_seq (ge_var (i := 11) (pv 11))) (fun d_22 => gc_name (i := 5) (fun _ _ _ _ _ => pg_name (i := 5) b.nd rfl (Or.inl rfl)) (by decide) (fun _ _ _ _ _ => gts_nil) (fun _ _ _ _ _ => (ge_idx (GE.w (ge_var (i := 2) (pv 2))) (GE.w (ge_var (i := 5) (pv 5))))))))) gaw_nil)) (fun law_world_21 => ?_)
    refine gss_ownLc (own := [("_law_who", 18), ("_law_number", 5)]) (i := 13) rfl b.nd (blkOk_by (N := N_law) (sc := defScope s_law) (by decide +kernel)) (gi_enumE rfl T.z_enumerate (ga_cons (ge_var (i := 11) (pv 11)) ga_nil)) (fun d_25 => gc_tup2 (i := 18) (j := 5) (fun _ _ _ _ _ => pg_tup rfl (pgs_cons (pg_name (i := 18) b.nd rfl (Or.inl rfl)) (pgs_cons (pg_name (i := 5) b.nd rfl (Or.inl rfl)) pgs_nil))) (by decide) (by decide) (fun law_who_26 law_number_27 _ _ _ _ _ => gts_nil) (fun law_who_26 law_number_27 _ _ _ _ _ => (ge_bin add_ok (GE.w (ge_bin add_ok (GE.w (ge_bin add_ok (GE.w (ge_idx (GE.w ge_str) (GE.w (ge_var (i := 18) (pv 18))))) (GE.w ge_str))) (GE.w (ge_idx (gw_var (i := 3) (pv 3)) (GE.w (ge_var (i := 5) (pv 5))))))) (GE.w ge_str)))) (fun law_lines_24 => ?_) (sw_true rfl rfl rfl (by decide +kernel))
    refine gss_le (ρ' := [.fz law_script_1, .fz law_case_here_2, .fz law_days_here_3, .ow (.list law_texts_4), .no, .no, .no, .no, .no, .no, .no, .fz (PyData.list law_numbers_17), .fz law_world_21, .fz (PyData.list law_lines_24), .no, .no, .no, .no, .no, .no]) (Le.e (Le.e (Le.e (Le.e (Le.n (Le.n (Le.n (Le.n (Le.n (Le.n (Le.n (Le.e (Le.e (Le.f (Le.n (Le.n (Le.n (Le.n (Le.n (Le.n Le.nil)))))))))))))))))))) ?_
    refine gss_set (i := 14) b.nd (ge_join ge_str (ge_var (i := 13) (pv 13))) (fun law_text_29 => ?_)
    refine gss_if1 (se := fun z => nomatch z) (gt_w (gtw_or (gt_cmp (ne_ok b.u64) (GE.w (ge_call c_law_told b.hr (by decide) b.hx (ga_cons ge_int (ga_cons (ge_var (i := 1) (pv 1)) (ga_cons (ge_var (i := 12) (pv 12)) ga_nil))))) (GE.w (ge_var (i := 14) (pv 14)))) (gtw_or1 (gt_cmp (ne_ok b.u64) (GE.w (ge_call c_law_told b.hr (by decide) b.hx (ga_cons ge_int (ga_cons (ge_var (i := 1) (pv 1)) (ga_cons (ge_var (i := 14) (pv 14)) ga_nil))))) (GE.w (ge_var (i := 12) (pv 12))))))) ?_ ?_
    · exact gss_ret ge_bl
    refine gss_lstT (i := 15) b.nd (ga_cons (ge_sliceS (GE.w (ge_var (i := 14) (pv 14))) gp_none (gp_some (GE.w (ge_un neg_ok (GE.w ge_int))))) (ga_cons (ge_bin add_ok (GE.w (ge_var (i := 14) (pv 14))) (GE.w ge_str)) (ga_cons (ge_bin add_ok (GE.w (ge_var (i := 14) (pv 14))) (GE.w (ge_idx (GE.w (ge_var (i := 13) (pv 13))) (GE.w ge_int)))) (ga_cons (ge_bin add_ok (GE.w ge_str) (GE.w (ge_var (i := 14) (pv 14)))) (ga_cons (ge_join ge_str (ge_slice (GE.w (ge_var (i := 13) (pv 13))) (gp_some (GE.w ge_int)) gp_none)) ga_nil))))) (fun law_odd_30 => ?_)
    refine gsst_for (sb := fun (st_31 : Unit) => [.no, .fz law_case_here_2, .fz law_days_here_3, .no, .no, .no, .no, .no, .no, .no, .no, .no, .no, .fz (PyData.list law_lines_24), .no, .no, .no, .no, .no, .no]) () b.po rfl (git_list (get_bin add_ok (gw_var (i := 15) (pv 15)) (get_lst2 (get_rpl (ge_var (i := 14) (pv 14))) (get_rpl (ge_var (i := 14) (pv 14)))))) (Le.n (Le.e (Le.e (Le.n (Le.n (Le.n (Le.n (Le.n (Le.n (Le.n (Le.n (Le.n (Le.n (Le.e (Le.n (Le.n (Le.n (Le.n (Le.n (Le.n Le.nil)))))))))))))))))))) (fun d_32 st_31 => ?_) (fun st_31 => ?_)
    · refine gb_name (i := 16) b.nd ?_
      refine gss_if1 (se := fun z => nomatch z) (gt_cmp (ne_ok b.u64) (GE.w (ge_call c_law_told b.hr (by decide) b.hx (ga_cons ge_int (ga_cons (ge_var (i := 1) (pv 1)) (ga_cons (ge_var (i := 16) (pv 16)) ga_nil))))) (GE.w (ge_tup (ga_cons ge_str (ga_cons ge_int ga_nil))))) ?_ ?_
      · exact gss_ret ge_bl
      exact gss_nil () (Le.n (Le.e (Le.e (Le.n (Le.n (Le.n (Le.n (Le.n (Le.n (Le.n (Le.n (Le.n (Le.n (Le.e (Le.n (Le.n (Le.n (Le.n (Le.n (Le.n Le.nil))))))))))))))))))))
    refine gss_if1 (se := fun z => nomatch z) (gt_w (gtw_and (gt_cmp (gt_ok) (GE.w (ge_callB len_ok rfl T.z_len bt_len (gaw_cons (GE.w (ge_var (i := 13) (pv 13))) gaw_nil))) (GE.w ge_int)) (gtw_and1 (gt_cmp (ne_ok b.u64) (GE.w (ge_call c_law_told b.hr (by decide) b.hx (ga_cons ge_int (ga_cons (ge_var (i := 1) (pv 1)) (ga_cons (ge_bin add_ok (GE.w (ge_idx (GE.w (ge_var (i := 13) (pv 13))) (GE.w ge_int))) (GE.w (ge_idx (GE.w (ge_var (i := 13) (pv 13))) (GE.w ge_int)))) ga_nil))))) (GE.w (ge_tup (ga_cons ge_str (ga_cons ge_int ga_nil)))))))) ?_ ?_
    · exact gss_ret ge_bl
    exact gss_ret (ge_call c_law_refuses b.hr (by decide) b.hx (ga_cons (ge_var (i := 1) (pv 1)) (ga_cons (ge_var (i := 2) (pv 2)) ga_nil)))
set_option maxHeartbeats 4000000 in
theorem all_mk {P : Program} {w : World} {K : PySem.W.Frag} {h : Heap} {mg : Str → Option Value} {fa : Addr} (X : K.In h) (G : h.Ns mainGlobals mg) (hfa : mg "law" = some (.ref fa))
    {f0 : Addr} {od0 an0 : Option Addr} {sl0 : Array (Option Value)} {oc0 kV0 dc0 pm0 cd0 ct0 : Value} {f1 : Addr} {od1 an1 : Option Addr} {sl1 : Array (Option Value)} {oc1 kV1 dc1 pm1 cd1 ct1 : Value} {f2 : Addr} {od2 an2 : Option Addr} {sl2 : Array (Option Value)} {oc2 kV2 dc2 pm2 cd2 ct2 : Value} {f3 : Addr} {od3 an3 : Option Addr} {sl3 : Array (Option Value)} {oc3 kV3 dc3 pm3 cd3 ct3 : Value} {f4 : Addr} {od4 an4 : Option Addr} {sl4 : Array (Option Value)} {oc4 kV4 dc4 pm4 cd4 ct4 : Value} {f5 : Addr} {od5 an5 : Option Addr} {sl5 : Array (Option Value)} {oc5 kV5 dc5 pm5 cd5 ct5 : Value} {f6 : Addr} {od6 an6 : Option Addr} {sl6 : Array (Option Value)} {oc6 kV6 dc6 pm6 cd6 ct6 : Value} {f7 : Addr} {od7 an7 : Option Addr} {sl7 : Array (Option Value)} {oc7 kV7 dc7 pm7 cd7 ct7 : Value} {f8 : Addr} {od8 an8 : Option Addr} {sl8 : Array (Option Value)} {oc8 kV8 dc8 pm8 cd8 ct8 : Value} {f9 : Addr} {od9 an9 : Option Addr} {sl9 : Array (Option Value)} {oc9 kV9 dc9 pm9 cd9 ct9 : Value} {f10 : Addr} {od10 an10 : Option Addr} {sl10 : Array (Option Value)} {oc10 kV10 dc10 pm10 cd10 ct10 : Value} {f11 : Addr} {od11 an11 : Option Addr} {sl11 : Array (Option Value)} {oc11 kV11 dc11 pm11 cd11 ct11 : Value} {f12 : Addr} {od12 an12 : Option Addr} {sl12 : Array (Option Value)} {oc12 kV12 dc12 pm12 cd12 ct12 : Value} {f13 : Addr} {od13 an13 : Option Addr} {sl13 : Array (Option Value)} {oc13 kV13 dc13 pm13 cd13 ct13 : Value} {f14 : Addr} {od14 an14 : Option Addr} {sl14 : Array (Option Value)} {oc14 kV14 dc14 pm14 cd14 ct14 : Value} {f15 : Addr} {od15 an15 : Option Addr} {sl15 : Array (Option Value)} {oc15 kV15 dc15 pm15 cd15 ct15 : Value} {f16 : Addr} {od16 an16 : Option Addr} {sl16 : Array (Option Value)} {oc16 kV16 dc16 pm16 cd16 ct16 : Value} {f17 : Addr} {od17 an17 : Option Addr} {sl17 : Array (Option Value)} {oc17 kV17 dc17 pm17 cd17 ct17 : Value} {f18 : Addr} {od18 an18 : Option Addr} {sl18 : Array (Option Value)} {oc18 kV18 dc18 pm18 cd18 ct18 : Value} {f19 : Addr} {od19 an19 : Option Addr} {sl19 : Array (Option Value)} {oc19 kV19 dc19 pm19 cd19 ct19 : Value} {f20 : Addr} {od20 an20 : Option Addr} {sl20 : Array (Option Value)} {oc20 kV20 dc20 pm20 cd20 ct20 : Value} {f21 : Addr} {od21 an21 : Option Addr} {sl21 : Array (Option Value)} {oc21 kV21 dc21 pm21 cd21 ct21 : Value} {f22 : Addr} {od22 an22 : Option Addr} {sl22 : Array (Option Value)} {oc22 kV22 dc22 pm22 cd22 ct22 : Value} {f23 : Addr} {od23 an23 : Option Addr} {sl23 : Array (Option Value)} {oc23 kV23 dc23 pm23 cd23 ct23 : Value} {f24 : Addr} {od24 an24 : Option Addr} {sl24 : Array (Option Value)} {oc24 kV24 dc24 pm24 cd24 ct24 : Value} {f25 : Addr} {od25 an25 : Option Addr} {sl25 : Array (Option Value)} {oc25 kV25 dc25 pm25 cd25 ct25 : Value} {f26 : Addr} {od26 an26 : Option Addr} {sl26 : Array (Option Value)} {oc26 kV26 dc26 pm26 cd26 ct26 : Value} {f27 : Addr} {od27 an27 : Option Addr} {sl27 : Array (Option Value)} {oc27 kV27 dc27 pm27 cd27 ct27 : Value} {t_GREAT : Tok} {t_MOST_MOMENT : Tok} {t_MOST_PERSONS : Tok} {t_MOST_PLACES : Tok} {t_MOST_TELLINGS : Tok} {t_MOST_TIME : Tok} {w_OF_TWO : Addr} {o_OF_TWO : Option Addr} {i_OF_TWO : List Value} {m_OF_TWO : Nat} {s_OF_TWO : Array (Option Value)} {t_PERSONS : Tok} {t_SMALL : Tok} {w_WORDS : Addr} {o_WORDS : Option Addr} {i_WORDS : List Value} {m_WORDS : Nat} {s_WORDS : Array (Option Value)} {x_NoCase : Addr} {x_NoText : Addr} {x_TellingError : Addr}
    (a0 : PySem.W.nsIn K mainGlobals "is_number" = some (some (.ref f0)))
    (l0 : K.lookup f0 = some ⟨oc0, od0, .func (PySem.W.fnOf "is_number" "is_number" (defArgs s_is_number) (defBody s_is_number) (defScope s_is_number) .none kV0 dc0 pm0 an0 cd0 ct0), sl0⟩)
    (c0 : PySem.W.codeIn K cd0 "is_number" = true)
    (k0 : PySem.W.keepIn K (.ref f0) = true)
    (a1 : PySem.W.nsIn K mainGlobals "is_way" = some (some (.ref f1)))
    (l1 : K.lookup f1 = some ⟨oc1, od1, .func (PySem.W.fnOf "is_way" "is_way" (defArgs s_is_way) (defBody s_is_way) (defScope s_is_way) .none kV1 dc1 pm1 an1 cd1 ct1), sl1⟩)
    (c1 : PySem.W.codeIn K cd1 "is_way" = true)
    (k1 : PySem.W.keepIn K (.ref f1) = true)
    (a2 : PySem.W.nsIn K mainGlobals "is_town" = some (some (.ref f2)))
    (l2 : K.lookup f2 = some ⟨oc2, od2, .func (PySem.W.fnOf "is_town" "is_town" (defArgs s_is_town) (defBody s_is_town) (defScope s_is_town) .none kV2 dc2 pm2 an2 cd2 ct2), sl2⟩)
    (c2 : PySem.W.codeIn K cd2 "is_town" = true)
    (k2 : PySem.W.keepIn K (.ref f2) = true)
    (a3 : PySem.W.nsIn K mainGlobals "fits" = some (some (.ref f3)))
    (l3 : K.lookup f3 = some ⟨oc3, od3, .func (PySem.W.fnOf "fits" "fits" (defArgs s_fits) (defBody s_fits) (defScope s_fits) .none kV3 dc3 pm3 an3 cd3 ct3), sl3⟩)
    (c3 : PySem.W.codeIn K cd3 "fits" = true)
    (k3 : PySem.W.keepIn K (.ref f3) = true)
    (a4 : PySem.W.nsIn K mainGlobals "is_case" = some (some (.ref f4)))
    (l4 : K.lookup f4 = some ⟨oc4, od4, .func (PySem.W.fnOf "is_case" "is_case" (defArgs s_is_case) (defBody s_is_case) (defScope s_is_case) .none kV4 dc4 pm4 an4 cd4 ct4), sl4⟩)
    (c4 : PySem.W.codeIn K cd4 "is_case" = true)
    (k4 : PySem.W.keepIn K (.ref f4) = true)
    (a5 : PySem.W.nsIn K mainGlobals "need_case" = some (some (.ref f5)))
    (l5 : K.lookup f5 = some ⟨oc5, od5, .func (PySem.W.fnOf "need_case" "need_case" (defArgs s_need_case) (defBody s_need_case) (defScope s_need_case) .none kV5 dc5 pm5 an5 cd5 ct5), sl5⟩)
    (c5 : PySem.W.codeIn K cd5 "need_case" = true)
    (k5 : PySem.W.keepIn K (.ref f5) = true)
    (a6 : PySem.W.nsIn K mainGlobals "steps" = some (some (.ref f6)))
    (l6 : K.lookup f6 = some ⟨oc6, od6, .func (PySem.W.fnOf "steps" "steps" (defArgs s_steps) (defBody s_steps) (defScope s_steps) .none kV6 dc6 pm6 an6 cd6 ct6), sl6⟩)
    (c6 : PySem.W.codeIn K cd6 "steps" = true)
    (k6 : PySem.W.keepIn K (.ref f6) = true)
    (a7 : PySem.W.nsIn K mainGlobals "are_stands" = some (some (.ref f7)))
    (l7 : K.lookup f7 = some ⟨oc7, od7, .func (PySem.W.fnOf "are_stands" "are_stands" (defArgs s_are_stands) (defBody s_are_stands) (defScope s_are_stands) .none kV7 dc7 pm7 an7 cd7 ct7), sl7⟩)
    (c7 : PySem.W.codeIn K cd7 "are_stands" = true)
    (k7 : PySem.W.keepIn K (.ref f7) = true)
    (a8 : PySem.W.nsIn K mainGlobals "is_day" = some (some (.ref f8)))
    (l8 : K.lookup f8 = some ⟨oc8, od8, .func (PySem.W.fnOf "is_day" "is_day" (defArgs s_is_day) (defBody s_is_day) (defScope s_is_day) .none kV8 dc8 pm8 an8 cd8 ct8), sl8⟩)
    (c8 : PySem.W.codeIn K cd8 "is_day" = true)
    (k8 : PySem.W.keepIn K (.ref f8) = true)
    (a9 : PySem.W.nsIn K mainGlobals "is_world" = some (some (.ref f9)))
    (l9 : K.lookup f9 = some ⟨oc9, od9, .func (PySem.W.fnOf "is_world" "is_world" (defArgs s_is_world) (defBody s_is_world) (defScope s_is_world) .none kV9 dc9 pm9 an9 cd9 ct9), sl9⟩)
    (c9 : PySem.W.codeIn K cd9 "is_world" = true)
    (k9 : PySem.W.keepIn K (.ref f9) = true)
    (a10 : PySem.W.nsIn K mainGlobals "need_world" = some (some (.ref f10)))
    (l10 : K.lookup f10 = some ⟨oc10, od10, .func (PySem.W.fnOf "need_world" "need_world" (defArgs s_need_world) (defBody s_need_world) (defScope s_need_world) .none kV10 dc10 pm10 an10 cd10 ct10), sl10⟩)
    (c10 : PySem.W.codeIn K cd10 "need_world" = true)
    (k10 : PySem.W.keepIn K (.ref f10) = true)
    (a11 : PySem.W.nsIn K mainGlobals "sign_of" = some (some (.ref f11)))
    (l11 : K.lookup f11 = some ⟨oc11, od11, .func (PySem.W.fnOf "sign_of" "sign_of" (defArgs s_sign_of) (defBody s_sign_of) (defScope s_sign_of) .none kV11 dc11 pm11 an11 cd11 ct11), sl11⟩)
    (c11 : PySem.W.codeIn K cd11 "sign_of" = true)
    (k11 : PySem.W.keepIn K (.ref f11) = true)
    (a12 : PySem.W.nsIn K mainGlobals "day_text" = some (some (.ref f12)))
    (l12 : K.lookup f12 = some ⟨oc12, od12, .func (PySem.W.fnOf "day_text" "day_text" (defArgs s_day_text) (defBody s_day_text) (defScope s_day_text) .none kV12 dc12 pm12 an12 cd12 ct12), sl12⟩)
    (c12 : PySem.W.codeIn K cd12 "day_text" = true)
    (k12 : PySem.W.keepIn K (.ref f12) = true)
    (a13 : PySem.W.nsIn K mainGlobals "read_day" = some (some (.ref f13)))
    (l13 : K.lookup f13 = some ⟨oc13, od13, .func (PySem.W.fnOf "read_day" "read_day" (defArgs s_read_day) (defBody s_read_day) (defScope s_read_day) .none kV13 dc13 pm13 an13 cd13 ct13), sl13⟩)
    (c13 : PySem.W.codeIn K cd13 "read_day" = true)
    (k13 : PySem.W.keepIn K (.ref f13) = true)
    (a14 : PySem.W.nsIn K mainGlobals "world_text" = some (some (.ref f14)))
    (l14 : K.lookup f14 = some ⟨oc14, od14, .func (PySem.W.fnOf "world_text" "world_text" (defArgs s_world_text) (defBody s_world_text) (defScope s_world_text) .none kV14 dc14 pm14 an14 cd14 ct14), sl14⟩)
    (c14 : PySem.W.codeIn K cd14 "world_text" = true)
    (k14 : PySem.W.keepIn K (.ref f14) = true)
    (a15 : PySem.W.nsIn K mainGlobals "read_world" = some (some (.ref f15)))
    (l15 : K.lookup f15 = some ⟨oc15, od15, .func (PySem.W.fnOf "read_world" "read_world" (defArgs s_read_world) (defBody s_read_world) (defScope s_read_world) .none kV15 dc15 pm15 an15 cd15 ct15), sl15⟩)
    (c15 : PySem.W.codeIn K cd15 "read_world" = true)
    (k15 : PySem.W.keepIn K (.ref f15) = true)
    (a16 : PySem.W.nsIn K mainGlobals "_law_cell" = some (some (.ref f16)))
    (l16 : K.lookup f16 = some ⟨oc16, od16, .func (PySem.W.fnOf "_law_cell" "_law_cell" (defArgs s_law_cell) (defBody s_law_cell) (defScope s_law_cell) .none kV16 dc16 pm16 an16 cd16 ct16), sl16⟩)
    (c16 : PySem.W.codeIn K cd16 "_law_cell" = true)
    (k16 : PySem.W.keepIn K (.ref f16) = true)
    (a17 : PySem.W.nsIn K mainGlobals "_law_drawn" = some (some (.ref f17)))
    (l17 : K.lookup f17 = some ⟨oc17, od17, .func (PySem.W.fnOf "_law_drawn" "_law_drawn" (defArgs s_law_drawn) (defBody s_law_drawn) (defScope s_law_drawn) .none kV17 dc17 pm17 an17 cd17 ct17), sl17⟩)
    (c17 : PySem.W.codeIn K cd17 "_law_drawn" = true)
    (k17 : PySem.W.keepIn K (.ref f17) = true)
    (a18 : PySem.W.nsIn K mainGlobals "_law_town" = some (some (.ref f18)))
    (l18 : K.lookup f18 = some ⟨oc18, od18, .func (PySem.W.fnOf "_law_town" "_law_town" (defArgs s_law_town) (defBody s_law_town) (defScope s_law_town) .none kV18 dc18 pm18 an18 cd18 ct18), sl18⟩)
    (c18 : PySem.W.codeIn K cd18 "_law_town" = true)
    (k18 : PySem.W.keepIn K (.ref f18) = true)
    (a19 : PySem.W.nsIn K mainGlobals "_law_telling" = some (some (.ref f19)))
    (l19 : K.lookup f19 = some ⟨oc19, od19, .func (PySem.W.fnOf "_law_telling" "_law_telling" (defArgs s_law_telling) (defBody s_law_telling) (defScope s_law_telling) .none kV19 dc19 pm19 an19 cd19 ct19), sl19⟩)
    (c19 : PySem.W.codeIn K cd19 "_law_telling" = true)
    (k19 : PySem.W.keepIn K (.ref f19) = true)
    (a20 : PySem.W.nsIn K mainGlobals "_law_case" = some (some (.ref f20)))
    (l20 : K.lookup f20 = some ⟨oc20, od20, .func (PySem.W.fnOf "_law_case" "_law_case" (defArgs s_law_case) (defBody s_law_case) (defScope s_law_case) .none kV20 dc20 pm20 an20 cd20 ct20), sl20⟩)
    (c20 : PySem.W.codeIn K cd20 "_law_case" = true)
    (k20 : PySem.W.keepIn K (.ref f20) = true)
    (a21 : PySem.W.nsIn K mainGlobals "_law_steps" = some (some (.ref f21)))
    (l21 : K.lookup f21 = some ⟨oc21, od21, .func (PySem.W.fnOf "_law_steps" "_law_steps" (defArgs s_law_steps) (defBody s_law_steps) (defScope s_law_steps) .none kV21 dc21 pm21 an21 cd21 ct21), sl21⟩)
    (c21 : PySem.W.codeIn K cd21 "_law_steps" = true)
    (k21 : PySem.W.keepIn K (.ref f21) = true)
    (a22 : PySem.W.nsIn K mainGlobals "_law_days" = some (some (.ref f22)))
    (l22 : K.lookup f22 = some ⟨oc22, od22, .func (PySem.W.fnOf "_law_days" "_law_days" (defArgs s_law_days) (defBody s_law_days) (defScope s_law_days) .none kV22 dc22 pm22 an22 cd22 ct22), sl22⟩)
    (c22 : PySem.W.codeIn K cd22 "_law_days" = true)
    (k22 : PySem.W.keepIn K (.ref f22) = true)
    (a23 : PySem.W.nsIn K mainGlobals "_law_sign" = some (some (.ref f23)))
    (l23 : K.lookup f23 = some ⟨oc23, od23, .func (PySem.W.fnOf "_law_sign" "_law_sign" (defArgs s_law_sign) (defBody s_law_sign) (defScope s_law_sign) .none kV23 dc23 pm23 an23 cd23 ct23), sl23⟩)
    (c23 : PySem.W.codeIn K cd23 "_law_sign" = true)
    (k23 : PySem.W.keepIn K (.ref f23) = true)
    (a24 : PySem.W.nsIn K mainGlobals "_law_refused" = some (some (.ref f24)))
    (l24 : K.lookup f24 = some ⟨oc24, od24, .func (PySem.W.fnOf "_law_refused" "_law_refused" (defArgs s_law_refused) (defBody s_law_refused) (defScope s_law_refused) .none kV24 dc24 pm24 an24 cd24 ct24), sl24⟩)
    (c24 : PySem.W.codeIn K cd24 "_law_refused" = true)
    (k24 : PySem.W.keepIn K (.ref f24) = true)
    (a25 : PySem.W.nsIn K mainGlobals "_law_told" = some (some (.ref f25)))
    (l25 : K.lookup f25 = some ⟨oc25, od25, .func (PySem.W.fnOf "_law_told" "_law_told" (defArgs s_law_told) (defBody s_law_told) (defScope s_law_told) .none kV25 dc25 pm25 an25 cd25 ct25), sl25⟩)
    (c25 : PySem.W.codeIn K cd25 "_law_told" = true)
    (k25 : PySem.W.keepIn K (.ref f25) = true)
    (a26 : PySem.W.nsIn K mainGlobals "_law_refuses" = some (some (.ref f26)))
    (l26 : K.lookup f26 = some ⟨oc26, od26, .func (PySem.W.fnOf "_law_refuses" "_law_refuses" (defArgs s_law_refuses) (defBody s_law_refuses) (defScope s_law_refuses) .none kV26 dc26 pm26 an26 cd26 ct26), sl26⟩)
    (c26 : PySem.W.codeIn K cd26 "_law_refuses" = true)
    (k26 : PySem.W.keepIn K (.ref f26) = true)
    (a27 : PySem.W.nsIn K mainGlobals "law" = some (some (.ref f27)))
    (l27 : K.lookup f27 = some ⟨oc27, od27, .func (PySem.W.fnOf "law" "law" (defArgs s_law) (defBody s_law) (defScope s_law) .none kV27 dc27 pm27 an27 cd27 ct27), sl27⟩)
    (c27 : PySem.W.codeIn K cd27 "law" = true)
    (k27 : PySem.W.keepIn K (.ref f27) = true)
    (z_all : PySem.W.nsIn K mainGlobals "all" = some none)
    (z_bool : PySem.W.nsIn K mainGlobals "bool" = some none)
    (n_GREAT : PySem.W.nsIn K mainGlobals "GREAT" = some (some (.str "ABCDE" t_GREAT)))
    (n_MOST_MOMENT : PySem.W.nsIn K mainGlobals "MOST_MOMENT" = some (some (.int 9 t_MOST_MOMENT)))
    (n_MOST_PERSONS : PySem.W.nsIn K mainGlobals "MOST_PERSONS" = some (some (.int 3 t_MOST_PERSONS)))
    (n_MOST_PLACES : PySem.W.nsIn K mainGlobals "MOST_PLACES" = some (some (.int 5 t_MOST_PLACES)))
    (n_MOST_TELLINGS : PySem.W.nsIn K mainGlobals "MOST_TELLINGS" = some (some (.int 6 t_MOST_TELLINGS)))
    (n_MOST_TIME : PySem.W.nsIn K mainGlobals "MOST_TIME" = some (some (.int 4 t_MOST_TIME)))
    (n_OF_TWO : PySem.W.nsIn K mainGlobals "OF_TWO" = some (some (.ref w_OF_TWO)))
    (l_OF_TWO : K.lookup w_OF_TWO = some ⟨.type "tuple", o_OF_TWO, .seq i_OF_TWO.toArray m_OF_TWO, s_OF_TWO⟩)
    (v_OF_TWO : Vals ((["met", "apart"] : List Str).map V.str) i_OF_TWO)
    (n_PERSONS : PySem.W.nsIn K mainGlobals "PERSONS" = some (some (.str "XYZ" t_PERSONS)))
    (n_SMALL : PySem.W.nsIn K mainGlobals "SMALL" = some (some (.str "abcde" t_SMALL)))
    (n_WORDS : PySem.W.nsIn K mainGlobals "WORDS" = some (some (.ref w_WORDS)))
    (l_WORDS : K.lookup w_WORDS = some ⟨.type "tuple", o_WORDS, .seq i_WORDS.toArray m_WORDS, s_WORDS⟩)
    (v_WORDS : Vals ((["there", "seen", "never", "met", "apart"] : List Str).map V.str) i_WORDS)
    (z_enumerate : PySem.W.nsIn K mainGlobals "enumerate" = some none)
    (z_int : PySem.W.nsIn K mainGlobals "int" = some none)
    (z_isinstance : PySem.W.nsIn K mainGlobals "isinstance" = some none)
    (z_len : PySem.W.nsIn K mainGlobals "len" = some none)
    (z_list : PySem.W.nsIn K mainGlobals "list" = some none)
    (n_NoCase : PySem.W.nsIn K mainGlobals "NoCase" = some (some (.ref x_NoCase)))
    (e_NoCase : PySem.W.excIn K x_NoCase [.type "ValueError", .type "Exception", .type "BaseException", .type "object"] "ValueError.__new__" = true)
    (k_NoCase : PySem.W.keepIn K (.ref x_NoCase) = true)
    (b_NoCase : PySem.W.subIn K (.ref x_NoCase) (.type "BaseException") = some true)
    (y_NoCase : PySem.W.typeIn K (.ref x_NoCase) = some (.type "type"))
    (n_NoText : PySem.W.nsIn K mainGlobals "NoText" = some (some (.ref x_NoText)))
    (e_NoText : PySem.W.excIn K x_NoText [.type "ValueError", .type "Exception", .type "BaseException", .type "object"] "ValueError.__new__" = true)
    (k_NoText : PySem.W.keepIn K (.ref x_NoText) = true)
    (b_NoText : PySem.W.subIn K (.ref x_NoText) (.type "BaseException") = some true)
    (y_NoText : PySem.W.typeIn K (.ref x_NoText) = some (.type "type"))
    (z_range : PySem.W.nsIn K mainGlobals "range" = some none)
    (z_set : PySem.W.nsIn K mainGlobals "set" = some none)
    (z_sorted : PySem.W.nsIn K mainGlobals "sorted" = some none)
    (z_str : PySem.W.nsIn K mainGlobals "str" = some none)
    (z_tuple : PySem.W.nsIn K mainGlobals "tuple" = some none)
    (n_TellingError : PySem.W.nsIn K mainGlobals "TellingError" = some (some (.ref x_TellingError)))
    (zz_ValueError : PySem.W.nsIn K mainGlobals "ValueError" = some none)
    (xn : PySem.W.specialIn K (.builtin "object.__class__") "__get__" = some (some (.builtin "getset_descriptor.__get__")))
    (xtk : PySem.W.takesIn K (.builtin "object.__class__") = some true)
    (xd_NoCase : PySem.W.hasDictIn K x_NoCase = true)
    (xd_NoText : PySem.W.hasDictIn K x_NoText = true)
    (y_TellingError : PySem.W.typeIn K (.ref x_TellingError) = some (.type "type"))
    (xd_TellingError : PySem.W.hasDictIn K x_TellingError = true)
    (xs_TellingError : PySem.W.subIn K (.ref x_TellingError) (.type "BaseException") = some true)
    (xg_NoText : PySem.W.findIn K (.ref x_NoText) "__getattribute__" = some (some (.builtin "BaseException.__getattribute__")))
    (xk_NoText : PySem.W.findIn K (.ref x_NoText) "__getattr__" = some none)
    (xs_NoText : PySem.W.subIn K (.ref x_NoText) (.type "BaseException") = some true)
    (xa_NoText : PySem.W.findIn K (.ref x_NoText) "__class__" = some (some (.builtin "object.__class__")))
    (xm_NoText : PySem.W.mroIn K x_NoText (.type "object") = some true)
    (xe_NoText : PySem.W.subIn K (.ref x_NoText) (.ref x_TellingError) = some true)
    (xc_NoText : PySem.W.subIn K (.ref x_NoText) (.ref x_NoText) = some true)
    (xv_NoText : PySem.W.subIn K (.ref x_NoText) (.type "ValueError") = some true)
    (xi_NoText_NoCase : PySem.W.subIn K (.ref x_NoText) (.ref x_NoCase) = some false)
    (xg_NoCase : PySem.W.findIn K (.ref x_NoCase) "__getattribute__" = some (some (.builtin "BaseException.__getattribute__")))
    (xk_NoCase : PySem.W.findIn K (.ref x_NoCase) "__getattr__" = some none)
    (xs_NoCase : PySem.W.subIn K (.ref x_NoCase) (.type "BaseException") = some true)
    (xa_NoCase : PySem.W.findIn K (.ref x_NoCase) "__class__" = some (some (.builtin "object.__class__")))
    (xm_NoCase : PySem.W.mroIn K x_NoCase (.type "object") = some true)
    (xe_NoCase : PySem.W.subIn K (.ref x_NoCase) (.ref x_TellingError) = some true)
    (xc_NoCase : PySem.W.subIn K (.ref x_NoCase) (.ref x_NoCase) = some true)
    (xv_NoCase : PySem.W.subIn K (.ref x_NoCase) (.type "ValueError") = some true)
    (xi_NoCase_NoText : PySem.W.subIn K (.ref x_NoCase) (.ref x_NoText) = some false)
    (z_zip : PySem.W.nsIn K mainGlobals "zip" = some none) :
    ∃ fd : FuncData, (∀ (s : Shared) (v : Value), BindsTo s fd ⟨[v], []⟩ [("_law_script", v)]) ∧ ∀ base : Heap, K.In base → base.Ns mainGlobals mg → FnOk P w K mg base (L2.CX P w) 13 fa fd ["_law_script"] (spF ⟨P, w, K⟩ mg F_law) := by
  have e := hfa.symm.trans (PySem.W.mg_of X G a27)
  cases e
  have T : Tx K mg := { z_all := PySem.W.mg_none_of X G z_all, z_bool := PySem.W.mg_none_of X G z_bool, c_GREAT := gcon_str (PySem.W.mg_of X G n_GREAT), c_MOST_MOMENT := gcon_int (PySem.W.mg_of X G n_MOST_MOMENT), c_MOST_PERSONS := gcon_int (PySem.W.mg_of X G n_MOST_PERSONS), c_MOST_PLACES := gcon_int (PySem.W.mg_of X G n_MOST_PLACES), c_MOST_TELLINGS := gcon_int (PySem.W.mg_of X G n_MOST_TELLINGS), c_MOST_TIME := gcon_int (PySem.W.mg_of X G n_MOST_TIME), c_OF_TWO := gcon_strs ["met", "apart"] (PySem.W.mg_of X G n_OF_TWO) l_OF_TWO rfl rfl (by rw [List.size_toArray, ← v_OF_TWO.length]; decide) (by simpa using v_OF_TWO), c_PERSONS := gcon_str (PySem.W.mg_of X G n_PERSONS), c_SMALL := gcon_str (PySem.W.mg_of X G n_SMALL), c_WORDS := gcon_strs ["there", "seen", "never", "met", "apart"] (PySem.W.mg_of X G n_WORDS) l_WORDS rfl rfl (by rw [List.size_toArray, ← v_WORDS.length]; decide) (by simpa using v_WORDS), z_enumerate := PySem.W.mg_none_of X G z_enumerate, z_int := PySem.W.mg_none_of X G z_int, z_isinstance := PySem.W.mg_none_of X G z_isinstance, z_len := PySem.W.mg_none_of X G z_len, z_list := PySem.W.mg_none_of X G z_list, x_NoCase := ⟨x_NoCase, ⟨PySem.W.mg_of X G n_NoCase, e_NoCase, k_NoCase, b_NoCase, y_NoCase⟩⟩, x_NoText := ⟨x_NoText, ⟨PySem.W.mg_of X G n_NoText, e_NoText, k_NoText, b_NoText, y_NoText⟩⟩, z_range := PySem.W.mg_none_of X G z_range, z_set := PySem.W.mg_none_of X G z_set, z_sorted := PySem.W.mg_none_of X G z_sorted, z_str := PySem.W.mg_none_of X G z_str, z_tuple := PySem.W.mg_none_of X G z_tuple, xt := (XTab.cons (PySem.W.mg_of X G n_NoCase) ⟨xg_NoCase, xk_NoCase, xs_NoCase, xd_NoCase, xa_NoCase, xn, xtk, xm_NoCase⟩ (XKs.cons (b := true) (by decide) (.inl ⟨_, PySem.W.mg_of X G n_NoCase, kit_eq⟩) (XKs.cons (b := false) (by decide) (.inl ⟨_, PySem.W.mg_of X G n_NoText, kit_ne xd_NoText y_NoText xc_NoCase xi_NoCase_NoText⟩) (XKs.cons (b := true) rfl (.inr ⟨PySem.W.mg_none_of X G zz_ValueError, by decide +kernel, kit_val xv_NoCase⟩) XKs.nil))) ⟨_, PySem.W.mg_of X G n_TellingError, PySem.W.exm_ref xs_TellingError xd_TellingError y_TellingError xe_NoCase⟩ (XTab.cons (PySem.W.mg_of X G n_NoText) ⟨xg_NoText, xk_NoText, xs_NoText, xd_NoText, xa_NoText, xn, xtk, xm_NoText⟩ (XKs.cons (b := false) (by decide) (.inl ⟨_, PySem.W.mg_of X G n_NoCase, kit_ne xd_NoCase y_NoCase xc_NoText xi_NoText_NoCase⟩) (XKs.cons (b := true) (by decide) (.inl ⟨_, PySem.W.mg_of X G n_NoText, kit_eq⟩) (XKs.cons (b := true) rfl (.inr ⟨PySem.W.mg_none_of X G zz_ValueError, by decide +kernel, kit_val xv_NoText⟩) XKs.nil))) ⟨_, PySem.W.mg_of X G n_TellingError, PySem.W.exm_ref xs_TellingError xd_TellingError y_TellingError xe_NoText⟩ XTab.nil)), xte := ⟨_, PySem.W.mg_of X G n_TellingError⟩, z_zip := PySem.W.mg_none_of X G z_zip }
  have F0 := fun_mk (st := s_is_number) l0 c0 k0
  have F1 := fun_mk (st := s_is_way) l1 c1 k1
  have F2 := fun_mk (st := s_is_town) l2 c2 k2
  have F3 := fun_mk (st := s_fits) l3 c3 k3
  have F4 := fun_mk (st := s_is_case) l4 c4 k4
  have F5 := fun_mk (st := s_need_case) l5 c5 k5
  have F6 := fun_mk (st := s_steps) l6 c6 k6
  have F7 := fun_mk (st := s_are_stands) l7 c7 k7
  have F8 := fun_mk (st := s_is_day) l8 c8 k8
  have F9 := fun_mk (st := s_is_world) l9 c9 k9
  have F10 := fun_mk (st := s_need_world) l10 c10 k10
  have F11 := fun_mk (st := s_sign_of) l11 c11 k11
  have F12 := fun_mk (st := s_day_text) l12 c12 k12
  have F13 := fun_mk (st := s_read_day) l13 c13 k13
  have F14 := fun_mk (st := s_world_text) l14 c14 k14
  have F15 := fun_mk (st := s_read_world) l15 c15 k15
  have F16 := fun_mk (st := s_law_cell) l16 c16 k16
  have F17 := fun_mk (st := s_law_drawn) l17 c17 k17
  have F18 := fun_mk (st := s_law_town) l18 c18 k18
  have F19 := fun_mk (st := s_law_telling) l19 c19 k19
  have F20 := fun_mk (st := s_law_case) l20 c20 k20
  have F21 := fun_mk (st := s_law_steps) l21 c21 k21
  have F22 := fun_mk (st := s_law_days) l22 c22 k22
  have F23 := fun_mk (st := s_law_sign) l23 c23 k23
  have F24 := fun_mk (st := s_law_refused) l24 c24 k24
  have F25 := fun_mk (st := s_law_told) l25 c25 k25
  have F26 := fun_mk (st := s_law_refuses) l26 c26 k26
  have F27 := fun_mk (st := s_law) l27 c27 k27
  refine ⟨PySem.W.fnOf "law" "law" (defArgs s_law) (defBody s_law) (defScope s_law) .none kV27 dc27 pm27 an27 cd27 ct27, fun s v => .of_eq rfl, fun base _ _ => ?_⟩
  have b16 := F16.binds (ps := ["_law_script", "_law_k"]) fun _ _ _ _ _ _ us hl => match us, hl with | [_, _], _ => rfl
  have C_law_cell : Cal P w K mg base 1 "_law_cell" F_law_cell := ⟨_, _, _, ok_law_cell T F16 , PySem.W.mg_of X G a16, k16, b16⟩
  have b17 := F17.binds (ps := ["_law_script", "_law_k", "_law_many"]) fun _ _ _ _ _ _ us hl => match us, hl with | [_, _, _], _ => rfl
  have C_law_drawn : Cal P w K mg base 2 "_law_drawn" F_law_drawn := ⟨_, _, _, ok_law_drawn T F17 C_law_cell, PySem.W.mg_of X G a17, k17, b17⟩
  have b19 := F19.binds (ps := ["_law_script", "_law_at", "_law_many", "_law_persons", "_law_last"]) fun _ _ _ _ _ _ us hl => match us, hl with | [_, _, _, _, _], _ => rfl
  have C_law_telling : Cal P w K mg base 3 "_law_telling" F_law_telling := ⟨_, _, _, ok_law_telling T F19 C_law_drawn, PySem.W.mg_of X G a19, k19, b19⟩
  have b18 := F18.binds (ps := ["_law_script", "_law_at", "_law_most"]) fun _ _ _ _ _ _ us hl => match us, hl with | [_, _, _], _ => rfl
  have C_law_town : Cal P w K mg base 3 "_law_town" F_law_town := ⟨_, _, _, ok_law_town T F18 C_law_drawn, PySem.W.mg_of X G a18, k18, b18⟩
  have b20 := F20.binds (ps := ["_law_script", "_law_at", "_law_most"]) fun _ _ _ _ _ _ us hl => match us, hl with | [_, _, _], _ => rfl
  have C_law_case : Cal P w K mg base 4 "_law_case" F_law_case := ⟨_, _, _, ok_law_case T F20 C_law_drawn C_law_telling C_law_town, PySem.W.mg_of X G a20, k20, b20⟩
  have b21 := F21.binds (ps := ["_law_town_here", "_law_stand"]) fun _ _ _ _ _ _ us hl => match us, hl with | [_, _], _ => rfl
  have C_law_steps : Cal P w K mg base 1 "_law_steps" F_law_steps := ⟨_, _, _, ok_law_steps T F21 , PySem.W.mg_of X G a21, k21, b21⟩
  have b22 := F22.binds (ps := ["_law_town_here", "_law_last"]) fun _ _ _ _ _ _ us hl => match us, hl with | [_, _], _ => rfl
  have C_law_days : Cal P w K mg base 2 "_law_days" F_law_days := ⟨_, _, _, ok_law_days T F22 C_law_steps, PySem.W.mg_of X G a22, k22, b22⟩
  have b24 := F24.binds (ps := ["_law_e"]) fun _ _ _ _ _ _ us hl => match us, hl with | [_], _ => rfl
  have C_law_refused : CalQ P w K mg base 1 "_law_refused" (inR CS_law m_law_refused) := ⟨_, _, _, ok_law_refused T F24, PySem.W.mg_of X G a24, k24, b24⟩
  have b0 := F0.binds (ps := ["thing", "low", "high"]) fun _ _ _ _ _ _ us hl => match us, hl with | [_, _, _], _ => rfl
  have C_is_number : Cal P w K mg base 1 "is_number" F_is_number := ⟨_, _, _, ok_is_number T F0 , PySem.W.mg_of X G a0, k0, b0⟩
  have b7 := F7.binds (ps := ["town", "thing", "many"]) fun _ _ _ _ _ _ us hl => match us, hl with | [_, _, _], _ => rfl
  have C_are_stands : Cal P w K mg base 2 "are_stands" F_are_stands := ⟨_, _, _, ok_are_stands T F7 C_is_number, PySem.W.mg_of X G a7, k7, b7⟩
  have b3 := F3.binds (ps := ["places", "persons", "last", "thing"]) fun _ _ _ _ _ _ us hl => match us, hl with | [_, _, _, _], _ => rfl
  have C_fits : Cal P w K mg base 2 "fits" F_fits := ⟨_, _, _, ok_fits T F3 C_is_number, PySem.W.mg_of X G a3, k3, b3⟩
  have b1 := F1.binds (ps := ["places", "thing"]) fun _ _ _ _ _ _ us hl => match us, hl with | [_, _], _ => rfl
  have C_is_way : Cal P w K mg base 2 "is_way" F_is_way := ⟨_, _, _, ok_is_way T F1 C_is_number, PySem.W.mg_of X G a1, k1, b1⟩
  have b2 := F2.binds (ps := ["thing"]) fun _ _ _ _ _ _ us hl => match us, hl with | [_], _ => rfl
  have C_is_town : Cal P w K mg base 3 "is_town" F_is_town := ⟨_, _, _, ok_is_town T F2 C_is_number C_is_way, PySem.W.mg_of X G a2, k2, b2⟩
  have b4 := F4.binds (ps := ["thing"]) fun _ _ _ _ _ _ us hl => match us, hl with | [_], _ => rfl
  have C_is_case : Cal P w K mg base 4 "is_case" F_is_case := ⟨_, _, _, ok_is_case T F4 C_fits C_is_number C_is_town, PySem.W.mg_of X G a4, k4, b4⟩
  have b5 := F5.binds (ps := ["case"]) fun _ _ _ _ _ _ us hl => match us, hl with | [_], _ => rfl
  have C_need_case : Cal P w K mg base 5 "need_case" F_need_case := ⟨_, _, _, ok_need_case T F5 C_is_case, PySem.W.mg_of X G a5, k5, b5⟩
  have b6 := F6.binds (ps := ["town", "stand"]) fun _ _ _ _ _ _ us hl => match us, hl with | [_, _], _ => rfl
  have C_steps : Cal P w K mg base 1 "steps" F_steps := ⟨_, _, _, ok_steps T F6 , PySem.W.mg_of X G a6, k6, b6⟩
  have b8 := F8.binds (ps := ["case", "thing"]) fun _ _ _ _ _ _ us hl => match us, hl with | [_, _], _ => rfl
  have C_is_day : Cal P w K mg base 6 "is_day" F_is_day := ⟨_, _, _, ok_is_day T F8 C_are_stands C_need_case C_steps, PySem.W.mg_of X G a8, k8, b8⟩
  have b11 := F11.binds (ps := ["stand"]) fun _ _ _ _ _ _ us hl => match us, hl with | [_], _ => rfl
  have C_sign_of : Cal P w K mg base 1 "sign_of" F_sign_of := ⟨_, _, _, ok_sign_of T F11 , PySem.W.mg_of X G a11, k11, b11⟩
  have b12 := F12.binds (ps := ["case", "day"]) fun _ _ _ _ _ _ us hl => match us, hl with | [_, _], _ => rfl
  have C_day_text : Cal P w K mg base 7 "day_text" F_day_text := ⟨_, _, _, ok_day_text T F12 C_is_day C_need_case C_sign_of, PySem.W.mg_of X G a12, k12, b12⟩
  have b13 := F13.binds (ps := ["case", "text"]) fun _ _ _ _ _ _ us hl => match us, hl with | [_, _], _ => rfl
  have C_read_day : Cal P w K mg base 6 "read_day" F_read_day := ⟨_, _, _, ok_read_day T F13 C_need_case C_sign_of C_steps, PySem.W.mg_of X G a13, k13, b13⟩
  have b9 := F9.binds (ps := ["case", "thing"]) fun _ _ _ _ _ _ us hl => match us, hl with | [_, _], _ => rfl
  have C_is_world : Cal P w K mg base 7 "is_world" F_is_world := ⟨_, _, _, ok_is_world T F9 C_is_day C_need_case, PySem.W.mg_of X G a9, k9, b9⟩
  have b10 := F10.binds (ps := ["case", "world"]) fun _ _ _ _ _ _ us hl => match us, hl with | [_, _], _ => rfl
  have C_need_world : Cal P w K mg base 8 "need_world" F_need_world := ⟨_, _, _, ok_need_world T F10 C_is_world, PySem.W.mg_of X G a10, k10, b10⟩
  have b14 := F14.binds (ps := ["case", "world"]) fun _ _ _ _ _ _ us hl => match us, hl with | [_, _], _ => rfl
  have C_world_text : Cal P w K mg base 9 "world_text" F_world_text := ⟨_, _, _, ok_world_text T F14 C_day_text C_need_case C_need_world, PySem.W.mg_of X G a14, k14, b14⟩
  have b15 := F15.binds (ps := ["case", "text"]) fun _ _ _ _ _ _ us hl => match us, hl with | [_, _], _ => rfl
  have C_read_world : Cal P w K mg base 10 "read_world" F_read_world := ⟨_, _, _, ok_read_world T F15 C_need_case C_read_day C_world_text, PySem.W.mg_of X G a15, k15, b15⟩
  have b25 := F25.binds (ps := ["_law_way", "_law_case_here", "_law_thing"]) fun _ _ _ _ _ _ us hl => match us, hl with | [_, _, _], _ => rfl
  have C_law_told : Cal P w K mg base 11 "_law_told" F_law_told := ⟨_, _, _, ok_law_told T F25 C_law_refused C_day_text C_read_day C_read_world C_world_text, PySem.W.mg_of X G a25, k25, b25⟩
  have b26 := F26.binds (ps := ["_law_case_here", "_law_days_here"]) fun _ _ _ _ _ _ us hl => match us, hl with | [_, _], _ => rfl
  have C_law_refuses : Cal P w K mg base 12 "_law_refuses" F_law_refuses := ⟨_, _, _, ok_law_refuses T F26 C_law_told, PySem.W.mg_of X G a26, k26, b26⟩
  have b23 := F23.binds (ps := ["_law_stand"]) fun _ _ _ _ _ _ us hl => match us, hl with | [_], _ => rfl
  have C_law_sign : Cal P w K mg base 1 "_law_sign" F_law_sign := ⟨_, _, _, ok_law_sign T F23 , PySem.W.mg_of X G a23, k23, b23⟩
  exact ok_law T F27 C_law_case C_law_days C_law_drawn C_law_refuses C_law_sign C_law_told
end
end Lw
open PySem PySem.W PyProof.Rows
set_option maxRecDepth 100000 in
set_option maxHeartbeats 0 in
theorem PySem.Challenge.cw_daytellings_k73_days_as_texts_holds : PySem.Challenge.rw_daytellings_k73_days_as_texts.Holds := by
  w_on; o_law; k_head; (case hw => w_witness2)
  k_fill
  refine L2.walk_of (l := PySem.Challenge.rw_daytellings_k73_days_as_texts) (n := 63) (k := 13) (x := "_law_script") (CX := fun w => L2.CX PySem.Challenge.rw_daytellings_k73_days_as_texts.prog w) (sp := fun w => Dt.spTop _) rfl (by decide) rfl ⟨rfl, by decide, by decide⟩ (fun w h Y => PySem.W.kIn_of Y) ?F (fun _ _ a ns hl ho hS => Dt.top_true hl ho hS) (fun _ _ _ _ _ h => Dt.top_none h)
  case F =>
    intro w mg fa h KX G hmg
    refine' Dt.top_mk Lw.hLaw (Lw.all_mk KX G hmg ?a0 ?l0 ?c0 ?k0 ?a1 ?l1 ?c1 ?k1 ?a2 ?l2 ?c2 ?k2 ?a3 ?l3 ?c3 ?k3 ?a4 ?l4 ?c4 ?k4 ?a5 ?l5 ?c5 ?k5 ?a6 ?l6 ?c6 ?k6 ?a7 ?l7 ?c7 ?k7 ?a8 ?l8 ?c8 ?k8 ?a9 ?l9 ?c9 ?k9 ?a10 ?l10 ?c10 ?k10 ?a11 ?l11 ?c11 ?k11 ?a12 ?l12 ?c12 ?k12 ?a13 ?l13 ?c13 ?k13 ?a14 ?l14 ?c14 ?k14 ?a15 ?l15 ?c15 ?k15 ?a16 ?l16 ?c16 ?k16 ?a17 ?l17 ?c17 ?k17 ?a18 ?l18 ?c18 ?k18 ?a19 ?l19 ?c19 ?k19 ?a20 ?l20 ?c20 ?k20 ?a21 ?l21 ?c21 ?k21 ?a22 ?l22 ?c22 ?k22 ?a23 ?l23 ?c23 ?k23 ?a24 ?l24 ?c24 ?k24 ?a25 ?l25 ?c25 ?k25 ?a26 ?l26 ?c26 ?k26 ?a27 ?l27 ?c27 ?k27 ?z_all ?z_bool ?n_GREAT ?n_MOST_MOMENT ?n_MOST_PERSONS ?n_MOST_PLACES ?n_MOST_TELLINGS ?n_MOST_TIME ?n_OF_TWO ?l_OF_TWO ?v_OF_TWO ?n_PERSONS ?n_SMALL ?n_WORDS ?l_WORDS ?v_WORDS ?z_enumerate ?z_int ?z_isinstance ?z_len ?z_list ?n_NoCase ?e_NoCase ?k_NoCase ?b_NoCase ?y_NoCase ?n_NoText ?e_NoText ?k_NoText ?b_NoText ?y_NoText ?z_range ?z_set ?z_sorted ?z_str ?z_tuple ?n_TellingError ?zz_ValueError ?xn ?xtk ?xd_NoCase ?xd_NoText ?y_TellingError ?xd_TellingError ?xs_TellingError ?xg_NoText ?xk_NoText ?xs_NoText ?xa_NoText ?xm_NoText ?xe_NoText ?xc_NoText ?xv_NoText ?xi_NoText_NoCase ?xg_NoCase ?xk_NoCase ?xs_NoCase ?xa_NoCase ?xm_NoCase ?xe_NoCase ?xc_NoCase ?xv_NoCase ?xi_NoCase_NoText ?z_zip)
    (case a0 => k_is); (case l0 => k_is); (case c0 => k_is); (case k0 => k_is); (case a1 => k_is); (case l1 => k_is); (case c1 => k_is); (case k1 => k_is); (case a2 => k_is); (case l2 => k_is); (case c2 => k_is); (case k2 => k_is); (case a3 => k_is); (case l3 => k_is); (case c3 => k_is); (case k3 => k_is); (case a4 => k_is); (case l4 => k_is); (case c4 => k_is); (case k4 => k_is); (case a5 => k_is); (case l5 => k_is); (case c5 => k_is); (case k5 => k_is); (case a6 => k_is); (case l6 => k_is); (case c6 => k_is); (case k6 => k_is); (case a7 => k_is); (case l7 => k_is); (case c7 => k_is); (case k7 => k_is); (case a8 => k_is); (case l8 => k_is); (case c8 => k_is); (case k8 => k_is); (case a9 => k_is); (case l9 => k_is); (case c9 => k_is); (case k9 => k_is); (case a10 => k_is); (case l10 => k_is); (case c10 => k_is); (case k10 => k_is); (case a11 => k_is); (case l11 => k_is); (case c11 => k_is); (case k11 => k_is); (case a12 => k_is); (case l12 => k_is); (case c12 => k_is); (case k12 => k_is); (case a13 => k_is); (case l13 => k_is); (case c13 => k_is); (case k13 => k_is); (case a14 => k_is); (case l14 => k_is); (case c14 => k_is); (case k14 => k_is); (case a15 => k_is); (case l15 => k_is); (case c15 => k_is); (case k15 => k_is); (case a16 => k_is); (case l16 => k_is); (case c16 => k_is); (case k16 => k_is); (case a17 => k_is); (case l17 => k_is); (case c17 => k_is); (case k17 => k_is); (case a18 => k_is); (case l18 => k_is); (case c18 => k_is); (case k18 => k_is); (case a19 => k_is); (case l19 => k_is); (case c19 => k_is); (case k19 => k_is); (case a20 => k_is); (case l20 => k_is); (case c20 => k_is); (case k20 => k_is); (case a21 => k_is); (case l21 => k_is); (case c21 => k_is); (case k21 => k_is); (case a22 => k_is); (case l22 => k_is); (case c22 => k_is); (case k22 => k_is); (case a23 => k_is); (case l23 => k_is); (case c23 => k_is); (case k23 => k_is); (case a24 => k_is); (case l24 => k_is); (case c24 => k_is); (case k24 => k_is); (case a25 => k_is); (case l25 => k_is); (case c25 => k_is); (case k25 => k_is); (case a26 => k_is); (case l26 => k_is); (case c26 => k_is); (case k26 => k_is); (case a27 => k_is); (case l27 => k_is); (case c27 => k_is); (case k27 => k_is); (case z_all => k_is); (case z_bool => k_is); (case n_GREAT => k_is); (case n_MOST_MOMENT => k_is); (case n_MOST_PERSONS => k_is); (case n_MOST_PLACES => k_is); (case n_MOST_TELLINGS => k_is); (case n_MOST_TIME => k_is); (case n_OF_TWO => k_is); (case l_OF_TWO => k_is); (case v_OF_TWO => exact .cons ⟨_, rfl⟩ (.cons ⟨_, rfl⟩ (.nil))); (case n_PERSONS => k_is); (case n_SMALL => k_is); (case n_WORDS => k_is); (case l_WORDS => k_is); (case v_WORDS => exact .cons ⟨_, rfl⟩ (.cons ⟨_, rfl⟩ (.cons ⟨_, rfl⟩ (.cons ⟨_, rfl⟩ (.cons ⟨_, rfl⟩ (.nil)))))); (case z_enumerate => k_is); (case z_int => k_is); (case z_isinstance => k_is); (case z_len => k_is); (case z_list => k_is); (case n_NoCase => k_is); (case e_NoCase => k_exc); (case k_NoCase => k_is); (case b_NoCase => k_is); (case y_NoCase => k_is); (case n_NoText => k_is); (case e_NoText => k_exc); (case k_NoText => k_is); (case b_NoText => k_is); (case y_NoText => k_is); (case z_range => k_is); (case z_set => k_is); (case z_sorted => k_is); (case z_str => k_is); (case z_tuple => k_is); (case n_TellingError => k_is); (case zz_ValueError => k_is); (case xn => k_is); (case xtk => k_is); (case xd_NoCase => k_is); (case xd_NoText => k_is); (case y_TellingError => k_is); (case xd_TellingError => k_is); (case xs_TellingError => k_is); (case xg_NoText => k_is); (case xk_NoText => k_is); (case xs_NoText => k_is); (case xa_NoText => k_is); (case xm_NoText => k_is); (case xe_NoText => k_is); (case xc_NoText => k_is); (case xv_NoText => k_is); (case xi_NoText_NoCase => k_is); (case xg_NoCase => k_is); (case xk_NoCase => k_is); (case xs_NoCase => k_is); (case xa_NoCase => k_is); (case xm_NoCase => k_is); (case xe_NoCase => k_is); (case xc_NoCase => k_is); (case xv_NoCase => k_is); (case xi_NoCase_NoText => k_is); (case z_zip => k_is)
