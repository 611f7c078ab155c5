import PyProof.Rows.All
import Wide.All
import OpenK.AllK
import Wide.FinOn
import HandS.ForMost
import HandS.Exc
import HandS.TryOnly
import HandS.TryMany
import HandS.ExcOwn
import HandS.WordsExc
import HandS.CallSlots
import HandS.Conv
import HandS.Deep
import HandS.TupAny
import HandS.TupMul
import HandS.Walk
import HandS.Zip
import HandS.IsInst
import HandS.Style
import HandS.Flow
import HandS.Lambda
import HandS.HeadEnd
import KE.GoesEnum
import HandS.ExcIs
import HandS.HeadNt
import HandS.HeadHook2
import KE.KRevSl
import HandS.EndTab
import HandS.HeadHook4
import PySem.Challenge.RW_mendedmodels_k01_whole_threads_alone
import KE.KStateDown
import HandS.Defaults
import HandS.Head0
import HandS.Head1
import HandS.Head2
import HandS.HeadHook1
import KE.DataEq
section
set_option Elab.async false
set_option linter.all false
set_option maxRecDepth 100000
namespace FE
open PySem PySem.Spec PyProof.Rows L2

abbrev D := PyData

/-! ### deep data in memory that stands still -/
def KLst (K : PySem.W.Frag) (a : Addr) (xs : List V) : Prop :=
  ∃ (o : Obj) (its : Array Value) (n : Nat), K.lookup a = some o ∧ o.cls = .type "list" ∧ o.dict = none ∧ o.data = .seq its n ∧ its.size ≤ sizeLine ∧ Vals xs its.toList
def LstZ (K : PySem.W.Frag) (H : Hp) (a : Addr) (xs : List V) : Prop := (∃ o, H a = some (.frz o (.lst xs))) ∨ KLst K a xs
theorem LstZ.sq {K : PySem.W.Frag} {H : Hp} {a : Addr} {xs : List V} (h : LstZ K H a xs) : SqL K H a xs := by
  rcases h with ⟨o, h⟩ | h
  · exact .inl (.inr ⟨o, h⟩)
  · exact .inr h
mutual
inductive Rp (K : PySem.W.Frag) (H : Hp) : V → D → Prop
  | non : Rp K H .non .none
  | bl (b : Bool) : Rp K H (.bl b) (.bool b)
  | int (i : Int) : Rp K H (.int i) (.int i)
  | str (x : Str) : Rp K H (.str x) (.str x)
  | lst {a : Addr} {xs : List V} {ds : List D} : LstZ K H a xs → RpAll K H xs ds → Rp K H (.ref a) (.list ds)
  | tup {a : Addr} {xs : List V} {ds : List D} : SqT K H a xs → RpAll K H xs ds → Rp K H (.ref a) (.tuple ds)
inductive RpAll (K : PySem.W.Frag) (H : Hp) : List V → List D → Prop
  | nil : RpAll K H [] []
  | cons {v : V} {vs : List V} {d : D} {ds : List D} : Rp K H v d → RpAll K H vs ds → RpAll K H (v :: vs) (d :: ds)
end
/-- what never changes -/
def Fix : HO → Prop
  | .tup _ => True
  | .frz _ _ => True
  | _ => False
def Stab (H H' : Hp) : Prop := ∀ b o, H b = some o → Fix o → H' b = some o
theorem Stab.refl (H : Hp) : Stab H H := fun _ _ h _ => h
theorem Stab.trans {H H1 H2 : Hp} (a : Stab H H1) (b : Stab H1 H2) : Stab H H2 := fun c o h f => b c o (a c o h f) f
section
variable {K : PySem.W.Frag} {H H' : Hp}
theorem LstZ.stab (s : Stab H H') {a : Addr} {xs : List V} (h : LstZ K H a xs) : LstZ K H' a xs := by
  rcases h with ⟨o, h⟩ | h
  · exact .inl ⟨o, s _ _ h trivial⟩
  · exact .inr h
theorem sqT_stab (s : Stab H H') {a : Addr} {xs : List V} (h : SqT K H a xs) : SqT K H' a xs := by
  rcases h with (h | ⟨o, h⟩) | h
  · exact .inl (.inl (s _ _ h trivial))
  · exact .inl (.inr ⟨o, s _ _ h trivial⟩)
  · exact .inr h
mutual
theorem Rp.stab (s : Stab H H') : ∀ {d : D} {v : V}, Rp K H v d → Rp K H' v d
  | .none, _, h => by cases h; exact .non
  | .bool _, _, h => by cases h; exact .bl _
  | .int _, _, h => by cases h; exact .int _
  | .str _, _, h => by cases h; exact .str _
  | .list ds, _, h => by
    cases h with
    | lst h1 h2 => exact .lst (h1.stab s) (RpAll.stab s h2)
  | .tuple ds, _, h => by
    cases h with
    | tup h1 h2 => exact .tup (sqT_stab s h1) (RpAll.stab s h2)
  | .dict _, _, h => by cases h
theorem RpAll.stab (s : Stab H H') : ∀ {ds : List D} {vs : List V}, RpAll K H vs ds → RpAll K H' vs ds
  | [], _, h => by cases h; exact .nil
  | _ :: _, _, h => by
    cases h with
    | cons h1 h2 => exact .cons (Rp.stab s h1) (RpAll.stab s h2)
end
mutual
theorem Rp.dp : ∀ {d : D} {v : V}, Rp K H v d → Dp K H v d
  | .none, _, h => by cases h; exact .non
  | .bool _, _, h => by cases h; exact .bl _
  | .int _, _, h => by cases h; exact .int _
  | .str _, _, h => by cases h; exact .str _
  | .list ds, _, h => by
    cases h with
    | lst h1 h2 => exact .lst h1.sq (RpAll.dp h2)
  | .tuple ds, _, h => by
    cases h with
    | tup h1 h2 => exact .tup h1 (RpAll.dp h2)
  | .dict _, _, h => by cases h
theorem RpAll.dp : ∀ {ds : List D} {vs : List V}, RpAll K H vs ds → DpAll K H vs ds
  | [], _, h => by cases h; exact .nil
  | _ :: _, _, h => by
    cases h with
    | cons h1 h2 => exact .cons (Rp.dp h1) (RpAll.dp h2)
end
theorem RpAll.len : ∀ {ds : List D} {vs : List V}, RpAll K H vs ds → vs.length = ds.length
  | [], _, h => by cases h; rfl
  | _ :: _, _, h => by
    cases h with
    | cons h1 h2 => rw [List.length_cons, List.length_cons, RpAll.len h2]
theorem RpAll.get : ∀ {ds : List D} {vs : List V} {i : Nat} {d : D}, RpAll K H vs ds → ds[i]? = some d → ∃ v, vs[i]? = some v ∧ Rp K H v d
  | _ :: _, _, 0, _, .cons h1 h2, e => by
    have e' := Option.some.inj e
    subst e'
    exact ⟨_, rfl, h1⟩
  | _ :: _, _, i + 1, _, .cons h1 h2, e => by
    obtain ⟨v, e1, e2⟩ := RpAll.get (i := i) h2 (by simpa using e)
    exact ⟨v, by simpa using e1, e2⟩
theorem RpAll.get' {ds : List D} {vs : List V} {i : Nat} {v : V} (h : RpAll K H vs ds) (e : vs[i]? = some v) : ∃ d, ds[i]? = some d ∧ Rp K H v d := by
  have l := h.len
  have hi : i < vs.length := (List.getElem?_eq_some_iff.mp e).1
  have e1 : ds[i]? = some (ds[i]'(by omega)) := List.getElem?_eq_getElem (by omega)
  obtain ⟨v', e2, e3⟩ := h.get e1
  rw [e] at e2
  cases e2
  exact ⟨_, e1, e3⟩
theorem RpAll.app : ∀ {ds es : List D} {vs us : List V}, RpAll K H vs ds → RpAll K H us es → RpAll K H (vs ++ us) (ds ++ es)
  | [], _, _, _, .nil, q => q
  | _ :: _, _, _, _, .cons h1 h2, q => .cons h1 (RpAll.app h2 q)
theorem RpAll.take : ∀ {ds : List D} {vs : List V} (n : Nat), RpAll K H vs ds → RpAll K H (vs.take n) (ds.take n)
  | _, _, 0, _ => by simpa using RpAll.nil
  | _, _, _ + 1, .nil => .nil
  | _, _, n + 1, .cons h1 h2 => .cons h1 (RpAll.take n h2)
theorem RpAll.drop : ∀ {ds : List D} {vs : List V} (n : Nat), RpAll K H vs ds → RpAll K H (vs.drop n) (ds.drop n)
  | _, _, 0, h => h
  | _, _, _ + 1, .nil => .nil
  | _, _, n + 1, .cons h1 h2 => RpAll.drop n h2
theorem RpAll.dropLast {ds : List D} {vs : List V} (h : RpAll K H vs ds) : RpAll K H vs.dropLast ds.dropLast := by
  rw [List.dropLast_eq_take, List.dropLast_eq_take, h.len]
  exact h.take _
theorem RpAll.set : ∀ {ds : List D} {vs : List V} {v : V} {d : D} (n : Nat), RpAll K H vs ds → Rp K H v d → RpAll K H (vs.set n v) (ds.set n d)
  | [], _, _, _, _, .nil, _ => .nil
  | _ :: _, _, _, _, 0, .cons _ h2, r => .cons r h2
  | _ :: _, _, _, _, n + 1, .cons h1 h2, r => .cons h1 (RpAll.set n h2 r)
theorem RpAll.eraseIdx : ∀ {ds : List D} {vs : List V} (n : Nat), RpAll K H vs ds → RpAll K H (vs.eraseIdx n) (ds.eraseIdx n)
  | [], _, _, .nil => by simpa using RpAll.nil
  | _ :: _, _, 0, .cons _ h2 => h2
  | _ :: _, _, n + 1, .cons h1 h2 => .cons h1 (RpAll.eraseIdx n h2)
theorem RpAll.reverse : ∀ {ds : List D} {vs : List V}, RpAll K H vs ds → RpAll K H vs.reverse ds.reverse
  | [], _, .nil => by simpa using RpAll.nil
  | _ :: _, _, .cons h1 h2 => by
    rw [List.reverse_cons, List.reverse_cons]
    exact (RpAll.reverse h2).app (.cons h1 .nil)
theorem RpAll.flat : ∀ {dss : List (List D)} {vss : List (List V)}, vss.length = dss.length → (∀ (i : Nat) vs ds, vss[i]? = some vs → dss[i]? = some ds → RpAll K H vs ds) → RpAll K H vss.flatten dss.flatten
  | [], [], _, _ => .nil
  | ds :: dss, vs :: vss, hl, h => by
    rw [List.flatten_cons, List.flatten_cons]
    exact (h 0 vs ds rfl rfl).app (RpAll.flat (by simpa using hl) fun i v d e1 e2 => h (i + 1) v d (by simpa using e1) (by simpa using e2))
  | [], _ :: _, hl, _ => by simp at hl
  | _ :: _, [], hl, _ => by simp at hl
end

/-- a list (a dict) that one slot alone holds -/
def Own (K : PySem.W.Frag) (H : Hp) (a : Addr) : D → Prop
  | .list ds => ∃ xs, H a = some (.lst xs) ∧ RpAll K H xs ds
  | _ => False

inductive Slot where
  | un | ex | sh (d : D) | ow (d : D) | pa (d : D) | pf (d : D)
/-- ghosts: the heap at the def's start; the exception that an except clause holds -/
structure Gh where
  h : Hp
  xa : Addr
  tb : List Addr
instance : CoeFun Gh fun _ => Addr → Option HO := ⟨Gh.h⟩
abbrev En := List Slot
def Slot.own? : Slot → Option D
  | .ow d => some d
  | .pa d => some d
  | _ => none
def Slot.fz? : Slot → Option D
  | .sh d => some d
  | .pf d => some d
  | _ => none
def Slot.cont : Slot → Option D
  | .ow d => some d
  | .pa d => some d
  | .sh d => some d
  | .pf d => some d
  | _ => none
/-- what becomes of a slot within an expression -/
inductive Slot.Le : Slot → Slot → Prop
  | same (s) : Slot.Le s s
  | oo (d e) : Slot.Le (.ow d) (.ow e)
  | os (d e) : Slot.Le (.ow d) (.sh e)
  | ou (d) : Slot.Le (.ow d) .un
  | pp (d e) : Slot.Le (.pa d) (.pa e)
  | pf (d e) : Slot.Le (.pa d) (.pf e)
  | pu (d) : Slot.Le (.pa d) .un
theorem Slot.Le.trans {a b c : Slot} (h1 : Slot.Le a b) (h2 : Slot.Le b c) : Slot.Le a c := by
  cases h1 <;> cases h2 <;> constructor
structure Sb (env env' : En) : Prop where
  len : env'.length = env.length
  le : ∀ (i : Nat) s', env'[i]? = some s' → ∃ s, env[i]? = some s ∧ Slot.Le s s'
theorem Sb.refl (e : En) : Sb e e := ⟨rfl, fun i s h => ⟨s, h, .same s⟩⟩
theorem Sb.trans {a b c : En} (h1 : Sb a b) (h2 : Sb b c) : Sb a c :=
  ⟨h2.len.trans h1.len, fun i s h => let ⟨t, ht, l2⟩ := h2.le i s h; let ⟨u, hu, l1⟩ := h1.le i t ht; ⟨u, hu, l1.trans l2⟩⟩

/-- exceptions: the class by its name in the module, its own fields -/
structure Xc where
  cls : Str
  fs : List (Str × D)
inductive R (α : Type) where
  | ok (a : α) (e : En)
  | exc (x : Xc) (e : En)
  | bad
inductive Vl where
  | sh (d : D) | fr (d : D) | lt (i : Nat)
abbrev SE := En → R Vl
abbrev SA := En → R (List Vl)
abbrev ST := En → R Bool
inductive Fl where
  | nx | bk | ct | rt (v : Vl)
abbrev SS := En → R Fl
def R.bind {α β : Type} (r : R α) (f : α → En → R β) : R β := match r with
  | .ok a e => f a e
  | .exc x e => .exc x e
  | .bad => .bad
@[simp] theorem R.bind_ok {α β : Type} (a : α) (e : En) (f : α → En → R β) : (R.ok a e).bind f = f a e := rfl
@[simp] theorem R.bind_exc {α β : Type} (x : Xc) (e : En) (f : α → En → R β) : (R.exc x e : R α).bind f = .exc x e := rfl
@[simp] theorem R.bind_bad {α β : Type} (f : α → En → R β) : (R.bad : R α).bind f = .bad := rfl

/-- slots that own something -/
def OA (env : En) (σ : L2.St) (a : Addr) : Prop := ∃ (i : Nat) (s : Slot), env[i]? = some s ∧ s.own? ≠ none ∧ σ[i]? = some (some (.ref a))
/-- not a table of code objects -/
def NT (o : HO) : Prop := ∀ ps, o ≠ .tbl ps
theorem nt_lst {xs : List V} : NT (.lst xs) := fun _ z => by cases z
theorem nt_fix {o : HO} (f : Fix o) : NT o := fun ps z => by subst z; exact f
/-- the tables stay tables -/
def qL : Str := "law.<locals>.<lambda>"
def Tb (H H' : Hp) : Prop := ∀ P, LamX.TabS H P qL → LamX.TabS H' P qL
structure Mo (H0 : Gh) (H : Hp) : Prop where
  up : ∀ b, H0.h b ≠ none → H b ≠ none
  tb : ∀ P ∈ H0.tb, LamX.TabS H P qL
def NoG (_ : Around) : Prop := True
theorem tb_put {H : Hp} {a : Addr} {xs : List V} {o : HO} (h : H a = some (.lst xs)) : Tb H (upd H a o) := fun P ⟨ps, h1, h2, h3⟩ =>
  have ne : ∀ {b u}, H b = some u → (∀ ys, u ≠ .lst ys) → b ≠ a := fun e n z => by rw [z, h] at e; exact n _ (Option.some.inj e).symm
  ⟨ps, by rw [upd_ne (ne h1 fun _ z => by cases z)]; exact h1, h2, fun pos cv hc => let ⟨c, e1, e2⟩ := h3 pos cv hc
    ⟨c, e1, by rw [upd_ne (ne e2 fun _ z => by unfold LamX.CodeO at z; cases z)]; exact e2⟩⟩
theorem tb_new {H : Hp} {a : Addr} {o : HO} (h : H a = none) : Tb H (upd H a o) := fun P t => t.ext fun b u e => by
  rw [upd_ne (ne_of_none e h)]; exact e
structure ER (K : PySem.W.Frag) (H0 : Gh) (env : En) (σ : L2.St) (H : Hp) : Prop where
  len : env.length = σ.length
  fz : ∀ (i : Nat) (s : Slot) (d : D), env[i]? = some s → s.fz? = some d → ∃ v, σ[i]? = some (some v) ∧ Rp K H v d
  ow : ∀ (i : Nat) (s : Slot) (d : D), env[i]? = some s → s.own? = some d → ∃ a, σ[i]? = some (some (.ref a)) ∧ Own K H a d
  inj : ∀ (i j : Nat) (s t : Slot) (a : Addr), env[i]? = some s → env[j]? = some t → s.own? ≠ none → t.own? ≠ none → σ[i]? = some (some (.ref a)) → σ[j]? = some (some (.ref a)) → i = j
  new : ∀ (i : Nat) (d : D) (a : Addr), env[i]? = some (.ow d) → σ[i]? = some (some (.ref a)) → H0 a = none
  mono : Mo H0 H
  ex : ∀ (i : Nat), env[i]? = some .ex → σ[i]? = some (some (.ref H0.xa))
/-- from H to H', at most what A says having changed -/
structure Step (A : Addr → Prop) (H H' : Hp) : Prop where
  keep : ∀ b o, H b = some o → ¬ A b → (nt : NT o) → H' b = some o
  mono : ∀ b, H b ≠ none → H' b ≠ none
  tb : Tb H H'
theorem Mo.step {A : Addr → Prop} {H0 : Gh} {H H' : Hp} (m : Mo H0 H) (s : Step A H H') : Mo H0 H' := ⟨fun b n => s.mono b (m.up b n), fun p hp => s.tb _ (m.tb p hp)⟩
theorem Step.refl (A : Addr → Prop) (H : Hp) : Step A H H := ⟨fun _ _ h _ _ => h, fun _ h => h, fun _ h => h⟩
theorem Step.trans {A B : Addr → Prop} {H H1 H2 : Hp} (a : Step A H H1) (b : Step B H1 H2) (h : ∀ x, B x → A x ∨ H x = none) : Step A H H2 :=
  ⟨fun c o e n t => b.keep c o (a.keep c o e n t) (fun z => (h c z).elim n (fun q => by rw [e] at q; cases q)) t, fun c e => b.mono c (a.mono c e), fun p t => b.tb p (a.tb p t)⟩
theorem Step.imp {A B : Addr → Prop} {H H' : Hp} (a : Step A H H') (h : ∀ x, A x → B x) : Step B H H' := ⟨fun b o e n t => a.keep b o e (fun z => n (h b z)) t, a.mono, a.tb⟩
theorem Own.mut {K : PySem.W.Frag} {H : Hp} {a : Addr} {d : D} (h : Own K H a d) : ∃ o, H a = some o ∧ ¬ Fix o := by
  cases d with
  | list ds => obtain ⟨xs, e, _⟩ := h; exact ⟨_, e, id⟩
  | _ => exact h.elim
theorem Own.stab {K : PySem.W.Frag} {H H' : Hp} {a : Addr} {d : D} (h : Own K H a d) (s : Stab H H') (k : ∀ xs, H a = some (.lst xs) → H' a = some (.lst xs)) : Own K H' a d := by
  cases d with
  | list ds => obtain ⟨xs, e, r⟩ := h; exact ⟨xs, k _ e, r.stab s⟩
  | _ => exact h.elim
section
variable {K : PySem.W.Frag} {H0 : Gh} {H H' H1 : Hp} {env env' : En} {σ : L2.St}
theorem ER.oa (e : ER K H0 env σ H) {a : Addr} (h : OA env σ a) : ∃ d, Own K H a d := by
  obtain ⟨i, s, h1, h2, h3⟩ := h
  cases q : s.own? with
  | none => exact absurd q h2
  | some d =>
    obtain ⟨b, e1, e2⟩ := e.ow i s d h1 q
    rw [h3] at e1
    cases e1
    exact ⟨d, e2⟩
theorem ER.oa_mut (e : ER K H0 env σ H) {a : Addr} (h : OA env σ a) : ∃ o, H a = some o ∧ ¬ Fix o := let ⟨_, q⟩ := e.oa h; q.mut
theorem Step.stab (s : Step (OA env σ) H H') (e : ER K H0 env σ H) : Stab H H' := fun b o h f => s.keep b o h (nt := nt_fix f) fun z => by
  obtain ⟨o', h', n⟩ := e.oa_mut z
  rw [h] at h'
  cases h'
  exact n f
theorem Slot.Le.own {s t : Slot} (h : Slot.Le s t) (q : t.own? ≠ none) : s.own? ≠ none := by
  cases h <;> first | exact q | (intro z; cases z) | exact absurd rfl q
theorem Sb.oa (s : Sb env env') {a : Addr} (h : OA env' σ a) : OA env σ a := by
  obtain ⟨i, t, h1, h2, h3⟩ := h
  obtain ⟨u, h4, h5⟩ := s.le i t h1
  exact ⟨i, u, h4, h5.own h2, h3⟩
theorem Step.seq (a : Step (OA env σ) H H1) (s : Sb env env') (b : Step (OA env' σ) H1 H') : Step (OA env σ) H H' :=
  a.trans b fun _ z => .inl (s.oa z)
end
end FE
end
section
set_option Elab.async false
set_option linter.all false
set_option maxRecDepth 100000
namespace FE
open PySem PySem.Spec PyProof.Rows L2

/-! ### values in flight -/
def Vl.get (e : En) : Vl → Option D
  | .sh d => some d
  | .fr d => some d
  | .lt i => (e[i]?).bind Slot.cont
def getL (e : En) : List Vl → Option (List D)
  | [] => some []
  | v :: vs => match v.get e, getL e vs with
    | some d, some ds => some (d :: ds)
    | _, _ => none
def VR (K : PySem.W.Frag) (σ : L2.St) (H H' : Hp) : Vl → V → Prop
  | .sh d, x => Rp K H' x d
  | .fr d, x => ∃ a, x = .ref a ∧ H a = none ∧ Own K H' a d
  | .lt i, x => σ[i]? = some (some x)
/-- the addresses of fresh ones -/
def frA : List Vl → List V → List Addr
  | .fr _ :: vs, .ref a :: xs => a :: frA vs xs
  | _ :: vs, _ :: xs => frA vs xs
  | _, _ => []
inductive VRs (K : PySem.W.Frag) (σ : L2.St) (H H' : Hp) : List Vl → List V → Prop
  | nil : VRs K σ H H' [] []
  | cons {v x vs xs} : VR K σ H H' v x → VRs K σ H H' vs xs → (∀ d a, v = .fr d → x = .ref a → a ∉ frA vs xs) → VRs K σ H H' (v :: vs) (x :: xs)
/-- x holds the content d -/
def VD (K : PySem.W.Frag) (H : Hp) (x : V) (d : D) : Prop := Rp K H x d ∨ ∃ a, x = .ref a ∧ Own K H a d
inductive VDs (K : PySem.W.Frag) (H : Hp) : List V → List D → Prop
  | nil : VDs K H [] []
  | cons {x xs d ds} : VD K H x d → VDs K H xs ds → VDs K H (x :: xs) (d :: ds)

/-- an exception's own fields -/
def XR (K : PySem.W.Frag) (mg : Str → Option Value) (H : Hp) (xc : Xc) (cls : Value) (dd : Option Addr) : Prop :=
  mg xc.cls = some cls ∧ ((xc.fs = [] ∧ dd = none) ∨ xc.fs ≠ [] ∧ ∃ d fv, dd = some d ∧ H d = some (.xd fv) ∧ Paired (fun (p : Str × D) (q : Str × V) => p.1 = q.1 ∧ Rp K H q.2 p.2) xc.fs fv)

/-! ### the judgements' readings -/
abbrev PExc (X : Cx) (H0 : Gh) (W : WX) (env : En) (σ : L2.St) (H : Hp) (xc : Xc) (e' : En) : Prop :=
  ∀ cls dd H', Step (OA env σ) H H' → ER X.K H0 e' σ H' → Sb env e' → XR X.K X.mg H' xc cls dd → W cls dd σ H'
def pE (X : Cx) (H0 : Gh) (W : WX) (env : En) (σ : L2.St) (H : Hp) (Q : VK) : R Vl → Prop
  | .ok v e' => ∀ x H', Step (OA env σ) H H' → ER X.K H0 e' σ H' → Sb env e' → VR X.K σ H H' v x → Q x H'
  | .exc xc e' => PExc X H0 W env σ H xc e'
  | .bad => False
def pA (X : Cx) (H0 : Gh) (W : WX) (env : En) (σ : L2.St) (H : Hp) (Q : List V → Hp → Prop) : R (List Vl) → Prop
  | .ok v e' => ∀ x H', Step (OA env σ) H H' → ER X.K H0 e' σ H' → Sb env e' → VRs X.K σ H H' v x → Q x H'
  | .exc xc e' => PExc X H0 W env σ H xc e'
  | .bad => False
def pT (X : Cx) (H0 : Gh) (W : WX) (env : En) (σ : L2.St) (H : Hp) (Q : Bool → Hp → Prop) : R Bool → Prop
  | .ok b e' => ∀ H', Step (OA env σ) H H' → ER X.K H0 e' σ H' → Sb env e' → Q b H'
  | .exc xc e' => PExc X H0 W env σ H xc e'
  | .bad => False
def tE (X : Cx) (H0 : Gh) (W : WX) (f : SE) : TE := fun σ H Q => ∃ env, ER X.K H0 env σ H ∧ pE X H0 W env σ H Q (f env)
def tA (X : Cx) (H0 : Gh) (W : WX) (f : SA) : TA := fun σ H Q => ∃ env, ER X.K H0 env σ H ∧ pA X H0 W env σ H Q (f env)
def tT (X : Cx) (H0 : Gh) (W : WX) (f : ST) : TT := fun σ H Q => ∃ env, ER X.K H0 env σ H ∧ pT X H0 W env σ H Q (f env)
abbrev FEx (X : Cx) (H0 : Gh) (W : WX) (e : Expr) (f : SE) : Prop := PE X e (tE X H0 W f)
abbrev FAx (X : Cx) (H0 : Gh) (W : WX) (es : List Expr) (f : SA) : Prop := PA X es (tA X H0 W f)
abbrev FTx (X : Cx) (H0 : Gh) (W : WX) (e : Expr) (f : ST) : Prop := PT X e (tT X H0 W f)
abbrev FWx (X : Cx) (H0 : Gh) (W : WX) (e : Expr) (f : ST) : Prop := PW X e (tT X H0 W f)

theorem PE.imp {X : Cx} {e : Expr} {t t' : TE} (h : PE X e t) (i : ∀ σ H Q, t' σ H Q → t σ H Q) : PE X e t' := ⟨fun pins s σ H Q I w => h.run pins s σ H Q I (i _ _ _ w)⟩
theorem PA.imp {X : Cx} {e : List Expr} {t t' : TA} (h : PA X e t) (i : ∀ σ H Q, t' σ H Q → t σ H Q) : PA X e t' := ⟨fun pos pins s σ H Q I w => h.run pos pins s σ H Q I (i _ _ _ w)⟩
theorem PT.imp {X : Cx} {e : Expr} {t t' : TT} (h : PT X e t) (i : ∀ σ H Q, t' σ H Q → t σ H Q) : PT X e t' := ⟨fun pins s σ H Q I w => h.run pins s σ H Q I (i _ _ _ w)⟩
theorem PW.imp {X : Cx} {e : Expr} {t t' : TT} (h : PW X e t) (i : ∀ σ H Q, t' σ H Q → t σ H Q) : PW X e t' := ⟨fun wh pins s σ H Q I w => h.run wh pins s σ H Q I (i _ _ _ w)⟩
theorem PS.imp {X : Cx} {e : Stmt} {t t' : TS} (h : PS X e t) (i : ∀ D σ H, t' D σ H → t D σ H) : PS X e t' := ⟨fun pins s σ H D I w => h.run pins s σ H D I (i _ _ _ w)⟩
theorem PSs.imp {X : Cx} {e : List Stmt} {t t' : TS} (h : PSs X e t) (i : ∀ D σ H, t' D σ H → t D σ H) : PSs X e t' := ⟨fun pins s σ H D I w => h.run pins s σ H D I (i _ _ _ w)⟩
theorem OpR.imp {X : Cx} {f : Value → Value → Sem Value} {r r' : R2} (h : OpR X f r) (i : ∀ x y H Q, r' x y H Q → r x y H Q) : OpR X f r' := fun pins s σ H x y v u Q I rx ry q => h pins s σ H x y v u Q I rx ry (i _ _ _ _ q)
theorem CallR.imp {X : Cx} {f : Value} {r r' : List V → Hp → VK → Prop} (h : CallR X f r) (i : ∀ xs H Q, r' xs H Q → r xs H Q) : CallR X f r' := fun pins s σ H xs us Q I rx q => h pins s σ H xs us Q I rx (i _ _ _ q)

/-! ### view shifts: a list is frozen -/
def Vs (_ : Cx) (_ : L2.St) (Q : Hp → Prop) : Hp → Prop := fun H => ∀ X pins σ s, Inv X pins σ H s → ∃ H', Inv X pins σ H' s ∧ Q H'
theorem Vs.pure {X : Cx} {σ : L2.St} {Q : Hp → Prop} {H : Hp} (h : Q H) : Vs X σ Q H := fun _ _ _ _ I => ⟨H, I, h⟩
theorem Vs.bind {X : Cx} {σ : L2.St} {Q : Hp → Prop} {H : Hp} (h : Vs X σ (Vs X σ Q) H) : Vs X σ Q H := fun X pins σ s I =>
  let ⟨_, I1, q⟩ := h X pins σ s I
  q X pins σ s I1
theorem Vs.imp {X : Cx} {σ : L2.St} {Q Q' : Hp → Prop} {H : Hp} (h : Vs X σ Q H) (i : ∀ H, Q H → Q' H) : Vs X σ Q' H := fun X pins σ s I =>
  let ⟨H1, I1, q⟩ := h X pins σ s I
  ⟨H1, I1, i _ q⟩
theorem Inv.freeze {X : Cx} {pins : List (Addr × Obj)} {σ : L2.St} {H : Hp} {s : Shared} {a : Addr} {xs : List V} (I : Inv X pins σ H s) (e : H a = some (.lst xs)) : ∃ o, Inv X pins σ (upd H a (.frz o (.lst xs))) s := by
  have h0 : ObjOk X.prog X.w H s.heap a (.lst xs) := I.hok a _ e
  obtain ⟨z, its, n, r, ho⟩ := id h0
  refine ⟨_, I.un (h' := s.heap) (t' := s.toks) (H' := upd H a (.frz { cls := .type "list", data := .seq its.toArray n } (.lst xs))) ?_ ?_⟩
  · have ne : ∀ b, H b = none → b ≠ a := fun b n z => by rw [z, e] at n; cases n
    have ne2 : ∀ b u, H b = some u → u ≠ .lst xs → b ≠ a := fun b u q n z => by rw [z, e] at q; cases q; exact n rfl
    exact ⟨fun b o q _ _ _ => q, fun b o q _ _ _ => ⟨o.slots, q⟩, fun b o q n _ => by rw [upd_ne (ne b n)]; exact n, fun b o q _ => ⟨o, q⟩,
      fun b ys q => by rw [upd_ne (ne2 b _ q (fun z => by cases z))]; exact q, fun b o u q => by rw [upd_ne (ne2 b _ q (fun z => by cases z))]; exact q,
      fun b ps q => ⟨#[], by rw [upd_ne (ne2 b _ q (fun z => by cases z)), q]; simp⟩⟩
  · intro b u q
    by_cases hb : b = a
    · subst hb
      rw [upd_same] at q
      cases q
      exact ⟨ho, h0⟩
    · rw [upd_ne hb] at q
      refine (I.hok b u q).stay (fun c v _ h => h) (fun c h => ?_) (fun c ys h => ?_)
      · have : c ≠ a := fun z => by rw [z, e] at h; cases h
        rw [upd_ne this]; exact h
      · have : c ≠ a := fun z => by rw [z, e] at h; cases h
        rw [upd_ne this]; exact h
theorem Vs.freeze {X : Cx} {σ : L2.St} {Q : Hp → Prop} {H : Hp} {a : Addr} {xs : List V} (e : H a = some (.lst xs)) (h : ∀ o, Q (upd H a (.frz o (.lst xs)))) : Vs X σ Q H := fun X pins σ s I =>
  let ⟨o, J⟩ := Inv.freeze I e
  ⟨_, J, h o⟩
theorem PE.vs {X : Cx} {e : Expr} {t : TE} (h : PE X e t) : PE X e (fun σ H Q => t σ H fun v H1 => Vs X σ (Q v) H1) := ⟨fun pins s σ H Q I w =>
  thn (h.run pins s σ H _ I w) fun u s1 ⟨v, H1, I1, r, q⟩ => let ⟨H2, I2, q2⟩ := q X pins σ s1 I1; ⟨v, H2, I2, r, q2⟩⟩
theorem PA.vs {X : Cx} {e : List Expr} {t : TA} (h : PA X e t) : PA X e (fun σ H Q => t σ H fun v H1 => Vs X σ (Q v) H1) := ⟨fun pos pins s σ H Q I w =>
  thn (h.run pos pins s σ H _ I w) fun u s1 ⟨v, H1, I1, r, q⟩ => let ⟨H2, I2, q2⟩ := q X pins σ s1 I1; ⟨v, H2, I2, r, q2⟩⟩

section
variable {X : Cx} {K : PySem.W.Frag} {H0 : Gh} {H H1 H2 : Hp} {W : WX} {env e1 e2 : En} {σ : L2.St}
/-! ### heaps -/
theorem stab_step0 (s : Step (fun _ => False) H H1) : Stab H H1 := fun b o h f => s.keep b o h id (nt_fix f)
theorem step0_upd {a : Addr} {o : HO} (h : H a = none) : Step (fun _ => False) H (upd H a o) :=
  ⟨fun b u q _ _ => by rw [upd_ne (ne_of_none q h)]; exact q, fun b n => by
    by_cases z : b = a
    · subst z; exact absurd h n
    · rw [upd_ne z]; exact n, tb_new h⟩
theorem ER.step0 (e : ER K H0 env σ H) (s : Step (fun _ => False) H H1) : ER K H0 env σ H1 :=
  ⟨e.len, fun i t d h1 h2 => let ⟨v, h3, h4⟩ := e.fz i t d h1 h2; ⟨v, h3, h4.stab (stab_step0 s)⟩,
    fun i t d h1 h2 => let ⟨a, h3, h4⟩ := e.ow i t d h1 h2; ⟨a, h3, h4.stab (stab_step0 s) fun o q => s.keep _ _ q id nt_lst⟩, e.inj, e.new, e.mono.step s, e.ex⟩
theorem VR.none_oa (er : ER K H0 env σ H) {a : Addr} (h : H a = none) : ¬ OA env σ a := fun z => by
  obtain ⟨o, q, _⟩ := er.oa_mut z
  rw [h] at q; cases q
/-- a value in flight, while what the slots own may change -/
theorem VR.go (er : ER K H0 env σ H) (sb : Sb env e1) (er1 : ER K H0 e1 σ H1) (s : Step (OA e1 σ) H1 H2) {v : Vl} {x : V} (h : VR K σ H H1 v x) : VR K σ H H2 v x := by
  cases v with
  | sh d => exact Rp.stab (s.stab er1) h
  | fr d =>
    obtain ⟨a, e, n, o⟩ := h
    have na : ¬ OA e1 σ a := fun z => VR.none_oa er n (sb.oa z)
    exact ⟨a, e, n, o.stab (s.stab er1) fun _ q => s.keep _ _ q na nt_lst⟩
  | lt i => exact h
theorem VR.back (s : Step (OA env σ) H H1) {v : Vl} {x : V} (h : VR K σ H1 H2 v x) : VR K σ H H2 v x := by
  cases v with
  | sh d => exact h
  | fr d =>
    obtain ⟨a, e, n, o⟩ := h
    refine ⟨a, e, ?_, o⟩
    cases q : H a with
    | none => rfl
    | some u => exact absurd n (s.mono a (by rw [q]; intro z; cases z))
  | lt i => exact h
theorem VRs.back (s : Step (OA env σ) H H1) : ∀ {vs : List Vl} {xs : List V}, VRs K σ H1 H2 vs xs → VRs K σ H H2 vs xs
  | [], _, .nil => .nil
  | _ :: _, _, .cons h1 h2 h3 => .cons (h1.back s) (VRs.back s h2) h3
theorem VRs.fr_none : ∀ {vs : List Vl} {xs : List V}, VRs K σ H H1 vs xs → ∀ a ∈ frA vs xs, H a = none ∧ ∃ d, Own K H1 a d
  | [], _, .nil, a, h => by cases h
  | v :: vs, _, .cons (x := x) (xs := xs) h1 h2 h3, a, h => by
    cases v with
    | sh d => exact VRs.fr_none h2 a h
    | lt i => exact VRs.fr_none h2 a h
    | fr d =>
      obtain ⟨b, e, n, o⟩ := h1
      subst e
      rcases List.mem_cons.mp h with z | z
      · subst z; exact ⟨n, _, o⟩
      · exact VRs.fr_none h2 a z
theorem VRs.step (st : Stab H1 H2) : ∀ {vs : List Vl} {xs : List V}, VRs K σ H H1 vs xs → (∀ a ∈ frA vs xs, ∀ ys, H1 a = some (.lst ys) → H2 a = some (.lst ys)) → VRs K σ H H2 vs xs
  | [], _, .nil, _ => .nil
  | v :: vs, _, .cons (x := x) (xs := xs) h1 h2 h3, k => by
    cases v with
    | sh d => exact .cons (show VR K σ H H2 (.sh d) x from Rp.stab st h1) (VRs.step st h2 k) h3
    | lt i => exact .cons (show VR K σ H H2 (.lt i) x from h1) (VRs.step st h2 k) h3
    | fr d =>
      obtain ⟨b, e, n, o⟩ := h1
      subst e
      refine .cons ⟨b, rfl, n, o.stab st (k b List.mem_cons_self)⟩ (VRs.step st h2 fun a ha => k a (List.mem_cons_of_mem _ ha)) h3
/-- its content -/
theorem VR.vd (er : ER K H0 e1 σ H1) {v : Vl} {x : V} {d : D} (h : VR K σ H H1 v x) (g : v.get e1 = some d) : VD K H1 x d := by
  cases v with
  | sh d' =>
    have : d' = d := Option.some.inj g
    subst this
    exact .inl h
  | fr d' =>
    have : d' = d := Option.some.inj g
    subst this
    obtain ⟨a, e, _, o⟩ := h
    exact .inr ⟨a, e, o⟩
  | lt i =>
    have g' : (e1[i]?).bind Slot.cont = some d := g
    cases q : e1[i]? with
    | none => rw [q] at g'; cases g'
    | some s =>
      rw [q] at g'
      have g2 : s.cont = some d := g'
      have hs : σ[i]? = some (some x) := h
      cases s with
      | un => cases g2
      | ex => cases g2
      | sh d' =>
        have : d' = d := Option.some.inj g2
        subst this
        obtain ⟨v, h1, h2⟩ := er.fz i _ d' q rfl
        rw [hs] at h1; cases h1
        exact .inl h2
      | pf d' =>
        have : d' = d := Option.some.inj g2
        subst this
        obtain ⟨v, h1, h2⟩ := er.fz i _ d' q rfl
        rw [hs] at h1; cases h1
        exact .inl h2
      | ow d' =>
        have : d' = d := Option.some.inj g2
        subst this
        obtain ⟨a, h1, h2⟩ := er.ow i _ d' q rfl
        rw [hs] at h1; cases h1
        exact .inr ⟨a, rfl, h2⟩
      | pa d' =>
        have : d' = d := Option.some.inj g2
        subst this
        obtain ⟨a, h1, h2⟩ := er.ow i _ d' q rfl
        rw [hs] at h1; cases h1
        exact .inr ⟨a, rfl, h2⟩
theorem VRs.vds (er : ER K H0 e1 σ H1) : ∀ {vs : List Vl} {xs : List V} {ds : List D}, VRs K σ H H1 vs xs → getL e1 vs = some ds → VDs K H1 xs ds
  | [], _, _, .nil, g => by
    have g' := Option.some.inj g
    subst g'
    exact .nil
  | v :: vs, _, ds, .cons h1 h2 h3, g => by
    unfold getL at g
    cases q : v.get e1 with
    | none => rw [q] at g; cases g
    | some d =>
      cases q2 : getL e1 vs with
      | none => rw [q, q2] at g; cases g
      | some ds' =>
        rw [q, q2] at g
        have g' := Option.some.inj g
        subst g'
        exact .cons (h1.vd er q) (VRs.vds er h2 q2)

/-! ### names and constants -/
def eC (d : D) : SE := fun e => .ok (.sh d) e
def eV (i : Nat) : SE := fun e => match e[i]? with
  | none | some .un | some .ex => .bad
  | _ => .ok (.lt i) e
theorem fe_c {e : Expr} {v : V} {d : D} (h : PE X e (tC v)) (r : ∀ H, Rp X.K H v d) : FEx X H0 W e (eC d) := PE.imp h fun σ H Q ⟨env, er, q⟩ => q v H (.refl _ _) er (.refl _) (r H)
theorem fe_non {j pos} : FEx X H0 W (.Constant .none j pos) (eC .none) := fe_c pe_non fun _ => .non
theorem fe_bl {b j pos} : FEx X H0 W (.Constant (.bool b) j pos) (eC (.bool b)) := fe_c pe_bl fun _ => .bl _
theorem fe_int {i j pos} : FEx X H0 W (.Constant (.int i) j pos) (eC (.int i)) := fe_c pe_int fun _ => .int _
theorem fe_str {x j pos} : FEx X H0 W (.Constant (.str x) j pos) (eC (.str x)) := fe_c pe_str fun _ => .str _
theorem fe_v {i : Nat} {x : Str} {pos : Pos} (h : PE X (.Name x pos) (tVar i)) : FEx X H0 W (.Name x pos) (eV i) := PE.imp h fun σ H Q ⟨env, er, q⟩ => by
  unfold eV at q
  cases hs : env[i]? with
  | none => rw [hs] at q; exact q.elim
  | some s =>
    rw [hs] at q
    have go : ∀ v : V, σ[i]? = some (some v) → pE X H0 W env σ H Q (.ok (.lt i) env) → tVar i σ H Q := fun v e q => ⟨v, e, q v H (.refl _ _) er (.refl _) e⟩
    cases s with
    | un => exact q.elim
    | ex => exact q.elim
    | sh d => obtain ⟨v, h1, _⟩ := er.fz i _ d hs rfl; exact go v h1 q
    | pf d => obtain ⟨v, h1, _⟩ := er.fz i _ d hs rfl; exact go v h1 q
    | ow d => obtain ⟨a, h1, _⟩ := er.ow i _ d hs rfl; exact go _ h1 q
    | pa d => obtain ⟨a, h1, _⟩ := er.ow i _ d hs rfl; exact go _ h1 q
/-- a module's constant -/
theorem fe_g {x : Str} {v : V} {u : Value} {d : D} {pos : Pos} (hg : Gl X x) (hm : X.mg x = some u) (r : RelV v u) (rp : ∀ H, Rp X.K H v d) (hd : (x == ("__debug__" : Str)) = false := by decide) : FEx X H0 W (.Name x pos) (eC d) :=
  fe_c (pe_glob hg hm r hd) rp

/-! ### arguments -/
def aNil : SA := fun e => .ok [] e
def aCons (f : SE) (g : SA) : SA := fun e => (f e).bind fun v e1 => (g e1).bind fun vs e2 => .ok (v :: vs) e2
theorem tA_nil {Q : List V → Hp → Prop} (h : tA X H0 W aNil σ H Q) : Q [] H := by
  obtain ⟨env, er, q⟩ := h
  exact q [] H (.refl _ _) er (.refl _) .nil
theorem tA_cons {f : SE} {g : SA} {Q : List V → Hp → Prop} (h : tA X H0 W (aCons f g) σ H Q) : tE X H0 W f σ H fun x H1 => tA X H0 W g σ H1 fun xs H2 => Q (x :: xs) H2 := by
  obtain ⟨env, er, q⟩ := h
  refine ⟨env, er, ?_⟩
  unfold aCons at q
  cases hf : f env with
  | bad => rw [hf] at q; exact q
  | exc xc e' => rw [hf] at q; exact q
  | ok v e' =>
    rw [hf] at q
    intro x H1 st1 er1 sb1 vr1
    refine ⟨e', er1, ?_⟩
    have q : pA X H0 W env σ H Q ((g e').bind fun vs e2 => .ok (v :: vs) e2) := q
    cases hg : g e' with
    | bad => rw [hg] at q; exact q
    | exc xc e2 =>
      rw [hg] at q
      intro cls dd H2 st2 er2 sb2 xr
      exact q cls dd H2 (st1.seq sb1 st2) er2 (sb1.trans sb2) xr
    | ok vs e2 =>
      rw [hg] at q
      intro xs H2 st2 er2 sb2 vr2
      refine q (x :: xs) H2 (st1.seq sb1 st2) er2 (sb1.trans sb2) (.cons (vr1.go er sb1 er1 st2) (vr2.back st1) fun d a e1 e2 hm => ?_)
      subst e1; subst e2
      obtain ⟨b, eb, _, o⟩ := vr1
      cases eb
      obtain ⟨u, hu, _⟩ := o.mut
      have := (vr2.fr_none a hm).1
      rw [hu] at this; cases this
theorem fa_nil : FAx X H0 W [] aNil := PA.imp pa_nil fun σ H Q h => tA_nil h
theorem fa_cons {e : Expr} {es : List Expr} {f : SE} {g : SA} (h1 : FEx X H0 W e f) (h2 : FAx X H0 W es g) (hs : starEach (e :: es) X.env = (false, eval e X.env) :: starEach es X.env := by rfl) : FAx X H0 W (e :: es) (aCons f g) :=
  PA.imp (pa_cons h1 h2 hs) fun σ H Q h => tA_cons h

/-! ### operations on contents -/
def mkV (r : Bool × D) : Vl := match r.1 with
  | true => .fr r.2
  | false => .sh r.2
def eN (g : List D → Option (Bool × D)) (as : SA) : SE := fun e => (as e).bind fun vs e1 => match (getL e1 vs).bind g with
  | some r => .ok (mkV r) e1
  | none => .bad
abbrev a1 (f : SE) : SA := aCons f aNil
abbrev a2 (f g : SE) : SA := aCons f (aCons g aNil)
abbrev a3 (f g h : SE) : SA := aCons f (aCons g (aCons h aNil))
/-- what an operation hands on -/
def OpC (K : PySem.W.Frag) (H : Hp) (r : Bool × D) (Q : VK) : Prop := ∀ v H', Step (fun _ => False) H H' → (match r.1 with
  | true => ∃ a, v = .ref a ∧ H a = none ∧ Own K H' a r.2
  | false => Rp K H' v r.2) → Q v H'
def NR (K : PySem.W.Frag) (g : List D → Option (Bool × D)) : List V → Hp → VK → Prop := fun xs H Q => ∃ ds r, VDs K H xs ds ∧ g ds = some r ∧ OpC K H r Q
theorem tE_n {g : List D → Option (Bool × D)} {as : SA} {Q : VK} (h : tE X H0 W (eN g as) σ H Q) : tA X H0 W as σ H fun xs H' => NR X.K g xs H' Q := by
  obtain ⟨env, er, q⟩ := h
  refine ⟨env, er, ?_⟩
  unfold eN at q
  cases hf : as env with
  | bad => rw [hf] at q; exact q
  | exc xc e' => rw [hf] at q; exact q
  | ok vs e' =>
    rw [hf] at q
    intro xs H1 st1 er1 sb1 vr1
    have q : pE X H0 W env σ H Q (match (getL e' vs).bind g with
      | some r => .ok (mkV r) e'
      | none => .bad) := q
    cases hg : getL e' vs with
    | none => rw [hg] at q; exact q.elim
    | some ds =>
      rw [hg] at q
      have q : pE X H0 W env σ H Q (match g ds with
        | some r => .ok (mkV r) e'
        | none => .bad) := q
      cases hr : g ds with
      | none => rw [hr] at q; exact q.elim
      | some r =>
        rw [hr] at q
        refine ⟨ds, r, vr1.vds er1 hg, hr, fun v H2 st2 hv => ?_⟩
        have st : Step (OA env σ) H H2 := st1.trans st2 fun _ z => z.elim
        obtain ⟨b, d⟩ := r
        cases b with
        | false => exact q v H2 st (er1.step0 st2) sb1 hv
        | true =>
          obtain ⟨a, e, n, o⟩ := hv
          refine q v H2 st (er1.step0 st2) sb1 ⟨a, e, ?_, o⟩
          cases z : H a with
          | none => rfl
          | some u => exact absurd n (st1.mono a (by rw [z]; intro y; cases y))
/-- two places -/
theorem fe_op {op : Operator} {g : List D → Option (Bool × D)} {a b : Expr} {fa fb : SE} {pos : Pos} (ho : OpR X (binaryOp op) fun x y => NR X.K g [x, y]) (ha : FEx X H0 W a fa) (hb : FEx X H0 W b fb) : FEx X H0 W (.BinOp a op b pos) (eN g (a2 fa fb)) :=
  PE.imp (pe_op ho ha hb) fun σ H Q h => by
    obtain ⟨env, er, q⟩ := tA_cons (tE_n h)
    exact ⟨env, er, by
      cases hf : fa env with
      | bad => rw [hf] at q; exact q
      | exc xc e' => rw [hf] at q; exact q
      | ok v e' =>
        rw [hf] at q
        intro x H1 st er1 sb vr
        obtain ⟨env2, er2, q2⟩ := tA_cons (q x H1 st er1 sb vr)
        refine ⟨env2, er2, ?_⟩
        cases hf2 : fb env2 with
        | bad => rw [hf2] at q2; exact q2
        | exc xc e2 => rw [hf2] at q2; exact q2
        | ok v2 e2 =>
          rw [hf2] at q2
          intro y H2 st2 er3 sb2 vr2
          exact tA_nil (q2 y H2 st2 er3 sb2 vr2)⟩
end
end FE
end
section
set_option Elab.async false
set_option linter.all false
set_option maxRecDepth 100000
namespace FE
open PySem PySem.Spec PyProof.Rows L2
section
variable {X : Cx} {K : PySem.W.Frag} {H0 : Gh} {H H1 H2 : Hp} {W : WX} {env e1 e2 : En} {σ : L2.St}
theorem tE_mono {f : SE} {Q Q' : VK} (h : tE X H0 W f σ H Q) (i : ∀ x H, Q x H → Q' x H) : tE X H0 W f σ H Q' := by
  obtain ⟨env, er, q⟩ := h
  refine ⟨env, er, ?_⟩
  cases hf : f env with
  | bad => rw [hf] at q; exact q
  | exc xc e' => rw [hf] at q; exact q
  | ok v e' => rw [hf] at q; exact fun x H1 a b c d => i _ _ (q x H1 a b c d)
theorem tA_mono {f : SA} {Q Q' : List V → Hp → Prop} (h : tA X H0 W f σ H Q) (i : ∀ x H, Q x H → Q' x H) : tA X H0 W f σ H Q' := by
  obtain ⟨env, er, q⟩ := h
  refine ⟨env, er, ?_⟩
  cases hf : f env with
  | bad => rw [hf] at q; exact q
  | exc xc e' => rw [hf] at q; exact q
  | ok v e' => rw [hf] at q; exact fun x H1 a b c d => i _ _ (q x H1 a b c d)
theorem tT_mono {f : ST} {Q Q' : Bool → Hp → Prop} (h : tT X H0 W f σ H Q) (i : ∀ x H, Q x H → Q' x H) : tT X H0 W f σ H Q' := by
  obtain ⟨env, er, q⟩ := h
  refine ⟨env, er, ?_⟩
  cases hf : f env with
  | bad => rw [hf] at q; exact q
  | exc xc e' => rw [hf] at q; exact q
  | ok v e' => rw [hf] at q; exact fun H1 a b c => i _ _ (q H1 a b c)
theorem tA2 {fa fb : SE} {Q : List V → Hp → Prop} (h : tA X H0 W (a2 fa fb) σ H Q) : tE X H0 W fa σ H fun x H1 => tE X H0 W fb σ H1 fun y H2 => Q [x, y] H2 :=
  tE_mono (tA_cons h) fun _ _ h1 => tE_mono (tA_cons h1) fun _ _ h2 => tA_nil h2
theorem tA1 {fa : SE} {Q : List V → Hp → Prop} (h : tA X H0 W (a1 fa) σ H Q) : tE X H0 W fa σ H fun x H1 => Q [x] H1 :=
  tE_mono (tA_cons h) fun _ _ h1 => tA_nil h1
abbrev NR1 (K : PySem.W.Frag) (g : List D → Option (Bool × D)) : V → Hp → VK → Prop := fun x => NR K g [x]
abbrev NR2 (K : PySem.W.Frag) (g : List D → Option (Bool × D)) : R2 := fun x y => NR K g [x, y]

theorem fe_un {op : UnaryOp} {g : List D → Option (Bool × D)} {a : Expr} {fa : SE} {pos : Pos} (ho : UnR X (unaryOp op) (NR1 X.K g)) (ha : FEx X H0 W a fa) : FEx X H0 W (.UnaryOp op a pos) (eN g (a1 fa)) :=
  PE.imp (pe_un ho ha) fun σ H Q h => tA1 (tE_n h)
theorem fe_cmp {op : CmpOp} {g : List D → Option (Bool × D)} {a b : Expr} {fa fb : SE} {pos : Pos} (ho : OpR X (compareOp op) (NR2 X.K g)) (ha : FEx X H0 W a fa) (hb : FEx X H0 W b fb) (hm : behindInMarks op b = false := by first | exact nomark _ | rfl) : FEx X H0 W (.Compare a [op] [b] pos) (eN g (a2 fa fb)) :=
  PE.imp (pe_cmpR ho ha hb hm) fun σ H Q h => tA2 (tE_n h)
theorem fe_ix {g : List D → Option (Bool × D)} {a b : Expr} {fa fb : SE} {pos : Pos} (ho : IxR X (NR2 X.K g)) (ha : FEx X H0 W a fa) (hb : FEx X H0 W b fb) (hs : PlainIx b := by intro _ _; rfl) : FEx X H0 W (.Subscript a b pos) (eN g (a2 fa fb)) :=
  PE.imp (pe_ix ho ha hb hs) fun σ H Q h => tA2 (tE_n h)
theorem fe_bi {id : String} {g : List D → Option (Bool × D)} {x : Str} {p pos : Pos} {e : Expr} {es : List Expr} {fs : SA} (hc : CallR X (.builtin id) (NR X.K g)) (hg : Gl X x) (hm : X.mg x = none) (hv : bootBuiltins x = some (.builtin id)) (ha : FAx X H0 W (e :: es) fs) (hn : x ≠ "__name__" := by decide) (hdb : (x == ("__debug__" : Str)) = false := by decide)
    (he : starEach (e :: es) X.env = (false, eval e X.env) :: starEach es X.env := by rfl) (hpl : (backTo pos (starEach es X.env)).any (·.1) = false := by rfl) : FEx X H0 W (.Call (.Name x p) (e :: es) [] pos) (eN g fs) :=
  PE.imp (pe_callB hc hg hm hv ha hn hdb he hpl) fun σ H Q h => tE_n h
theorem fe_ty {T : String} {g : List D → Option (Bool × D)} {x : Str} {p pos : Pos} {e : Expr} {es : List Expr} {fs : SA} (hc : CallR X (.type T) (NR X.K g)) (hg : Gl X x) (hm : X.mg x = none) (hv : bootBuiltins x = some (.type T)) (ha : FAx X H0 W (e :: es) fs) (hn : x ≠ "__name__" := by decide) (hdb : (x == ("__debug__" : Str)) = false := by decide)
    (he : starEach (e :: es) X.env = (false, eval e X.env) :: starEach es X.env := by rfl) (hpl : (backTo pos (starEach es X.env)).any (·.1) = false := by rfl) : FEx X H0 W (.Call (.Name x p) (e :: es) [] pos) (eN g fs) :=
  PE.imp (pe_callTy hc hg hm hv ha hn hdb he hpl) fun σ H Q h => tE_n h

/-! ### tests -/
def testS (f : SE) : ST := fun e => (f e).bind fun v e1 => match v.get e1 with
  | some (.bool b) => .ok b e1
  | _ => .bad
theorem VD.bl {x : V} {b : Bool} (h : VD K H x (.bool b)) : x = .bl b := by
  rcases h with h | ⟨a, _, h⟩
  · cases h; rfl
  · exact h.elim
theorem VD.int {x : V} {b : Int} (h : VD K H x (.int b)) : x = .int b := by
  rcases h with h | ⟨a, _, h⟩
  · cases h; rfl
  · exact h.elim
theorem VD.str {x : V} {b : Str} (h : VD K H x (.str b)) : x = .str b := by
  rcases h with h | ⟨a, _, h⟩
  · cases h; rfl
  · exact h.elim
theorem VD.non {x : V} (h : VD K H x .none) : x = .non := by
  rcases h with h | ⟨a, _, h⟩
  · cases h; rfl
  · exact h.elim
theorem VD.tup {x : V} {ds : List D} (h : VD K H x (.tuple ds)) : ∃ a xs, x = .ref a ∧ SqT K H a xs ∧ RpAll K H xs ds := by
  rcases h with h | ⟨a, _, h⟩
  · cases h with
    | tup h1 h2 => exact ⟨_, _, rfl, h1, h2⟩
  · exact h.elim
theorem VD.lst {x : V} {ds : List D} (h : VD K H x (.list ds)) : ∃ a xs, x = .ref a ∧ SqL K H a xs ∧ RpAll K H xs ds := by
  rcases h with h | ⟨a, e, xs, h1, h2⟩
  · cases h with
    | lst h1 h2 => exact ⟨_, _, rfl, h1.sq, h2⟩
  · exact ⟨a, xs, e, .of h1, h2⟩
theorem VD.dp {x : V} {d : D} (h : VD K H x d) : Dp K H x d := by
  rcases h with h | ⟨a, e, h⟩
  · exact h.dp
  · cases d with
    | list ds =>
      obtain ⟨xs, h1, h2⟩ := h
      rw [e]
      exact .lst (.of h1) h2.dp
    | _ => exact h.elim
theorem VD.stab {x : V} {d : D} (h : VD K H x d) (s : Step (fun _ => False) H H1) : VD K H1 x d := by
  rcases h with h | ⟨a, e, h⟩
  · exact .inl (h.stab (stab_step0 s))
  · exact .inr ⟨a, e, h.stab (stab_step0 s) fun o q => s.keep _ _ q id nt_lst⟩
theorem tT_val {f : SE} {Q : Bool → Hp → Prop} (h : tT X H0 W (testS f) σ H Q) : tE X H0 W f σ H fun x H1 => ∃ c, x = .bl c ∧ Q c H1 := by
  obtain ⟨env, er, q⟩ := h
  refine ⟨env, er, ?_⟩
  unfold testS at q
  cases hf : f env with
  | bad => rw [hf] at q; exact q
  | exc xc e' => rw [hf] at q; exact q
  | ok v e' =>
    rw [hf] at q
    have q : pT X H0 W env σ H Q (match v.get e' with
      | some (.bool b) => .ok b e'
      | _ => .bad) := q
    intro x H1 st er1 sb vr
    cases hg : v.get e' with
    | none => rw [hg] at q; exact q.elim
    | some d =>
      rw [hg] at q
      cases d with
      | bool b => exact ⟨b, (vr.vd er1 hg).bl, q H1 st er1 sb⟩
      | _ => exact q.elim
theorem ft_val {e : Expr} {f : SE} (h : FEx X H0 W e f) (he : ∀ whole, isTrue e X.env whole = (do let v ← whole; standAt e.pos; holding [v] (truthy v)) := by intro _; rfl) : FTx X H0 W e (testS f) :=
  PT.imp (pt_val h he) fun σ H Q h => tT_val h
theorem ft_cmp {op : CmpOp} {g : List D → Option (Bool × D)} {a b : Expr} {fa fb : SE} {pos : Pos} (ho : OpR X (compareOp op) (NR2 X.K g)) (ha : FEx X H0 W a fa) (hb : FEx X H0 W b fb) (hm : behindInMarks op b = false := by first | exact nomark _ | rfl) : FTx X H0 W (.Compare a [op] [b] pos) (testS (eN g (a2 fa fb))) :=
  PT.imp (pt_cmpR ho ha hb hm) fun σ H Q h => tA2 (tE_n (tT_val h))
/-- and, or, not -/
def tAndS (f g : ST) : ST := fun e => (f e).bind fun b e1 => match b with
  | true => g e1
  | false => .ok false e1
def tOrS (f g : ST) : ST := fun e => (f e).bind fun b e1 => match b with
  | true => .ok true e1
  | false => g e1
def tNotS (f : ST) : ST := fun e => (f e).bind fun b e1 => .ok (!b) e1
theorem pT_later {r : R Bool} {Q : Bool → Hp → Prop} (s : Step (OA env σ) H H1) (b : Sb env e1) (q : pT X H0 W env σ H Q r) : pT X H0 W e1 σ H1 Q r := by
  cases r with
  | bad => exact q
  | exc xc e' => exact fun cls dd H2 st er sb xr => q cls dd H2 (s.seq b st) er (b.trans sb) xr
  | ok v e' => exact fun H2 st er sb => q H2 (s.seq b st) er (b.trans sb)
theorem pE_later {r : R Vl} {Q : VK} (s : Step (OA env σ) H H1) (b : Sb env e1) (q : pE X H0 W env σ H Q r) : pE X H0 W e1 σ H1 Q r := by
  cases r with
  | bad => exact q
  | exc xc e' => exact fun cls dd H2 st er sb xr => q cls dd H2 (s.seq b st) er (b.trans sb) xr
  | ok v e' => exact fun x H2 st er sb vr => q x H2 (s.seq b st) er (b.trans sb) (vr.back s)
/-- a test, then what hangs on its answer -/
theorem tT_bind {f : ST} {g : Bool → En → R Bool} {Q : Bool → Hp → Prop} (h : tT X H0 W (fun e => (f e).bind g) σ H Q) : tT X H0 W f σ H fun b H1 => tT X H0 W (g b) σ H1 Q := by
  obtain ⟨env, er, q⟩ := h
  refine ⟨env, er, ?_⟩
  have q : pT X H0 W env σ H Q ((f env).bind g) := q
  cases hf : f env with
  | bad => rw [hf] at q; exact q
  | exc xc e' => rw [hf] at q; exact q
  | ok v e' =>
    rw [hf] at q
    exact fun H1 st er1 sb => ⟨e', er1, pT_later st sb q⟩
theorem tT_bindE {f : ST} {g : Bool → En → R Vl} {Q : VK} (h : tE X H0 W (fun e => (f e).bind g) σ H Q) : tT X H0 W f σ H fun b H1 => tE X H0 W (g b) σ H1 Q := by
  obtain ⟨env, er, q⟩ := h
  refine ⟨env, er, ?_⟩
  have q : pE X H0 W env σ H Q ((f env).bind g) := q
  cases hf : f env with
  | bad => rw [hf] at q; exact q
  | exc xc e' => rw [hf] at q; exact q
  | ok v e' =>
    rw [hf] at q
    exact fun H1 st er1 sb => ⟨e', er1, pE_later st sb q⟩
theorem tT_ret {b : Bool} {Q : Bool → Hp → Prop} (h : tT X H0 W (fun e => .ok b e) σ H Q) : Q b H := by
  obtain ⟨env, er, q⟩ := h
  exact q H (.refl _ _) er (.refl _)
variable {a b c : Expr} {rest : List Expr} {fa fb fc : ST} {pos : Pos}
theorem fw_and1 (ha : FTx X H0 W a fa) : FWx X H0 W (.BoolOp .And [a] pos) fa := pw_and1 ha
theorem fw_or1 (ha : FTx X H0 W a fa) : FWx X H0 W (.BoolOp .Or [a] pos) fa := pw_or1 ha
theorem fw_and (ha : FTx X H0 W a fa) (hb : FWx X H0 W (.BoolOp .And (b :: rest) pos) fb) : FWx X H0 W (.BoolOp .And (a :: b :: rest) pos) (tAndS fa fb) :=
  PW.imp (pw_and ha hb) fun σ H Q h => tT_mono (tT_bind h) fun b H1 q => by
    cases b with
    | true => rw [if_pos rfl]; exact q
    | false => rw [if_neg Bool.false_ne_true]; exact tT_ret q
theorem fw_or (ha : FTx X H0 W a fa) (hb : FWx X H0 W (.BoolOp .Or (b :: rest) pos) fb) : FWx X H0 W (.BoolOp .Or (a :: b :: rest) pos) (tOrS fa fb) :=
  PW.imp (pw_or ha hb) fun σ H Q h => tT_mono (tT_bind h) fun b H1 q => by
    cases b with
    | false => rw [if_neg Bool.false_ne_true]; exact q
    | true => rw [if_pos rfl]; exact tT_ret q
theorem ft_w (h : FWx X H0 W a fa) : FTx X H0 W a fa := PW.pt h
theorem ft_not (ha : FTx X H0 W a fa) : FTx X H0 W (.UnaryOp .Not a pos) (tNotS fa) :=
  PT.imp (pt_not ha) fun σ H Q h => tT_mono (tT_bind h) fun b H1 q => tT_ret q
/-- .. as values -/
def eAnd (f g : SE) : SE := fun e => (testS f e).bind fun b e1 => match b with
  | true => g e1
  | false => .ok (.sh (.bool false)) e1
def eOr (f g : SE) : SE := fun e => (testS f e).bind fun b e1 => match b with
  | true => .ok (.sh (.bool true)) e1
  | false => g e1
def eNot (f : SE) : SE := fun e => (testS f e).bind fun b e1 => .ok (.sh (.bool (!b))) e1
def eIf (c : ST) (f g : SE) : SE := fun e => (c e).bind fun b e1 => match b with
  | true => f e1
  | false => g e1
theorem tE_c {d : D} {v : V} {Q : VK} (h : tE X H0 W (fun e => .ok (.sh d) e) σ H Q) (r : Rp X.K H v d) : Q v H := by
  obtain ⟨env, er, q⟩ := h
  exact q v H (.refl _ _) er (.refl _) r
variable {ga gb : SE}
theorem fe_one {op} (h : FEx X H0 W a ga) : FEx X H0 W (.BoolOp op [a] pos) ga := pe_one h
theorem fe_and (ha : FEx X H0 W a ga) (hb : FEx X H0 W (.BoolOp .And (b :: rest) pos) gb) : FEx X H0 W (.BoolOp .And (a :: b :: rest) pos) (eAnd ga gb) :=
  PE.imp (pe_and ha hb) fun σ H Q h => tE_mono (tT_val (tT_bindE h)) fun x H1 ⟨c, e, q⟩ => ⟨c, e, by
    cases c with
    | true => rw [if_pos rfl]; exact q
    | false => rw [if_neg Bool.false_ne_true]; exact tE_c q (.bl _)⟩
theorem fe_or (ha : FEx X H0 W a ga) (hb : FEx X H0 W (.BoolOp .Or (b :: rest) pos) gb) : FEx X H0 W (.BoolOp .Or (a :: b :: rest) pos) (eOr ga gb) :=
  PE.imp (pe_or ha hb) fun σ H Q h => tE_mono (tT_val (tT_bindE h)) fun x H1 ⟨c, e, q⟩ => ⟨c, e, by
    cases c with
    | false => rw [if_neg Bool.false_ne_true]; exact q
    | true => rw [if_pos rfl]; exact tE_c q (.bl _)⟩
theorem fe_not (ha : FEx X H0 W a ga) : FEx X H0 W (.UnaryOp .Not a pos) (eNot ga) :=
  PE.imp (pe_not ha) fun σ H Q h => tE_mono (tT_val (tT_bindE h)) fun x H1 ⟨c, e, q⟩ => ⟨c, e, tE_c q (.bl _)⟩
theorem fe_if (hc : FTx X H0 W c fc) (ha : FEx X H0 W a ga) (hb : FEx X H0 W b gb) : FEx X H0 W (.IfExp c a b pos) (eIf fc ga gb) :=
  PE.imp (pe_ifExp hc ha hb) fun σ H Q h => tT_mono (tT_bindE h) fun c H1 q => by
    cases c with
    | true => rw [if_pos rfl]; exact q
    | false => rw [if_neg Bool.false_ne_true]; exact q
end

/-! ### chains a < b < c -/
section
variable {X : Cx} {H0 : Gh} {H : Hp} {W : WX} {σ : L2.St} {a b c : Expr} {fa fb fc : SE} {pos : Pos}
def eChain (g g' : List D → Option (Bool × D)) (fa fb fc : SE) : SE := fun e => (a2 fa fb e).bind fun vs e1 => match (getL e1 vs).bind g, vs with
  | some (false, .bool true), [_, y] => (fc e1).bind fun z e2 => match (getL e2 [y, z]).bind g' with
    | some r => .ok (mkV r) e2
    | none => .bad
  | some (false, .bool false), _ => .ok (.sh (.bool false)) e1
  | _, _ => .bad
theorem tE_chain {g g' : List D → Option (Bool × D)} {Q : VK} (h : tE X H0 W (eChain g g' fa fb fc) σ H Q) :
    tA X H0 W (a2 fa fb) σ H fun xs H1 => ∃ k, NR X.K g xs H1 (fun z H2 => z = .bl k ∧ Step (fun _ => False) H1 H2 ∧ (if k = true then tE X H0 W fc σ H2 fun z H3 => ∀ x y, xs = [x, y] → NR X.K g' [y, z] H3 Q else Q (.bl false) H2)) := by
  obtain ⟨env, er, q⟩ := h
  refine ⟨env, er, ?_⟩
  unfold eChain at q
  cases hf : a2 fa fb env with
  | bad => rw [hf] at q; exact q
  | exc xc e' => rw [hf] at q; exact q
  | ok vs e1 =>
    rw [hf] at q
    intro xs H1 st1 er1 sb1 vr1
    simp only [R.bind_ok] at q
    cases hg : getL e1 vs with
    | none => rw [hg] at q; exact q.elim
    | some ds =>
      rw [hg] at q
      cases hr : g ds with
      | none => simp only [Option.bind_some, hr] at q; exact q.elim
      | some r =>
        simp only [Option.bind_some, hr] at q
        obtain ⟨fl, d⟩ := r
        cases fl with
        | true => exact q.elim
        | false =>
          cases d with
          | bool k =>
            refine ⟨k, ds, (false, .bool k), vr1.vds er1 hg, hr, fun v H2 st2 hv => ?_⟩
            have hv : Rp X.K H2 v (.bool k) := hv
            cases hv
            have sta : Step (OA env σ) H H2 := st1.trans st2 fun _ z => z.elim
            refine ⟨rfl, st2, ?_⟩
            cases k with
            | false =>
              rw [if_neg Bool.false_ne_true]
              exact q (.bl false) H2 sta (er1.step0 st2) sb1 (.bl _)
            | true =>
              rw [if_pos rfl]
              refine ⟨e1, er1.step0 st2, ?_⟩
              cases vs with
              | nil => exact q.elim
              | cons v1 vs1 =>
                cases vs1 with
                | nil => exact q.elim
                | cons v2 vs2 =>
                  cases vs2 with
                  | cons _ _ => exact q.elim
                  | nil =>
                    have q : pE X H0 W env σ H Q ((fc e1).bind fun z e2 => match (getL e2 [v2, z]).bind g' with
                      | some r => .ok (mkV r) e2
                      | none => .bad) := q
                    cases hc : fc e1 with
                    | bad => rw [hc] at q; exact q
                    | exc xc e' =>
                      rw [hc] at q
                      exact fun cls dd H3 st er sb xr => q cls dd H3 (sta.seq sb1 st) er (sb1.trans sb) xr
                    | ok z e3 =>
                      rw [hc] at q
                      simp only [R.bind_ok] at q
                      intro zx H3 st3 er3 sb3 vr3 x y exs
                      subst exs
                      cases vr1 with
                      | cons w1 w2 _ =>
                        cases w2 with
                        | cons w2 _ _ =>
                          have w2' : VR X.K σ H H2 v2 y := VRs.step (K := X.K) (σ := σ) (H := H) (stab_step0 st2) (.cons w2 .nil (fun _ _ _ _ z => by cases z)) (fun _ _ o q => st2.keep _ _ q id nt_lst) |> fun h => by cases h with | cons h _ _ => exact h
                          have w2'' : VR X.K σ H H3 v2 y := w2'.go er sb1 (er1.step0 st2) st3
                          cases hg2 : getL e3 [v2, z] with
                          | none => rw [hg2] at q; exact q.elim
                          | some ds2 =>
                            rw [hg2] at q
                            cases hr2 : g' ds2 with
                            | none => simp only [Option.bind_some, hr2] at q; exact q.elim
                            | some r2 =>
                              simp only [Option.bind_some, hr2] at q
                              have vrs : VRs X.K σ H H3 [v2, z] [y, zx] := by
                                refine .cons w2'' (.cons (vr3.back sta) .nil fun _ _ _ _ z => by cases z) fun d' a' e1' e2' hm => ?_
                                subst e1'; subst e2'
                                obtain ⟨b', eb, _, ob⟩ := w2'
                                cases eb
                                obtain ⟨u, hu, _⟩ := ob.mut
                                have := (VRs.fr_none (K := X.K) (σ := σ) (H := H2) (H1 := H3) (.cons vr3 .nil fun _ _ _ _ z => by cases z) a' hm).1
                                rw [hu] at this; cases this
                              refine ⟨ds2, r2, vrs.vds er3 hg2, hr2, fun v H4 st4 hv4 => ?_⟩
                              have stq : Step (OA env σ) H H4 := (sta.seq sb1 st3).trans st4 fun _ z => z.elim
                              obtain ⟨b4, d4⟩ := r2
                              cases b4 with
                              | false => exact q v H4 stq (er3.step0 st4) (sb1.trans sb3) hv4
                              | true =>
                                obtain ⟨a4, e4, n4, o4⟩ := hv4
                                refine q v H4 stq (er3.step0 st4) (sb1.trans sb3) ⟨a4, e4, ?_, o4⟩
                                cases zz : H a4 with
                                | none => rfl
                                | some u => exact absurd n4 ((sta.seq sb1 st3).mono a4 (by rw [zz]; intro y; cases y))
          | _ => exact q.elim
theorem fe_chain {op op' : CmpOp} {g g' : List D → Option (Bool × D)} (ho : OpR X (compareOp op) (NR2 X.K g)) (ho' : OpR X (compareOp op') (NR2 X.K g')) (ha : FEx X H0 W a fa) (hb : FEx X H0 W b fb) (hc : FEx X H0 W c fc)
    (hm : lastMarks [op, op'] [b, c] = false := by with_unfolding_all rfl) : FEx X H0 W (.Compare a [op, op'] [b, c] pos) (eChain g g' fa fb fc) :=
  PE.imp (pe_chain ho ho' ha hb hc hm) fun σ H Q h => tE_mono (tA2 (tE_chain h)) fun x H1 q => tE_mono q fun y H2 ⟨k, ds, r, vd, hg, oc⟩ => ⟨ds, r, vd, hg, fun v H3 st hv => by
    obtain ⟨e, _, q⟩ := oc v H3 st hv
    refine ⟨k, e, ?_⟩
    cases k with
    | true => rw [if_pos rfl] at q ⊢; exact tE_mono q fun z H4 q => q x y rfl
    | false => rw [if_neg Bool.false_ne_true] at q ⊢; exact q⟩
end
end FE
end
section
set_option Elab.async false
set_option linter.all false
set_option maxRecDepth 100000
namespace FE
open PySem PySem.Spec PyProof.Rows L2

/-! ### taking what is in flight: it is shared from then on -/
def Vl.take (e : En) : Vl → Option (D × En)
  | .sh d => some (d, e)
  | .fr d => some (d, e)
  | .lt i => match e[i]? with
    | some (.sh d) => some (d, e)
    | some (.pf d) => some (d, e)
    | some (.ow d) => some (d, e.set i (.sh d))
    | some (.pa d) => some (d, e.set i (.pf d))
    | _ => none
def takeL : List Vl → En → Option (List D × En)
  | [], e => some ([], e)
  | v :: vs, e => match v.take e with
    | some (d, e1) => match takeL vs e1 with
      | some (ds, e2) => some (d :: ds, e2)
      | none => none
    | none => none
section
variable {X : Cx} {K : PySem.W.Frag} {H0 : Gh} {Hs H H1 H2 : Hp} {W : WX} {env e e1 e2 : En} {σ : L2.St}
theorem stab_frz {a : Addr} {xs : List V} {o : Obj} (h : H a = some (.lst xs)) : Stab H (upd H a (.frz o (.lst xs))) := fun b u q f => by
  have : b ≠ a := fun z => by rw [z, h] at q; cases q; exact f
  rw [upd_ne this]; exact q
theorem step_frz {a : Addr} {xs : List V} {o : Obj} (h : H a = some (.lst xs)) : Step (fun b => b = a) H (upd H a (.frz o (.lst xs))) :=
  ⟨fun b u q n _ => by rw [upd_ne n]; exact q, fun b n => by
    by_cases z : b = a
    · subst z; rw [upd_same]; intro y; cases y
    · rw [upd_ne z]; exact n, tb_put h⟩
/-- a fresh list is frozen: the slots keep what they hold -/
theorem ER.frz {a : Addr} {xs : List V} {o : Obj} (er : ER K H0 e σ H) (h : H a = some (.lst xs)) (n : ¬ OA e σ a) : ER K H0 e σ (upd H a (.frz o (.lst xs))) :=
  ⟨er.len, fun i t d h1 h2 => let ⟨v, h3, h4⟩ := er.fz i t d h1 h2; ⟨v, h3, h4.stab (stab_frz h)⟩,
    fun i t d h1 h2 => let ⟨b, h3, h4⟩ := er.ow i t d h1 h2; ⟨b, h3, h4.stab (stab_frz h) fun u q => by
      have : b ≠ a := fun z => n ⟨i, t, h1, (by rw [h2]; intro y; cases y), by rw [h3, z]⟩
      rw [upd_ne this]; exact q⟩, er.inj, er.new, er.mono.step (step_frz h), er.ex⟩
theorem own_frz {a : Addr} {d : D} (h : Own K H a d) : ∃ xs, H a = some (.lst xs) ∧ ∀ o, Rp K (upd H a (.frz o (.lst xs))) (.ref a) d := by
  cases d with
  | list ds =>
    obtain ⟨xs, h1, h2⟩ := h
    exact ⟨xs, h1, fun o => .lst (.inl ⟨o, upd_same⟩) (h2.stab (stab_frz h1))⟩
  | _ => exact h.elim
/-- a slot's list is frozen -/
theorem ER.frzAt {i : Nat} {s s' : Slot} {d : D} {a : Addr} {xs : List V} {o : Obj} (er : ER K H0 e σ H) (hi : e[i]? = some s) (ho : s.own? = some d) (hs : σ[i]? = some (some (.ref a))) (h : H a = some (.lst xs))
    (r : Rp K (upd H a (.frz o (.lst xs))) (.ref a) d) (h' : s'.fz? = some d) (hn : s'.own? = none) (hno : ∀ d, s' ≠ .ow d) : ER K H0 (e.set i s') σ (upd H a (.frz o (.lst xs))) := by
  have hl : i < e.length := (List.getElem?_eq_some_iff.mp hi).1
  have get : ∀ (j : Nat) (t : Slot), (e.set i s')[j]? = some t → (j = i ∧ t = s') ∨ (j ≠ i ∧ e[j]? = some t) := fun j t h => by
    by_cases z : i = j
    · subst z; rw [List.getElem?_set_self hl] at h; exact .inl ⟨rfl, (Option.some.inj h).symm⟩
    · rw [List.getElem?_set_ne z] at h; exact .inr ⟨fun y => z y.symm, h⟩
  refine ⟨by rw [List.length_set]; exact er.len, fun j t d' h1 h2 => ?_, fun j t d' h1 h2 => ?_, fun j k t u b h1 h2 h3 h4 h5 h6 => ?_, fun j d' b h1 h2 => ?_, er.mono.step (step_frz h), fun j h1 => ?_⟩
  · rcases get j t h1 with ⟨z, y⟩ | ⟨z, y⟩
    · subst z; subst y
      rw [h'] at h2; cases h2
      exact ⟨_, hs, r⟩
    · obtain ⟨v, h3, h4⟩ := er.fz j t d' y h2
      exact ⟨v, h3, h4.stab (stab_frz h)⟩
  · rcases get j t h1 with ⟨z, y⟩ | ⟨z, y⟩
    · subst y; rw [hn] at h2; cases h2
    · obtain ⟨b, h3, h4⟩ := er.ow j t d' y h2
      have : b ≠ a := fun w => z (er.inj j i t s a y hi (by rw [h2]; intro q; cases q) (by rw [ho]; intro q; cases q) (by rw [h3, w]) hs)
      exact ⟨b, h3, h4.stab (stab_frz h) fun u q => by rw [upd_ne this]; exact q⟩
  · rcases get j t h1 with ⟨z, y⟩ | ⟨z, y⟩
    · subst y; exact absurd hn h3
    · rcases get k u h2 with ⟨z2, y2⟩ | ⟨z2, y2⟩
      · subst y2; exact absurd hn h4
      · exact er.inj j k t u b y y2 h3 h4 h5 h6
  · rcases get j _ h1 with ⟨z, y⟩ | ⟨z, y⟩
    · exact absurd y.symm (hno d')
    · exact er.new j d' b y h2
  · rcases get j _ h1 with ⟨z, y⟩ | ⟨z, y⟩
    · subst y; cases h'
    · exact er.ex j y
theorem Sb.set {i : Nat} {s s' : Slot} (hi : e[i]? = some s) (l : Slot.Le s s') : Sb e (e.set i s') :=
  ⟨by rw [List.length_set], fun j t h => by
    by_cases z : i = j
    · subst z
      rw [List.getElem?_set_self (List.getElem?_eq_some_iff.mp hi).1] at h
      cases h
      exact ⟨s, hi, l⟩
    · rw [List.getElem?_set_ne z] at h
      exact ⟨t, h, .same t⟩⟩
theorem take_vs {v : Vl} {x : V} {d : D} {Q : Hp → Prop} (er : ER X.K H0 e σ H) (vr : VR X.K σ Hs H v x) (hfr : ∀ d' a, v = .fr d' → x = .ref a → ¬ OA e σ a) (t : v.take e = some (d, e1))
    (q : ∀ H', Step (fun b => OA e σ b ∨ (∃ d', v = .fr d' ∧ x = .ref b)) H H' → Stab H H' → ER X.K H0 e1 σ H' → Sb e e1 → Rp X.K H' x d → Q H') : Vs X σ Q H := by
  cases v with
  | sh d' =>
    have t' : some (d', e) = some (d, e1) := t
    cases t'
    exact .pure (q H (.refl _ _) (.refl _) er (.refl _) vr)
  | fr d' =>
    have t' : some (d', e) = some (d, e1) := t
    cases t'
    obtain ⟨a, ex, hn, o⟩ := vr
    obtain ⟨xs, h1, h2⟩ := own_frz o
    refine Vs.freeze h1 fun o => q _ ((step_frz h1).imp fun b z => .inr ⟨_, rfl, by rw [ex, z]⟩) (stab_frz h1) (er.frz h1 (hfr _ a rfl ex)) (.refl _) (by rw [ex]; exact h2 o)
  | lt i =>
    have hs : σ[i]? = some (some x) := vr
    have t' : (match e[i]? with
      | some (.sh d) => some (d, e)
      | some (.pf d) => some (d, e)
      | some (.ow d) => some (d, e.set i (.sh d))
      | some (.pa d) => some (d, e.set i (.pf d))
      | _ => none) = some (d, e1) := t
    cases hi : e[i]? with
    | none => rw [hi] at t'; cases t'
    | some s =>
      rw [hi] at t'
      cases s with
      | un => cases t'
      | ex => cases t'
      | sh d' =>
        cases t'
        obtain ⟨v, h1, h2⟩ := er.fz i _ _ hi rfl
        rw [hs] at h1; cases h1
        exact .pure (q H (.refl _ _) (.refl _) er (.refl _) h2)
      | pf d' =>
        cases t'
        obtain ⟨v, h1, h2⟩ := er.fz i _ _ hi rfl
        rw [hs] at h1; cases h1
        exact .pure (q H (.refl _ _) (.refl _) er (.refl _) h2)
      | ow d' =>
        cases t'
        obtain ⟨a, h1, h2⟩ := er.ow i _ _ hi rfl
        rw [hs] at h1; cases h1
        obtain ⟨xs, h3, h4⟩ := own_frz h2
        refine Vs.freeze h3 fun o => q _ ((step_frz h3).imp fun b z => .inl ⟨i, _, hi, (by intro y; cases y), by rw [hs, z]⟩) (stab_frz h3) (er.frzAt hi rfl hs h3 (h4 o) rfl rfl (fun _ y => by cases y)) (.set hi (.os _ _)) (h4 o)
      | pa d' =>
        cases t'
        obtain ⟨a, h1, h2⟩ := er.ow i _ _ hi rfl
        rw [hs] at h1; cases h1
        obtain ⟨xs, h3, h4⟩ := own_frz h2
        refine Vs.freeze h3 fun o => q _ ((step_frz h3).imp fun b z => .inl ⟨i, _, hi, (by intro y; cases y), by rw [hs, z]⟩) (stab_frz h3) (er.frzAt hi rfl hs h3 (h4 o) rfl rfl (fun _ y => by cases y)) (.set hi (.pf _ _)) (h4 o)
theorem takeL_vs : ∀ {vs : List Vl} {xs : List V} {ds : List D} {e e2 : En} {H : Hp} {Q : Hp → Prop}, ER X.K H0 e σ H → VRs X.K σ Hs H vs xs → (∀ a ∈ frA vs xs, ¬ OA e σ a) → takeL vs e = some (ds, e2) →
    (∀ H', Step (fun b => OA e σ b ∨ b ∈ frA vs xs) H H' → Stab H H' → ER X.K H0 e2 σ H' → Sb e e2 → RpAll X.K H' xs ds → Q H') → Vs X σ Q H
  | [], _, _, e, _, H, _, er, .nil, _, t, q => by
    cases t
    exact .pure (q H (.refl _ _) (.refl _) er (.refl _) .nil)
  | v :: vs, _, ds, e, e2, H, Q, er, .cons (x := x) (xs := xs) h1 h2 h3, hfr, t, q => by
    unfold takeL at t
    cases t1 : v.take e with
    | none => rw [t1] at t; cases t
    | some p =>
      obtain ⟨d, e1⟩ := p
      rw [t1] at t
      have t : (match takeL vs e1 with
        | some (ds, e2) => some (d :: ds, e2)
        | none => none) = some (ds, e2) := t
      cases t2 : takeL vs e1 with
      | none => rw [t2] at t; cases t
      | some p2 =>
        obtain ⟨ds', e2'⟩ := p2
        rw [t2] at t
        cases t
        have sub : ∀ a ∈ frA vs xs, a ∈ frA (v :: vs) (x :: xs) := fun a ha => by
          cases v with
          | fr d' =>
            obtain ⟨b, eb, _, _⟩ := h1
            subst eb
            exact List.mem_cons_of_mem _ ha
          | _ => exact ha
        refine Vs.bind (take_vs er h1 (fun d' a ev ex => hfr a (by subst ev; subst ex; exact List.mem_cons_self)) t1 fun H1 st1 sta er1 sb1 rp1 => ?_)
        refine takeL_vs er1 (h2.step sta fun a ha o q => st1.keep a _ q (nt := nt_lst) fun z => ?_) (fun a ha z => hfr a (sub a ha) (sb1.oa z)) t2 fun H2 st2 sta2 er2 sb2 rp2 => ?_
        · rcases z with z | ⟨d', ev, ex⟩
          · exact hfr a (sub a ha) z
          · exact h3 d' a ev ex ha
        · refine q H2 (st1.imp (fun b z => ?_) |>.trans st2 fun b z => .inl ?_) (sta.trans sta2) er2 (sb1.trans sb2) (.cons (rp1.stab sta2) rp2)
          · rcases z with z | ⟨d', ev, ex⟩
            · exact .inl z
            · subst ev; subst ex; exact .inr List.mem_cons_self
          · rcases z with z | z
            · exact .inl (sb1.oa z)
            · exact .inr (sub b z)
theorem takeL_len : ∀ {vs : List Vl} {e e2 : En} {ds : List D}, takeL vs e = some (ds, e2) → ds.length = vs.length
  | [], _, _, _, t => by cases t; rfl
  | v :: vs, e, e2, ds, t => by
    unfold takeL at t
    cases t1 : v.take e with
    | none => rw [t1] at t; cases t
    | some p =>
      obtain ⟨d, e1⟩ := p
      rw [t1] at t
      have t : (match takeL vs e1 with
        | some (ds, e2) => some (d :: ds, e2)
        | none => none) = some (ds, e2) := t
      cases t2 : takeL vs e1 with
      | none => rw [t2] at t; cases t
      | some p2 =>
        obtain ⟨ds', e2'⟩ := p2
        rw [t2] at t
        cases t
        rw [List.length_cons, List.length_cons, takeL_len t2]
theorem VRs.len : ∀ {vs : List Vl} {xs : List V}, VRs K σ Hs H vs xs → vs.length = xs.length
  | [], _, .nil => rfl
  | _ :: _, _, .cons _ h _ => by rw [List.length_cons, List.length_cons, VRs.len h]

/-! ### displays -/
def mkT (ds : List D) (e : En) : R Vl := if ds.length ≤ 1000 then .ok (.sh (.tuple ds)) e else .bad
def mkL (ds : List D) (e : En) : R Vl := if ds.length ≤ 1000 then .ok (.fr (.list ds)) e else .bad
def eTake (k : List D → En → R Vl) (as : SA) : SE := fun e => (as e).bind fun vs e1 => match takeL vs e1 with
  | some (ds, e2) => k ds e2
  | none => .bad
def eTup (as : SA) : SE := eTake mkT as
def eLst (as : SA) : SE := eTake mkL as
/-- all that is in flight is taken, then what follows -/
theorem tA_take {as : SA} {k : List D → En → R Vl} {Q : VK} (h : tE X H0 W (eTake k as) σ H Q) {Q' : List V → Hp → Prop}
    (i : ∀ env e2 xs ds H', ER X.K H0 e2 σ H' → Step (OA env σ) H H' → Sb env e2 → RpAll X.K H' xs ds → pE X H0 W env σ H Q (k ds e2) → Q' xs H') : tA X H0 W as σ H fun xs H1 => Vs X σ (Q' xs) H1 := by
  obtain ⟨env, er, q⟩ := h
  refine ⟨env, er, ?_⟩
  have q : pE X H0 W env σ H Q ((as env).bind fun vs e1 => match takeL vs e1 with
      | some (ds, e2) => k ds e2
      | none => .bad) := q
  cases hf : as env with
  | bad => rw [hf] at q; exact q
  | exc xc e' => rw [hf] at q; exact q
  | ok vs e1 =>
    rw [hf] at q
    intro xs H1 st1 er1 sb1 vr1
    simp only [R.bind_ok] at q
    cases ht : takeL vs e1 with
    | none => rw [ht] at q; exact q.elim
    | some p =>
      obtain ⟨ds, e2⟩ := p
      rw [ht] at q
      have fn := fun a ha => (VRs.fr_none vr1 a ha).1
      refine takeL_vs er1 vr1 (fun a ha z => VR.none_oa er (fn a ha) (sb1.oa z)) ht fun H2 st2 _ er2 sb2 rp => ?_
      exact i env e2 xs ds H2 er2 (st1.trans st2 fun b z => z.elim (fun z => .inl (sb1.oa z)) fun z => .inr (fn b z)) (sb1.trans sb2) rp q
theorem size1000 {n : Nat} (h : n ≤ 1000) : n ≤ sizeLine := Nat.le_of_lt (small1000 h)
theorem none_back {a : Addr} (s : Step (OA env σ) H H1) (n : H1 a = none) : H a = none := by
  cases z : H a with
  | none => rfl
  | some u => exact absurd n (s.mono a (by rw [z]; intro y; cases y))
theorem fe_tup {es : List Expr} {as : SA} {x1 pos} (h : FAx X H0 W es as) : FEx X H0 W (.Tuple es x1 pos) (eTup as) :=
  PE.imp (pe_tup (PA.vs h)) fun σ H Q hq => tA_take hq fun env e2 xs ds H' er st sb rp q => by
    unfold mkT at q
    split at q
    · rename_i hl
      refine ⟨size1000 (by rw [rp.len]; exact hl), fun p hp => ?_⟩
      have s0 : Step (fun _ => False) H' (upd H' p (.tup xs)) := step0_upd hp
      exact q _ _ (st.trans s0 fun _ z => z.elim) (er.step0 s0) sb (.tup (.of upd_same) (rp.stab (stab_step0 s0)))
    · exact q.elim
theorem fe_lst {es : List Expr} {as : SA} {pos} (h : FAx X H0 W es as) : FEx X H0 W (.List es pos) (eLst as) :=
  PE.imp (pe_lst (PA.vs h)) fun σ H Q hq => tA_take hq fun env e2 xs ds H' er st sb rp q => by
    unfold mkL at q
    split at q
    · rename_i hl
      refine ⟨size1000 (by rw [rp.len]; exact hl), fun p hp => ?_⟩
      have s0 : Step (fun _ => False) H' (upd H' p (.lst xs)) := step0_upd hp
      exact q _ _ (st.trans s0 fun _ z => z.elim) (er.step0 s0) sb ⟨p, rfl, none_back st hp, xs, upd_same, rp.stab (stab_step0 s0)⟩
    · exact q.elim

/-! ### slices -/
abbrev SO := En → R (Option Int)
def pO (X : Cx) (H0 : Gh) (W : WX) (env : En) (σ : L2.St) (H : Hp) (Q : Option Int → Hp → Prop) : R (Option Int) → Prop
  | .ok b e' => ∀ H', Step (OA env σ) H H' → ER X.K H0 e' σ H' → Sb env e' → Q b H'
  | .exc xc e' => PExc X H0 W env σ H xc e'
  | .bad => False
def tO (X : Cx) (H0 : Gh) (W : WX) (f : SO) : TO := fun σ H Q => ∃ env, ER X.K H0 env σ H ∧ pO X H0 W env σ H Q (f env)
theorem PO.imp {X : Cx} {e : Option Expr} {t t' : TO} (h : PO X e t) (i : ∀ σ H Q, t' σ H Q → t σ H Q) : PO X e t' := ⟨fun pins s σ H Q I w => h.run pins s σ H Q I (i _ _ _ w)⟩
abbrev FOx (X : Cx) (H0 : Gh) (W : WX) (e : Option Expr) (f : SO) : Prop := PO X e (tO X H0 W f)
def oNo : SO := fun e => .ok none e
def oAt (f : SE) : SO := fun e => (f e).bind fun v e1 => match v.get e1 with
  | some (.int i) => .ok (some i) e1
  | _ => .bad
theorem fo_no : FOx X H0 W none oNo := PO.imp po_none fun σ H Q ⟨env, er, q⟩ => q H (.refl _ _) er (.refl _)
theorem fo_at {e : Expr} {f : SE} (h : FEx X H0 W e f) : FOx X H0 W (some e) (oAt f) := PO.imp (po_some h) fun σ H Q ⟨env, er, q⟩ => by
  refine ⟨env, er, ?_⟩
  have q : pO X H0 W env σ H Q ((f env).bind fun v e1 => match v.get e1 with
    | some (.int i) => .ok (some i) e1
    | _ => .bad) := q
  cases hf : f env with
  | bad => rw [hf] at q; exact q
  | exc xc e' => rw [hf] at q; exact q
  | ok v e' =>
    rw [hf] at q
    intro x H1 st er1 sb vr
    simp only [R.bind_ok] at q
    cases hg : v.get e' with
    | none => rw [hg] at q; exact q.elim
    | some d =>
      rw [hg] at q
      cases d with
      | int i => exact ⟨i, (vr.vd er1 hg).int, q H1 st er1 sb⟩
      | _ => exact q.elim
def eSl (g : D → Option Int → Option Int → Option (Bool × D)) (f : SE) (lo hi : SO) : SE := fun e => (f e).bind fun v e1 => (lo e1).bind fun l e2 => (hi e2).bind fun h e3 => match (v.get e3).bind fun d => g d l h with
  | some r => .ok (mkV r) e3
  | none => .bad
def NRs (K : PySem.W.Frag) (g : D → Option Int → Option Int → Option (Bool × D)) : V → Option Int → Option Int → Hp → VK → Prop := fun x lo hi H Q => ∃ d r, VD K H x d ∧ g d lo hi = some r ∧ OpC K H r Q
theorem SlR.imp {r r' : V → Option Int → Option Int → Hp → VK → Prop} (h : SlR X r) (i : ∀ x l u H Q, r' x l u H Q → r x l u H Q) : SlR X r' := fun pins s σ H x v vl vu lo hi sl Q I rx is p1 p2 q =>
  h pins s σ H x v vl vu lo hi sl Q I rx is p1 p2 (i _ _ _ _ _ q)
theorem fe_sl {g : D → Option Int → Option Int → Option (Bool × D)} {e : Expr} {lo hi : Option Expr} {f : SE} {ol oh : SO} {pos p2 : Pos} (hr : SlR X (NRs X.K g)) (he : FEx X H0 W e f) (hl : FOx X H0 W lo ol) (hh : FOx X H0 W hi oh) :
    FEx X H0 W (.Subscript e (.Slice lo hi none p2) pos) (eSl g f ol oh) := PE.imp (pe_slice hr he hl hh) fun σ H Q ⟨env, er, q⟩ => by
  refine ⟨env, er, ?_⟩
  unfold eSl at q
  cases hf : f env with
  | bad => rw [hf] at q; exact q
  | exc xc e' => rw [hf] at q; exact q
  | ok v e1 =>
    rw [hf] at q
    intro x H1 st1 er1 sb1 vr1
    simp only [R.bind_ok] at q
    refine ⟨e1, er1, ?_⟩
    cases hf2 : ol e1 with
    | bad => rw [hf2] at q; exact q
    | exc xc e' => rw [hf2] at q; exact fun cls dd H2 st er' sb xr => q cls dd H2 (st1.seq sb1 st) er' (sb1.trans sb) xr
    | ok l e2 =>
      rw [hf2] at q
      intro H2 st2 er2 sb2
      simp only [R.bind_ok] at q
      refine ⟨e2, er2, ?_⟩
      cases hf3 : oh e2 with
      | bad => rw [hf3] at q; exact q
      | exc xc e' => rw [hf3] at q; exact fun cls dd H3 st er' sb xr => q cls dd H3 ((st1.seq sb1 st2).seq (sb1.trans sb2) st) er' ((sb1.trans sb2).trans sb) xr
      | ok h e3 =>
        rw [hf3] at q
        intro H3 st3 er3 sb3
        simp only [R.bind_ok] at q
        cases hg : v.get e3 with
        | none => rw [hg] at q; exact q.elim
        | some d =>
          rw [hg] at q
          simp only [Option.bind_some] at q
          cases hr : g d l h with
          | none => rw [hr] at q; exact q.elim
          | some r =>
            rw [hr] at q
            have st : Step (OA env σ) H H3 := (st1.seq sb1 st2).seq (sb1.trans sb2) st3
            have vr3 : VR X.K σ H H3 v x := (vr1.go er sb1 er1 st2).go er (sb1.trans sb2) er2 st3
            refine ⟨d, r, vr3.vd er3 hg, hr, fun y H4 st4 hy => ?_⟩
            have stt : Step (OA env σ) H H4 := st.trans st4 fun _ z => z.elim
            obtain ⟨b, d'⟩ := r
            cases b with
            | false => exact q y H4 stt (er3.step0 st4) ((sb1.trans sb2).trans sb3) hy
            | true =>
              obtain ⟨a, e, n, o⟩ := hy
              exact q y H4 stt (er3.step0 st4) ((sb1.trans sb2).trans sb3) ⟨a, e, none_back st n, o⟩
end
end FE
end
section
set_option Elab.async false
set_option linter.all false
set_option maxRecDepth 100000
namespace FE
open PySem PySem.Spec PyProof.Rows L2

/-- a def's promise where no repr is under way (repr of what holds others asks for it) -/
structure FnG (P : Program) (w : World) (K : PySem.W.Frag) (mg : Str → Option Value) (base : Heap) (k : Nat) (f : Addr) (fd : FuncData) (ps : List Str) (sp : Sp) : Prop where
  len : ∀ vs H Q E, sp vs H Q E → vs.length = ps.length
  run : ∀ (A : Around) (outer : List PySem.Env) (s : Shared) (H : Hp) (args : Args) (us : List Value) (vs : List V) (Q : VK) (E : XK), NoG A → Room k A → Env0 P w K mg base A outer s H → BindsTo s fd args (ps.zip us) → Vals vs us → sp vs H Q E →
    codeAny (model P w) A (.call (.ref f) args) (CR (L2.CX P w) outer P w H s Q E) s
theorem FnG.mono {P : Program} {w : World} {K : PySem.W.Frag} {mg : Str → Option Value} {base : Heap} {j k : Nat} {f : Addr} {fd : FuncData} {ps : List Str} {sp : Sp} (F : FnG P w K mg base j f fd ps sp) (h : j ≤ k) : FnG P w K mg base k f fd ps sp :=
  ⟨F.len, fun A outer s H args us vs Q E hg hr => F.run A outer s H args us vs Q E hg (hr.mono h)⟩
/-- the code object of the def at f -/
def CodeAt (K : PySem.W.Frag) (f : Addr) (cdv : Value) : Prop := ∃ (oc : Value) (od : Option Addr) (osl : Array (Option Value)) (fd : FuncData), K.lookup f = some ⟨oc, od, .func fd, osl⟩ ∧ fd.code = cdv ∧ ∃ q, PySem.W.codeIn K cdv q = true
theorem fnG_of {P : Program} {w : World} {K : PySem.W.Frag} {mg : Str → Option Value} {base : Heap} {k : Nat} {f : Addr} {x qual : Str} {st : Stmt} {fd : FuncData} {N ps : List Str} {sp : Sp} (F : Fun K x qual st f fd) (S : FnScope N ps (defScope st)) (len : ∀ vs H Q E, sp vs H Q E → vs.length = ps.length)
    (hbody : ∀ (cdv : Value), CodeAt K f cdv → ∀ (A : Around) (outer : List PySem.Env) (s : Shared) (H : Hp) (vs : List V) (Q : VK) (E : XK), NoG A → Room k (A.deeper (envOfC qual (defScope st) s.heap.objs.size f cdv)) → sp vs H Q E →
      ∃ t, PSs (cxOf (L2.CX P w) P w K mg base N qual (defScope st) f cdv A outer s H E) (defBody st) t ∧ t { nx := fun _ H' => Q .non H', rt := Q } (L2.start N vs) H) : FnG P w K mg base (k + 1) f fd ps sp := by
  obtain ⟨oc, od, kV, doc, pm, an, cdv, ct, osl, rfl, lk, hcd⟩ := F.ex
  refine ⟨len, fun A outer s H args us vs Q E hgu hr e0 hb r hsp => ?_⟩
  have hl := len _ _ _ _ hsp
  have KX : K.In s.heap := e0.mod.kin.keeps fun b o e => (e0.bs b o e).1
  have lim : s.heap.NoLimit := e0.mod.nolimit.keeps fun b o e => (e0.bs b o e).1
  have hkind : ∀ y ∈ ps.zip us, (defScope st).names.lookup y.1 = some .local ∨ ((defScope st).names.lookup y.1 = some .cell ∧ ((cellsFrom (s.heap.objs.size + 1) (defScope st).names []).lookup y.1).isSome = true) := fun ⟨n, v⟩ hy =>
    (S.par n (List.of_mem_zip hy).1).imp (fun q => q) fun q => ⟨q, PySem.W.cellsFrom_some _ _ _ (.inl q)⟩
  refine codeAny_call_function hr.depth (KX _ _ lk) rfl S.co S.gen rfl (PySem.W.codeRec_of KX hcd) (hb _ _ _ _ ?_)
  refine wpAny_newFunctionEnv_cells S.kind hkind fun env he s1 x => ?_
  subst he
  refine ⟨lim.keeps x.toInCall.keep, codeAny_func ?_⟩
  obtain ⟨t, ht, hq⟩ := hbody cdv ⟨_, _, _, _, lk, rfl, _, hcd⟩ A outer s H vs Q E hgu (hr.deeper _) hsp
  refine wpAny_mono (ht.run [] s1 (L2.start N vs) H _ (inv_start S hr.hd e0 hl r x) hq) (fun fl s' hs => ?_) fun e s' hs => hs
  cases fl with
  | ret u => let ⟨v, σ', H', J, rv, q⟩ := hs; exact ⟨v, H', J.os, J.bare, J.base, J.hok, rv, q⟩
  | next => let ⟨σ', H', J, q⟩ := hs; exact ⟨.non, H', J.os, J.bare, J.base, J.hok, rfl, q⟩
  | brk => exact hs.choose_spec.choose_spec.2.elim
  | cont => exact hs.choose_spec.choose_spec.2.elim
section
variable {X : Cx} {k : Nat} {f : Addr} {fd : FuncData} {ps : List Str} {sp : Sp} {E : L2.St → XK} {x : Str} {p pos : Pos} {e : Expr} {es : List Expr} {t : TA}
theorem run_fnG {pins : List (Addr × Obj)} {σ : L2.St} {H : Hp} {s : Shared} {Q : VK} {us : List Value} {vs : List V} (F : FnG X.prog X.w X.K X.mg X.base k f fd ps sp) (hgu : NoG X.A) (hr : Room k X.A) (hb : Binds X.K fd ps []) (hx : PassesAt (L2.CX X.prog X.w) X σ (E σ))
    (I : Inv X pins σ H s) (r : Vals vs us) (h : sp vs H Q (E σ)) : wpAny (model X.prog X.w) X.A (call (.ref f) us) (EP X pins σ Q) X.xe s := by
  have hl : us.length = ps.length := r.length.symm.trans (F.len _ _ _ _ h)
  have b : BindsTo s fd ⟨us, []⟩ (ps.zip us) := by
    have := hb s us I.kIn (by rw [List.append_nil]; exact hl)
    rwa [List.append_nil] at this
  refine wpAny_call (codeAny_mono (F.run X.A X.stack s H ⟨us, []⟩ us vs Q (E σ) hgu hr I.env0 b r h) fun r s' hq => ?_)
  cases r with
  | error e => exact hx pins H s e s' I hq
  | ok fl => cases fl with
    | ret u => exact I.after hq
    | _ => exact hq.elim
theorem pe_callG (F : FnG X.prog X.w X.K X.mg X.base k f fd ps sp) (hgu : NoG X.A) (hr : Room k X.A) (hg : Gl X x) (hm : X.mg x = some (.ref f)) (hk : PySem.W.keepIn X.K (.ref f) = true) (hb : Binds X.K fd ps []) (hx : ∀ σ, PassesAt (L2.CX X.prog X.w) X σ (E σ))
    (ha : PA X (e :: es) t) (hdb : (x == ("__debug__" : Str)) = false := by decide) (he : starEach (e :: es) X.env = (false, eval e X.env) :: starEach es X.env := by rfl) (hpl : (backTo pos (starEach es X.env)).any (·.1) = false := by rfl) :
    PE X (.Call (.Name x p) (e :: es) [] pos) (tCallS sp E t) :=
  ⟨fun pins s σ H Q I h => wpAny_Call_Name_kw (ld_glob I hg hm (PySem.W.callWith_K (h₀ := X.base) I.ok.mod.kin hk (thn (ha.run pos pins s σ H _ I h) fun us s1 ⟨vs, H1, I1, r, q⟩ => ⟨I1.kIn, run_fnG F hgu hr hb (hx σ) I1 r q⟩) he hpl) hdb)⟩
theorem pe_call0G {E : XK} (F : FnG X.prog X.w X.K X.mg X.base k f fd [] sp) (hgu : NoG X.A) (hr : Room k X.A) (hg : Gl X x) (hm : X.mg x = some (.ref f)) (hk : PySem.W.keepIn X.K (.ref f) = true) (hb : Binds X.K fd [] []) (hx : ∀ σ, PassesAt (L2.CX X.prog X.w) X σ E)
    (hdb : (x == ("__debug__" : Str)) = false := by decide) : PE X (.Call (.Name x p) [] [] pos) (fun σ H Q => sp [] H Q E) :=
  ⟨fun pins s σ H Q I h => wpAny_Call_Name_kw (ld_glob I hg hm (PySem.W.callWith_K0 I.kIn hk (run_fnG (E := fun _ => E) (us := []) F hgu hr hb (hx σ) I .nil h)) hdb)⟩
end
end FE
end
section
set_option Elab.async false
set_option linter.all false
set_option maxRecDepth 100000
namespace FE
open PySem PySem.Spec PyProof.Rows L2

/-! ### defs -/
abbrev FS := List Slot → R Vl
def argS (e : En) : Vl → Option Slot
  | .sh d => some (.sh d)
  | .fr d => some (.sh d)
  | .lt i => match e[i]? with
    | some (.sh d) => some (.sh d)
    | some (.pf d) => some (.sh d)
    | some (.ow d) => some (.pa d)
    | some (.pa d) => some (.pa d)
    | _ => none
theorem argS_lt {e : En} {i : Nat} : argS e (.lt i) = (match e[i]? with
    | some (.sh d) => some (.sh d)
    | some (.pf d) => some (.sh d)
    | some (.ow d) => some (.pa d)
    | some (.pa d) => some (.pa d)
    | _ => none) := rfl
def argSs (e : En) : List Vl → Option (List Slot)
  | [] => some []
  | v :: vs => match argS e v, argSs e vs with
    | some s, some ss => some (s :: ss)
    | _, _ => none
def isOwn (e : En) (i : Nat) : Bool := match e[i]? with
  | some (.ow _) => true
  | some (.pa _) => true
  | _ => false
theorem own_of_isOwn {e : En} {i : Nat} {t : Slot} (hi : e[i]? = some t) (ho : isOwn e i = true) : t.own? ≠ none := by
  unfold isOwn at ho
  rw [hi] at ho
  cases t with
  | un => cases ho
  | ex => cases ho
  | sh d => cases ho
  | pf d => cases ho
  | ow d => intro z; cases z
  | pa d => intro z; cases z
/-- no slot is lent twice -/
def lentOk (e : En) : List Vl → Bool
  | [] => true
  | .lt i :: vs => (!(isOwn e i) || !(vs.any fun v => match v with
    | .lt j => i == j
    | _ => false)) && lentOk e vs
  | _ :: vs => lentOk e vs
def backS : Slot → Slot → Slot
  | .ow _, .pa d => .ow d
  | .ow _, .pf d => .sh d
  | .pa _, .pa d => .pa d
  | .pa _, .pf d => .pf d
  | .ow _, _ => .un
  | .pa _, _ => .un
  | s, _ => s
/-- what is lent comes back -/
def back : List Vl → List Slot → En → En
  | .lt i :: vs, f :: fs, e => match e[i]? with
    | some s => back vs fs (e.set i (backS s f))
    | none => back vs fs e
  | _ :: vs, _ :: fs, e => back vs fs e
  | _, _, e => e

abbrev G00 : Gh := ⟨fun _ => none, 0, []⟩
def FinR (K : PySem.W.Frag) (H' : Hp) : List Slot → List V → En → Prop
  | .pa _ :: ss, x :: xs, f :: fs => (match f with
    | .pa d => ∃ a, x = .ref a ∧ Own K H' a d
    | .pf d => Rp K H' x d
    | _ => True) ∧ FinR K H' ss xs fs
  | _ :: ss, _ :: xs, _ :: fs => FinR K H' ss xs fs
  | [], _, _ => True
  | _, _, _ => False
def VRf (K : PySem.W.Frag) (H H' : Hp) : Vl → V → Prop
  | .sh d, x => Rp K H' x d
  | .fr d, x => ∃ a, x = .ref a ∧ H a = none ∧ Own K H' a d
  | .lt _, _ => False
def pF (K : PySem.W.Frag) (mg : Str → Option Value) (H : Hp) (vs : List V) (slots : List Slot) (Q : VK) (E : XK) : R Vl → Prop
  | .ok v fin => ∀ x H', Step (OA slots (vs.map some)) H H' → FinR K H' slots vs fin → VRf K H H' v x → Q x H'
  | .exc xc fin => ∀ cls dd H', Step (OA slots (vs.map some)) H H' → FinR K H' slots vs fin → XR K mg H' xc cls dd → E cls dd H'
  | .bad => False
def ParOk : Slot → Prop
  | .sh _ => True
  | .pa _ => True
  | _ => False
def spF (K : PySem.W.Frag) (mg : Str → Option Value) (np : Nat) (g : FS) : Sp := fun vs H Q E => vs.length = np ∧ ∃ slots, ER K G00 slots (vs.map some) H ∧ (∀ s ∈ slots, ParOk s) ∧ pF K mg H vs slots Q E (g slots)

def callK (g : FS) (vs : List Vl) (e1 : En) : R Vl := match argSs e1 vs with
  | some ss => match lentOk e1 vs with
    | true => match g ss with
      | .ok (.lt _) _ => .bad
      | .ok v fin => .ok v (back vs fin e1)
      | .exc x fin => .exc x (back vs fin e1)
      | .bad => .bad
    | false => .bad
  | none => .bad
def eCall (g : FS) (as : SA) : SE := fun e => (as e).bind (callK g)

section
variable {X : Cx} {K : PySem.W.Frag} {H0 : Gh} {Hs H H' H1 H2 : Hp} {W : WX} {env e e1 e2 : En} {σ : L2.St}
/-- fresh arguments are frozen first -/
theorem frz_vs : ∀ {vs : List Vl} {xs : List V} {H : Hp} {Q : Hp → Prop}, ER X.K H0 e σ H → VRs X.K σ Hs H vs xs → (∀ a ∈ frA vs xs, ¬ OA e σ a) →
    (∀ H', Step (fun b => b ∈ frA vs xs) H H' → Stab H H' → ER X.K H0 e σ H' → (∀ (i : Nat) v x d, vs[i]? = some v → xs[i]? = some x → (v = .sh d ∨ v = .fr d) → Rp X.K H' x d) → Q H') → Vs X σ Q H
  | [], _, H, _, er, .nil, _, q => .pure (q H (.refl _ _) (.refl _) er fun i v x d h => by simp at h)
  | v :: vs, _, H, Q, er, .cons (x := x) (xs := xs) h1 h2 h3, hfr, q => by
    have rest : ∀ {H1 : Hp}, Step (fun b => ∃ d', v = .fr d' ∧ x = .ref b) H H1 → Stab H H1 → ER X.K H0 e σ H1 → (∀ d, v = .sh d ∨ v = .fr d → Rp X.K H1 x d) → Vs X σ Q H1 := fun {H1} st1 sta er1 rp1 => by
      have sub : ∀ a ∈ frA vs xs, a ∈ frA (v :: vs) (x :: xs) := fun a ha => by
        cases v with
        | fr d' =>
          obtain ⟨b, eb, _, _⟩ := h1
          subst eb
          exact List.mem_cons_of_mem _ ha
        | _ => exact ha
      refine frz_vs er1 (h2.step sta fun a ha o q => st1.keep a _ q (nt := nt_lst) fun ⟨d', ev, ex⟩ => h3 d' a ev ex ha) (fun a ha => hfr a (sub a ha)) fun H2 st2 sta2 er2 rp2 => ?_
      refine q H2 ((st1.imp (B := fun b => b ∈ frA (v :: vs) (x :: xs)) fun b ⟨d', ev, ex⟩ => by subst ev; subst ex; exact List.mem_cons_self).trans st2 fun b z => .inl (sub b z)) (sta.trans sta2) er2 fun i v' x' d hv hx hd => ?_
      cases i with
      | zero =>
        cases hv; cases hx
        exact (rp1 d hd).stab sta2
      | succ i => exact rp2 i v' x' d (by simpa using hv) (by simpa using hx) hd
    cases v with
    | sh d =>
      refine rest (.refl _ _) (.refl _) er fun d' hd => ?_
      rcases hd with hd | hd <;> cases hd
      exact h1
    | lt i => exact rest (.refl _ _) (.refl _) er fun d' hd => by rcases hd with hd | hd <;> cases hd
    | fr d =>
      obtain ⟨a, ex, n, o⟩ := id h1
      subst ex
      obtain ⟨ys, h4, h5⟩ := own_frz o
      refine Vs.bind (Vs.freeze h4 fun o => ?_)
      refine rest ((step_frz h4).imp fun b z => ⟨d, rfl, by rw [z]⟩) (stab_frz h4) (er.frz h4 (hfr a List.mem_cons_self)) fun d' hd => ?_
      rcases hd with hd | hd <;> cases hd
      exact h5 o
theorem argS_ok (er : ER K H0 e σ H) {v : Vl} {x : V} {s : Slot} (vr : VR K σ Hs H1 v x) (rp : ∀ d, v = .sh d ∨ v = .fr d → Rp K H x d) (h : argS e v = some s) :
    (∃ d, s = .sh d ∧ Rp K H x d) ∨ (∃ i d t a, v = .lt i ∧ s = .pa d ∧ e[i]? = some t ∧ t.own? = some d ∧ x = .ref a ∧ σ[i]? = some (some (.ref a)) ∧ Own K H a d) := by
  cases v with
  | sh d =>
    have h : some (Slot.sh d) = some s := h
    cases h
    exact .inl ⟨d, rfl, rp d (.inl rfl)⟩
  | fr d =>
    have h : some (Slot.sh d) = some s := h
    cases h
    exact .inl ⟨d, rfl, rp d (.inr rfl)⟩
  | lt i =>
    have hs : σ[i]? = some (some x) := vr
    have h : (match e[i]? with
      | some (.sh d) => some (Slot.sh d)
      | some (.pf d) => some (.sh d)
      | some (.ow d) => some (.pa d)
      | some (.pa d) => some (.pa d)
      | _ => none) = some s := h
    cases hi : e[i]? with
    | none => rw [hi] at h; cases h
    | some t =>
      rw [hi] at h
      cases t with
      | un => cases h
      | ex => cases h
      | sh d =>
        cases h
        obtain ⟨v, h1, h2⟩ := er.fz i _ _ hi rfl
        rw [hs] at h1; cases h1
        exact .inl ⟨d, rfl, h2⟩
      | pf d =>
        cases h
        obtain ⟨v, h1, h2⟩ := er.fz i _ _ hi rfl
        rw [hs] at h1; cases h1
        exact .inl ⟨d, rfl, h2⟩
      | ow d =>
        cases h
        obtain ⟨a, h1, h2⟩ := er.ow i _ _ hi rfl
        rw [hs] at h1; cases h1
        exact .inr ⟨i, d, _, a, rfl, rfl, hi, rfl, rfl, hs, h2⟩
      | pa d =>
        cases h
        obtain ⟨a, h1, h2⟩ := er.ow i _ _ hi rfl
        rw [hs] at h1; cases h1
        exact .inr ⟨i, d, _, a, rfl, rfl, hi, rfl, rfl, hs, h2⟩
theorem argSs_get : ∀ {vs : List Vl} {ss : List Slot}, argSs e vs = some ss → ss.length = vs.length ∧ ∀ (i : Nat) s, ss[i]? = some s → ∃ v, vs[i]? = some v ∧ argS e v = some s
  | [], _, h => by
    cases h
    exact ⟨rfl, fun i s h => by simp at h⟩
  | v :: vs, ss, h => by
    unfold argSs at h
    cases h1 : argS e v with
    | none => rw [h1] at h; cases h
    | some s =>
      cases h2 : argSs e vs with
      | none => rw [h1, h2] at h; cases h
      | some ss' =>
        rw [h1, h2] at h
        cases h
        obtain ⟨l, g⟩ := argSs_get h2
        refine ⟨by rw [List.length_cons, List.length_cons, l], fun i t ht => ?_⟩
        cases i with
        | zero => cases ht; exact ⟨v, rfl, h1⟩
        | succ i => exact g i t (by simpa using ht)
theorem VRs.get : ∀ {vs : List Vl} {xs : List V} {i : Nat} {v : Vl}, VRs K σ Hs H vs xs → vs[i]? = some v → ∃ x, xs[i]? = some x ∧ VR K σ Hs H v x
  | v :: vs, _, 0, _, .cons h1 _ _, e => by cases e; exact ⟨_, rfl, h1⟩
  | v :: vs, _, i + 1, _, .cons _ h2 _, e => by
    obtain ⟨x, h3, h4⟩ := VRs.get (i := i) h2 (by simpa using e)
    exact ⟨x, by simpa using h3, h4⟩
  | [], _, _, _, .nil, e => by simp at e
theorem lentOk_inj : ∀ {vs : List Vl} {i j k : Nat}, lentOk e vs = true → vs[i]? = some (.lt k) → vs[j]? = some (.lt k) → isOwn e k = true → i = j
  | [], i, _, _, _, h, _, _ => by simp at h
  | v :: vs, i, j, k, hl, hi, hj, ho => by
    have tail : lentOk e vs = true := by
      cases v with
      | lt m => unfold lentOk at hl; exact (Bool.and_eq_true_iff.mp hl).2
      | sh _ => exact hl
      | fr _ => exact hl
    have no : ∀ (n : Nat), vs[n]? = some (Vl.lt k) → v = .lt k → False := fun n hn hv => by
      subst hv
      unfold lentOk at hl
      have h1 := (Bool.and_eq_true_iff.mp hl).1
      rw [ho] at h1
      have h2 : (vs.any fun v => match v with
        | .lt j => k == j
        | _ => false) = true := List.any_eq_true.mpr ⟨_, List.mem_of_getElem? hn, by simp⟩
      rw [h2] at h1
      cases h1
    cases i with
    | zero =>
      cases j with
      | zero => rfl
      | succ j =>
        have : v = .lt k := by simpa using hi
        exact (no j (by simpa using hj) this).elim
    | succ i =>
      cases j with
      | zero =>
        have : v = .lt k := by simpa using hj
        exact (no i (by simpa using hi) this).elim
      | succ j => exact congrArg (· + 1) (lentOk_inj (i := i) (j := j) tail (by simpa using hi) (by simpa using hj) ho)
/-- the callee's slots -/
theorem argSs_er (er : ER K H0 e σ H) {vs : List Vl} {xs : List V} {ss : List Slot} (vr : VRs K σ Hs H1 vs xs) (rp : ∀ (i : Nat) v x d, vs[i]? = some v → xs[i]? = some x → (v = .sh d ∨ v = .fr d) → Rp K H x d)
    (h : argSs e vs = some ss) (hl : lentOk e vs = true) : ER K G00 ss (xs.map some) H ∧ (∀ s ∈ ss, ParOk s) ∧ (∀ a, OA ss (xs.map some) a → OA e σ a) := by
  obtain ⟨len, get⟩ := argSs_get h
  have at_ : ∀ (i : Nat) s, ss[i]? = some s → ∃ v x, vs[i]? = some v ∧ xs[i]? = some x ∧ VR K σ Hs H1 v x ∧ ((∃ d, s = .sh d ∧ Rp K H x d) ∨ (∃ j d t a, v = .lt j ∧ s = .pa d ∧ e[j]? = some t ∧ t.own? = some d ∧ x = .ref a ∧ σ[j]? = some (some (.ref a)) ∧ Own K H a d)) := fun i s hs => by
    obtain ⟨v, hv, ha⟩ := get i s hs
    obtain ⟨x, hx, hvr⟩ := vr.get hv
    exact ⟨v, x, hv, hx, hvr, argS_ok er hvr (fun d hd => rp i v x d hv hx hd) ha⟩
  have own : ∀ (i : Nat) s, ss[i]? = some s → s.own? ≠ none → ∃ j d t a, vs[i]? = some (.lt j) ∧ s = .pa d ∧ e[j]? = some t ∧ t.own? = some d ∧ xs[i]? = some (.ref a) ∧ σ[j]? = some (some (.ref a)) ∧ Own K H a d := fun i s hs ho => by
    obtain ⟨v, x, hv, hx, hvr, hh⟩ := at_ i s hs
    rcases hh with ⟨d, es, _⟩ | ⟨j, d, t, a, ev, es, h1, h2, h3, h4, h5⟩
    · subst es; exact absurd rfl ho
    · subst ev; subst h3; exact ⟨j, d, t, a, hv, es, h1, h2, hx, h4, h5⟩
  refine ⟨⟨?_, fun i s d hs hd => ?_, fun i s d hs hd => ?_, fun i j s t a hi hj hs ht h5 h6 => ?_, fun i d a _ _ => rfl, ⟨fun b n => absurd rfl n, fun p hp => absurd hp (by simp)⟩, fun i hi => ?_⟩, fun s hs => ?_, fun a ⟨i, s, h1, h2, h3⟩ => ?_⟩
  · rw [List.length_map, len, vr.len]
  · obtain ⟨v, x, hv, hx, hvr, hh⟩ := at_ i s hs
    rcases hh with ⟨d', es, r⟩ | ⟨j, d', t, a, ev, es, _⟩
    · subst es; cases hd
      exact ⟨x, by rw [List.getElem?_map, hx]; rfl, r⟩
    · subst es; cases hd
  · obtain ⟨j, d', t, a, h1, h2, h3, h4, h5, h6, h7⟩ := own i s hs (by rw [hd]; intro z; cases z)
    subst h2; cases hd
    exact ⟨a, by rw [List.getElem?_map, h5]; rfl, h7⟩
  · obtain ⟨k, d1, t1, a1, p1, p2, p3, p4, p5, p6, p7⟩ := own i s hi hs
    obtain ⟨k', d2, t2, a2, q1, q2, q3, q4, q5, q6, q7⟩ := own j t hj ht
    rw [List.getElem?_map, p5] at h5
    rw [List.getElem?_map, q5] at h6
    cases h5; cases h6
    have ek : k = k' := er.inj k k' t1 t2 a p3 q3 (by rw [p4]; intro z; cases z) (by rw [q4]; intro z; cases z) p6 q6
    subst ek
    refine lentOk_inj hl p1 q1 ?_
    unfold isOwn
    rw [p3]
    cases t1 <;> first | rfl | cases p4
  · obtain ⟨v, x, hv, hx, hvr, hh⟩ := at_ i _ hi
    rcases hh with ⟨d', es, r⟩ | ⟨j, d', t, a, ev, es, _⟩ <;> cases es
  · obtain ⟨i, hi⟩ := List.getElem?_of_mem hs
    obtain ⟨v, x, hv, hx, hvr, hh⟩ := at_ i s hi
    rcases hh with ⟨d', es, r⟩ | ⟨j, d', t, a, ev, es, _⟩ <;> subst es <;> trivial
  · obtain ⟨j, d', t, b, p1, p2, p3, p4, p5, p6, p7⟩ := own i s h1 h2
    rw [List.getElem?_map, p5] at h3
    cases h3
    exact ⟨j, t, p3, (by rw [p4]; intro z; cases z), p6⟩
theorem backS_le (s f : Slot) : Slot.Le s (backS s f) := by
  cases s <;> cases f <;> constructor
theorem back_le : ∀ {vs : List Vl} {fs : List Slot} {e : En}, Sb e (back vs fs e)
  | .lt i :: vs, f :: fs, e => by
    unfold back
    cases hi : e[i]? with
    | none => exact back_le
    | some s => exact (Sb.set hi (backS_le s f)).trans back_le
  | .sh _ :: vs, f :: fs, e => by unfold back; exact back_le
  | .fr _ :: vs, f :: fs, e => by unfold back; exact back_le
  | [], _, e => by unfold back; exact .refl _
  | .lt _ :: _, [], e => by unfold back; exact .refl _
  | .sh _ :: _, [], e => by unfold back; exact .refl _
  | .fr _ :: _, [], e => by unfold back; exact .refl _
/-- a slot behind the call: as it was, or as the callee left what was lent -/
theorem back_get : ∀ {vs : List Vl} {fs : List Slot} {e : En} {k : Nat} {s : Slot}, lentOk e vs = true → (back vs fs e)[k]? = some s →
    (e[k]? = some s ∧ (isOwn e k = true → ∀ p, vs[p]? = some (.lt k) → fs.length ≤ p)) ∨ (∃ (p : Nat) (f t : Slot), vs[p]? = some (Vl.lt k) ∧ fs[p]? = some f ∧ e[k]? = some t ∧ t.own? ≠ none ∧ s = backS t f)
  | [], _, e, k, s, _, h => by
    unfold back at h
    exact .inl ⟨h, fun _ p hp => by simp at hp⟩
  | v :: vs, [], e, k, s, _, h => by
    have : back (v :: vs) [] e = e := by cases v <;> rfl
    rw [this] at h
    exact .inl ⟨h, fun _ p _ => Nat.zero_le _⟩
  | v :: vs, f :: fs, e, k, s, hl, h => by
    have tail : lentOk e vs = true := by
      cases v with
      | lt m => unfold lentOk at hl; exact (Bool.and_eq_true_iff.mp hl).2
      | sh _ => exact hl
      | fr _ => exact hl
    have plain : back (v :: vs) (f :: fs) e = back vs fs e → (∀ j, v = .lt j → isOwn e j = false) → (e[k]? = some s ∧ (isOwn e k = true → ∀ p, (v :: vs)[p]? = some (.lt k) → (f :: fs).length ≤ p)) ∨ (∃ p f' t, (v :: vs)[p]? = some (Vl.lt k) ∧ (f :: fs)[p]? = some f' ∧ e[k]? = some t ∧ t.own? ≠ none ∧ s = backS t f') := fun hb hn => by
      rw [hb] at h
      rcases back_get tail h with ⟨h1, h2⟩ | ⟨p, f', t, h1, h2, h3⟩
      · refine .inl ⟨h1, fun ho p hp => ?_⟩
        cases p with
        | zero =>
          have : v = .lt k := by simpa using hp
          rw [hn k this] at ho; cases ho
        | succ p => exact Nat.succ_le_succ (h2 ho p (by simpa using hp))
      · exact .inr ⟨p + 1, f', t, h1, h2, h3⟩
    cases v with
    | sh d => exact plain rfl fun j z => by cases z
    | fr d => exact plain rfl fun j z => by cases z
    | lt i =>
      cases hi : e[i]? with
      | none =>
        refine plain (by
          have hb : back (.lt i :: vs) (f :: fs) e = (match e[i]? with
            | some s => back vs fs (e.set i (backS s f))
            | none => back vs fs e) := rfl
          rw [hb, hi]) fun j z => ?_
        cases z
        unfold isOwn; rw [hi]
      | some t =>
        cases ho : isOwn e i with
        | false =>
          have ht : t.own? = none := by
            unfold isOwn at ho; rw [hi] at ho
            cases t <;> first | rfl | cases ho
          have hb : backS t f = t := by cases t <;> first | rfl | cases ht
          refine plain ?_ fun j z => by cases z; exact ho
          have : e.set i t = e := by
            apply List.ext_getElem?
            intro n
            by_cases z : i = n
            · subst z; rw [List.getElem?_set_self (List.getElem?_eq_some_iff.mp hi).1, hi]
            · rw [List.getElem?_set_ne z]
          show (match e[i]? with
            | some s => back vs fs (e.set i (backS s f))
            | none => back vs fs e) = _
          rw [hi]
          show back vs fs (e.set i (backS t f)) = _
          rw [hb, this]
        | true =>
          have ht : t.own? ≠ none := own_of_isOwn hi ho
          have h : (back vs fs (e.set i (backS t f)))[k]? = some s := by
            have hb : back (.lt i :: vs) (f :: fs) e = (match e[i]? with
              | some s => back vs fs (e.set i (backS s f))
              | none => back vs fs e) := rfl
            rw [hb, hi] at h
            exact h
          have nol : ∀ (p : Nat), vs[p]? = some (Vl.lt i) → False := fun p hp => by
            have := lentOk_inj (i := 0) (j := p + 1) hl rfl (by simpa using hp) ho
            cases this
          have io : ∀ j, j ≠ i → isOwn (e.set i (backS t f)) j = isOwn e j := fun j hj => by
            unfold isOwn
            rw [List.getElem?_set_ne (Ne.symm hj)]
          have tail2 : lentOk (e.set i (backS t f)) vs = true := by
            have : ∀ {us : List Vl}, (∀ (p : Nat), us[p]? = some (Vl.lt i) → False) → lentOk e us = true → lentOk (e.set i (backS t f)) us = true := by
              intro us
              induction us with
              | nil => intro _ _; rfl
              | cons u us ih =>
                intro hn hk
                have hn' : ∀ (p : Nat), us[p]? = some (Vl.lt i) → False := fun p hp => hn (p + 1) (by simpa using hp)
                cases u with
                | sh _ => exact ih hn' hk
                | fr _ => exact ih hn' hk
                | lt m =>
                  have hm : m ≠ i := fun z => hn 0 (by rw [z]; rfl)
                  unfold lentOk at hk ⊢
                  obtain ⟨h1, h2⟩ := Bool.and_eq_true_iff.mp hk
                  rw [io m hm]
                  exact Bool.and_eq_true_iff.mpr ⟨h1, ih hn' h2⟩
            exact this nol tail
          rcases back_get tail2 h with ⟨h1, h2⟩ | ⟨p, f', t', h1, h2, h3, h4⟩
          · by_cases z : i = k
            · subst z
              rw [List.getElem?_set_self (List.getElem?_eq_some_iff.mp hi).1] at h1
              cases h1
              exact .inr ⟨0, f, t, rfl, rfl, hi, ht, rfl⟩
            · rw [List.getElem?_set_ne z] at h1
              refine .inl ⟨h1, fun hk p hp => ?_⟩
              cases p with
              | zero =>
                have : i = k := by simpa using hp
                exact absurd this z
              | succ p => exact Nat.succ_le_succ (h2 (by rw [io k (fun y => z y.symm)]; exact hk) p (by simpa using hp))
          · by_cases z : i = k
            · subst z; exact (nol p h1).elim
            · rw [List.getElem?_set_ne z] at h3
              exact .inr ⟨p + 1, f', t', h1, h2, h3, h4⟩
theorem FinR.get : ∀ {ss : List Slot} {xs : List V} {fs : En} {p : Nat} {d : D} {f : Slot}, FinR K H' ss xs fs → ss[p]? = some (.pa d) → fs[p]? = some f → ∃ x, xs[p]? = some x ∧ (match f with
    | .pa d => ∃ a, x = .ref a ∧ Own K H' a d
    | .pf d => Rp K H' x d
    | _ => True)
  | [], _, _, p, _, _, _, h, _ => by simp at h
  | s :: ss, [], fs, p, d, f, h, _, _ => by cases s <;> exact h.elim
  | s :: ss, x :: xs, [], p, d, f, h, _, _ => by cases s <;> exact h.elim
  | s :: ss, x :: xs, g :: fs, p, d, f, h, hs, hf => by
    cases p with
    | zero =>
      cases hs; cases hf
      exact ⟨x, rfl, h.1⟩
    | succ p =>
      have tail : FinR K H' ss xs fs := by cases s <;> first | exact h | exact h.2
      obtain ⟨y, h1, h2⟩ := FinR.get (p := p) tail (by simpa using hs) (by simpa using hf)
      exact ⟨y, by simpa using h1, h2⟩
theorem FinR.long : ∀ {ss : List Slot} {xs : List V} {fs : En} {p : Nat} {d : D}, FinR K H' ss xs fs → ss[p]? = some (.pa d) → p < fs.length
  | [], _, _, p, _, _, h => by simp at h
  | s :: ss, [], fs, p, d, h, _ => by cases s <;> exact h.elim
  | s :: ss, x :: xs, [], p, d, h, _ => by cases s <;> exact h.elim
  | s :: ss, x :: xs, g :: fs, p, d, h, hs => by
    cases p with
    | zero => exact Nat.succ_pos _
    | succ p =>
      have tail : FinR K H' ss xs fs := by cases s <;> first | exact h | exact h.2
      exact Nat.succ_lt_succ (FinR.long (p := p) tail (by simpa using hs))
/-- behind the call -/
theorem back_er (er : ER K H0 e σ H) {vs : List Vl} {xs : List V} {ss fin : List Slot} (vr : VRs K σ Hs H1 vs xs) (h : argSs e vs = some ss) (hl : lentOk e vs = true) (hoa : ∀ a, OA ss (xs.map some) a → OA e σ a)
    (st : Step (OA ss (xs.map some)) H H') (fr : FinR K H' ss xs fin) : ER K H0 (back vs fin e) σ H' := by
  have stb : Stab H H' := (st.imp hoa).stab er
  have sub := back_le (vs := vs) (fs := fin) (e := e)
  obtain ⟨len, get⟩ := argSs_get h
  -- what is lent
  have lent : ∀ (p k : Nat) t, vs[p]? = some (.lt k) → e[k]? = some t → t.own? ≠ none → ∃ d a, ss[p]? = some (.pa d) ∧ xs[p]? = some (.ref a) ∧ σ[k]? = some (some (.ref a)) := fun p k t hp hk ho => by
    have hlt : p < ss.length := by rw [len]; exact (List.getElem?_eq_some_iff.mp hp).1
    obtain ⟨v, hv, ha⟩ := get p _ (List.getElem?_eq_getElem hlt)
    rw [hp] at hv; cases hv
    obtain ⟨x, hx, hvr⟩ := vr.get hp
    have hs : σ[k]? = some (some x) := hvr
    cases ho' : t.own? with
    | none => exact absurd ho' ho
    | some d =>
      obtain ⟨a, h1, _⟩ := er.ow k t d hk ho'
      rw [hs] at h1; cases h1
      refine ⟨d, a, ?_, hx, hs⟩
      rw [List.getElem?_eq_getElem hlt, ← ha]
      have : argS e (.lt k) = some (.pa d) := by
        rw [argS_lt, hk]
        cases t <;> first | (cases ho'; rfl) | cases ho'
      rw [this]
  have keepAddr : ∀ (k : Nat) t a, e[k]? = some t → t.own? ≠ none → σ[k]? = some (some (.ref a)) → (∀ (p : Nat), vs[p]? = some (Vl.lt k) → False) → ¬ OA ss (xs.map some) a := fun k t a hk ho hs hn ⟨p, s, p1, p2, p3⟩ => by
    obtain ⟨v, hv, ha⟩ := get p s p1
    obtain ⟨x, hx, hvr⟩ := vr.get hv
    rw [List.getElem?_map, hx] at p3
    cases p3
    cases v with
    | sh d => 
      have : some (Slot.sh d) = some s := ha
      cases this; exact p2 rfl
    | fr d =>
      have : some (Slot.sh d) = some s := ha
      cases this; exact p2 rfl
    | lt j =>
      have hj : σ[j]? = some (some (.ref a)) := hvr
      cases hej : e[j]? with
      | none => rw [argS_lt, hej] at ha; cases ha
      | some u =>
        have hu : u.own? ≠ none := by
          rw [argS_lt, hej] at ha
          cases u with
          | un => cases ha
          | ex => cases ha
          | sh d => cases ha; exact absurd rfl p2
          | pf d => cases ha; exact absurd rfl p2
          | ow d => intro z; cases z
          | pa d => intro z; cases z
        have := er.inj j k u t a hej hk hu ho hj hs
        subst this
        exact hn p hv
  refine ⟨sub.len.trans er.len, fun k s d hs hd => ?_, fun k s d hs hd => ?_, fun i j s t a hi hj h1 h2 h3 h4 => ?_, fun k d a hs ha => ?_, er.mono.step st, fun k hk => ?_⟩
  · rcases back_get hl hs with ⟨h1, _⟩ | ⟨p, f, t, h1, h2, h3, h4, h5⟩
    · obtain ⟨v, h3, h4⟩ := er.fz k s d h1 hd
      exact ⟨v, h3, h4.stab stb⟩
    · obtain ⟨d', a, q1, q2, q3⟩ := lent p k t h1 h3 h4
      obtain ⟨x, r1, r2⟩ := fr.get q1 h2
      rw [q2] at r1; cases r1
      refine ⟨_, q3, ?_⟩
      subst h5
      cases t <;> cases f <;> first | exact absurd rfl h4 | (cases hd; exact r2) | cases hd
  · rcases back_get hl hs with ⟨h1, h2⟩ | ⟨p, f, t, h1, h2, h3, h4, h5⟩
    · obtain ⟨a, h3, h4⟩ := er.ow k s d h1 hd
      have ho : s.own? ≠ none := by rw [hd]; intro z; cases z
      have hio : isOwn e k = true := by
        unfold isOwn; rw [h1]
        cases s <;> first | rfl | cases hd
      refine ⟨a, h3, h4.stab stb fun o q => st.keep a _ q (keepAddr k s a h1 ho h3 fun p hp => ?_) nt_lst⟩
      obtain ⟨d', b, q1, q2, q3⟩ := lent p k s hp h1 ho
      have := fr.long q1
      have := h2 hio p hp
      omega
    · obtain ⟨d', a, q1, q2, q3⟩ := lent p k t h1 h3 h4
      obtain ⟨x, r1, r2⟩ := fr.get q1 h2
      rw [q2] at r1; cases r1
      subst h5
      cases t <;> cases f <;> first | exact absurd rfl h4 | (cases hd; obtain ⟨b, z1, z2⟩ := r2; cases z1; exact ⟨_, q3, z2⟩) | cases hd
  · obtain ⟨u, h5, h6⟩ := sub.le i s hi
    obtain ⟨w, h7, h8⟩ := sub.le j t hj
    exact er.inj i j u w a h5 h7 (h6.own h1) (h8.own h2) h3 h4
  · obtain ⟨u, h5, h6⟩ := sub.le k _ hs
    cases h6 with
    | same => exact er.new k d a h5 ha
    | oo d' => exact er.new k d' a h5 ha
  · obtain ⟨u, h5, h6⟩ := sub.le k _ hk
    cases h6
    exact er.ex k h5
/-- a call: its arguments' reading, the callee's promise -/
theorem tE_call {g : FS} {as : SA} {Q : VK} (h : tE X H0 W (eCall g as) σ H Q) {np : Nat} (hnp : ∀ env vs e, as env = .ok vs e → vs.length = np) : tA X H0 W as σ H fun xs H1 => Vs X σ (fun H2 => spF X.K X.mg np g xs H2 Q (WE W σ)) H1 := by
  obtain ⟨env, er, q⟩ := h
  refine ⟨env, er, ?_⟩
  have q : pE X H0 W env σ H Q ((as env).bind (callK g)) := q
  cases hf : as env with
  | bad => rw [hf] at q; exact q
  | exc xc e' => rw [hf] at q; exact q
  | ok vs e1 =>
    rw [hf] at q
    intro xs H1 st1 er1 sb1 vr1
    have q : pE X H0 W env σ H Q (callK g vs e1) := q
    unfold callK at q
    cases hs : argSs e1 vs with
    | none => rw [hs] at q; exact q.elim
    | some ss =>
      rw [hs] at q
      simp only at q
      cases hl : lentOk e1 vs with
      | false => rw [hl] at q; exact q.elim
      | true =>
        rw [hl] at q
        simp only at q
        have fn := fun a ha => (VRs.fr_none vr1 a ha).1
        have fo := fun a ha (z : OA e1 σ a) => VR.none_oa er (fn a ha) (sb1.oa z)
        refine frz_vs er1 vr1 fo fun H2 st2 sta2 er2 rp2 => ?_
        obtain ⟨er3, pok, hoa⟩ := argSs_er er2 vr1 rp2 hs hl
        have stH2 : Step (OA env σ) H H2 := st1.trans st2 fun b z => .inr (fn b z)
        refine ⟨by rw [← vr1.len]; exact hnp _ _ _ hf, ss, er3, pok, ?_⟩
        cases hg : g ss with
        | bad => rw [hg] at q; exact q
        | exc xc fin =>
          rw [hg] at q
          intro cls dd H3 st3 fr3 xr3
          exact q cls dd H3 (stH2.trans st3 fun b z => .inl (sb1.oa (hoa b z))) (back_er er2 vr1 hs hl hoa st3 fr3) (sb1.trans back_le) xr3
        | ok v fin =>
          rw [hg] at q
          intro x H3 st3 fr3 vr3
          have st : Step (OA env σ) H H3 := stH2.trans st3 fun b z => .inl (sb1.oa (hoa b z))
          have e3 := back_er er2 vr1 hs hl hoa st3 fr3
          cases v with
          | lt i => exact vr3.elim
          | sh d => exact q x H3 st e3 (sb1.trans back_le) vr3
          | fr d =>
            obtain ⟨a, h1, h2, h3⟩ := vr3
            exact q x H3 st e3 (sb1.trans back_le) ⟨a, h1, none_back stH2 h2, h3⟩
end
end FE
end
section
set_option Elab.async false
set_option linter.all false
set_option maxRecDepth 100000
namespace FE
open PySem PySem.Spec PyProof.Rows L2

/-- how many arguments -/
inductive Len : SA → Nat → Prop
  | nil : Len aNil 0
  | cons {f g n} : Len g n → Len (aCons f g) (n + 1)
theorem Len.ok {as : SA} {n : Nat} (h : Len as n) : ∀ env vs e, as env = .ok vs e → vs.length = n := by
  induction h with
  | nil => intro env vs e h; cases h; rfl
  | @cons f g n _ ih =>
    intro env vs e h
    unfold aCons at h
    cases hf : f env with
    | bad => rw [hf] at h; cases h
    | exc x e' => rw [hf] at h; cases h
    | ok v e1 =>
      rw [hf] at h
      simp only [R.bind_ok] at h
      cases hg : g e1 with
      | bad => rw [hg] at h; cases h
      | exc x e' => rw [hg] at h; cases h
      | ok vs' e2 =>
        rw [hg] at h
        cases h
        rw [List.length_cons, ih _ _ _ hg]
section
variable {X : Cx} {K : PySem.W.Frag} {H0 : Gh} {Hs H H' H1 H2 : Hp} {W : WX} {env e e1 e2 : En} {σ σ' σ1 : L2.St}
/-- a def's promise in this make -/
abbrev FnF (X : Cx) (k : Nat) (f : Addr) (fd : FuncData) (ps : List Str) (g : FS) : Prop := FnG X.prog X.w X.K X.mg X.base k f fd ps (spF X.K X.mg ps.length g)
theorem fe_call {k : Nat} {f : Addr} {fd : FuncData} {ps : List Str} {g : FS} {x : Str} {p pos : Pos} {a : Expr} {es : List Expr} {as : SA} (F : FnF X k f fd ps g) (hgu : NoG X.A) (hr : Room k X.A) (hg : Gl X x) (hm : X.mg x = some (.ref f)) (hk : PySem.W.keepIn X.K (.ref f) = true) (hb : Binds X.K fd ps [])
    (tk : Takes X W) (ha : FAx X H0 W (a :: es) as) (hl : Len as ps.length) (hdb : (x == ("__debug__" : Str)) = false := by decide) (he : starEach (a :: es) X.env = (false, eval a X.env) :: starEach es X.env := by rfl) (hpl : (backTo pos (starEach es X.env)).any (·.1) = false := by rfl) :
    FEx X H0 W (.Call (.Name x p) (a :: es) [] pos) (eCall g as) :=
  PE.imp (pe_callG F hgu hr hg hm hk hb (fun σ => passAt tk σ) (PA.vs ha) hdb he hpl) fun σ H Q h => tE_call h hl.ok
/-- without arguments -/
def eCall0 (g : FS) : SE := fun e => match g [] with
  | .ok (.sh d) _ => .ok (.sh d) e
  | .ok (.fr d) _ => .ok (.fr d) e
  | _ => .bad
theorem fe_call0 {k : Nat} {f : Addr} {fd : FuncData} {g : FS} {x : Str} {p pos : Pos} (F : FnF X k f fd [] g) (hgu : NoG X.A) (hr : Room k X.A) (hg : Gl X x) (hm : X.mg x = some (.ref f)) (hk : PySem.W.keepIn X.K (.ref f) = true) (hb : Binds X.K fd [] [])
    (hdb : (x == ("__debug__" : Str)) = false := by decide) : FEx X H0 W (.Call (.Name x p) [] [] pos) (eCall0 g) :=
  PE.imp (pe_call0G (E := E0) F hgu hr hg hm hk hb (fun σ pins H s e s' I c => passL pins σ H s e s' I c) hdb) fun σ H Q ⟨env, er, q⟩ => by
    unfold eCall0 at q
    refine ⟨rfl, [], ⟨rfl, fun i s d h => (by simp at h), fun i s d h => (by simp at h), fun i j s t a h => (by simp at h), fun i d a h => (by simp at h), ⟨fun b n => absurd rfl n, fun p hp => absurd hp (by simp)⟩, fun i h => (by simp at h)⟩, fun s h => (by cases h), ?_⟩
    have no : ∀ a, ¬ OA [] ([].map some) a := fun a ⟨i, s, h, _⟩ => by simp at h
    cases hg : g [] with
    | bad => rw [hg] at q; exact q
    | exc xc fin => rw [hg] at q; exact q.elim
    | ok v fin =>
      rw [hg] at q
      intro x H1 st fr vr
      have st0 : Step (fun _ => False) H H1 := st.imp no
      cases v with
      | lt i => exact q.elim
      | sh d => exact q x H1 (st0.imp fun _ z => z.elim) (er.step0 st0) (.refl _) vr
      | fr d => exact q x H1 (st0.imp fun _ z => z.elim) (er.step0 st0) (.refl _) vr

/-! ### statements -/
def Orig (e : En) (i : Nat) : Prop := (∃ d, e[i]? = some (.pa d)) ∨ (∃ d, e[i]? = some (.pf d))
structure SbS (env e' : En) (σ σ' : L2.St) (H : Hp) : Prop where
  oa : ∀ a, OA e' σ' a → OA env σ a ∨ H a = none
  orig : ∀ i, Orig e' i → Orig env i ∧ σ'[i]? = σ[i]?
  len : e'.length = env.length
theorem SbS.refl : SbS env env σ σ H := ⟨fun _ h => .inl h, fun _ h => ⟨h, rfl⟩, rfl⟩
theorem Sb.sbs (s : Sb env e1) : SbS env e1 σ σ H := ⟨fun a h => .inl (s.oa h), fun i h => by
  refine ⟨?_, rfl⟩
  rcases h with ⟨d, h⟩ | ⟨d, h⟩
  · obtain ⟨t, h1, h2⟩ := s.le i _ h
    cases h2 with
    | same => exact .inl ⟨_, h1⟩
    | pp d' => exact .inl ⟨_, h1⟩
  · obtain ⟨t, h1, h2⟩ := s.le i _ h
    cases h2 with
    | same => exact .inr ⟨_, h1⟩
    | pf d' => exact .inl ⟨_, h1⟩, s.len⟩
theorem SbS.trans {σ2 : L2.St} {A : Addr → Prop} (a : SbS env e1 σ σ1 H) (st : Step A H H1) (b : SbS e1 e2 σ1 σ2 H1) : SbS env e2 σ σ2 H :=
  ⟨fun x h => (b.oa x h).elim (a.oa x) fun n => .inr (by
    cases z : H x with
    | none => rfl
    | some u => exact absurd n (st.mono x (by rw [z]; intro y; cases y))),
   fun i h => let ⟨h1, h2⟩ := b.orig i h; let ⟨h3, h4⟩ := a.orig i h1; ⟨h3, h2.trans h4⟩, b.len.trans a.len⟩
theorem SbS.trans0 {σ2 : L2.St} (a : SbS env e1 σ σ1 H) (b : SbS e1 e2 σ1 σ2 H) : SbS env e2 σ σ2 H :=
  ⟨fun x h => (b.oa x h).elim (a.oa x) .inr, fun i h => let ⟨h1, h2⟩ := b.orig i h; let ⟨h3, h4⟩ := a.orig i h1; ⟨h3, h2.trans h4⟩, b.len.trans a.len⟩
theorem Step.seqS (a : Step (OA env σ) H H1) (s : SbS env e1 σ σ1 H) (b : Step (OA e1 σ1) H1 H2) : Step (OA env σ) H H2 := a.trans b s.oa
def pS (X : Cx) (H0 : Gh) (W : WX) (env : En) (σ : L2.St) (H : Hp) (D : Ends) : R Fl → Prop
  | .ok .nx e' => ∀ σ' H', Step (OA env σ) H H' → ER X.K H0 e' σ' H' → SbS env e' σ σ' H → D.nx σ' H'
  | .ok .bk e' => ∀ σ' H', Step (OA env σ) H H' → ER X.K H0 e' σ' H' → SbS env e' σ σ' H → D.bk σ' H'
  | .ok .ct e' => ∀ σ' H', Step (OA env σ) H H' → ER X.K H0 e' σ' H' → SbS env e' σ σ' H → D.ct σ' H'
  | .ok (.rt v) e' => ∀ x σ' H', Step (OA env σ) H H' → ER X.K H0 e' σ' H' → SbS env e' σ σ' H → VRf X.K H0 H' v x → D.rt x H'
  | .exc xc e' => ∀ cls dd σ' H', Step (OA env σ) H H' → ER X.K H0 e' σ' H' → SbS env e' σ σ' H → XR X.K X.mg H' xc cls dd → W cls dd σ' H'
  | .bad => False
def tS (X : Cx) (H0 : Gh) (W : WX) (f : SS) : TS := fun D σ H => ∃ env, ER X.K H0 env σ H ∧ pS X H0 W env σ H D (f env)
abbrev FSx (X : Cx) (H0 : Gh) (W : WX) (st : Stmt) (f : SS) : Prop := PS X st (tS X H0 W f)
abbrev FBx (X : Cx) (H0 : Gh) (W : WX) (st : List Stmt) (f : SS) : Prop := PSs X st (tS X H0 W f)
theorem pS_later {D : Ends} {r : R Fl} (s : Step (OA env σ) H H1) (b : SbS env e1 σ σ1 H) (q : pS X H0 W env σ H D r) : pS X H0 W e1 σ1 H1 D r := by
  cases r with
  | bad => exact q
  | exc xc e' => exact fun cls dd σ2 H2 st er sb xr => q cls dd σ2 H2 (s.seqS b st) er (b.trans s sb) xr
  | ok f e' =>
    cases f with
    | nx => exact fun σ2 H2 st er sb => q σ2 H2 (s.seqS b st) er (b.trans s sb)
    | bk => exact fun σ2 H2 st er sb => q σ2 H2 (s.seqS b st) er (b.trans s sb)
    | ct => exact fun σ2 H2 st er sb => q σ2 H2 (s.seqS b st) er (b.trans s sb)
    | rt v => exact fun x σ2 H2 st er sb vr => q x σ2 H2 (s.seqS b st) er (b.trans s sb) vr
/-- an expression, then a statement's end -/
theorem tE_bindS {f : SE} {g : Vl → En → R Fl} {D : Ends} (h : tS X H0 W (fun e => (f e).bind g) D σ H) {Q : VK}
    (i : ∀ env e1 v x H1, ER X.K H0 env σ H → ER X.K H0 e1 σ H1 → Step (OA env σ) H H1 → Sb env e1 → VR X.K σ H H1 v x → pS X H0 W env σ H D (g v e1) → Q x H1) : tE X H0 W f σ H Q := by
  obtain ⟨env, er, q⟩ := h
  refine ⟨env, er, ?_⟩
  have q : pS X H0 W env σ H D ((f env).bind g) := q
  cases hf : f env with
  | bad => rw [hf] at q; exact q
  | exc xc e' =>
    rw [hf] at q
    exact fun cls dd H1 st er1 sb xr => q cls dd σ H1 st er1 sb.sbs xr
  | ok v e' =>
    rw [hf] at q
    exact fun x H1 st er1 sb vr => i env e' v x H1 er er1 st sb vr q
theorem tT_bindS {f : ST} {g : Bool → En → R Fl} {D : Ends} (h : tS X H0 W (fun e => (f e).bind g) D σ H) : tT X H0 W f σ H fun b H1 => tS X H0 W (g b) D σ H1 := by
  obtain ⟨env, er, q⟩ := h
  refine ⟨env, er, ?_⟩
  have q : pS X H0 W env σ H D ((f env).bind g) := q
  cases hf : f env with
  | bad => rw [hf] at q; exact q
  | exc xc e' =>
    rw [hf] at q
    exact fun cls dd H1 st er1 sb xr => q cls dd σ H1 st er1 sb.sbs xr
  | ok v e' =>
    rw [hf] at q
    exact fun H1 st er1 sb => ⟨e', er1, pS_later st sb.sbs q⟩

/-! blocks -/
def sNil : SS := fun e => .ok .nx e
def R.seq (r : R Fl) (g : SS) : R Fl := match r with
  | .ok .nx e1 => g e1
  | r => r
def sSeq (f g : SS) : SS := fun e => (f e).seq g
@[simp] theorem R.seq_nx (e : En) (g : SS) : (R.ok .nx e : R Fl).seq g = g e := rfl
@[simp] theorem R.seq_bk (e : En) (g : SS) : (R.ok .bk e : R Fl).seq g = .ok .bk e := rfl
@[simp] theorem R.seq_ct (e : En) (g : SS) : (R.ok .ct e : R Fl).seq g = .ok .ct e := rfl
@[simp] theorem R.seq_rt (v : Vl) (e : En) (g : SS) : (R.ok (.rt v) e : R Fl).seq g = .ok (.rt v) e := rfl
@[simp] theorem R.seq_exc (x : Xc) (e : En) (g : SS) : (R.exc x e : R Fl).seq g = .exc x e := rfl
@[simp] theorem R.seq_bad (g : SS) : (R.bad : R Fl).seq g = .bad := rfl
theorem fb_nil : FBx X H0 W [] sNil := PSs.imp pss_nil fun D σ H ⟨env, er, q⟩ => q σ H (.refl _ _) er .refl
theorem fb_cons {st : Stmt} {rest : List Stmt} {f g : SS} (h1 : FSx X H0 W st f) (h2 : FBx X H0 W rest g) : FBx X H0 W (st :: rest) (sSeq f g) :=
  PSs.imp (pss_cons h1 h2) fun D σ H ⟨env, er, q⟩ => by
    refine ⟨env, er, ?_⟩
    have q : pS X H0 W env σ H D ((f env).seq g) := q
    cases hf : f env with
    | bad => rw [hf] at q; exact q
    | exc xc e' => rw [hf] at q; exact q
    | ok fl e' =>
      rw [hf] at q
      cases fl with
      | bk => exact q
      | ct => exact q
      | rt v => exact q
      | nx => exact fun σ1 H1 st er1 sb => ⟨e', er1, pS_later st sb q⟩
theorem fb_one {st : Stmt} {f : SS} (h1 : FSx X H0 W st f) : FBx X H0 W [st] f := pss_one h1
def sBk : SS := fun e => .ok .bk e
def sCt : SS := fun e => .ok .ct e
theorem fs_pass {pos} : FSx X H0 W (.Pass pos) sNil := PS.imp ps_pass fun D σ H ⟨env, er, q⟩ => q σ H (.refl _ _) er .refl
theorem fs_break {pos} : FSx X H0 W (.Break pos) sBk := PS.imp ps_break fun D σ H ⟨env, er, q⟩ => q σ H (.refl _ _) er .refl
theorem fs_continue {pos} : FSx X H0 W (.Continue pos) sCt := PS.imp ps_continue fun D σ H ⟨env, er, q⟩ => q σ H (.refl _ _) er .refl
/-- an expression alone -/
def sEx (f : SE) : SS := fun e => (f e).bind fun _ e1 => .ok .nx e1
theorem fs_ex {e : Expr} {f : SE} {pos : Pos} (h : FEx X H0 W e f) (hs : swapsWith e none pos.line X.env = pure false := by rfl) : FSx X H0 W (.Expr e pos) (sEx f) :=
  PS.imp (ps_expr h hs) fun D σ H h => tE_bindS h fun env e1 v x H1 er er1 st sb vr q => q σ H1 st er1 sb.sbs
/-- if -/
def sIf (c : ST) (f g : SS) : SS := fun e => (c e).bind fun b e1 => match b with
  | true => f e1
  | false => g e1
theorem fs_if {c : Expr} {a b : List Stmt} {fc : ST} {fa fb : SS} {pos : Pos} (hc : FTx X H0 W c fc) (ha : FBx X H0 W a fa) (hb : FBx X H0 W b fb) : FSx X H0 W (.If c a b pos) (sIf fc fa fb) :=
  PS.imp (ps_if hc ha hb) fun D σ H h => tT_mono (tT_bindS h) fun b H1 q => by
    cases b with
    | true => rw [if_pos rfl]; exact q
    | false => rw [if_neg Bool.false_ne_true]; exact q

/-! ### slots -/
theorem ER.setSh {i : Nat} {v : V} {d : D} (er : ER K H0 e σ H) (r : Rp K H v d) : ER K H0 (e.set i (.sh d)) (σ.set i (some v)) H := by
  have ls : (σ.set i (some v)).length = σ.length := by rw [List.length_set]
  have get : ∀ (j : Nat) (t : Slot), (e.set i (.sh d))[j]? = some t → (j = i ∧ t = .sh d ∧ j < σ.length) ∨ (j ≠ i ∧ e[j]? = some t) := fun j t h => by
    by_cases z : i = j
    · subst z
      have hl : i < (e.set i (.sh d)).length := (List.getElem?_eq_some_iff.mp h).1
      rw [List.length_set] at hl
      rw [List.getElem?_set_self hl] at h
      exact .inl ⟨rfl, (Option.some.inj h).symm, by rw [← er.len]; exact hl⟩
    · rw [List.getElem?_set_ne z] at h; exact .inr ⟨fun y => z y.symm, h⟩
  have gs : ∀ (j : Nat), j ≠ i → (σ.set i (some v))[j]? = σ[j]? := fun j hj => List.getElem?_set_ne (Ne.symm hj)
  refine ⟨by rw [List.length_set, List.length_set]; exact er.len, fun j t d' h1 h2 => ?_, fun j t d' h1 h2 => ?_, fun j k t u b h1 h2 h3 h4 h5 h6 => ?_, fun j d' b h1 h2 => ?_, er.mono, fun j h1 => ?_⟩
  · rcases get j t h1 with ⟨z, y, l⟩ | ⟨z, y⟩
    · subst z; subst y; cases h2
      exact ⟨v, List.getElem?_set_self l, r⟩
    · rw [gs j z]; exact er.fz j t d' y h2
  · rcases get j t h1 with ⟨z, y, _⟩ | ⟨z, y⟩
    · subst y; cases h2
    · rw [gs j z]; exact er.ow j t d' y h2
  · rcases get j t h1 with ⟨z, y, _⟩ | ⟨z, y⟩
    · subst y; exact absurd rfl h3
    · rcases get k u h2 with ⟨z2, y2, _⟩ | ⟨z2, y2⟩
      · subst y2; exact absurd rfl h4
      · rw [gs j z] at h5; rw [gs k z2] at h6
        exact er.inj j k t u b y y2 h3 h4 h5 h6
  · rcases get j _ h1 with ⟨z, y, _⟩ | ⟨z, y⟩
    · cases y
    · rw [gs j z] at h2; exact er.new j d' b y h2
  · rcases get j _ h1 with ⟨z, y, _⟩ | ⟨z, y⟩
    · cases y
    · rw [gs j z]; exact er.ex j y
theorem ER.setOw {i : Nat} {a : Addr} {d : D} (er : ER K H0 e σ H) (o : Own K H a d) (n : ¬ OA e σ a) (nw : H0 a = none) : ER K H0 (e.set i (.ow d)) (σ.set i (some (.ref a))) H := by
  have get : ∀ (j : Nat) (t : Slot), (e.set i (.ow d))[j]? = some t → (j = i ∧ t = .ow d ∧ j < σ.length) ∨ (j ≠ i ∧ e[j]? = some t) := fun j t h => by
    by_cases z : i = j
    · subst z
      have hl : i < (e.set i (.ow d)).length := (List.getElem?_eq_some_iff.mp h).1
      rw [List.length_set] at hl
      rw [List.getElem?_set_self hl] at h
      exact .inl ⟨rfl, (Option.some.inj h).symm, by rw [← er.len]; exact hl⟩
    · rw [List.getElem?_set_ne z] at h; exact .inr ⟨fun y => z y.symm, h⟩
  have gs : ∀ (j : Nat), j ≠ i → (σ.set i (some (.ref a)))[j]? = σ[j]? := fun j hj => List.getElem?_set_ne (Ne.symm hj)
  refine ⟨by rw [List.length_set, List.length_set]; exact er.len, fun j t d' h1 h2 => ?_, fun j t d' h1 h2 => ?_, fun j k t u b h1 h2 h3 h4 h5 h6 => ?_, fun j d' b h1 h2 => ?_, er.mono, fun j h1 => ?_⟩
  · rcases get j t h1 with ⟨z, y, l⟩ | ⟨z, y⟩
    · subst y; cases h2
    · rw [gs j z]; exact er.fz j t d' y h2
  · rcases get j t h1 with ⟨z, y, l⟩ | ⟨z, y⟩
    · subst z; subst y; cases h2
      exact ⟨a, List.getElem?_set_self l, o⟩
    · rw [gs j z]; exact er.ow j t d' y h2
  · rcases get j t h1 with ⟨z, y, l⟩ | ⟨z, y⟩
    · rcases get k u h2 with ⟨z2, y2, _⟩ | ⟨z2, y2⟩
      · rw [z, z2]
      · subst z
        rw [List.getElem?_set_self l] at h5; cases h5
        rw [gs k z2] at h6
        exact (n ⟨k, u, y2, h4, h6⟩).elim
    · rcases get k u h2 with ⟨z2, y2, l2⟩ | ⟨z2, y2⟩
      · subst z2
        rw [List.getElem?_set_self l2] at h6; cases h6
        rw [gs j z] at h5
        exact (n ⟨j, t, y, h3, h5⟩).elim
      · rw [gs j z] at h5; rw [gs k z2] at h6
        exact er.inj j k t u b y y2 h3 h4 h5 h6
  · rcases get j _ h1 with ⟨z, y, l⟩ | ⟨z, y⟩
    · subst z
      rw [List.getElem?_set_self l] at h2; cases h2
      exact nw
    · rw [gs j z] at h2; exact er.new j d' b y h2
  · rcases get j _ h1 with ⟨z, y, _⟩ | ⟨z, y⟩
    · cases y
    · rw [gs j z]; exact er.ex j y
theorem ER.setUn {i : Nat} (er : ER K H0 e σ H) (v : Option V) : ER K H0 (e.set i .un) (σ.set i v) H := by
  have get : ∀ (j : Nat) (t : Slot), (e.set i .un)[j]? = some t → (t = .un) ∨ (j ≠ i ∧ e[j]? = some t) := fun j t h => by
    by_cases z : i = j
    · subst z
      have hl : i < (e.set i .un).length := (List.getElem?_eq_some_iff.mp h).1
      rw [List.length_set] at hl
      rw [List.getElem?_set_self hl] at h
      exact .inl (Option.some.inj h).symm
    · rw [List.getElem?_set_ne z] at h; exact .inr ⟨fun y => z y.symm, h⟩
  have gs : ∀ (j : Nat), j ≠ i → (σ.set i v)[j]? = σ[j]? := fun j hj => List.getElem?_set_ne (Ne.symm hj)
  refine ⟨by rw [List.length_set, List.length_set]; exact er.len, fun j t d' h1 h2 => ?_, fun j t d' h1 h2 => ?_, fun j k t u b h1 h2 h3 h4 h5 h6 => ?_, fun j d' b h1 h2 => ?_, er.mono, fun j h1 => ?_⟩
  · rcases get j t h1 with y | ⟨z, y⟩
    · subst y; cases h2
    · rw [gs j z]; exact er.fz j t d' y h2
  · rcases get j t h1 with y | ⟨z, y⟩
    · subst y; cases h2
    · rw [gs j z]; exact er.ow j t d' y h2
  · rcases get j t h1 with y | ⟨z, y⟩
    · subst y; exact absurd rfl h3
    · rcases get k u h2 with y2 | ⟨z2, y2⟩
      · subst y2; exact absurd rfl h4
      · rw [gs j z] at h5; rw [gs k z2] at h6
        exact er.inj j k t u b y y2 h3 h4 h5 h6
  · rcases get j _ h1 with y | ⟨z, y⟩
    · cases y
    · rw [gs j z] at h2; exact er.new j d' b y h2
  · rcases get j _ h1 with y | ⟨z, y⟩
    · cases y
    · rw [gs j z]; exact er.ex j y
/-- a slot is given something else -/
theorem SbS.setS {i : Nat} {s : Slot} {v : Option V} (hno : ∀ d, s ≠ .pa d ∧ s ≠ .pf d) (hn : ∀ a, v = some (.ref a) → s.own? ≠ none → OA e σ a ∨ H a = none) (hl : e.length = σ.length) : SbS e (e.set i s) σ (σ.set i v) H := by
  refine ⟨fun a ⟨j, t, h1, h2, h3⟩ => ?_, fun j h => ?_, by rw [List.length_set]⟩
  · by_cases z : i = j
    · subst z
      have hi : i < (e.set i s).length := (List.getElem?_eq_some_iff.mp h1).1
      rw [List.length_set] at hi
      rw [List.getElem?_set_self hi] at h1
      rw [List.getElem?_set_self (by rw [← hl]; exact hi)] at h3
      cases h1; cases h3
      exact hn a rfl h2
    · rw [List.getElem?_set_ne z] at h1 h3
      exact .inl ⟨j, t, h1, h2, h3⟩
  · by_cases z : i = j
    · subst z
      rcases h with ⟨d, h⟩ | ⟨d, h⟩
      · have hi : i < (e.set i s).length := (List.getElem?_eq_some_iff.mp h).1
        rw [List.length_set] at hi
        rw [List.getElem?_set_self hi] at h
        exact absurd (Option.some.inj h) (hno d).1
      · have hi : i < (e.set i s).length := (List.getElem?_eq_some_iff.mp h).1
        rw [List.length_set] at hi
        rw [List.getElem?_set_self hi] at h
        exact absurd (Option.some.inj h) (hno d).2
    · refine ⟨?_, List.getElem?_set_ne z⟩
      rcases h with ⟨d, h⟩ | ⟨d, h⟩
      · rw [List.getElem?_set_ne z] at h; exact .inl ⟨d, h⟩
      · rw [List.getElem?_set_ne z] at h; exact .inr ⟨d, h⟩

/-! ### x = e -/
def asgV (i : Nat) (v : Vl) (e : En) : R Fl := match v with
  | .fr d => .ok .nx (e.set i (.ow d))
  | v => match v.take e with
    | some (d, e1) => .ok .nx (e1.set i (.sh d))
    | none => .bad
def sAsg (i : Nat) (f : SE) : SS := fun e => (f e).bind fun v e1 => asgV i v e1
theorem H0_none (er : ER K H0 e σ H) {a : Addr} (n : H a = none) : H0 a = none := by
  cases z : H0 a with
  | none => rfl
  | some u => exact absurd n (er.mono.up a (by rw [z]; intro y; cases y))
theorem asgV_vs {i : Nat} {v : Vl} {x : V} {D : Ends} (er : ER X.K H0 env σ H) (er1 : ER X.K H0 e1 σ H1) (st : Step (OA env σ) H H1) (sb : Sb env e1) (vr : VR X.K σ H H1 v x) (q : pS X H0 W env σ H D (asgV i v e1)) :
    Vs X σ (fun H2 => D.nx (σ.set i (some x)) H2) H1 := by
  have viaTake : ∀ (hv : ∀ d, v ≠ .fr d), Vs X σ (fun H2 => D.nx (σ.set i (some x)) H2) H1 := fun hv => by
    have q : pS X H0 W env σ H D (match v.take e1 with
      | some (d, e1) => .ok .nx (e1.set i (.sh d))
      | none => .bad) := by
      cases v with
      | fr d => exact absurd rfl (hv d)
      | sh d => exact q
      | lt j => exact q
    cases ht : v.take e1 with
    | none => rw [ht] at q; exact q.elim
    | some p =>
      obtain ⟨d, e2⟩ := p
      rw [ht] at q
      refine take_vs er1 vr (fun d' a ev _ => absurd ev (hv d')) ht fun H2 st2 sta er2 sb2 rp => ?_
      have st' : Step (OA env σ) H H2 := st.trans st2 fun b z => by
        rcases z with z | ⟨d', ev, _⟩
        · exact .inl (sb.oa z)
        · exact absurd ev (hv d')
      exact q _ H2 st' (er2.setSh rp) ((sb.trans sb2).sbs.trans st' (SbS.setS (fun d => ⟨fun z => (by cases z), fun z => (by cases z)⟩) (fun a _ z => absurd rfl z) er2.len))
  cases v with
  | sh d => exact viaTake fun _ z => by cases z
  | lt j => exact viaTake fun _ z => by cases z
  | fr d =>
    obtain ⟨a, ex, n, o⟩ := vr
    subst ex
    refine .pure (q _ H1 st (er1.setOw o (fun z => VR.none_oa er n (sb.oa z)) (H0_none er n)) ?_)
    refine sb.sbs.trans0 (SbS.setS (fun d => ⟨fun z => (by cases z), fun z => (by cases z)⟩) (fun b eb _ => ?_) er1.len)
    cases eb
    exact .inr n
theorem fs_set {i : Nat} {x : Str} {ex : Expr} {f : SE} {pos pos' : Pos} (hN : X.N.Nodup) (hi : X.N[i]? = some x) (hx : Loc X.env.scope x) (he : FEx X H0 W ex f) (hs : swapsWith ex (some (.Name x pos')) pos.line X.env = pure false := by rfl) (hf : X.fn x = true ∨ X.env.scope.names.lookup x = some .local := by first | exact .inl rfl | exact .inr rfl | assumption) :
    FSx X H0 W (.Assign [.Name x pos'] ex pos) (sAsg i f) :=
  PS.imp (ps_set hN hi hx (PE.vs he) hs hf) fun D σ H h => tE_bindS h fun env e1 v x H1 er er1 st sb vr q => asgV_vs er er1 st sb vr q

/-! ### return -/
def retV (v : Vl) (e : En) : R Fl := match v with
  | .sh d => .ok (.rt (.sh d)) e
  | .fr d => .ok (.rt (.fr d)) e
  | .lt i => match e[i]? with
    | some (.sh d) => .ok (.rt (.sh d)) e
    | some (.pf d) => .ok (.rt (.sh d)) e
    | some (.ow d) => .ok (.rt (.fr d)) (e.set i .un)
    | some (.pa d) => .ok (.rt (.sh d)) (e.set i (.pf d))
    | _ => .bad
def sRet (f : SE) : SS := fun e => (f e).bind retV
theorem fs_ret {ex : Expr} {f : SE} {pos : Pos} (he : FEx X H0 W ex f) : FSx X H0 W (.Return (some ex) pos) (sRet f) :=
  PS.imp (ps_ret (PE.vs he)) fun D σ H h => tE_bindS h fun env e1 v x H1 er er1 st sb vr q => by
    cases v with
    | sh d => exact .pure (q x σ H1 st er1 sb.sbs vr)
    | fr d =>
      obtain ⟨a, e, n, o⟩ := vr
      exact .pure (q x σ H1 st er1 sb.sbs ⟨a, e, H0_none er n, o⟩)
    | lt i =>
      have hs : σ[i]? = some (some x) := vr
      have q : pS X H0 W env σ H D (match e1[i]? with
        | some (.sh d) => .ok (.rt (.sh d)) e1
        | some (.pf d) => .ok (.rt (.sh d)) e1
        | some (.ow d) => .ok (.rt (.fr d)) (e1.set i .un)
        | some (.pa d) => .ok (.rt (.sh d)) (e1.set i (.pf d))
        | _ => .bad) := q
      cases hi : e1[i]? with
      | none => rw [hi] at q; exact q.elim
      | some s =>
        rw [hi] at q
        cases s with
        | un => exact q.elim
        | ex => exact q.elim
        | sh d =>
          obtain ⟨v, h1, h2⟩ := er1.fz i _ _ hi rfl
          rw [hs] at h1; cases h1
          exact .pure (q _ σ H1 st er1 sb.sbs h2)
        | pf d =>
          obtain ⟨v, h1, h2⟩ := er1.fz i _ _ hi rfl
          rw [hs] at h1; cases h1
          exact .pure (q _ σ H1 st er1 sb.sbs h2)
        | ow d =>
          obtain ⟨a, h1, h2⟩ := er1.ow i _ _ hi rfl
          rw [hs] at h1; cases h1
          have hn := er1.new i d a hi hs
          have hset : σ.set i (some (.ref a)) = σ := by
            apply List.ext_getElem?
            intro n
            by_cases z : i = n
            · subst z; rw [List.getElem?_set_self (List.getElem?_eq_some_iff.mp hs).1, hs]
            · rw [List.getElem?_set_ne z]
          have er2 := er1.setUn (i := i) (some (.ref a))
          rw [hset] at er2
          exact .pure (q _ σ H1 st er2 (sb.trans (Sb.set hi (.ou d))).sbs ⟨a, rfl, hn, h2⟩)
        | pa d =>
          obtain ⟨a, h1, h2⟩ := er1.ow i _ _ hi rfl
          rw [hs] at h1; cases h1
          obtain ⟨xs, h3, h4⟩ := own_frz h2
          refine Vs.freeze h3 fun o => q _ σ _ (st.trans (step_frz h3) fun b z => .inl (sb.oa ⟨i, _, hi, (by intro y; cases y), by rw [hs, z]⟩)) (er1.frzAt hi rfl hs h3 (h4 o) rfl rfl (fun _ y => by cases y)) (sb.trans (Sb.set hi (.pf _ _))).sbs (h4 o)
def sRetN : SS := fun e => .ok (.rt (.sh .none)) e
theorem fs_retN {pos : Pos} : FSx X H0 W (.Return none pos) sRetN := PS.imp ps_retN fun D σ H ⟨env, er, q⟩ => q .non σ H (.refl _ _) er .refl .non

/-! ### while -/
def sWhileN (c : ST) (b : SS) : Nat → SS
  | 0 => fun _ => .bad
  | n + 1 => fun e => (c e).bind fun t e1 => match t with
    | false => .ok .nx e1
    | true => match b e1 with
      | .ok .nx e2 => sWhileN c b n e2
      | .ok .ct e2 => sWhileN c b n e2
      | .ok .bk e2 => .ok .nx e2
      | r => r
def wfuel : Nat := 1000000
def sWhile (c : ST) (b : SS) : SS := sWhileN c b wfuel
theorem fs_while {c : Expr} {body : List Stmt} {fc : ST} {fb : SS} {pos : Pos} (hp : PassesOwn (model X.prog X.w) X.A X.env X.xe) (hc : FTx X H0 W c fc) (hb : FBx X H0 W body fb) : FSx X H0 W (.While c body [] pos) (sWhile fc fb) :=
  PS.imp (ps_while hp hc hb) fun D σ H h => by
    refine ⟨fun m σ H => tS X H0 W (sWhileN fc fb m) D σ H, ⟨wfuel, h⟩, fun m σ1 H1 w => ?_⟩
    cases m with
    | zero => obtain ⟨env, er, q⟩ := w; exact q.elim
    | succ m =>
      refine tT_mono (tT_bindS w) fun b H2 q => ?_
      cases b with
      | false =>
        rw [if_neg Bool.false_ne_true]
        obtain ⟨env, er, q⟩ := q
        exact q σ1 H2 (.refl _ _) er .refl
      | true =>
        rw [if_pos rfl]
        refine ⟨fun σ' H' => tS X H0 W (sWhileN fc fb m) D σ' H', fun σ' H' n => ⟨m, Nat.lt_succ_self m, n⟩, ?_⟩
        obtain ⟨env, er, q⟩ := q
        refine ⟨env, er, ?_⟩
        have q : pS X H0 W env σ1 H2 D (match fb env with
          | .ok .nx e2 => sWhileN fc fb m e2
          | .ok .ct e2 => sWhileN fc fb m e2
          | .ok .bk e2 => .ok .nx e2
          | r => r) := q
        cases hf : fb env with
        | bad => rw [hf] at q; exact q
        | exc xc e' => rw [hf] at q; exact q
        | ok fl e' =>
          rw [hf] at q
          cases fl with
          | nx => exact fun σ' H' st er' sb => ⟨e', er', pS_later st sb q⟩
          | ct => exact fun σ' H' st er' sb => ⟨e', er', pS_later st sb q⟩
          | bk => exact q
          | rt v => exact q

/-! ### the promise of a def -/
/-- a def's function by its body: the parameters' slots ahead of the others -/
def fDef (np nl : Nat) (b : SS) : FS := fun ss => match b (ss ++ List.replicate nl .un) with
  | .ok .nx e => .ok (.sh .none) (e.take np)
  | .ok (.rt v) e => .ok v (e.take np)
  | .exc x e => .exc x (e.take np)
  | _ => .bad
theorem start_get {N : List Str} {vs : List V} {i : Nat} (h : i < vs.length) : (L2.start N vs)[i]? = (vs.map some)[i]? := by
  unfold L2.start
  rw [List.getElem?_append_left (by simpa using h)]
theorem app_get {ss : List Slot} {n i : Nat} {s : Slot} (h : (ss ++ List.replicate n Slot.un)[i]? = some s) : (i < ss.length ∧ ss[i]? = some s) ∨ s = .un := by
  by_cases z : i < ss.length
  · rw [List.getElem?_append_left z] at h; exact .inl ⟨z, h⟩
  · rw [List.getElem?_append_right (by omega), List.getElem?_replicate] at h
    split at h
    · exact .inr (Option.some.inj h).symm
    · cases h
theorem finR_of {slots : List Slot} {vs : List V} {e' : En} {np : Nat} {σ' σ0 : L2.St} {env0 : En} (hs : vs.length = slots.length) (hn : slots.length = np) (hlen : np ≤ e'.length) (er : ER K H0 e' σ' H') (hσ : ∀ (i : Nat), i < np → σ0[i]? = (vs.map some)[i]?)
    (sb : SbS env0 e' σ0 σ' H) : ∀ (ss : List Slot) (xs : List V) (n : Nat), slots.drop n = ss → vs.drop n = xs → n ≤ np → FinR K H' ss xs ((e'.take np).drop n)
  | [], _, _, _, _, _ => by unfold FinR; trivial
  | s :: ss, xs, n, h1, h2, h3 => by
    have hlt : n < slots.length := by
      cases Nat.lt_or_ge n slots.length with
      | inl h => exact h
      | inr h => rw [List.drop_eq_nil_of_le h] at h1; cases h1
    have hv : n < vs.length := by omega
    have he : n < (e'.take np).length := by rw [List.length_take]; omega
    rw [List.drop_eq_getElem_cons hlt] at h1
    rw [List.drop_eq_getElem_cons hv] at h2
    rw [List.drop_eq_getElem_cons he]
    cases h1; subst h2
    have rest := finR_of hs hn hlen er hσ sb (slots.drop (n + 1)) (vs.drop (n + 1)) (n + 1) rfl rfl (by omega)
    have hf : e'[n]? = some ((e'.take np)[n]) := by
      rw [List.getElem_take, List.getElem?_eq_getElem]
    have hx : σ'[n]? = σ0[n]? → σ'[n]? = some (some vs[n]) := fun q => by
      rw [q, hσ n (by omega), List.getElem?_map, List.getElem?_eq_getElem hv]; rfl
    have key : (match (e'.take np)[n] with
      | .pa d => ∃ a, vs[n] = .ref a ∧ Own K H' a d
      | .pf d => Rp K H' vs[n] d
      | _ => True) := by
      cases hq : (e'.take np)[n] with
      | pa d =>
        rw [hq] at hf
        obtain ⟨a, p1, p2⟩ := er.ow n _ d hf rfl
        have := hx (sb.orig n (.inl ⟨d, hf⟩)).2
        exact ⟨a, Option.some.inj (Option.some.inj (this.symm.trans p1)), p2⟩
      | pf d =>
        rw [hq] at hf
        obtain ⟨v, p1, p2⟩ := er.fz n _ d hf rfl
        have := hx (sb.orig n (.inr ⟨d, hf⟩)).2
        rw [Option.some.inj (Option.some.inj (this.symm.trans p1))]
        exact p2
      | un => trivial
      | ex => trivial
      | sh d => trivial
      | ow d => trivial
    cases hsl : slots[n] with
    | pa d => exact ⟨key, rest⟩
    | un => exact rest
    | ex => exact rest
    | sh d => exact rest
    | ow d => exact rest
    | pf d => exact rest
/-- with tables -/
def spT (T : List Addr) (sp : Sp) : Sp := fun vs H Q E => (∀ P ∈ T, LamX.TabS H P qL) ∧ sp vs H Q E
theorem fn_sound {T : List Addr} {P : Program} {w : World} {mg : Str → Option Value} {base : Heap} {x qual : Str} {st : Stmt} {f : Addr} {fd : FuncData} {N ps : List Str} {k nl : Nat} {b : SS} (F : Fun K x qual st f fd) (S : FnScope N ps (defScope st)) (hn : N.length = ps.length + nl)
    (hbody : ∀ (X : Cx) (H0 : Gh) (W : WX) (cdv : Value), CodeAt K f cdv → H0.tb = T → ∀ (A : Around) (outer : List PySem.Env) (s : Shared) (H : Hp) (E : XK), X = cxOf (L2.CX P w) P w K mg base N qual (defScope st) f cdv A outer s H E → NoG X.A → Room k X.A → Takes X W → FBx X H0 W (defBody st) b) :
    FnG P w K mg base (k + 1) f fd ps (spT T (spF K mg ps.length (fDef ps.length nl b))) := by
  refine fnG_of F S (fun vs H Q E h => h.2.1) fun cdv hcv A outer s H vs Q E hgu hr h => ?_
  obtain ⟨hT, hl, slots, er, pok, q⟩ := h
  refine ⟨_, hbody _ ⟨H, 0, T⟩ (fun cls d _ H => E cls d H) cdv hcv rfl A outer s H E rfl hgu hr (takes_of rfl rfl rfl rfl), slots ++ List.replicate nl .un, ?_, ?_⟩
  · have ls : slots.length = vs.length := by have := er.len; rw [List.length_map] at this; exact this
    have lst : (L2.start N vs).length = N.length := by
      unfold L2.start
      rw [List.length_append, List.length_map, List.length_replicate]
      omega
    refine ⟨by rw [List.length_append, List.length_replicate, lst]; omega, fun i t d h1 h2 => ?_, fun i t d h1 h2 => ?_, fun i j t u a h1 h2 h3 h4 h5 h6 => ?_, fun i d a h1 h2 => ?_, ⟨fun b n => n, hT⟩, fun i h1 => ?_⟩
    · rcases app_get h1 with ⟨z, y⟩ | z
      · rw [start_get (by omega)]; exact er.fz i t d y h2
      · subst z; cases h2
    · rcases app_get h1 with ⟨z, y⟩ | z
      · rw [start_get (by omega)]; exact er.ow i t d y h2
      · subst z; cases h2
    · rcases app_get h1 with ⟨z, y⟩ | z
      · rcases app_get h2 with ⟨z2, y2⟩ | z2
        · rw [start_get (by omega)] at h5 h6
          exact er.inj i j t u a y y2 h3 h4 h5 h6
        · subst z2; exact absurd rfl h4
      · subst z; exact absurd rfl h3
    · rcases app_get h1 with ⟨z, y⟩ | z
      · exact (pok _ (List.mem_of_getElem? y)).elim
      · cases z
    · rcases app_get h1 with ⟨z, y⟩ | z
      · exact (pok _ (List.mem_of_getElem? y)).elim
      · cases z
  · have ls : slots.length = vs.length := by have := er.len; rw [List.length_map] at this; exact this
    have oa : ∀ a, OA (slots ++ List.replicate nl .un) (L2.start N vs) a → OA slots (vs.map some) a := fun a ⟨i, t, h1, h2, h3⟩ => by
      rcases app_get h1 with ⟨z, y⟩ | z
      · rw [start_get (by omega)] at h3; exact ⟨i, t, y, h2, h3⟩
      · subst z; exact absurd rfl h2
    have hσ : ∀ (i : Nat), i < ps.length → (L2.start N vs)[i]? = (vs.map some)[i]? := fun i hi => start_get (by omega)
    have fin : ∀ {e' : En} {σ' : L2.St} {H' : Hp}, ER K ⟨H, 0, T⟩ e' σ' H' → SbS (slots ++ List.replicate nl .un) e' (L2.start N vs) σ' H → e'.length = σ'.length → ps.length ≤ e'.length → FinR K H' slots vs (e'.take ps.length) := fun {e' σ' H'} er' sb _ hl' =>
      finR_of (by omega) (by omega) hl' er' hσ sb slots vs 0 rfl rfl (Nat.zero_le _)
    unfold fDef at q
    cases hb : b (slots ++ List.replicate nl .un) with
    | bad => rw [hb] at q; exact q
    | exc xc e' =>
      rw [hb] at q
      intro cls dd σ' H' st er' sb xr
      refine q cls dd H' (st.imp oa) (fin er' sb er'.len ?_) xr
      have := sb.len
      rw [List.length_append] at this
      omega
    | ok fl e' =>
      rw [hb] at q
      cases fl with
      | nx => 
        intro σ' H' st er' sb
        refine q .non H' (st.imp oa) (fin er' sb er'.len ?_) .non
        have := sb.len
        rw [List.length_append] at this
        omega
      | bk => exact q.elim
      | ct => exact q.elim
      | rt v =>
        intro x σ' H' st er' sb vr
        refine q x H' (st.imp oa) (fin er' sb er'.len ?_) vr
        have := sb.len
        rw [List.length_append] at this
        omega
end
end FE
end
section
set_option Elab.async false
set_option linter.all false
set_option maxRecDepth 100000
namespace FE
open PySem PySem.Spec PyProof.Rows L2
section
variable {X : Cx} {K : PySem.W.Frag} {H0 : Gh} {Hs H H' H1 H2 : Hp} {W : WX} {env e e1 e2 : En} {σ σ' σ1 : L2.St}

/-! ### targets -/
abbrev GS := D → En → Option En
/-- sl: the slots that it stores to -/
def tG (X : Cx) (H0 : Gh) (sl : List Nat) (g : GS) : TG := fun v σ H Q => ∃ env d, ER X.K H0 env σ H ∧ Rp X.K H v d ∧ match g d env with
  | some e' => ∀ σ', ER X.K H0 e' σ' H → SbS env e' σ σ' H → (∀ vs : List Nat, (∀ i ∈ sl, i ∈ vs) → wipe σ' vs = wipe σ vs) → Q σ' H
  | none => False
abbrev FGx (X : Cx) (H0 : Gh) (tg : Expr) (sl : List Nat) (g : GS) : Prop := PG X tg (tG X H0 sl g)
abbrev GsS := List D → En → Option En
def tGs (X : Cx) (H0 : Gh) (sl : List Nat) (g : GsS) : TGs := fun vs σ H Q => ∃ env ds, ER X.K H0 env σ H ∧ RpAll X.K H vs ds ∧ match g ds env with
  | some e' => ∀ σ', ER X.K H0 e' σ' H → SbS env e' σ σ' H → (∀ vs : List Nat, (∀ i ∈ sl, i ∈ vs) → wipe σ' vs = wipe σ vs) → Q σ' H
  | none => False
abbrev FGsx (X : Cx) (H0 : Gh) (tg : List Expr) (sl : List Nat) (g : GsS) : Prop := PGs X tg (tGs X H0 sl g)
theorem PG.imp {tg : Expr} {t t' : TG} (h : PG X tg t) (i : ∀ v σ H Q, t' v σ H Q → t v σ H Q) : PG X tg t' := ⟨fun pins s σ H v u Q I r w => h.run pins s σ H v u Q I r (i _ _ _ _ w)⟩
theorem PGs.imp {tg : List Expr} {t t' : TGs} (h : PGs X tg t) (i : ∀ v σ H Q, t' v σ H Q → t v σ H Q) : PGs X tg t' := ⟨fun pins s σ H v u Q I r w => h.run pins s σ H v u Q I r (i _ _ _ _ w)⟩
theorem wipe_set {i : Nat} {o : Option V} : ∀ {vs : List Nat}, i ∈ vs → wipe (σ.set i o) vs = wipe σ vs
  | v :: vs, h => by
    unfold wipe
    by_cases hm : i ∈ vs
    · rw [wipe_set hm]
    · have hv : v = i := by
        rcases List.mem_cons.mp h with z | z
        · exact z.symm
        · exact absurd z hm
      subst hv
      have : ∀ (us : List Nat), v ∉ us → wipe (σ.set v o) us = (wipe σ us).set v o := by
        intro us
        induction us with
        | nil => intro _; rfl
        | cons u us ih =>
          intro hn
          unfold wipe
          rw [ih fun z => hn (List.mem_cons_of_mem _ z), List.set_comm _ _ (fun z => hn (by rw [← z]; exact List.mem_cons_self))]
      rw [this vs hm, List.set_set]
def gN (i : Nat) : GS := fun d e => some (e.set i (.sh d))
theorem fg_name {i : Nat} {x : Str} {pos : Pos} (hN : X.N.Nodup) (hi : X.N[i]? = some x) (hx : Loc X.env.scope x) (hf : X.fn x = true ∨ X.env.scope.names.lookup x = some .local := by first | exact .inl rfl | exact .inr rfl | assumption) : FGx X H0 (.Name x pos) [i] (gN i) :=
  PG.imp (pg_name hN hi hx hf) fun v σ H Q ⟨env, d, er, rp, q⟩ =>
    q _ (er.setSh rp) (SbS.setS (fun d => ⟨fun z => (by cases z), fun z => (by cases z)⟩) (fun a _ z => absurd rfl z) er.len) fun vs h => wipe_set (h i (by simp))
def gsN : GsS := fun ds e => match ds with
  | [] => some e
  | _ => none
def gsC (g : GS) (r : GsS) : GsS := fun ds e => match ds with
  | d :: ds => match g d e with
    | some e1 => r ds e1
    | none => none
  | [] => none
theorem fgs_nil : FGsx X H0 [] [] gsN := PGs.imp pgs_nil fun v σ H Q ⟨env, ds, er, rp, q⟩ => by
  cases rp with
  | nil => exact ⟨rfl, q σ er .refl fun _ _ => rfl⟩
  | cons _ _ => exact q.elim
theorem fgs_cons {t : Expr} {ts : List Expr} {g : GS} {r : GsS} {sl sl2 : List Nat} (h1 : FGx X H0 t sl g) (h2 : FGsx X H0 ts sl2 r) (hs : (assignEach (t :: ts) X.env).map (·.2) = assign t X.env :: (assignEach ts X.env).map (·.2) := by rfl) : FGsx X H0 (t :: ts) (sl ++ sl2) (gsC g r) :=
  PGs.imp (pgs_cons h1 h2 hs) fun v σ H Q ⟨env, ds, er, rp, q⟩ => by
    cases rp with
    | nil => exact q.elim
    | @cons v1 vs1 d1 ds1 r1 r2 =>
      refine ⟨_, _, rfl, env, d1, er, r1, ?_⟩
      have q : (match (match g d1 env with
        | some e1 => r ds1 e1
        | none => none) with
        | some e' => ∀ σ', ER X.K H0 e' σ' H → SbS env e' σ σ' H → (∀ vs : List Nat, (∀ i ∈ sl ++ sl2, i ∈ vs) → wipe σ' vs = wipe σ vs) → Q σ' H
        | none => False) := q
      cases hg : g d1 env with
      | none => rw [hg] at q; exact q.elim
      | some e1 =>
        rw [hg] at q
        intro σ1 er1 sb1 w1
        refine ⟨e1, ds1, er1, r2, ?_⟩
        have q : (match r ds1 e1 with
          | some e' => ∀ σ', ER X.K H0 e' σ' H → SbS env e' σ σ' H → (∀ vs : List Nat, (∀ i ∈ sl ++ sl2, i ∈ vs) → wipe σ' vs = wipe σ vs) → Q σ' H
          | none => False) := q
        cases hr : r ds1 e1 with
        | none => rw [hr] at q; exact q.elim
        | some e2 =>
          rw [hr] at q
          exact fun σ2 er2 sb2 w2 => q σ2 er2 (sb1.trans0 sb2) fun vs hv => (w2 vs fun i hi => hv i (List.mem_append_right _ hi)).trans (w1 vs fun i hi => hv i (List.mem_append_left _ hi))
def gT (n : Nat) (g : GsS) : GS := fun d e => match d with
  | .tuple ds => if ds.length = n then g ds e else none
  | _ => none
theorem fg_tup {es : List Expr} {k n : Nat} {pos : Pos} {g : GsS} {sl : List Nat} (hc : X.calm = true) (h : FGsx X H0 es sl g) (hn : (assignEach es X.env).length = n := by rfl) (hst : (assignEach es X.env).findIdx? (·.1) = none := by rfl) : FGx X H0 (.Tuple es k pos) sl (gT n g) :=
  PG.imp (pg_tup hc h hn hst) fun v σ H Q ⟨env, d, er, rp, q⟩ => by
    cases d with
    | tuple ds =>
      cases rp with
      | tup h1 h2 =>
        have q : (match (if ds.length = n then g ds env else none) with
          | some e' => ∀ σ', ER X.K H0 e' σ' H → SbS env e' σ σ' H → (∀ vs : List Nat, (∀ i ∈ sl, i ∈ vs) → wipe σ' vs = wipe σ vs) → Q σ' H
          | none => False) := q
        by_cases hl : ds.length = n
        · rw [if_pos hl] at q
          exact ⟨_, _, rfl, h1, by rw [h2.len]; exact hl, env, ds, er, h2, q⟩
        · rw [if_neg hl] at q; exact q.elim
    | _ => exact q.elim
/-- a, b = e, e a tuple (not a display) -/
def sAsgG (g : GS) (f : SE) : SS := fun e => (f e).bind fun v e1 => match v.take e1 with
  | some (d, e2) => match g d e2 with
    | some e3 => .ok .nx e3
    | none => .bad
  | none => .bad
theorem fs_asg {tg ex : Expr} {f : SE} {g : GS} {sl : List Nat} {pos : Pos} (he : FEx X H0 W ex f) (hg : FGx X H0 tg sl g) (hs : swapsWithSole [tg] ex pos.line X.env = pure false := by rfl) (hw : swappedStores [tg] ex X.env = pure none := by rfl)
    (h1 : (assignEach [tg] X.env).map (·.2) = [assign tg X.env] := by rfl) : FSx X H0 W (.Assign [tg] ex pos) (sAsgG g f) :=
  PS.imp (ps_asg (PE.vs he) hg hs hw h1) fun D σ H h => tE_bindS h fun env e1 v x H1 er er1 st sb vr q => by
    cases ht : v.take e1 with
    | none => rw [ht] at q; exact q.elim
    | some p =>
      obtain ⟨d, e2⟩ := p
      rw [ht] at q
      refine take_vs er1 vr (fun d' a ev ex z => ?_) ht fun H2 st2 sta er2 sb2 rp => ?_
      · subst ev; subst ex
        obtain ⟨b, eb, n, _⟩ := vr
        cases eb
        exact VR.none_oa er n (sb.oa z)
      · refine ⟨e2, d, er2, rp, ?_⟩
        have st' : Step (OA env σ) H H2 := st.trans st2 fun b z => by
          rcases z with z | ⟨d', ev, ex⟩
          · exact .inl (sb.oa z)
          · subst ev; subst ex
            obtain ⟨b', eb, n, _⟩ := vr
            cases eb
            exact .inr n
        have q : pS X H0 W env σ H D (match g d e2 with
          | some e3 => .ok .nx e3
          | none => .bad) := q
        cases hgd : g d e2 with
        | none => rw [hgd] at q; exact q.elim
        | some e3 =>
          rw [hgd] at q
          exact fun σ' er' sb' _ => q σ' H2 st' er' ((sb.trans sb2).sbs.trans st' sb')

/-! ### what is walked -/
structure Wk (K : PySem.W.Frag) (J : It) (ds : List D) (H : Hp) : Prop where
  ex : ∃ (G : Hp → Prop) (Y : Nat → Hp → V → Hp → Prop), Walk J ds.length G Y ∧ G H ∧ (∀ H H', G H → Stab H H' → G H') ∧
    ∀ i H v H', i < ds.length → G H → Y i H v H' → Step (fun _ => False) H H' ∧ ∃ d, ds[i]? = some d ∧ Rp K H' v d
abbrev SI := En → R (List D)
def pI (X : Cx) (H0 : Gh) (W : WX) (env : En) (σ : L2.St) (H : Hp) (Rr : It → Hp → Prop) : R (List D) → Prop
  | .ok ds e' => ∀ J H', Step (OA env σ) H H' → ER X.K H0 e' σ H' → Sb env e' → Wk X.K J ds H' → Rr J H'
  | .exc xc e' => PExc X H0 W env σ H xc e'
  | .bad => False
def tI (X : Cx) (H0 : Gh) (W : WX) (f : SI) : TI := fun σ H Rr => ∃ env, ER X.K H0 env σ H ∧ pI X H0 W env σ H Rr (f env)
abbrev FIx (X : Cx) (H0 : Gh) (W : WX) (tg it : Expr) (f : SI) : Prop := PI X tg it (tI X H0 W f)
theorem PI.imp {tg it : Expr} {t t' : TI} (h : PI X tg it t) (i : ∀ σ H Q, t' σ H Q → t σ H Q) : PI X tg it t' := ⟨fun pins s σ H Rr I w => h.run pins s σ H Rr I (i _ _ _ w)⟩
/-- a list or a tuple -/
def iSeq (K : PySem.W.Frag) (tl : TE) : TI := fun σ H Rr => tl σ H fun x H1 => ∃ a, x = .ref a ∧ ((∃ xs, SqL K H1 a xs ∧ Rr (Itl K a) H1) ∨ (∃ xs, SqT K H1 a xs ∧ Rr (Itt K a) H1))
theorem pi_seq {tg l : Expr} {tl : TE} (hl : PE X l tl) : PI X tg l (iSeq X.K tl) := by
  refine ⟨fun pins s σ H Rr I h => ?_⟩
  refine thn (hl.run pins s σ H _ I h) fun v s1 ⟨x, H1, I1, r1, q1⟩ => ?_
  obtain ⟨a, e, ⟨xs, hq, q⟩ | ⟨xs, hq, q⟩⟩ := q1
  · subst e
    cases r1
    obtain ⟨its, rv, p, hz⟩ := I1.list hq
    refine wpAny_pyIter_list p.isList ?_
    refine ⟨s1.heap.objs.size, [s1.heap.objs.size], _, _, H1, rfl, I1.kept (t' := s1.toks) fun b o e => Heap.get?_push_of_some _ e, turn_list a _, ⟨_, Heap.get?_push_size _ rfl, rfl, rfl⟩, fun b hb => ?_, q⟩
    have e : b = s1.heap.objs.size := by simpa using hb
    subst e
    exact I1.fpOk (Nat.le_refl _) (I1.hok.fresh (Nat.le_refl _))
  · subst e
    cases r1
    obtain ⟨its, rv, p, hz⟩ := I1.tuple hq
    refine wpAny_pyIter_tuple (show s1.heap.IsTuple a its.toArray from p) ?_
    refine ⟨s1.heap.objs.size, [s1.heap.objs.size], _, _, H1, rfl, I1.kept (t' := s1.toks) fun b o e => Heap.get?_push_of_some _ e, turn_tuple a _, ⟨_, Heap.get?_push_size _ rfl, rfl, rfl⟩, fun b hb => ?_, q⟩
    have e : b = s1.heap.objs.size := by simpa using hb
    subst e
    exact I1.fpOk (Nat.le_refl _) (I1.hok.fresh (Nat.le_refl _))
def iS (f : SE) : SI := fun e => (f e).bind fun v e1 => match v.take e1 with
  | some (.list ds, e2) => .ok ds e2
  | some (.tuple ds, e2) => .ok ds e2
  | _ => .bad
theorem wk_lst {a : Addr} {xs : List V} {ds : List D} (h : LstZ K H a xs) (r : RpAll K H xs ds) : Wk K (Itl K a) ds H :=
  ⟨fun H => LstZ K H a xs ∧ RpAll K H xs ds, YAt xs, by rw [← r.len]; exact walk_list.mono (fun H h => h.1.sq) fun _ _ _ _ _ _ y => y, ⟨h, r⟩, fun H H' g s => ⟨g.1.stab s, g.2.stab s⟩, fun i H v H' hi g y => by
    obtain ⟨e, y⟩ := y
    subst e
    obtain ⟨d, e1, e2⟩ := g.2.get' y
    exact ⟨.refl _ _, d, e1, e2⟩⟩
theorem wk_tup {a : Addr} {xs : List V} {ds : List D} (h : SqT K H a xs) (r : RpAll K H xs ds) : Wk K (Itt K a) ds H :=
  ⟨fun H => SqT K H a xs ∧ RpAll K H xs ds, YAt xs, by rw [← r.len]; exact walk_tup.mono (fun H h => h.1) fun _ _ _ _ _ _ y => y, ⟨h, r⟩, fun H H' g s => ⟨sqT_stab s g.1, g.2.stab s⟩, fun i H v H' hi g y => by
    obtain ⟨e, y⟩ := y
    subst e
    obtain ⟨d, e1, e2⟩ := g.2.get' y
    exact ⟨.refl _ _, d, e1, e2⟩⟩
/-- an expression, then a walk -/
theorem tE_bindI {f : SE} {g : Vl → En → R (List D)} {Rr : It → Hp → Prop} (h : tI X H0 W (fun e => (f e).bind g) σ H Rr) {Q : VK}
    (i : ∀ env e1 v x H1, ER X.K H0 env σ H → ER X.K H0 e1 σ H1 → Step (OA env σ) H H1 → Sb env e1 → VR X.K σ H H1 v x → pI X H0 W env σ H Rr (g v e1) → Q x H1) : tE X H0 W f σ H Q := by
  obtain ⟨env, er, q⟩ := h
  refine ⟨env, er, ?_⟩
  have q : pI X H0 W env σ H Rr ((f env).bind g) := q
  cases hf : f env with
  | bad => rw [hf] at q; exact q
  | exc xc e' => rw [hf] at q; exact q
  | ok v e' =>
    rw [hf] at q
    exact fun x H1 st er1 sb vr => i env e' v x H1 er er1 st sb vr q
theorem take_go {v : Vl} {x : V} {d : D} {Q : Hp → Prop} (er : ER X.K H0 env σ H) (er1 : ER X.K H0 e1 σ H1) (st : Step (OA env σ) H H1) (sb : Sb env e1) (vr : VR X.K σ H H1 v x) (ht : v.take e1 = some (d, e2))
    (q : ∀ H2, Step (OA env σ) H H2 → ER X.K H0 e2 σ H2 → Sb env e2 → Rp X.K H2 x d → Q H2) : Vs X σ Q H1 := by
  refine take_vs er1 vr (fun d' a ev ex z => ?_) ht fun H2 st2 sta er2 sb2 rp => ?_
  · subst ev; subst ex
    obtain ⟨b, eb, n, _⟩ := vr
    cases eb
    exact VR.none_oa er n (sb.oa z)
  · refine q H2 (st.trans st2 fun b z => ?_) er2 (sb.trans sb2) rp
    rcases z with z | ⟨d', ev, ex⟩
    · exact .inl (sb.oa z)
    · subst ev; subst ex
      obtain ⟨b', eb, n, _⟩ := vr
      cases eb
      exact .inr n
theorem fi_seq {tg it : Expr} {f : SE} (h : FEx X H0 W it f) : FIx X H0 W tg it (iS f) :=
  PI.imp (pi_seq (PE.vs h)) fun σ H Rr hq => tE_bindI hq fun env e1 v x H1 er er1 st sb vr q => by
    cases ht : v.take e1 with
    | none => rw [ht] at q; exact q.elim
    | some p =>
      obtain ⟨d, e2⟩ := p
      rw [ht] at q
      refine take_go er er1 st sb vr ht fun H2 st2 er2 sb2 rp => ?_
      cases d with
      | list ds =>
        cases rp with
        | lst h1 h2 => exact ⟨_, rfl, .inl ⟨_, h1.sq, q _ H2 st2 er2 sb2 (wk_lst h1 h2)⟩⟩
      | tuple ds =>
        cases rp with
        | tup h1 h2 => exact ⟨_, rfl, .inr ⟨_, h1, q _ H2 st2 er2 sb2 (wk_tup h1 h2)⟩⟩
      | _ => exact q.elim
/-- range(n), range(a, b) -/
def intsD (lo : Int) (n : Nat) : List D := (List.range n).map fun k => .int (lo + (k : Nat))
theorem intsD_len {lo : Int} {n : Nat} : (intsD lo n).length = n := by unfold intsD; simp
theorem wk_rng {lo : Int} {n : Nat} : Wk K (Itr lo n) (intsD lo n) H :=
  ⟨fun _ => True, YFn fun i => .int (lo + i), by rw [intsD_len]; exact walk_range, trivial, fun _ _ _ _ => trivial, fun i H v H' hi _ y => by
    obtain ⟨e, y⟩ := y
    subst e; subst y
    rw [intsD_len] at hi
    refine ⟨.refl _ _, .int (lo + (i : Nat)), ?_, .int _⟩
    unfold intsD
    rw [List.getElem?_map, List.getElem?_range hi]
    rfl⟩
def iR1 (f : SE) : SI := fun e => (f e).bind fun v e1 => match v.get e1 with
  | some (.int j) => if -(2 ^ 62) ≤ j ∧ j < 2 ^ 62 then .ok (intsD 0 j.toNat) e1 else .bad
  | _ => .bad
theorem fi_r1 {tg a : Expr} {f : SE} {p pos : Pos} (hg : Gl X "range") (hm : X.mg "range" = none) (h : FEx X H0 W a f) (hs : starEach [a] X.env = [(false, eval a X.env)] := by rfl) : FIx X H0 W tg (.Call (.Name "range" p) [a] [] pos) (iR1 f) :=
  PI.imp (pi_range1 hg hm (pa_cons h pa_nil (by rw [hs]; rfl)) hs) fun σ H Rr hq => tE_bindI hq fun env e1 v x H1 er er1 st sb vr q => by
    cases hgv : v.get e1 with
    | none => rw [hgv] at q; exact q.elim
    | some d =>
      rw [hgv] at q
      cases d with
      | int j =>
        simp only at q
        split at q
        · rename_i hb
          refine ⟨j, by rw [(vr.vd er1 hgv).int], hb.1, hb.2, q _ H1 st er1 sb wk_rng⟩
        · exact q.elim
      | _ => exact q.elim
def iR2 (f g : SE) : SI := fun e => (f e).bind fun v e1 => (g e1).bind fun w e2 => match v.get e2, w.get e2 with
  | some (.int i), some (.int j) => if (-(2 ^ 62) ≤ i ∧ i < 2 ^ 62) ∧ -(2 ^ 62) ≤ j ∧ j < 2 ^ 62 then .ok (intsD i (j - i).toNat) e2 else .bad
  | _, _ => .bad

/-! ### for -/
def sLoop (g : GS) (b : SS) : List D → SS
  | [] => fun e => .ok .nx e
  | d :: ds => fun e => match g d e with
    | none => .bad
    | some e1 => match b e1 with
      | .ok .nx e2 => sLoop g b ds e2
      | .ok .ct e2 => sLoop g b ds e2
      | .ok .bk e2 => .ok .nx e2
      | r => r
def sFor (i : SI) (g : GS) (b : SS) : SS := fun e => (i e).bind fun ds e1 => sLoop g b ds e1
theorem fs_for {tg it : Expr} {body : List Stmt} {fi : SI} {g : GS} {sl : List Nat} {fb : SS} {pos : Pos} (hp : PassesOwn (model X.prog X.w) X.A X.env X.xe) (hc : X.calm = true) (hi : FIx X H0 W tg it fi) (hg : FGx X H0 tg sl g) (hb : FBx X H0 W body fb)
    (hs : ∀ x, foldedSetIterable it X.env x = pure x := by intro _; rfl) : FSx X H0 W (.For tg it body [] pos) (sFor fi g fb) :=
  PS.imp (ps_for hp hc hi hg hb hs) fun D σ H ⟨env, er, q⟩ => by
    refine ⟨env, er, ?_⟩
    have q : pS X H0 W env σ H D ((fi env).bind fun ds e1 => sLoop g fb ds e1) := q
    cases hf : fi env with
    | bad => rw [hf] at q; exact q
    | exc xc e' =>
      rw [hf] at q
      exact fun cls dd H1 st er1 sb xr => q cls dd σ H1 st er1 sb.sbs xr
    | ok ds e1 =>
      rw [hf] at q
      intro J H1 st er1 sb wk
      obtain ⟨G, Y, w, g0, gs, gy⟩ := wk.ex
      refine for_it w (fun i σ' H' => tS X H0 W (sLoop g fb (ds.drop i)) D σ' H' ∧ G H') ⟨⟨e1, er1, pS_later st sb.sbs q⟩, g0⟩ (fun i σ' H' _ h => h.2) (fun i x σ2 H2 H3 hlt h y => ?_) fun σ2 H2 h => ?_
      · obtain ⟨⟨e2, er2, q2⟩, g2⟩ := h
        obtain ⟨s3, d, hd, rp⟩ := gy i H2 x H3 hlt g2 y
        have hdrop : ds.drop i = d :: ds.drop (i + 1) := by
          rw [List.drop_eq_getElem_cons hlt]
          rw [List.getElem?_eq_getElem hlt] at hd
          rw [Option.some.inj hd]
        rw [hdrop] at q2
        have er3 := er2.step0 s3
        refine ⟨e2, d, er3, rp, ?_⟩
        have q2 : pS X H0 W e2 σ2 H2 D (match g d e2 with
          | none => .bad
          | some e1 => match fb e1 with
            | .ok .nx e2 => sLoop g fb (ds.drop (i + 1)) e2
            | .ok .ct e2 => sLoop g fb (ds.drop (i + 1)) e2
            | .ok .bk e2 => .ok .nx e2
            | r => r) := q2
        cases hgd : g d e2 with
        | none => rw [hgd] at q2; exact q2.elim
        | some e3 =>
          rw [hgd] at q2
          intro σ3 er4 sb4 _
          refine ⟨e3, er4, ?_⟩
          have s23 : Step (OA e2 σ2) H2 H3 := s3.imp fun _ z => z.elim
          have sb4' : SbS e2 e3 σ2 σ3 H2 := (SbS.refl (H := H2)).trans s23 sb4
          have q3 : pS X H0 W e3 σ3 H3 D (match fb e3 with
            | .ok .nx e2 => sLoop g fb (ds.drop (i + 1)) e2
            | .ok .ct e2 => sLoop g fb (ds.drop (i + 1)) e2
            | .ok .bk e2 => .ok .nx e2
            | r => r) := pS_later s23 sb4' q2
          have gk : ∀ {σ' : L2.St} {H' : Hp}, Step (OA e3 σ3) H3 H' → G H' := fun {σ' H'} s => gs H3 H' (gs H2 H3 g2 (stab_step0 s3)) (s.stab er4)
          cases hb' : fb e3 with
          | bad => rw [hb'] at q3; exact q3
          | exc xc e' => rw [hb'] at q3; exact q3
          | ok fl e' =>
            rw [hb'] at q3
            cases fl with
            | nx => exact fun σ' H' st' er' sb' => ⟨⟨e', er', pS_later st' sb' q3⟩, gk (σ' := σ') st'⟩
            | ct => exact fun σ' H' st' er' sb' => ⟨⟨e', er', pS_later st' sb' q3⟩, gk (σ' := σ') st'⟩
            | bk => exact q3
            | rt v => exact q3
      · obtain ⟨⟨e2, er2, q2⟩, _⟩ := h
        rw [List.drop_length] at q2
        exact q2 σ2 H2 (.refl _ _) er2 .refl
end
end FE
end
section
set_option Elab.async false
set_option linter.all false
set_option maxRecDepth 100000
namespace FE
open PySem PySem.Spec PyProof.Rows L2
section
variable {X : Cx} {K : PySem.W.Frag} {H0 : Gh} {Hs H H' H1 H2 : Hp} {W : WX} {env e e1 e2 : En} {σ σ' σ1 : L2.St}

/-! ### a block's own names -/
def wipeE (e : En) : List Nat → En
  | [] => e
  | i :: is => (wipeE e is).set i .un
def restE (e0 e : En) : List Nat → En
  | [] => e
  | i :: is => match e0[i]? with
    | some s => (restE e0 e is).set i s
    | none => restE e0 e is
theorem wipeE_len : ∀ {is : List Nat}, (wipeE e is).length = e.length
  | [] => rfl
  | i :: is => by unfold wipeE; rw [List.length_set, wipeE_len]
theorem restE_len : ∀ {is : List Nat}, (restE e1 e is).length = e.length
  | [] => rfl
  | i :: is => by
    unfold restE
    cases e1[i]? with
    | none => exact restE_len
    | some s => show ((restE e1 e is).set i s).length = _; rw [List.length_set, restE_len]
theorem wipeE_out {j : Nat} : ∀ {is : List Nat}, j ∉ is → (wipeE e is)[j]? = e[j]?
  | [], _ => rfl
  | i :: is, h => by
    unfold wipeE
    rw [List.getElem?_set_ne (fun z => h (by rw [z]; exact List.mem_cons_self))]
    exact wipeE_out fun z => h (List.mem_cons_of_mem _ z)
theorem wipeE_in {j : Nat} {s : Slot} : ∀ {is : List Nat}, j ∈ is → (wipeE e is)[j]? = some s → s = .un
  | i :: is, h, q => by
    unfold wipeE at q
    by_cases z : i = j
    · subst z
      have hl := (List.getElem?_eq_some_iff.mp q).1
      rw [List.length_set] at hl
      rw [List.getElem?_set_self hl] at q
      exact (Option.some.inj q).symm
    · rw [List.getElem?_set_ne z] at q
      rcases List.mem_cons.mp h with y | y
      · exact absurd y.symm z
      · exact wipeE_in y q
theorem restE_out {j : Nat} : ∀ {is : List Nat}, j ∉ is → (restE e1 e is)[j]? = e[j]?
  | [], _ => rfl
  | i :: is, h => by
    have hn : j ∉ is := fun z => h (List.mem_cons_of_mem _ z)
    unfold restE
    cases e1[i]? with
    | none => exact restE_out hn
    | some s =>
      show ((restE e1 e is).set i s)[j]? = _
      rw [List.getElem?_set_ne (fun z => h (by rw [z]; exact List.mem_cons_self))]
      exact restE_out hn
theorem restE_in {j : Nat} (hl : e1.length = e.length) : ∀ {is : List Nat}, j ∈ is → (restE e1 e is)[j]? = e1[j]?
  | i :: is, h => by
    unfold restE
    by_cases z : i = j
    · subst z
      cases hq : e1[i]? with
      | none =>
        have : e1.length ≤ i := List.getElem?_eq_none_iff.mp hq
        exact List.getElem?_eq_none_iff.mpr (by rw [restE_len]; omega)
      | some s =>
        show ((restE e1 e is).set i s)[i]? = _
        have := (List.getElem?_eq_some_iff.mp hq).1
        rw [List.getElem?_set_self (by rw [restE_len]; omega)]
    · have hm : j ∈ is := by
        rcases List.mem_cons.mp h with y | y
        · exact absurd y.symm z
        · exact y
      cases e1[i]? with
      | none => exact restE_in hl hm
      | some s =>
        show ((restE e1 e is).set i s)[j]? = _
        rw [List.getElem?_set_ne z]
        exact restE_in hl hm
theorem ER.wiped (er : ER K H0 e σ H) : ∀ {is : List Nat}, ER K H0 (wipeE e is) (wipe σ is) H
  | [] => er
  | i :: is => (ER.wiped er (is := is)).setUn none
theorem oa_wipe {is : List Nat} {a : Addr} (h : OA (wipeE e is) (wipe σ is) a) : OA e σ a := by
  obtain ⟨i, s, h1, h2, h3⟩ := h
  by_cases hi : i ∈ is
  · have := wipeE_in hi h1
    subst this; exact absurd rfl h2
  · rw [wipeE_out hi] at h1
    rw [wipe_out hi] at h3
    exact ⟨i, s, h1, h2, h3⟩
/-- behind the block -/
theorem ER.rest {is : List Nat} (er1 : ER K H0 e1 σ H1) (er2 : ER K H0 e2 (wipe σ is) H2) (sb : Sb (wipeE e1 is) e2) (st : Step (OA (wipeE e1 is) (wipe σ is)) H1 H2) : ER K H0 (restE e1 e2 is) σ H2 ∧ Sb e1 (restE e1 e2 is) := by
  have ll : e1.length = e2.length := by rw [sb.len, wipeE_len]
  have stb : Stab H1 H2 := st.stab er1.wiped
  have get : ∀ (j : Nat) s, (restE e1 e2 is)[j]? = some s → (j ∈ is ∧ e1[j]? = some s) ∨ (j ∉ is ∧ e2[j]? = some s) := fun j s h => by
    by_cases hj : j ∈ is
    · rw [restE_in ll hj] at h; exact .inl ⟨hj, h⟩
    · rw [restE_out hj] at h; exact .inr ⟨hj, h⟩
  have e2own : ∀ (j : Nat) s, j ∉ is → e2[j]? = some s → s.own? ≠ none → ∃ t, e1[j]? = some t ∧ t.own? ≠ none := fun j s hj h ho => by
    obtain ⟨t, h1, h2⟩ := sb.le j s h
    rw [wipeE_out hj] at h1
    exact ⟨t, h1, h2.own ho⟩
  refine ⟨⟨by rw [restE_len, ← ll]; exact er1.len, fun j s d h1 h2 => ?_, fun j s d h1 h2 => ?_, fun i j s t a h1 h2 h3 h4 h5 h6 => ?_, fun j d a h1 h2 => ?_, er2.mono, fun j h1 => ?_⟩, ⟨by rw [restE_len, ll], fun j s h => ?_⟩⟩
  · rcases get j s h1 with ⟨hj, q⟩ | ⟨hj, q⟩
    · obtain ⟨v, h3, h4⟩ := er1.fz j s d q h2
      exact ⟨v, h3, h4.stab stb⟩
    · obtain ⟨v, h3, h4⟩ := er2.fz j s d q h2
      rw [wipe_out hj] at h3
      exact ⟨v, h3, h4⟩
  · rcases get j s h1 with ⟨hj, q⟩ | ⟨hj, q⟩
    · obtain ⟨a, h3, h4⟩ := er1.ow j s d q h2
      refine ⟨a, h3, h4.stab stb fun o ho => st.keep a _ ho (nt := nt_lst) fun ⟨i, t, p1, p2, p3⟩ => ?_⟩
      by_cases hi : i ∈ is
      · have := wipeE_in hi p1
        subst this; exact p2 rfl
      · rw [wipeE_out hi] at p1
        rw [wipe_out hi] at p3
        have := er1.inj i j t s a p1 q p2 (by rw [h2]; intro z; cases z) p3 h3
        subst this
        exact hi hj
    · obtain ⟨a, h3, h4⟩ := er2.ow j s d q h2
      rw [wipe_out hj] at h3
      exact ⟨a, h3, h4⟩
  · have g : ∀ (j : Nat) s, (restE e1 e2 is)[j]? = some s → s.own? ≠ none → ∃ t, e1[j]? = some t ∧ t.own? ≠ none := fun j s h ho => by
      rcases get j s h with ⟨hj, q⟩ | ⟨hj, q⟩
      · exact ⟨s, q, ho⟩
      · exact e2own j s hj q ho
    obtain ⟨u, p1, p2⟩ := g i s h1 h3
    obtain ⟨w, q1, q2⟩ := g j t h2 h4
    exact er1.inj i j u w a p1 q1 p2 q2 h5 h6
  · rcases get j _ h1 with ⟨hj, q⟩ | ⟨hj, q⟩
    · exact er1.new j d a q h2
    · rw [← wipe_out hj] at h2; exact er2.new j d a q h2
  · rcases get j _ h1 with ⟨hj, q⟩ | ⟨hj, q⟩
    · exact er1.ex j q
    · rw [← wipe_out hj]; exact er2.ex j q
  · rcases get j s h with ⟨hj, q⟩ | ⟨hj, q⟩
    · exact ⟨s, q, .same s⟩
    · obtain ⟨t, h1, h2⟩ := sb.le j s q
      rw [wipeE_out hj] at h1
      exact ⟨t, h1, h2⟩
/-- a turn's target stores to the block's own names; they are wiped again -/
theorem ER.again {is : List Nat} {σ2 : L2.St} (er : ER K H0 e σ2 H) (w : wipe σ2 is = wipe σ is) : ER K H0 (wipeE e is) (wipe σ is) H := by
  rw [← w]; exact er.wiped

/-! ### comprehensions -/
/-- one item -/
def cItem (t : ST) (f : SE) (acc : List D) (e : En) : R (List D) := (t e).bind fun b e2 => match b with
  | false => .ok acc e2
  | true => (f e2).bind fun v e3 => match v.take e3 with
    | some (x, e4) => .ok (acc ++ [x]) e4
    | none => .bad
/-- some items, what is done with each told by k -/
def cLoop (g : GS) (own : List Nat) (k : List D → En → R (List D)) : List D → List D → En → R (List D)
  | [], acc, e => .ok acc e
  | d :: ds, acc, e => match g d e with
    | none => .bad
    | some e1 => (k acc e1).bind fun acc' e2 => cLoop g own k ds acc' (wipeE e2 own)
def eComp (i : SI) (g : GS) (own : List Nat) (t : ST) (f : SE) : SE := fun e => (i e).bind fun ds e1 => if ds.length ≤ 1000000 then match cLoop g own (cItem t f) ds [] (wipeE e1 own) with
    | .ok acc e2 => .ok (.fr (.list acc)) (restE e1 e2 own)
    | _ => .bad
  else .bad
abbrev WF : WX := fun _ _ _ _ => False
structure PTsI (X : Cx) (ifs : List Expr) (t : TT) : Prop where
  h : PTs X ifs t
def tYesS : ST := fun e => .ok true e
theorem PTs.imp {ifs : List Expr} {t t' : TT} (h : PTs X ifs t) (i : ∀ σ H Q, t' σ H Q → t σ H Q) : PTs X ifs t' := ⟨fun pins s σ H Q I w => h.run pins s σ H Q I (i _ _ _ w)⟩
theorem fts_nil : PTs X [] (tT X H0 W tYesS) := PTs.imp pts_nil fun σ H Q h => tT_ret h
theorem fts_one {c : Expr} {f : ST} (h : FTx X H0 W c f) : PTs X [c] (tT X H0 W f) := pts_one h
theorem sl6 : 1000000 < sizeLine := by decide
theorem cItem_len {t : ST} {f : SE} {acc acc' : List D} {e e' : En} (h : cItem t f acc e = .ok acc' e') : acc'.length ≤ acc.length + 1 := by
  unfold cItem at h
  cases ht : t e with
  | bad => rw [ht] at h; cases h
  | exc x e2 => rw [ht] at h; cases h
  | ok b e2 =>
    rw [ht] at h
    cases b with
    | false => cases h; omega
    | true =>
      simp only [R.bind_ok] at h
      cases hf : f e2 with
      | bad => rw [hf] at h; cases h
      | exc x e2 => rw [hf] at h; cases h
      | ok v e3 =>
        rw [hf] at h
        simp only [R.bind_ok] at h
        cases hv : v.take e3 with
        | none => rw [hv] at h; cases h
        | some p =>
          rw [hv] at h
          cases h
          simp
/-- the state of a block between turns: the list at Dd so far, the block's slots -/
structure BkR (K : PySem.W.Frag) (H0 : Gh) (e0 : En) (σ : L2.St) (own : List Nat) (H1 : Hp) (Dd : Addr) (acc : List D) (e' : En) (H' : Hp) : Prop where
  er : ER K H0 e' (wipe σ own) H'
  st : Step (OA (wipeE e0 own) (wipe σ own)) H1 H'
  sb : Sb (wipeE e0 own) e'
  at_ : ∃ xs, H' Dd = some (.lst xs) ∧ RpAll K H' xs acc
structure GIn (sl : List Nat) (g : GS) : Prop where
  h : ∀ d e e', g d e = some e' → e'.length = e.length ∧ ∀ j, j ∉ sl → e'[j]? = e[j]?
structure GsIn (sl : List Nat) (g : GsS) : Prop where
  h : ∀ d e e', g d e = some e' → e'.length = e.length ∧ ∀ j, j ∉ sl → e'[j]? = e[j]?
theorem gin_name {i : Nat} : GIn [i] (gN i) := ⟨fun d e e' h => by
  cases h
  exact ⟨by rw [List.length_set], fun j hj => List.getElem?_set_ne fun z => hj (by rw [z]; simp)⟩⟩
theorem gsin_nil : GsIn [] gsN := ⟨fun d e e' h => by
  unfold gsN at h
  cases d with
  | nil => cases h; exact ⟨rfl, fun _ _ => rfl⟩
  | cons _ _ => cases h⟩
theorem gsin_cons {g : GS} {r : GsS} {sl sl2 : List Nat} (h1 : GIn sl g) (h2 : GsIn sl2 r) : GsIn (sl ++ sl2) (gsC g r) := ⟨fun ds e e' h => by
  unfold gsC at h
  cases ds with
  | nil => cases h
  | cons d ds =>
    simp only at h
    cases hg : g d e with
    | none => rw [hg] at h; cases h
    | some e1 =>
      rw [hg] at h
      obtain ⟨l1, k1⟩ := h1.h d e e1 hg
      obtain ⟨l2, k2⟩ := h2.h ds e1 e' h
      exact ⟨l2.trans l1, fun j hj => (k2 j fun z => hj (List.mem_append_right _ z)).trans (k1 j fun z => hj (List.mem_append_left _ z))⟩⟩
theorem gin_tup {n : Nat} {g : GsS} {sl : List Nat} (h : GsIn sl g) : GIn sl (gT n g) := ⟨fun d e e' q => by
  unfold gT at q
  cases d with
  | tuple ds =>
    simp only at q
    split at q
    · exact h.h ds e e' q
    · cases q
  | _ => cases q⟩
theorem wipe_self {σ : L2.St} {vs : List Nat} : wipe (wipe σ vs) vs = wipe σ vs := by
  have : ∀ (us : List Nat), (∀ u ∈ us, u ∈ vs) → wipe (wipe σ vs) us = wipe σ vs := by
    intro us
    induction us with
    | nil => intro _; rfl
    | cons u us ih =>
      intro hu
      show (wipe (wipe σ vs) us).set u none = wipe σ vs
      rw [ih fun z hz => hu z (List.mem_cons_of_mem _ hz)]
      have hm := hu u List.mem_cons_self
      apply List.ext_getElem?
      intro n
      by_cases z : u = n
      · subst z
        by_cases hlt : u < (wipe σ vs).length
        · rw [List.getElem?_set_self hlt]
          cases hq : (wipe σ vs)[u]? with
          | none => rw [List.getElem?_eq_none_iff] at hq; omega
          | some o =>
            cases o with
            | none => rfl
            | some v => exact absurd hm (wipe_some hq).2
        · rw [List.getElem?_eq_none (by rw [List.length_set]; omega), List.getElem?_eq_none (by omega)]
      · rw [List.getElem?_set_ne z]
  exact this vs fun u h => h
theorem stab_upd {a : Addr} {o o' : HO} (h : H a = some o) (n : ¬ Fix o) : Stab H (upd H a o') := fun b u q f => by
  have : b ≠ a := fun z => by rw [z, h] at q; cases q; exact n f
  rw [upd_ne this]; exact q
/-- an object that no slot holds is written -/
theorem ER.outer {a : Addr} {ys : List V} {o' : HO} (er : ER K H0 e σ H) (h : H a = some (.lst ys)) (n : ¬ Fix (.lst ys)) (na : ¬ OA e σ a) : ER K H0 e σ (upd H a o') :=
  ⟨er.len, fun i t d h1 h2 => let ⟨v, h3, h4⟩ := er.fz i t d h1 h2; ⟨v, h3, h4.stab (stab_upd h n)⟩,
    fun i t d h1 h2 => let ⟨b, h3, h4⟩ := er.ow i t d h1 h2; ⟨b, h3, h4.stab (stab_upd h n) fun u q => by
      have : b ≠ a := fun z => na ⟨i, t, h1, (by rw [h2]; intro y; cases y), by rw [h3, z]⟩
      rw [upd_ne this]; exact q⟩, er.inj, er.new, ⟨fun b m => by
      by_cases z : b = a
      · subst z; rw [upd_same]; intro y; cases y
      · rw [upd_ne z]; exact er.mono.up b m, fun p hp => tb_put h _ (er.mono.tb p hp)⟩, er.ex⟩
/-- between the target's store and the next turn -/
structure BkT (K : PySem.W.Frag) (H0 : Gh) (e0 : En) (σ : L2.St) (vs : List Nat) (H1 : Hp) (Dd : Addr) (acc : List D) (σ3 : L2.St) (e : En) (H' : Hp) : Prop where
  er : ER K H0 e σ3 H'
  w : wipe σ3 vs = wipe σ vs
  st : Step (OA (wipeE e0 vs) (wipe σ vs)) H1 H'
  oa : ∀ a, OA e σ3 a → OA (wipeE e0 vs) (wipe σ vs) a ∨ H1 a = none
  nd : ¬ OA e σ3 Dd
  sb : Sb (wipeE e0 vs) (wipeE e vs)
  at_ : ∃ xs, H' Dd = some (.lst xs) ∧ RpAll K H' xs acc
theorem BkT.next {e0 : En} {vs : List Nat} {Dd : Addr} {acc : List D} {σ3 : L2.St} (b : BkT K H0 e0 σ vs H1 Dd acc σ3 e H') : BkR K H0 e0 σ vs H1 Dd acc (wipeE e vs) H' :=
  ⟨b.er.again b.w, b.st, b.sb, b.at_⟩
theorem wipe_sb {vs : List Nat} {e0 ea eb : En} (h : Sb (wipeE e0 vs) (wipeE ea vs)) (s : Sb ea eb) : Sb (wipeE e0 vs) (wipeE eb vs) :=
  h.trans ⟨by rw [wipeE_len, wipeE_len, s.len], fun j u hu => by
    by_cases hj : j ∈ vs
    · have hun := wipeE_in hj hu
      subst hun
      have hlt : j < (wipeE ea vs).length := by
        have h1 := (List.getElem?_eq_some_iff.mp hu).1
        rw [wipeE_len] at h1 ⊢
        rw [← s.len]; exact h1
      have hq := List.getElem?_eq_getElem hlt
      refine ⟨_, hq, ?_⟩
      rw [wipeE_in hj hq]
      exact .same _
    · rw [wipeE_out hj] at hu
      obtain ⟨t, h1, h2⟩ := s.le j u hu
      exact ⟨t, by rw [wipeE_out hj]; exact h1, h2⟩⟩
theorem BkT.go {e0 : En} {vs : List Nat} {Dd : Addr} {acc : List D} {σ3 : L2.St} (b : BkT K H0 e0 σ vs H1 Dd acc σ3 e H') (st : Step (OA e σ3) H' H2) (er : ER K H0 e2 σ3 H2) (sb : Sb e e2) : BkT K H0 e0 σ vs H1 Dd acc σ3 e2 H2 :=
  ⟨er, b.w, b.st.trans st b.oa, fun a h => b.oa a (sb.oa h), fun h => b.nd (sb.oa h), wipe_sb b.sb sb, by
    obtain ⟨xs, h1, h2⟩ := b.at_
    exact ⟨xs, st.keep _ _ h1 b.nd nt_lst, h2.stab (st.stab b.er)⟩⟩
/-- the item goes to the list -/
theorem BkT.app {e0 : En} {vs : List Nat} {Dd : Addr} {acc : List D} {σ3 : L2.St} {y : V} {x : D} (b : BkT K H0 e0 σ vs H1 Dd acc σ3 e H') (hD : H1 Dd = none) (rp : Rp K H' y x) :
    ∃ xs, H' Dd = some (.lst xs) ∧ xs.length = acc.length ∧ BkT K H0 e0 σ vs H1 Dd (acc ++ [x]) σ3 e (upd H' Dd (.lst (xs ++ [y]))) ∧ Stab H' (upd H' Dd (.lst (xs ++ [y]))) := by
  obtain ⟨xs, h1, h2⟩ := b.at_
  have stb : Stab H' (upd H' Dd (.lst (xs ++ [y]))) := stab_upd h1 id
  refine ⟨xs, h1, h2.len, ⟨b.er.outer h1 id b.nd, b.w, ⟨fun c o q n nt => ?_, fun c n => ?_, fun p t => tb_put h1 p (b.st.tb p t)⟩, b.oa, b.nd, b.sb, xs ++ [y], upd_same, (h2.stab stb).app (.cons (rp.stab stb) .nil)⟩, stb⟩
  · have : c ≠ Dd := fun z => by rw [z, hD] at q; cases q
    rw [upd_ne this]; exact b.st.keep c o q n nt
  · by_cases z : c = Dd
    · subst z; exact absurd hD n
    · rw [upd_ne z]; exact b.st.mono c n
/-- the tests and the element of one turn -/
theorem item_ok {e0 : En} {vs : List Nat} {Dd : Addr} {acc acc' : List D} {σ3 : L2.St} {t : ST} {f : SE} {Nx : Hp → Prop} (b : BkT X.K H0 e0 σ vs H1 Dd acc σ3 e H') (hD : H1 Dd = none) (hl : cItem t f acc e = .ok acc' e2) (hsz : acc.length < 1000000)
    (q : ∀ H2, BkT X.K H0 e0 σ vs H1 Dd acc' σ3 e2 H2 → Stab H' H2 → Nx H2) :
    tT X H0 WF t σ3 H' fun b H3 => if b = true then (fun σ H Q => tE X H0 WF f σ H fun v H1 => Vs X σ (Q v) H1) σ3 H3 fun y H4 => ∃ acc, H4 Dd = some (.lst acc) ∧ acc.length < sizeLine ∧ Nx (upd H4 Dd (.lst (acc ++ [y]))) else Nx H3 := by
  refine ⟨e, b.er, ?_⟩
  unfold cItem at hl
  cases ht : t e with
  | bad => rw [ht] at hl; cases hl
  | exc x e3 => rw [ht] at hl; cases hl
  | ok bb e3 =>
    rw [ht] at hl
    intro H3 st3 er3 sb3
    have b3 := b.go st3 er3 sb3
    cases bb with
    | false =>
      rw [if_neg Bool.false_ne_true]
      cases hl
      exact q H3 b3 (st3.stab b.er)
    | true =>
      rw [if_pos rfl]
      simp only [R.bind_ok] at hl
      refine ⟨e3, er3, ?_⟩
      cases hf : f e3 with
      | bad => rw [hf] at hl; cases hl
      | exc x e4 => rw [hf] at hl; cases hl
      | ok v e4 =>
        rw [hf] at hl
        simp only [R.bind_ok] at hl
        intro y H4 st4 er4 sb4 vr
        have b4 := b3.go st4 er4 sb4
        cases hv : v.take e4 with
        | none => rw [hv] at hl; cases hl
        | some p =>
          obtain ⟨x, e5⟩ := p
          rw [hv] at hl
          cases hl
          have hfr : ∀ d' a, v = .fr d' → y = .ref a → H3 a = none := fun d' a ev ex => by
            subst ev; subst ex
            obtain ⟨c, ec, n, _⟩ := vr
            cases ec
            exact n
          refine take_vs er4 vr (fun d' a ev ex z => VR.none_oa er3 (hfr d' a ev ex) (sb4.oa z)) hv fun H5 st5 sta er5 sb5 rp => ?_
          have nD5 : ¬ (OA e4 σ3 Dd ∨ ∃ d', v = .fr d' ∧ y = .ref Dd) := fun z => by
            rcases z with z | ⟨d', ev, ex⟩
            · exact b4.nd z
            · have := hfr d' Dd ev ex
              obtain ⟨xs, h1, _⟩ := b3.at_
              rw [this] at h1; cases h1
          have b5 : BkT X.K H0 e0 σ vs H1 Dd acc σ3 e2 H5 := by
            obtain ⟨xs, h1, h2⟩ := b4.at_
            refine ⟨er5, b4.w, b4.st.trans st5 fun a z => ?_, fun a h => b4.oa a (sb5.oa h), fun h => b4.nd (sb5.oa h), wipe_sb b4.sb sb5, xs, st5.keep _ _ h1 nD5 nt_lst, h2.stab sta⟩
            rcases z with z | ⟨d', ev, ex⟩
            · exact b4.oa a z
            · exact .inr (none_back b3.st (hfr d' a ev ex))
          obtain ⟨xs, h1, hlx, b6, stb⟩ := b5.app hD rp
          have s6 := sl6
          refine ⟨xs, h1, by omega, q _ b6 ?_⟩
          exact (((st3.stab b.er).trans (st4.stab b3.er)).trans sta).trans stb
theorem turn_ok {e0 : En} {vs : List Nat} {Dd : Addr} {acc : List D} {e' : En} {H'' : Hp} {g : GS} {sl : List Nat} {d : D} {x : V} {e3 : En} {σ3 : L2.St} (bk : BkR K H0 e0 σ vs H1 Dd acc e' H') (s3 : Step (fun _ => False) H' H'') (hsl : ∀ i ∈ sl, i ∈ vs) (hgi : GIn sl g) (hgd : g d e' = some e3)
    (hD : ¬ OA e0 σ Dd) (er4 : ER K H0 e3 σ3 H'') (sb4 : SbS e' e3 (wipe σ vs) σ3 H'') (w3 : ∀ us : List Nat, (∀ i ∈ sl, i ∈ us) → wipe σ3 us = wipe (wipe σ vs) us) : BkT K H0 e0 σ vs H1 Dd acc σ3 e3 H'' := by
  have stH : Step (OA (wipeE e0 vs) (wipe σ vs)) H1 H'' := bk.st.trans s3 fun _ z => z.elim
  have oa3 : ∀ a, OA e3 σ3 a → OA (wipeE e0 vs) (wipe σ vs) a ∨ H1 a = none := fun a h => by
    rcases sb4.oa a h with z | z
    · exact .inl (bk.sb.oa z)
    · exact .inr (none_back stH z)
  obtain ⟨xs, h1, h2⟩ := bk.at_
  refine ⟨er4, by rw [w3 vs hsl]; exact wipe_self, stH, oa3, fun h => ?_, ?_, xs, s3.keep _ _ h1 id nt_lst, h2.stab (stab_step0 s3)⟩
  · rcases sb4.oa Dd h with z | z
    · exact hD (oa_wipe (bk.sb.oa z))
    · have := s3.keep Dd _ h1 id nt_lst
      rw [z] at this; cases this
  · obtain ⟨l, k⟩ := hgi.h d e' e3 hgd
    refine ⟨by rw [wipeE_len, wipeE_len, l, bk.sb.len, wipeE_len], fun j u hu => ?_⟩
    by_cases hj : j ∈ vs
    · have hun := wipeE_in hj hu
      subst hun
      have hlt : j < (wipeE e0 vs).length := by
        have h1 := (List.getElem?_eq_some_iff.mp hu).1
        rw [wipeE_len] at h1
        rw [← bk.sb.len, ← l]; exact h1
      have hq := List.getElem?_eq_getElem hlt
      refine ⟨_, hq, ?_⟩
      rw [wipeE_in hj hq]
      exact .same _
    · rw [wipeE_out hj, k j fun z => hj (hsl j z)] at hu
      exact bk.sb.le j u hu
theorem lc_tLc {fi : SI} {g : GS} {sl : List Nat} {t : ST} {f : SE} {vs : List Nat} {Q : VK} (hsl : ∀ i ∈ sl, i ∈ vs) (hgi : GIn sl g) (h : tE X H0 W (eComp fi g vs t f) σ H Q) :
    tLc (tI X H0 W fi) (tG X H0 sl g) (tT X H0 WF t) (fun σ H Q => tE X H0 WF f σ H fun v H1 => Vs X σ (Q v) H1) vs σ H Q := by
    obtain ⟨env, er, q⟩ := h
    refine ⟨env, er, ?_⟩
    have q : pE X H0 W env σ H Q ((fi env).bind fun ds e1 => if ds.length ≤ 1000000 then match cLoop g vs (cItem t f) ds [] (wipeE e1 vs) with
        | .ok acc e2 => .ok (.fr (.list acc)) (restE e1 e2 vs)
        | _ => .bad
      else .bad) := q
    cases hf : fi env with
    | bad => rw [hf] at q; exact q
    | exc xc e' => rw [hf] at q; exact q
    | ok ds e1 =>
      rw [hf] at q
      intro J H1 st er1 sb wk
      intro Dd hD
      simp only [R.bind_ok] at q
      split at q
      · rename_i hlen
        obtain ⟨G, Y, w, g0, gs, gy⟩ := wk.ex
        cases hfin : cLoop g vs (cItem t f) ds [] (wipeE e1 vs) with
        | bad => rw [hfin] at q; exact q.elim
        | exc xc e' => rw [hfin] at q; exact q.elim
        | ok accF eF =>
          rw [hfin] at q
          have notOA : ¬ OA e1 σ Dd := VR.none_oa er1 hD
          have s01 : Step (fun _ => False) H1 (upd H1 Dd (.lst [])) := step0_upd hD
          refine lc_it w (g := tG X H0 sl g) (tt := tT X H0 WF t) (te := fun σ H Q => tE X H0 WF f σ H fun v H1 => Vs X σ (Q v) H1) (vs := vs) (σ := σ) (D := Dd) (Qd := Q (.ref Dd)) (fun i H' => ∃ acc e', BkR X.K H0 e1 σ vs H1 Dd acc e' H' ∧ cLoop g vs (cItem t f) (ds.drop i) acc e' = .ok accF eF ∧ acc.length ≤ i ∧ G H') ?_ (fun i H' _ ⟨_, _, _, _, _, h⟩ => h) (fun i x H' H'' hlt h y => ?_) fun H' h => ?_
          · exact ⟨[], wipeE e1 vs, ⟨(er1.step0 s01).wiped, s01.imp fun _ z => z.elim, .refl _, [], upd_same, .nil⟩, hfin, Nat.zero_le _, gs _ _ g0 (stab_step0 s01)⟩
          · obtain ⟨acc, e', bk, hl, hal, gg⟩ := h
            obtain ⟨s3, d, hd, rp⟩ := gy i H' x H'' hlt gg y
            have hdrop : ds.drop i = d :: ds.drop (i + 1) := by
              rw [List.drop_eq_getElem_cons hlt]
              rw [List.getElem?_eq_getElem hlt] at hd
              rw [Option.some.inj hd]
            rw [hdrop] at hl
            refine ⟨e', d, bk.er.step0 s3, rp, ?_⟩
            have hl : (match g d e' with
              | none => R.bad
              | some e1 => (cItem t f acc e1).bind fun acc' e2 => cLoop g vs (cItem t f) (ds.drop (i + 1)) acc' (wipeE e2 vs)) = .ok accF eF := hl
            cases hgd : g d e' with
            | none => rw [hgd] at hl; cases hl
            | some e3 =>
              rw [hgd] at hl
              intro σ3 er4 sb4 w3
              have b3 := turn_ok (x := x) bk s3 hsl hgi hgd notOA er4 sb4 w3
              refine ⟨b3.w, ?_⟩
              cases hit : cItem t f acc e3 with
              | bad => simp only [hit] at hl; cases hl
              | exc x e4 => simp only [hit] at hl; cases hl
              | ok acc' e4 =>
                simp only [hit, R.bind_ok] at hl
                have hlen' := cItem_len hit
                refine item_ok b3 hD hit (by omega) fun H2 b4 stb => ?_
                exact ⟨acc', wipeE e4 vs, b4.next, hl, by omega, gs _ _ (gs _ _ gg (stab_step0 s3)) stb⟩
          · obtain ⟨acc, e', bk, hl, _, _⟩ := h
            rw [List.drop_length] at hl
            cases hl
            obtain ⟨erR, sbR⟩ := er1.rest bk.er bk.sb bk.st
            obtain ⟨xs, h1, h2⟩ := bk.at_
            exact q (.ref Dd) H' (st.trans bk.st fun b z => .inl (sb.oa (oa_wipe z))) erR (sb.trans sbR) ⟨Dd, rfl, none_back st hD, xs, h1, h2⟩
      · exact q.elim
theorem fe_lc {elt tg it : Expr} {ifs : List Expr} {scope : Scope} {own : List (Str × Nat)} {pos : Pos} {fi : SI} {g : GS} {sl : List Nat} {t : ST} {f : SE} (hc : X.calm = true) (hN : X.N.Nodup) (hi : FIx X H0 W tg it fi) (ok : BlkOk X.N X.env.scope scope own) (hsl : ∀ i ∈ sl, i ∈ own.map (·.2)) (hgi : GIn sl g)
    (hg : ∀ (s : Shared) (H : Hp) (C : Addr) (cl : List (Str × Addr)) (fp : List Addr), FGx (X.blk s H scope (compEnvC scope cl C X.env) fp) H0 tg sl g)
    (ht : ∀ (s : Shared) (H : Hp) (C : Addr) (cl : List (Str × Addr)) (fp : List Addr), PTs (X.blk s H scope (compEnvC scope cl C X.env) fp) ifs (tT (X.blk s H scope (compEnvC scope cl C X.env) fp) H0 WF t))
    (he : ∀ (s : Shared) (H : Hp) (C : Addr) (cl : List (Str × Addr)) (fp : List Addr), FEx (X.blk s H scope (compEnvC scope cl C X.env) fp) H0 WF elt f) (hs : ∀ x, foldedSetIterable it X.env x = pure x := by intro _; rfl) :
    FEx X H0 W (.ListComp elt [⟨tg, it, ifs, 0⟩] scope pos) (eComp fi g (own.map (·.2)) t f) :=
  PE.imp (pe_lc (g := tG X H0 sl g) (tt := tT X H0 WF t) (te := fun σ H Q => tE X H0 WF f σ H fun v H1 => Vs X σ (Q v) H1) hc hN hi ok hg ht (fun s H C cl fp => PE.vs (he s H C cl fp)) hs) fun σ H Q h => lc_tLc hsl hgi h
end
end FE
end
section
set_option Elab.async false
set_option linter.all false
set_option maxRecDepth 100000
namespace FE
open PySem PySem.Spec PyProof.Rows L2
section
variable {X : Cx} {K : PySem.W.Frag} {H0 : Gh} {Hs H H' H1 H2 : Hp} {W : WX} {σ : L2.St}

theorem VDs.one {g : List D → Option (Bool × D)} {xs : List V} {ds : List D} (h : VDs K H xs ds) {x : V} (e : xs = [x]) : ∃ d, ds = [d] ∧ VD K H x d := by
  subst e
  cases h with
  | cons h1 h2 => cases h2; exact ⟨_, rfl, h1⟩
theorem vds1 {x : V} {ds : List D} (h : VDs K H [x] ds) : ∃ d, ds = [d] ∧ VD K H x d := by
  cases h with
  | cons h1 h2 => cases h2; exact ⟨_, rfl, h1⟩
theorem vds2 {x y : V} {ds : List D} (h : VDs K H [x, y] ds) : ∃ d e, ds = [d, e] ∧ VD K H x d ∧ VD K H y e := by
  cases h with
  | cons h1 h2 =>
    cases h2 with
    | cons h2 h3 => cases h3; exact ⟨_, _, rfl, h1, h2⟩
theorem OpC.bl {b : Bool} {Q : VK} (h : OpC K H (false, .bool b) Q) : Q (.bl b) H := h _ H (.refl _ _) (.bl b)
theorem OpC.int {b : Int} {Q : VK} (h : OpC K H (false, .int b) Q) : Q (.int b) H := h _ H (.refl _ _) (.int b)
theorem OpC.str {b : Str} {Q : VK} (h : OpC K H (false, .str b) Q) : Q (.str b) H := h _ H (.refl _ _) (.str b)
theorem OpC.rp {d : D} {v : V} {Q : VK} (h : OpC K H (false, d) Q) (r : Rp K H v d) : Q v H := h _ H (.refl _ _) r
theorem OpC.tup {ds : List D} {xs : List V} {Q : VK} (h : OpC K H (false, .tuple ds) Q) (r : RpAll K H xs ds) : ∀ p, H p = none → Q (.ref p) (upd H p (.tup xs)) := fun p hp =>
  h _ _ (step0_upd hp) (.tup (.of upd_same) (r.stab (stab_step0 (step0_upd hp))))
theorem OpC.lst {ds : List D} {xs : List V} {Q : VK} (h : OpC K H (true, .list ds) Q) (r : RpAll K H xs ds) : ∀ p, H p = none → Q (.ref p) (upd H p (.lst xs)) := fun p hp =>
  h _ _ (step0_upd hp) ⟨p, rfl, hp, xs, upd_same, r.stab (stab_step0 (step0_upd hp))⟩
theorem VD.tupD {x : V} {ds : List D} (h : VD K H x (.tuple ds)) : ∃ a xs, x = .ref a ∧ SqT K H a xs ∧ RpAll K H xs ds ∧ Rp K H x (.tuple ds) := by
  rcases h with h | ⟨a, _, h⟩
  · cases id h with
    | tup h1 h2 => exact ⟨_, _, rfl, h1, h2, h⟩
  · exact h.elim
theorem lim6 {n : Nat} (h : n ≤ 1000000) : n ≤ sizeLine := Nat.le_trans h (by decide)

/-! ### + -/
def gAdd : List D → Option (Bool × D)
  | [.int i, .int j] => some (false, .int (i + j))
  | [.int i, .bool b] => some (false, .int (i + b2i b))
  | [.str x, .str y] => if x.length + y.length ≤ 1000000 then some (false, .str (x ++ y)) else none
  | [.tuple xs, .tuple ys] => if xs.length + ys.length ≤ 1000000 then some (false, .tuple (xs ++ ys)) else none
  | [.list xs, .list ys] => if xs.length + ys.length ≤ 1000000 then some (true, .list (xs ++ ys)) else none
  | _ => none
theorem op_catQ : OpR X (binaryOp .Add) (fun x y H Q => ∃ l b xs zs, x = .ref l ∧ y = .ref b ∧ SqL X.K H l xs ∧ SqL X.K H b zs ∧ xs.length + zs.length ≤ sizeLine ∧ ∀ p, H p = none → Q (.ref p) (upd H p (.lst (xs ++ zs)))) := by
  intro pins s σ H x y v u Q I rx ry h
  obtain ⟨l, b, xs, zs, rfl, rfl, hH, hB, hz, q⟩ := h
  cases rx
  cases ry
  obtain ⟨its, r, p, z⟩ := I.list hH
  obtain ⟨its2, r2, p2, z2⟩ := I.list hB
  obtain ⟨⟨cls, dd, data, sl⟩, ho, hc, n, hd⟩ := p.isList
  obtain ⟨⟨cls2, dd2, data2, sl2⟩, ho2, hc2, n2, hd2⟩ := p2.isList
  simp only at hc hd hc2 hd2
  subst hc hd hc2 hd2
  have l1 := r.length
  have l2 := r2.length
  have ea : its.toArray ++ its2.toArray = (its ++ its2).toArray := by simp
  refine concat_meets ⟨_, ho, rfl⟩ ⟨_, ho2, rfl⟩ noFill_list_add seq_list_add PySem.F.slot_list_add PySem.F.entry_list_add (PySem.F.args_list_add_2 _ _) (list_addW _ _ its.toArray its2.toArray n n2 dd dd2 sl sl2 (by rw [List.size_toArray, List.size_toArray]; omega)) ⟨ho, ho2, ?_⟩
  rw [ea]
  exact ⟨.ref _, _, I.lnew (t' := s.toks) (r.append r2) (by rw [List.length_append]; omega), rfl, q _ I.fresh⟩
theorem ite_some {c : Prop} [Decidable c] {α : Type} {a r : α} (h : (if c then some a else none) = some r) : c ∧ a = r := by
  by_cases hc : c
  · rw [if_pos hc] at h; exact ⟨hc, Option.some.inj h⟩
  · rw [if_neg hc] at h; cases h
theorem or_add : OpR X (binaryOp .Add) (NR2 X.K gAdd) := by
  intro pins s σ H x y v u Q I rx ry h
  obtain ⟨ds, r, vd, hg, oc⟩ := h
  obtain ⟨d, e, eds, h1, h2⟩ := vds2 vd
  subst eds
  cases d with
  | int i =>
    cases e with
    | int j => cases hg; exact op_add pins s σ H x y v u Q I rx ry ⟨i, j, h1.int, h2.int, oc.int⟩
    | bool j => cases hg; exact op_add_ib pins s σ H x y v u Q I rx ry ⟨i, j, h1.int, h2.bl, oc.int⟩
    | _ => cases hg
  | str i =>
    cases e with
    | str j =>
      obtain ⟨hz, er⟩ := ite_some (show (if i.length + j.length ≤ 1000000 then some (false, PyData.str (i ++ j)) else none) = some r from hg)
      subst er
      exact op_add_str pins s σ H x y v u Q I rx ry ⟨i, j, h1.str, h2.str, lim6 hz, oc.str⟩
    | _ => cases hg
  | tuple xs =>
    cases e with
    | tuple ys =>
      obtain ⟨hz, er⟩ := ite_some (show (if xs.length + ys.length ≤ 1000000 then some (false, PyData.tuple (xs ++ ys)) else none) = some r from hg)
      subst er
      obtain ⟨a, us, ea, q1, r1, p1⟩ := h1.tupD
      obtain ⟨b, ws, eb, q2, r2, p2⟩ := h2.tupD
      have l1 := r1.len
      have l2 := r2.len
      refine op_catA pins s σ H x y v u Q I rx ry ⟨a, b, us, ws, ea, eb, q1, q2, lim6 (by omega), fun z => ?_, fun z1 z2 => ?_, fun _ _ => oc.tup (r1.app r2)⟩
      · subst z
        have : xs = [] := List.eq_nil_of_length_eq_zero (by rw [← l1]; rfl)
        subst this
        rw [← eb]
        exact oc.rp p2
      · subst z2
        have : ys = [] := List.eq_nil_of_length_eq_zero (by rw [← l2]; rfl)
        subst this
        rw [List.append_nil] at oc
        rw [← ea]
        exact oc.rp p1
    | _ => cases hg
  | list xs =>
    cases e with
    | list ys =>
      obtain ⟨hz, er⟩ := ite_some (show (if xs.length + ys.length ≤ 1000000 then some (true, PyData.list (xs ++ ys)) else none) = some r from hg)
      subst er
      obtain ⟨a, us, ea, q1, r1⟩ := h1.lst
      obtain ⟨b, ws, eb, q2, r2⟩ := h2.lst
      have l1 := r1.len
      have l2 := r2.len
      exact op_catQ pins s σ H x y v u Q I rx ry ⟨a, b, us, ws, ea, eb, q1, q2, lim6 (by omega), oc.lst (r1.app r2)⟩
    | _ => cases hg
  | _ => cases hg
def gSub : List D → Option (Bool × D)
  | [.int i, .int j] => some (false, .int (i - j))
  | _ => none
def big64 (i : Int) : Bool := decide (-(2 ^ 64) < i) && decide (i < 2 ^ 64)
def gMul : List D → Option (Bool × D)
  | [.int i, .int j] => if (-(2 ^ 64) < i ∧ i < 2 ^ 64) ∨ (-(2 ^ 64) < j ∧ j < 2 ^ 64) then some (false, .int (i * j)) else none
  | [.tuple xs, .int k] => if xs ≠ [] ∧ 2 ≤ k ∧ k ≤ 1000 ∧ xs.length ≤ 1000 then some (false, .tuple (List.replicate k.toNat xs).flatten) else none
  | _ => none
def gMod : List D → Option (Bool × D)
  | [.int i, .int j] => if 0 < j then some (false, .int (i % j)) else none
  | _ => none
def gFdiv : List D → Option (Bool × D)
  | [.int i, .int j] => if 0 < j ∧ j < 1073741824 then some (false, .int (i / j)) else none
  | _ => none
def gPow : List D → Option (Bool × D)
  | [.int i, .int j] => if 0 ≤ j ∧ j ≤ 1000000 ∧ i.natAbs < 2 ^ 64 then some (false, .int (i ^ j.toNat)) else none
  | _ => none
theorem or_sub : OpR X (binaryOp .Sub) (NR2 X.K gSub) := by
  intro pins s σ H x y v u Q I rx ry h
  obtain ⟨ds, r, vd, hg, oc⟩ := h
  obtain ⟨d, e, eds, h1, h2⟩ := vds2 vd
  subst eds
  cases d <;> first | cases hg | skip
  cases e <;> first | cases hg | skip
  exact op_sub pins s σ H x y v u Q I rx ry ⟨_, _, h1.int, h2.int, oc.int⟩
theorem or_mod : OpR X (binaryOp .Mod) (NR2 X.K gMod) := by
  intro pins s σ H x y v u Q I rx ry h
  obtain ⟨ds, r, vd, hg, oc⟩ := h
  obtain ⟨d, e, eds, h1, h2⟩ := vds2 vd
  subst eds
  cases d with
  | int i =>
    cases e with
    | int j =>
      obtain ⟨hz, er⟩ := ite_some (show (if 0 < j then some (false, PyData.int (i % j)) else none) = some r from hg)
      subst er
      exact op_mod pins s σ H x y v u Q I rx ry ⟨_, _, h1.int, h2.int, hz, oc.int⟩
    | _ => cases hg
  | _ => cases hg
theorem or_fdiv : OpR X (binaryOp .FloorDiv) (NR2 X.K gFdiv) := by
  intro pins s σ H x y v u Q I rx ry h
  obtain ⟨ds, r, vd, hg, oc⟩ := h
  obtain ⟨d, e, eds, h1, h2⟩ := vds2 vd
  subst eds
  cases d with
  | int i =>
    cases e with
    | int j =>
      obtain ⟨hz, er⟩ := ite_some (show (if 0 < j ∧ j < 1073741824 then some (false, PyData.int (i / j)) else none) = some r from hg)
      subst er
      exact op_fdiv pins s σ H x y v u Q I rx ry ⟨_, _, h1.int, h2.int, hz, oc.int⟩
    | _ => cases hg
  | _ => cases hg
theorem or_pow : OpR X (binaryOp .Pow) (NR2 X.K gPow) := by
  intro pins s σ H x y v u Q I rx ry h
  obtain ⟨ds, r, vd, hg, oc⟩ := h
  obtain ⟨d, e, eds, h1, h2⟩ := vds2 vd
  subst eds
  cases d with
  | int i =>
    cases e with
    | int j =>
      obtain ⟨hz, er⟩ := ite_some (show (if 0 ≤ j ∧ j ≤ 1000000 ∧ i.natAbs < 2 ^ 64 then some (false, PyData.int (i ^ j.toNat)) else none) = some r from hg)
      subst er
      exact op_pow pins s σ H x y v u Q I rx ry ⟨_, _, h1.int, h2.int, hz, oc.int⟩
    | _ => cases hg
  | _ => cases hg
theorem RpAll.rep {xs : List D} {us : List V} (r : RpAll K H us xs) : ∀ n : Nat, RpAll K H (List.replicate n us).flatten (List.replicate n xs).flatten
  | 0 => .nil
  | n + 1 => by
    rw [List.replicate_succ, List.replicate_succ, List.flatten_cons, List.flatten_cons]
    exact r.app (r.rep n)
theorem or_mul : OpR X (binaryOp .Mult) (NR2 X.K gMul) := by
  intro pins s σ H x y v u Q I rx ry h
  obtain ⟨ds, r, vd, hg, oc⟩ := h
  obtain ⟨d, e, eds, h1, h2⟩ := vds2 vd
  subst eds
  cases d with
  | int i =>
    cases e with
    | int j =>
      obtain ⟨hz, er⟩ := ite_some (show (if (-(2 ^ 64) < i ∧ i < 2 ^ 64) ∨ (-(2 ^ 64) < j ∧ j < 2 ^ 64) then some (false, PyData.int (i * j)) else none) = some r from hg)
      subst er
      exact op_mul pins s σ H x y v u Q I rx ry ⟨_, _, h1.int, h2.int, hz, oc.int⟩
    | _ => cases hg
  | tuple xs =>
    cases e with
    | int k =>
      obtain ⟨⟨z0, z1, z2, z3⟩, er⟩ := ite_some (show (if xs ≠ [] ∧ 2 ≤ k ∧ k ≤ 1000 ∧ xs.length ≤ 1000 then some (false, PyData.tuple (List.replicate k.toNat xs).flatten) else none) = some r from hg)
      subst er
      obtain ⟨a, us, ea, q1, r1⟩ := h1.tup
      have l1 := r1.len
      exact op_repT pins s σ H x y v u Q I rx ry ⟨a, k, us, ea, h2.int, q1, fun z => z0 (List.eq_nil_of_length_eq_zero (by rw [← l1, z]; rfl)), z1, z2, by omega, oc.tup (r1.rep _)⟩
    | _ => cases hg
  | _ => cases hg

/-! ### comparisons -/
def gEq : List D → Option (Bool × D)
  | [d, e] => if SeqAt.shaped d && SeqAt.shaped e then some (false, .bool (PyData.eqv d e)) else none
  | _ => none
def gNe : List D → Option (Bool × D)
  | [d, e] => if SeqAt.shaped d && SeqAt.shaped e then some (false, .bool (!PyData.eqv d e)) else none
  | _ => none
theorem or_eq (hu : X.A.units + 64 < cLine) : OpR X (compareOp .Eq) (NR2 X.K gEq) := by
  intro pins s σ H x y v u Q I rx ry h
  obtain ⟨ds, r, vd, hg, oc⟩ := h
  obtain ⟨d, e, eds, h1, h2⟩ := vds2 vd
  subst eds
  obtain ⟨hz, er⟩ := ite_some (show (if (SeqAt.shaped d && SeqAt.shaped e) = true then some (false, PyData.bool (PyData.eqv d e)) else none) = some r from hg)
  subst er
  obtain ⟨z1, z2⟩ := Bool.and_eq_true_iff.mp hz
  exact op_eqD hu pins s σ H x y v u Q I rx ry ⟨d, e, h1.dp, h2.dp, z1, z2, oc.bl⟩
theorem or_ne (hu : X.A.units + 64 < cLine) : OpR X (compareOp .NotEq) (NR2 X.K gNe) := by
  intro pins s σ H x y v u Q I rx ry h
  obtain ⟨ds, r, vd, hg, oc⟩ := h
  obtain ⟨d, e, eds, h1, h2⟩ := vds2 vd
  subst eds
  obtain ⟨hz, er⟩ := ite_some (show (if (SeqAt.shaped d && SeqAt.shaped e) = true then some (false, PyData.bool (!PyData.eqv d e)) else none) = some r from hg)
  subst er
  obtain ⟨z1, z2⟩ := Bool.and_eq_true_iff.mp hz
  exact op_neD hu pins s σ H x y v u Q I rx ry ⟨d, e, h1.dp, h2.dp, z1, z2, oc.bl⟩
def gCmp (p : Int → Int → Bool) : List D → Option (Bool × D)
  | [.int i, .int j] => some (false, .bool (p i j))
  | _ => none
theorem or_cmp {op : CmpOp} {p : Int → Int → Bool} (ho : OpR X (compareOp op) (rI0 fun i j => .bl (p i j))) : OpR X (compareOp op) (NR2 X.K (gCmp p)) := by
  intro pins s σ H x y v u Q I rx ry h
  obtain ⟨ds, r, vd, hg, oc⟩ := h
  obtain ⟨d, e, eds, h1, h2⟩ := vds2 vd
  subst eds
  cases d <;> first | cases hg | skip
  cases e <;> first | cases hg | skip
  exact ho pins s σ H x y v u Q I rx ry ⟨_, _, h1.int, h2.int, oc.bl⟩
abbrev gLt := gCmp fun i j => decide (i < j)
abbrev gLe := gCmp fun i j => decide (i ≤ j)
abbrev gGt := gCmp fun i j => decide (j < i)
abbrev gGe := gCmp fun i j => decide (j ≤ i)
theorem or_lt : OpR X (compareOp .Lt) (NR2 X.K gLt) := or_cmp op_lt
theorem or_le : OpR X (compareOp .LtE) (NR2 X.K gLe) := or_cmp op_le
theorem or_gt : OpR X (compareOp .Gt) (NR2 X.K gGt) := or_cmp op_gt
theorem or_ge : OpR X (compareOp .GtE) (NR2 X.K gGe) := or_cmp op_ge
def gIn (ng : Bool) : List D → Option (Bool × D)
  | [d, .list ds] => if SeqAt.shaped d && SeqAt.shaped (.list ds) then some (false, .bool (ng ^^ ds.any fun z => PyData.eqv z d)) else none
  | [d, .tuple ds] => if SeqAt.shaped d && SeqAt.shaped (.tuple ds) then some (false, .bool (ng ^^ ds.any fun z => PyData.eqv z d)) else none
  | _ => none
theorem shaped_all {ds : List D} (h : SeqAt.shaped (.tuple ds) = true) : PyData.canLayAll0 ds = true := by
  have := SeqAt.canLay_of_shaped h
  simpa [PyData.canLay0] using this
theorem or_in (hu : X.A.units + 65 < cLine) : OpR X (compareOp .In) (NR2 X.K (gIn false)) := by
  intro pins s σ H x y v u Q I rx ry h
  obtain ⟨ds, r, vd, hg, oc⟩ := h
  obtain ⟨d, e, eds, h1, h2⟩ := vds2 vd
  subst eds
  cases e with
  | list es =>
    obtain ⟨hz, er⟩ := ite_some (show (if (SeqAt.shaped d && SeqAt.shaped (.list es)) = true then some (false, PyData.bool (false ^^ es.any fun z => PyData.eqv z d)) else none) = some r from hg)
    subst er
    obtain ⟨z1, z2⟩ := Bool.and_eq_true_iff.mp hz
    rw [Bool.false_xor] at oc
    exact op_inD hu pins s σ H x y v u Q I rx ry ⟨d, es, h1.dp, h2.dp, z1, z2, oc.bl⟩
  | tuple es =>
    obtain ⟨hz, er⟩ := ite_some (show (if (SeqAt.shaped d && SeqAt.shaped (.tuple es)) = true then some (false, PyData.bool (false ^^ es.any fun z => PyData.eqv z d)) else none) = some r from hg)
    subst er
    obtain ⟨z1, z2⟩ := Bool.and_eq_true_iff.mp hz
    rw [Bool.false_xor] at oc
    obtain ⟨as, r1⟩ := Dp.reads I d x v h1.dp rx
    obtain ⟨bs, r2⟩ := Dp.reads I (.tuple es) y u h2.dp ry
    exact SeqAt.in_tuple_reads r2 r1 (shaped_all z2) (SeqAt.canLay_of_shaped z1) (room_in_shaped z1 hu) ⟨.bl _, H, I, rfl, oc.bl⟩
  | _ => cases d <;> cases hg
theorem or_notin (hu : X.A.units + 65 < cLine) : OpR X (compareOp .NotIn) (NR2 X.K (gIn true)) := by
  intro pins s σ H x y v u Q I rx ry h
  obtain ⟨ds, r, vd, hg, oc⟩ := h
  obtain ⟨d, e, eds, h1, h2⟩ := vds2 vd
  subst eds
  cases e with
  | list es =>
    obtain ⟨hz, er⟩ := ite_some (show (if (SeqAt.shaped d && SeqAt.shaped (.list es)) = true then some (false, PyData.bool (true ^^ es.any fun z => PyData.eqv z d)) else none) = some r from hg)
    subst er
    obtain ⟨z1, z2⟩ := Bool.and_eq_true_iff.mp hz
    rw [Bool.true_xor] at oc
    exact op_notInD hu pins s σ H x y v u Q I rx ry ⟨d, es, h1.dp, h2.dp, z1, z2, oc.bl⟩
  | tuple es =>
    obtain ⟨hz, er⟩ := ite_some (show (if (SeqAt.shaped d && SeqAt.shaped (.tuple es)) = true then some (false, PyData.bool (true ^^ es.any fun z => PyData.eqv z d)) else none) = some r from hg)
    subst er
    obtain ⟨z1, z2⟩ := Bool.and_eq_true_iff.mp hz
    rw [Bool.true_xor] at oc
    obtain ⟨as, r1⟩ := Dp.reads I d x v h1.dp rx
    obtain ⟨bs, r2⟩ := Dp.reads I (.tuple es) y u h2.dp ry
    exact SeqAt.notIn_tuple_reads r2 r1 (shaped_all z2) (SeqAt.canLay_of_shaped z1) (room_in_shaped z1 hu) ⟨.bl _, H, I, rfl, oc.bl⟩
  | _ => cases d <;> cases hg
/-- is None -/
def isNon : D → Bool
  | .none => true
  | _ => false
def gIs : List D → Option (Bool × D)
  | [d, .none] => some (false, .bool (isNon d))
  | [.bool a, .bool b] => some (false, .bool (decide (a = b)))
  | _ => none
def gIsN : List D → Option (Bool × D)
  | [d, .none] => some (false, .bool (!isNon d))
  | [.bool a, .bool b] => some (false, .bool (!decide (a = b)))
  | _ => none
theorem VD.isNon {x : V} {d : D} (h : VD K H x d) : decide (x = .non) = isNon d := by
  cases d with
  | none => rw [h.non]; rfl
  | bool b => rw [h.bl]; rfl
  | int b => rw [h.int]; rfl
  | str b => rw [h.str]; rfl
  | list ds => obtain ⟨a, xs, e, _⟩ := h.lst; rw [e]; rfl
  | tuple ds => obtain ⟨a, xs, e, _⟩ := h.tup; rw [e]; rfl
  | dict kvs =>
    rcases h with h | ⟨a, e, h⟩
    · cases h
    · exact h.elim
theorem or_is : OpR X (compareOp .Is) (NR2 X.K gIs) := by
  intro pins s σ H x y v u Q I rx ry h
  obtain ⟨ds, r, vd, hg, oc⟩ := h
  obtain ⟨d, e, eds, h1, h2⟩ := vds2 vd
  subst eds
  cases e with
  | none =>
    have hg : some (false, PyData.bool (isNon d)) = some r := by cases d <;> exact hg
    cases hg
    exact op_isN pins s σ H x y v u Q I rx ry ⟨h2.non, by rw [h1.isNon]; exact oc.bl⟩
  | bool b =>
    cases d with
    | bool a => cases hg; exact op_isBl pins s σ H x y v u Q I rx ry ⟨a, b, h1.bl, h2.bl, oc.bl⟩
    | _ => cases hg
  | _ => cases d <;> cases hg
theorem or_isnot : OpR X (compareOp .IsNot) (NR2 X.K gIsN) := by
  intro pins s σ H x y v u Q I rx ry h
  obtain ⟨ds, r, vd, hg, oc⟩ := h
  obtain ⟨d, e, eds, h1, h2⟩ := vds2 vd
  subst eds
  cases e with
  | none =>
    have hg : some (false, PyData.bool (!isNon d)) = some r := by cases d <;> exact hg
    cases hg
    exact op_notN pins s σ H x y v u Q I rx ry ⟨h2.non, by rw [h1.isNon]; exact oc.bl⟩
  | bool b =>
    cases d with
    | bool a => cases hg; exact op_notBl pins s σ H x y v u Q I rx ry ⟨a, b, h1.bl, h2.bl, oc.bl⟩
    | _ => cases hg
  | _ => cases d <;> cases hg
def gNeg : List D → Option (Bool × D)
  | [.int i] => some (false, .int (-i))
  | _ => none
theorem ur_neg : UnR X (unaryOp .USub) (NR1 X.K gNeg) := by
  intro pins s σ H x v Q I rx h
  obtain ⟨ds, r, vd, hg, oc⟩ := h
  obtain ⟨d, eds, h1⟩ := vds1 vd
  subst eds
  cases d <;> first | cases hg | skip
  exact un_neg pins s σ H x v Q I rx ⟨_, h1.int, oc.int⟩

/-! ### subscripts -/
def at_ (ds : List D) (i : Int) : Option D := (ixN ds.length i).bind fun j => ds[j]?
def gIx : List D → Option (Bool × D)
  | [.list ds, .int i] => (at_ ds i).map fun d => (false, d)
  | [.tuple ds, .int i] => (at_ ds i).map fun d => (false, d)
  | [.str z, .int i] => if z.length ≤ 1000000 then (atI z.cps.toList i).map fun c => (false, .str ⟨#[c]⟩) else none
  | _ => none
theorem at_rp {xs : List V} {ds : List D} {i : Int} {d : D} (r : RpAll K H xs ds) (h : at_ ds i = some d) : ∃ v, atI xs i = some v ∧ Rp K H v d := by
  unfold at_ at h
  unfold atI
  rw [r.len]
  cases hj : ixN ds.length i with
  | none => rw [hj] at h; cases h
  | some j =>
    rw [hj] at h
    obtain ⟨v, h1, h2⟩ := r.get (show ds[j]? = some d from h)
    exact ⟨v, h1, h2⟩
theorem xr_ix : IxR X (NR2 X.K gIx) := by
  intro value slice pins s σ H x y v u Q I rx ry h hs
  obtain ⟨ds, r, vd, hg, oc⟩ := h
  obtain ⟨d, e, eds, h1, h2⟩ := vds2 vd
  subst eds
  cases d with
  | list ds =>
    cases e with
    | int i =>
      have hg : (at_ ds i).map (fun d => (false, d)) = some r := hg
      cases ha : at_ ds i with
      | none => rw [ha] at hg; cases hg
      | some d =>
        rw [ha] at hg; cases hg
        obtain ⟨a, xs, ea, q1, r1⟩ := h1.lst
        obtain ⟨w', h3, h4⟩ := at_rp r1 ha
        exact ix_list value slice pins s σ H x y v u Q I rx ry ⟨a, xs, i, w', ea, h2.int, q1, h3, oc.rp h4⟩ hs
    | _ => cases hg
  | tuple ds =>
    cases e with
    | int i =>
      have hg : (at_ ds i).map (fun d => (false, d)) = some r := hg
      cases ha : at_ ds i with
      | none => rw [ha] at hg; cases hg
      | some d =>
        rw [ha] at hg; cases hg
        obtain ⟨a, xs, ea, q1, r1⟩ := h1.tup
        obtain ⟨w', h3, h4⟩ := at_rp r1 ha
        exact ix_tup value slice pins s σ H x y v u Q I rx ry ⟨a, xs, i, w', ea, h2.int, q1, h3, oc.rp h4⟩ hs
    | _ => cases hg
  | str z =>
    cases e with
    | int i =>
      have hg : (if z.length ≤ 1000000 then (atI z.cps.toList i).map (fun c => (false, PyData.str ⟨#[c]⟩)) else none) = some r := hg
      by_cases hz : z.length ≤ 1000000
      · rw [if_pos hz] at hg
        cases ha : atI z.cps.toList i with
        | none => rw [ha] at hg; cases hg
        | some c =>
          rw [ha] at hg; cases hg
          exact ix_str value slice pins s σ H x y v u Q I rx ry ⟨z, i, c, h1.str, h2.int, lim6 hz, ha, oc.str⟩ hs
      · rw [if_neg hz] at hg; cases hg
    | _ => cases hg
  | _ => cases e <;> cases hg
def cutD (ds : List D) (lo hi : Option Int) : List D := (ds.drop (HT.sIx ds.length 0 lo)).take (HT.sIx ds.length ds.length hi - HT.sIx ds.length 0 lo)
def gSl : D → Option Int → Option Int → Option (Bool × D)
  | .list ds, lo, hi => some (true, .list (cutD ds lo hi))
  | .tuple ds, lo, hi => some (false, .tuple (cutD ds lo hi))
  | _, _, _ => none
theorem cut_rp {xs : List V} {ds : List D} {lo hi : Option Int} (r : RpAll K H xs ds) : RpAll K H (cutV xs lo hi) (cutD ds lo hi) := by
  unfold cutV cutD
  rw [r.len]
  exact (r.drop _).take _
theorem SlR.by {r r1 r2 : V → Option Int → Option Int → Hp → VK → Prop} (h1 : SlR X r1) (h2 : SlR X r2) (i : ∀ x l u H Q, r x l u H Q → r1 x l u H Q ∨ r2 x l u H Q) : SlR X r := SlR.imp (h1.or h2) i
theorem sr_sl : SlR X (NRs X.K gSl) := SlR.by sl_list sl_tupA fun x lo hi H Q ⟨d, r, vd, hg, oc⟩ => by
  cases d with
  | list ds =>
    cases hg
    obtain ⟨a, xs, ea, q1, r1⟩ := vd.lst
    exact .inl ⟨a, xs, ea, q1, oc.lst (cut_rp r1)⟩
  | tuple ds =>
    cases hg
    obtain ⟨a, xs, ea, q1, r1, p1⟩ := vd.tupD
    refine .inr ⟨a, xs, ea, q1, fun hw => ?_, fun _ => oc.tup (cut_rp r1)⟩
    have : cutD ds lo hi = ds := by
      unfold cutD
      rw [← r1.len, hw.1, hw.2, List.drop_zero, Nat.sub_zero, r1.len, List.take_length]
    rw [this] at oc
    rw [← ea]
    exact oc.rp p1
  | _ => cases hg

/-! ### built-ins -/
def gLen : List D → Option (Bool × D)
  | [.list ds] => some (false, .int ds.length)
  | [.tuple ds] => some (false, .int ds.length)
  | [.str z] => if z.length ≤ 1000000 then some (false, .int z.length) else none
  | _ => none
theorem cr_len : CallR X (.builtin "len") (NR X.K gLen) := by
  intro pins s σ H xs us Q I r h
  obtain ⟨ds, r', vd, hg, oc⟩ := h
  cases vd with
  | nil => cases hg
  | @cons x xs d ds h1 h2 =>
    cases h2 with
    | cons h2 h3 => cases d <;> cases hg
    | nil =>
      cases d with
      | list ds =>
        cases hg
        obtain ⟨a, ys, ea, q1, r1⟩ := h1.lst
        rw [← r1.len] at oc
        exact call_len_seq pins s σ H _ us Q I r ⟨a, ys, by rw [ea], .inl q1, oc.int⟩
      | tuple ds =>
        cases hg
        obtain ⟨a, ys, ea, q1, r1⟩ := h1.tup
        rw [← r1.len] at oc
        exact call_len_seq pins s σ H _ us Q I r ⟨a, ys, by rw [ea], .inr q1, oc.int⟩
      | str z =>
        obtain ⟨hz, er⟩ := ite_some (show (if z.length ≤ 1000000 then some (false, PyData.int z.length) else none) = some r' from hg)
        subst er
        exact call_len_str pins s σ H _ us Q I r ⟨z, by rw [h1.str], lim6 hz, oc.int⟩
      | _ => cases hg
def gAbs : List D → Option (Bool × D)
  | [.int i] => some (false, .int (if i < 0 then -i else i))
  | _ => none
theorem cr_abs : CallR X (.builtin "abs") (NR X.K gAbs) := by
  intro pins s σ H xs us Q I r h
  obtain ⟨ds, r', vd, hg, oc⟩ := h
  cases vd with
  | nil => cases hg
  | @cons x xs d ds h1 h2 =>
    cases h2 with
    | cons h2 h3 => cases d <;> cases hg
    | nil =>
      cases d <;> first | cases hg | skip
      exact call_abs pins s σ H _ us Q I r ⟨_, by rw [h1.int], oc.int⟩
def gInt : List D → Option (Bool × D)
  | [.int i] => some (false, .int i)
  | [.bool b] => some (false, .int (if b then 1 else 0))
  | _ => none
theorem cr_int : CallR X (.type "int") (NR X.K gInt) := by
  intro pins s σ H xs us Q I r h
  obtain ⟨ds, r', vd, hg, oc⟩ := h
  cases vd with
  | nil => cases hg
  | @cons x xs d ds h1 h2 =>
    cases h2 with
    | cons h2 h3 => cases d <;> cases hg
    | nil =>
      cases d with
      | int i => cases hg; exact call_int1 pins s σ H _ us Q I r (.inl ⟨_, by rw [h1.int], oc.int⟩)
      | bool i => cases hg; exact call_int1 pins s σ H _ us Q I r (.inr ⟨_, by rw [h1.bl], oc.int⟩)
      | _ => cases hg
def gList : List D → Option (Bool × D)
  | [.list ds] => some (true, .list ds)
  | [.tuple ds] => some (true, .list ds)
  | _ => none
theorem cr_list : CallR X (.type "list") (NR X.K gList) := by
  intro pins s σ H xs us Q I r h
  obtain ⟨ds, r', vd, hg, oc⟩ := h
  cases vd with
  | nil => cases hg
  | @cons x xs d ds h1 h2 =>
    cases h2 with
    | cons h2 h3 => cases d <;> cases hg
    | nil =>
      cases d with
      | list ds =>
        cases hg
        obtain ⟨a, ys, ea, q1, r1⟩ := h1.lst
        exact call_list_of pins s σ H _ us Q I r ⟨a, ys, by rw [ea], .inl q1, oc.lst r1⟩
      | tuple ds =>
        cases hg
        obtain ⟨a, ys, ea, q1, r1⟩ := h1.tup
        exact call_list_of pins s σ H _ us Q I r ⟨a, ys, by rw [ea], .inr q1, oc.lst r1⟩
      | _ => cases hg
def gTuple : List D → Option (Bool × D)
  | [.list ds] => some (false, .tuple ds)
  | [.tuple ds] => some (false, .tuple ds)
  | _ => none
theorem cr_tuple : CallR X (.type "tuple") (NR X.K gTuple) := by
  intro pins s σ H xs us Q I r h
  obtain ⟨ds, r', vd, hg, oc⟩ := h
  cases vd with
  | nil => cases hg
  | @cons x xs d ds h1 h2 =>
    cases h2 with
    | cons h2 h3 => cases d <;> cases hg
    | nil =>
      cases d with
      | list ds =>
        cases hg
        obtain ⟨a, ys, ea, q1, r1⟩ := h1.lst
        exact call_tuple_of pins s σ H _ us Q I r ⟨a, ys, by rw [ea], .inl ⟨q1, oc.tup r1⟩⟩
      | tuple ds =>
        cases hg
        obtain ⟨a, ys, ea, q1, r1, p1⟩ := h1.tupD
        exact call_tuple_of pins s σ H _ us Q I r ⟨a, ys, by rw [ea], .inr ⟨q1, by rw [← ea]; exact oc.rp p1⟩⟩
      | _ => cases hg
def bls : List D → Option (List Bool)
  | [] => some []
  | .bool b :: ds => (bls ds).map (b :: ·)
  | _ => none
theorem bls_rp : ∀ {ds : List D} {xs : List V} {bs : List Bool}, RpAll K H xs ds → bls ds = some bs → xs = bs.map V.bl
  | [], _, bs, .nil, h => by cases h; rfl
  | d :: ds, _, bs, .cons h1 h2, h => by
    cases d with
    | bool b =>
      have h : (bls ds).map (b :: ·) = some bs := h
      cases hb : bls ds with
      | none => rw [hb] at h; cases h
      | some cs =>
        rw [hb] at h; cases h
        cases h1
        rw [bls_rp h2 hb]
        rfl
    | _ => cases h
def gAll : List D → Option (Bool × D)
  | [.list ds] => (bls ds).map fun bs => (false, .bool (bs.all id))
  | _ => none
def gAny : List D → Option (Bool × D)
  | [.list ds] => (bls ds).map fun bs => (false, .bool (bs.any id))
  | _ => none
theorem cr_all' (hc : X.calm = true) : CallR X (.builtin "all") (NR X.K gAll) := by
  intro pins s σ H xs us Q I r h
  obtain ⟨ds, r', vd, hg, oc⟩ := h
  cases vd with
  | nil => cases hg
  | @cons x xs d ds h1 h2 =>
    cases h2 with
    | cons h2 h3 => cases d <;> cases hg
    | nil =>
      cases d with
      | list ds =>
        have hg : (bls ds).map (fun bs => (false, PyData.bool (bs.all id))) = some r' := hg
        cases hb : bls ds with
        | none => rw [hb] at hg; cases hg
        | some bs =>
          rw [hb] at hg; cases hg
          obtain ⟨a, ys, ea, q1, r1⟩ := h1.lst
          have := bls_rp r1 hb
          subst this
          exact cr_all hc pins s σ H _ us Q I r ⟨a, bs, by rw [ea], q1, oc.bl⟩
      | _ => cases hg
theorem cr_any' (hc : X.calm = true) : CallR X (.builtin "any") (NR X.K gAny) := by
  intro pins s σ H xs us Q I r h
  obtain ⟨ds, r', vd, hg, oc⟩ := h
  cases vd with
  | nil => cases hg
  | @cons x xs d ds h1 h2 =>
    cases h2 with
    | cons h2 h3 => cases d <;> cases hg
    | nil =>
      cases d with
      | list ds =>
        have hg : (bls ds).map (fun bs => (false, PyData.bool (bs.any id))) = some r' := hg
        cases hb : bls ds with
        | none => rw [hb] at hg; cases hg
        | some bs =>
          rw [hb] at hg; cases hg
          obtain ⟨a, ys, ea, q1, r1⟩ := h1.lst
          have := bls_rp r1 hb
          subst this
          exact cr_any hc pins s σ H _ us Q I r ⟨a, bs, by rw [ea], q1, oc.bl⟩
      | _ => cases hg
end
end FE
end
section
set_option Elab.async false
set_option linter.all false
set_option maxRecDepth 100000
namespace FE
open PySem PySem.Spec PyProof.Rows L2
section
variable {X : Cx} {K : PySem.W.Frag} {H0 : Gh} {Hs H H' H1 H2 : Hp} {W : WX} {env e e1 e2 : En} {σ σ' σ1 : L2.St}

/-! ### a slot's own list is written -/
def lstAt (e : En) (i : Nat) : Option (List D) := match e[i]? with
  | some (.ow (.list ds)) => some ds
  | some (.pa (.list ds)) => some ds
  | _ => none
def putL (e : En) (i : Nat) (ds : List D) : En := match e[i]? with
  | some (.pa _) => e.set i (.pa (.list ds))
  | _ => e.set i (.ow (.list ds))
theorem lstAt_slot {i : Nat} {ds : List D} (h : lstAt e i = some ds) : ∃ s, e[i]? = some s ∧ s.own? = some (.list ds) := by
  unfold lstAt at h
  split at h
  · rename_i q; cases h; exact ⟨_, q, rfl⟩
  · rename_i q; cases h; exact ⟨_, q, rfl⟩
  · cases h
theorem putL_slot {i : Nat} {ds ds' : List D} (h : lstAt e i = some ds) : ∃ s s', e[i]? = some s ∧ putL e i ds' = e.set i s' ∧ s.own? = some (.list ds) ∧ s'.own? = some (.list ds') ∧ Slot.Le s s' ∧ s'.fz? = none ∧ (∀ d, s' = .ow d → ∃ d', s = .ow d') := by
  unfold lstAt at h
  unfold putL
  split at h
  · rename_i q
    cases h
    rw [q]
    exact ⟨_, _, rfl, rfl, rfl, rfl, .oo _ _, rfl, fun d _ => ⟨_, rfl⟩⟩
  · rename_i q
    cases h
    rw [q]
    exact ⟨_, _, rfl, rfl, rfl, rfl, .pp _ _, rfl, fun d z => by cases z⟩
  · cases h
theorem ER.at_ (er : ER K H0 e σ H) {i : Nat} {ds : List D} (h : lstAt e i = some ds) : ∃ a xs, σ[i]? = some (some (.ref a)) ∧ H a = some (.lst xs) ∧ RpAll K H xs ds ∧ OA e σ a := by
  obtain ⟨s, h1, h2⟩ := lstAt_slot h
  obtain ⟨a, h3, xs, h4, h5⟩ := er.ow i s _ h1 h2
  exact ⟨a, xs, h3, h4, h5, i, s, h1, (by rw [h2]; intro z; cases z), h3⟩
theorem set_sb {i : Nat} {s s' : Slot} (h : e[i]? = some s) (l : Slot.Le s s') : Sb e (e.set i s') := ⟨by rw [List.length_set], fun j t ht => by
  by_cases z : i = j
  · subst z
    have hl := (List.getElem?_eq_some_iff.mp h).1
    rw [List.getElem?_set_self hl] at ht
    cases ht
    exact ⟨s, h, l⟩
  · rw [List.getElem?_set_ne z] at ht
    exact ⟨t, ht, .same t⟩⟩
theorem ER.put (er : ER K H0 e σ H) {i : Nat} {a : Addr} {xs ys : List V} {ds ds' : List D} (h : lstAt e i = some ds) (ha : σ[i]? = some (some (.ref a))) (ho : H a = some (.lst xs)) (r : RpAll K H ys ds') :
    ER K H0 (putL e i ds') σ (upd H a (.lst ys)) ∧ Sb e (putL e i ds') ∧ Step (OA e σ) H (upd H a (.lst ys)) ∧ Stab H (upd H a (.lst ys)) := by
  obtain ⟨s, s', h1, h2, h3, h4, h5, h6, h7⟩ := putL_slot (ds' := ds') h
  have stb : Stab H (upd H a (.lst ys)) := stab_upd ho id
  have hoa : OA e σ a := ⟨i, s, h1, (by rw [h3]; intro z; cases z), ha⟩
  rw [h2]
  have get : ∀ (j : Nat) (t : Slot), (e.set i s')[j]? = some t → (j = i ∧ t = s') ∨ (j ≠ i ∧ e[j]? = some t) := fun j t h => by
    by_cases z : i = j
    · subst z
      have hl := (List.getElem?_eq_some_iff.mp h1).1
      rw [List.getElem?_set_self hl] at h
      exact .inl ⟨rfl, (Option.some.inj h).symm⟩
    · rw [List.getElem?_set_ne z] at h; exact .inr ⟨fun y => z y.symm, h⟩
  have own1 : ∀ (j : Nat) (t : Slot), (e.set i s')[j]? = some t → t.own? ≠ none → ∃ u, e[j]? = some u ∧ u.own? ≠ none := fun j t h ho => by
    rcases get j t h with ⟨z, y⟩ | ⟨z, y⟩
    · subst z; exact ⟨s, h1, by rw [h3]; intro q; cases q⟩
    · exact ⟨t, y, ho⟩
  refine ⟨⟨by rw [List.length_set]; exact er.len, fun j t d q1 q2 => ?_, fun j t d q1 q2 => ?_, fun j k t u b q1 q2 q3 q4 q5 q6 => ?_, fun j d b q1 q2 => ?_, ⟨fun b n => ?_, fun p hp => tb_put ho _ (er.mono.tb p hp)⟩, fun j q1 => ?_⟩, set_sb h1 h5, ⟨fun b o q n _ => ?_, fun b n => ?_, tb_put ho⟩, stb⟩
  · rcases get j t q1 with ⟨z, y⟩ | ⟨z, y⟩
    · subst z; subst y; rw [h6] at q2; cases q2
    · obtain ⟨v, p1, p2⟩ := er.fz j t d y q2
      exact ⟨v, p1, p2.stab stb⟩
  · rcases get j t q1 with ⟨z, y⟩ | ⟨z, y⟩
    · subst z; subst y
      rw [h4] at q2; cases q2
      exact ⟨a, ha, ys, upd_same, r.stab stb⟩
    · obtain ⟨b, p1, p2⟩ := er.ow j t d y q2
      refine ⟨b, p1, p2.stab stb fun o q => ?_⟩
      have : b ≠ a := fun w => z (er.inj j i t s b y h1 (by rw [q2]; intro v; cases v) (by rw [h3]; intro v; cases v) p1 (by rw [w]; exact ha))
      rw [upd_ne this]; exact q
  · obtain ⟨t', p1, p2⟩ := own1 j t q1 q3
    obtain ⟨u', p3, p4⟩ := own1 k u q2 q4
    exact er.inj j k t' u' b p1 p3 p2 p4 q5 q6
  · rcases get j _ q1 with ⟨z, y⟩ | ⟨z, y⟩
    · subst z
      obtain ⟨d', y'⟩ := h7 d y.symm
      subst y'
      exact er.new j d' b h1 q2
    · exact er.new j d b y q2
  · by_cases z : b = a
    · subst z; rw [upd_same]; intro y; cases y
    · rw [upd_ne z]; exact er.mono.up b n
  · rcases get j _ q1 with ⟨z, y⟩ | ⟨z, y⟩
    · subst y; cases h4
    · exact er.ex j y
  · have : b ≠ a := fun z => n (by rw [z]; exact hoa)
    rw [upd_ne this]; exact q
  · by_cases z : b = a
    · subst z; rw [upd_same]; intro y; cases y
    · rw [upd_ne z]; exact n
/-! x.append(v) -/
def eApp (i : Nat) (f : SE) : SE := fun e => match lstAt e i with
  | none => .bad
  | some _ => (f e).bind fun v e1 => match v.take e1 with
    | none => .bad
    | some (d, e2) => match lstAt e2 i with
      | none => .bad
      | some ds => if ds.length < 1000000 then .ok (.sh .none) (putL e2 i (ds ++ [d])) else .bad
theorem tyV_lst {p : Addr} {xs : List V} (h : H p = some (.lst xs)) : tyV K "list" (.ref p) H := .inl ⟨rfl, xs, .inl (.inl h)⟩
theorem fe_app {i : Nat} {x : Str} {ex : Expr} {f : SE} {p apos cpos : Pos} (ho : PE X (.Name x p) (tVar i)) (ha : FEx X H0 W ex f)
    (hbase : attributeBase (.Name x p) "append" X.env (eval (.Name x p) X.env) = eval (.Name x p) X.env := by rfl)
    (hfew : ((backTo cpos (starEach [ex] X.env)).all (fun x => !x.1) && (backToKw cpos (keywordEach [] X.env)).all (fun x => x.1.isSome)
      && decide (([ex] : List Expr).length + ([] : List Keyword).length + (if ([] : List Keyword).isEmpty then 0 else 1) < 30)) = true := by rfl)
    (hline : (apos.endLine == cpos.line) = true := by rfl) (hs : starEach [ex] X.env = (false, eval ex X.env) :: starEach [] X.env := by rfl) (hplain : (backTo cpos (starEach [] X.env)).any (·.1) = false := by rfl) :
    FEx X H0 W (.Call (.Attribute (.Name x p) "append" apos) [ex] [] cpos) (eApp i f) :=
  PE.imp (pe_bm PySem.F.plainAttrs_list PySem.F.slot_list_append PySem.F.type_list_append (mt_append (X := X)) ho (PA.vs (fa_cons ha fa_nil hs)) hbase hfew hline hs hplain) fun σ H Q ⟨env, er, q⟩ => by
    unfold eApp at q
    cases h0 : lstAt env i with
    | none => rw [h0] at q; exact q.elim
    | some ds0 =>
      rw [h0] at q
      obtain ⟨a, xs0, ha0, ho0, _, hoa⟩ := er.at_ h0
      refine ⟨.ref a, ha0, tyV_lst ho0, env, er, ?_⟩
      unfold aCons
      cases hf : f env with
      | bad => rw [hf] at q; exact q
      | exc xc e' => rw [hf] at q; exact q
      | ok v e1 =>
        rw [hf] at q
        intro vs H1 st er1 sb vr
        cases vr with
        | @cons v' x' vs' xs' v1 v2 v3 =>
        cases v2
        simp only [R.bind_ok] at q
        cases ht : v.take e1 with
        | none => rw [ht] at q; exact q.elim
        | some pr =>
          obtain ⟨d, e2⟩ := pr
          rw [ht] at q
          refine take_go er er1 st sb v1 ht fun H2 st2 er2 sb2 rp => ?_
          have q : pE X H0 W env σ H Q (match lstAt e2 i with
            | none => .bad
            | some ds => if ds.length < 1000000 then .ok (.sh .none) (putL e2 i (ds ++ [d])) else .bad) := q
          cases h2 : lstAt e2 i with
          | none => rw [h2] at q; exact q.elim
          | some ds =>
            rw [h2] at q
            obtain ⟨a2, xs, hs2, ho2, r2, _⟩ := er2.at_ h2
            rw [ha0] at hs2
            cases hs2
            simp only at q
            split at q
            · rename_i hl
              have hl2 := r2.len
              have s6 := sl6
              obtain ⟨er3, sb3, st3, stb3⟩ := er2.put h2 ha0 ho2 (r2.app (.cons rp .nil))
              refine ⟨a, xs, _, rfl, rfl, ho2, by omega, q .non _ (st2.seq sb2 st3) er3 (sb2.trans sb3) .non⟩
            · exact q.elim
/-! x.pop() -/
def ePop (i : Nat) : SE := fun e => match lstAt e i with
  | none => .bad
  | some ds => match ds[ds.length - 1]? with
    | none => .bad
    | some d => .ok (.sh d) (putL e i ds.dropLast)
theorem fe_pop {i : Nat} {x : Str} {p apos cpos : Pos} (ho : PE X (.Name x p) (tVar i))
    (hbase : attributeBase (.Name x p) "pop" X.env (eval (.Name x p) X.env) = eval (.Name x p) X.env := by rfl) (hline : (apos.endLine == cpos.line) = true := by rfl) :
    FEx X H0 W (.Call (.Attribute (.Name x p) "pop" apos) [] [] cpos) (ePop i) :=
  PE.imp (pe_bm0 PySem.F.plainAttrs_list PySem.F.slot_list_pop PySem.F.type_list_pop (mt_pop (X := X)) ho hbase hline) fun σ H Q ⟨env, er, q⟩ => by
    unfold ePop at q
    cases h0 : lstAt env i with
    | none => rw [h0] at q; exact q.elim
    | some ds =>
      rw [h0] at q
      obtain ⟨a, xs, ha0, ho0, r0, _⟩ := er.at_ h0
      have q : pE X H0 W env σ H Q (match ds[ds.length - 1]? with
        | none => .bad
        | some d => .ok (.sh d) (putL env i ds.dropLast)) := q
      cases hd : ds[ds.length - 1]? with
      | none => rw [hd] at q; exact q.elim
      | some d =>
        rw [hd] at q
        obtain ⟨y, hy, rp⟩ := r0.get hd
        obtain ⟨er3, sb3, st3, stb3⟩ := er.put h0 ha0 ho0 r0.dropLast
        refine ⟨.ref a, ha0, tyV_lst ho0, a, xs, y, rfl, rfl, ho0, by rw [r0.len]; exact hy, q y _ st3 er3 sb3 (rp.stab stb3)⟩
/-! x.pop(k) -/
def ePopAt (i : Nat) (k : Int) : SE := fun e => match lstAt e i with
  | none => .bad
  | some ds => match seqIndex? k ds.length with
    | none => .bad
    | some j => match ds[j]? with
      | none => .bad
      | some d => .ok (.sh d) (putL e i (ds.eraseIdx j))
theorem fe_popAt {i : Nat} {k : Int} {x : Str} {j : Nat} {p p2 apos cpos : Pos} (ho : PE X (.Name x p) (tVar i)) (h1 : -(2 ^ 63) ≤ k) (h2 : k < 2 ^ 63)
    (hbase : attributeBase (.Name x p) "pop" X.env (eval (.Name x p) X.env) = eval (.Name x p) X.env := by rfl) (hline : (apos.endLine == cpos.line) = true := by rfl) :
    FEx X H0 W (.Call (.Attribute (.Name x p) "pop" apos) [.Constant (.int k) j p2] [] cpos) (ePopAt i k) :=
  PE.imp (pe_bm PySem.F.plainAttrs_list PySem.F.slot_list_pop PySem.F.type_list_pop (mt_popAt (X := X)) ho (pa_cons pe_int pa_nil) hbase rfl hline rfl rfl) fun σ H Q ⟨env, er, q⟩ => by
    unfold ePopAt at q
    cases h0 : lstAt env i with
    | none => rw [h0] at q; exact q.elim
    | some ds =>
      rw [h0] at q
      obtain ⟨a, xs, ha0, ho0, r0, _⟩ := er.at_ h0
      have q : pE X H0 W env σ H Q (match seqIndex? k ds.length with
        | none => .bad
        | some j => match ds[j]? with
          | none => .bad
          | some d => .ok (.sh d) (putL env i (ds.eraseIdx j))) := q
      cases hj : seqIndex? k ds.length with
      | none => rw [hj] at q; exact q.elim
      | some jj =>
        rw [hj] at q
        have q : pE X H0 W env σ H Q (match ds[jj]? with
          | none => .bad
          | some d => .ok (.sh d) (putL env i (ds.eraseIdx jj))) := q
        cases hd : ds[jj]? with
        | none => rw [hd] at q; exact q.elim
        | some d =>
          rw [hd] at q
          obtain ⟨y, hy, rp⟩ := r0.get hd
          obtain ⟨er3, sb3, st3, stb3⟩ := er.put h0 ha0 ho0 (r0.eraseIdx jj)
          refine ⟨.ref a, ha0, tyV_lst ho0, a, xs, k, jj, y, rfl, rfl, ho0, h1, h2, by rw [r0.len]; exact hj, hy, q y _ st3 er3 sb3 (rp.stab stb3)⟩
/-! x[k] = v -/
def sSetI (i : Nat) (f k : SE) : SS := fun e => (f e).bind fun v e1 => match v.take e1 with
  | none => .bad
  | some (d, e2) => match lstAt e2 i with
    | none => .bad
    | some _ => (k e2).bind fun w e3 => match w.get e3, lstAt e3 i with
      | some (.int z), some ds => match ixN ds.length z with
        | some j => .ok .nx (putL e3 i (ds.set j d))
        | none => .bad
      | _, _ => .bad
theorem fs_setI {i : Nat} {x : Str} {ex kx : Expr} {f k : SE} {p spos pos : Pos} (he : FEx X H0 W ex f) (hg : PG X (.Subscript (.Name x p) kx spos) (L2.gSub (tVar i) (tE X H0 W k) rSetL)) (hs : swapsWithSole [.Subscript (.Name x p) kx spos] ex pos.line X.env = pure false := by rfl) (hw : swappedStores [.Subscript (.Name x p) kx spos] ex X.env = pure none := by rfl)
    (h1 : (assignEach [.Subscript (.Name x p) kx spos] X.env).map (·.2) = [assign (.Subscript (.Name x p) kx spos) X.env] := by rfl) : FSx X H0 W (.Assign [.Subscript (.Name x p) kx spos] ex pos) (sSetI i f k) :=
  PS.imp (ps_asg (PE.vs he) hg hs hw h1) fun D σ H h => tE_bindS h fun env e1 v x H1 er er1 st sb vr q => by
    cases ht : v.take e1 with
    | none => rw [ht] at q; exact q.elim
    | some pr =>
      obtain ⟨d, e2⟩ := pr
      rw [ht] at q
      refine take_go er er1 st sb vr ht fun H2 st2 er2 sb2 rp => ?_
      have q : pS X H0 W env σ H D (match lstAt e2 i with
        | none => .bad
        | some _ => (k e2).bind fun w e3 => match w.get e3, lstAt e3 i with
          | some (.int z), some ds => match ixN ds.length z with
            | some j => .ok .nx (putL e3 i (ds.set j d))
            | none => .bad
          | _, _ => .bad) := q
      cases h2 : lstAt e2 i with
      | none => rw [h2] at q; exact q.elim
      | some ds0 =>
        rw [h2] at q
        obtain ⟨a, xs0, ha0, ho0, r0, _⟩ := er2.at_ h2
        refine ⟨.ref a, ha0, e2, er2, ?_⟩
        cases hkk : k e2 with
        | bad => rw [hkk] at q; exact q
        | exc xc e' =>
          rw [hkk] at q
          exact fun cls dd H3 st3 er3 sb3 xr => q cls dd σ H3 (st2.seq sb2 st3) er3 (sb2.trans sb3).sbs xr
        | ok w e3 =>
          rw [hkk] at q
          intro y H3 st3 er3 sb3 vr3
          have q : pS X H0 W env σ H D (match w.get e3, lstAt e3 i with
            | some (.int z), some ds => match ixN ds.length z with
              | some j => .ok .nx (putL e3 i (ds.set j d))
              | none => .bad
            | _, _ => .bad) := q
          cases hw' : w.get e3 with
          | none => rw [hw'] at q; exact q.elim
          | some dk =>
            rw [hw'] at q
            cases dk with
            | int z =>
              cases h3 : lstAt e3 i with
              | none => rw [h3] at q; exact q.elim
              | some ds =>
                rw [h3] at q
                have q : pS X H0 W env σ H D (match ixN ds.length z with
                  | some j => .ok .nx (putL e3 i (ds.set j d))
                  | none => .bad) := q
                cases hj : ixN ds.length z with
                | none => rw [hj] at q; exact q.elim
                | some j =>
                  rw [hj] at q
                  obtain ⟨a3, xs, ha3, ho3, r3, _⟩ := er3.at_ h3
                  rw [ha0] at ha3
                  cases ha3
                  have stab3 : Stab H2 H3 := st3.stab er2
                  obtain ⟨er4, sb4, st4, stb4⟩ := er3.put h3 ha0 ho3 (r3.set j (rp.stab stab3))
                  refine ⟨a, xs, z, j, rfl, (vr3.vd er3 hw').int, ho3, by rw [r3.len]; exact hj, ?_⟩
                  exact q σ _ ((st2.seq sb2 st3).seq (sb2.trans sb3) st4) er4 ((sb2.trans sb3).trans sb4).sbs
            | _ => exact q.elim
/-! x += list -/
theorem set_same {α : Type} : ∀ {l : List α} {i : Nat} {x : α}, l[i]? = some x → l.set i x = l
  | _ :: _, 0, x, h => by cases h; rfl
  | _ :: _, i + 1, x, h => by
    rw [List.set_cons_succ, set_same (by simpa using h)]
def sExt (i : Nat) (f : SE) : SS := fun e => match lstAt e i with
  | none => .bad
  | some _ => (f e).bind fun v e1 => match v with
    | .fr (.list ys) => match lstAt e1 i with
      | none => .bad
      | some ds => if ds.length + ys.length ≤ 1000000 then .ok .nx (putL e1 i (ds ++ ys)) else .bad
    | _ => .bad
theorem fs_ext {i : Nat} {x : Str} {ex : Expr} {f : SE} {pos pos' : Pos} (hN : X.N.Nodup) (hi : X.N[i]? = some x) (hx : Loc X.env.scope x) (he : FEx X H0 W ex f) (hf : X.fn x = true ∨ X.env.scope.names.lookup x = some .local := by first | exact .inl rfl | exact .inr rfl | assumption) :
    FSx X H0 W (.AugAssign (.Name x pos') .Add ex pos) (sExt i f) :=
  PS.imp (ps_aug hN hi hx he (iop_ext (X := X)) hf) fun D σ H ⟨env, er, q⟩ => by
    unfold sExt at q
    cases h0 : lstAt env i with
    | none => rw [h0] at q; exact q.elim
    | some ds0 =>
      rw [h0] at q
      obtain ⟨a, xs0, ha0, ho0, r0, hoa⟩ := er.at_ h0
      refine ⟨.ref a, ha0, env, er, ?_⟩
      cases hf : f env with
      | bad => rw [hf] at q; exact q
      | exc xc e' =>
        rw [hf] at q
        exact fun cls dd H1 st er1 sb xr => q cls dd σ H1 st er1 sb.sbs xr
      | ok v e1 =>
        rw [hf] at q
        intro y H1 st er1 sb vr
        cases v with
        | sh d => exact q.elim
        | lt j => exact q.elim
        | fr d =>
          cases d with
          | list ys =>
            have q : pS X H0 W env σ H D (match lstAt e1 i with
              | none => .bad
              | some ds => if ds.length + ys.length ≤ 1000000 then .ok .nx (putL e1 i (ds ++ ys)) else .bad) := q
            cases h1 : lstAt e1 i with
            | none => rw [h1] at q; exact q.elim
            | some ds =>
              rw [h1] at q
              obtain ⟨a1, xs, ha1, ho1, r1, _⟩ := er1.at_ h1
              rw [ha0] at ha1
              cases ha1
              obtain ⟨b, eb, hn, zs, hb, rz⟩ := vr
              subst eb
              simp only at q
              split at q
              · rename_i hl
                have l1 := r1.len
                have l2 := rz.len
                obtain ⟨er3, sb3, st3, stb3⟩ := er1.put h1 ha0 ho1 (r1.app rz)
                refine ⟨a, b, xs, zs, rfl, rfl, ho1, hb, lim6 (by omega), ?_⟩
                show D.nx (σ.set i (some (.ref a))) _
                rw [set_same ha0]
                exact q σ _ (st.seq sb st3) er3 (sb.trans sb3).sbs
              · exact q.elim
          | _ => exact q.elim
/-! x op= immutable -/
def sAugN (i : Nat) (g : List D → Option (Bool × D)) (f : SE) : SS := fun e => match e[i]? with
  | none | some .un | some .ex => .bad
  | _ => (f e).bind fun v e1 => match (getL e1 [.lt i, v]).bind g with
    | some (false, d) => .ok .nx (e1.set i (.sh d))
    | _ => .bad
theorem er_val (er : ER K H0 e σ H) {i : Nat} {s : Slot} {d : D} (h : e[i]? = some s) (c : s.cont = some d) : ∃ x, σ[i]? = some (some x) := by
  cases s with
  | un => cases c
  | ex => cases c
  | sh d => obtain ⟨v, h1, _⟩ := er.fz i _ d h rfl; exact ⟨v, h1⟩
  | pf d => obtain ⟨v, h1, _⟩ := er.fz i _ d h rfl; exact ⟨v, h1⟩
  | ow d => obtain ⟨a, h1, _⟩ := er.ow i _ d h rfl; exact ⟨_, h1⟩
  | pa d => obtain ⟨a, h1, _⟩ := er.ow i _ d h rfl; exact ⟨_, h1⟩
theorem setSh_sbs {i : Nat} {d : D} {v : V} (hi : i < e.length) (hl : e.length = σ.length) : SbS e (e.set i (.sh d)) σ (σ.set i (some v)) H := by
  have get : ∀ (j : Nat) (t : Slot), (e.set i (.sh d))[j]? = some t → (j = i ∧ t = .sh d) ∨ (j ≠ i ∧ e[j]? = some t) := fun j t h => by
    by_cases z : i = j
    · subst z
      rw [List.getElem?_set_self hi] at h
      exact .inl ⟨rfl, (Option.some.inj h).symm⟩
    · rw [List.getElem?_set_ne z] at h; exact .inr ⟨fun y => z y.symm, h⟩
  refine ⟨fun a ⟨j, s, h1, h2, h3⟩ => ?_, fun j h => ?_, by rw [List.length_set]⟩
  · rcases get j s h1 with ⟨z, y⟩ | ⟨z, y⟩
    · subst y; exact absurd rfl h2
    · rw [List.getElem?_set_ne (Ne.symm z)] at h3
      exact .inl ⟨j, s, y, h2, h3⟩
  · rcases h with ⟨d', h⟩ | ⟨d', h⟩
    · rcases get j _ h with ⟨z, y⟩ | ⟨z, y⟩
      · cases y
      · exact ⟨.inl ⟨d', y⟩, List.getElem?_set_ne (Ne.symm z)⟩
    · rcases get j _ h with ⟨z, y⟩ | ⟨z, y⟩
      · cases y
      · exact ⟨.inr ⟨d', y⟩, List.getElem?_set_ne (Ne.symm z)⟩
theorem fs_augN {i : Nat} {op : Operator} {g : List D → Option (Bool × D)} {x : Str} {ex : Expr} {f : SE} {pos pos' : Pos} (ho : OpR X (inplaceOp op) (NR2 X.K g)) (hN : X.N.Nodup) (hi : X.N[i]? = some x) (hx : Loc X.env.scope x) (he : FEx X H0 W ex f) (hf : X.fn x = true ∨ X.env.scope.names.lookup x = some .local := by first | exact .inl rfl | exact .inr rfl | assumption) :
    FSx X H0 W (.AugAssign (.Name x pos') op ex pos) (sAugN i g f) :=
  PS.imp (ps_aug hN hi hx he ho hf) fun D σ H ⟨env, er, q⟩ => by
    have main : ∀ s, env[i]? = some s → s ≠ .un → s ≠ .ex → pS X H0 W env σ H D ((f env).bind fun v e1 => match (getL e1 [.lt i, v]).bind g with
      | some (false, d) => .ok .nx (e1.set i (.sh d))
      | _ => .bad) → tAug i (tE X H0 W f) (NR2 X.K g) D σ H := fun s hs hne hne2 q => by
      have hc : ∃ d, s.cont = some d := by
        cases s with
        | un => exact absurd rfl hne
        | ex => exact absurd rfl hne2
        | sh d => exact ⟨d, rfl⟩
        | ow d => exact ⟨d, rfl⟩
        | pa d => exact ⟨d, rfl⟩
        | pf d => exact ⟨d, rfl⟩
      obtain ⟨d0, hd0⟩ := hc
      obtain ⟨x0, hx0⟩ := er_val er hs hd0
      refine ⟨x0, hx0, env, er, ?_⟩
      cases hf : f env with
      | bad => rw [hf] at q; exact q
      | exc xc e' =>
        rw [hf] at q
        exact fun cls dd H1 st er1 sb xr => q cls dd σ H1 st er1 sb.sbs xr
      | ok v e1 =>
        rw [hf] at q
        intro y H1 st er1 sb vr
        have q : pS X H0 W env σ H D (match (getL e1 [.lt i, v]).bind g with
          | some (false, d) => .ok .nx (e1.set i (.sh d))
          | _ => .bad) := q
        cases hg : getL e1 [.lt i, v] with
        | none => rw [hg] at q; exact q.elim
        | some ds =>
          rw [hg] at q
          have q : pS X H0 W env σ H D (match g ds with
            | some (false, d) => .ok .nx (e1.set i (.sh d))
            | _ => .bad) := q
          have vds : VDs X.K H1 [x0, y] ds := by
            refine VRs.vds (H := H) (σ := σ) er1 (.cons (v := .lt i) (show VR X.K σ H H1 (.lt i) x0 from hx0) (.cons vr .nil fun d a _ _ h => by cases v <;> cases y <;> cases h) fun d a z _ _ => by cases z) hg
          cases hr : g ds with
          | none => rw [hr] at q; exact q.elim
          | some r =>
            obtain ⟨b, d⟩ := r
            rw [hr] at q
            cases b with
            | true => exact q.elim
            | false =>
              refine ⟨ds, (false, d), vds, hr, fun z H2 st2 hv => ?_⟩
              have st' : Step (OA env σ) H H2 := st.trans st2 fun _ z => z.elim
              have er2 := er1.step0 st2
              have hl : i < e1.length := by
                rw [sb.len]; exact (List.getElem?_eq_some_iff.mp hs).1
              exact q _ H2 st' (er2.setSh hv) (sb.sbs.trans0 (setSh_sbs hl er2.len))
    unfold sAugN at q
    cases hs : env[i]? with
    | none => rw [hs] at q; exact q.elim
    | some s =>
      rw [hs] at q
      cases s with
      | un => exact q.elim
      | ex => exact q.elim
      | sh d => exact main _ hs (fun z => by cases z) (fun z => by cases z) q
      | ow d => exact main _ hs (fun z => by cases z) (fun z => by cases z) q
      | pa d => exact main _ hs (fun z => by cases z) (fun z => by cases z) q
      | pf d => exact main _ hs (fun z => by cases z) (fun z => by cases z) q

end
end FE
end
section
set_option Elab.async false
set_option linter.all false
set_option maxRecDepth 100000
namespace FE
open PySem PySem.Spec PyProof.Rows L2

/-! ### enumerate(tuple) -/
theorem enum1_meets {v : Value} {o : Obj} {G : Heap → Prop} (B : Begins v o G) :
    Meets (Builtin.«enumerate.__new__» ⟨[.type "enumerate", v], []⟩) (fun _ R s => G s.heap ∧
      R (.ok (.ret (.ref (s.heap.push o).objs.size))) { s with heap := (s.heap.push o).push { cls := .type "enumerate", data := .fields #[.none, .bool false, .ref s.heap.objs.size, rawInt 0, .none, .none] } }) :=
  .of_wp fun prog w A R s h => by
    obtain ⟨hp, g, d, tk, os⟩ := s; obtain ⟨h1, h⟩ := h
    have hsub := sub_enumerate
    have q1 : ∀ {A' : Around} {E : Value → Shared → Prop} {Q : Value → Shared → Prop}, Q (.ref hp.objs.size) ⟨hp.push o, g, d, tk, os⟩ → wpAny (model prog w) A' (pyIter v) Q E ⟨hp, g, d, tk, os⟩ :=
      fun q => B.iter prog w _ _ ⟨hp, g, d, tk, os⟩ _ h1 q
    wp_walk using q1
    refine wpAny_stack_any fun st => wpAny_pure ?_
    split
    · rename_i c _ _ _ _ _
      cases (c == Value.type "enumerate") <;> (wp_walk using q1; exact ⟨_, rfl, h⟩)
    · wp_walk using q1
      exact ⟨_, rfl, h⟩
theorem enum1_begins {prog : Program} {w : World} {A : Around} {E : Value → Shared → Prop} {s : Shared} {v : Value} {o : Obj} {G : Heap → Prop} {Q : Value → Shared → Prop} (B : Begins v o G) (h1 : G s.heap)
    (h : ∀ h', IsEnum h' (s.heap.objs.size + 1) s.heap.objs.size 0 .none → h'.get? s.heap.objs.size = some o → (∀ b o, s.heap.get? b = some o → h'.get? b = some o) → Q (.ref (s.heap.objs.size + 1)) { s with heap := h' }) :
    wpAny (model prog w) A (call (.type "enumerate") [v]) Q E s := by
  refine callType_new F.called_enumerate (by decide) (F.typeCall_enumerate_1 _) (F.newCall_enumerate_1 _) (fun obj => F.args_object_init_2 obj _) F.entry_enumerate_new (enum1_meets B) ⟨h1, ?_⟩
  have hz : (s.heap.push o).objs.size = s.heap.objs.size + 1 := Heap.size_push ..
  show _ ∧ _
  rw [hz]
  have he : IsEnum ((s.heap.push o).push { cls := .type "enumerate", data := .fields #[.none, .bool false, .ref s.heap.objs.size, rawInt 0, .none, .none] }) (s.heap.objs.size + 1) s.heap.objs.size 0 .none := by
    have := Heap.get?_push_size (s.heap.push o) (o := { cls := .type "enumerate", data := .fields #[.none, .bool false, .ref s.heap.objs.size, rawInt 0, .none, .none] }) rfl
    rw [hz] at this; exact this
  exact ⟨⟨_, he, rfl⟩, h _ he (Heap.get?_push_of_some _ (Heap.get?_push_size _ B.free)) fun b o x => Heap.get?_push_of_some _ (Heap.get?_push_of_some _ x)⟩
def IteT (K : PySem.W.Frag) (a : Addr) : It :=
  ⟨fun i H => ∃ (xs : List V) (x : V), SqT K H a xs ∧ xs[i]? = some x, fun i H v H' => ∃ T x, v = .ref T ∧ H T = none ∧ H' = upd H T (.tup [.int (i : Nat), x]) ∧ ∀ xs, SqT K H a xs → xs[i]? = some x, fun i H => ∃ xs : List V, SqT K H a xs ∧ xs.length = i⟩
theorem tup_ne_iter {h : Heap} {a it : Addr} {i : Nat} {items : Array Value} (p : h.IsTuple a items) (hit : h.IsTupleIter it a i) : a ≠ it := fun z => by
  obtain ⟨o, ho, hc, _⟩ := p
  obtain ⟨o2, ho2, hc2, _⟩ := hit
  rw [z, ho2] at ho
  cases ho
  rw [hc] at hc2
  exact absurd hc2 (by decide)
theorem tup_ne_enum {h : Heap} {a e it : Addr} {c : Int} {old : Value} {items : Array Value} (p : h.IsTuple a items) (he : IsEnum h e it c old) : e ≠ a := fun z => by
  obtain ⟨o, ho, hc, _⟩ := p
  have he : h.get? e = some _ := he
  rw [z, ho] at he
  cases he
  exact absurd (show Value.type "enumerate" = Value.type "tuple" from hc) (by decide)
theorem turn_enumT {P : Program} {w : World} {K : PySem.W.Frag} {elts : List Expr} {kk : Nat} {tpos : Pos} (a e it : Addr) :
    Turn P w K (.Tuple elts kk tpos) (IteT K a) [e, it] e (fun i h => (∃ old, IsEnum h e it ((i : Nat) : Int) old) ∧ h.IsTupleIter it a i ∧ e ≠ it) where
  mem := by simp
  obj := fun i h st b hb => by
    obtain ⟨⟨old, he⟩, ⟨o, ho, hc, hd⟩, _⟩ := st
    have e' : b = e ∨ b = it := by simpa using hb
    rcases e' with z | z
    · rw [z]; exact ⟨_, he, fun v q => nomatch q⟩
    · rw [z]; exact ⟨o, ho, fun v q => by rw [hd] at q; cases q⟩
  keep := fun i h h' st k => let ⟨⟨old, he⟩, hi, hne⟩ := st; ⟨⟨old, k e (by simp) _ he⟩, hi.at fun o q => k it (by simp) o q, hne⟩
  item := by
    intro X hP hw hK hc i pins s σ H E I hf st hg
    subst hP hw hK
    obtain ⟨⟨old, he⟩, hit, hne⟩ := st
    obtain ⟨xs, x, hq, hx⟩ := hg
    obtain ⟨its, rv, p, hz⟩ := I.tuple hq
    have p : s.heap.IsTuple a its.toArray := p
    obtain ⟨u, hu, ru⟩ := rv.get hx
    have hel : e < s.heap.objs.size := Heap.lt_size he
    have hil : it < s.heap.objs.size := by obtain ⟨_, q, _⟩ := hit; exact Heap.lt_size q
    have hai := tup_ne_iter p hit
    have hea := tup_ne_enum p he
    have hlt : i < its.toArray.size := by
      have := (List.getElem?_eq_some_iff.mp hu).1
      simpa using this
    refine wpAny_pyNext_enum_itemD (Draws.tuple (A := X.A.in1) (by show X.A.handled = none; exact I.ok.hd hc) it a hai its.toArray) he ⟨hit, p⟩ hlt hne (by simp [hne, hea]) fun x' h' tk hP ho hs' hT hsz hk => ?_
    have ex : x' = u := by
      have h1 : its.toArray[i]? = some u := by simpa using hu
      rw [h1] at hP
      exact (Option.some.inj hP).symm
    subst ex
    refine ⟨_, rfl, wpAny_letOwnedTupleGo_enum (s := { s with heap := h', toks := tk + 1 }) ho fun h'' he' sb => ?_⟩
    have hT2 : h''.get? s.heap.objs.size = some { cls := .type "tuple", data := .seq #[.int i tk, x'] } := (sb.2 _ (Nat.ne_of_gt hel)).trans hT
    have new : ObjOk X.prog X.w (upd H s.heap.objs.size (.tup [.int (i : Nat), x])) h'' s.heap.objs.size (.tup [.int (i : Nat), x]) :=
      ⟨by show 2 ≤ sizeLine; decide, [.int i tk, x'], .cons ⟨_, rfl⟩ (.cons ru .nil), ⟨_, hT2, rfl, _, rfl⟩⟩
    have I1 : Inv X pins σ (upd H s.heap.objs.size (.tup [.int (i : Nat), x])) { s with heap := h'', toks := tk + 1 } :=
      I.turnedNew (ch := [e, it]) (fun b ob hb q => (sb.2 b (fun z => hb (by simp [z]))).trans (hk b ob (fun z => hb (by simp [z])) (fun z => hb (by simp [z])) q)) hf (Nat.le_refl _) new
    refine ⟨.ref s.heap.objs.size, _, I1, rfl, ⟨_, x, rfl, I.hok.fresh (Nat.le_refl _), rfl, fun ys hy => by rw [I.tuple_inj hy hq]; exact hx⟩, ⟨⟨x', ?_⟩, hs'.1.at fun o q => (sb.2 it (Ne.symm hne)).trans q, hne⟩, fun b hb => ?_⟩
    · have e1 : ((i + 1 : Nat) : Int) = (i : Int) + 1 := by omega
      rw [e1]; exact he'
    · have hb' : b < s.heap.objs.size := by
        have e' : b = e ∨ b = it := by simpa using hb
        rcases e' with z | z
        · rw [z]; exact hel
        · rw [z]; exact hil
      rw [upd_ne (Nat.ne_of_lt hb')]
      exact (hf b hb).1
  done := by
    intro X hP hw hK hc i pins s σ H E I hf st hg
    subst hP hw hK
    obtain ⟨⟨old, he⟩, hit, hne⟩ := st
    obtain ⟨xs, hq, hx⟩ := hg
    obtain ⟨its, rv, p, hz⟩ := I.tuple hq
    have p : s.heap.IsTuple a its.toArray := p
    obtain ⟨f0, f1, f2, f3, f4, f5⟩ := hf it (by simp)
    have hl := rv.length
    have hai := tup_ne_iter p hit
    have hil : i = its.toArray.size := by simp; omega
    subst hil
    exact wpAny_pyNext_enum_endD (Draws.tuple (A := X.A.in1) (by show X.A.handled = none; exact I.ok.hd hc) it a hai its.toArray) he ⟨hit, p⟩ fun h' eb => ⟨rfl, I.turned (t' := s.toks) (fun b o hb q => eb b o hb q) f0 f1 f3 f4 f5⟩
  self := fun A i s Q E st h => let ⟨⟨_, he⟩, _⟩ := st; wpAny_pyIter_enum he h
def iEnumA (K : PySem.W.Frag) (ta : TA) : TI := fun σ H R => ta σ H fun vs H1 => ∃ a, vs = [.ref a] ∧ ((∃ xs, SqL K H1 a xs ∧ R (Ite K a) H1) ∨ (∃ xs, SqT K H1 a xs ∧ R (IteT K a) H1))
theorem pi_enumA {X : Cx} {e : Expr} {ta : TA} {p pos tpos : Pos} {elts : List Expr} {kk : Nat} (hg : Gl X "enumerate") (hm : X.mg "enumerate" = none) (ha : PA X [e] ta) (hs : starEach [e] X.env = [(false, eval e X.env)] := by rfl) :
    PI X (.Tuple elts kk tpos) (.Call (.Name "enumerate" p) [e] [] pos) (iEnumA X.K ta) := by
  refine ⟨fun pins s σ H R I h => ?_⟩
  refine Call_ (ld_blt I hg hm boot_enumerate (PyProof.Rows.callWith_type1 (thn (ha.run pos pins s σ H _ I h) fun us s1 ⟨vs, H1, I1, r1, q1⟩ => ?_) hs rfl))
  obtain ⟨a, ex, q1⟩ := q1
  subst ex
  cases r1 with
  | cons r rr =>
    cases rr
    cases r
    have fp2 : ∀ b ∈ [s1.heap.objs.size + 1, s1.heap.objs.size], FpOk X pins H1 b := fun b hb => by
      have e' : b = s1.heap.objs.size + 1 ∨ b = s1.heap.objs.size := by simpa using hb
      have hle : s1.heap.objs.size ≤ b := by
        rcases e' with z | z
        · rw [z]; exact Nat.le_add_right _ _
        · rw [z]; exact Nat.le_refl _
      exact I1.fpOk hle (I1.hok.fresh hle)
    rcases q1 with ⟨xs, hq, q⟩ | ⟨xs, hq, q⟩
    · obtain ⟨its, rv, p', hz⟩ := I1.list hq
      refine call_enumerate_list p'.isList fun h' he hit hsz hk => wpAny_pyIter_enum he ?_
      exact ⟨s1.heap.objs.size + 1, [s1.heap.objs.size + 1, s1.heap.objs.size], _, _, H1, rfl, I1.kept (t' := s1.toks) hk, turn_enum a (s1.heap.objs.size + 1) s1.heap.objs.size, ⟨⟨.none, he⟩, hit, Nat.succ_ne_self _⟩, fp2, q⟩
    · obtain ⟨its, rv, p', hz⟩ := I1.tuple hq
      have p' : s1.heap.IsTuple a its.toArray := p'
      refine enum1_begins (begins_tuple a its.toArray) p' fun h' he hit hk => wpAny_pyIter_enum he ?_
      exact ⟨s1.heap.objs.size + 1, [s1.heap.objs.size + 1, s1.heap.objs.size], _, _, H1, rfl, I1.kept (t' := s1.toks) hk, turn_enumT a (s1.heap.objs.size + 1) s1.heap.objs.size, ⟨⟨.none, he⟩, ⟨_, hit, rfl, rfl⟩, Nat.succ_ne_self _⟩, fp2, q⟩
section
variable {X : Cx} {K : PySem.W.Frag} {H0 : Gh} {Hs H H' H1 H2 : Hp} {W : WX} {env e e1 e2 : En} {σ σ' σ1 : L2.St}
def enumD : Nat → List D → List D
  | _, [] => []
  | i, d :: ds => .tuple [.int (i : Nat), d] :: enumD (i + 1) ds
theorem enumD_len : ∀ {ds : List D} {i : Nat}, (enumD i ds).length = ds.length
  | [], _ => rfl
  | _ :: ds, i => by unfold enumD; rw [List.length_cons, List.length_cons, enumD_len]
theorem enumD_get : ∀ {ds : List D} {i j : Nat} {d : D}, ds[j]? = some d → (enumD i ds)[j]? = some (.tuple [.int ((i + j : Nat) : Int), d])
  | d :: ds, i, 0, _, h => by cases h; rfl
  | d :: ds, i, j + 1, _, h => by
    unfold enumD
    rw [List.getElem?_cons_succ, enumD_get (by simpa using h)]
    rw [show i + 1 + j = i + (j + 1) by omega]
def zipD : List D → List D → List D
  | a :: as, b :: bs => .tuple [a, b] :: zipD as bs
  | _, _ => []
theorem zipD_len : ∀ {as bs : List D}, (zipD as bs).length = min as.length bs.length
  | [], _ => by unfold zipD; simp
  | _ :: _, [] => by unfold zipD; simp
  | a :: as, b :: bs => by unfold zipD; rw [List.length_cons, List.length_cons, List.length_cons, zipD_len]; omega
theorem zipD_get : ∀ {as bs : List D} {j : Nat} {a b : D}, as[j]? = some a → bs[j]? = some b → (zipD as bs)[j]? = some (.tuple [a, b])
  | a :: as, b :: bs, 0, _, _, h1, h2 => by cases h1; cases h2; rfl
  | a :: as, b :: bs, j + 1, _, _, h1, h2 => by
    unfold zipD
    rw [List.getElem?_cons_succ]
    exact zipD_get (by simpa using h1) (by simpa using h2)
theorem pair_rp {T : Addr} {x y : V} {d d' : D} (hT : H T = none) (r1 : Rp K H x d) (r2 : Rp K H y d') : Step (fun _ => False) H (upd H T (.tup [x, y])) ∧ Rp K (upd H T (.tup [x, y])) (.ref T) (.tuple [d, d']) := by
  have st : Step (fun _ => False) H (upd H T (.tup [x, y])) := step0_upd hT
  exact ⟨st, .tup (.of upd_same) (.cons (r1.stab (stab_step0 st)) (.cons (r2.stab (stab_step0 st)) .nil))⟩
theorem wk_enumL {a : Addr} {xs : List V} {ds : List D} (h : LstZ K H a xs) (r : RpAll K H xs ds) : Wk K (Ite K a) (enumD 0 ds) H :=
  ⟨fun H => LstZ K H a xs ∧ RpAll K H xs ds, YPair (fun i => some (.int (i : Nat))) (fun i => xs[i]?), by rw [enumD_len, ← r.len]; exact walk_enum.mono (fun H h => h.1.sq) fun _ _ _ _ _ _ y => y, ⟨h, r⟩, fun H H' g s => ⟨g.1.stab s, g.2.stab s⟩, fun i H v H' hi g y => by
    obtain ⟨T, x, z, h1, h2, h3, h4, h5⟩ := y
    cases h4
    subst h1; subst h3
    obtain ⟨d, e1, e2⟩ := g.2.get' h5
    obtain ⟨p1, p2⟩ := pair_rp h2 (.int (i : Nat)) e2
    exact ⟨p1, _, by have := enumD_get (i := 0) e1; rw [Nat.zero_add] at this; exact this, p2⟩⟩
theorem wk_enumT {a : Addr} {xs : List V} {ds : List D} (h : SqT K H a xs) (r : RpAll K H xs ds) : Wk K (IteT K a) (enumD 0 ds) H :=
  ⟨fun H => SqT K H a xs ∧ RpAll K H xs ds, YPair (fun i => some (.int (i : Nat))) (fun i => xs[i]?), by
    rw [enumD_len, ← r.len]
    refine ⟨fun i _ hi q => ⟨xs, xs[i], q.1, by simp [hi]⟩, fun _ q => ⟨xs, q.1, rfl⟩, fun i H v H' _ q y => ?_⟩
    obtain ⟨T, x, h1, h2, h3, h4⟩ := y
    exact ⟨T, .int (i : Nat), x, h1, h2, h3, rfl, h4 xs q.1⟩, ⟨h, r⟩, fun H H' g s => ⟨sqT_stab s g.1, g.2.stab s⟩, fun i H v H' hi g y => by
    obtain ⟨T, x, z, h1, h2, h3, h4, h5⟩ := y
    cases h4
    subst h1; subst h3
    obtain ⟨d, e1, e2⟩ := g.2.get' h5
    obtain ⟨p1, p2⟩ := pair_rp h2 (.int (i : Nat)) e2
    exact ⟨p1, _, by have := enumD_get (i := 0) e1; rw [Nat.zero_add] at this; exact this, p2⟩⟩
def iEn (f : SE) : SI := fun e => (f e).bind fun v e1 => match v.take e1 with
  | some (.list ds, e2) => .ok (enumD 0 ds) e2
  | some (.tuple ds, e2) => .ok (enumD 0 ds) e2
  | _ => .bad
theorem fi_enum {x : Expr} {f : SE} {p pos tpos : Pos} {elts : List Expr} {kk : Nat} (hg : Gl X "enumerate") (hm : X.mg "enumerate" = none) (h : FEx X H0 W x f) (hs : starEach [x] X.env = [(false, eval x X.env)] := by rfl) :
    FIx X H0 W (.Tuple elts kk tpos) (.Call (.Name "enumerate" p) [x] [] pos) (iEn f) :=
  PI.imp (pi_enumA hg hm (pa_cons (PE.vs h) pa_nil (by rw [hs]; rfl)) hs) fun σ H Rr hq => tE_bindI hq fun env e1 v x H1 er er1 st sb vr q => by
    cases ht : v.take e1 with
    | none => rw [ht] at q; exact q.elim
    | some p =>
      obtain ⟨d, e2⟩ := p
      rw [ht] at q
      refine take_go er er1 st sb vr ht fun H2 st2 er2 sb2 rp => ?_
      cases d with
      | list ds =>
        cases rp with
        | lst h1 h2 => exact ⟨_, rfl, .inl ⟨_, h1.sq, q _ H2 st2 er2 sb2 (wk_enumL h1 h2)⟩⟩
      | tuple ds =>
        cases rp with
        | tup h1 h2 => exact ⟨_, rfl, .inr ⟨_, h1, q _ H2 st2 er2 sb2 (wk_enumT h1 h2)⟩⟩
      | _ => exact q.elim
theorem fi_r2 {tg a b : Expr} {f g : SE} {p pos : Pos} (hg : Gl X "range") (hm : X.mg "range" = none) (ha : FEx X H0 W a f) (hb : FEx X H0 W b g) (hs : starEach [a, b] X.env = [(false, eval a X.env), (false, eval b X.env)] := by rfl) (hs2 : starEach [b] X.env = [(false, eval b X.env)] := by rfl) :
    FIx X H0 W tg (.Call (.Name "range" p) [a, b] [] pos) (iR2 f g) :=
  PI.imp (pi_range2 hg hm (pa_cons ha (pa_cons hb pa_nil (by rw [hs2]; rfl)) (by rw [hs, hs2])) hs hs2) fun σ H Rr hq => by
    obtain ⟨env, er, q⟩ := hq
    refine ⟨env, er, ?_⟩
    unfold iR2 at q
    cases hf : f env with
    | bad => rw [hf] at q; exact q
    | exc xc e' => rw [hf] at q; exact q
    | ok v e1 =>
      rw [hf] at q
      intro x H1 st er1 sb vr
      refine ⟨e1, er1, ?_⟩
      have q : pI X H0 W env σ H Rr ((g e1).bind fun w e2 => match v.get e2, w.get e2 with
        | some (.int i), some (.int j) => if (-(2 ^ 62) ≤ i ∧ i < 2 ^ 62) ∧ -(2 ^ 62) ≤ j ∧ j < 2 ^ 62 then .ok (intsD i (j - i).toNat) e2 else .bad
        | _, _ => .bad) := q
      cases hg2 : g e1 with
      | bad => rw [hg2] at q; exact q
      | exc xc e' =>
        rw [hg2] at q
        exact fun cls dd H2 st2 er2 sb2 xr => q cls dd H2 (st.seq sb st2) er2 (sb.trans sb2) xr
      | ok w e2 =>
        rw [hg2] at q
        intro y H2 st2 er2 sb2 vr2
        have q : pI X H0 W env σ H Rr (match v.get e2, w.get e2 with
          | some (.int i), some (.int j) => if (-(2 ^ 62) ≤ i ∧ i < 2 ^ 62) ∧ -(2 ^ 62) ≤ j ∧ j < 2 ^ 62 then .ok (intsD i (j - i).toNat) e2 else .bad
          | _, _ => .bad) := q
        have vr' := vr.go er sb er1 st2
        cases h1 : v.get e2 with
        | none => rw [h1] at q; exact q.elim
        | some d1 =>
          cases h2 : w.get e2 with
          | none => rw [h1, h2] at q; cases d1 <;> exact q.elim
          | some d2 =>
            rw [h1, h2] at q
            cases d1 <;> first | exact q.elim | skip
            cases d2 <;> first | exact q.elim | skip
            rename_i i j
            simp only at q
            split at q
            · rename_i hb
              exact ⟨i, j, by rw [(vr'.vd er2 h1).int, (vr2.vd er2 h2).int], ⟨hb.1.1, hb.1.2, hb.2.1, hb.2.2⟩, q _ H2 (st.seq sb st2) er2 (sb.trans sb2) wk_rng⟩
            · exact q.elim
/-! zip -/
def iZp (f g : SE) : SI := fun e => (aCons f (aCons g aNil) e).bind fun vs e1 => match takeL vs e1 with
  | some ([.list as, .list bs], e2) => .ok (zipD as bs) e2
  | some ([.tuple as, .tuple bs], e2) => .ok (zipD as bs) e2
  | _ => .bad
end
end FE
end
section
set_option Elab.async false
set_option linter.all false
set_option maxRecDepth 100000
namespace FE
open PySem PySem.Spec PyProof.Rows L2
section
variable {X : Cx} {K : PySem.W.Frag} {H0 : Gh} {Hs H H' H1 H2 : Hp} {W : WX} {env e e1 e2 : En} {σ σ' σ1 : L2.St}

/-! ### zip -/
theorem wk_zipL {a b : Addr} {xs ys : List V} {ds es : List D} (h : LstZ K H a xs) (h2 : LstZ K H b ys) (r : RpAll K H xs ds) (r2 : RpAll K H ys es) : Wk K (Itz K a b) (zipD ds es) H :=
  ⟨fun H => (LstZ K H a xs ∧ LstZ K H b ys) ∧ RpAll K H xs ds ∧ RpAll K H ys es, YPair (fun i => xs[i]?) (fun i => ys[i]?), (walk_zip (by rw [zipD_len, r.len, r2.len])).mono (fun H h => ⟨h.1.1.sq, h.1.2.sq⟩) fun _ _ _ _ _ _ y => y, ⟨⟨h, h2⟩, r, r2⟩, fun H H' g s => ⟨⟨g.1.1.stab s, g.1.2.stab s⟩, g.2.1.stab s, g.2.2.stab s⟩, fun i H v H' hi g y => by
    obtain ⟨T, x, z, h1, h2, h3, h4, h5⟩ := y
    subst h1; subst h3
    obtain ⟨d, e1, e2⟩ := g.2.1.get' h4
    obtain ⟨d', e3, e4⟩ := g.2.2.get' h5
    obtain ⟨p1, p2⟩ := pair_rp h2 e2 e4
    exact ⟨p1, _, zipD_get e1 e3, p2⟩⟩
theorem wk_zipT {a b : Addr} {xs ys : List V} {ds es : List D} (h : SqT K H a xs) (h2 : SqT K H b ys) (r : RpAll K H xs ds) (r2 : RpAll K H ys es) : Wk K (RZ.ItzT K a b) (zipD ds es) H :=
  ⟨fun H => (SqT K H a xs ∧ SqT K H b ys) ∧ RpAll K H xs ds ∧ RpAll K H ys es, YPair (fun i => xs[i]?) (fun i => ys[i]?), by
    have hn : (zipD ds es).length = min xs.length ys.length := by rw [zipD_len, r.len, r2.len]
    rw [hn]
    refine ⟨fun i _ hi q => ?_, fun _ q => ⟨xs, ys, q.1.1, q.1.2, by omega⟩, fun i H v H' _ q y => ?_⟩
    · have h1 : i < xs.length := by omega
      have h2 : i < ys.length := by omega
      exact ⟨xs, ys, xs[i], ys[i], q.1.1, q.1.2, by simp [h1], by simp [h2]⟩
    · obtain ⟨T, x, y, h1, h2, h3, h4, h5⟩ := y
      exact ⟨T, x, y, h1, h2, h3, h4 xs q.1.1, h5 ys q.1.2⟩, ⟨⟨h, h2⟩, r, r2⟩, fun H H' g s => ⟨⟨sqT_stab s g.1.1, sqT_stab s g.1.2⟩, g.2.1.stab s, g.2.2.stab s⟩, fun i H v H' hi g y => by
    obtain ⟨T, x, z, h1, h2, h3, h4, h5⟩ := y
    subst h1; subst h3
    obtain ⟨d, e1, e2⟩ := g.2.1.get' h4
    obtain ⟨d', e3, e4⟩ := g.2.2.get' h5
    obtain ⟨p1, p2⟩ := pair_rp h2 e2 e4
    exact ⟨p1, _, zipD_get e1 e3, p2⟩⟩
theorem tA_takeI {as : SA} {k : List D → En → R (List D)} {Rr : It → Hp → Prop} (h : tI X H0 W (fun e => (as e).bind fun vs e1 => match takeL vs e1 with
      | some (ds, e2) => k ds e2
      | none => .bad) σ H Rr) {Q' : List V → Hp → Prop}
    (i : ∀ env e2 xs ds H', ER X.K H0 e2 σ H' → Step (OA env σ) H H' → Sb env e2 → RpAll X.K H' xs ds → pI X H0 W env σ H Rr (k ds e2) → Q' xs H') : tA X H0 W as σ H fun xs H1 => Vs X σ (Q' xs) H1 := by
  obtain ⟨env, er, q⟩ := h
  refine ⟨env, er, ?_⟩
  have q : pI X H0 W env σ H Rr ((as env).bind fun vs e1 => match takeL vs e1 with
      | some (ds, e2) => k ds e2
      | none => .bad) := q
  cases hf : as env with
  | bad => rw [hf] at q; exact q
  | exc xc e' => rw [hf] at q; exact q
  | ok vs e1 =>
    rw [hf] at q
    intro xs H1 st1 er1 sb1 vr1
    simp only [R.bind_ok] at q
    cases ht : takeL vs e1 with
    | none => rw [ht] at q; exact q.elim
    | some p =>
      obtain ⟨ds, e2⟩ := p
      rw [ht] at q
      have fn := fun a ha => (VRs.fr_none vr1 a ha).1
      refine takeL_vs er1 vr1 (fun a ha z => VR.none_oa er (fn a ha) (sb1.oa z)) ht fun H2 st2 _ er2 sb2 rp => ?_
      exact i env e2 xs ds H2 er2 (st1.trans st2 fun b z => z.elim (fun z => .inl (sb1.oa z)) fun z => .inr (fn b z)) (sb1.trans sb2) rp q
def kZp (ds : List D) (e : En) : R (List D) := match ds with
  | [.list as, .list bs] => .ok (zipD as bs) e
  | [.tuple as, .tuple bs] => .ok (zipD as bs) e
  | _ => .bad
def iZip (as : SA) : SI := fun e => (as e).bind fun vs e1 => match takeL vs e1 with
  | some (ds, e2) => kZp ds e2
  | none => .bad
theorem fi_zip {x y : Expr} {as : SA} {p pos tpos : Pos} {elts : List Expr} {kk : Nat} (hg : Gl X "zip") (hm : X.mg "zip" = none) (h : FAx X H0 W [x, y] as)
    (hs : starEach [x, y] X.env = (false, eval x X.env) :: starEach [y] X.env := by rfl) (hpl : (backTo pos (starEach [y] X.env)).any (·.1) = false := by rfl) :
    FIx X H0 W (.Tuple elts kk tpos) (.Call (.Name "zip" p) [x, y] [] pos) (iZip as) :=
  PI.imp (RZ.pi_zipA hg hm (PA.vs h) hs hpl) fun σ H Rr hq => tA_takeI hq fun env e2 xs ds H' er st sb rp q => by
    cases rp with
    | nil => exact q.elim
    | @cons v1 vs1 d1 ds1 r1 r2 =>
      cases r2 with
      | nil => cases d1 <;> exact q.elim
      | @cons v2 vs2 d2 ds2 r2 r3 =>
        cases r3 with
        | cons r3 r4 => cases d1 <;> cases d2 <;> exact q.elim
        | nil =>
          cases d1 with
          | list as =>
            cases d2 with
            | list bs =>
              cases r1 with
              | lst p1 p2 =>
                cases r2 with
                | lst p3 p4 => exact ⟨_, _, _, _, rfl, .inl ⟨p1.sq, p3.sq, q _ H' st er sb (wk_zipL p1 p3 p2 p4)⟩⟩
            | _ => exact q.elim
          | tuple as =>
            cases d2 with
            | tuple bs =>
              cases r1 with
              | tup p1 p2 =>
                cases r2 with
                | tup p3 p4 => exact ⟨_, _, _, _, rfl, .inr ⟨p1, p3, q _ H' st er sb (wk_zipT p1 p3 p2 p4)⟩⟩
            | _ => exact q.elim
          | _ => exact q.elim

/-! ### isinstance(x, T), T a type of the library -/
inductive Ty where
  | int | bool | str | list | tuple
def Ty.name : Ty → String
  | .int => "int"
  | .bool => "bool"
  | .str => "str"
  | .list => "list"
  | .tuple => "tuple"
def isTy : Ty → D → Bool
  | .int, .int _ => true
  | .int, .bool _ => true
  | .bool, .bool _ => true
  | .str, .str _ => true
  | .list, .list _ => true
  | .tuple, .tuple _ => true
  | _, _ => false
def tyD : D → String
  | .none => "NoneType"
  | .bool _ => "bool"
  | .int _ => "int"
  | .str _ => "str"
  | .list _ => "list"
  | .tuple _ => "tuple"
  | .dict _ => "dict"
theorem tys (a b : String) (r : Bool) (h : kitB a b = some r) : kitB a b = some r := h
theorem kit_is (t : Ty) (d : D) (hd : ∀ kvs, d ≠ .dict kvs) : kitB (tyD d) t.name = some (isTy t d) := by
  cases d with
  | none => cases t <;> (show kitB "NoneType" _ = some false; decide +kernel)
  | bool b => cases t <;> first | (show kitB "bool" _ = some true; decide +kernel) | (show kitB "bool" _ = some false; decide +kernel)
  | int b => cases t <;> first | (show kitB "int" _ = some true; decide +kernel) | (show kitB "int" _ = some false; decide +kernel)
  | str b => cases t <;> first | (show kitB "str" _ = some true; decide +kernel) | (show kitB "str" _ = some false; decide +kernel)
  | list b => cases t <;> first | (show kitB "list" _ = some true; decide +kernel) | (show kitB "list" _ = some false; decide +kernel)
  | tuple b => cases t <;> first | (show kitB "tuple" _ = some true; decide +kernel) | (show kitB "tuple" _ = some false; decide +kernel)
  | dict b => exact absurd rfl (hd b)
theorem Rp.nodict {x : V} {kvs} : ¬ Rp K H x (.dict kvs) := fun h => by cases h
theorem VD.ty {x : V} {d : D} (h : VD K H x d) : (∀ kvs, d ≠ .dict kvs) ∧ TyX K H x (.type (tyD d)) := by
  rcases h with h | ⟨a, e, h⟩
  · cases h with
    | non => exact ⟨fun _ z => (by cases z), .base .non⟩
    | bl b => exact ⟨fun _ z => (by cases z), .base (.bl b)⟩
    | int b => exact ⟨fun _ z => (by cases z), .base (.int b)⟩
    | str b => exact ⟨fun _ z => (by cases z), .base (.str b)⟩
    | lst h1 h2 =>
      refine ⟨fun _ z => (by cases z), ?_⟩
      rcases h1 with ⟨o, h1⟩ | ⟨o, its, n, h1, h3, _⟩
      · exact .base (.frz h1)
      · exact .kList h1 h3
    | tup h1 h2 =>
      refine ⟨fun _ z => (by cases z), ?_⟩
      rcases h1 with (h1 | ⟨o, h1⟩) | h1
      · exact .base (.tup h1)
      · exact .fTuple h1
      · obtain ⟨o, its, n, h1, h3, _⟩ := h1
        exact .kTuple h1 h3
  · cases d with
    | list ds =>
      obtain ⟨xs, h1, _⟩ := h
      subst e
      exact ⟨fun _ z => (by cases z), .base (.lst h1)⟩
    | _ => exact h.elim
def eIsi (t : Ty) (f : SE) : SE := fun e => (f e).bind fun v e1 => match v.get e1 with
  | some d => .ok (.sh (.bool (isTy t d))) e1
  | none => .bad
theorem fe_isi {t : Ty} {x : Expr} {f : SE} {T : Str} {p p2 pos : Pos} (hg : Gl X "isinstance") (hm : X.mg "isinstance" = none) (hx : FEx X H0 W x f) (hgT : Gl X T) (hmT : X.mg T = none) (hv : bootBuiltins T = some (.type t.name)) (hn : T ≠ "__name__" := by decide) (hd : (T == ("__debug__" : Str)) = false := by decide)
    (he : starEach [x, .Name T p2] X.env = (false, eval x X.env) :: starEach [.Name T p2] X.env := by rfl) (he2 : starEach [.Name T p2] X.env = (false, eval (.Name T p2) X.env) :: starEach [] X.env := by rfl) (hpl : (backTo pos (starEach [.Name T p2] X.env)).any (·.1) = false := by rfl) :
    FEx X H0 W (.Call (.Name "isinstance" p) [x, .Name T p2] [] pos) (eIsi t f) :=
  PE.imp (pe_callB call_isi hg hm PyProof.Rows.boot_isinstance (pa_cons hx (pa_cons (pe_bltn hgT hmT hv (v := .ty t.name) rfl hn hd) pa_nil he2) he) (by decide) (by decide) he hpl) fun σ H Q ⟨env, er, q⟩ => by
    refine ⟨env, er, ?_⟩
    unfold eIsi at q
    cases hf : f env with
    | bad => rw [hf] at q; exact q
    | exc xc e' => rw [hf] at q; exact q
    | ok v e1 =>
      rw [hf] at q
      intro y H1 st er1 sb vr
      simp only [R.bind_ok] at q
      cases hgv : v.get e1 with
      | none => rw [hgv] at q; exact q.elim
      | some d =>
        rw [hgv] at q
        obtain ⟨nd, ty⟩ := (vr.vd er1 hgv).ty
        exact ⟨y, .ty t.name, .type (tyD d), .type t.name, isTy t d, rfl, .ty _, ty, kit_ty (kit_is t d nd), q _ H1 st er1 sb (.bl _)⟩

/-! ### [..] * n -/
def eMulL (as : SA) : SE := fun e => (as e).bind fun vs e1 => match vs with
  | [.fr (.list xs), w] => match w.get e1 with
    | some (.int k) => if -(2 ^ 63) ≤ k ∧ k < 2 ^ 63 ∧ xs.length * k.toNat ≤ 1000000 then .ok (.fr (.list (List.replicate k.toNat xs).flatten)) e1 else .bad
    | _ => .bad
  | _ => .bad
theorem tA_two {f g : SE} {Q : List V → Hp → Prop} (h : tA X H0 W (a2 f g) σ H Q) : tE X H0 W f σ H fun x H1 => tE X H0 W g σ H1 fun y H2 => Q [x, y] H2 := by
  obtain ⟨env, er, q⟩ := tA_cons h
  refine ⟨env, er, ?_⟩
  cases hf : f env with
  | bad => rw [hf] at q; exact q
  | exc xc e' => rw [hf] at q; exact q
  | ok v e' =>
    rw [hf] at q
    intro x H1 st er1 sb vr
    obtain ⟨env2, er2, q2⟩ := tA_cons (q x H1 st er1 sb vr)
    refine ⟨env2, er2, ?_⟩
    cases hf2 : g env2 with
    | bad => rw [hf2] at q2; exact q2
    | exc xc e2 => rw [hf2] at q2; exact q2
    | ok v2 e2 =>
      rw [hf2] at q2
      exact fun y H2 st2 er3 sb2 vr2 => tA_nil (q2 y H2 st2 er3 sb2 vr2)
theorem tE_mulL {as : SA} {Q : VK} (h : tE X H0 W (eMulL as) σ H Q) : tA X H0 W as σ H fun xs H1 => ∃ x y, xs = [x, y] ∧ (∃ l, ∃ k : Int, ∃ ys, x = .ref l ∧ y = .int k ∧ H1 l = some (.lst ys) ∧ -(2 ^ 63) ≤ k ∧ k < 2 ^ 63 ∧ ys.length * k.toNat ≤ sizeLine ∧ ∀ p, H1 p = none → Q (.ref p) (upd H1 p (.lst (List.replicate k.toNat ys).flatten))) := by
  obtain ⟨env, er, q⟩ := h
  refine ⟨env, er, ?_⟩
  unfold eMulL at q
  cases hf : as env with
  | bad => rw [hf] at q; exact q
  | exc xc e' => rw [hf] at q; exact q
  | ok vs e1 =>
    rw [hf] at q
    intro xs H1 st er1 sb vr
    simp only [R.bind_ok] at q
    split at q
    · rename_i ys w
      split at q
      · rename_i k hw
        split at q
        · rename_i hk
          cases vr with
          | @cons _ x _ xs' v1 v2 v3 =>
            cases v2 with
            | @cons _ y _ xs'' v4 v5 v6 =>
              cases v5
              obtain ⟨l, el, hn, us, h1, h2⟩ := v1
              subst el
              have l1 := h2.len
              refine ⟨_, _, rfl, l, k, us, rfl, (v4.vd er1 hw).int, h1, hk.1, hk.2.1, lim6 (by rw [l1]; exact hk.2.2), fun p hp => ?_⟩
              have s0 : Step (fun _ => False) H1 (upd H1 p (.lst (List.replicate k.toNat us).flatten)) := step0_upd hp
              exact q _ _ (st.trans s0 fun _ z => z.elim) (er1.step0 s0) sb ⟨p, rfl, none_back st hp, _, upd_same, (h2.rep _).stab (stab_step0 s0)⟩
        · exact q.elim
      · exact q.elim
    · exact q.elim
theorem fe_mulL {a b : Expr} {fa fb : SE} {pos : Pos} (ha : FEx X H0 W a fa) (hb : FEx X H0 W b fb) : FEx X H0 W (.BinOp a .Mult b pos) (eMulL (a2 fa fb)) :=
  PE.imp (pe_op (op_rep (X := X)) ha hb) fun σ H Q h => by
    obtain ⟨env, er, q⟩ := tA_two (tE_mulL h)
    refine ⟨env, er, ?_⟩
    cases hf : fa env with
    | bad => rw [hf] at q; exact q
    | exc xc e' => rw [hf] at q; exact q
    | ok v e' =>
      rw [hf] at q
      intro x H1 st er1 sb vr
      obtain ⟨env2, er2, q2⟩ := q x H1 st er1 sb vr
      refine ⟨env2, er2, ?_⟩
      cases hf2 : fb env2 with
      | bad => rw [hf2] at q2; exact q2
      | exc xc e2 => rw [hf2] at q2; exact q2
      | ok v2 e2 =>
        rw [hf2] at q2
        intro y H2 st2 er3 sb2 vr2
        obtain ⟨x', y', e, l, k, ys, h1, h2, h3, h4, h5, h6, h7⟩ := q2 y H2 st2 er3 sb2 vr2
        cases e
        exact ⟨l, k, ys, h1, h2, h3, h4, h5, h6, h7⟩

/-! ### repr -/
def gRepr : List D → Option (Bool × D)
  | [d] => if isDisplay d && d.showable && !d.hasDict && decide (d.depth ≤ 100) && decide (d.shown.length ≤ 1000000) then some (false, .str d.shown) else none
  | _ => none
theorem cr_repr (hgu : X.A.guards = some []) (hu : X.A.units + 150 < cLine) : CallR X (.builtin "repr") (NR X.K gRepr) := by
  intro pins s σ H xs us Q I r h
  obtain ⟨ds, r', vd, hg, oc⟩ := h
  cases vd with
  | nil => cases hg
  | @cons x xs d ds h1 h2 =>
    cases h2 with
    | cons h2 h3 => cases hg
    | nil =>
      obtain ⟨hz, er⟩ := ite_some (show (if (isDisplay d && d.showable && !d.hasDict && decide (d.depth ≤ 100) && decide (d.shown.length ≤ 1000000)) = true then some (false, PyData.str d.shown) else none) = some r' from hg)
      subst er
      simp only [Bool.and_eq_true, decide_eq_true_eq, Bool.not_eq_true'] at hz
      obtain ⟨⟨⟨⟨z1, z2⟩, z3⟩, z4⟩, z5⟩ := hz
      cases r with
      | cons rx rr =>
        cases rr
        obtain ⟨as, r1⟩ := Dp.reads I d x _ h1.dp rx
        obtain ⟨a, ea⟩ := isRef_of_reads r1 z1
        subst ea
        exact repr_of_reads' r1 z2 (PyData.noDict_hsm z3) hgu (by omega) (fun _ _ e => e) (fun h' u tk hk => ⟨.str d.shown, H, I.kept (t' := tk) hk, ⟨u, rfl⟩, oc.str⟩) (lim6 z5)
end
end FE
end
section
set_option Elab.async false
set_option linter.all false
set_option maxRecDepth 100000
namespace FE
open PySem PySem.Spec PyProof.Rows L2
section
variable {X : Cx} {K : PySem.W.Frag} {H0 : Gh} {Hs H H' H1 H2 : Hp} {W : WX} {env e e1 e2 : En} {σ σ' σ1 : L2.St}

/-! ### a, b = x, y -/
/-- frozen, if not fresh -/
def stl (v : Vl) (e : En) : Option (Vl × En) := match v with
  | .fr d => some (.fr d, e)
  | v => match v.take e with
    | some (d, e1) => some (.sh d, e1)
    | none => none
def stlL : List Vl → En → Option (List Vl × En)
  | [], e => some ([], e)
  | v :: vs, e => match stl v e with
    | some (w, e1) => match stlL vs e1 with
      | some (ws, e2) => some (w :: ws, e2)
      | none => none
    | none => none
def NoLt : List Vl → Prop
  | [] => True
  | .lt _ :: _ => False
  | _ :: vs => NoLt vs
theorem stlL_vs : ∀ {vs ws : List Vl} {xs : List V} {e e2 : En} {H : Hp} {Q : Hp → Prop}, ER X.K H0 e σ H → VRs X.K σ Hs H vs xs → stlL vs e = some (ws, e2) →
    (∀ H', Step (OA e σ) H H' → Stab H H' → ER X.K H0 e2 σ H' → Sb e e2 → VRs X.K σ Hs H' ws xs → NoLt ws → frA ws xs = frA vs xs → Q H') → (∀ a ∈ frA vs xs, ¬ OA e σ a) → Vs X σ Q H
  | [], _, _, e, _, H, _, er, .nil, t, q, _ => by
    cases t
    exact .pure (q H (.refl _ _) (.refl _) er (.refl _) .nil trivial rfl)
  | v :: vs, ws', _, e, e2, H, Q, er, @VRs.cons _ _ _ _ _ x _ xs h1 h2 h3, t, q, no => by
    have t : (match stl v e with
      | some (w, e1) => match stlL vs e1 with
        | some (ws, e2) => some (w :: ws, e2)
        | none => none
      | none => none) = some (ws', e2) := t
    have rest : ∀ {w : Vl} {e1 : En} {H1 : Hp}, stl v e = some (w, e1) → Step (OA e σ) H H1 → Stab H H1 → ER X.K H0 e1 σ H1 → Sb e e1 → VR X.K σ Hs H1 w x → (∀ i, w ≠ .lt i) → (∀ d, w = .fr d ↔ v = .fr d) → Vs X σ Q H1 := fun {w e1 H1} hst st1 sta er1 sb1 vr1 nl hfr => by
      rw [hst] at t
      have t : (match stlL vs e1 with
        | some (ws, e2) => some (w :: ws, e2)
        | none => none) = some (ws', e2) := t
      cases ht : stlL vs e1 with
      | none => rw [ht] at t; cases t
      | some p =>
        obtain ⟨ws, e3⟩ := p
        rw [ht] at t
        cases t
        have sub : ∀ a ∈ frA vs xs, a ∈ frA (v :: vs) (x :: xs) := fun a ha => by
          cases v <;> cases x <;> first | exact ha | exact List.mem_cons_of_mem _ ha
        refine stlL_vs er1 (h2.step sta fun a ha o ho => st1.keep a _ ho (no a (sub a ha)) nt_lst) ht (fun H2 st2 sta2 er2 sb2 vrs nlt hf => ?_) fun a ha z => no a (sub a ha) (sb1.oa z)
        have hnoa : ∀ d a, w = .fr d → x = .ref a → ¬ OA e1 σ a := fun d a ew ex z => by
          have ev := (hfr d).mp ew
          subst ev; subst ex
          exact no a List.mem_cons_self (sb1.oa z)
        refine q H2 (st1.seq sb1 st2) (sta.trans sta2) er2 (sb1.trans sb2) (.cons ?_ vrs fun d a ew ex => ?_) ?_ ?_
        · cases w with
          | lt i => exact absurd rfl (nl i)
          | sh d => exact Rp.stab sta2 vr1
          | fr d =>
            obtain ⟨a, ex, hn, ho⟩ := vr1
            exact ⟨a, ex, hn, ho.stab sta2 fun o hk => st2.keep a _ hk (hnoa d a rfl ex) nt_lst⟩
        · rw [hf]
          exact h3 d a ((hfr d).mp ew) ex
        · cases w with
          | lt i => exact absurd rfl (nl i)
          | sh d => exact nlt
          | fr d => exact nlt
        · cases w with
          | lt i => exact absurd rfl (nl i)
          | sh d =>
            cases v with
            | fr d' => have z := (hfr d').mpr rfl; cases z
            | sh d' => exact hf
            | lt j => exact hf
          | fr d =>
            have ev := (hfr d).mp rfl
            subst ev
            cases x <;> first | exact hf | (show _ :: _ = _ :: _; rw [hf])
    have viaTake : (∀ d, v ≠ .fr d) → Vs X σ Q H := fun hv => by
      have hs : stl v e = (match v.take e with
        | some (d, e1) => some (.sh d, e1)
        | none => none) := by
        cases v with
        | fr d => exact absurd rfl (hv d)
        | sh d => rfl
        | lt i => rfl
      cases htk : v.take e with
      | none => rw [htk] at hs; rw [hs] at t; cases t
      | some p =>
        obtain ⟨d, e1⟩ := p
        rw [htk] at hs
        refine Vs.bind (take_vs er h1 (fun d' a ev _ => absurd ev (hv d')) htk fun H1 st1 sta er1 sb1 rp => ?_)
        exact rest hs (st1.imp fun b z => z.elim (fun z => z) fun ⟨d', ev, _⟩ => absurd ev (hv d')) sta er1 sb1 rp (fun i z => by cases z) fun d' => ⟨fun z => (by cases z), fun z => absurd z (hv d')⟩
    cases v with
    | sh d => exact viaTake fun d z => by cases z
    | lt i => exact viaTake fun d z => by cases z
    | fr d => exact rest (w := .fr d) (e1 := e) rfl (.refl _ _) (.refl _) er (.refl _) h1 (fun i z => by cases z) fun d' => Iff.rfl
def setsE : List Nat → List Vl → En → En
  | i :: is, .fr d :: vs, e => setsE is vs (e.set i (.ow d))
  | i :: is, .sh d :: vs, e => setsE is vs (e.set i (.sh d))
  | _, _, e => e
def setsσ : List Nat → List V → L2.St → L2.St
  | i :: is, x :: xs, σ => setsσ is xs (σ.set i (some x))
  | _, _, σ => σ
theorem sets_ok : ∀ {is : List Nat} {vs : List Vl} {xs : List V} {e : En} {σ : L2.St}, is.length = vs.length → NoLt vs → ER K H0 e σ H → VRs K σ1 Hs H vs xs → (∀ a ∈ frA vs xs, ¬ OA e σ a ∧ H0 a = none ∧ Hs a = none) →
    ER K H0 (setsE is vs e) (setsσ is xs σ) H ∧ SbS e (setsE is vs e) σ (setsσ is xs σ) Hs
  | [], [], _, e, σ, _, _, er, .nil, _ => ⟨er, .refl⟩
  | i :: is, .lt _ :: vs, _, e, σ, _, nl, er, _, _ => nl.elim
  | i :: is, .sh d :: vs, _, e, σ, hl, nl, er, @VRs.cons _ _ _ _ _ x _ xs h1 h2 h3, no => by
    have oa : ∀ a, OA (e.set i (.sh d)) (σ.set i (some x)) a → OA e σ a := fun a ⟨j, s, p1, p2, p3⟩ => by
      by_cases z : i = j
      · subst z
        have hlt := (List.getElem?_eq_some_iff.mp p1).1
        rw [List.length_set] at hlt
        rw [List.getElem?_set_self hlt] at p1
        cases p1; exact absurd rfl p2
      · rw [List.getElem?_set_ne z] at p1 p3
        exact ⟨j, s, p1, p2, p3⟩
    obtain ⟨q1, q2⟩ := sets_ok (is := is) (vs := vs) (xs := xs) (e := e.set i (.sh d)) (σ := σ.set i (some x)) (by simpa using hl) nl (er.setSh h1) h2 fun a ha => ⟨fun z => (no a ha).1 (oa a z), (no a ha).2⟩
    exact ⟨q1, (SbS.setS (fun d => ⟨fun z => (by cases z), fun z => (by cases z)⟩) (fun a _ z => absurd rfl z) er.len).trans0 q2⟩
  | i :: is, .fr d :: vs, _, e, σ, hl, nl, er, @VRs.cons _ _ _ _ _ x _ xs h1 h2 h3, no => by
    obtain ⟨a, ex, hn, ho⟩ := h1
    subst ex
    have hno := no a List.mem_cons_self
    have oa : ∀ b, b ≠ a → OA (e.set i (.ow d)) (σ.set i (some (.ref a))) b → OA e σ b := fun b hb ⟨j, s, p1, p2, p3⟩ => by
      by_cases z : i = j
      · subst z
        have hlt := (List.getElem?_eq_some_iff.mp p3).1
        rw [List.length_set] at hlt
        rw [List.getElem?_set_self hlt] at p3
        cases p3; exact absurd rfl hb
      · rw [List.getElem?_set_ne z] at p1 p3
        exact ⟨j, s, p1, p2, p3⟩
    obtain ⟨q1, q2⟩ := sets_ok (is := is) (vs := vs) (xs := xs) (e := e.set i (.ow d)) (σ := σ.set i (some (.ref a))) (by simpa using hl) nl (er.setOw ho hno.1 hno.2.1) h2 fun b hb => ⟨fun z => (no b (List.mem_cons_of_mem _ hb)).1 (oa b (fun w => h3 d a rfl rfl (by rw [← w]; exact hb)) z), (no b (List.mem_cons_of_mem _ hb)).2⟩
    exact ⟨q1, (SbS.setS (fun d => ⟨fun z => (by cases z), fun z => (by cases z)⟩) (fun b eb _ => .inr (by cases eb; exact hno.2.2)) er.len).trans0 q2⟩
def sPar (is : List Nat) (as : SA) : SS := fun e => (as e).bind fun vs e1 => match stlL vs e1 with
  | some (ws, e2) => if is.length = ws.length then .ok .nx (setsE is ws e2) else .bad
  | none => .bad
theorem tA_par {is : List Nat} {as : SA} {D : Ends} (h : tS X H0 W (sPar is as) D σ H) : tA X H0 W as σ H fun xs H1 => Vs X σ (fun H2 => is.length = xs.length ∧ D.nx (setsσ is xs σ) H2) H1 := by
  obtain ⟨env, er, q⟩ := h
  refine ⟨env, er, ?_⟩
  have q : pS X H0 W env σ H D ((as env).bind fun vs e1 => match stlL vs e1 with
    | some (ws, e2) => if is.length = ws.length then .ok .nx (setsE is ws e2) else .bad
    | none => .bad) := q
  cases hf : as env with
  | bad => rw [hf] at q; exact q
  | exc xc e' =>
    rw [hf] at q
    exact fun cls dd H1 st er1 sb xr => q cls dd σ H1 st er1 sb.sbs xr
  | ok vs e1 =>
    rw [hf] at q
    intro xs H1 st1 er1 sb1 vr1
    simp only [R.bind_ok] at q
    cases ht : stlL vs e1 with
    | none => rw [ht] at q; exact q.elim
    | some p =>
      obtain ⟨ws, e2⟩ := p
      rw [ht] at q
      have fn := fun a ha => (VRs.fr_none vr1 a ha).1
      refine stlL_vs er1 vr1 ht (fun H2 st2 sta er2 sb2 vrs nlt hfr => ?_) fun a ha z => VR.none_oa er (fn a ha) (sb1.oa z)
      have q : pS X H0 W env σ H D (if is.length = ws.length then .ok .nx (setsE is ws e2) else .bad) := q
      split at q
      · rename_i hl
        have st' := st1.seq sb1 st2
        have sb' := sb1.trans sb2
        obtain ⟨er3, sb3⟩ := sets_ok (is := is) hl nlt er2 vrs fun a ha => by
          rw [hfr] at ha
          exact ⟨fun z => VR.none_oa er (fn a ha) (sb'.oa z), H0_none er (fn a ha), fn a ha⟩
        refine ⟨by rw [hl, vrs.len], q _ H2 st' er3 (sb'.sbs.trans0 sb3)⟩
      · exact q.elim
theorem fs_par {i j : Nat} {x y : Str} {a b : Expr} {as : SA} {px py pt pos : Pos} {kt k2 pt2} (hc : X.calm = true) (hN : X.N.Nodup) (hi : X.N[i]? = some x) (hj : X.N[j]? = some y) (hij : i ≠ j)
    (hx : X.env.scope.names.lookup x = some .local) (hy : X.env.scope.names.lookup y = some .local) (ha : FAx X H0 W [a, b] as)
    (hw : swappedStores [.Tuple [.Name x px, .Name y py] kt pt] (.Tuple [a, b] k2 pt2) X.env = pure (some [x, y]))
    (hs : swapsWithSole [.Tuple [.Name x px, .Name y py] kt pt] (.Tuple [a, b] k2 pt2) pos.line X.env = pure false := by rfl) :
    FSx X H0 W (.Assign [.Tuple [.Name x px, .Name y py] kt pt] (.Tuple [a, b] k2 pt2) pos) (sPar [i, j] as) :=
  PS.imp (ps_par hc hN hi hj hij hx hy (PA.vs ha) hw hs) fun D σ H h => tA_mono (tA_par h) fun xs H1 q => Vs.imp q fun H2 ⟨hl, q⟩ => by
    match xs, hl with
    | [v, w], _ => exact ⟨v, w, rfl, q⟩
theorem fs_par3 {i j l : Nat} {x y z : Str} {a b c : Expr} {as : SA} {px py pz pt pos : Pos} {kt k2 pt2} (hc : X.calm = true) (hN : X.N.Nodup) (hi : X.N[i]? = some x) (hj : X.N[j]? = some y) (hl : X.N[l]? = some z) (hij : i ≠ j) (hil : i ≠ l) (hjl : j ≠ l)
    (hx : X.env.scope.names.lookup x = some .local) (hy : X.env.scope.names.lookup y = some .local) (hz : X.env.scope.names.lookup z = some .local) (ha : FAx X H0 W [a, b, c] as)
    (hw : swappedStores [.Tuple [.Name x px, .Name y py, .Name z pz] kt pt] (.Tuple [a, b, c] k2 pt2) X.env = pure (some [x, y, z]))
    (hs : swapsWithSole [.Tuple [.Name x px, .Name y py, .Name z pz] kt pt] (.Tuple [a, b, c] k2 pt2) pos.line X.env = pure false := by rfl) :
    FSx X H0 W (.Assign [.Tuple [.Name x px, .Name y py, .Name z pz] kt pt] (.Tuple [a, b, c] k2 pt2) pos) (sPar [i, j, l] as) :=
  PS.imp (ps_par3 hc hN hi hj hl hij hil hjl hx hy hz (PA.vs ha) hw hs) fun D σ H h => tA_mono (tA_par h) fun xs H1 q => Vs.imp q fun H2 ⟨hl, q⟩ => by
    match xs, hl with
    | [u, v, w], _ => exact ⟨u, v, w, rfl, q⟩
end
end FE
end
section
set_option Elab.async false
set_option linter.all false
set_option maxRecDepth 100000
namespace FE
open PySem PySem.Spec PyProof.Rows L2
section
variable {X : Cx} {K : PySem.W.Frag} {H0 : Gh} {Hs H H' H1 H2 : Hp} {W : WX} {env e e0 e1 e2 : En} {σ σ' σ1 σ3 σ4 : L2.St} {vs vs1 : List Nat} {Dd : Addr} {acc : List D}

/-- a comprehension's list goes to a slot at once -/
theorem tE_bindF {i : Nat} {f : SE} {D : Ends} (hfr : ∀ env v e, f env = .ok v e → ∃ d, v = .fr d) (h : tS X H0 W (sAsg i f) D σ H) : tE X H0 W f σ H fun x H1 => D.nx (σ.set i (some x)) H1 := by
  obtain ⟨env, er, q⟩ := h
  refine ⟨env, er, ?_⟩
  have q : pS X H0 W env σ H D ((f env).bind fun v e1 => asgV i v e1) := q
  cases hf : f env with
  | bad => rw [hf] at q; exact q
  | exc xc e' =>
    rw [hf] at q
    exact fun cls dd H1 st er1 sb xr => q cls dd σ H1 st er1 sb.sbs xr
  | ok v e' =>
    rw [hf] at q
    obtain ⟨d, ev⟩ := hfr _ _ _ hf
    subst ev
    intro x H1 st er1 sb vr
    obtain ⟨a, ex, hn, ho⟩ := vr
    subst ex
    have q : pS X H0 W env σ H D (.ok .nx (e'.set i (.ow d))) := q
    exact q _ H1 st (er1.setOw ho (fun z => VR.none_oa er hn (sb.oa z)) (H0_none er hn)) (sb.sbs.trans0 (SbS.setS (fun d => ⟨fun z => (by cases z), fun z => (by cases z)⟩) (fun b eb _ => .inr (by cases eb; exact hn)) er1.len))
theorem eComp_fr {i : SI} {g : GS} {own : List Nat} {t : ST} {f : SE} : ∀ env v e, eComp i g own t f env = .ok v e → ∃ d, v = .fr d := fun env v e h => by
  unfold eComp at h
  cases hi : i env with
  | bad => rw [hi] at h; cases h
  | exc x e' => rw [hi] at h; cases h
  | ok ds e1 =>
    rw [hi] at h
    simp only [R.bind_ok] at h
    split at h
    · split at h
      · cases h; exact ⟨_, rfl⟩
      · cases h
    · cases h
theorem fs_setLc {i : Nat} {y : Str} {py : Pos} {elt tg it : Expr} {ifs : List Expr} {scope : Scope} {own : List (Str × Nat)} {pos spos : Pos} {fi : SI} {g : GS} {sl : List Nat} {t : ST} {f : SE} (hc : X.calm = true) (hN : X.N.Nodup) (hy : X.N[i]? = some y) (hyl : X.env.scope.names.lookup y = some .local)
    (hsw : swapsWith (.ListComp elt [⟨tg, it, ifs, 0⟩] scope pos) (some (.Name y py)) spos.line X.env = pure true) (hi : FIx X H0 W tg it fi) (ok : BlkOk X.N X.env.scope scope own) (hsl : ∀ i ∈ sl, i ∈ own.map (·.2)) (hgi : GIn sl g)
    (hg : ∀ (s : Shared) (H : Hp) (C : Addr) (cl : List (Str × Addr)) (fp : List Addr), FGx (X.blk s H scope (compEnvC scope cl C X.env) fp) H0 tg sl g)
    (ht : ∀ (s : Shared) (H : Hp) (C : Addr) (cl : List (Str × Addr)) (fp : List Addr), PTs (X.blk s H scope (compEnvC scope cl C X.env) fp) ifs (tT (X.blk s H scope (compEnvC scope cl C X.env) fp) H0 WF t))
    (he : ∀ (s : Shared) (H : Hp) (C : Addr) (cl : List (Str × Addr)) (fp : List Addr), FEx (X.blk s H scope (compEnvC scope cl C X.env) fp) H0 WF elt f) (hs : ∀ x, foldedSetIterable it X.env x = pure x := by intro _; rfl) :
    FSx X H0 W (.Assign [.Name y py] (.ListComp elt [⟨tg, it, ifs, 0⟩] scope pos) spos) (sAsg i (eComp fi g (own.map (·.2)) t f)) :=
  PS.imp (ps_setLc (g := tG X H0 sl g) (tt := tT X H0 WF t) (te := fun σ H Q => tE X H0 WF f σ H fun v H1 => Vs X σ (Q v) H1) hc hN hy hyl hsw hi ok hg ht (fun s H C cl fp => PE.vs (he s H C cl fp)) hs) fun D σ H h => lc_tLc hsl hgi (tE_bindF eComp_fr h)

/-! ### two clauses -/
theorem it_gen {J : It} {n : Nat} {G : Hp → Prop} {Y : Nat → Hp → V → Hp → Prop} (w : Walk J n G Y) (Pv : Nat → Hp → Prop) (S : V → Hp → (Hp → Prop) → Prop) {Qd : Hp → Prop} (h0 : Pv 0 H1) (hG : ∀ i H, i ≤ n → Pv i H → G H)
    (hs : ∀ i x H H', i < n → Pv i H → Y i H x H' → S x H' (Pv (i + 1))) (hd : ∀ H, Pv n H → Qd H) :
    ∃ W : Nat → Nat → Hp → Prop, (∃ m, W 0 m H1) ∧ ∀ i m H, W i m H → (J.stop i H ∧ Qd H) ∨ (J.go i H ∧ ∃ Nx : Hp → Prop, (∀ H', Nx H' → ∃ m', m' < m ∧ W (i + 1) m' H') ∧ ∀ x H', J.yld i H x H' → S x H' Nx) := by
  refine ⟨fun i m H => m = n - i ∧ i ≤ n ∧ Pv i H, ⟨n, by simp, Nat.zero_le _, h0⟩, ?_⟩
  rintro i m H ⟨rfl, hi, p⟩
  have q := hG i H hi p
  by_cases hlt : i < n
  · exact .inr ⟨w.goes i H hlt q, Pv (i + 1), fun H' p' => ⟨n - (i + 1), by omega, rfl, hlt, p'⟩, fun x H' y => hs i x H H' hlt p (w.yields i H x H' hlt q y)⟩
  · have e : i = n := by omega
    subst e
    exact .inl ⟨w.stops H q, hd H p⟩
theorem wipe_wipe (h : ∀ i ∈ vs1, i ∈ vs) : wipe (wipe σ vs1) vs = wipe σ vs := by
  apply List.ext_getElem?
  intro n
  by_cases hn : n ∈ vs
  · have l1 : (wipe (wipe σ vs1) vs).length = σ.length := by rw [wipe_length, wipe_length]
    have l2 : (wipe σ vs).length = σ.length := by rw [wipe_length]
    by_cases hl : n < σ.length
    · have g : ∀ (τ : L2.St), τ.length = σ.length → (wipe τ vs)[n]? = some none := fun τ hτ => by
        have hlt : n < (wipe τ vs).length := by rw [wipe_length, hτ]; exact hl
        rw [List.getElem?_eq_getElem hlt]
        cases q : (wipe τ vs)[n] with
        | none => rfl
        | some v => exact absurd hn (wipe_some (by rw [List.getElem?_eq_getElem hlt, q])).2
      rw [g _ (wipe_length _ _), g _ rfl]
    · rw [List.getElem?_eq_none (by omega), List.getElem?_eq_none (by omega)]
  · rw [wipe_out hn, wipe_out (fun z => hn (h n z)), wipe_out hn]
theorem wipeE_wipeE (h : ∀ i ∈ vs1, i ∈ vs) : wipeE (wipeE e vs1) vs = wipeE e vs := by
  apply List.ext_getElem?
  intro n
  by_cases hn : n ∈ vs
  · by_cases hl : n < e.length
    · have g : ∀ (τ : En), τ.length = e.length → (wipeE τ vs)[n]? = some .un := fun τ hτ => by
        have hlt : n < (wipeE τ vs).length := by rw [wipeE_len, hτ]; exact hl
        have q := List.getElem?_eq_getElem hlt
        rw [q, wipeE_in hn q]
      rw [g _ wipeE_len, g _ rfl]
    · rw [List.getElem?_eq_none (by rw [wipeE_len, wipeE_len]; omega), List.getElem?_eq_none (by rw [wipeE_len]; omega)]
  · rw [wipeE_out hn, wipeE_out (fun z => hn (h n z)), wipeE_out hn]
theorem BkT.wiped (b : BkT K H0 e0 σ vs H1 Dd acc σ3 e H') (h : ∀ i ∈ vs1, i ∈ vs) : BkT K H0 e0 σ vs H1 Dd acc (wipe σ3 vs1) (wipeE e vs1) H' :=
  ⟨b.er.wiped, by rw [wipe_wipe h]; exact b.w, b.st, fun a z => b.oa a (oa_wipe z), fun z => b.nd (oa_wipe z), by rw [wipeE_wipeE h]; exact b.sb, b.at_⟩
/-- the target of an inner turn -/
theorem BkT.turn {g : GS} {sl : List Nat} {d : D} {H'' : Hp} (b : BkT K H0 e0 σ vs H1 Dd acc σ3 e H') (s3 : Step (fun _ => False) H' H'') (hsl : ∀ i ∈ sl, i ∈ vs) (hgi : GIn sl g) (hgd : g d e = some e2)
    (er4 : ER K H0 e2 σ4 H'') (sb4 : SbS e e2 σ3 σ4 H'') (w4 : ∀ us : List Nat, (∀ i ∈ sl, i ∈ us) → wipe σ4 us = wipe σ3 us) : BkT K H0 e0 σ vs H1 Dd acc σ4 e2 H'' := by
  have stH : Step (OA (wipeE e0 vs) (wipe σ vs)) H1 H'' := b.st.trans s3 fun _ z => z.elim
  obtain ⟨xs, h1, h2⟩ := b.at_
  refine ⟨er4, by rw [w4 vs hsl]; exact b.w, stH, fun a h => ?_, fun h => ?_, ?_, xs, s3.keep _ _ h1 id nt_lst, h2.stab (stab_step0 s3)⟩
  · rcases sb4.oa a h with z | z
    · exact b.oa a z
    · exact .inr (none_back stH z)
  · rcases sb4.oa Dd h with z | z
    · exact b.nd z
    · have := s3.keep Dd _ h1 id nt_lst
      rw [z] at this; cases this
  · obtain ⟨l, k⟩ := hgi.h d e e2 hgd
    have hsb := b.sb
    refine ⟨by rw [wipeE_len, wipeE_len, l]; have := hsb.len; rw [wipeE_len, wipeE_len] at this; exact this, fun j u hu => ?_⟩
    by_cases hj : j ∈ vs
    · have hun := wipeE_in hj hu
      subst hun
      have hlt : j < (wipeE e vs).length := by
        have h1 := (List.getElem?_eq_some_iff.mp hu).1
        rw [wipeE_len] at h1 ⊢
        rw [← l]; exact h1
      have hq := List.getElem?_eq_getElem hlt
      have hu2 := wipeE_in hj hq
      exact hsb.le j .un (by rw [hq, hu2])
    · rw [wipeE_out hj, k j fun z => hj (hsl j z)] at hu
      exact hsb.le j u (by rw [wipeE_out hj]; exact hu)
/-- the inner loop, one outer item -/
def cIn (t : ST) (i1 : SI) (g1 : GS) (own1 : List Nat) (t1 : ST) (f : SE) (acc : List D) (e : En) : R (List D) := (t e).bind fun b e2 => match b with
  | false => .ok acc e2
  | true => (i1 e2).bind fun ds1 e3 => if ds1.length ≤ 1000 then cLoop g1 own1 (cItem t1 f) ds1 acc (wipeE e3 own1) else .bad
def eComp2 (i : SI) (g : GS) (own : List Nat) (t : ST) (i1 : SI) (g1 : GS) (own1 : List Nat) (t1 : ST) (f : SE) : SE := fun e => (i e).bind fun ds e1 => if ds.length ≤ 1000 then match cLoop g own (cIn t i1 g1 own1 t1 f) ds [] (wipeE e1 own) with
    | .ok acc e2 => .ok (.fr (.list acc)) (restE e1 e2 own)
    | _ => .bad
  else .bad
theorem eComp2_fr {i i1 : SI} {g g1 : GS} {own own1 : List Nat} {t t1 : ST} {f : SE} : ∀ env v e, eComp2 i g own t i1 g1 own1 t1 f env = .ok v e → ∃ d, v = .fr d := fun env v e h => by
  unfold eComp2 at h
  cases hi : i env with
  | bad => rw [hi] at h; cases h
  | exc x e' => rw [hi] at h; cases h
  | ok ds e1 =>
    rw [hi] at h
    simp only [R.bind_ok] at h
    split at h
    · split at h
      · cases h; exact ⟨_, rfl⟩
      · cases h
    · cases h
theorem lc2_tLc {fi fi1 : SI} {g g1 : GS} {sl sl1 : List Nat} {t t1 : ST} {f : SE} {Q : VK} (hsl : ∀ i ∈ sl, i ∈ vs) (hgi : GIn sl g) (hv : ∀ i ∈ vs1, i ∈ vs) (hsl1 : ∀ i ∈ sl1, i ∈ vs1) (hgi1 : GIn sl1 g1) (h : tE X H0 W (eComp2 fi g vs t fi1 g1 vs1 t1 f) σ H Q) :
    tLc2 (tI X H0 W fi) (tG X H0 sl g) (tT X H0 WF t) (tI X H0 WF fi1) (tG X H0 sl1 g1) (tT X H0 WF t1) (fun σ H Q => tE X H0 WF f σ H fun v H1 => Vs X σ (Q v) H1) vs vs1 σ H Q := by
  obtain ⟨env, er, q⟩ := h
  refine ⟨env, er, ?_⟩
  have q : pE X H0 W env σ H Q ((fi env).bind fun ds e1 => if ds.length ≤ 1000 then match cLoop g vs (cIn t fi1 g1 vs1 t1 f) ds [] (wipeE e1 vs) with
      | .ok acc e2 => .ok (.fr (.list acc)) (restE e1 e2 vs)
      | _ => .bad
    else .bad) := q
  cases hf : fi env with
  | bad => rw [hf] at q; exact q
  | exc xc e' => rw [hf] at q; exact q
  | ok ds e1 =>
    rw [hf] at q
    intro J H1 st er1 sb wk
    intro Dd hD
    simp only [R.bind_ok] at q
    split at q
    · rename_i hlen
      obtain ⟨G, Y, w, g0, gs, gy⟩ := wk.ex
      cases hfin : cLoop g vs (cIn t fi1 g1 vs1 t1 f) ds [] (wipeE e1 vs) with
      | bad => rw [hfin] at q; exact q.elim
      | exc xc e' => rw [hfin] at q; exact q.elim
      | ok accF eF =>
        rw [hfin] at q
        have notOA : ¬ OA e1 σ Dd := VR.none_oa er1 hD
        have s01 : Step (fun _ => False) H1 (upd H1 Dd (.lst [])) := step0_upd hD
        refine it_gen w (fun i H' => ∃ acc e', BkR X.K H0 e1 σ vs H1 Dd acc e' H' ∧ cLoop g vs (cIn t fi1 g1 vs1 t1 f) (ds.drop i) acc e' = .ok accF eF ∧ acc.length ≤ i * 1000 ∧ G H') _ (Qd := Q (.ref Dd)) ?_ (fun i H' _ ⟨_, _, _, _, _, h⟩ => h) (fun i x H' H'' hlt h y => ?_) fun H' h => ?_
        · exact ⟨[], wipeE e1 vs, ⟨(er1.step0 s01).wiped, s01.imp fun _ z => z.elim, .refl _, [], upd_same, .nil⟩, hfin, Nat.zero_le _, gs _ _ g0 (stab_step0 s01)⟩
        · obtain ⟨acc, e', bk, hl, hal, gg⟩ := h
          obtain ⟨s3, d, hd, rp⟩ := gy i H' x H'' hlt gg y
          have hdrop : ds.drop i = d :: ds.drop (i + 1) := by
            rw [List.drop_eq_getElem_cons hlt]
            rw [List.getElem?_eq_getElem hlt] at hd
            rw [Option.some.inj hd]
          rw [hdrop] at hl
          refine ⟨e', d, bk.er.step0 s3, rp, ?_⟩
          have hl : (match g d e' with
            | none => R.bad
            | some e1 => (cIn t fi1 g1 vs1 t1 f acc e1).bind fun acc' e2 => cLoop g vs (cIn t fi1 g1 vs1 t1 f) (ds.drop (i + 1)) acc' (wipeE e2 vs)) = .ok accF eF := hl
          cases hgd : g d e' with
          | none => rw [hgd] at hl; cases hl
          | some e3 =>
            rw [hgd] at hl
            intro σ3 er4 sb4 w3
            have b3 := turn_ok (x := x) bk s3 hsl hgi hgd notOA er4 sb4 w3
            refine ⟨b3.w, ?_⟩
            -- the outer test
            refine ⟨e3, b3.er, ?_⟩
            have hl : (((t e3).bind fun b e2 => match b with
              | false => .ok acc e2
              | true => (fi1 e2).bind fun ds1 e3 => if ds1.length ≤ 1000 then cLoop g1 vs1 (cItem t1 f) ds1 acc (wipeE e3 vs1) else .bad).bind fun acc' e2 => cLoop g vs (cIn t fi1 g1 vs1 t1 f) (ds.drop (i + 1)) acc' (wipeE e2 vs)) = .ok accF eF := hl
            have G3 : ∀ {H2 : Hp}, Stab H'' H2 → G H2 := fun s => gs _ _ (gs _ _ gg (stab_step0 s3)) s
            cases ht : t e3 with
            | bad => rw [ht] at hl; cases hl
            | exc xx e4 => rw [ht] at hl; cases hl
            | ok bb e4 =>
              rw [ht] at hl
              intro H3 st3 er3 sb3
              have b4 := b3.go st3 er3 sb3
              have stab4 : Stab H'' H3 := st3.stab b3.er
              cases bb with
              | false =>
                rw [if_neg Bool.false_ne_true]
                exact ⟨acc, wipeE e4 vs, b4.next, hl, by omega, G3 stab4⟩
              | true =>
                rw [if_pos rfl]
                refine ⟨e4, er3, ?_⟩
                have hl : (((fi1 e4).bind fun ds1 e3 => if ds1.length ≤ 1000 then cLoop g1 vs1 (cItem t1 f) ds1 acc (wipeE e3 vs1) else .bad).bind fun acc' e2 => cLoop g vs (cIn t fi1 g1 vs1 t1 f) (ds.drop (i + 1)) acc' (wipeE e2 vs)) = .ok accF eF := hl
                cases hf1 : fi1 e4 with
                | bad => rw [hf1] at hl; cases hl
                | exc xx e5 => rw [hf1] at hl; cases hl
                | ok ds1 e5 =>
                  rw [hf1] at hl
                  simp only [R.bind_ok] at hl
                  intro J1 H4 st4 er4' sb4' wk1
                  have b5 := b4.go st4 er4' sb4'
                  have stab5 : Stab H'' H4 := stab4.trans (st4.stab er3)
                  split at hl
                  · rename_i hlen1
                    obtain ⟨G1, Y1, w1, g10, gs1, gy1⟩ := wk1.ex
                    cases hin : cLoop g1 vs1 (cItem t1 f) ds1 acc (wipeE e5 vs1) with
                    | bad => rw [hin] at hl; cases hl
                    | exc xx e6 => rw [hin] at hl; cases hl
                    | ok accI eI =>
                      rw [hin] at hl
                      simp only [R.bind_ok] at hl
                      refine it_gen w1 (fun j H' => ∃ ac e', BkT X.K H0 e1 σ vs H1 Dd ac (wipe σ3 vs1) e' H' ∧ cLoop g1 vs1 (cItem t1 f) (ds1.drop j) ac e' = .ok accI eI ∧ ac.length ≤ acc.length + j ∧ G1 H' ∧ Stab H'' H') _ ?_ (fun j H' _ ⟨_, _, _, _, _, h, _⟩ => h) (fun j x1 H5 H6 hlt1 h1 y1 => ?_) fun H' h1 => ?_
                      · exact ⟨acc, wipeE e5 vs1, b5.wiped hv, hin, Nat.le_refl _, g10, stab5⟩
                      · obtain ⟨ac, e', bk1, hl1, hal1, gg1, stb1⟩ := h1
                        obtain ⟨s6, d1, hd1, rp1⟩ := gy1 j H5 x1 H6 hlt1 gg1 y1
                        have hdrop1 : ds1.drop j = d1 :: ds1.drop (j + 1) := by
                          rw [List.drop_eq_getElem_cons hlt1]
                          rw [List.getElem?_eq_getElem hlt1] at hd1
                          rw [Option.some.inj hd1]
                        rw [hdrop1] at hl1
                        refine ⟨e', d1, bk1.er.step0 s6, rp1, ?_⟩
                        have hl1 : (match g1 d1 e' with
                          | none => R.bad
                          | some e1 => (cItem t1 f ac e1).bind fun acc' e2 => cLoop g1 vs1 (cItem t1 f) (ds1.drop (j + 1)) acc' (wipeE e2 vs1)) = .ok accI eI := hl1
                        cases hgd1 : g1 d1 e' with
                        | none => rw [hgd1] at hl1; cases hl1
                        | some e6 =>
                          rw [hgd1] at hl1
                          intro σ5 er6 sb6 w6
                          have b6 := bk1.turn s6 (fun i hi => hv i (hsl1 i hi)) hgi1 hgd1 er6 sb6 w6
                          have w5 : wipe σ5 vs1 = wipe σ3 vs1 := by rw [w6 vs1 hsl1]; exact wipe_self
                          refine ⟨w5, ?_⟩
                          cases hit : cItem t1 f ac e6 with
                          | bad => simp only [hit] at hl1; cases hl1
                          | exc xx e7 => simp only [hit] at hl1; cases hl1
                          | ok ac' e7 =>
                            simp only [hit, R.bind_ok] at hl1
                            have hlen' := cItem_len hit
                            have hi1 : i < 1000 := Nat.lt_of_lt_of_le hlt hlen
                            have hj1 : j < 1000 := Nat.lt_of_lt_of_le hlt1 hlen1
                            refine item_ok b6 hD hit (by omega) fun H2 b7 stb => ?_
                            have bw := b7.wiped hv
                            rw [w5] at bw
                            exact ⟨ac', wipeE e7 vs1, bw, hl1, by omega, gs1 _ _ (gs1 _ _ gg1 (stab_step0 s6)) stb, (stb1.trans (stab_step0 s6)).trans stb⟩
                      · obtain ⟨ac, e', bk1, hl1, hal1, gg1, stb1⟩ := h1
                        rw [List.drop_length] at hl1
                        cases hl1
                        exact ⟨accI, wipeE eI vs, bk1.next, hl, by omega, G3 stb1⟩
                  · cases hl
        · obtain ⟨acc, e', bk, hl, _, _⟩ := h
          rw [List.drop_length] at hl
          cases hl
          obtain ⟨erR, sbR⟩ := er1.rest bk.er bk.sb bk.st
          obtain ⟨xs, h1, h2⟩ := bk.at_
          exact q (.ref Dd) H' (st.trans bk.st fun b z => .inl (sb.oa (oa_wipe z))) erR (sb.trans sbR) ⟨Dd, rfl, none_back st hD, xs, h1, h2⟩
    · exact q.elim
section
variable {elt tg it tg1 it1 : Expr} {ifs ifs1 : List Expr} {scope : Scope} {own : List (Str × Nat)} {pos : Pos} {fi fi1 : SI} {g g1 : GS} {sl sl1 : List Nat} {t t1 : ST} {f : SE} (hc : X.calm = true) (hN : X.N.Nodup) (hi : FIx X H0 W tg it fi) (ok : BlkOk X.N X.env.scope scope own) (hv : ∀ i ∈ vs1, i ∈ own.map (·.2)) (hsl : ∀ i ∈ sl, i ∈ own.map (·.2)) (hgi : GIn sl g) (hsl1 : ∀ i ∈ sl1, i ∈ vs1) (hgi1 : GIn sl1 g1)
    (hg : ∀ (s : Shared) (H : Hp) (C : Addr) (cl : List (Str × Addr)) (fp : List Addr), FGx (X.blk s H scope (compEnvC scope cl C X.env) fp) H0 tg sl g)
    (ht : ∀ (s : Shared) (H : Hp) (C : Addr) (cl : List (Str × Addr)) (fp : List Addr), PTs (X.blk s H scope (compEnvC scope cl C X.env) fp) ifs (tT (X.blk s H scope (compEnvC scope cl C X.env) fp) H0 WF t))
    (hi1 : ∀ (s : Shared) (H : Hp) (C : Addr) (cl : List (Str × Addr)) (fp : List Addr), FIx (X.blk s H scope (compEnvC scope cl C X.env) fp) H0 WF tg1 it1 fi1)
    (hg1 : ∀ (s : Shared) (H : Hp) (C : Addr) (cl : List (Str × Addr)) (fp : List Addr), FGx (X.blk s H scope (compEnvC scope cl C X.env) fp) H0 tg1 sl1 g1)
    (ht1 : ∀ (s : Shared) (H : Hp) (C : Addr) (cl : List (Str × Addr)) (fp : List Addr), PTs (X.blk s H scope (compEnvC scope cl C X.env) fp) ifs1 (tT (X.blk s H scope (compEnvC scope cl C X.env) fp) H0 WF t1))
    (he : ∀ (s : Shared) (H : Hp) (C : Addr) (cl : List (Str × Addr)) (fp : List Addr), FEx (X.blk s H scope (compEnvC scope cl C X.env) fp) H0 WF elt f)
include hc hN hi ok hv hsl hgi hsl1 hgi1 hg ht hi1 hg1 ht1 he
theorem fe_lc2 (hs : ∀ x, foldedSetIterable it X.env x = pure x := by intro _; rfl) (hs1 : ∀ env x, foldedSetIterable it1 env x = pure x := by intro _ _; rfl) :
    FEx X H0 W (.ListComp elt [⟨tg, it, ifs, 0⟩, ⟨tg1, it1, ifs1, 0⟩] scope pos) (eComp2 fi g (own.map (·.2)) t fi1 g1 vs1 t1 f) :=
  PE.imp (pe_lc2 (g := tG X H0 sl g) (tt := tT X H0 WF t) (wi1 := tI X H0 WF fi1) (g1 := tG X H0 sl1 g1) (tt1 := tT X H0 WF t1) (te := fun σ H Q => tE X H0 WF f σ H fun v H1 => Vs X σ (Q v) H1) hc hN hi ok hv hg ht hi1 hg1 ht1 (fun s H C cl fp => PE.vs (he s H C cl fp)) hs hs1) fun σ H Q h => lc2_tLc hsl hgi hv hsl1 hgi1 h
theorem fs_setLc2 {i : Nat} {y : Str} {py spos : Pos} (hy : X.N[i]? = some y) (hyl : X.env.scope.names.lookup y = some .local)
    (hsw : swapsWith (.ListComp elt [⟨tg, it, ifs, 0⟩, ⟨tg1, it1, ifs1, 0⟩] scope pos) (some (.Name y py)) spos.line X.env = pure true) (hs : ∀ x, foldedSetIterable it X.env x = pure x := by intro _; rfl) (hs1 : ∀ env x, foldedSetIterable it1 env x = pure x := by intro _ _; rfl) :
    FSx X H0 W (.Assign [.Name y py] (.ListComp elt [⟨tg, it, ifs, 0⟩, ⟨tg1, it1, ifs1, 0⟩] scope pos) spos) (sAsg i (eComp2 fi g (own.map (·.2)) t fi1 g1 vs1 t1 f)) :=
  PS.imp (ps_setLc2 (g := tG X H0 sl g) (tt := tT X H0 WF t) (wi1 := tI X H0 WF fi1) (g1 := tG X H0 sl1 g1) (tt1 := tT X H0 WF t1) (te := fun σ H Q => tE X H0 WF f σ H fun v H1 => Vs X σ (Q v) H1) hc hN hy hyl hsw hi ok hv hg ht hi1 hg1 ht1 (fun s H C cl fp => PE.vs (he s H C cl fp)) hs hs1) fun D σ H h => lc2_tLc hsl hgi hv hsl1 hgi1 (tE_bindF eComp2_fr h)
end
end
end FE
end
section
set_option Elab.async false
set_option linter.all false
set_option maxRecDepth 100000
namespace FE
open PySem PySem.Spec PyProof.Rows L2
section
variable {X : Cx} {K : PySem.W.Frag} {H0 : Gh} {Hs H H' H1 H2 : Hp} {W : WX} {env e e0 e1 e2 : En} {σ σ' σ1 σ3 σ4 : L2.St}

/-! ### raise C('..') -/
/-- the class x of the module, made with a text -/
structure ExF (X : Cx) (x : Str) : Prop where
  ex : ∃ (C : Addr) (bmB : List Value) (B newId initId : String), ExcBaseFacts B newId initId bmB ∧ PySem.W.excIn X.K C bmB newId = true ∧ X.mg x = some (.ref C) ∧ PySem.W.keepIn X.K (.ref C) = true ∧ Raises X (.ref C)
def sRaise (x : Str) : SS := fun e => .exc ⟨x, []⟩ e
theorem fs_raise {x m : Str} {j : Nat} {p p2 cpos pos : Pos} (hc : X.calm = true) (tk : Takes X W) (F : ExF X x) (hg : Gl X x) (hdb : (x == ("__debug__" : Str)) = false := by decide) : FSx X H0 W (.Raise (some (.Call (.Name x p) [.Constant (.str m) j p2] [] cpos)) none pos) (sRaise x) := by
  obtain ⟨C, bmB, B, newId, initId, h1, h2, h3, h4, h5⟩ := F.ex
  exact PS.imp (ps_raise hc tk (pmk_own h1 h2 h3 h4 h5 hg hdb)) fun D σ H ⟨env, er, q⟩ => q (.ref C) none σ H (.refl _ _) er .refl ⟨h3, .inl ⟨rfl, rfl⟩⟩

/-! ### try: .. except C as n: .. -/
def Slot.clr : Slot → Slot
  | .ex => .un
  | s => s
def clr (e : En) : En := e.map Slot.clr
theorem clr_get {i : Nat} {s : Slot} (h : (clr e)[i]? = some s) : s ≠ .ex ∧ (e[i]? = some s ∨ (e[i]? = some .ex ∧ s = .un)) := by
  unfold clr at h
  rw [List.getElem?_map] at h
  cases q : e[i]? with
  | none => rw [q] at h; cases h
  | some t =>
    rw [q] at h
    have h : t.clr = s := Option.some.inj h
    cases t <;> (subst h) <;> first | exact ⟨fun z => (by cases z), .inl rfl⟩ | exact ⟨fun z => (by cases z), .inr ⟨rfl, rfl⟩⟩
theorem clr_len : (clr e).length = e.length := by unfold clr; rw [List.length_map]
theorem ER.clr {a a' : Addr} {h : Hp} {t : List Addr} (er : ER K ⟨h, a, t⟩ e σ H) : ER K ⟨h, a', t⟩ (clr e) σ H := by
  have own : ∀ (i : Nat) (s : Slot), (FE.clr e)[i]? = some s → s.own? ≠ none → e[i]? = some s := fun i s h ho => by
    rcases (clr_get h).2 with q | ⟨_, q⟩
    · exact q
    · subst q; exact absurd rfl ho
  refine ⟨by rw [clr_len]; exact er.len, fun i s d h1 h2 => ?_, fun i s d h1 h2 => ?_, fun i j s t a h1 h2 h3 h4 h5 h6 => er.inj i j s t a (own i s h1 h3) (own j t h2 h4) h3 h4 h5 h6, fun i d a h1 h2 => er.new i d a (own i _ h1 (fun z => by cases z)) h2, ⟨er.mono.up, er.mono.tb⟩, fun i h => absurd rfl (clr_get h).1⟩
  · rcases (clr_get h1).2 with q | ⟨_, q⟩
    · exact er.fz i s d q h2
    · subst q; cases h2
  · exact er.ow i s d (own i s h1 (by rw [h2]; intro z; cases z)) h2
theorem oa_clr {a : Addr} (h : OA (clr e) σ a) : OA e σ a := by
  obtain ⟨i, s, h1, h2, h3⟩ := h
  rcases (clr_get h1).2 with q | ⟨_, q⟩
  · exact ⟨i, s, q, h2, h3⟩
  · subst q; exact absurd rfl h2
theorem clr_sbs : SbS e (clr e) σ σ H := ⟨fun a h => .inl (oa_clr h), fun i h => by
  refine ⟨?_, rfl⟩
  rcases h with ⟨d, h⟩ | ⟨d, h⟩
  · rcases (clr_get h).2 with q | ⟨_, q⟩
    · exact .inl ⟨d, q⟩
    · cases q
  · rcases (clr_get h).2 with q | ⟨_, q⟩
    · exact .inr ⟨d, q⟩
    · exact absurd q (fun z => by cases z), clr_len⟩
theorem ER.setEx {i : Nat} {h : Hp} {t : List Addr} {a b : Addr} (er : ER K ⟨h, a, t⟩ e σ H) : ER K ⟨h, b, t⟩ ((FE.clr e).set i .ex) (σ.set i (some (.ref b))) H := by
  have er := er.clr (a' := b)
  have get : ∀ (j : Nat) (t : Slot), ((FE.clr e).set i .ex)[j]? = some t → (j = i ∧ t = .ex ∧ j < σ.length) ∨ (j ≠ i ∧ (FE.clr e)[j]? = some t) := fun j t h => by
    by_cases z : i = j
    · subst z
      have hl : i < ((FE.clr e).set i .ex).length := (List.getElem?_eq_some_iff.mp h).1
      rw [List.length_set] at hl
      rw [List.getElem?_set_self hl] at h
      exact .inl ⟨rfl, (Option.some.inj h).symm, by rw [← er.len]; exact hl⟩
    · rw [List.getElem?_set_ne z] at h; exact .inr ⟨fun y => z y.symm, h⟩
  have gs : ∀ (j : Nat), j ≠ i → (σ.set i (some (.ref b)))[j]? = σ[j]? := fun j hj => List.getElem?_set_ne (Ne.symm hj)
  refine ⟨by rw [List.length_set, List.length_set]; exact er.len, fun j t d' h1 h2 => ?_, fun j t d' h1 h2 => ?_, fun j k t u b h1 h2 h3 h4 h5 h6 => ?_, fun j d' b h1 h2 => ?_, ⟨er.mono.up, er.mono.tb⟩, fun j h1 => ?_⟩
  · rcases get j t h1 with ⟨z, y, _⟩ | ⟨z, y⟩
    · subst y; cases h2
    · rw [gs j z]; exact er.fz j t d' y h2
  · rcases get j t h1 with ⟨z, y, _⟩ | ⟨z, y⟩
    · subst y; cases h2
    · rw [gs j z]; exact er.ow j t d' y h2
  · rcases get j t h1 with ⟨z, y, _⟩ | ⟨z, y⟩
    · subst y; exact absurd rfl h3
    · rcases get k u h2 with ⟨z2, y2, _⟩ | ⟨z2, y2⟩
      · subst y2; exact absurd rfl h4
      · rw [gs j z] at h5; rw [gs k z2] at h6
        exact er.inj j k t u b y y2 h3 h4 h5 h6
  · rcases get j _ h1 with ⟨z, y, _⟩ | ⟨z, y⟩
    · cases y
    · rw [gs j z] at h2; exact er.new j d' b y h2
  · rcases get j _ h1 with ⟨z, y, l⟩ | ⟨z, y⟩
    · subst z
      exact List.getElem?_set_self l
    · exact absurd rfl (clr_get y).1
/-- behind an except suite: its name is gone -/
def sOut (i : Nat) : R Fl → R Fl
  | .ok .nx e => .ok .nx ((clr e).set i .un)
  | .ok .bk e => .ok .bk ((clr e).set i .un)
  | .ok .ct e => .ok .ct ((clr e).set i .un)
  | .ok (.rt v) e => .ok (.rt v) (clr e)
  | _ => .bad
def sTry (i : Nat) (catches : Str → Option Bool) (fb : SS) (fsu : Xc → SS) : SS := fun e => match fb e with
  | .exc xc e1 => match catches xc.cls with
    | some true => sOut i (fsu xc ((clr e1).set i .ex))
    | some false => .exc xc e1
    | none => .bad
  | r => r
theorem fs_try {i : Nat} {x n : Str} {c : Value} {body suite : List Stmt} {b₀ : Stmt} {np pos pos' : Pos} {catches : Str → Option Bool} {fb : SS} {fsu : Xc → SS} (hs : X.stack = X.env :: X.outer) (hf : X.env.frame = some X.env.locals) (hN : X.N.Nodup) (hi : X.N[i]? = some n) (hln : X.env.kindOf n = some .local) (hc : Names X x c) (tk : Takes X W)
    (hcat : ∀ n b cls, catches n = some b → X.mg n = some cls → PySem.W.exmOne X.K cls c = some b)
    (hb : ∀ (W : WX) (pn : List (Addr × Obj)) (xe : Value → Shared → Prop), Takes (X.tr pn xe) W → PassesOwn (model X.prog X.w) X.A X.env xe → FBx (X.tr pn xe) H0 W body fb)
    (hsu : ∀ (a : Addr) (oe : Obj) (cls : Value) (d : Option Addr) (pn : List (Addr × Obj)) (xc : Xc), Zc cls d oe → (∃ vs, oe.data = .fields vs) → X.mg xc.cls = some cls → (xc.fs = [] → d = none) → FBx (X.suite a ((a, oe) :: pn)) ⟨H0.h, a, H0.tb⟩ WF (b₀ :: suite) (fsu xc)) :
    FSx X H0 W (.Try body [.ExceptHandler (some (.Name x np)) (some n) (b₀ :: suite) pos'] [] [] pos) (sTry i catches fb fsu) :=
  PS.imp (ps_try_as (tb := fun W => tS X H0 W fb) (ts := fun a cls d D σ H => ∃ xc, XR X.K X.mg H xc cls d ∧ tS X ⟨H0.h, a, H0.tb⟩ WF (fsu xc) D σ H) hs hf hN hi hln hc tk (fun W pn xe tk' po => hb W pn xe tk' po)
    (fun a oe cls d pn hz hfi => ⟨fun pins s σ H D I ⟨xc, xr, h⟩ => (hsu a oe cls d pn xc hz hfi xr.1 (fun z => by
      rcases xr.2 with ⟨_, q⟩ | ⟨q1, _⟩
      · exact q
      · exact absurd z q1)).run pins s σ H D I h⟩)) fun D σ H ⟨env, er, q⟩ => by
    refine ⟨env, er, ?_⟩
    unfold sTry at q
    cases hfb : fb env with
    | bad => rw [hfb] at q; exact q
    | ok fl e' => rw [hfb] at q; cases fl <;> exact q
    | exc xc e1 =>
      rw [hfb] at q
      intro cls dd σ' H' st er1 sb xr
      have q : pS X H0 W env σ H D (match catches xc.cls with
        | some true => sOut i (fsu xc ((clr e1).set i .ex))
        | some false => .exc xc e1
        | none => .bad) := q
      cases hca : catches xc.cls with
      | none => rw [hca] at q; exact q.elim
      | some b =>
        rw [hca] at q
        refine ⟨b, hcat _ _ _ hca xr.1, fun hb a ha => ?_, fun hb => ?_⟩
        · subst hb
          have er2 : ER X.K ⟨H0.h, a, H0.tb⟩ ((clr e1).set i .ex) (σ'.set i (some (.ref a))) H' := ER.setEx (h := H0.h) (a := H0.xa) er1
          have sb2 : SbS env ((clr e1).set i .ex) σ (σ'.set i (some (.ref a))) H := (sb.trans0 clr_sbs).trans0 (SbS.setS (fun d => ⟨fun z => (by cases z), fun z => (by cases z)⟩) (fun b _ z => absurd rfl z) (by rw [clr_len]; exact er1.len))
          refine ⟨xc, xr, _, er2, ?_⟩
          have q : pS X H0 W env σ H D (sOut i (fsu xc ((clr e1).set i .ex))) := q
          have back : ∀ {e3 : En} {σ3 : L2.St} {H3 : Hp}, ER X.K ⟨H0.h, a, H0.tb⟩ e3 σ3 H3 → ER X.K H0 (clr e3) σ3 H3 := fun er3 => ER.clr (h := H0.h) (a := a) (a' := H0.xa) er3
          have un : ∀ {e3 : En} {σ3 : L2.St} {H3 : Hp}, ER X.K ⟨H0.h, a, H0.tb⟩ e3 σ3 H3 → SbS env e3 σ σ3 H → ER X.K H0 ((clr e3).set i .un) (σ3.set i none) H3 ∧ SbS env ((clr e3).set i .un) σ (σ3.set i none) H := fun er3 sb3 =>
            ⟨(back er3).setUn none, (sb3.trans0 clr_sbs).trans0 (SbS.setS (fun d => ⟨fun z => (by cases z), fun z => (by cases z)⟩) (fun b z _ => by cases z) (by rw [clr_len]; exact er3.len))⟩
          cases hsr : fsu xc ((clr e1).set i .ex) with
          | bad => rw [hsr] at q; exact q
          | exc xc' e' => rw [hsr] at q; exact q.elim
          | ok fl e' =>
            rw [hsr] at q
            cases fl with
            | nx => exact fun σ3 H3 st3 er3 sb3 => q _ H3 (st.seqS sb2 st3) (un er3 (sb2.trans st sb3)).1 (un er3 (sb2.trans st sb3)).2
            | bk => exact fun σ3 H3 st3 er3 sb3 => q _ H3 (st.seqS sb2 st3) (un er3 (sb2.trans st sb3)).1 (un er3 (sb2.trans st sb3)).2
            | ct => exact fun σ3 H3 st3 er3 sb3 => q _ H3 (st.seqS sb2 st3) (un er3 (sb2.trans st sb3)).1 (un er3 (sb2.trans st sb3)).2
            | rt v => exact fun x' σ3 H3 st3 er3 sb3 vr => q x' σ3 H3 (st.seqS sb2 st3) (back er3) ((sb2.trans st sb3).trans0 clr_sbs) vr
        · subst hb
          exact q cls dd σ' H' st er1 sb xr
/-! isinstance(n, C) in the suite -/
/-- which class is under which: (class, class, answer) -/
abbrev Tab := List (Str × Str × Bool)
def Tab.get (t : Tab) (n m : Str) : Option Bool := match t with
  | [] => none
  | (a, b, r) :: t => if a = n ∧ b = m then some r else Tab.get t n m
inductive TabOk (K : PySem.W.Frag) (mg : Str → Option Value) : Tab → Prop
  | nil : TabOk K mg []
  | cons {n m : Str} {b : Bool} {t : Tab} (D Ca : Addr) (h1 : mg n = some (.ref D)) (h2 : ExcC K D) (h3 : mg m = some (.ref Ca)) (h4 : PySem.W.kitOne K (.ref D) (.ref Ca) = some b) (h : TabOk K mg t) : TabOk K mg ((n, m, b) :: t)
theorem TabOk.get {mg : Str → Option Value} : ∀ {t : Tab}, TabOk K mg t → ∀ {n m : Str} {b : Bool} {cls : Value}, t.get n m = some b → mg n = some cls → ∃ D Ca, cls = .ref D ∧ ExcC K D ∧ mg m = some (.ref Ca) ∧ PySem.W.kitOne K (.ref D) (.ref Ca) = some b
  | _, .nil, _, _, _, _, h, _ => by cases h
  | _, .cons (n := n0) (m := m0) (b := b0) (t := t) D Ca h1 h2 h3 h4 h, n, m, b, cls, e, hm => by
    unfold Tab.get at e
    by_cases z : n0 = n ∧ m0 = m
    · rw [if_pos z] at e
      cases e
      obtain ⟨z1, z2⟩ := z
      subst z1; subst z2
      rw [h1] at hm
      cases hm
      exact ⟨D, Ca, rfl, h2, h3, h4⟩
    · rw [if_neg z] at e
      exact TabOk.get h e hm
abbrev Cat := List (Str × Bool)
def Cat.get (t : Cat) (n : Str) : Option Bool := match t with
  | [] => none
  | (a, r) :: t => if a = n then some r else Cat.get t n
inductive CatOk (K : PySem.W.Frag) (mg : Str → Option Value) (c : Value) : Cat → Prop
  | nil : CatOk K mg c []
  | cons {n : Str} {b : Bool} {t : Cat} (D : Value) (h1 : mg n = some D) (h2 : PySem.W.exmOne K D c = some b) (h : CatOk K mg c t) : CatOk K mg c ((n, b) :: t)
theorem CatOk.get {mg : Str → Option Value} {c : Value} : ∀ {t : Cat}, CatOk K mg c t → ∀ (n : Str) (b : Bool) (cls : Value), t.get n = some b → mg n = some cls → PySem.W.exmOne K cls c = some b
  | _, .nil, _, _, _, h, _ => by cases h
  | _, .cons (n := n0) (b := b0) (t := t) D h1 h2 h, n, b, cls, e, hm => by
    unfold Cat.get at e
    by_cases z : n0 = n
    · rw [if_pos z] at e
      cases e
      subst z
      rw [h1] at hm
      cases hm
      exact h2
    · rw [if_neg z] at e
      exact CatOk.get h n b cls e hm
def xsup (t : Tab) (xc : Xc) (C : Str) : Option Bool := match xc.fs with
  | [] => t.get xc.cls C
  | _ => none
def eIsE (i : Nat) (b? : Option Bool) : SE := fun e => match e[i]? with
  | some .ex => match b? with
    | some b => .ok (.sh (.bool b)) e
    | none => .bad
  | _ => .bad
theorem fe_isE {i : Nat} {t : Tab} {xc : Xc} {a : Addr} {oe : Obj} {h : Hp} {tb : List Addr} {cls : Value} {d : Option Addr} {pn : List (Addr × Obj)} {x C : Str} {p p2 p3 pos : Pos} (hz : Zc cls d oe) (hfi : ∃ vs, oe.data = .fields vs) (hmg : X.mg xc.cls = some cls) (hd : xc.fs = [] → d = none) (hT : TabOk X.K X.mg t)
    (hx : PE (X.suite a ((a, oe) :: pn)) (.Name x p2) (tVar i)) (hm : X.mg "isinstance" = none) (hg : Gl X "isinstance" := by rfl) (hgC : Gl X C := by rfl) (hdb : (C == ("__debug__" : Str)) = false := by decide)
    (he : starEach [.Name x p2, .Name C p3] X.env = (false, eval (.Name x p2) X.env) :: starEach [.Name C p3] X.env := by rfl) (he2 : starEach [.Name C p3] X.env = (false, eval (.Name C p3) X.env) :: starEach [] X.env := by rfl) (hpl : (backTo pos (starEach [.Name C p3] X.env)).any (·.1) = false := by rfl) :
    FEx (X.suite a ((a, oe) :: pn)) ⟨h, a, tb⟩ WF (.Call (.Name "isinstance" p) [.Name x p2, .Name C p3] [] pos) (eIsE i (xsup t xc C)) := by
  cases hb : xsup t xc C with
  | none => exact ⟨fun pins s σ H Q I ⟨env, er, q⟩ => by
      unfold eIsE at q
      cases hi : env[i]? with
      | none => rw [hi] at q; exact q.elim
      | some t => rw [hi] at q; cases t <;> exact q.elim⟩
  | some b =>
    unfold xsup at hb
    cases hfs : xc.fs with
    | cons _ _ => rw [hfs] at hb; cases hb
    | nil =>
      rw [hfs] at hb
      obtain ⟨D, Ca, ec, eC, mC, ko⟩ := hT.get hb hmg
      have hd := hd hfs
      subst ec; subst hd
      exact PE.imp (pe_callB (call_isE eC hz hfi) hg hm PyProof.Rows.boot_isinstance (pa_cons hx (pa_cons (pe_glob (v := .ref Ca) hgC mC rfl hdb) pa_nil he2) he) (by decide) (by decide) he hpl) fun σ H Q ⟨env, er, q⟩ => by
        unfold eIsE at q
        cases hi : env[i]? with
        | none => rw [hi] at q; exact q.elim
        | some t =>
          rw [hi] at q
          cases t with
          | ex => exact ⟨_, er.ex i hi, .ref Ca, .ref Ca, b, rfl, (fun u r => r), ko, q _ H (.refl _ _) er (.refl _) (.bl _)⟩
          | _ => exact q.elim
end
end FE
end
section
set_option Elab.async false
set_option linter.all false
set_option maxRecDepth 100000
namespace FE
open PySem PySem.Spec PyProof.Rows L2

/-! ### defs by name -/
structure Df (K : PySem.W.Frag) (mg : Str → Option Value) (x : Str) (ps : List Str) (st : Stmt) : Prop where
  ex : ∃ (f : Addr) (fd : FuncData), Fun K x x st f fd ∧ mg x = some (.ref f) ∧ PySem.W.keepIn K (.ref f) = true ∧ Binds K fd ps [] ∧ ∀ (s : Shared) (us : List Value), us.length = ps.length → BindsTo s fd ⟨us, []⟩ (ps.zip us)
structure GF (P : Program) (w : World) (K : PySem.W.Frag) (mg : Str → Option Value) (base : Heap) (n : Nat) (x : Str) (ps : List Str) (g : FS) : Prop where
  ex : ∃ (f : Addr) (fd : FuncData), mg x = some (.ref f) ∧ PySem.W.keepIn K (.ref f) = true ∧ Binds K fd ps [] ∧ FnG P w K mg base n f fd ps (spF K mg ps.length g) ∧ ∃ oc od osl, K.lookup f = some ⟨oc, od, .func fd, osl⟩
section
variable {P : Program} {w : World} {K : PySem.W.Frag} {mg : Str → Option Value} {base : Heap} {x y : Str} {ps N : List Str} {st : Stmt} {n nl : Nat}
theorem GF.zero (D : Df K mg x ps st) : GF P w K mg base n x ps (fun _ => .bad) := by
  obtain ⟨f, fd, F, hm, hk, hb, _⟩ := D.ex
  refine ⟨f, fd, hm, hk, hb, ⟨fun vs H Q E h => h.1, fun A outer s H args us vs Q E hg hr he hb hv hs => by
    obtain ⟨_, _, _, _, h⟩ := hs
    exact h.elim⟩, ?_⟩
  obtain ⟨oc, od, kV, doc, pm, an, cdv, ct, osl, e, lk, _⟩ := F.ex
  exact ⟨oc, od, osl, lk⟩
theorem GF.make {b : SS} (D : Df K mg x ps st) (S : FnScope N ps (defScope st)) (hn : N.length = ps.length + nl)
    (hbody : ∀ (X : Cx) (H0 : Gh) (W : WX) (cdv : Value) (A : Around) (outer : List PySem.Env) (s : Shared) (H : Hp) (E : XK) (f : Addr), X = cxOf (L2.CX P w) P w K mg base N x (defScope st) f cdv A outer s H E → NoG X.A → Room n X.A → Takes X W → FBx X H0 W (defBody st) b) :
    GF P w K mg base (n + 1) x ps (fDef ps.length nl b) := by
  obtain ⟨f, fd, F, hm, hk, hb, _⟩ := D.ex
  have h0 := fn_sound (P := P) (w := w) (mg := mg) (base := base) (T := []) F S hn fun X H0 W cdv hcv hT A outer s H E hX => hbody X H0 W cdv A outer s H E f hX
  refine ⟨f, fd, hm, hk, hb, ⟨fun vs H Q E h => h.1, fun A outer s H args us vs Q E hg hr he hb hv hs => h0.run A outer s H args us vs Q E hg hr he hb hv ⟨fun P hP => absurd hP (by simp), hs⟩⟩, ?_⟩
  obtain ⟨oc, od, kV, doc, pm, an, cdv, ct, osl, e, lk, _⟩ := F.ex
  exact ⟨oc, od, osl, lk⟩
/-- the law's own def, over every base -/
theorem GF.law {g : FS} {fa : Addr} (D : Df K mg x [y] st) (hfa : mg x = some (.ref fa)) (hF : ∀ base, GF P w K mg base n x [y] g) : ∃ fd, (∀ (s : Shared) (u : Value), BindsTo s fd ⟨[u], []⟩ [(y, u)]) ∧ ∀ base : Heap, FnG P w K mg base n fa fd [y] (spF K mg 1 g) := by
  obtain ⟨f, fd, F, hm, hk, hb, hbb⟩ := D.ex
  rw [hfa] at hm
  cases hm
  refine ⟨fd, fun s u => hbb s [u] rfl, fun base => ?_⟩
  obtain ⟨f2, fd2, hm2, _, _, h, oc2, od2, osl2, lk2⟩ := (hF base).ex
  rw [hfa] at hm2
  cases hm2
  obtain ⟨oc, od, kV, doc, pm, an, cdv, ct, osl, e, lk, _⟩ := F.ex
  rw [lk] at lk2
  cases lk2
  exact h
end
section
variable {X : Cx} {H0 : Gh} {W : WX}
theorem fe_F {n : Nat} {x : Str} {ps : List Str} {g : FS} {p pos : Pos} {a : Expr} {es : List Expr} {as : SA} (F : GF X.prog X.w X.K X.mg X.base n x ps g) (hgu : NoG X.A) (hr : Room n X.A) (tk : Takes X W) (ha : FAx X H0 W (a :: es) as) (hl : Len as ps.length) (hg : Gl X x := by rfl)
    (hdb : (x == ("__debug__" : Str)) = false := by decide) (he : starEach (a :: es) X.env = (false, eval a X.env) :: starEach es X.env := by rfl) (hpl : (backTo pos (starEach es X.env)).any (·.1) = false := by rfl) : FEx X H0 W (.Call (.Name x p) (a :: es) [] pos) (eCall g as) := by
  obtain ⟨f, fd, hm, hk, hb, F, _⟩ := F.ex
  exact fe_call F hgu hr hg hm hk hb tk ha hl hdb he hpl
theorem fe_F0 {n : Nat} {x : Str} {g : FS} {p pos : Pos} (F : GF X.prog X.w X.K X.mg X.base n x [] g) (hgu : NoG X.A) (hr : Room n X.A) (hg : Gl X x := by rfl) (hdb : (x == ("__debug__" : Str)) = false := by decide) : FEx X H0 W (.Call (.Name x p) [] [] pos) (eCall0 g) := by
  obtain ⟨f, fd, hm, hk, hb, F, _⟩ := F.ex
  exact fe_call0 F hgu hr hg hm hk hb hdb
/-- a module's constant -/
structure Kon (K : PySem.W.Frag) (mg : Str → Option Value) (x : Str) (d : D) : Prop where
  ex : ∃ (v : V) (u : Value), mg x = some u ∧ RelV v u ∧ ∀ H, Rp K H v d
theorem fe_k {x : Str} {d : D} {pos : Pos} (h : Kon X.K X.mg x d) (hg : Gl X x := by rfl) (hd : (x == ("__debug__" : Str)) = false := by decide) : FEx X H0 W (.Name x pos) (eC d) := by
  obtain ⟨v, u, h1, h2, h3⟩ := h.ex
  exact fe_g hg h1 h2 h3 hd
end
mutual
def repB (K : PySem.W.Frag) : D → Value → Bool
  | .none, .none => true
  | .bool b, .bool c => b == c
  | .int i, .int j _ => decide (i = j)
  | .str x, .str y _ => decide (x = y)
  | .tuple ds, .ref a => (match K.lookup a with
    | some ⟨.type c, _, .seq its _, _⟩ => decide (c = "tuple") && (decide (its.size ≤ sizeLine) && repBs K ds its.toList)
    | _ => false)
  | _, _ => false
def repBs (K : PySem.W.Frag) : List D → List Value → Bool
  | [], [] => true
  | d :: ds, u :: us => repB K d u && repBs K ds us
  | _, _ => false
end
mutual
theorem repB_ok {K : PySem.W.Frag} : ∀ {d : D} {u : Value}, repB K d u = true → ∃ v, RelV v u ∧ ∀ H, Rp K H v d
  | .none, u, h => by
    cases u with
    | none => exact ⟨.non, rfl, fun _ => .non⟩
    | _ => simp [repB] at h
  | .bool b, u, h => by
    cases u with
    | bool c =>
      simp only [repB] at h
      exact ⟨.bl b, by rw [eq_of_beq h]; rfl, fun _ => .bl b⟩
    | _ => simp [repB] at h
  | .int i, u, h => by
    cases u with
    | int j t =>
      simp only [repB] at h
      exact ⟨.int i, ⟨t, by rw [of_decide_eq_true h]⟩, fun _ => .int i⟩
    | _ => simp [repB] at h
  | .str x, u, h => by
    cases u with
    | str y t =>
      simp only [repB] at h
      exact ⟨.str x, ⟨t, by rw [of_decide_eq_true h]⟩, fun _ => .str x⟩
    | _ => simp [repB] at h
  | .tuple ds, u, h => by
    cases u with
    | ref a =>
      simp only [repB] at h
      cases q : K.lookup a with
      | none => rw [q] at h; cases h
      | some o =>
        rw [q] at h
        obtain ⟨oc, od, dt, sl⟩ := o
        cases oc with
        | type c =>
          cases dt with
          | seq its n =>
            obtain ⟨h1, h2⟩ := Bool.and_eq_true_iff.mp (show (decide (c = "tuple") && (decide (its.size ≤ sizeLine) && repBs K ds its.toList)) = true from h)
            obtain ⟨h3, h4⟩ := Bool.and_eq_true_iff.mp h2
            obtain ⟨vs, h5, h6⟩ := repBs_ok h4
            exact ⟨.ref a, rfl, fun H => .tup (.inr ⟨_, its, n, q, congrArg Value.type (of_decide_eq_true h1), rfl, of_decide_eq_true h3, h5⟩) (h6 H)⟩
          | _ => cases h
        | _ => cases dt <;> cases h
    | _ => simp [repB] at h
  | .list _, u, h => by cases u <;> simp [repB] at h
  | .dict _, u, h => by cases u <;> simp [repB] at h
theorem repBs_ok {K : PySem.W.Frag} : ∀ {ds : List D} {us : List Value}, repBs K ds us = true → ∃ vs, Vals vs us ∧ ∀ H, RpAll K H vs ds
  | [], [], _ => ⟨[], .nil, fun _ => .nil⟩
  | [], _ :: _, h => by simp [repBs] at h
  | _ :: _, [], h => by simp [repBs] at h
  | d :: ds, u :: us, h => by
    simp only [repBs] at h
    obtain ⟨h1, h2⟩ := Bool.and_eq_true_iff.mp h
    obtain ⟨v, h3, h4⟩ := repB_ok h1
    obtain ⟨vs, h5, h6⟩ := repBs_ok h2
    exact ⟨v :: vs, .cons h3 h5, fun H => .cons (h4 H) (h6 H)⟩
end
/-! ### facts that the head's Hook adds -/
inductive Fy where
  | kon (x : Str) (d : D)
  | exC (x : Str)
  | isS (x y : Str) (b : Bool)
def exCB (K : PySem.W.Frag) (D : Addr) : Bool :=
  He.eqO (PySem.W.findIn K (.ref D) "__getattribute__") (some (some (.builtin "BaseException.__getattribute__"))) && (He.eqO (PySem.W.findIn K (.ref D) "__getattr__") (some none) && (decide (PySem.W.subIn K (.ref D) (.type "BaseException") = some true) && (PySem.W.hasDictIn K D &&
  (He.eqO (PySem.W.findIn K (.ref D) "__class__") (some (some (.builtin "object.__class__"))) && (He.eqO (PySem.W.specialIn K (.builtin "object.__class__") "__get__") (some (some (.builtin "getset_descriptor.__get__"))) && (decide (PySem.W.takesIn K (.builtin "object.__class__") = some true) && decide (PySem.W.mroIn K D (.type "object") = some true)))))))
theorem exCB_ok {K : PySem.W.Frag} {D : Addr} (h : exCB K D = true) : ExcC K D := by
  unfold exCB at h
  obtain ⟨h1, h⟩ := He.ba h
  obtain ⟨h2, h⟩ := He.ba h
  obtain ⟨h3, h⟩ := He.ba h
  obtain ⟨h4, h⟩ := He.ba h
  obtain ⟨h5, h⟩ := He.ba h
  obtain ⟨h6, h⟩ := He.ba h
  obtain ⟨h7, h8⟩ := He.ba h
  exact ⟨He.eqO_ok h1, He.eqO_ok h2, of_decide_eq_true h3, h4, He.eqO_ok h5, He.eqO_ok h6, of_decide_eq_true h7, of_decide_eq_true h8⟩
def Fy.ok (K : PySem.W.Frag) : Fy → Bool
  | .kon x d => (match PySem.W.nsIn K mainGlobals x with
    | some (some u) => repB K d u
    | _ => false)
  | .exC x => exCB K (He.ga K x)
  | .isS x y b => decide (PySem.W.kitOne K (.ref (He.ga K x)) (.ref (He.ga K y)) = some b)
theorem kon_ok {K : PySem.W.Frag} {h : Heap} {mg : Str → Option Value} (X : K.In h) (G : h.Ns mainGlobals mg) {x : Str} {d : D} (c : (Fy.kon x d).ok K = true) : Kon K mg x d := by
  have c2 : (match PySem.W.nsIn K mainGlobals x with
    | some (some u) => repB K d u
    | _ => false) = true := c
  cases e : PySem.W.nsIn K mainGlobals x with
  | none => rw [e] at c2; cases c2
  | some o =>
    rw [e] at c2
    cases o with
    | none => cases c2
    | some u =>
      obtain ⟨v, h1, h2⟩ := repB_ok (show repB K d u = true from c2)
      exact ⟨v, u, PySem.W.mg_of X G e, h1, h2⟩
abbrev AlY : Type := Bool × He.AlD
def obsY (fy : List Fy) (fa : List He.Fa) (fn : List He.DefD) (K : PySem.W.Frag) : AlY := (fy.all fun f => f.ok K, He.obsD fa fn K)
def valY (fn : List He.DefD) : AlY := (true, He.valD fn)
def SaysY (fy : List Fy) (fa : List He.Fa) (fn : List He.DefD) (K : PySem.W.Frag) : Prop := obsY fy fa fn K = valY fn
def obsYG (n : Nat) (fy : List Fy) (fa : List He.Fa) (fn : List He.DefD) (g : Addr → Option Obj) : AlY := obsY fy fa fn (He.frG g (He.asD g n))
def hookY (n : Nat) (fy : List Fy) (fa : List He.Fa) (fn : List He.DefD) : PySem.W.Hook where
  α := AlY
  obs := fun s => obsYG n fy fa fn s.heap.get?
  val := fun _ => valY fn
  says := fun _ h => ∃ K : PySem.W.Frag, K.In h ∧ SaysY fy fa fn K
  of := fun _ _ e => ⟨_, He.frG_in, e⟩
  keeps := fun _ _ _ ⟨K, hK, c⟩ k => ⟨K, PySem.W.Frag.In.keeps hK k, c⟩
theorem obsYG_eq {n : Nat} {fy : List Fy} {fa : List He.Fa} {fn : List He.DefD} {g : Addr → Option Obj} {s : Shared} (h : ∀ a, g a = s.heap.get? a) : obsYG n fy fa fn g = (hookY n fy fa fn).obs s := by
  have e : g = s.heap.get? := funext h
  rw [e] <;> rfl
section
variable {fy : List Fy} {fa : List He.Fa} {fn : List He.DefD} {K : PySem.W.Frag}
theorem SaysY.d (c : SaysY fy fa fn K) : He.SaysD fa fn K := congrArg (fun z : AlY => z.2) c
theorem SaysY.y (c : SaysY fy fa fn K) (i : Nat) {f : Fy} (h : fy[i]? = some f := by rfl) : f.ok K = true := by
  have c1 : (fy.all fun f => f.ok K) = true := congrArg (fun z : AlY => z.1) c
  exact List.all_eq_true.mp c1 f (List.mem_of_getElem? h)
theorem df_of {h : Heap} {mg : Str → Option Value} {x : Str} {ps : List Str} {st : Stmt} {d : He.DefD} (X : K.In h) (G : h.Ns mainGlobals mg) (c : He.SaysD fa fn K) (i : Nat) (hd : fn[i]? = some d) (e : d = ⟨(x, none), x, x, defArgs st, defBody st, defScope st, [], []⟩) (gi : Nat) (hf : fa[gi]? = some (.glo x))
    (hb : ∀ (kV doc pm : Value) (an : Option Addr) (cdv ct : Value) (us : List Value), us.length = ps.length → bindArgs (PySem.W.fnOf x x (defArgs st) (defBody st) (defScope st) .none kV doc pm an cdv ct) ⟨us, []⟩ = pure (ps.zip us)) : Df K mg x ps st := by
  obtain ⟨fd, F⟩ := c.def_ i hd
  subst e
  have F : FunD K x x (defArgs st) (defBody st) (defScope st) [] [] (He.ga K x) fd := F
  exact ⟨He.ga K x, fd, He5.fun_of F, He.glo_ok X G (c.fact gi hf), F.kp, F.bindsN hb, fun s us hl => F.bindsA hb s us hl⟩
end
/-! own exception classes -/
structure Exw (K : PySem.W.Frag) (mg : Str → Option Value) (x : Str) : Prop where
  ex : ∃ C : Addr, PySem.W.excIn K C He.veBase "ValueError.__new__" = true ∧ mg x = some (.ref C) ∧ PySem.W.keepIn K (.ref C) = true ∧ PySem.W.subIn K (.ref C) (.type "BaseException") = some true ∧ PySem.W.typeIn K (.ref C) = some (.type "type")
theorem Exw.exF {X : Cx} {x : Str} (h : Exw X.K X.mg x) : ExF X x := by
  obtain ⟨C, h1, h2, h3, h4, h5⟩ := h.ex
  exact ⟨C, _, _, _, _, PySem.F.excBase_ValueError, h1, h2, h3, raises_own h4 h5⟩
theorem exw_of {K : PySem.W.Frag} {h : Heap} {mg : Str → Option Value} {x : Str} (X : K.In h) (G : h.Ns mainGlobals mg) (c : (He.Fa.exc x).ok K = true) (c2 : (He.Fa.glo x).ok K = true) : Exw K mg x := by
  obtain ⟨h1, h2, h3, h4⟩ := He.exc_ok c
  exact ⟨_, h1, He.glo_ok X G c2, h2, h3, h4⟩
end FE
namespace FE
open PySem PySem.Spec PyProof.Rows L2
theorem bt_int : bootBuiltins "int" = some (.type "int") := by decide +kernel
theorem bt_bool : bootBuiltins "bool" = some (.type "bool") := by decide +kernel
theorem bt_str : bootBuiltins "str" = some (.type "str") := by decide +kernel
theorem bt_list : bootBuiltins "list" = some (.type "list") := by decide +kernel
theorem bt_tuple : bootBuiltins "tuple" = some (.type "tuple") := by decide +kernel
theorem bt_len : bootBuiltins "len" = some (.builtin "len") := by decide +kernel
theorem bt_abs : bootBuiltins "abs" = some (.builtin "abs") := by decide +kernel
theorem bt_all : bootBuiltins "all" = some (.builtin "all") := by decide +kernel
theorem bt_any : bootBuiltins "any" = some (.builtin "any") := by decide +kernel
theorem bt_repr : bootBuiltins "repr" = some (.builtin "repr") := by decide +kernel
end FE
end
section
set_option Elab.async false
set_option linter.all false
set_option maxRecDepth 100000
namespace FE
open PySem PySem.Spec PyProof.Rows L2
section
variable {X : Cx} {K : PySem.W.Frag} {H0 : Gh} {Hs H H' H1 H2 : Hp} {W : WX} {env e e0 e1 e2 : En} {σ σ' σ1 σ3 σ4 : L2.St}
/-! ### (a if c else b) as a test -/
def tIteS (c f g : ST) : ST := fun e => (c e).bind fun b e1 => match b with
  | true => f e1
  | false => g e1
theorem ft_if {c a b : Expr} {fc fa fb : ST} {pos : Pos} (hc : FTx X H0 W c fc) (ha : FTx X H0 W a fa) (hb : FTx X H0 W b fb) : FTx X H0 W (.IfExp c a b pos) (tIteS fc fa fb) := by
  refine ⟨fun pins s σ H Q I h => ?_⟩
  show wpAny _ _ (do if ← isTrue c X.env (eval c X.env) then isTrue a X.env (eval a X.env) else isTrue b X.env (eval b X.env)) _ _ _
  refine wpAny_bind (thn (hc.run pins s σ H _ I (tT_bind h)) fun d s1 ⟨H1, I1, q1⟩ => ?_)
  cases d with
  | true => exact ha.run pins s1 σ H1 Q I1 q1
  | false => exact hb.run pins s1 σ H1 Q I1 q1
/-! ### tuple(range(n)), list(range(n)) -/
theorem tE_bind {f : SE} {g : Vl → En → R Vl} {Q0 : VK} (h : tE X H0 W (fun e => (f e).bind g) σ H Q0) {Q : VK}
    (i : ∀ env e1 v x H1, ER X.K H0 env σ H → ER X.K H0 e1 σ H1 → Step (OA env σ) H H1 → Sb env e1 → VR X.K σ H H1 v x → pE X H0 W env σ H Q0 (g v e1) → Q x H1) : tE X H0 W f σ H Q := by
  obtain ⟨env, er, q⟩ := h
  refine ⟨env, er, ?_⟩
  have q : pE X H0 W env σ H Q0 ((f env).bind g) := q
  cases hf : f env with
  | bad => rw [hf] at q; exact q
  | exc xc e' => rw [hf] at q; exact q
  | ok v e' =>
    rw [hf] at q
    exact fun x H1 st er1 sb vr => i env e' v x H1 er er1 st sb vr q
theorem rg_rp {n : Int} : RpAll K H (rgV 0 n) (intsD 0 n.toNat) := by
  unfold rgV intsD
  rw [Int.sub_zero]
  generalize n.toNat = m
  generalize List.range m = l
  induction l with
  | nil => exact .nil
  | cons a l ih => exact .cons (.int _) ih
def rgT (v : Vl) (e : En) : R Vl := match v.get e with
  | some (.int j) => if -(2 ^ 62) ≤ j ∧ j ≤ 1000000 then .ok (.sh (.tuple (intsD 0 j.toNat))) e else .bad
  | _ => .bad
def eTupRg (f : SE) : SE := fun e => (f e).bind rgT
theorem fe_tupRg {a : Expr} {f : SE} {p p2 pos pos2 : Pos} (hc : X.calm = true) (hg : Gl X "tuple") (hm : X.mg "tuple" = none) (hg2 : Gl X "range") (hm2 : X.mg "range" = none) (h : FEx X H0 W a f)
    (na : starEach [a] X.env = (false, eval a X.env) :: starEach [] X.env := by rfl) (na2 : starEach [.Call (.Name "range" p2) [a] [] pos2] X.env = (false, eval (.Call (.Name "range" p2) [a] [] pos2) X.env) :: starEach [] X.env := by rfl) :
    FEx X H0 W (.Call (.Name "tuple" p) [.Call (.Name "range" p2) [a] [] pos2] [] pos) (eTupRg f) :=
  PE.imp (pe_tupRg hc hg hm (prg_1 hg2 hm2 h na) na2) fun σ H Q hq => tE_bind hq fun env e1 v x H1 er er1 st sb vr q => by
    unfold rgT at q
    cases hgv : v.get e1 with
    | none => rw [hgv] at q; exact q.elim
    | some d =>
      rw [hgv] at q
      cases d with
      | int j =>
        simp only at q
        split at q
        · rename_i hb
          refine ⟨j, (vr.vd er1 hgv).int, ⟨by decide, by decide, hb.1, by omega, by omega⟩, fun p hp => ?_⟩
          have s0 : Step (fun _ => False) H1 (upd H1 p (.tup (rgV 0 j))) := step0_upd hp
          exact q _ _ (st.trans s0 fun _ z => z.elim) (er1.step0 s0) sb (.tup (.of upd_same) rg_rp)
        · exact q.elim
      | _ => exact q.elim
def rgL (v : Vl) (e : En) : R Vl := match v.get e with
  | some (.int j) => if -(2 ^ 62) ≤ j ∧ j ≤ 1000000 then .ok (.fr (.list (intsD 0 j.toNat))) e else .bad
  | _ => .bad
def eLstRg (f : SE) : SE := fun e => (f e).bind rgL
theorem fe_lstRg {a : Expr} {f : SE} {p p2 pos pos2 : Pos} (hc : X.calm = true) (hg : Gl X "list") (hm : X.mg "list" = none) (hg2 : Gl X "range") (hm2 : X.mg "range" = none) (h : FEx X H0 W a f)
    (na : starEach [a] X.env = (false, eval a X.env) :: starEach [] X.env := by rfl) (na2 : starEach [.Call (.Name "range" p2) [a] [] pos2] X.env = (false, eval (.Call (.Name "range" p2) [a] [] pos2) X.env) :: starEach [] X.env := by rfl) :
    FEx X H0 W (.Call (.Name "list" p) [.Call (.Name "range" p2) [a] [] pos2] [] pos) (eLstRg f) :=
  PE.imp (pe_listRg hc hg hm (prg_1 hg2 hm2 h na) na2) fun σ H Q hq => tE_bind hq fun env e1 v x H1 er er1 st sb vr q => by
    unfold rgL at q
    cases hgv : v.get e1 with
    | none => rw [hgv] at q; exact q.elim
    | some d =>
      rw [hgv] at q
      cases d with
      | int j =>
        simp only at q
        split at q
        · rename_i hb
          refine ⟨j, (vr.vd er1 hgv).int, ⟨by decide, by decide, hb.1, by omega, by omega⟩, fun p hp => ?_⟩
          have s0 : Step (fun _ => False) H1 (upd H1 p (.lst (rgV 0 j))) := step0_upd hp
          exact q _ _ (st.trans s0 fun _ z => z.elim) (er1.step0 s0) sb ⟨p, rfl, none_back st hp, _, upd_same, rg_rp⟩
        · exact q.elim
      | _ => exact q.elim
end
end FE
end
section
set_option Elab.async false
set_option linter.all false
set_option maxRecDepth 100000
/-! the shallow forms run by simp: each step with its own continuation, so that nothing is unfolded before its turn -/
namespace FE
open PySem
@[simp] theorem x_eC (d : D) (e : En) : eC d e = .ok (.sh d) e := rfl
def eVk (i : Nat) (e : En) : Option Slot → R Vl
  | some (.sh _) => .ok (.lt i) e
  | some (.ow _) => .ok (.lt i) e
  | some (.pa _) => .ok (.lt i) e
  | some (.pf _) => .ok (.lt i) e
  | _ => .bad
@[simp] theorem x_eV (i : Nat) (e : En) : eV i e = eVk i e (e[i]?) := by
  unfold eV
  cases e[i]? with
  | none => rfl
  | some s => cases s <;> rfl
@[simp] theorem x_eVk1 (i : Nat) (e : En) (d : D) : eVk i e (some (.sh d)) = .ok (.lt i) e := rfl
@[simp] theorem x_eVk2 (i : Nat) (e : En) (d : D) : eVk i e (some (.ow d)) = .ok (.lt i) e := rfl
@[simp] theorem x_eVk3 (i : Nat) (e : En) (d : D) : eVk i e (some (.pa d)) = .ok (.lt i) e := rfl
@[simp] theorem x_eVk4 (i : Nat) (e : En) (d : D) : eVk i e (some (.pf d)) = .ok (.lt i) e := rfl
@[simp] theorem x_get1 (e : En) (d : D) : (Vl.sh d).get e = some d := rfl
@[simp] theorem x_get2 (e : En) (d : D) : (Vl.fr d).get e = some d := rfl
@[simp] theorem x_get3 (e : En) (i : Nat) : (Vl.lt i).get e = (e[i]?).bind Slot.cont := rfl
@[simp] theorem x_cont1 (d : D) : (Slot.sh d).cont = some d := rfl
@[simp] theorem x_cont2 (d : D) : (Slot.ow d).cont = some d := rfl
@[simp] theorem x_cont3 (d : D) : (Slot.pa d).cont = some d := rfl
@[simp] theorem x_cont4 (d : D) : (Slot.pf d).cont = some d := rfl
def getLk (a : Option D) (b : Option (List D)) : Option (List D) := match a, b with
  | some d, some ds => some (d :: ds)
  | _, _ => none
@[simp] theorem x_getLk (d : D) (ds : List D) : getLk (some d) (some ds) = some (d :: ds) := rfl
@[simp] theorem x_getL0 (e : En) : getL e [] = some [] := rfl
@[simp] theorem x_getL1 (e : En) (v : Vl) (vs : List Vl) : getL e (v :: vs) = getLk (v.get e) (getL e vs) := by
  conv => lhs; unfold getL
  cases v.get e <;> cases getL e vs <;> rfl
@[simp] theorem x_aNil (e : En) : aNil e = .ok [] e := rfl
def aK2 (v : Vl) (vs : List Vl) (e : En) : R (List Vl) := .ok (v :: vs) e
def aK1 (g : SA) (v : Vl) (e : En) : R (List Vl) := (g e).bind (aK2 v)
@[simp] theorem x_aCons (f : SE) (g : SA) (e : En) : aCons f g e = (f e).bind (aK1 g) := rfl
@[simp] theorem x_aK1 (g : SA) (v : Vl) (e : En) : aK1 g v e = (g e).bind (aK2 v) := rfl
@[simp] theorem x_aK2 (v : Vl) (vs : List Vl) (e : En) : aK2 v vs e = .ok (v :: vs) e := rfl
@[simp] theorem x_mk1 (d : D) : mkV (true, d) = .fr d := rfl
@[simp] theorem x_mk2 (d : D) : mkV (false, d) = .sh d := rfl
def oV (e : En) : Option (Bool × D) → R Vl
  | some r => .ok (mkV r) e
  | none => .bad
@[simp] theorem x_oV (e : En) (r : Bool × D) : oV e (some r) = .ok (mkV r) e := rfl
def nK (g : List D → Option (Bool × D)) (vs : List Vl) (e : En) : R Vl := oV e ((getL e vs).bind g)
@[simp] theorem x_eN (g : List D → Option (Bool × D)) (as : SA) (e : En) : eN g as e = (as e).bind (nK g) := by
  unfold eN
  congr 1
@[simp] theorem x_nK (g : List D → Option (Bool × D)) (vs : List Vl) (e : En) : nK g vs e = oV e ((getL e vs).bind g) := rfl
def tsK2 (e : En) : Option D → R Bool
  | some (.bool b) => .ok b e
  | _ => .bad
@[simp] theorem x_tsK2 (e : En) (b : Bool) : tsK2 e (some (.bool b)) = .ok b e := rfl
def tsK (v : Vl) (e : En) : R Bool := tsK2 e (v.get e)
@[simp] theorem x_tsK (v : Vl) (e : En) : tsK v e = tsK2 e (v.get e) := rfl
@[simp] theorem x_testS (f : SE) (e : En) : testS f e = (f e).bind tsK := by
  unfold testS
  congr 1
def tAndK (g : ST) (b : Bool) (e : En) : R Bool := match b with
  | true => g e
  | false => .ok false e
@[simp] theorem x_tAndS (f g : ST) (e : En) : tAndS f g e = (f e).bind (tAndK g) := rfl
@[simp] theorem x_tAndK1 (g : ST) (e : En) : tAndK g true e = g e := rfl
@[simp] theorem x_tAndK2 (g : ST) (e : En) : tAndK g false e = .ok false e := rfl
def tOrK (g : ST) (b : Bool) (e : En) : R Bool := match b with
  | true => .ok true e
  | false => g e
@[simp] theorem x_tOrS (f g : ST) (e : En) : tOrS f g e = (f e).bind (tOrK g) := rfl
@[simp] theorem x_tOrK1 (g : ST) (e : En) : tOrK g true e = .ok true e := rfl
@[simp] theorem x_tOrK2 (g : ST) (e : En) : tOrK g false e = g e := rfl
def tNotK (b : Bool) (e : En) : R Bool := .ok (!b) e
@[simp] theorem x_tNotS (f : ST) (e : En) : tNotS f e = (f e).bind tNotK := rfl
@[simp] theorem x_tNotK (b : Bool) (e : En) : tNotK b e = .ok (!b) e := rfl
def tIteK (f g : ST) (b : Bool) (e : En) : R Bool := match b with
  | true => f e
  | false => g e
@[simp] theorem x_tIteS (c f g : ST) (e : En) : tIteS c f g e = (c e).bind (tIteK f g) := rfl
@[simp] theorem x_tIteK1 (f g : ST) (e : En) : tIteK f g true e = f e := rfl
@[simp] theorem x_tIteK2 (f g : ST) (e : En) : tIteK f g false e = g e := rfl
@[simp] theorem x_tYesS (e : En) : tYesS e = .ok true e := rfl
def eAndK (g : SE) (b : Bool) (e : En) : R Vl := match b with
  | true => g e
  | false => .ok (.sh (.bool false)) e
@[simp] theorem x_eAnd (f g : SE) (e : En) : eAnd f g e = (testS f e).bind (eAndK g) := rfl
@[simp] theorem x_eAndK1 (g : SE) (e : En) : eAndK g true e = g e := rfl
@[simp] theorem x_eAndK2 (g : SE) (e : En) : eAndK g false e = .ok (.sh (.bool false)) e := rfl
def eOrK (g : SE) (b : Bool) (e : En) : R Vl := match b with
  | true => .ok (.sh (.bool true)) e
  | false => g e
@[simp] theorem x_eOr (f g : SE) (e : En) : eOr f g e = (testS f e).bind (eOrK g) := rfl
@[simp] theorem x_eOrK1 (g : SE) (e : En) : eOrK g true e = .ok (.sh (.bool true)) e := rfl
@[simp] theorem x_eOrK2 (g : SE) (e : En) : eOrK g false e = g e := rfl
def eNotK (b : Bool) (e : En) : R Vl := .ok (.sh (.bool (!b))) e
@[simp] theorem x_eNot (f : SE) (e : En) : eNot f e = (testS f e).bind eNotK := rfl
@[simp] theorem x_eNotK (b : Bool) (e : En) : eNotK b e = .ok (.sh (.bool (!b))) e := rfl
def eIfK (f g : SE) (b : Bool) (e : En) : R Vl := match b with
  | true => f e
  | false => g e
@[simp] theorem x_eIf (c : ST) (f g : SE) (e : En) : eIf c f g e = (c e).bind (eIfK f g) := rfl
@[simp] theorem x_eIfK1 (f g : SE) (e : En) : eIfK f g true e = f e := rfl
@[simp] theorem x_eIfK2 (f g : SE) (e : En) : eIfK f g false e = g e := rfl
def chK3 (g' : List D → Option (Bool × D)) (y z : Vl) (e : En) : R Vl := oV e ((getL e [y, z]).bind g')
def chK2 (g' : List D → Option (Bool × D)) (y : Vl) (z : Vl) (e : En) : R Vl := chK3 g' y z e
def chK1 (g' : List D → Option (Bool × D)) (fc : SE) (vs : List Vl) (e : En) : Option (Bool × D) → R Vl
  | some (false, .bool true) => match vs with
    | [_, y] => (fc e).bind (chK2 g' y)
    | _ => .bad
  | some (false, .bool false) => .ok (.sh (.bool false)) e
  | _ => .bad
def chK (g g' : List D → Option (Bool × D)) (fc : SE) (vs : List Vl) (e : En) : R Vl := chK1 g' fc vs e ((getL e vs).bind g)
@[simp] theorem x_eChain (g g' : List D → Option (Bool × D)) (fa fb fc : SE) (e : En) : eChain g g' fa fb fc e = (a2 fa fb e).bind (chK g g' fc) := by
  unfold eChain
  congr 1
  funext vs e1
  unfold chK
  cases (getL e1 vs).bind g with
  | none => rfl
  | some r =>
    obtain ⟨b, d⟩ := r
    cases b with
    | true => rfl
    | false =>
      cases d with
      | bool b =>
        cases b with
        | false => rfl
        | true =>
          match vs with
          | [] => rfl
          | [_] => rfl
          | _ :: _ :: _ :: _ => rfl
          | [x, y] =>
            show (fc e1).bind _ = (fc e1).bind _
            congr 1
      | _ => rfl
@[simp] theorem x_chK (g g' : List D → Option (Bool × D)) (fc : SE) (vs : List Vl) (e : En) : chK g g' fc vs e = chK1 g' fc vs e ((getL e vs).bind g) := rfl
@[simp] theorem x_chK1 (g' : List D → Option (Bool × D)) (fc : SE) (x y : Vl) (e : En) : chK1 g' fc [x, y] e (some (false, .bool true)) = (fc e).bind (chK2 g' y) := rfl
@[simp] theorem x_chK1' (g' : List D → Option (Bool × D)) (fc : SE) (vs : List Vl) (e : En) : chK1 g' fc vs e (some (false, .bool false)) = .ok (.sh (.bool false)) e := rfl
@[simp] theorem x_chK2 (g' : List D → Option (Bool × D)) (y z : Vl) (e : En) : chK2 g' y z e = oV e ((getL e [y, z]).bind g') := rfl
def takeAt (i : Nat) (e : En) : Option Slot → Option (D × En)
  | some (.sh d) => some (d, e)
  | some (.pf d) => some (d, e)
  | some (.ow d) => some (d, e.set i (.sh d))
  | some (.pa d) => some (d, e.set i (.pf d))
  | _ => none
@[simp] theorem x_take1 (e : En) (d : D) : (Vl.sh d).take e = some (d, e) := rfl
@[simp] theorem x_take2 (e : En) (d : D) : (Vl.fr d).take e = some (d, e) := rfl
@[simp] theorem x_take3 (e : En) (i : Nat) : (Vl.lt i).take e = takeAt i e (e[i]?) := rfl
@[simp] theorem x_takeAt1 (e : En) (i : Nat) (d : D) : takeAt i e (some (.sh d)) = some (d, e) := rfl
@[simp] theorem x_takeAt2 (e : En) (i : Nat) (d : D) : takeAt i e (some (.pf d)) = some (d, e) := rfl
@[simp] theorem x_takeAt3 (e : En) (i : Nat) (d : D) : takeAt i e (some (.ow d)) = some (d, e.set i (.sh d)) := rfl
@[simp] theorem x_takeAt4 (e : En) (i : Nat) (d : D) : takeAt i e (some (.pa d)) = some (d, e.set i (.pf d)) := rfl
def tkL2 (d : D) : Option (List D × En) → Option (List D × En)
  | some (ds, e2) => some (d :: ds, e2)
  | none => none
def tkL (vs : List Vl) : Option (D × En) → Option (List D × En)
  | some (d, e1) => tkL2 d (takeL vs e1)
  | none => none
@[simp] theorem x_takeL0 (e : En) : takeL [] e = some ([], e) := rfl
@[simp] theorem x_takeL1 (v : Vl) (vs : List Vl) (e : En) : takeL (v :: vs) e = tkL vs (v.take e) := by
  conv => lhs; unfold takeL
  cases v.take e with
  | none => rfl
  | some p => obtain ⟨d, e1⟩ := p; show (match takeL vs e1 with | some (ds, e2) => some (d :: ds, e2) | none => none) = tkL2 d (takeL vs e1); cases takeL vs e1 <;> rfl
@[simp] theorem x_tkL (vs : List Vl) (d : D) (e : En) : tkL vs (some (d, e)) = tkL2 d (takeL vs e) := rfl
@[simp] theorem x_tkL2 (d : D) (ds : List D) (e : En) : tkL2 d (some (ds, e)) = some (d :: ds, e) := rfl
def tkK (k : List D → En → R Vl) : Option (List D × En) → R Vl
  | some (ds, e) => k ds e
  | none => .bad
@[simp] theorem x_tkK (k : List D → En → R Vl) (ds : List D) (e : En) : tkK k (some (ds, e)) = k ds e := rfl
def tkK1 (k : List D → En → R Vl) (vs : List Vl) (e : En) : R Vl := tkK k (takeL vs e)
@[simp] theorem x_tkK1 (k : List D → En → R Vl) (vs : List Vl) (e : En) : tkK1 k vs e = tkK k (takeL vs e) := rfl
theorem x_eTake (k : List D → En → R Vl) (as : SA) (e : En) : eTake k as e = (as e).bind (tkK1 k) := by
  unfold eTake
  congr 1
@[simp] theorem x_eTup (as : SA) (e : En) : eTup as e = (as e).bind (tkK1 mkT) := x_eTake _ _ _
@[simp] theorem x_eLst (as : SA) (e : En) : eLst as e = (as e).bind (tkK1 mkL) := x_eTake _ _ _
@[simp] theorem x_mkT (ds : List D) (e : En) (h : ds.length ≤ 1000) : mkT ds e = .ok (.sh (.tuple ds)) e := if_pos h
@[simp] theorem x_mkL (ds : List D) (e : En) (h : ds.length ≤ 1000) : mkL ds e = .ok (.fr (.list ds)) e := if_pos h
@[simp] theorem x_oNo (e : En) : oNo e = .ok none e := rfl
def oK2 (e : En) : Option D → R (Option Int)
  | some (.int i) => .ok (some i) e
  | _ => .bad
@[simp] theorem x_oK2 (e : En) (i : Int) : oK2 e (some (.int i)) = .ok (some i) e := rfl
def oK (v : Vl) (e : En) : R (Option Int) := oK2 e (v.get e)
@[simp] theorem x_oK (v : Vl) (e : En) : oK v e = oK2 e (v.get e) := rfl
@[simp] theorem x_oAt (f : SE) (e : En) : oAt f e = (f e).bind oK := by
  unfold oAt
  congr 1
def slK3 (g : D → Option Int → Option Int → Option (Bool × D)) (v : Vl) (l h : Option Int) (e : En) : R Vl := oV e ((v.get e).bind fun d => g d l h)
def slK2 (g : D → Option Int → Option Int → Option (Bool × D)) (hi : SO) (v : Vl) (l : Option Int) (e : En) : R Vl := (hi e).bind (slK3 g v l)
def slK1 (g : D → Option Int → Option Int → Option (Bool × D)) (lo hi : SO) (v : Vl) (e : En) : R Vl := (lo e).bind (slK2 g hi v)
@[simp] theorem x_eSl (g : D → Option Int → Option Int → Option (Bool × D)) (f : SE) (lo hi : SO) (e : En) : eSl g f lo hi e = (f e).bind (slK1 g lo hi) := by
  unfold eSl
  congr 1
@[simp] theorem x_slK1 (g : D → Option Int → Option Int → Option (Bool × D)) (lo hi : SO) (v : Vl) (e : En) : slK1 g lo hi v e = (lo e).bind (slK2 g hi v) := rfl
@[simp] theorem x_slK2 (g : D → Option Int → Option Int → Option (Bool × D)) (hi : SO) (v : Vl) (l : Option Int) (e : En) : slK2 g hi v l e = (hi e).bind (slK3 g v l) := rfl
@[simp] theorem x_slK3 (g : D → Option Int → Option Int → Option (Bool × D)) (v : Vl) (l h : Option Int) (e : En) : slK3 g v l h e = oV e ((v.get e).bind fun d => g d l h) := rfl
/-! calls -/
def agAt : Option Slot → Option Slot
  | some (.sh d) => some (.sh d)
  | some (.pf d) => some (.sh d)
  | some (.ow d) => some (.pa d)
  | some (.pa d) => some (.pa d)
  | _ => none
@[simp] theorem x_agAt1 (d : D) : agAt (some (.sh d)) = some (.sh d) := rfl
@[simp] theorem x_agAt2 (d : D) : agAt (some (.pf d)) = some (.sh d) := rfl
@[simp] theorem x_agAt3 (d : D) : agAt (some (.ow d)) = some (.pa d) := rfl
@[simp] theorem x_agAt4 (d : D) : agAt (some (.pa d)) = some (.pa d) := rfl
@[simp] theorem x_argS1 (e : En) (d : D) : argS e (.sh d) = some (.sh d) := rfl
@[simp] theorem x_argS2 (e : En) (d : D) : argS e (.fr d) = some (.sh d) := rfl
@[simp] theorem x_argS3 (e : En) (i : Nat) : argS e (.lt i) = agAt (e[i]?) := rfl
def agL (a : Option Slot) (b : Option (List Slot)) : Option (List Slot) := match a, b with
  | some s, some ss => some (s :: ss)
  | _, _ => none
@[simp] theorem x_agL (s : Slot) (ss : List Slot) : agL (some s) (some ss) = some (s :: ss) := rfl
@[simp] theorem x_argSs0 (e : En) : argSs e [] = some [] := rfl
@[simp] theorem x_argSs1 (e : En) (v : Vl) (vs : List Vl) : argSs e (v :: vs) = agL (argS e v) (argSs e vs) := by
  conv => lhs; unfold argSs
  cases argS e v <;> cases argSs e vs <;> rfl
def caK2 (vs : List Vl) (e1 : En) : R Vl → R Vl
  | .ok (.lt _) _ => .bad
  | .ok v fin => .ok v (back vs fin e1)
  | .exc x fin => .exc x (back vs fin e1)
  | .bad => .bad
@[simp] theorem x_caK2a (vs : List Vl) (e fin : En) (d : D) : caK2 vs e (.ok (.sh d) fin) = .ok (.sh d) (back vs fin e) := rfl
@[simp] theorem x_caK2b (vs : List Vl) (e fin : En) (d : D) : caK2 vs e (.ok (.fr d) fin) = .ok (.fr d) (back vs fin e) := rfl
@[simp] theorem x_caK2c (vs : List Vl) (e fin : En) (x : Xc) : caK2 vs e (.exc x fin) = .exc x (back vs fin e) := rfl
def caK1 (g : FS) (vs : List Vl) (e : En) : Option (List Slot) → Bool → R Vl
  | some ss, true => caK2 vs e (g ss)
  | _, _ => .bad
@[simp] theorem x_caK1 (g : FS) (vs : List Vl) (e : En) (ss : List Slot) : caK1 g vs e (some ss) true = caK2 vs e (g ss) := rfl
@[simp] theorem x_callK (g : FS) (vs : List Vl) (e : En) : callK g vs e = caK1 g vs e (argSs e vs) (lentOk e vs) := by
  unfold callK
  cases argSs e vs with
  | none => rfl
  | some ss =>
    cases lentOk e vs with
    | false => rfl
    | true =>
      show _ = caK2 vs e (g ss)
      cases hg : g ss with
      | ok v fin => cases v <;> simp [hg, caK2]
      | exc x fin => simp [hg, caK2]
      | bad => simp [hg, caK2]
@[simp] theorem x_eCall (g : FS) (as : SA) (e : En) : eCall g as e = (as e).bind (callK g) := rfl
@[simp] theorem x_lent0 (e : En) : lentOk e [] = true := rfl
@[simp] theorem x_lent1 (e : En) (d : D) (vs : List Vl) : lentOk e (.sh d :: vs) = lentOk e vs := rfl
@[simp] theorem x_lent2 (e : En) (d : D) (vs : List Vl) : lentOk e (.fr d :: vs) = lentOk e vs := rfl
def hasLt (i : Nat) : List Vl → Bool
  | [] => false
  | .lt j :: vs => i == j || hasLt i vs
  | _ :: vs => hasLt i vs
theorem hasLt_any (i : Nat) : ∀ vs : List Vl, (vs.any fun v => match v with | .lt j => i == j | _ => false) = hasLt i vs
  | [] => rfl
  | .lt j :: vs => by rw [List.any_cons, hasLt_any i vs]; rfl
  | .sh _ :: vs => by rw [List.any_cons, hasLt_any i vs]; rfl
  | .fr _ :: vs => by rw [List.any_cons, hasLt_any i vs]; rfl
@[simp] theorem x_hasLt0 (i : Nat) : hasLt i [] = false := rfl
@[simp] theorem x_hasLt1 (i j : Nat) (vs : List Vl) : hasLt i (.lt j :: vs) = (i == j || hasLt i vs) := rfl
@[simp] theorem x_hasLt2 (i : Nat) (d : D) (vs : List Vl) : hasLt i (.sh d :: vs) = hasLt i vs := rfl
@[simp] theorem x_hasLt3 (i : Nat) (d : D) (vs : List Vl) : hasLt i (.fr d :: vs) = hasLt i vs := rfl
def ownB : Option Slot → Bool
  | some (.ow _) => true
  | some (.pa _) => true
  | _ => false
@[simp] theorem x_ownB1 (d : D) : ownB (some (.ow d)) = true := rfl
@[simp] theorem x_ownB2 (d : D) : ownB (some (.pa d)) = true := rfl
@[simp] theorem x_ownB3 (d : D) : ownB (some (.sh d)) = false := rfl
@[simp] theorem x_ownB4 (d : D) : ownB (some (.pf d)) = false := rfl
@[simp] theorem x_lent3 (e : En) (i : Nat) (vs : List Vl) : lentOk e (.lt i :: vs) = ((!(ownB (e[i]?)) || !(hasLt i vs)) && lentOk e vs) := by
  rw [← hasLt_any]
  show ((!(isOwn e i) || _) && _) = _
  have : isOwn e i = ownB (e[i]?) := by
    unfold isOwn
    cases e[i]? with
    | none => rfl
    | some s => cases s <;> rfl
  rw [this]
  try rfl
def bkK (i : Nat) (vs : List Vl) (f : Slot) (fs : List Slot) (e : En) : Option Slot → En
  | some s => back vs fs (e.set i (backS s f))
  | none => back vs fs e
@[simp] theorem x_back0 (fs e : En) : back [] fs e = e := by unfold back; rfl
@[simp] theorem x_back1 (d : D) (vs : List Vl) (f : Slot) (fs e : En) : back (.sh d :: vs) (f :: fs) e = back vs fs e := by conv => lhs; unfold back
@[simp] theorem x_back2 (d : D) (vs : List Vl) (f : Slot) (fs e : En) : back (.fr d :: vs) (f :: fs) e = back vs fs e := by conv => lhs; unfold back
@[simp] theorem x_back3 (i : Nat) (vs : List Vl) (f : Slot) (fs e : En) : back (.lt i :: vs) (f :: fs) e = bkK i vs f fs e (e[i]?) := by
  conv => lhs; unfold back
  cases e[i]? <;> rfl
@[simp] theorem x_bkK (i : Nat) (vs : List Vl) (f : Slot) (fs e : En) (s : Slot) : bkK i vs f fs e (some s) = back vs fs (e.set i (backS s f)) := rfl
@[simp] theorem x_bS1 (d : D) (f : Slot) : backS (.sh d) f = .sh d := by cases f <;> rfl
@[simp] theorem x_bS1' (d : D) (f : Slot) : backS (.pf d) f = .pf d := by cases f <;> rfl
@[simp] theorem x_bS2 (d d' : D) : backS (.ow d) (.pa d') = .ow d' := rfl
@[simp] theorem x_bS3 (d d' : D) : backS (.ow d) (.pf d') = .sh d' := rfl
@[simp] theorem x_bS4 (d d' : D) : backS (.pa d) (.pa d') = .pa d' := rfl
@[simp] theorem x_bS5 (d d' : D) : backS (.pa d) (.pf d') = .pf d' := rfl
def dfK (np : Nat) : R Fl → R Vl
  | .ok .nx e => .ok (.sh .none) (e.take np)
  | .ok (.rt v) e => .ok v (e.take np)
  | .exc x e => .exc x (e.take np)
  | _ => .bad
@[simp] theorem x_dfK1 (np : Nat) (e : En) : dfK np (.ok .nx e) = .ok (.sh .none) (e.take np) := rfl
@[simp] theorem x_dfK2 (np : Nat) (v : Vl) (e : En) : dfK np (.ok (.rt v) e) = .ok v (e.take np) := rfl
@[simp] theorem x_dfK3 (np : Nat) (x : Xc) (e : En) : dfK np (.exc x e) = .exc x (e.take np) := rfl
@[simp] theorem x_fDef (np nl : Nat) (b : SS) (ss : List Slot) : fDef np nl b ss = dfK np (b (ss ++ List.replicate nl .un)) := by
  unfold fDef
  cases b (ss ++ List.replicate nl .un) with
  | ok f e => cases f <;> rfl
  | _ => rfl
/-! statements -/
@[simp] theorem x_sNil (e : En) : sNil e = .ok .nx e := rfl
@[simp] theorem x_sSeq (f g : SS) (e : En) : sSeq f g e = (f e).seq g := rfl
def exK (_ : Vl) (e : En) : R Fl := .ok .nx e
@[simp] theorem x_sEx (f : SE) (e : En) : sEx f e = (f e).bind exK := rfl
@[simp] theorem x_exK (v : Vl) (e : En) : exK v e = .ok .nx e := rfl
def ifK (f g : SS) (b : Bool) (e : En) : R Fl := match b with
  | true => f e
  | false => g e
@[simp] theorem x_sIf (c : ST) (f g : SS) (e : En) : sIf c f g e = (c e).bind (ifK f g) := rfl
@[simp] theorem x_ifK1 (f g : SS) (e : En) : ifK f g true e = f e := rfl
@[simp] theorem x_ifK2 (f g : SS) (e : En) : ifK f g false e = g e := rfl
def asK (i : Nat) : Option (D × En) → R Fl
  | some (d, e) => .ok .nx (e.set i (.sh d))
  | none => .bad
@[simp] theorem x_asK (i : Nat) (d : D) (e : En) : asK i (some (d, e)) = .ok .nx (e.set i (.sh d)) := rfl
@[simp] theorem x_asg1 (i : Nat) (d : D) (e : En) : asgV i (.sh d) e = .ok .nx (e.set i (.sh d)) := rfl
@[simp] theorem x_asg2 (i : Nat) (d : D) (e : En) : asgV i (.fr d) e = .ok .nx (e.set i (.ow d)) := rfl
@[simp] theorem x_asg3 (i j : Nat) (e : En) : asgV i (.lt j) e = asK i ((Vl.lt j).take e) := by
  show (match (Vl.lt j).take e with | some (d, e1) => R.ok Fl.nx (e1.set i (.sh d)) | none => .bad) = _
  cases (Vl.lt j).take e <;> rfl
@[simp] theorem x_sAsg (i : Nat) (f : SE) (e : En) : sAsg i f e = (f e).bind (asgV i) := rfl
def rtK (i : Nat) (e : En) : Option Slot → R Fl
  | some (.sh d) => .ok (.rt (.sh d)) e
  | some (.pf d) => .ok (.rt (.sh d)) e
  | some (.ow d) => .ok (.rt (.fr d)) (e.set i .un)
  | some (.pa d) => .ok (.rt (.sh d)) (e.set i (.pf d))
  | _ => .bad
@[simp] theorem x_rt1 (d : D) (e : En) : retV (.sh d) e = .ok (.rt (.sh d)) e := rfl
@[simp] theorem x_rt2 (d : D) (e : En) : retV (.fr d) e = .ok (.rt (.fr d)) e := rfl
@[simp] theorem x_rt3 (i : Nat) (e : En) : retV (.lt i) e = rtK i e (e[i]?) := by
  show (match e[i]? with
    | some (.sh d) => R.ok (Fl.rt (.sh d)) e
    | some (.pf d) => .ok (.rt (.sh d)) e
    | some (.ow d) => .ok (.rt (.fr d)) (e.set i .un)
    | some (.pa d) => .ok (.rt (.sh d)) (e.set i (.pf d))
    | _ => .bad) = _
  cases e[i]? with
  | none => rfl
  | some s => cases s <;> rfl
@[simp] theorem x_rtK1 (i : Nat) (e : En) (d : D) : rtK i e (some (.sh d)) = .ok (.rt (.sh d)) e := rfl
@[simp] theorem x_rtK2 (i : Nat) (e : En) (d : D) : rtK i e (some (.pf d)) = .ok (.rt (.sh d)) e := rfl
@[simp] theorem x_rtK3 (i : Nat) (e : En) (d : D) : rtK i e (some (.ow d)) = .ok (.rt (.fr d)) (e.set i .un) := rfl
@[simp] theorem x_rtK4 (i : Nat) (e : En) (d : D) : rtK i e (some (.pa d)) = .ok (.rt (.sh d)) (e.set i (.pf d)) := rfl
@[simp] theorem x_sRet (f : SE) (e : En) : sRet f e = (f e).bind retV := rfl
@[simp] theorem x_sRetN (e : En) : sRetN e = .ok (.rt (.sh .none)) e := rfl
@[simp] theorem x_sRaise (x : Str) (e : En) : sRaise x e = .exc ⟨x, []⟩ e := rfl
def whK2 (c : ST) (b : SS) (n : Nat) : R Fl → R Fl
  | .ok .nx e => sWhileN c b n e
  | .ok .ct e => sWhileN c b n e
  | .ok .bk e => .ok .nx e
  | r => r
def whK (c : ST) (b : SS) (n : Nat) (t : Bool) (e : En) : R Fl := match t with
  | false => .ok .nx e
  | true => whK2 c b n (b e)
theorem x_sWhileN (c : ST) (b : SS) (n : Nat) (e : En) : sWhileN c b (n + 1) e = (c e).bind (whK c b n) := by
  show (c e).bind _ = _
  congr 1
@[simp] theorem x_whK1 (c : ST) (b : SS) (n : Nat) (e : En) : whK c b n false e = .ok .nx e := rfl
@[simp] theorem x_whK2 (c : ST) (b : SS) (n : Nat) (e : En) : whK c b n true e = whK2 c b n (b e) := rfl
@[simp] theorem x_whK3 (c : ST) (b : SS) (n : Nat) (e : En) : whK2 c b n (.ok .nx e) = sWhileN c b n e := rfl
@[simp] theorem x_whK4 (c : ST) (b : SS) (n : Nat) (v : Vl) (e : En) : whK2 c b n (.ok (.rt v) e) = .ok (.rt v) e := rfl
@[simp] theorem x_gN (i : Nat) (d : D) (e : En) : gN i d e = some (e.set i (.sh d)) := rfl
@[simp] theorem x_gsN (e : En) : gsN [] e = some e := rfl
def gsK (r : GsS) (ds : List D) : Option En → Option En
  | some e => r ds e
  | none => none
@[simp] theorem x_gsC (g : GS) (r : GsS) (d : D) (ds : List D) (e : En) : gsC g r (d :: ds) e = gsK r ds (g d e) := by
  show (match g d e with | some e1 => r ds e1 | none => none) = _
  cases g d e <;> rfl
@[simp] theorem x_gsK (r : GsS) (ds : List D) (e : En) : gsK r ds (some e) = r ds e := rfl
@[simp] theorem x_gT (n : Nat) (g : GsS) (ds : List D) (e : En) (h : ds.length = n) : gT n g (.tuple ds) e = g ds e := by
  show (if ds.length = n then g ds e else none) = _
  rw [if_pos h]
def agK2 : Option En → R Fl
  | some e => .ok .nx e
  | none => .bad
@[simp] theorem x_agK2 (e : En) : agK2 (some e) = .ok .nx e := rfl
def agK1 (g : GS) : Option (D × En) → R Fl
  | some (d, e) => agK2 (g d e)
  | none => .bad
@[simp] theorem x_agK1 (g : GS) (d : D) (e : En) : agK1 g (some (d, e)) = agK2 (g d e) := rfl
def agK (g : GS) (v : Vl) (e : En) : R Fl := agK1 g (v.take e)
@[simp] theorem x_agK (g : GS) (v : Vl) (e : En) : agK g v e = agK1 g (v.take e) := rfl
@[simp] theorem x_sAsgG (g : GS) (f : SE) (e : En) : sAsgG g f e = (f e).bind (agK g) := by
  unfold sAsgG
  congr 1
/-! for, comprehensions -/
def lpK2 (g : GS) (b : SS) (ds : List D) : R Fl → R Fl
  | .ok .nx e => sLoop g b ds e
  | .ok .ct e => sLoop g b ds e
  | .ok .bk e => .ok .nx e
  | r => r
def lpK (g : GS) (b : SS) (ds : List D) : Option En → R Fl
  | some e => lpK2 g b ds (b e)
  | none => .bad
@[simp] theorem x_loop0 (g : GS) (b : SS) (e : En) : sLoop g b [] e = .ok .nx e := rfl
theorem x_loop1 (g : GS) (b : SS) (d : D) (ds : List D) (e : En) : sLoop g b (d :: ds) e = lpK g b ds (g d e) := by
  show (match g d e with
    | none => R.bad
    | some e1 => match b e1 with
      | .ok .nx e2 => sLoop g b ds e2
      | .ok .ct e2 => sLoop g b ds e2
      | .ok .bk e2 => .ok .nx e2
      | r => r) = _
  cases g d e with
  | none => rfl
  | some e1 =>
    show _ = lpK2 g b ds (b e1)
    cases h : b e1 with
    | ok f e => cases f <;> simp [h, lpK2]
    | _ => simp [h, lpK2]
@[simp] theorem x_lpK (g : GS) (b : SS) (ds : List D) (e : En) : lpK g b ds (some e) = lpK2 g b ds (b e) := rfl
@[simp] theorem x_lpK2a (g : GS) (b : SS) (ds : List D) (e : En) : lpK2 g b ds (.ok .nx e) = sLoop g b ds e := rfl
@[simp] theorem x_lpK2b (g : GS) (b : SS) (ds : List D) (v : Vl) (e : En) : lpK2 g b ds (.ok (.rt v) e) = .ok (.rt v) e := rfl
@[simp] theorem x_sFor (i : SI) (g : GS) (b : SS) (e : En) : sFor i g b e = (i e).bind (sLoop g b) := rfl
def isK : Option (D × En) → R (List D)
  | some (.list ds, e) => .ok ds e
  | some (.tuple ds, e) => .ok ds e
  | _ => .bad
@[simp] theorem x_isK1 (ds : List D) (e : En) : isK (some (.list ds, e)) = .ok ds e := rfl
@[simp] theorem x_isK2 (ds : List D) (e : En) : isK (some (.tuple ds, e)) = .ok ds e := rfl
def isK1 (v : Vl) (e : En) : R (List D) := isK (v.take e)
@[simp] theorem x_isK (v : Vl) (e : En) : isK1 v e = isK (v.take e) := rfl
@[simp] theorem x_iS (f : SE) (e : En) : iS f e = (f e).bind isK1 := by
  unfold iS
  congr 1
def enK : Option (D × En) → R (List D)
  | some (.list ds, e) => .ok (enumD 0 ds) e
  | some (.tuple ds, e) => .ok (enumD 0 ds) e
  | _ => .bad
@[simp] theorem x_enK1 (ds : List D) (e : En) : enK (some (.list ds, e)) = .ok (enumD 0 ds) e := rfl
@[simp] theorem x_enK2 (ds : List D) (e : En) : enK (some (.tuple ds, e)) = .ok (enumD 0 ds) e := rfl
def enKv (v : Vl) (e : En) : R (List D) := enK (v.take e)
@[simp] theorem x_enKv (v : Vl) (e : En) : enKv v e = enK (v.take e) := rfl
@[simp] theorem x_iEn (f : SE) (e : En) : iEn f e = (f e).bind enKv := by
  unfold iEn
  congr 1
def r1K (e : En) : Option D → R (List D)
  | some (.int j) => if -(2 ^ 62) ≤ j ∧ j < 2 ^ 62 then .ok (intsD 0 j.toNat) e else .bad
  | _ => .bad
theorem x_r1K (e : En) (j : Int) (h : -(2 ^ 62) ≤ j ∧ j < 2 ^ 62) : r1K e (some (.int j)) = .ok (intsD 0 j.toNat) e := if_pos h
def r1Kv (v : Vl) (e : En) : R (List D) := r1K e (v.get e)
@[simp] theorem x_r1Kv (v : Vl) (e : En) : r1Kv v e = r1K e (v.get e) := rfl
@[simp] theorem x_iR1 (f : SE) (e : En) : iR1 f e = (f e).bind r1Kv := by
  unfold iR1
  congr 1
def coK2 (own : List Nat) (e1 : En) : R (List D) → R Vl
  | .ok acc e2 => .ok (.fr (.list acc)) (restE e1 e2 own)
  | _ => .bad
@[simp] theorem x_coK2 (own : List Nat) (e1 e2 : En) (acc : List D) : coK2 own e1 (.ok acc e2) = .ok (.fr (.list acc)) (restE e1 e2 own) := rfl
def coK (g : GS) (own : List Nat) (t : ST) (f : SE) (ds : List D) (e1 : En) : R Vl := if ds.length ≤ 1000000 then coK2 own e1 (cLoop g own (cItem t f) ds [] (wipeE e1 own)) else .bad
theorem x_coK (g : GS) (own : List Nat) (t : ST) (f : SE) (ds : List D) (e1 : En) (h : ds.length ≤ 1000000) : coK g own t f ds e1 = coK2 own e1 (cLoop g own (cItem t f) ds [] (wipeE e1 own)) := if_pos h
@[simp] theorem x_eComp (i : SI) (g : GS) (own : List Nat) (t : ST) (f : SE) (e : En) : eComp i g own t f e = (i e).bind (coK g own t f) := by
  unfold eComp
  congr 1
def coK' (g : GS) (own : List Nat) (t : ST) (i1 : SI) (g1 : GS) (own1 : List Nat) (t1 : ST) (f : SE) (ds : List D) (e1 : En) : R Vl := if ds.length ≤ 1000 then coK2 own e1 (cLoop g own (cIn t i1 g1 own1 t1 f) ds [] (wipeE e1 own)) else .bad
theorem x_coK' (g : GS) (own : List Nat) (t : ST) (i1 : SI) (g1 : GS) (own1 : List Nat) (t1 : ST) (f : SE) (ds : List D) (e1 : En) (h : ds.length ≤ 1000) : coK' g own t i1 g1 own1 t1 f ds e1 = coK2 own e1 (cLoop g own (cIn t i1 g1 own1 t1 f) ds [] (wipeE e1 own)) := if_pos h
@[simp] theorem x_eComp2 (i : SI) (g : GS) (own : List Nat) (t : ST) (i1 : SI) (g1 : GS) (own1 : List Nat) (t1 : ST) (f : SE) (e : En) : eComp2 i g own t i1 g1 own1 t1 f e = (i e).bind (coK' g own t i1 g1 own1 t1 f) := by
  unfold eComp2
  congr 1
def clK2 (g : GS) (own : List Nat) (k : List D → En → R (List D)) (ds : List D) (acc : List D) (e : En) : R (List D) := cLoop g own k ds acc (wipeE e own)
@[simp] theorem x_clK2 (g : GS) (own : List Nat) (k : List D → En → R (List D)) (ds acc : List D) (e : En) : clK2 g own k ds acc e = cLoop g own k ds acc (wipeE e own) := rfl
def clK (g : GS) (own : List Nat) (k : List D → En → R (List D)) (ds : List D) (acc : List D) : Option En → R (List D)
  | some e => (k acc e).bind (clK2 g own k ds)
  | none => .bad
@[simp] theorem x_clK (g : GS) (own : List Nat) (k : List D → En → R (List D)) (ds acc : List D) (e : En) : clK g own k ds acc (some e) = (k acc e).bind (clK2 g own k ds) := rfl
@[simp] theorem x_cl0 (g : GS) (own : List Nat) (k : List D → En → R (List D)) (acc : List D) (e : En) : cLoop g own k [] acc e = .ok acc e := rfl
theorem x_cl1 (g : GS) (own : List Nat) (k : List D → En → R (List D)) (d : D) (ds acc : List D) (e : En) : cLoop g own k (d :: ds) acc e = clK g own k ds acc (g d e) := by
  show (match g d e with | none => R.bad | some e1 => (k acc e1).bind fun acc' e2 => cLoop g own k ds acc' (wipeE e2 own)) = _
  cases g d e <;> rfl
def ciK3 (acc : List D) : Option (D × En) → R (List D)
  | some (x, e) => .ok (acc ++ [x]) e
  | none => .bad
@[simp] theorem x_ciK3 (acc : List D) (x : D) (e : En) : ciK3 acc (some (x, e)) = .ok (acc ++ [x]) e := rfl
def ciK2 (acc : List D) (v : Vl) (e : En) : R (List D) := ciK3 acc (v.take e)
@[simp] theorem x_ciK2 (acc : List D) (v : Vl) (e : En) : ciK2 acc v e = ciK3 acc (v.take e) := rfl
def ciK (f : SE) (acc : List D) (b : Bool) (e : En) : R (List D) := match b with
  | false => .ok acc e
  | true => (f e).bind (ciK2 acc)
@[simp] theorem x_ciKa (f : SE) (acc : List D) (e : En) : ciK f acc false e = .ok acc e := rfl
@[simp] theorem x_ciKb (f : SE) (acc : List D) (e : En) : ciK f acc true e = (f e).bind (ciK2 acc) := rfl
@[simp] theorem x_cItem (t : ST) (f : SE) (acc : List D) (e : En) : cItem t f acc e = (t e).bind (ciK f acc) := by
  unfold cItem
  congr 1
def cnK2 (g1 : GS) (own1 : List Nat) (t1 : ST) (f : SE) (acc : List D) (ds : List D) (e : En) : R (List D) := if ds.length ≤ 1000 then cLoop g1 own1 (cItem t1 f) ds acc (wipeE e own1) else .bad
theorem x_cnK2 (g1 : GS) (own1 : List Nat) (t1 : ST) (f : SE) (acc ds : List D) (e : En) (h : ds.length ≤ 1000) : cnK2 g1 own1 t1 f acc ds e = cLoop g1 own1 (cItem t1 f) ds acc (wipeE e own1) := if_pos h
def cnK (i1 : SI) (g1 : GS) (own1 : List Nat) (t1 : ST) (f : SE) (acc : List D) (b : Bool) (e : En) : R (List D) := match b with
  | false => .ok acc e
  | true => (i1 e).bind (cnK2 g1 own1 t1 f acc)
@[simp] theorem x_cnKa (i1 : SI) (g1 : GS) (own1 : List Nat) (t1 : ST) (f : SE) (acc : List D) (e : En) : cnK i1 g1 own1 t1 f acc false e = .ok acc e := rfl
@[simp] theorem x_cnKb (i1 : SI) (g1 : GS) (own1 : List Nat) (t1 : ST) (f : SE) (acc : List D) (e : En) : cnK i1 g1 own1 t1 f acc true e = (i1 e).bind (cnK2 g1 own1 t1 f acc) := rfl
@[simp] theorem x_cIn (t : ST) (i1 : SI) (g1 : GS) (own1 : List Nat) (t1 : ST) (f : SE) (acc : List D) (e : En) : cIn t i1 g1 own1 t1 f acc e = (t e).bind (cnK i1 g1 own1 t1 f acc) := by
  unfold cIn
  congr 1
@[simp] theorem x_wipe0 (e : En) : wipeE e [] = e := rfl
@[simp] theorem x_wipe1 (e : En) (i : Nat) (is : List Nat) : wipeE e (i :: is) = (wipeE e is).set i .un := rfl
def rsK (i : Nat) (e : En) : Option Slot → En
  | some s => e.set i s
  | none => e
@[simp] theorem x_rsK (i : Nat) (e : En) (s : Slot) : rsK i e (some s) = e.set i s := rfl
@[simp] theorem x_rest0 (e0 e : En) : restE e0 e [] = e := rfl
@[simp] theorem x_rest1 (e0 e : En) (i : Nat) (is : List Nat) : restE e0 e (i :: is) = rsK i (restE e0 e is) (e0[i]?) := by
  conv => lhs; unfold restE
  cases e0[i]? <;> rfl
/-! own lists -/
def laK : Option Slot → Option (List D)
  | some (.ow (.list ds)) => some ds
  | some (.pa (.list ds)) => some ds
  | _ => none
@[simp] theorem x_laK1 (ds : List D) : laK (some (.ow (.list ds))) = some ds := rfl
@[simp] theorem x_laK2 (ds : List D) : laK (some (.pa (.list ds))) = some ds := rfl
@[simp] theorem x_lstAt (e : En) (i : Nat) : lstAt e i = laK (e[i]?) := by
  unfold lstAt
  cases e[i]? with
  | none => rfl
  | some s => cases s <;> first | rfl | (rename_i d; cases d <;> rfl)
def puK (i : Nat) (e : En) (ds : List D) : Option Slot → En
  | some (.pa _) => e.set i (.pa (.list ds))
  | _ => e.set i (.ow (.list ds))
@[simp] theorem x_puK1 (i : Nat) (e : En) (ds : List D) (d : D) : puK i e ds (some (.pa d)) = e.set i (.pa (.list ds)) := rfl
@[simp] theorem x_puK2 (i : Nat) (e : En) (ds : List D) (d : D) : puK i e ds (some (.ow d)) = e.set i (.ow (.list ds)) := rfl
@[simp] theorem x_putL (e : En) (i : Nat) (ds : List D) : putL e i ds = puK i e ds (e[i]?) := by
  unfold putL
  cases e[i]? with
  | none => rfl
  | some s => cases s <;> rfl
def apK3 (i : Nat) (d : D) (e : En) : Option (List D) → R Vl
  | some ds => if ds.length < 1000000 then .ok (.sh .none) (putL e i (ds ++ [d])) else .bad
  | none => .bad
@[simp] theorem x_apK3 (i : Nat) (d : D) (e : En) (ds : List D) (h : ds.length < 1000000) : apK3 i d e (some ds) = .ok (.sh .none) (putL e i (ds ++ [d])) := if_pos h
def apK2 (i : Nat) : Option (D × En) → R Vl
  | some (d, e) => apK3 i d e (lstAt e i)
  | none => .bad
@[simp] theorem x_apK2 (i : Nat) (d : D) (e : En) : apK2 i (some (d, e)) = apK3 i d e (lstAt e i) := rfl
def apK1 (i : Nat) (v : Vl) (e : En) : R Vl := apK2 i (v.take e)
@[simp] theorem x_apK1 (i : Nat) (v : Vl) (e : En) : apK1 i v e = apK2 i (v.take e) := rfl
def apK (i : Nat) (f : SE) (e : En) : Option (List D) → R Vl
  | some _ => (f e).bind (apK1 i)
  | none => .bad
@[simp] theorem x_apK (i : Nat) (f : SE) (e : En) (ds : List D) : apK i f e (some ds) = (f e).bind (apK1 i) := rfl
@[simp] theorem x_eApp (i : Nat) (f : SE) (e : En) : eApp i f e = apK i f e (lstAt e i) := by
  unfold eApp
  cases lstAt e i with
  | none => rfl
  | some ds =>
    show (f e).bind _ = (f e).bind _
    congr 1
    funext v e1
    unfold apK1
    cases v.take e1 with
    | none => rfl
    | some p =>
      obtain ⟨d, e2⟩ := p
      show (match lstAt e2 i with | none => R.bad | some ds => if ds.length < 1000000 then .ok (.sh .none) (putL e2 i (ds ++ [d])) else .bad) = apK3 i d e2 (lstAt e2 i)
      cases lstAt e2 i <;> rfl
def poK2 (i : Nat) (e : En) (ds : List D) : Option D → R Vl
  | some d => .ok (.sh d) (putL e i ds.dropLast)
  | none => .bad
@[simp] theorem x_poK2 (i : Nat) (e : En) (ds : List D) (d : D) : poK2 i e ds (some d) = .ok (.sh d) (putL e i ds.dropLast) := rfl
def poK (i : Nat) (e : En) : Option (List D) → R Vl
  | some ds => poK2 i e ds (ds[ds.length - 1]?)
  | none => .bad
@[simp] theorem x_poK (i : Nat) (e : En) (ds : List D) : poK i e (some ds) = poK2 i e ds (ds[ds.length - 1]?) := rfl
@[simp] theorem x_ePop (i : Nat) (e : En) : ePop i e = poK i e (lstAt e i) := by
  unfold ePop
  cases lstAt e i with
  | none => rfl
  | some ds =>
    show (match ds[ds.length - 1]? with | none => R.bad | some d => .ok (.sh d) (putL e i ds.dropLast)) = poK2 i e ds (ds[ds.length - 1]?)
    cases ds[ds.length - 1]? <;> rfl
def exL (i : Nat) (ys : List D) (e : En) : Option (List D) → R Fl
  | some ds => if ds.length + ys.length ≤ 1000000 then .ok .nx (putL e i (ds ++ ys)) else .bad
  | none => .bad
theorem x_exL (i : Nat) (ys : List D) (e : En) (ds : List D) (h : ds.length + ys.length ≤ 1000000) : exL i ys e (some ds) = .ok .nx (putL e i (ds ++ ys)) := if_pos h
def exK1 (i : Nat) (v : Vl) (e : En) : R Fl := match v with
  | .fr (.list ys) => exL i ys e (lstAt e i)
  | _ => .bad
@[simp] theorem x_exK1 (i : Nat) (ys : List D) (e : En) : exK1 i (.fr (.list ys)) e = exL i ys e (lstAt e i) := rfl
def exK0 (i : Nat) (f : SE) (e : En) : Option (List D) → R Fl
  | some _ => (f e).bind (exK1 i)
  | none => .bad
@[simp] theorem x_exK0 (i : Nat) (f : SE) (e : En) (ds : List D) : exK0 i f e (some ds) = (f e).bind (exK1 i) := rfl
@[simp] theorem x_sExt (i : Nat) (f : SE) (e : En) : sExt i f e = exK0 i f e (lstAt e i) := by
  unfold sExt
  cases lstAt e i with
  | none => rfl
  | some ds =>
    show (f e).bind _ = (f e).bind _
    congr 1
    funext v e1
    cases v with
    | sh d => rfl
    | lt j => rfl
    | fr d =>
      cases d with
      | list ys =>
        show (match lstAt e1 i with | none => R.bad | some ds => if ds.length + ys.length ≤ 1000000 then .ok .nx (putL e1 i (ds ++ ys)) else .bad) = exL i ys e1 (lstAt e1 i)
        cases lstAt e1 i <;> rfl
      | _ => rfl
def seK4 (i : Nat) (d : D) (e : En) (ds : List D) : Option Nat → R Fl
  | some j => .ok .nx (putL e i (ds.set j d))
  | none => .bad
@[simp] theorem x_seK4 (i : Nat) (d : D) (e : En) (ds : List D) (j : Nat) : seK4 i d e ds (some j) = .ok .nx (putL e i (ds.set j d)) := rfl
def seK3 (i : Nat) (d : D) (e : En) (a : Option D) (b : Option (List D)) : R Fl := match a, b with
  | some (.int z), some ds => seK4 i d e ds (L2.ixN ds.length z)
  | _, _ => .bad
@[simp] theorem x_seK3 (i : Nat) (d : D) (e : En) (z : Int) (ds : List D) : seK3 i d e (some (.int z)) (some ds) = seK4 i d e ds (L2.ixN ds.length z) := rfl
def seK2 (i : Nat) (d : D) (w : Vl) (e : En) : R Fl := seK3 i d e (w.get e) (lstAt e i)
@[simp] theorem x_seK2 (i : Nat) (d : D) (w : Vl) (e : En) : seK2 i d w e = seK3 i d e (w.get e) (lstAt e i) := rfl
def seK1 (i : Nat) (k : SE) : Option (D × En) → R Fl
  | some (d, e) => match lstAt e i with
    | some _ => (k e).bind (seK2 i d)
    | none => .bad
  | none => .bad
theorem x_seK1 (i : Nat) (k : SE) (d : D) (e : En) (ds : List D) (h : lstAt e i = some ds) : seK1 i k (some (d, e)) = (k e).bind (seK2 i d) := by
  show (match lstAt e i with | some _ => (k e).bind (seK2 i d) | none => .bad) = _
  rw [h]
def seK0 (i : Nat) (k : SE) (d : D) (e : En) : Option (List D) → R Fl
  | some _ => (k e).bind (seK2 i d)
  | none => .bad
@[simp] theorem x_seK0 (i : Nat) (k : SE) (d : D) (e : En) (ds : List D) : seK0 i k d e (some ds) = (k e).bind (seK2 i d) := rfl
@[simp] theorem x_seK1' (i : Nat) (k : SE) (d : D) (e : En) : seK1 i k (some (d, e)) = seK0 i k d e (lstAt e i) := by
  show (match lstAt e i with | some _ => (k e).bind (seK2 i d) | none => .bad) = _
  cases lstAt e i <;> rfl
def seK (i : Nat) (k : SE) (v : Vl) (e : En) : R Fl := seK1 i k (v.take e)
@[simp] theorem x_seK (i : Nat) (k : SE) (v : Vl) (e : En) : seK i k v e = seK1 i k (v.take e) := rfl
@[simp] theorem x_sSetI (i : Nat) (f k : SE) (e : En) : sSetI i f k e = (f e).bind (seK i k) := by
  unfold sSetI
  congr 1
  funext v e1
  unfold seK
  cases v.take e1 with
  | none => rfl
  | some p =>
    obtain ⟨d, e2⟩ := p
    rw [x_seK1']
    show (match lstAt e2 i with
      | none => R.bad
      | some _ => (k e2).bind fun w e3 => match w.get e3, lstAt e3 i with
        | some (.int z), some ds => match L2.ixN ds.length z with
          | some j => R.ok Fl.nx (putL e3 i (ds.set j d))
          | none => .bad
        | _, _ => .bad) = _
    cases lstAt e2 i with
    | none => rfl
    | some _ =>
      show (k e2).bind _ = (k e2).bind _
      congr 1
/-! a, b = x, y -/
def stK : Option (D × En) → Option (Vl × En)
  | some (d, e) => some (.sh d, e)
  | none => none
@[simp] theorem x_stK (d : D) (e : En) : stK (some (d, e)) = some (.sh d, e) := rfl
@[simp] theorem x_stl1 (d : D) (e : En) : stl (.sh d) e = some (.sh d, e) := rfl
@[simp] theorem x_stl2 (d : D) (e : En) : stl (.fr d) e = some (.fr d, e) := rfl
@[simp] theorem x_stl3 (i : Nat) (e : En) : stl (.lt i) e = stK ((Vl.lt i).take e) := by
  show (match (Vl.lt i).take e with | some (d, e1) => some (Vl.sh d, e1) | none => none) = _
  cases (Vl.lt i).take e <;> rfl
def slL2 (v : Vl) : Option (List Vl × En) → Option (List Vl × En)
  | some (ws, e) => some (v :: ws, e)
  | none => none
def slL1 (vs : List Vl) : Option (Vl × En) → Option (List Vl × En)
  | some (w, e) => slL2 w (stlL vs e)
  | none => none
@[simp] theorem x_slL2 (v : Vl) (ws : List Vl) (e : En) : slL2 v (some (ws, e)) = some (v :: ws, e) := rfl
@[simp] theorem x_slL1 (vs : List Vl) (w : Vl) (e : En) : slL1 vs (some (w, e)) = slL2 w (stlL vs e) := rfl
@[simp] theorem x_stlL0 (e : En) : stlL [] e = some ([], e) := rfl
@[simp] theorem x_stlL1 (v : Vl) (vs : List Vl) (e : En) : stlL (v :: vs) e = slL1 vs (stl v e) := by
  show (match stl v e with
    | some (w, e1) => match stlL vs e1 with
      | some (ws, e2) => some (w :: ws, e2)
      | none => none
    | none => none) = _
  cases stl v e with
  | none => rfl
  | some p =>
    obtain ⟨w, e1⟩ := p
    show (match stlL vs e1 with | some (ws, e2) => some (w :: ws, e2) | none => none) = slL2 w (stlL vs e1)
    cases stlL vs e1 <;> rfl
def spK2 (is : List Nat) : Option (List Vl × En) → R Fl
  | some (ws, e) => if is.length = ws.length then .ok .nx (setsE is ws e) else .bad
  | none => .bad
@[simp] theorem x_spK2 (is : List Nat) (ws : List Vl) (e : En) (h : is.length = ws.length) : spK2 is (some (ws, e)) = .ok .nx (setsE is ws e) := if_pos h
def spK (is : List Nat) (vs : List Vl) (e : En) : R Fl := spK2 is (stlL vs e)
@[simp] theorem x_spK (is : List Nat) (vs : List Vl) (e : En) : spK is vs e = spK2 is (stlL vs e) := rfl
@[simp] theorem x_sPar (is : List Nat) (as : SA) (e : En) : sPar is as e = (as e).bind (spK is) := by
  show (as e).bind _ = (as e).bind _
  congr 1
@[simp] theorem x_sets1 (i : Nat) (is : List Nat) (d : D) (vs : List Vl) (e : En) : setsE (i :: is) (.fr d :: vs) e = setsE is vs (e.set i (.ow d)) := rfl
@[simp] theorem x_sets2 (i : Nat) (is : List Nat) (d : D) (vs : List Vl) (e : En) : setsE (i :: is) (.sh d :: vs) e = setsE is vs (e.set i (.sh d)) := rfl
@[simp] theorem x_sets0 (e : En) : setsE [] [] e = e := rfl
/-! try -/
def tyK2 (i : Nat) (fsu : Xc → SS) (xc : Xc) (e : En) : Option Bool → R Fl
  | some true => sOut i (fsu xc ((clr e).set i .ex))
  | some false => .exc xc e
  | none => .bad
def tyK (i : Nat) (cat : Str → Option Bool) (fsu : Xc → SS) : R Fl → R Fl
  | .exc xc e => tyK2 i fsu xc e (cat xc.cls)
  | r => r
@[simp] theorem x_sTry (i : Nat) (cat : Str → Option Bool) (fb : SS) (fsu : Xc → SS) (e : En) : sTry i cat fb fsu e = tyK i cat fsu (fb e) := by
  unfold sTry
  cases fb e with
  | exc xc e1 =>
    show (match cat xc.cls with | some true => sOut i (fsu xc ((clr e1).set i .ex)) | some false => .exc xc e1 | none => .bad) = tyK2 i fsu xc e1 (cat xc.cls)
    cases cat xc.cls with
    | none => rfl
    | some b => cases b <;> rfl
  | _ => rfl
@[simp] theorem x_tyK1 (i : Nat) (cat : Str → Option Bool) (fsu : Xc → SS) (xc : Xc) (e : En) : tyK i cat fsu (.exc xc e) = tyK2 i fsu xc e (cat xc.cls) := rfl
@[simp] theorem x_tyK3 (i : Nat) (cat : Str → Option Bool) (fsu : Xc → SS) (f : Fl) (e : En) : tyK i cat fsu (.ok f e) = .ok f e := rfl
@[simp] theorem x_tyK2 (i : Nat) (fsu : Xc → SS) (xc : Xc) (e : En) : tyK2 i fsu xc e (some true) = sOut i (fsu xc ((clr e).set i .ex)) := rfl
@[simp] theorem x_sOut (i : Nat) (v : Vl) (e : En) : sOut i (.ok (.rt v) e) = .ok (.rt v) (clr e) := rfl
@[simp] theorem x_clr0 : clr [] = [] := rfl
@[simp] theorem x_clr1 (s : Slot) (e : En) : clr (s :: e) = s.clr :: clr e := rfl
@[simp] theorem x_clrS0 : Slot.ex.clr = .un := rfl
@[simp] theorem x_clrS1 : Slot.un.clr = .un := rfl
@[simp] theorem x_clrS2 (d : D) : (Slot.sh d).clr = .sh d := rfl
@[simp] theorem x_clrS3 (d : D) : (Slot.ow d).clr = .ow d := rfl
@[simp] theorem x_clrS4 (d : D) : (Slot.pa d).clr = .pa d := rfl
@[simp] theorem x_clrS5 (d : D) : (Slot.pf d).clr = .pf d := rfl
def ieK (e : En) : Option Slot → Option Bool → R Vl
  | some .ex, some b => .ok (.sh (.bool b)) e
  | _, _ => .bad
@[simp] theorem x_ieK (e : En) (b : Bool) : ieK e (some .ex) (some b) = .ok (.sh (.bool b)) e := rfl
@[simp] theorem x_eIsE (i : Nat) (b : Option Bool) (e : En) : eIsE i b e = ieK e (e[i]?) b := by
  unfold eIsE
  cases e[i]? with
  | none => rfl
  | some s => cases s <;> cases b <;> rfl
@[simp] theorem x_xsup (t : Tab) (n C : Str) : xsup t ⟨n, []⟩ C = t.get n C := rfl
/-! popAt -/
def pa2 (i : Nat) (e : En) (ds : List D) (j : Nat) : Option D → R Vl
  | some d => .ok (.sh d) (putL e i (ds.eraseIdx j))
  | none => .bad
@[simp] theorem x_pa2 (i : Nat) (e : En) (ds : List D) (j : Nat) (d : D) : pa2 i e ds j (some d) = .ok (.sh d) (putL e i (ds.eraseIdx j)) := rfl
def pa1 (i : Nat) (e : En) (ds : List D) : Option Nat → R Vl
  | some j => pa2 i e ds j (ds[j]?)
  | none => .bad
@[simp] theorem x_pa1 (i : Nat) (e : En) (ds : List D) (j : Nat) : pa1 i e ds (some j) = pa2 i e ds j (ds[j]?) := rfl
def pa0 (i : Nat) (k : Int) (e : En) : Option (List D) → R Vl
  | some ds => pa1 i e ds (seqIndex? k ds.length)
  | none => .bad
@[simp] theorem x_pa0 (i : Nat) (k : Int) (e : En) (ds : List D) : pa0 i k e (some ds) = pa1 i e ds (seqIndex? k ds.length) := rfl
@[simp] theorem x_ePopAt (i : Nat) (k : Int) (e : En) : ePopAt i k e = pa0 i k e (lstAt e i) := by
  unfold ePopAt
  cases lstAt e i with
  | none => rfl
  | some ds =>
    show (match seqIndex? k ds.length with
      | none => R.bad
      | some j => match ds[j]? with
        | none => .bad
        | some d => .ok (.sh d) (putL e i (ds.eraseIdx j))) = pa1 i e ds (seqIndex? k ds.length)
    cases seqIndex? k ds.length with
    | none => rfl
    | some j =>
      show (match ds[j]? with | none => R.bad | some d => .ok (.sh d) (putL e i (ds.eraseIdx j))) = pa2 i e ds j (ds[j]?)
      cases ds[j]? <;> rfl
theorem seq0 {n : Nat} : seqIndex? 0 (n + 1) = some 0 := by
  unfold seqIndex?
  simp
@[simp] theorem x_pop0 (i : Nat) (e : En) (d : D) (ds : List D) : pa1 i e (d :: ds) (seqIndex? 0 (d :: ds).length) = .ok (.sh d) (putL e i ds) := by
  rw [List.length_cons, seq0]
  rfl
def mlK2 (xs : List D) (e : En) : Option D → R Vl
  | some (.int k) => if -(2 ^ 63) ≤ k ∧ k < 2 ^ 63 ∧ xs.length * k.toNat ≤ 1000000 then .ok (.fr (.list (List.replicate k.toNat xs).flatten)) e else .bad
  | _ => .bad
theorem x_mlK2 (xs : List D) (e : En) (k : Int) (h : -(2 ^ 63) ≤ k ∧ k < 2 ^ 63 ∧ xs.length * k.toNat ≤ 1000000) : mlK2 xs e (some (.int k)) = .ok (.fr (.list (List.replicate k.toNat xs).flatten)) e := if_pos h
def mlK (vs : List Vl) (e : En) : R Vl := match vs with
  | [.fr (.list xs), w] => mlK2 xs e (w.get e)
  | _ => .bad
@[simp] theorem x_mlK (xs : List D) (w : Vl) (e : En) : mlK [.fr (.list xs), w] e = mlK2 xs e (w.get e) := rfl
@[simp] theorem x_eMulL (as : SA) (e : En) : eMulL as e = (as e).bind mlK := by
  unfold eMulL
  congr 1
end FE
end
section
set_option Elab.async false
set_option linter.all false
set_option maxRecDepth 100000
set_option maxHeartbeats 4000000
/-! FE18: xs[::-1] of a list and of a tuple. -/
namespace FE
open PySem PySem.Spec PyProof.Rows L2 HT
section
variable {prog : Program} {w : World} {A : Around} {E : Value → Shared → Prop} {s : Shared}
theorem sliceApplied_rev {sl : Addr} {vl vu vs : Value} {n : Nat} {Q : Int × Int × Nat → Shared → Prop} (hs : s.heap.IsSliceOf sl vl vu vs) (pl : IsPart vl none) (pu : IsPart vu none) (ps : IsPart vs (some (-1)))
    (h : Q ((n : Int) - 1, -1, n) s) : wpAny (model prog w) A (Builtin.Slice.sliceApplied (.ref sl) (pure (n : Int))) Q E s := by
  obtain ⟨os, hos, hcs, hds⟩ := id hs
  unfold Builtin.Slice.sliceApplied Builtin.Slice.sliceFields
  refine wpAny_bind (wpAny_bind (wpAny_field hos hds (x := vl) rfl (wpAny_bind (wpAny_field hos hds (x := vu) rfl (wpAny_bind (wpAny_field hos hds (x := vs) rfl (wpAny_pure ?_)))))))
  refine wpAny_bind (slicePart_ ps ?_)
  show wpAny _ _ (if ((-1 : Int) == 0) = true then _ else _) _ _ s
  rw [if_neg (by decide)]
  refine wpAny_bind (slicePart_ pl (wpAny_bind (slicePart_ pu (wpAny_bind (wpAny_pure ?_)))))
  show wpAny _ _ (pure ((n : Int) - 1, (-1 : Int), Builtin.Slice.slicePlaces ((n : Int) - 1) (-1) (-1))) _ _ s
  have e : Builtin.Slice.slicePlaces ((n : Int) - 1) (-1) (-1) = n := by
    unfold Builtin.Slice.slicePlaces
    have h1 : ¬ ((-1 : Int) > 0) := by decide
    simp only [h1, if_false]
    by_cases hn : (n : Int) - 1 > -1
    · rw [if_pos hn, show (-(-1) : Int) = 1 by decide, Int.ediv_one]
      omega
    · rw [if_neg hn]
      omega
  rw [e]
  exact wpAny_pure h
theorem fmap_congr {α β : Type} (f g : α → Option β) : ∀ l : List α, (∀ x ∈ l, f x = g x) → l.filterMap f = l.filterMap g
  | [], _ => rfl
  | x :: l, h => by
    simp only [List.filterMap_cons]
    rw [h x (by simp), fmap_congr f g l fun y hy => h y (by simp [hy])]
theorem pick_rev (xs : Array Value) : ((List.range xs.size).filterMap fun (m : Nat) => xs[(((xs.size : Int) - 1) + (m : Int) * (-1)).toNat]?).toArray = xs.toList.reverse.toArray := by
  have e : (fun (m : Nat) => xs[(((xs.size : Int) - 1) + (m : Int) * (-1)).toNat]?) = fun (m : Nat) => xs[((xs.size : Int) - 1 - m).toNat]? := by
    funext m
    congr 1
    omega
  have k := PySem.W.krv_pick xs
  rw [← k]
  unfold slicePick
  rw [PySem.W.krv_bounds]
  show _ = ((sliceRange ((xs.size : Int) - 1) (-1) (-1)).filterMap (xs[·]?)).toArray
  rw [PySem.W.krv_sliceRange, List.filterMap_map, e]
  congr 1
  apply fmap_congr
  intro m hm
  have := List.mem_range.mp hm
  show xs[((xs.size : Int) - 1 - m).toNat]? = xs[xs.size - 1 - m]?
  congr 1
  omega
theorem getItem_tuple_rev {t sl : Addr} {items : Array Value} {vl vu vs : Value} {Q : Value → Shared → Prop} (ht : IsTup s.heap t items) (hs : s.heap.IsSliceOf sl vl vu vs) (pl : IsPart vl none) (pu : IsPart vu none) (ps : IsPart vs (some (-1)))
    (h : Q (.ref s.heap.objs.size) { s with heap := s.heap.push { cls := .type "tuple", data := .seq items.toList.reverse.toArray } })
    (hsz : items.size ≤ sizeLine) : wpAny (model prog w) A (getItem (.ref t) (.ref sl)) Q E s := by
  have htake : sizeOk (.seq items.toList.reverse.toArray) := by
    show items.toList.reverse.toArray.size ≤ sizeLine
    rw [List.size_toArray, List.length_reverse, Array.length_toList]
    exact hsz
  obtain ⟨os, hos, hcs, hds⟩ := id hs
  have hTs : s.TypeIs (.ref sl) "slice" := ⟨os, hos, hcs⟩
  unfold getItem
  try with_reducible refine wpAny_holding ?_
  first | refine wpAny_bind (wpAny_pure ?_) | skip
  refine wpAny_bind (wpAny_sequenceKey ht.typeIs (by decide) ?_)
  refine wpAny_bind (wpAny_callSpecial?_slot (name := Str.ofString "__getitem__") ht.typeIs PyProof.Rows.slot_tuple_getitem
    (wpAny_call_entry PyProof.Rows.slot_tuple_getitem ht.typeIs entry_tuple_getitem ?_ (args_tuple_getitem _ _)))
  show wpAny _ _ (Builtin.Tuple.tupleItemsOf (.ref t) >>= _) _ _ s
  refine wpAny_bind (tupleItemsOf_ ht ?_)
  refine wpAny_bind (wpAny_typeOf hTs ?_)
  rw [if_pos (by decide)]
  refine wpAny_bind (sliceApplied_rev hs pl pu ps ?_)
  have hno : ¬ ((((items.size : Int) - 1) == 0 && (-1 : Int) == 1 && items.size == items.size) = true) := by
    intro q
    rw [Bool.and_eq_true, Bool.and_eq_true] at q
    exact absurd q.1.2 (by decide)
  show wpAny _ _ (if (((items.size : Int) - 1) == 0 && (-1 : Int) == 1 && items.size == items.size) = true then _ else _) _ _ s
  rw [if_neg hno, pick_rev]
  first
    | exact wpAny_bind (m := Builtin.Tuple.tupleExact _) (wpAny_newObj_type (wpAny_pure ⟨_, rfl, wpAny_pure h⟩) htake)
    | exact wpAny_bind (m := Builtin.Tuple.tupleExact _) (wpAny_newObj_type (wpAny_bind (wpAny_pure (wpAny_pure ⟨_, rfl, wpAny_pure h⟩))) htake)
    | exact wpAny_bind (wpAny_bind (m := Builtin.Tuple.tupleExact _) (wpAny_newObj_type (wpAny_pure (wpAny_pure ⟨_, rfl, wpAny_pure h⟩)) htake))
    | exact wpAny_bind (wpAny_bind (m := Builtin.Tuple.tupleExact _) (wpAny_newObj_type (wpAny_pure ⟨_, rfl, wpAny_pure h⟩) htake))
end
section
variable {X : Cx} {H0 : Gh} {W : WX}
def tRevA (K : PySem.W.Frag) (te : TE) : TE := fun σ H Q => te σ H fun x H1 => ∃ a xs, x = .ref a ∧ (SqL K H1 a xs ∧ (∀ p, H1 p = none → Q (.ref p) (upd H1 p (.lst xs.reverse))) ∨ SqT K H1 a xs ∧ (∀ p, H1 p = none → Q (.ref p) (upd H1 p (.tup xs.reverse))))
theorem pe_revA {e : Expr} {te : TE} {k : Nat} {p1 p2 p3 pos : Pos} (he : PE X e te) : PE X (.Subscript e (.Slice none none (some (.UnaryOp .USub (.Constant (.int 1) k p1) p2)) p3) pos) (tRevA X.K te) := by
  refine ⟨fun pins s σ H Q I h => ?_⟩
  refine Subscript_ (thn (he.run pins s σ H _ I h) fun v s1 ⟨x, H1, I1, r1, q1⟩ => ?_)
  obtain ⟨a, xs, ex, hq⟩ := q1
  subst ex
  cases r1
  have hst : PO X (some (.UnaryOp .USub (.Constant (.int 1) k p1) p2)) (tPart (tUn (rU fun i => .int (-i)) (tC (.int 1)))) := po_some (pe_un un_neg pe_int)
  refine wpAny_Slice (thn (po_none.run pins s1 σ H1 (fun o H2 => o = none ∧ H2 = H1) I1 ⟨rfl, rfl⟩) fun vl s2 ⟨l, H2, I2, pl, el, e2⟩ => ?_)
  subst el e2
  refine thn (po_none.run pins s2 σ H2 (fun o H3 => o = none ∧ H3 = H2) I2 ⟨rfl, rfl⟩) fun vu s3 ⟨u, H3, I3, pu, eu, e3⟩ => ?_
  subst eu e3
  refine thn (hst.run pins s3 σ H3 (fun o H4 => o = some (-1) ∧ H4 = H3) I3 ⟨1, rfl, -1, rfl, rfl, rfl⟩) fun vs s4 ⟨o, H4, I4, ps, eo, e4⟩ => ?_
  subst eo e4
  have I5 : Inv X pins σ H4 { s4 with heap := s4.heap.push { cls := .type "slice", data := .fields #[vl, vu, vs] } } := I4.kept (t' := s4.toks) fun b ob q => Heap.get?_push_of_some _ q
  show wpAny (model X.prog X.w) X.A (subscriptTail e (.Slice none none (some (.UnaryOp .USub (.Constant (.int 1) k p1) p2)) p3) (.ref a) (.ref s4.heap.objs.size)) (EP X pins σ Q) X.xe { s4 with heap := s4.heap.push { cls := .type "slice", data := .fields #[vl, vu, vs] } }
  rcases hq with ⟨hx, q⟩ | ⟨hx, q⟩
  · obtain ⟨its, r, ht, hz⟩ := I5.list hx
    have hlen := r.length
    refine tail_any (ops := [.ref a, .ref s4.heap.objs.size]) ht.isList.typeIs (PySem.slot_list_getitem.lookup) ?_ (by with_unfolding_all rfl)
    refine wpAny_getItem_list_slice ht.isList (Heap.IsSliceOf.new _ vl vu vs) pl pu ps (by decide) ?_ (by rw [List.size_toArray]; omega)
    rw [PySem.W.krv_pick]
    refine ⟨.ref _, _, I5.laid (t' := s4.toks) (o := .lst xs.reverse) (fun b ob q => Heap.get?_push_of_some _ q) (Nat.le_refl _) ?_, rfl, q _ (I5.hok.fresh (Nat.le_refl _))⟩
    exact ⟨by rw [List.length_reverse]; exact hz, _, 0, r.reverse, Heap.get?_push_size _ rfl⟩
  · obtain ⟨its, r, ht, hz⟩ := I5.tuple hx
    have hlen := r.length
    refine tail_any (ops := [.ref a, .ref s4.heap.objs.size]) ht.typeIs (PyProof.Rows.slot_tuple_getitem.lookup) ?_ (by with_unfolding_all rfl)
    refine getItem_tuple_rev ht (Heap.IsSliceOf.new _ vl vu vs) pl pu ps ?_ (by rw [List.size_toArray]; omega)
    refine ⟨.ref _, _, I5.laid (t' := s4.toks) (o := .tup xs.reverse) (fun b ob q => Heap.get?_push_of_some _ q) (Nat.le_refl _) ?_, rfl, q _ (I5.hok.fresh (Nat.le_refl _))⟩
    exact ⟨by rw [List.length_reverse]; exact hz, _, r.reverse, IsTup.new _ _⟩
def gRev : List D → Option (Bool × D)
  | [.list ds] => some (true, .list ds.reverse)
  | [.tuple ds] => some (false, .tuple ds.reverse)
  | _ => none
theorem fe_rev {e : Expr} {f : SE} {k : Nat} {p1 p2 p3 pos : Pos} (he : FEx X H0 W e f) : FEx X H0 W (.Subscript e (.Slice none none (some (.UnaryOp .USub (.Constant (.int 1) k p1) p2)) p3) pos) (eN gRev (a1 f)) :=
  PE.imp (pe_revA he) fun σ H Q h => tE_mono (tA1 (tE_n h)) fun x H1 ⟨ds, r, vds, hg, oc⟩ => by
    cases vds with
    | cons vd rest =>
      cases rest
      rename_i d
      cases d with
      | list es =>
        cases hg
        obtain ⟨a, xs, ea, q1, r1⟩ := vd.lst
        exact ⟨a, xs, ea, .inl ⟨q1, oc.lst r1.reverse⟩⟩
      | tuple es =>
        cases hg
        obtain ⟨a, xs, ea, q1, r1⟩ := vd.tup
        exact ⟨a, xs, ea, .inr ⟨q1, oc.tup r1.reverse⟩⟩
      | _ => cases hg
/-! ### repr of None and of truths, too -/
def gRepr2 : List D → Option (Bool × D)
  | [.none] => some (false, .str "None")
  | [.bool b] => some (false, .str (if b = true then "True" else "False"))
  | ds => gRepr ds
theorem cr_repr2 (hgu : X.A.guards = some []) (hu : X.A.units + 150 < cLine) : CallR X (.builtin "repr") (NR X.K gRepr2) := by
  intro pins s σ H xs us Q I r h
  obtain ⟨ds, r', vd, hg, oc⟩ := h
  have old : gRepr ds = some r' → wpAny (model X.prog X.w) X.A (call (.builtin "repr") us) (EP X pins σ Q) X.xe s := fun q => cr_repr hgu hu pins s σ H xs us Q I r ⟨ds, r', vd, q, oc⟩
  cases vd with
  | nil => exact old hg
  | @cons x xs d ds h1 h2 =>
    cases h2 with
    | cons h2 h3 => cases d <;> exact old hg
    | nil =>
      cases d with
      | none =>
        cases hg
        have := h1.non
        subst this
        cases r with
        | cons rx rr =>
          cases rr
          cases rx
          exact PySem.P.repr_of_none ⟨.str "None", H, I.tok _, ⟨_, rfl⟩, oc.str⟩
      | bool b =>
        cases hg
        have := h1.bl
        subst this
        cases r with
        | cons rx rr =>
          cases rr
          cases rx
          cases b with
          | true => exact PySem.P.repr_of_bool ⟨.str "True", H, I.tok _, ⟨_, rfl⟩, oc.str⟩
          | false => exact PySem.P.repr_of_bool ⟨.str "False", H, I.tok _, ⟨_, rfl⟩, oc.str⟩
      | _ => exact old hg
end
end FE
end
section
set_option Elab.async false
set_option linter.all false
set_option maxRecDepth 100000
set_option maxHeartbeats 4000000
/-! FE19: sum, max and min of two nums_, the place of a truth in an own list. -/
namespace FE
open PySem PySem.Spec PyProof.Rows L2 HT
section
variable {X : Cx} {H0 : Gh} {W : WX}
def nums_ : List D → Option (List Int)
  | [] => some []
  | .int i :: ds => (nums_ ds).map (i :: ·)
  | _ :: _ => none
theorem ints_rp {K : PySem.W.Frag} {H : Hp} : ∀ {ds : List D} {vs : List V} {ns : List Int}, RpAll K H vs ds → nums_ ds = some ns → vs = ns.map V.int
  | [], _, _, .nil, h => by cases h; rfl
  | d :: ds, _, ns, .cons (v := v) (vs := vs) h1 h2, h => by
    cases d with
    | int i =>
      have h : (nums_ ds).map (i :: ·) = some ns := h
      cases hb : nums_ ds with
      | none => rw [hb] at h; cases h
      | some ms =>
        rw [hb] at h
        cases h
        cases h1
        rw [ints_rp h2 hb]
        rfl
    | _ => cases h
def gSum : List D → Option (Bool × D)
  | [.list ds] => (nums_ ds).map fun ns => (false, .int ns.sum)
  | _ => none
theorem cr_sumD (hc : X.calm = true) : CallR X (.builtin "sum") (NR X.K gSum) := by
  intro pins s σ H xs us Q I r h
  obtain ⟨ds, r', vd, hg, oc⟩ := h
  cases vd with
  | nil => cases hg
  | @cons x xs d ds h1 h2 =>
    cases h2 with
    | cons h2 h3 => cases d <;> cases hg
    | nil =>
      cases d with
      | list ds =>
        have hg : (nums_ ds).map (fun ns => (false, PyData.int ns.sum)) = some r' := hg
        cases hb : nums_ ds with
        | none => rw [hb] at hg; cases hg
        | some ns =>
          rw [hb] at hg; cases hg
          obtain ⟨a, ys, ea, q1, r1⟩ := h1.lst
          have := ints_rp r1 hb
          subst this
          exact cr_sum hc pins s σ H _ us Q I r ⟨a, ns, by rw [ea], q1, oc.int⟩
      | _ => cases hg
def gMax2 : List D → Option (Bool × D)
  | [.int i, .int j] => some (false, .int (if j > i then j else i))
  | _ => none
def gMin2 : List D → Option (Bool × D)
  | [.int i, .int j] => some (false, .int (if j < i then j else i))
  | _ => none
theorem two_ints {K : PySem.W.Frag} {H : Hp} {xs : List V} {ds : List D} {g : List D → Option (Bool × D)} {r : Bool × D} (vd : VDs K H xs ds) (hg : g ds = some r) (h : ∀ es, (∀ i j, es ≠ [.int i, .int j]) → g es = none) : ∃ i j, xs = [.int i, .int j] ∧ ds = [.int i, .int j] := by
  cases vd with
  | nil => rw [h [] (by simp)] at hg; cases hg
  | @cons x xs d ds h1 h2 =>
    cases h2 with
    | nil => rw [h _ (by simp)] at hg; cases hg
    | @cons y ys e es h2 h3 =>
      cases h3 with
      | cons h3 h4 => rw [h _ (by simp)] at hg; cases hg
      | nil =>
        cases d with
        | int i =>
          cases e with
          | int j => exact ⟨i, j, by rw [h1.int, h2.int], rfl⟩
          | _ => rw [h _ (by simp)] at hg; cases hg
        | _ => rw [h _ (by simp)] at hg; cases hg
theorem cr_max2 (hc : X.calm = true) : CallR X (.builtin "max") (NR X.K gMax2) := by
  intro pins s σ H xs us Q I r h
  obtain ⟨ds, r', vd, hg, oc⟩ := h
  obtain ⟨i, j, rfl, rfl⟩ := two_ints vd hg fun es he => by
    unfold gMax2
    split
    · rename_i a b; exact absurd rfl (he a b)
    · rfl
  cases hg
  exact call_max2 hc pins s σ H _ us Q I r ⟨i, j, rfl, oc.int⟩
theorem cr_min2 (hc : X.calm = true) : CallR X (.builtin "min") (NR X.K gMin2) := by
  intro pins s σ H xs us Q I r h
  obtain ⟨ds, r', vd, hg, oc⟩ := h
  obtain ⟨i, j, rfl, rfl⟩ := two_ints vd hg fun es he => by
    unfold gMin2
    split
    · rename_i a b; exact absurd rfl (he a b)
    · rfl
  cases hg
  exact call_min2 hc pins s σ H _ us Q I r ⟨i, j, rfl, oc.int⟩
/-- x.index(a truth), x an own list -/
def eIdxT (i : Nat) (b : Bool) : SE := fun e => match lstAt e i with
  | none => .bad
  | some ds => if SeqAt.shaped (.list ds) = true then (match ds.findIdx? (fun z => PyData.eqv z (.bool b)) with
    | some j => .ok (.sh (.int (j : Nat))) e
    | none => .bad) else .bad
theorem fe_idxT {i : Nat} {b : Bool} {x : Str} {j : Nat} {p p2 apos cpos : Pos} (hu : X.A.units + 65 < cLine) (ho : PE X (.Name x p) (tVar i))
    (hbase : attributeBase (.Name x p) "index" X.env (eval (.Name x p) X.env) = eval (.Name x p) X.env := by rfl) (hline : (apos.endLine == cpos.line) = true := by rfl) :
    FEx X H0 W (.Call (.Attribute (.Name x p) "index" apos) [.Constant (.bool b) j p2] [] cpos) (eIdxT i b) :=
  PE.imp (pe_bm PySem.F.plainAttrs_list PySem.F.slot_list_index PySem.F.type_list_index (mt_indexD (X := X) hu) ho (pa_cons pe_bl pa_nil) hbase rfl hline rfl rfl) fun σ H Q ⟨env, er, q⟩ => by
    unfold eIdxT at q
    cases h0 : lstAt env i with
    | none => rw [h0] at q; exact q.elim
    | some ds =>
      rw [h0] at q
      obtain ⟨a, xs, ha0, ho0, r0, _⟩ := er.at_ h0
      have q : pE X H0 W env σ H Q (if SeqAt.shaped (.list ds) = true then (match ds.findIdx? (fun z => PyData.eqv z (.bool b)) with
        | some j => .ok (.sh (.int (j : Nat))) env
        | none => .bad) else .bad) := q
      by_cases hs : SeqAt.shaped (.list ds) = true
      · rw [if_pos hs] at q
        cases hf : ds.findIdx? (fun z => PyData.eqv z (.bool b)) with
        | none => rw [hf] at q; exact q.elim
        | some k =>
          rw [hf] at q
          obtain ⟨hk, k1, k2⟩ := List.findIdx?_eq_some_iff_getElem.mp hf
          refine ⟨.ref a, ha0, tyV_lst ho0, a, .bl b, .bool b, ds, k, ds[k], rfl, rfl, .lst (.inl (.inl ho0)) r0.dp, (Rp.bl b).dp, hs, by cases b <;> decide, List.getElem?_eq_getElem hk, k1, fun m z hm hz => ?_, q (.int (k : Nat)) H (.refl _ _) er (.refl _) (.int _)⟩
          have hml : m < ds.length := by omega
          rw [List.getElem?_eq_getElem hml] at hz
          cases hz
          have := k2 m hm
          simpa using this
      · rw [if_neg hs] at q; exact q.elim
end
section
variable {X : Cx} {H0 : Gh} {W : WX} {a b c : Expr} {fa fb fc : SE} {pos : Pos}
theorem ft_chain {op op' : CmpOp} {g g' : List D → Option (Bool × D)} (ho : OpR X (compareOp op) (NR2 X.K g)) (ho' : OpR X (compareOp op') (NR2 X.K g')) (ha : FEx X H0 W a fa) (hb : FEx X H0 W b fb) (hc : FEx X H0 W c fc)
    (hm : lastMarks [op, op'] [b, c] = false := by with_unfolding_all rfl) : FTx X H0 W (.Compare a [op, op'] [b, c] pos) (testS (eChain g g' fa fb fc)) :=
  PT.imp (pt_chain ho ho' ha hb hc hm) fun σ H Q h => tE_mono (tA2 (tE_chain (tT_val h))) fun x H1 q => tE_mono q fun y H2 ⟨k, ds, r, vd, hg, oc⟩ => ⟨ds, r, vd, hg, fun v H3 st hv => by
    obtain ⟨e, _, q⟩ := oc v H3 st hv
    refine ⟨k, e, ?_⟩
    cases k with
    | true => rw [if_pos rfl] at q ⊢; exact tE_mono q fun z H4 q => q x y rfl
    | false => rw [if_neg Bool.false_ne_true] at q ⊢; exact q⟩
end
theorem bt_sum : bootBuiltins "sum" = some (.builtin "sum") := by decide +kernel
theorem bt_max : bootBuiltins "max" = some (.builtin "max") := by decide +kernel
theorem bt_min : bootBuiltins "min" = some (.builtin "min") := by decide +kernel
end FE
end
section
set_option Elab.async false
set_option linter.all false
set_option maxRecDepth 100000
set_option maxHeartbeats 4000000
/-! FL1: a try whose first clauses serve; a lambda handed to a def that calls it within such a try. -/
namespace FE
open PySem PySem.Spec PyProof.Rows L2 HT
/-- what the first clauses wish; what none of them takes is not served -/
def wPre (K : PySem.W.Frag) (D : Ends) : List (Value × (Addr → Value → Option Addr → TS)) → WX
  | [] => fun _ _ _ _ => False
  | q :: r => fun cls d σ H => ∃ b, PySem.W.exmOne K cls q.1 = some b ∧ (b = true → ∀ a, H a = none → q.2 a cls d D σ H) ∧ (b = false → wPre K D r cls d σ H)
section
variable {X : Cx} {body : List Stmt} {k0 : ExceptHandler} {rest pre more : List ExceptHandler} {l : List (Value × (Addr → Value → Option Addr → TS))} {pos : Pos} {tb : WX → TS}
theorem ps_tryP (eq : k0 :: rest = pre ++ more) (stk : X.stack = X.env :: X.outer) (frm : X.env.frame = some X.env.locals)
    (hb : ∀ (W : WX) (pn : List (Addr × Obj)) (xe : Value → Shared → Prop), Takes (X.tr pn xe) W → PassesOwn (model X.prog X.w) X.A X.env xe → PSs (X.tr pn xe) body (tb W))
    (cl : HdsOk X pre l) : PS X (.Try body (k0 :: rest) [] [] pos) (fun D σ H => tb (wPre X.K D l) D σ H) := by
  refine ⟨fun ps s σ H D I told => wpAny_Try_except ?_⟩
  have iok := I.ok
  have fra : X.A.frames = some (X.env :: X.outer) := stk ▸ iok.frames
  have inner := hb (wPre X.K D l) (X.pn ++ ps) (fun u t => wpAny (model X.prog X.w) X.A (noteFrame u X.env) (fun _ t1 => wpAny (model X.prog X.w) X.A (setFlight u none)
    (fun _ t2 => wpAny (model X.prog X.w) X.A (handleBy u X.env (k0 :: rest)) (SP X ps D) X.xe t2) X.xe t1) X.xe t) ?took PassesOwn.looking
  case took =>
    rintro u t ⟨a, B, sI, p1, σ1, H1, cls, d, rfl, J0, nb, up, sk, na, os, ag, w⟩
    have J : Inv X ps σ1 H1 sI := J0.ofTry iok
    rw [stk] at sk
    show wpAny (model X.prog X.w) X.A (noteFrame (.ref a) X.env) _ _ _
    refine Sky.land Zc.steady fra frm sk fun g1 fl up1 => ?_
    obtain ⟨o1, v1, e1, z1, d1⟩ := fl.there
    have out : a ∉ frs (X.env :: X.outer) := fun hm => by
      obtain ⟨_, o', e', hn⟩ := fl.2.2.1.mem hm
      exact hn _ ((Option.some.inj (e1.symm.trans e')) ▸ d1)
    have nl : a ≠ X.env.locals := fun z => out (List.mem_filterMap.mpr ⟨X.env, List.mem_cons_self, frm.trans (congrArg some z.symm)⟩)
    have nf : a ∉ X.fs := fun hm => by
      obtain ⟨v, hv, q⟩ := List.mem_filterMap.mp hm
      exact out (List.mem_filterMap.mpr ⟨v, List.mem_cons_of_mem _ hv, q⟩)
    have J1 : Inv X ps σ1 H1 { t with heap := g1 } := J.landed nb fl.1 (up.trans up1) os ag
    have JS := J1.suite e1 d1 na nl nf
    have tyC : PySem.W.Looks (model X.prog X.w) g1 (typeOf (.ref a)) cls := fun _ _ _ _ k q => wpAny_typeOf_ref (k _ _ e1) (z1.1.symm ▸ q)
    rw [eq]
    clear told hb eq
    induction cl with
    | nil => exact w.elim
    | @cons x c ts b0 su np p2 hd2 l2 nm suite r ih =>
      obtain ⟨b, eb, yes, no⟩ := w
      refine wpAny_handleBy_cons (codeAny_handlers_test ?_) (fun z => by cases z)
      have looked : ∀ {R : Value → Shared → Prop} {F : Value → Shared → Prop}, R c { t with heap := g1 } → wpAny (model X.prog X.w) (X.A.mark (some (.ref a))) (eval (.Name x np) X.env) R F { t with heap := g1 } := fun q =>
        match nm with
        | ⟨g, hd, .inl m⟩ => ld_glob (X := X.suite a ((a, o1) :: (X.pn ++ ps))) JS g m q hd
        | ⟨g, hd, .inr ⟨m, hv, hn⟩⟩ => ld_blt (X := X.suite a ((a, o1) :: (X.pn ++ ps))) JS g m hv q hn hd
      refine looked ((PySem.W.exm_one (M := model X.prog X.w) J1.kIn tyC eb).here ?_)
      cases b with
      | false => exact ih (no rfl)
      | true =>
        refine codeAny_handlers_suite (HandSPX.lands_againZ fl fun g2 fl2 up2 => ?_)
        obtain ⟨o2, v2, e2, z2, d2⟩ := fl2.there
        have J2 : Inv X ps σ1 H1 { t with heap := g2 } := J.landed nb fl2.1 ((up.trans up1).trans up2) os ag
        have S2 := J2.suite e2 d2 na nl nf
        refine wpAny_mono ((suite a o2 cls d (X.pn ++ ps) z2 ⟨_, d2⟩).run [] _ _ H1 _ S2 (yes rfl a na)) (fun f t3 h3 => ?_) fun _ _ z => z.elim
        cases f with
        | ret u => let ⟨v, σ3, H3, I3, r3, q3⟩ := h3; exact ⟨v, σ3, H3, I3.unsuite iok, r3, q3⟩
        | next => let ⟨σ3, H3, I3, q3⟩ := h3; exact ⟨σ3, H3, I3.unsuite iok, q3⟩
        | brk => let ⟨σ3, H3, I3, q3⟩ := h3; exact ⟨σ3, H3, I3.unsuite iok, q3⟩
        | cont => let ⟨σ3, H3, I3, q3⟩ := h3; exact ⟨σ3, H3, I3.unsuite iok, q3⟩
  refine wpAny_mono (inner.run [] s σ H D (I.toTry _) told) (fun f t h => ?_) fun _ _ z => z
  cases f with
  | ret u => let ⟨v, σ3, H3, I3, r3, q3⟩ := h; exact ⟨v, σ3, H3, I3.ofTry iok, r3, q3⟩
  | next => let ⟨σ3, H3, I3, q3⟩ := h; exact wpAny_execs_nil ⟨σ3, H3, I3.ofTry iok, q3⟩
  | brk => let ⟨σ3, H3, I3, q3⟩ := h; exact ⟨σ3, H3, I3.ofTry iok, q3⟩
  | cont => let ⟨σ3, H3, I3, q3⟩ := h; exact ⟨σ3, H3, I3.ofTry iok, q3⟩
end
/-! ### the lambda is made -/
open LamX in
section
variable {X : Cx} {pins : List (Addr × Obj)} {σ : L2.St} {H : Hp} {s : Shared}
/-- the table grows by a code object that is new -/
theorem step_tab {P c : Addr} {ps qs : Array Value} (hP : H P = some (.tbl ps)) (hc : H c = none) (ht : LamX.TabS (upd (upd H P (.tbl qs)) c (LamX.CodeO c qL)) P qL) : Step (fun _ => False) H (upd (upd H P (.tbl qs)) c (LamX.CodeO c qL)) := by
  have at_ : ∀ b o, H b = some o → b ≠ P → upd (upd H P (.tbl qs)) c (LamX.CodeO c qL) b = some o := fun b o e n => by
    rw [upd_ne (ne_of_none e hc), upd_ne n]; exact e
  refine ⟨fun b o e _ nt => at_ b o e fun z => nt ps (Option.some.inj (e.symm.trans (z ▸ hP))), fun b n => ?_, fun T t => ?_⟩
  · by_cases z : b = c
    · rw [z, upd_same]; exact fun y => by cases y
    · by_cases z2 : b = P
      · rw [upd_ne z, z2, upd_same]; exact fun y => by cases y
      · rw [upd_ne z, upd_ne z2]; exact n
  · by_cases z : T = P
    · exact z ▸ ht
    · obtain ⟨us, h1, h2, h3⟩ := t
      refine ⟨us, at_ _ _ h1 z, h2, fun p v hv => ?_⟩
      obtain ⟨d, e1, e2⟩ := h3 p v hv
      exact ⟨d, e1, at_ _ _ e2 fun y => LamX.codeO_ne ps (Option.some.inj (e2.symm.trans (y ▸ hP)))⟩
theorem lamMake {c P : Addr} {params : Arguments} {body : Expr} {scope : Scope} {pos : Pos} {E : Value → Shared → Prop} {Q : Value → Shared → Prop} (I : Inv X pins σ H s) (B : LamX.TabB X.base X.mg c P) (co : X.env.code = .ref c) (hq : X.env.qual ++ "<lambda>" = qL)
    (T : LamX.TabS H P qL) (nd : defaultsOf params X.env = ([], [])) (fr : ∀ y ∈ scope.names, y.2 = .free → ∃ c, X.env.cells.lookup y.1 = some c)
    (h : ∀ (f k : Addr) (pm ct : Value) (H1 : Hp) (t : Shared), Inv X pins σ H1 t → Step (fun _ => False) H H1 → t.heap.get? f = some (PySem.W.kla_obj "<lambda>" (X.env.qual ++ "<lambda>") params body scope (cloFrom X.env.cells scope.names []) pm k ct) →
      H1 f = none → f ∉ frs X.stack → H1 k = some (LamX.CodeO k qL) → Q (.ref f) t) : wpAny (model X.prog X.w) X.A (eval (.Lambda params body scope pos) X.env) Q E s := by
  obtain ⟨ps, hP, tri, told⟩ := T
  have bP : s.heap.BuiltinsAt X.mg P := B.bm.keeps I.bk
  have oP : s.heap.get? P = some { cls := .none, data := .fields ps } := I.hok P _ hP
  have apart : ∀ f, s.heap.objs.size ≤ f → f ∉ frs X.stack := fun f hf z => (List.mem_cons.mp (I.stkSub _ z)).elim (fun e => by have q := I.lt; rw [← e] at q; exact Nat.lt_irrefl _ (Nat.lt_of_lt_of_le q hf)) (I.nofs hf)
  refine PySem.W.kla_eval nd ?_
  cases at_ : codeAmong pos ps.toList with
  | some v =>
    obtain ⟨k, rfl, hk⟩ := told pos v at_
    refine PySem.W.kla_makeFunctionHit (mg := X.mg) (c := c) (P := P) (ps := ps) (closure_ok fr) I.ok.glob (I.mod.glob.keeps I.bk) co (B.code.keeps I.bk) oP tri at_ bP fun ct g tk kp sz => ?_
    exact h g.objs.size k ((X.mg "__name__").getD .none) ct H _ (I.kept fun b o e => Heap.get?_push_of_some _ (kp b o e)) (.refl _ _) (Heap.get?_push_size _ rfl) (I.hok.fresh sz) (apart _ sz) hk
  | none =>
    refine PySem.W.kla_makeFunction (mg := X.mg) (c := c) (P := P) (ps := ps) (closure_ok fr) I.ok.glob (I.mod.glob.keeps I.bk) co (B.code.keeps I.bk) oP tri at_ B.gP bP fun k ct g tk kp ge lt rec tab => ?_
    obtain ⟨_, oc, vs, tx, ek, hoc, hd, hv⟩ := rec
    cases ek
    rw [hq] at hv
    have nk : H k = none := I.hok.fresh ge
    have sz : s.heap.objs.size ≤ g.objs.size := Nat.le_trans ge (Nat.le_of_lt lt)
    have J := LamX.inv_table (q := qL) (t' := tk) (more := #[rawInt pos.line, rawInt pos.col, .ref k]) (h' := g.push (PySem.W.kla_obj "<lambda>" (X.env.qual ++ "<lambda>") params body scope (cloFrom X.env.cells scope.names []) ((X.mg "__name__").getD .none) k ct)) I hP
      (fun b o n e => Heap.get?_push_of_some _ (kp b o n e)) (Heap.get?_push_of_some _ tab) ge ⟨oc, vs, tx, Heap.get?_push_of_some _ hoc, hd, hv⟩
    have lst : (ps ++ #[rawInt pos.line, rawInt pos.col, .ref k]).toList = ps.toList ++ [rawInt pos.line, rawInt pos.col, .ref k] := by simp
    have T1 : LamX.TabS (upd (upd H P (.tbl (ps ++ #[rawInt pos.line, rawInt pos.col, .ref k]))) k (LamX.CodeO k qL)) P qL := ⟨_, by rw [upd_ne (ne_of_none hP nk), upd_same], by rw [lst]; exact PySem.TriplesOk_snoc _ _ _ _ tri, fun p v hcv => by
      rw [lst] at hcv
      rcases LamX.among_app _ tri hcv with z | z
      · obtain ⟨d, e1, e2⟩ := told p v z
        have nP : d ≠ P := fun y => by rw [y, hP] at e2; exact LamX.codeO_ne ps (Option.some.inj e2).symm
        exact ⟨d, e1, by rw [upd_ne (ne_of_none e2 nk), upd_ne nP]; exact e2⟩
      · exact ⟨k, z, upd_same⟩⟩
    refine h g.objs.size k ((X.mg "__name__").getD .none) ct _ _ J (step_tab hP nk T1) (Heap.get?_push_size _ rfl) ?_ (apart _ sz) upd_same
    rw [upd_ne (Nat.ne_of_gt lt), upd_ne (Nat.ne_of_gt (Nat.lt_of_lt_of_le (Heap.lt_size oP) sz))]
    exact I.hok.fresh sz
end
section
variable {X : Cx}
/-- x(lambda: body), x the def that calls what it got -/
theorem peLam {TT : (XK → Hp → VK → Prop) → Hp → VK → Prop} {x a : Str} {g c P : Addr} {k : Nat} {pg : Arguments} {bg : List Stmt} {sg : Scope} {dV kV doc pm cdv ct oc : Value} {an od : Option Addr} {osl : Array (Option Value)} {Ng : List Str}
    {params : Arguments} {body : Expr} {scope : Scope} {t : XK → TE} {p lpos pos : Pos} (gl : Gl X x) (hm : X.mg x = some (.ref g)) (kp : PySem.W.keepIn X.K (.ref g) = true) (lk : X.K.lookup g = some ⟨oc, od, .func (PySem.W.fnOf x x pg bg sg dV kV doc pm an cdv ct), osl⟩)
    (cg : PySem.W.codeIn X.K cdv x = true) (bi : L2.Binds X.K (PySem.W.fnOf x x pg bg sg dV kV doc pm an cdv ct) [a] []) (Sg : FnScope Ng [a] sg) (n0 : Ng[0]? = some a) (vi : Vis sg a) (gives : LamX.GivesTo X Ng x sg g cdv bg a qL TT)
    (B : LamX.TabB X.base X.mg c P) (co : X.env.code = .ref c) (hq : X.env.qual ++ "<lambda>" = qL) (room : Room (k + 2) X.A) (L : LamX.LamS X.env.scope scope) (nd : defaultsOf params X.env = ([], []))
    (nb : ∀ (q : Str) (cl : List (Str × Addr)) (pm cv ctv : Value), bindArgs (PySem.W.kla_fn "<lambda>" q params body scope cl pm cv ctv) ⟨[], []⟩ = pure [])
    (inner : ∀ (A : Around) (outer : List PySem.Env) (s : Shared) (H : Hp) (E : XK) (f c' : Addr), Room k (A.deeper (LamX.lamEnv X scope s.heap.objs.size f c')) → PE (LamX.lamCx X A outer s H E scope f c') body (t E))
    (d1 : (x == ("__debug__" : Str)) = false := by decide) (d2 : (a == ("__debug__" : Str)) = false := by decide) (d3 : (a == ("__classdict__" : Str)) = false := by decide) :
    PE X (.Call (.Name x p) [.Lambda params body scope lpos] [] pos) (fun σ H Q => LamX.TabS H P qL ∧ ∀ H1, Step (fun _ => False) H H1 → TT (fun E H' Q' => t E σ H' Q') H1 Q) := by
  refine ⟨fun pins s σ H Q I ⟨tab, told⟩ => wpAny_Call_Name_kw (ld_glob I gl hm (PySem.W.callWith_K (h₀ := X.base) I.ok.mod.kin kp ?_ (by rfl) (by rfl)) d1)⟩
  show wpAny _ _ (spliced ((false, eval (.Lambda params body scope lpos) X.env) :: backTo pos (starEach [] X.env))) _ _ s
  refine Calls.spliced_cons (lamMake I B co hq tab nd (L.has I.ok) fun f cc pm1 ctv H1 s1 I1 st of nf fs hcc => Calls.spliced_nil ⟨I1.kIn, ?_⟩)
  refine wpAny_call (codeAny_mono (LamX.run_ofS (CX := C8.CX0) (E := C8.E0) (Q := Q) (N := Ng) (ps := [a]) (us := [.ref f]) (vs := [.ref f]) lk cg Sg room I1.env0 (bi s1 [.ref f] I1.kIn rfl) (.cons rfl .nil) rfl fun room1 => ?_) fun r s2 hr => ?_)
  · rw [← hq] at hcc gives
    obtain ⟨tt, h1, h2⟩ := gives f cc s1 H1 Q (fun E H' Q' => t E σ H' Q') (fun W pn xe E p1 p2 tk hW => LamX.pe_act (i := 0) I1 L of nf fs (nb _ _ _ _ _) tk hW room1 (fun A outer s H rm => inner A outer s H E f cc rm) n0 vi d2 d3) hcc (told H1 st)
    exact ⟨tt, h1.nox, h2⟩
  · cases r with
    | error e => exact (show False from hr).elim
    | ok fl => cases fl with
      | ret u => exact I1.after hr
      | _ => exact False.elim hr
end
end FE
end
section
set_option Elab.async false
set_option linter.all false
set_option maxRecDepth 100000
set_option maxHeartbeats 4000000
/-! FL2: the def that tells a word for what a lambda raises. -/
namespace FE
open PySem PySem.Spec PyProof.Rows L2 HT
/-- except clauses that return a word -/
inductive WHs (mg : Str → Option Value) (sg : Scope) : List ExceptHandler → List (Value × Str) → Prop
  | nil : WHs mg sg [] []
  | cons {e r : Str} {c : Value} {j : Nat} {p1 p2 p3 p4 : Pos} {hs : List ExceptHandler} {l : List (Value × Str)} (h1 : sg.names.lookup e = some .globalImplicit) (h2 : mg e = some c) (h3 : (e == ("__debug__" : Str)) = false) (t : WHs mg sg hs l) :
      WHs mg sg (.ExceptHandler (some (.Name e p1)) none [.Return (some (.Constant (.str r) j p2)) p3] p4 :: hs) ((c, r) :: l)
abbrev WTs (r : Str) : Addr → Value → Option Addr → TS := fun _ _ _ => tRet (tC (.str r))
theorem WHs.ok {mg : Str → Option Value} {sg : Scope} {Z : Cx} (hm : Z.mg = mg) (hg : ∀ e, sg.names.lookup e = some .globalImplicit → Gl Z e) : ∀ {hs l}, WHs mg sg hs l → HdsOk Z hs (l.map fun q => (q.1, WTs q.2))
  | _, _, .nil => .nil
  | _, _, .cons h1 h2 h3 t => .cons ⟨hg _ h1, h3, .inl (hm ▸ h2)⟩ (fun _ _ _ _ _ _ _ => pss_one (ps_ret pe_str)) (t.ok hm hg)
def xWord (K : PySem.W.Frag) : List (Value × Str) → VK → XK
  | [], _ => fun _ _ _ => False
  | q :: r, Q => fun cls d H => ∃ b, PySem.W.exmOne K cls q.1 = some b ∧ (b = true → Q (.str q.2) H) ∧ (b = false → xWord K r Q cls d H)
def TWord (K : PySem.W.Frag) (CS : List (Value × Str)) : (XK → Hp → VK → Prop) → Hp → VK → Prop := fun tl H Q => tl (xWord K CS Q) H fun _ H1 => Q (.str "") H1
theorem xWord_pre {K : PySem.W.Frag} {D : Ends} {Q : VK} (hQ : D.rt = Q) : ∀ {CS : List (Value × Str)} {cls : Value} {d : Option Addr} {σ : L2.St} {H : Hp}, xWord K CS Q cls d H → wPre K D (CS.map fun q => (q.1, WTs q.2)) cls d σ H
  | [], _, _, _, _, h => h
  | _ :: _, _, _, _, _, ⟨b, e, y, n⟩ => ⟨b, e, fun hb _ _ => by subst hQ; exact y hb, fun hb => xWord_pre hQ (n hb)⟩
theorem word_gives {X : Cx} {Ng : List Str} {x a q : Str} {sg : Scope} {g : Addr} {cdg : Value} {pre more rest : List ExceptHandler} {k0 : ExceptHandler} {CS : List (Value × Str)} {j : Nat} {p1 p2 p3 p4 p5 p6 : Pos} (eq : k0 :: rest = pre ++ more) (wh : WHs X.mg sg pre CS)
    (h0 : ∀ f : Addr, (L2.start Ng [V.ref f])[0]? = some (some (V.ref f))) :
    LamX.GivesTo X Ng x sg g cdg [.Try [.Expr (.Call (.Name a p1) [] [] p2) p3] (k0 :: rest) [] [] p4, .Return (some (.Constant (.str "") j p5)) p6] a q (TWord X.K CS) := by
  intro f c s H Q tl act hc h
  refine ⟨_, pss_cons (ps_tryP (X := (cxOf C8.CX0 X.prog X.w X.K X.mg X.base Ng x sg g cdg X.A X.stack s H C8.E0).nox)
    (tb := fun W D σ H => ∃ F : XK, (∀ cls d σ' H', F cls d H' → W cls d σ' H') ∧ σ[0]? = some (some (.ref f)) ∧ H c = some (LamX.CodeO c q) ∧ tl F H fun _ H1 => D.nx σ H1) eq rfl rfl (fun W pn xe tk _ => pss_one ?_) (wh.ok rfl fun e he => he)) (pss_one (ps_ret pe_str)), ?_⟩
  · refine ⟨fun pins s' σ H' D I ⟨F, hW, h1, h2, h3⟩ => ?_⟩
    exact (ps_expr (pos := p3) (act W pn xe F p1 p2 tk hW) (by rfl)).run pins s' σ H' D I ⟨h1, h2, h3⟩
  · exact ⟨xWord X.K CS Q, fun cls d σ' H' z => xWord_pre rfl z, h0 f, hc, h⟩
/-! ### shallow -/
def pickW : List (Cat × Str) → Str → Option Str
  | [], _ => none
  | (k, r) :: l, x => match k.get x with
    | some true => some r
    | some false => pickW l x
    | none => none
def eLam (fb : SE) (l : List (Cat × Str)) : SE := fun e => match fb e with
  | .ok _ e1 => .ok (.sh (.str "")) e1
  | .exc xc e1 => match pickW l xc.cls with
    | some r => .ok (.sh (.str r)) e1
    | none => .bad
  | .bad => .bad
inductive CatsOk (K : PySem.W.Frag) (mg : Str → Option Value) : List (Value × Str) → List (Cat × Str) → Prop
  | nil : CatsOk K mg [] []
  | cons {c : Value} {k : Cat} {r : Str} {l : List (Value × Str)} {m : List (Cat × Str)} (h : CatOk K mg c k) (t : CatsOk K mg l m) : CatsOk K mg ((c, r) :: l) ((k, r) :: m)
theorem CatsOk.pick {K : PySem.W.Frag} {mg : Str → Option Value} {Q : VK} {x r : Str} {cls : Value} {d : Option Addr} {H : Hp} (hm : mg x = some cls) (q : Q (.str r) H) : ∀ {CS : List (Value × Str)} {l : List (Cat × Str)}, CatsOk K mg CS l → pickW l x = some r → xWord K CS Q cls d H
  | _, _, .nil, h => by cases h
  | _, _, .cons (c := c) (k := k) (r := r0) (l := l) (m := m) h t, e => by
    have e : (match k.get x with
      | some true => some r0
      | some false => pickW m x
      | none => none) = some r := e
    cases hk : k.get x with
    | none => rw [hk] at e; cases e
    | some b =>
      rw [hk] at e
      refine ⟨b, h.get _ _ _ hk hm, fun hb => ?_, fun hb => ?_⟩
      · subst hb
        cases e
        exact q
      · subst hb
        exact CatsOk.pick hm q t e
/-- the def that tells the word -/
structure Wd (K : PySem.W.Frag) (mg : Str → Option Value) (x a : Str) (st : Stmt) (Ng : List Str) (l : List (Cat × Str)) : Prop where
  df : Df K mg x [a] st
  sc : FnScope Ng [a] (defScope st)
  n0 : Ng[0]? = some a
  vi : Vis (defScope st) a
  h0 : ∀ f : Addr, (L2.start Ng [V.ref f])[0]? = some (some (V.ref f))
  bd : ∃ (k0 : ExceptHandler) (rest pre more : List ExceptHandler) (CS : List (Value × Str)) (j : Nat) (p1 p2 p3 p4 p5 p6 : Pos), defBody st = [.Try [.Expr (.Call (.Name a p1) [] [] p2) p3] (k0 :: rest) [] [] p4, .Return (some (.Constant (.str "") j p5)) p6] ∧
    k0 :: rest = pre ++ more ∧ WHs mg (defScope st) pre CS ∧ CatsOk K mg CS l
section
variable {X : Cx} {H0 : Gh} {W : WX}
theorem fe_lam {n : Nat} {x a : Str} {st : Stmt} {Ng : List Str} {l : List (Cat × Str)} {c P : Addr} {params : Arguments} {body : Expr} {scope : Scope} {p lpos pos : Pos} {fb : SE} (D : Wd X.K X.mg x a st Ng l) (B : LamX.TabB X.base X.mg c P) (co : X.env.code = .ref c) (hP : P ∈ H0.tb)
    (hq : X.env.qual ++ "<lambda>" = qL) (room : Room (n + 2) X.A) (L : LamX.LamS X.env.scope scope)
    (inner : ∀ (A : Around) (outer : List PySem.Env) (s : Shared) (H : Hp) (E : XK) (f c' : Addr), Room n (A.deeper (LamX.lamEnv X scope s.heap.objs.size f c')) → Takes (LamX.lamCx X A outer s H E scope f c') (fun cls d _ H => E cls d H) → FEx (LamX.lamCx X A outer s H E scope f c') H0 (fun cls d _ H => E cls d H) body fb)
    (nd : defaultsOf params X.env = ([], []) := by rfl) (nb : ∀ (q : Str) (cl : List (Str × Addr)) (pm cv ctv : Value), bindArgs (PySem.W.kla_fn "<lambda>" q params body scope cl pm cv ctv) ⟨[], []⟩ = pure [] := by intro _ _ _ _ _; rfl)
    (gl : Gl X x := by rfl) (d1 : (x == ("__debug__" : Str)) = false := by decide) (d2 : (a == ("__debug__" : Str)) = false := by decide) (d3 : (a == ("__classdict__" : Str)) = false := by decide) :
    FEx X H0 W (.Call (.Name x p) [.Lambda params body scope lpos] [] pos) (eLam fb l) := by
  obtain ⟨g, fd, F, hm, hk, hb, _⟩ := D.df.ex
  obtain ⟨oc, od, kV, doc, pm, an, cdv, ct, osl, rfl, lk, hcd⟩ := F.ex
  obtain ⟨k0, rest, pre, more, CS, j, p1, p2, p3, p4, p5, p6, e1, e2, wh, cat⟩ := D.bd
  rw [e1] at lk hb
  refine PE.imp (peLam (t := fun E => tE X H0 (fun cls d _ H => E cls d H) fb) gl hm hk lk hcd hb D.sc D.n0 D.vi (word_gives (p1 := p1) (p2 := p2) (p3 := p3) (p4 := p4) (p5 := p5) (p6 := p6) (j := j) e2 wh D.h0) B co hq room L nd nb
    (fun A outer s H E f c' rm => inner A outer s H E f c' rm (takes_of rfl rfl rfl rfl)) d1 d2 d3) fun σ H Q ⟨env, er, q⟩ => ⟨er.mono.tb P hP, fun H1 st1 => ⟨env, er.step0 st1, ?_⟩⟩
  have q : pE X H0 W env σ H Q (match fb env with
    | .ok _ e1 => .ok (.sh (.str "")) e1
    | .exc xc e1 => match pickW l xc.cls with
      | some r => .ok (.sh (.str r)) e1
      | none => .bad
    | .bad => .bad) := q
  cases hf : fb env with
  | bad => rw [hf] at q; exact q.elim
  | ok v e' =>
    rw [hf] at q
    intro y H2 st2 er2 sb _
    exact q _ H2 ((st1.imp fun _ z => z.elim).seq (.refl _) st2) er2 sb (.str _)
  | exc xc e' =>
    rw [hf] at q
    have q : pE X H0 W env σ H Q (match pickW l xc.cls with
      | some r => .ok (.sh (.str r)) e'
      | none => .bad) := q
    cases hp : pickW l xc.cls with
    | none => rw [hp] at q; exact q.elim
    | some r =>
      rw [hp] at q
      intro cls dd H2 st2 er2 sb xr
      exact cat.pick xr.1 (q (.str r) H2 ((st1.imp fun _ z => z.elim).seq (.refl _) st2) er2 sb (.str _)) hp
end
end FE
end
section
set_option Elab.async false
set_option linter.all false
set_option maxRecDepth 100000
set_option maxHeartbeats 4000000
/-! FL3: the head's facts with the law's table of code objects; the law's own def. -/
namespace FE
open PySem PySem.Spec PyProof.Rows L2
abbrev Lw0 : He.Defn := ("law", none)
def obsZ (fy : List Fy) (fa : List He.Fa) (fn : List He.DefD) (tf : List He.Defn) (g : Addr → Option Obj) (K : PySem.W.Frag) : AlY := ((fy.all fun f => f.ok K) && He.tabsB g tf K, He.obsD fa fn K)
def obsZG (n : Nat) (fy : List Fy) (fa : List He.Fa) (fn : List He.DefD) (tf : List He.Defn) (g : Addr → Option Obj) : AlY := obsZ fy fa fn tf g (He.frT g (He.asD g n))
structure SaysZ (fy : List Fy) (fa : List He.Fa) (fn : List He.DefD) (tf : List He.Defn) (h : Heap) (K : PySem.W.Frag) : Prop where
  y : SaysY fy fa fn K
  hd : ∀ p ∈ tf, PySem.W.codeHdIn K (He.cT K p).1 (He.cT K p).2 = true
  out : ∀ p ∈ tf, K.lookup (He.cT K p).2 = none
  empty : ∀ p ∈ tf, h.get? (He.cT K p).2 = some { cls := .none, data := .fields #[] }
theorem saysZ_of {n : Nat} {fy : List Fy} {fa : List He.Fa} {fn : List He.DefD} {tf : List He.Defn} {h : Heap} (e : obsZG n fy fa fn tf h.get? = valY fn) : SaysZ fy fa fn tf h (He.frT h.get? (He.asD h.get? n)) := by
  generalize hK : He.frT h.get? (He.asD h.get? n) = K
  have nn : ∀ {a o}, h.get? a = some o → He.emptyTab o = true → K.lookup a = none := fun q z => hK ▸ He.frT_none q z
  have e : obsZ fy fa fn tf h.get? K = valY fn := by rw [← hK]; exact e
  obtain ⟨a1, a2⟩ := He.ba (show ((fy.all fun f => f.ok K) && He.tabsB h.get? tf K) = true from congrArg (fun z : AlY => z.1) e)
  have each : ∀ p ∈ tf, PySem.W.codeHdIn K (He.cT K p).1 (He.cT K p).2 = true ∧ ∃ o, h.get? (He.cT K p).2 = some o ∧ He.emptyTab o = true := fun p hp => by
    obtain ⟨b1, b2⟩ := He.ba (List.all_eq_true.mp a2 p hp)
    refine ⟨b1, ?_⟩
    cases q : h.get? (He.cT K p).2 with
    | some o => rw [q] at b2; exact ⟨o, rfl, b2⟩
    | none => rw [q] at b2; cases b2
  have e3 : (obsZ fy fa fn tf h.get? K).2 = (valY fn).2 := congrArg Prod.snd e
  refine ⟨Prod.ext a1 e3, fun p hp => (each p hp).1, fun p hp => ?_, fun p hp => ?_⟩
  · obtain ⟨_, o, q, z⟩ := each p hp; exact nn q z
  · obtain ⟨_, o, q, z⟩ := each p hp; rw [q, He.emptyTab_eq z]
def hookZ (n : Nat) (fy : List Fy) (fa : List He.Fa) (fn : List He.DefD) (tf : List He.Defn) : PySem.W.Hook where
  α := AlY
  obs := fun s => obsZG n fy fa fn tf s.heap.get?
  val := fun _ => valY fn
  says := fun _ h => ∃ K : PySem.W.Frag, K.In h ∧ SaysZ fy fa fn tf h K
  of := fun _ _ e => ⟨_, He.frT_in, saysZ_of e⟩
  keeps := fun _ _ _ ⟨K, hK, c⟩ k => ⟨K, PySem.W.Frag.In.keeps hK k, c.y, c.hd, c.out, fun p hp => k _ _ (c.empty p hp)⟩
theorem obsZG_eq {n : Nat} {fy : List Fy} {fa : List He.Fa} {fn : List He.DefD} {tf : List He.Defn} {g : Addr → Option Obj} {s : Shared} (h : ∀ a, g a = s.heap.get? a) : obsZG n fy fa fn tf g = (hookZ n fy fa fn tf).obs s := by
  have e : g = s.heap.get? := funext h
  rw [e] <;> rfl
/-- the law's own def, over every base that bears its table -/
theorem makeL {P : Program} {w : World} {K : PySem.W.Frag} {mg : Str → Option Value} {x y : Str} {N : List Str} {st : Stmt} {n nl : Nat} {b : SS} {fa c0 P0 : Addr} (D : Df K mg x [y] st) (hfa : mg x = some (.ref fa)) (S : FnScope N [y] (defScope st)) (hn : N.length = 1 + nl)
    (hcd : ∀ cdv, CodeAt K fa cdv → cdv = .ref c0)
    (hbody : ∀ (base : Heap) (X : Cx) (H0 : Gh) (W : WX) (cdv : Value) (A : Around) (outer : List PySem.Env) (s : Shared) (H : Hp) (E : XK) (f : Addr), LamX.TabB base mg c0 P0 → X = cxOf (L2.CX P w) P w K mg base N x (defScope st) f cdv A outer s H E → X.env.code = .ref c0 → P0 ∈ H0.tb → Room n X.A → Takes X W → FBx X H0 W (defBody st) b) :
    ∃ fd, (∀ (s : Shared) (u : Value), BindsTo s fd ⟨[u], []⟩ [(y, u)]) ∧ ∀ base : Heap, LamX.TabB base mg c0 P0 → FnG P w K mg base (n + 1) fa fd [y] (spT [P0] (spF K mg 1 (fDef 1 nl b))) := by
  obtain ⟨f, fd, F, hm, hk, hb, hbb⟩ := D.ex
  rw [hfa] at hm
  cases hm
  refine ⟨fd, fun s u => hbb s [u] rfl, fun base hT => ?_⟩
  refine fn_sound (T := [P0]) F S hn fun X H0 W cdv hcv ht A outer s H E hX _ hr tk => hbody base X H0 W cdv A outer s H E fa hT hX ?_ (by rw [ht]; exact List.mem_singleton.mpr rfl) hr tk
  subst hX
  exact hcd cdv hcv
theorem law_cd {K : PySem.W.Frag} {fa : Addr} {cdv : Value} (h : CodeAt K fa cdv) (e : He.fAd K Lw0 = fa) : cdv = .ref (He.cT K Lw0).1 := by
  obtain ⟨oc, od, osl, fd, lk, rfl, q, hq⟩ := h
  obtain ⟨c, hc⟩ := He.codeIn_ref hq
  rw [hc]
  exact congrArg Value.ref (He.codeOf_eq (p := Lw0) (by rw [e]; exact lk) hc).symm
/-- the law's promise from its plain answer, the script shared or lent -/
theorem spT_ok {K : PySem.W.Frag} {mg : Str → Option Value} {g : FS} {n : Nat} {P0 : Addr} (h1 : ∀ ns : List Int, ns.length ≤ n → ∃ fin, g [.sh (.list (ns.map .int))] = .ok (.sh (.bool true)) fin)
    (h2 : ∀ ns : List Int, ns.length ≤ n → ∃ fin, g [.pa (.list (ns.map .int))] = .ok (.sh (.bool true)) fin) (H : Hp) (a : Addr) (ns : List Int) (hl : ns.length ≤ n) (hP : H P0 = some (.tbl #[])) (hS : SqL K H a (ns.map V.int)) :
    spT [P0] (spF K mg 1 g) [.ref a] H (fun v _ => v = .bl true) fun _ _ _ => False := by
  refine ⟨fun P hp => by rw [List.mem_singleton.mp hp]; exact LamX.TabS.nil hP, rfl, ?_⟩
  have all : RpAll K H (ns.map V.int) (ns.map .int) := by
    clear hl hS
    induction ns with
    | nil => exact .nil
    | cons i ns ih => exact .cons (.int i) ih
  have mo : Mo G00 H := ⟨fun b n => absurd rfl n, fun p hp => absurd hp (by simp)⟩
  have shared : Rp K H (.ref a) (.list (ns.map .int)) → ∃ slots, ER K G00 slots ([V.ref a].map some) H ∧ (∀ s ∈ slots, ParOk s) ∧ pF K mg H [V.ref a] slots (fun v _ => v = .bl true) (fun _ _ _ => False) (g slots) := fun rp => by
    refine ⟨[.sh (.list (ns.map .int))], ⟨rfl, fun i s d h1 h2 => ?_, fun i s d h1 h2 => ?_, fun i j s t a h1 h2 h3 h4 h5 h6 => ?_, fun i d a h1 h2 => ?_, mo, fun i h => ?_⟩, fun s hs => by rw [List.mem_singleton.mp hs]; trivial, ?_⟩
    · cases i with
      | zero => cases h1; cases h2; exact ⟨_, rfl, rp⟩
      | succ i => simp at h1
    · cases i with
      | zero => cases h1; cases h2
      | succ i => simp at h1
    · cases i with
      | zero => cases h1; exact absurd rfl h3
      | succ i => simp at h1
    · cases i with
      | zero => cases h1
      | succ i => simp at h1
    · cases i with
      | zero => cases h
      | succ i => simp at h
    · obtain ⟨fin, e⟩ := h1 ns hl
      rw [e]
      intro x H' _ _ vr
      cases vr
      rfl
  rcases hS with (h | ⟨o, h⟩) | h
  · refine ⟨[.pa (.list (ns.map .int))], ⟨rfl, fun i s d h1 h2 => ?_, fun i s d h1 h2 => ?_, fun i j s t a h1 h2 h3 h4 h5 h6 => ?_, fun i d a h1 h2 => ?_, mo, fun i h => ?_⟩, fun s hs => by rw [List.mem_singleton.mp hs]; trivial, ?_⟩
    · cases i with
      | zero => cases h1; cases h2
      | succ i => simp at h1
    · cases i with
      | zero => cases h1; cases h2; exact ⟨a, rfl, _, h, all⟩
      | succ i => simp at h1
    · cases i with
      | zero => cases j with
        | zero => rfl
        | succ j => simp at h2
      | succ i => simp at h1
    · cases i with
      | zero => cases h1
      | succ i => simp at h1
    · cases i with
      | zero => cases h
      | succ i => simp at h
    · obtain ⟨fin, e⟩ := h2 ns hl
      rw [e]
      intro x H' _ _ vr
      cases vr
      rfl
  · exact shared (.lst (.inl ⟨o, h⟩) all)
  · exact shared (.lst (.inr h) all)
theorem walk_ofZ {l : PySem.W.OpenLaw} {n k : Nat} {q : Program} {loose : List Str} {XP : (Str → Option Value) → Heap → Prop} {YP : World → Heap → Prop} {d : DefRec} {x : Str}
    (hn : l.most = some n) (hn2 : n ≤ sizeLine) (hdf : d.params.defaults = []) (hr : Room k callerA)
    (F : ∀ (w : World) (mg : Str → Option Value) (fa : Addr) (h : Heap), YP w h → h.Ns mainGlobals mg → mg d.name = some (.ref fa) →
      ∃ (K : PySem.W.Frag) (fd : FuncData) (c0 P0 : Addr) (sp : Sp), K.In h ∧ h.get? P0 = some { cls := .none, data := .fields #[] } ∧ K.lookup P0 = none ∧ PySem.W.CodeHd h c0 P0 ∧ (∀ (s : Shared) (u : Value), BindsTo s fd ⟨[u], []⟩ [(x, u)]) ∧
        (∀ (H : Hp) (a : Addr) (ns : List Int), ns.length ≤ n → H P0 = some (.tbl #[]) → SqL K H a (ns.map V.int) → sp [.ref a] H (fun v _ => v = .bl true) fun _ _ _ => False) ∧
        ∀ base : Heap, K.In base → base.Ns mainGlobals mg → LamX.TabB base mg c0 P0 → FnG l.prog w K mg base k fa fd [x] sp) :
    PySem.W.WalkO q loose XP YP l.row.toRowW d [] (fun f vs => PySem.call f vs) := by
  refine Att.attach_callB hn hdf fun w s0 s1 mg mb fa o pm cd doc a vs ns G Y ho hd hcd hmg hobj hints hlen hbits hg => ?_
  obtain ⟨K, fd, c0, P0, sp, KX, hE, hN, hC, hb, hsp, hF⟩ := F w mg fa _ Y G.T.g hmg
  have one : ∀ {p : Addr × Addr}, p ∈ [(c0, P0)] → p = (c0, P0) := fun h => List.mem_singleton.mp h
  refine LamX.law_callTs (cs := [(c0, P0)]) (CX := L2.CX l.prog w) KX G.T.g G.T.b G.T.builtins G.T.nolimit hg (fun p hp => by rw [one hp]; exact hE) (fun p hp => by rw [one hp]; exact hN) (fun p hp => by rw [one hp]; exact hC) G.T.bmain hobj hints (Nat.le_trans hlen hn2) hr
    (fun base h1 h2 h3 => ?_) hb (fun H hH hS => hsp H a ns hlen (hH (c0, P0) (List.mem_singleton.mpr rfl)) hS) fun H e s' h => ?_
  · have f := hF base h1 h2 (h3 (c0, P0) (List.mem_singleton.mpr rfl))
    exact ⟨f.len, fun A outer s H args us vs Q E r e0 hb' hv hs => f.run A outer s H args us vs Q E True.intro r e0 hb' hv hs⟩
  · obtain ⟨_, _, _, _, _, _, _, _, _, _, _, _, z⟩ := h
    exact z.elim
end FE
end
section
set_option Elab.async false
set_option linter.all false
set_option maxRecDepth 100000
set_option maxHeartbeats 0
namespace Lw
open PySem PySem.Spec PyProof.Rows L2 FE

/-! the defs as plain functions -/
def cat_InvalidNumber : Cat := [("InvalidNumber", true), ("InvalidProgram", false), ("InvalidValues", false)]
def cat_InvalidProgram : Cat := [("InvalidNumber", false), ("InvalidProgram", true), ("InvalidValues", false)]
def cat_InvalidRow : Cat := [("InvalidNumber", false), ("InvalidProgram", false), ("InvalidValues", false)]
def cat_InvalidValues : Cat := [("InvalidNumber", false), ("InvalidProgram", false), ("InvalidValues", true)]
def wl : List (Cat × Str) := [(cat_InvalidProgram, "program"), (cat_InvalidNumber, "number"), (cat_InvalidValues, "values"), (cat_InvalidRow, "row")]
def k_VALUES : D := (.int 16)
def k_CELLS : D := (.int 4)
def k_REGISTERS : D := (.int 3)
def k_THREADS : D := (.int 4)
def k_STATEMENTS : D := (.int 12)
def k_ACCESSES : D := (.int 8)
def k_FENCES : D := (.int 8)
def k_IFS : D := (.int 2)
def k_DEEP : D := (.int 4)
def k_WORKED : D := (.tuple [(.str "plus"), (.str "minus"), (.str "times"), (.str "same"), (.str "less")])
def k_WRITING : D := (.tuple [(.str "plain"), (.str "release"), (.str "strong")])
def k_READING : D := (.tuple [(.str "plain"), (.str "acquire"), (.str "strong")])
def k_EXCHANGES : D := (.tuple [(.str "swap"), (.str "add"), (.str "try")])
abbrev i_is_whole : Nat := 0
abbrev i_is_tuple_of : Nat := 1
abbrev i_is_word_of : Nat := 2
abbrev i_fits_expression : Nat := 3
abbrev i_is_register : Nat := 4
abbrev i_is_cell : Nat := 5
abbrev i_fits_access : Nat := 6
abbrev i_is_access : Nat := 7
abbrev i_fits_inner : Nat := 8
abbrev i_blocks_of : Nat := 9
abbrev i_all_statements : Nat := 10
abbrev i_fits_block : Nat := 11
abbrev i_fits_program : Nat := 12
abbrev i_numbered_block : Nat := 13
abbrev i_numbered_threads : Nat := 14
abbrev i_accesses_in : Nat := 15
abbrev i_can_read : Nat := 16
abbrev i_need_program : Nat := 17
abbrev i_need_number : Nat := 18
abbrev i_worth_by : Nat := 19
abbrev i_with_register : Nat := 20
abbrev i_settled : Nat := 21
abbrev i_begun : Nat := 22
abbrev i_written_by : Nat := 23
abbrev i_behind : Nat := 24
abbrev i_done_alone : Nat := 25
abbrev i_fits_values : Nat := 26
abbrev i_thread_alone : Nat := 27
abbrev i__law_cup : Nat := 28
abbrev i__law_roll : Nat := 29
abbrev i__law_some : Nat := 30
abbrev i__law_worth : Nat := 31
abbrev i__law_is_access : Nat := 32
abbrev i__law_numbered : Nat := 33
abbrev i__law_threads : Nat := 34
abbrev i__law_accesses : Nat := 35
abbrev i__law_all : Nat := 36
abbrev i__law_settled : Nat := 37
abbrev i__law_written : Nat := 38
abbrev i__law_behind : Nat := 39
abbrev i__law_begun : Nat := 40
abbrev i__law_expression : Nat := 41
abbrev i__law_access : Nat := 42
abbrev i__law_thread : Nat := 43
abbrev i__law_program : Nat := 44
abbrev i__law_due : Nat := 45
abbrev i_law : Nat := 46
def b_is_whole (c : Nat → FS) : FS := fDef 3 0 (sRet (eAnd (eIsi .int (eV 0)) (eAnd (eNot (eIsi .bool (eV 0))) (eChain gLe gLe (eV 1) (eV 0) (eV 2)))))
def b_is_tuple_of (c : Nat → FS) : FS := fDef 3 0 (sRet (eAnd (eIsi .tuple (eV 0)) (eChain gLe gLe (eV 1) (eN gLen (aCons (eV 0) (aNil))) (eV 2))))
def b_is_word_of (c : Nat → FS) : FS := fDef 2 0 (sRet (eAnd (eIsi .str (eV 0)) (eN (gIn false) (a2 (eV 0) (eV 1)))))
def wc1_fits_expression (c : Nat → FS) : ST := testS (eN gNe (a2 (eV 1) (eLst (aNil))))
def wb1_fits_expression (c : Nat → FS) : SS := sSeq (sAsgG (gT 2 (gsC (gN 2) (gsC (gN 3) (gsN)))) (ePop 1)) (sSeq (sIf (tOrS (testS (eN gGt (a2 (eV 3) (eC k_DEEP)))) (tOrS (tNotS (testS (eCall (c 1) (aCons (eV 2) (aCons (eC (.int 2)) (aCons (eC (.int 3)) (aNil))))))) (tNotS (testS (eIsi .str (eN gIx (a2 (eV 2) (eC (.int 0))))))))) (sRet (eC (.bool false))) (sNil)) (sIf (testS (eN gEq (a2 (eN gLen (aCons (eV 2) (aNil))) (eC (.int 2))))) (sSeq (sAsg 4 (eIf (testS (eN gEq (a2 (eN gIx (a2 (eV 2) (eC (.int 0)))) (eC (.str "num"))))) (eC k_VALUES) (eC k_REGISTERS))) (sIf (tOrS (testS (eN (gIn true) (a2 (eN gIx (a2 (eV 2) (eC (.int 0)))) (eTup (aCons (eC (.str "num")) (aCons (eC (.str "reg")) (aNil))))))) (tNotS (testS (eCall (c 0) (aCons (eN gIx (a2 (eV 2) (eC (.int 1)))) (aCons (eC (.int 0)) (aCons (eN gSub (a2 (eV 4) (eC (.int 1)))) (aNil)))))))) (sRet (eC (.bool false))) (sNil))) (sIf (testS (eN (gIn false) (a2 (eN gIx (a2 (eV 2) (eC (.int 0)))) (eC k_WORKED)))) (sExt 1 (eLst (aCons (eTup (aCons (eN gIx (a2 (eV 2) (eC (.int 1)))) (aCons (eN gAdd (a2 (eV 3) (eC (.int 1)))) (aNil)))) (aCons (eTup (aCons (eN gIx (a2 (eV 2) (eC (.int 2)))) (aCons (eN gAdd (a2 (eV 3) (eC (.int 1)))) (aNil)))) (aNil))))) (sRet (eC (.bool false))))))
def b_fits_expression (c : Nat → FS) : FS := fDef 1 4 (sSeq (sAsg 1 (eLst (aCons (eTup (aCons (eV 0) (aCons (eC (.int 1)) (aNil)))) (aNil)))) (sSeq (sWhile (wc1_fits_expression c) (wb1_fits_expression c)) (sRet (eC (.bool true)))))
def b_is_register (c : Nat → FS) : FS := fDef 1 0 (sRet (eCall (c 0) (aCons (eV 0) (aCons (eC (.int 0)) (aCons (eN gSub (a2 (eC k_REGISTERS) (eC (.int 1)))) (aNil))))))
def b_is_cell (c : Nat → FS) : FS := fDef 1 0 (sRet (eCall (c 0) (aCons (eV 0) (aCons (eC (.int 0)) (aCons (eN gSub (a2 (eC k_CELLS) (eC (.int 1)))) (aNil))))))
def ce1_fits_access (c : Nat → FS) : SE := eCall (c 3) (aCons (eV 3) (aNil))
def cm1_fits_access (c : Nat → FS) : SE := eComp (iS (eSl gSl (eV 0) (oAt (eC (.int 3))) (oNo))) (gN 3) [3] (tYesS) (ce1_fits_access c)
def b_fits_access (c : Nat → FS) : FS := fDef 1 3 (sSeq (sPar [1, 2] (aCons (eN gIx (a2 (eV 0) (eC (.int 0)))) (aCons (eN gLen (aCons (eV 0) (aNil))) (aNil)))) (sSeq (sIf (testS (eN gEq (a2 (eV 1) (eC (.str "write"))))) (sRet (eAnd (eN gEq (a2 (eV 2) (eC (.int 4)))) (eAnd (eCall (c 5) (aCons (eN gIx (a2 (eV 0) (eC (.int 1)))) (aNil))) (eAnd (eCall (c 2) (aCons (eN gIx (a2 (eV 0) (eC (.int 2)))) (aCons (eC k_WRITING) (aNil)))) (eCall (c 3) (aCons (eN gIx (a2 (eV 0) (eC (.int 3)))) (aNil))))))) (sNil)) (sSeq (sIf (tOrS (testS (eN gLt (a2 (eV 2) (eC (.int 4))))) (tOrS (tNotS (testS (eCall (c 4) (aCons (eN gIx (a2 (eV 0) (eC (.int 1)))) (aNil))))) (tNotS (testS (eCall (c 5) (aCons (eN gIx (a2 (eV 0) (eC (.int 2)))) (aNil))))))) (sRet (eC (.bool false))) (sNil)) (sSeq (sIf (testS (eN gEq (a2 (eV 1) (eC (.str "read"))))) (sRet (eAnd (eN gEq (a2 (eV 2) (eC (.int 4)))) (eCall (c 2) (aCons (eN gIx (a2 (eV 0) (eC (.int 3)))) (aCons (eC k_READING) (aNil)))))) (sNil)) (sSeq (sIf (testS (eN gNe (a2 (eV 2) (eIf (testS (eN gEq (a2 (eV 1) (eC (.str "try"))))) (eC (.int 5)) (eC (.int 4)))))) (sRet (eC (.bool false))) (sNil)) (sRet (eN gAll (aCons (cm1_fits_access c) (aNil)))))))))
def b_is_access (c : Nat → FS) : FS := fDef 1 0 (sRet (eOr (eN (gIn false) (a2 (eN gIx (a2 (eV 0) (eC (.int 0)))) (eTup (aCons (eC (.str "read")) (aCons (eC (.str "write")) (aNil)))))) (eN (gIn false) (a2 (eN gIx (a2 (eV 0) (eC (.int 0)))) (eC k_EXCHANGES)))))
def b_fits_inner (c : Nat → FS) : FS := fDef 1 2 (sSeq (sPar [1, 2] (aCons (eN gIx (a2 (eV 0) (eC (.int 0)))) (aCons (eN gLen (aCons (eV 0) (aNil))) (aNil)))) (sSeq (sIf (testS (eN gEq (a2 (eV 1) (eC (.str "fence"))))) (sRet (eN gEq (a2 (eV 2) (eC (.int 1))))) (sNil)) (sSeq (sIf (testS (eN gEq (a2 (eV 1) (eC (.str "need"))))) (sRet (eAnd (eN gEq (a2 (eV 2) (eC (.int 2)))) (eCall (c 3) (aCons (eN gIx (a2 (eV 0) (eC (.int 1)))) (aNil))))) (sNil)) (sSeq (sIf (testS (eN gEq (a2 (eV 1) (eC (.str "set"))))) (sRet (eAnd (eN gEq (a2 (eV 2) (eC (.int 3)))) (eAnd (eCall (c 4) (aCons (eN gIx (a2 (eV 0) (eC (.int 1)))) (aNil))) (eCall (c 3) (aCons (eN gIx (a2 (eV 0) (eC (.int 2)))) (aNil)))))) (sNil)) (sSeq (sIf (tOrS (testS (eN gNe (a2 (eV 1) (eC (.str "if"))))) (tOrS (testS (eN gNe (a2 (eV 2) (eC (.int 4))))) (tNotS (testS (eCall (c 3) (aCons (eN gIx (a2 (eV 0) (eC (.int 1)))) (aNil))))))) (sRet (eC (.bool false))) (sNil)) (sRet (eAnd (eCall (c 1) (aCons (eN gIx (a2 (eV 0) (eC (.int 2)))) (aCons (eC (.int 0)) (aCons (eC k_STATEMENTS) (aNil))))) (eCall (c 1) (aCons (eN gIx (a2 (eV 0) (eC (.int 3)))) (aCons (eC (.int 0)) (aCons (eC k_STATEMENTS) (aNil))))))))))))
def b_blocks_of (c : Nat → FS) : FS := fDef 1 0 (sRet (eIf (testS (eN gEq (a2 (eN gIx (a2 (eV 0) (eC (.int 0)))) (eC (.str "if"))))) (eLst (aCons (eN gIx (a2 (eV 0) (eC (.int 2)))) (aCons (eN gIx (a2 (eV 0) (eC (.int 3)))) (aNil)))) (eLst (aNil))))
def ce1_all_statements (c : Nat → FS) : SE := eV 5
def ci1_all_statements (c : Nat → FS) : SI := iS (eV 4)
def cm1_all_statements (c : Nat → FS) : SE := eComp2 (iS (eCall (c 9) (aCons (eV 3) (aNil)))) (gN 4) [4, 5] (tYesS) (ci1_all_statements c) (gN 5) [5] (tYesS) (ce1_all_statements c)
def wc1_all_statements (c : Nat → FS) : ST := testS (eN gNe (a2 (eV 2) (eLst (aNil))))
def wb1_all_statements (c : Nat → FS) : SS := sSeq (sAsg 3 (ePopAt 2 0)) (sSeq (sEx (eApp 1 (eV 3))) (sAsg 2 (eN gAdd (a2 (cm1_all_statements c) (eV 2)))))
def b_all_statements (c : Nat → FS) : FS := fDef 1 5 (sSeq (sPar [1, 2] (aCons (eLst (aNil)) (aCons (eN gList (aCons (eV 0) (aNil))) (aNil)))) (sSeq (sWhile (wc1_all_statements c) (wb1_all_statements c)) (sRet (eV 1))))
def ce1_fits_block (c : Nat → FS) : SE := eTup (aCons (eV 3) (aCons (eC (.int 0)) (aNil)))
def cm1_fits_block (c : Nat → FS) : SE := eComp (iS (eV 0)) (gN 3) [3] (tYesS) (ce1_fits_block c)
def ce2_fits_block (c : Nat → FS) : SE := eTup (aCons (eV 6) (aCons (eN gAdd (a2 (eV 4) (eC (.int 1)))) (aNil)))
def ci1_fits_block (c : Nat → FS) : SI := iS (eV 5)
def cm2_fits_block (c : Nat → FS) : SE := eComp2 (iS (eCall (c 9) (aCons (eV 3) (aNil)))) (gN 5) [5, 6] (tYesS) (ci1_fits_block c) (gN 6) [6] (tYesS) (ce2_fits_block c)
def wc1_fits_block (c : Nat → FS) : ST := testS (eN gNe (a2 (eV 1) (eLst (aNil))))
def wb1_fits_block (c : Nat → FS) : SS := sSeq (sAsgG (gT 2 (gsC (gN 3) (gsC (gN 4) (gsN)))) (ePop 1)) (sSeq (sAsg 2 (eN gAdd (a2 (eV 2) (eC (.int 1))))) (sSeq (sIf (tOrS (testS (eN gGt (a2 (eV 2) (eC k_STATEMENTS)))) (tOrS (tNotS (testS (eCall (c 1) (aCons (eV 3) (aCons (eC (.int 1)) (aCons (eC (.int 5)) (aNil))))))) (tNotS (testS (eIsi .str (eN gIx (a2 (eV 3) (eC (.int 0))))))))) (sRet (eC (.bool false))) (sNil)) (sSeq (sIf (tNotS (tIteS (testS (eCall (c 7) (aCons (eV 3) (aNil)))) (testS (eCall (c 6) (aCons (eV 3) (aNil)))) (testS (eCall (c 8) (aCons (eV 3) (aNil)))))) (sRet (eC (.bool false))) (sNil)) (sSeq (sIf (tAndS (testS (eN gEq (a2 (eN gIx (a2 (eV 3) (eC (.int 0)))) (eC (.str "if"))))) (testS (eN gEq (a2 (eV 4) (eC k_IFS))))) (sRet (eC (.bool false))) (sNil)) (sExt 1 (cm2_fits_block c))))))
def b_fits_block (c : Nat → FS) : FS := fDef 1 6 (sSeq (sIf (tNotS (testS (eCall (c 1) (aCons (eV 0) (aCons (eC (.int 0)) (aCons (eC k_STATEMENTS) (aNil))))))) (sRet (eC (.bool false))) (sNil)) (sSeq (sPar [1, 2] (aCons (cm1_fits_block c) (aCons (eC (.int 0)) (aNil)))) (sSeq (sWhile (wc1_fits_block c) (wb1_fits_block c)) (sRet (eC (.bool true))))))
def ce1_fits_program (c : Nat → FS) : SE := eCall (c 11) (aCons (eV 2) (aNil))
def cm1_fits_program (c : Nat → FS) : SE := eComp (iS (eV 0)) (gN 2) [2] (tYesS) (ce1_fits_program c)
def ce2_fits_program (c : Nat → FS) : SE := eV 2
def ci1_fits_program (c : Nat → FS) : SI := iS (eCall (c 10) (aCons (eV 3) (aNil)))
def cm2_fits_program (c : Nat → FS) : SE := eComp2 (iS (eV 0)) (gN 3) [3, 2] (tYesS) (ci1_fits_program c) (gN 2) [2] (tYesS) (ce2_fits_program c)
def ce3_fits_program (c : Nat → FS) : SE := eV 2
def ct1_fits_program (c : Nat → FS) : ST := testS (eCall (c 7) (aCons (eV 2) (aNil)))
def cm3_fits_program (c : Nat → FS) : SE := eComp (iS (eV 1)) (gN 2) [2] (ct1_fits_program c) (ce3_fits_program c)
def ce4_fits_program (c : Nat → FS) : SE := eV 2
def ct2_fits_program (c : Nat → FS) : ST := testS (eN gEq (a2 (eN gIx (a2 (eV 2) (eC (.int 0)))) (eC (.str "fence"))))
def cm4_fits_program (c : Nat → FS) : SE := eComp (iS (eV 1)) (gN 2) [2] (ct2_fits_program c) (ce4_fits_program c)
def b_fits_program (c : Nat → FS) : FS := fDef 1 3 (sSeq (sIf (tOrS (tNotS (testS (eCall (c 1) (aCons (eV 0) (aCons (eC (.int 1)) (aCons (eC k_THREADS) (aNil))))))) (tNotS (testS (eN gAll (aCons (cm1_fits_program c) (aNil)))))) (sRet (eC (.bool false))) (sNil)) (sSeq (sAsg 1 (cm2_fits_program c)) (sSeq (sIf (testS (eN gGt (a2 (eN gLen (aCons (cm3_fits_program c) (aNil))) (eC k_ACCESSES)))) (sRet (eC (.bool false))) (sNil)) (sRet (eN gLe (a2 (eN gLen (aCons (cm4_fits_program c) (aNil))) (eC k_FENCES)))))))
def fb1_numbered_block (c : Nat → FS) : SS := sIf (testS (eCall (c 7) (aCons (eV 3) (aNil)))) (sSeq (sEx (eApp 2 (eN gAdd (a2 (eV 3) (eTup (aCons (eV 1) (aNil))))))) (sAsg 1 (eN gAdd (a2 (eV 1) (eC (.int 1)))))) (sIf (testS (eN gEq (a2 (eN gIx (a2 (eV 3) (eC (.int 0)))) (eC (.str "if"))))) (sSeq (sAsgG (gT 2 (gsC (gN 4) (gsC (gN 1) (gsN)))) (eCall (c 13) (aCons (eN gIx (a2 (eV 3) (eC (.int 2)))) (aCons (eV 1) (aNil))))) (sSeq (sAsgG (gT 2 (gsC (gN 5) (gsC (gN 1) (gsN)))) (eCall (c 13) (aCons (eN gIx (a2 (eV 3) (eC (.int 3)))) (aCons (eV 1) (aNil))))) (sEx (eApp 2 (eTup (aCons (eC (.str "if")) (aCons (eN gIx (a2 (eV 3) (eC (.int 1)))) (aCons (eV 4) (aCons (eV 5) (aNil)))))))))) (sEx (eApp 2 (eV 3))))
def b_numbered_block (c : Nat → FS) : FS := fDef 2 4 (sSeq (sAsg 2 (eLst (aNil))) (sSeq (sFor (iS (eV 0)) (gN 3) (fb1_numbered_block c)) (sRet (eTup (aCons (eN gTuple (aCons (eV 2) (aNil))) (aCons (eV 1) (aNil)))))))
def fb1_numbered_threads (c : Nat → FS) : SS := sSeq (sAsgG (gT 2 (gsC (gN 4) (gsC (gN 2) (gsN)))) (eCall (c 13) (aCons (eV 3) (aCons (eV 2) (aNil))))) (sEx (eApp 1 (eV 4)))
def b_numbered_threads (c : Nat → FS) : FS := fDef 1 4 (sSeq (sPar [1, 2] (aCons (eLst (aNil)) (aCons (eC (.int 0)) (aNil)))) (sSeq (sFor (iS (eV 0)) (gN 3) (fb1_numbered_threads c)) (sRet (eN gTuple (aCons (eV 1) (aNil))))))
def ce1_accesses_in (c : Nat → FS) : SE := eTup (aCons (eV 1) (aCons (eV 3) (aNil)))
def cu1_accesses_in (c : Nat → FS) : ST := testS (eCall (c 7) (aCons (eV 3) (aNil)))
def ci1_accesses_in (c : Nat → FS) : SI := iS (eCall (c 10) (aCons (eV 2) (aNil)))
def cm1_accesses_in (c : Nat → FS) : SE := eComp2 (iEn (eV 0)) (gT 2 (gsC (gN 1) (gsC (gN 2) (gsN)))) [1, 2, 3] (tYesS) (ci1_accesses_in c) (gN 3) [3] (cu1_accesses_in c) (ce1_accesses_in c)
def b_accesses_in (c : Nat → FS) : FS := fDef 1 3 (sRet (cm1_accesses_in c))
def b_can_read (c : Nat → FS) : FS := fDef 1 0 (sRet (eN gNe (a2 (eN gIx (a2 (eV 0) (eC (.int 0)))) (eC (.str "write")))))
def b_need_program (c : Nat → FS) : FS := fDef 1 0 (sIf (tNotS (testS (eCall (c 12) (aCons (eV 0) (aNil))))) (sRaise "InvalidProgram") (sNil))
def b_need_number (c : Nat → FS) : FS := fDef 3 0 (sIf (tNotS (testS (eCall (c 0) (aCons (eV 0) (aCons (eV 1) (aCons (eV 2) (aNil))))))) (sRaise "InvalidNumber") (sNil))
def b_worth_by (c : Nat → FS) : FS := fDef 2 3 (sSeq (sAsg 2 (eN gIx (a2 (eV 0) (eC (.int 0))))) (sSeq (sIf (testS (eN gEq (a2 (eV 2) (eC (.str "num"))))) (sRet (eN gIx (a2 (eV 0) (eC (.int 1))))) (sNil)) (sSeq (sIf (testS (eN gEq (a2 (eV 2) (eC (.str "reg"))))) (sRet (eN gIx (a2 (eV 1) (eN gIx (a2 (eV 0) (eC (.int 1))))))) (sNil)) (sSeq (sPar [3, 4] (aCons (eCall (c 19) (aCons (eN gIx (a2 (eV 0) (eC (.int 1)))) (aCons (eV 1) (aNil)))) (aCons (eCall (c 19) (aCons (eN gIx (a2 (eV 0) (eC (.int 2)))) (aCons (eV 1) (aNil)))) (aNil)))) (sSeq (sIf (testS (eN gEq (a2 (eV 2) (eC (.str "same"))))) (sRet (eIf (testS (eN gEq (a2 (eV 3) (eV 4)))) (eC (.int 1)) (eC (.int 0)))) (sNil)) (sSeq (sIf (testS (eN gEq (a2 (eV 2) (eC (.str "less"))))) (sRet (eIf (testS (eN gLt (a2 (eV 3) (eV 4)))) (eC (.int 1)) (eC (.int 0)))) (sNil)) (sRet (eN gMod (a2 (eIf (testS (eN gEq (a2 (eV 2) (eC (.str "plus"))))) (eN gAdd (a2 (eV 3) (eV 4))) (eIf (testS (eN gEq (a2 (eV 2) (eC (.str "minus"))))) (eN gSub (a2 (eV 3) (eV 4))) (eN gMul (a2 (eV 3) (eV 4))))) (eC k_VALUES))))))))))
def b_with_register (c : Nat → FS) : FS := fDef 3 0 (sRet (eN gAdd (a2 (eN gAdd (a2 (eSl gSl (eV 0) (oNo) (oAt (eV 1))) (eTup (aCons (eV 2) (aNil))))) (eSl gSl (eV 0) (oAt (eN gAdd (a2 (eV 1) (eC (.int 1))))) (oNo)))))
def wc1_settled (c : Nat → FS) : ST := tAndS (testS (eN gNe (a2 (eV 0) (eTup (aNil))))) (testS (eN (gIn false) (a2 (eN gIx (a2 (eN gIx (a2 (eV 0) (eC (.int 0)))) (eC (.int 0)))) (eTup (aCons (eC (.str "set")) (aCons (eC (.str "need")) (aCons (eC (.str "if")) (aNil))))))))
def wb1_settled (c : Nat → FS) : SS := sSeq (sAsg 2 (eN gIx (a2 (eV 0) (eC (.int 0))))) (sIf (testS (eN gEq (a2 (eN gIx (a2 (eV 2) (eC (.int 0)))) (eC (.str "set"))))) (sPar [0, 1] (aCons (eSl gSl (eV 0) (oAt (eC (.int 1))) (oNo)) (aCons (eCall (c 20) (aCons (eV 1) (aCons (eN gIx (a2 (eV 2) (eC (.int 1)))) (aCons (eCall (c 19) (aCons (eN gIx (a2 (eV 2) (eC (.int 2)))) (aCons (eV 1) (aNil)))) (aNil))))) (aNil)))) (sIf (testS (eN gEq (a2 (eN gIx (a2 (eV 2) (eC (.int 0)))) (eC (.str "need"))))) (sSeq (sIf (testS (eN gEq (a2 (eCall (c 19) (aCons (eN gIx (a2 (eV 2) (eC (.int 1)))) (aCons (eV 1) (aNil)))) (eC (.int 0))))) (sRet (eTup (aCons (eC .none) (aCons (eV 1) (aNil))))) (sNil)) (sAsg 0 (eSl gSl (eV 0) (oAt (eC (.int 1))) (oNo)))) (sAsg 0 (eN gAdd (a2 (eIf (testS (eN gNe (a2 (eCall (c 19) (aCons (eN gIx (a2 (eV 2) (eC (.int 1)))) (aCons (eV 1) (aNil)))) (eC (.int 0))))) (eN gIx (a2 (eV 2) (eC (.int 2)))) (eN gIx (a2 (eV 2) (eC (.int 3))))) (eSl gSl (eV 0) (oAt (eC (.int 1))) (oNo)))))))
def b_settled (c : Nat → FS) : FS := fDef 2 1 (sSeq (sWhile (wc1_settled c) (wb1_settled c)) (sRet (eTup (aCons (eV 0) (aCons (eV 1) (aNil))))))
def ce1_begun (c : Nat → FS) : SE := eCall (c 21) (aCons (eV 1) (aCons (eN gMul (a2 (eTup (aCons (eC (.int 0)) (aNil))) (eC k_REGISTERS))) (aNil)))
def cm1_begun (c : Nat → FS) : SE := eComp (iS (eCall (c 14) (aCons (eV 0) (aNil)))) (gN 1) [1] (tYesS) (ce1_begun c)
def b_begun (c : Nat → FS) : FS := fDef 1 1 (sRet (eN gTuple (aCons (cm1_begun c) (aNil))))
def b_written_by (c : Nat → FS) : FS := fDef 3 1 (sSeq (sAsg 3 (eN gIx (a2 (eV 0) (eC (.int 0))))) (sSeq (sIf (testS (eN gEq (a2 (eV 3) (eC (.str "write"))))) (sRet (eCall (c 19) (aCons (eN gIx (a2 (eV 0) (eC (.int 3)))) (aCons (eV 1) (aNil))))) (sNil)) (sSeq (sIf (testS (eN gEq (a2 (eV 3) (eC (.str "swap"))))) (sRet (eCall (c 19) (aCons (eN gIx (a2 (eV 0) (eC (.int 3)))) (aCons (eV 1) (aNil))))) (sNil)) (sSeq (sIf (testS (eN gEq (a2 (eV 3) (eC (.str "add"))))) (sRet (eN gMod (a2 (eN gAdd (a2 (eV 2) (eCall (c 19) (aCons (eN gIx (a2 (eV 0) (eC (.int 3)))) (aCons (eV 1) (aNil)))))) (eC k_VALUES)))) (sNil)) (sSeq (sIf (tAndS (testS (eN gEq (a2 (eV 3) (eC (.str "try"))))) (testS (eN gEq (a2 (eV 2) (eCall (c 19) (aCons (eN gIx (a2 (eV 0) (eC (.int 3)))) (aCons (eV 1) (aNil)))))))) (sRet (eCall (c 19) (aCons (eN gIx (a2 (eV 0) (eC (.int 4)))) (aCons (eV 1) (aNil))))) (sNil)) (sRet (eC .none)))))))
def b_behind (c : Nat → FS) : FS := fDef 3 1 (sSeq (sAsg 3 (eN gIx (a2 (eV 0) (eC (.int 0))))) (sSeq (sIf (tAndS (testS (eCall (c 7) (aCons (eV 3) (aNil)))) (testS (eCall (c 16) (aCons (eV 3) (aNil))))) (sAsg 1 (eCall (c 20) (aCons (eV 1) (aCons (eN gIx (a2 (eV 3) (eC (.int 1)))) (aCons (eV 2) (aNil)))))) (sNil)) (sRet (eCall (c 21) (aCons (eSl gSl (eV 0) (oAt (eC (.int 1))) (oNo)) (aCons (eV 1) (aNil)))))))
def wc1_done_alone (c : Nat → FS) : ST := tAndS (testS (eN gIsN (a2 (eV 3) (eC .none)))) (testS (eN gNe (a2 (eV 3) (eTup (aNil)))))
def wb1_done_alone (c : Nat → FS) : SS := sSeq (sAsg 6 (eN gIx (a2 (eV 3) (eC (.int 0))))) (sSeq (sAsg 7 (eC .none)) (sSeq (sIf (testS (eCall (c 7) (aCons (eV 6) (aNil)))) (sSeq (sIf (testS (eCall (c 16) (aCons (eV 6) (aNil)))) (sSeq (sAsg 7 (eN gIx (a2 (eV 2) (eN gIx (a2 (eV 6) (eN gNeg (a1 (eC (.int 1))))))))) (sIf (testS (eN gIs (a2 (eV 7) (eC .none)))) (sRet (eTup (aCons (eN gTuple (aCons (eV 5) (aNil))) (aCons (eV 4) (aCons (eC (.str "wants")) (aNil)))))) (sNil))) (sNil)) (sEx (eApp 5 (eTup (aCons (eN gIx (a2 (eV 6) (eN gNeg (a1 (eC (.int 1)))))) (aCons (eV 7) (aCons (eCall (c 23) (aCons (eV 6) (aCons (eV 4) (aCons (eV 7) (aNil))))) (aNil)))))))) (sNil)) (sAsgG (gT 2 (gsC (gN 3) (gsC (gN 4) (gsN)))) (eCall (c 24) (aCons (eV 3) (aCons (eV 4) (aCons (eV 7) (aNil))))))))
def b_done_alone (c : Nat → FS) : FS := fDef 3 5 (sSeq (sAsgG (gT 2 (gsC (gN 3) (gsC (gN 4) (gsN)))) (eN gIx (a2 (eCall (c 22) (aCons (eV 0) (aNil))) (eV 1)))) (sSeq (sAsg 5 (eLst (aNil))) (sSeq (sWhile (wc1_done_alone c) (wb1_done_alone c)) (sRet (eTup (aCons (eN gTuple (aCons (eV 5) (aNil))) (aCons (eV 4) (aCons (eIf (testS (eN gIs (a2 (eV 3) (eC .none)))) (eC (.str "stuck")) (eC (.str "end"))) (aNil)))))))))
def ce1_fits_values (c : Nat → FS) : SE := eOr (eN gIs (a2 (eV 3) (eC .none))) (eCall (c 0) (aCons (eV 3) (aCons (eC (.int 0)) (aCons (eN gSub (a2 (eC k_VALUES) (eC (.int 1)))) (aNil)))))
def cm1_fits_values (c : Nat → FS) : SE := eComp (iS (eV 1)) (gN 3) [3] (tYesS) (ce1_fits_values c)
def b_fits_values (c : Nat → FS) : FS := fDef 2 2 (sSeq (sAsg 2 (eN gLen (aCons (eCall (c 15) (aCons (eV 0) (aNil))) (aNil)))) (sRet (eAnd (eCall (c 1) (aCons (eV 1) (aCons (eV 2) (aCons (eV 2) (aNil))))) (eN gAll (aCons (cm1_fits_values c) (aNil))))))
def b_thread_alone (c : Nat → FS) : FS := fDef 3 0 (sSeq (sEx (eCall (c 17) (aCons (eV 0) (aNil)))) (sSeq (sEx (eCall (c 18) (aCons (eV 1) (aCons (eC (.int 0)) (aCons (eN gSub (a2 (eN gLen (aCons (eV 0) (aNil))) (eC (.int 1)))) (aNil)))))) (sSeq (sIf (tNotS (testS (eCall (c 26) (aCons (eV 0) (aCons (eV 2) (aNil)))))) (sRaise "InvalidValues") (sNil)) (sRet (eCall (c 25) (aCons (eV 0) (aCons (eV 1) (aCons (eV 2) (aNil)))))))))
def b__law_cup (c : Nat → FS) : FS := fDef 1 1 (sSeq (sAsg 1 (eN gAbs (aCons (eN gIx (a2 (eN gAdd (a2 (eN gList (aCons (eV 0) (aNil))) (eLst (aCons (eC (.int 0)) (aNil))))) (eC (.int 0)))) (aNil)))) (sRet (eLst (aCons (eIf (testS (eN gGe (a2 (eV 1) (eN gPow (a2 (eC (.int 10)) (eC (.int 18))))))) (eN gFdiv (a2 (eV 1) (eC (.int 83)))) (eC (.int 0))) (aCons (eN gAdd (a2 (eN gMod (a2 (eN gInt (aCons (eN gAdd (a2 (eN gMul (a2 (eV 1) (eC (.int 307)))) (eC (.int 3001)))) (aNil))) (eC (.int 2077503113)))) (eC (.int 181)))) (aNil))))))
def b__law_roll (c : Nat → FS) : FS := fDef 2 2 (sSeq (sIf (testS (eN gGt (a2 (eN gIx (a2 (eV 0) (eC (.int 0)))) (eC (.int 0))))) (sSeq (sAsg 2 (eN gMod (a2 (eN gInt (aCons (eN gIx (a2 (eV 0) (eC (.int 0)))) (aNil))) (eV 1)))) (sSeq (sSetI 0 (eN gFdiv (a2 (eN gIx (a2 (eV 0) (eC (.int 0)))) (eV 1))) (eC (.int 0))) (sRet (eV 2)))) (sNil)) (sSeq (sSetI 0 (eN gMod (a2 (eN gInt (aCons (eN gAdd (a2 (eN gMul (a2 (eN gIx (a2 (eV 0) (eC (.int 1)))) (eC (.int 31081)))) (eC (.int 8039)))) (aNil))) (eC (.int 2147483477)))) (eC (.int 1))) (sSeq (sAsg 3 (eN gMod (a2 (eN gInt (aCons (eN gMul (a2 (eN gIx (a2 (eV 0) (eC (.int 1)))) (eN gAdd (a2 (eN gIx (a2 (eV 0) (eC (.int 1)))) (eC (.int 251)))))) (aNil))) (eC (.int 2147483587))))) (sRet (eN gMod (a2 (eN gInt (aCons (eN gFdiv (a2 (eV 3) (eC (.int 839)))) (aNil))) (eV 1)))))))
def b__law_some (c : Nat → FS) : FS := fDef 2 0 (sRet (eN gIx (a2 (eV 1) (eCall (c 29) (aCons (eV 0) (aCons (eN gLen (aCons (eV 1) (aNil))) (aNil)))))))
def b__law_worth (c : Nat → FS) : FS := fDef 2 3 (sSeq (sAsg 2 (eN gIx (a2 (eV 0) (eC (.int 0))))) (sSeq (sIf (tOrS (testS (eN gEq (a2 (eV 2) (eC (.str "num"))))) (testS (eN gEq (a2 (eV 2) (eC (.str "reg")))))) (sRet (eIf (testS (eN gEq (a2 (eV 2) (eC (.str "num"))))) (eN gIx (a2 (eV 0) (eC (.int 1)))) (eN gIx (a2 (eV 1) (eN gIx (a2 (eV 0) (eC (.int 1)))))))) (sNil)) (sSeq (sPar [3, 4] (aCons (eCall (c 31) (aCons (eN gIx (a2 (eV 0) (eC (.int 1)))) (aCons (eV 1) (aNil)))) (aCons (eCall (c 31) (aCons (eN gIx (a2 (eV 0) (eC (.int 2)))) (aCons (eV 1) (aNil)))) (aNil)))) (sSeq (sIf (testS (eN (gIn false) (a2 (eV 2) (eTup (aCons (eC (.str "same")) (aCons (eC (.str "less")) (aNil))))))) (sRet (eN gInt (aCons (eIf (testS (eN gEq (a2 (eV 2) (eC (.str "same"))))) (eN gEq (a2 (eV 3) (eV 4))) (eN gLt (a2 (eV 3) (eV 4)))) (aNil)))) (sNil)) (sRet (eN gMod (a2 (eN gInt (aCons (eIf (testS (eN gEq (a2 (eV 2) (eC (.str "plus"))))) (eN gAdd (a2 (eV 3) (eV 4))) (eIf (testS (eN gEq (a2 (eV 2) (eC (.str "minus"))))) (eN gSub (a2 (eV 3) (eV 4))) (eN gMul (a2 (eV 3) (eV 4))))) (aNil))) (eC (.int 16)))))))))
def b__law_is_access (c : Nat → FS) : FS := fDef 1 0 (sRet (eN (gIn false) (a2 (eN gIx (a2 (eV 0) (eC (.int 0)))) (eTup (aCons (eC (.str "read")) (aCons (eC (.str "write")) (aCons (eC (.str "swap")) (aCons (eC (.str "add")) (aCons (eC (.str "try")) (aNil))))))))))
def fb1__law_numbered (c : Nat → FS) : SS := sIf (testS (eCall (c 32) (aCons (eV 3) (aNil)))) (sPar [2, 1] (aCons (eN gAdd (a2 (eV 2) (eLst (aCons (eN gAdd (a2 (eV 3) (eTup (aCons (eV 1) (aNil))))) (aNil))))) (aCons (eN gAdd (a2 (eV 1) (eC (.int 1)))) (aNil)))) (sIf (testS (eN gEq (a2 (eN gIx (a2 (eV 3) (eC (.int 0)))) (eC (.str "if"))))) (sSeq (sAsgG (gT 2 (gsC (gN 4) (gsC (gN 1) (gsN)))) (eCall (c 33) (aCons (eN gIx (a2 (eV 3) (eC (.int 2)))) (aCons (eV 1) (aNil))))) (sSeq (sAsgG (gT 2 (gsC (gN 5) (gsC (gN 1) (gsN)))) (eCall (c 33) (aCons (eN gIx (a2 (eV 3) (eC (.int 3)))) (aCons (eV 1) (aNil))))) (sEx (eApp 2 (eTup (aCons (eC (.str "if")) (aCons (eN gIx (a2 (eV 3) (eC (.int 1)))) (aCons (eV 4) (aCons (eV 5) (aNil)))))))))) (sEx (eApp 2 (eV 3))))
def b__law_numbered (c : Nat → FS) : FS := fDef 2 4 (sSeq (sAsg 2 (eLst (aNil))) (sSeq (sFor (iS (eV 0)) (gN 3) (fb1__law_numbered c)) (sRet (eTup (aCons (eN gTuple (aCons (eV 2) (aNil))) (aCons (eV 1) (aNil)))))))
def fb1__law_threads (c : Nat → FS) : SS := sSeq (sAsgG (gT 2 (gsC (gN 4) (gsC (gN 2) (gsN)))) (eCall (c 33) (aCons (eV 3) (aCons (eV 2) (aNil))))) (sEx (eApp 1 (eV 4)))
def b__law_threads (c : Nat → FS) : FS := fDef 1 4 (sSeq (sPar [1, 2] (aCons (eLst (aNil)) (aCons (eC (.int 0)) (aNil)))) (sSeq (sFor (iS (eV 0)) (gN 3) (fb1__law_threads c)) (sRet (eV 1))))
def fb1__law_accesses (c : Nat → FS) : SS := sSeq (sIf (testS (eCall (c 32) (aCons (eV 2) (aNil)))) (sEx (eApp 1 (eV 2))) (sNil)) (sIf (testS (eN gEq (a2 (eN gIx (a2 (eV 2) (eC (.int 0)))) (eC (.str "if"))))) (sAsg 1 (eN gAdd (a2 (eN gAdd (a2 (eV 1) (eCall (c 35) (aCons (eN gIx (a2 (eV 2) (eC (.int 2)))) (aNil))))) (eCall (c 35) (aCons (eN gIx (a2 (eV 2) (eC (.int 3)))) (aNil)))))) (sNil))
def b__law_accesses (c : Nat → FS) : FS := fDef 1 2 (sSeq (sAsg 1 (eLst (aNil))) (sSeq (sFor (iS (eV 0)) (gN 2) (fb1__law_accesses c)) (sRet (eV 1))))
def ce1__law_all (c : Nat → FS) : SE := eTup (aCons (eV 2) (aCons (eV 4) (aNil)))
def cm1__law_all (c : Nat → FS) : SE := eComp (iS (eCall (c 35) (aCons (eV 3) (aNil)))) (gN 4) [4] (tYesS) (ce1__law_all c)
def fb1__law_all (c : Nat → FS) : SS := sAsg 1 (eN gAdd (a2 (eV 1) (cm1__law_all c)))
def b__law_all (c : Nat → FS) : FS := fDef 1 4 (sSeq (sAsg 1 (eLst (aNil))) (sSeq (sFor (iEn (eCall (c 34) (aCons (eV 0) (aNil)))) (gT 2 (gsC (gN 2) (gsC (gN 3) (gsN)))) (fb1__law_all c)) (sRet (eV 1))))
def wc1__law_settled (c : Nat → FS) : ST := tAndS (testS (eN gNe (a2 (eV 0) (eTup (aNil))))) (testS (eN (gIn false) (a2 (eN gIx (a2 (eN gIx (a2 (eV 0) (eC (.int 0)))) (eC (.int 0)))) (eTup (aCons (eC (.str "set")) (aCons (eC (.str "need")) (aCons (eC (.str "if")) (aNil))))))))
def wb1__law_settled (c : Nat → FS) : SS := sSeq (sPar [2, 3] (aCons (eN gIx (a2 (eV 0) (eC (.int 0)))) (aCons (eCall (c 31) (aCons (eIf (testS (eN gEq (a2 (eN gIx (a2 (eN gIx (a2 (eV 0) (eC (.int 0)))) (eC (.int 0)))) (eC (.str "set"))))) (eN gIx (a2 (eN gIx (a2 (eV 0) (eC (.int 0)))) (eC (.int 2)))) (eN gIx (a2 (eN gIx (a2 (eV 0) (eC (.int 0)))) (eC (.int 1))))) (aCons (eV 1) (aNil)))) (aNil)))) (sSeq (sIf (tAndS (testS (eN gEq (a2 (eN gIx (a2 (eV 2) (eC (.int 0)))) (eC (.str "need"))))) (testS (eN gEq (a2 (eV 3) (eC (.int 0)))))) (sRet (eTup (aCons (eC .none) (aCons (eV 1) (aNil))))) (sNil)) (sSeq (sAsg 0 (eIf (testS (eN gEq (a2 (eN gIx (a2 (eV 2) (eC (.int 0)))) (eC (.str "if"))))) (eN gAdd (a2 (eIf (testS (eN gNe (a2 (eV 3) (eC (.int 0))))) (eN gIx (a2 (eV 2) (eC (.int 2)))) (eN gIx (a2 (eV 2) (eC (.int 3))))) (eSl gSl (eV 0) (oAt (eC (.int 1))) (oNo)))) (eSl gSl (eV 0) (oAt (eC (.int 1))) (oNo)))) (sIf (testS (eN gEq (a2 (eN gIx (a2 (eV 2) (eC (.int 0)))) (eC (.str "set"))))) (sAsg 1 (eN gAdd (a2 (eN gAdd (a2 (eSl gSl (eV 1) (oNo) (oAt (eN gIx (a2 (eV 2) (eC (.int 1)))))) (eTup (aCons (eV 3) (aNil))))) (eSl gSl (eV 1) (oAt (eN gAdd (a2 (eN gIx (a2 (eV 2) (eC (.int 1)))) (eC (.int 1))))) (oNo))))) (sNil))))
def b__law_settled (c : Nat → FS) : FS := fDef 2 2 (sSeq (sWhile (wc1__law_settled c) (wb1__law_settled c)) (sRet (eTup (aCons (eV 0) (aCons (eV 1) (aNil))))))
def b__law_written (c : Nat → FS) : FS := fDef 3 1 (sSeq (sAsg 3 (eN gIx (a2 (eV 0) (eC (.int 0))))) (sSeq (sIf (testS (eN (gIn false) (a2 (eV 3) (eTup (aCons (eC (.str "write")) (aCons (eC (.str "swap")) (aNil))))))) (sRet (eCall (c 31) (aCons (eN gIx (a2 (eV 0) (eC (.int 3)))) (aCons (eV 1) (aNil))))) (sNil)) (sSeq (sIf (testS (eN gEq (a2 (eV 3) (eC (.str "add"))))) (sRet (eN gMod (a2 (eN gInt (aCons (eN gAdd (a2 (eV 2) (eCall (c 31) (aCons (eN gIx (a2 (eV 0) (eC (.int 3)))) (aCons (eV 1) (aNil)))))) (aNil))) (eC (.int 16))))) (sNil)) (sSeq (sIf (tAndS (testS (eN gEq (a2 (eV 3) (eC (.str "try"))))) (testS (eN gEq (a2 (eV 2) (eCall (c 31) (aCons (eN gIx (a2 (eV 0) (eC (.int 3)))) (aCons (eV 1) (aNil)))))))) (sRet (eCall (c 31) (aCons (eN gIx (a2 (eV 0) (eC (.int 4)))) (aCons (eV 1) (aNil))))) (sNil)) (sRet (eC .none))))))
def b__law_behind (c : Nat → FS) : FS := fDef 3 1 (sSeq (sAsg 3 (eN gIx (a2 (eV 0) (eC (.int 0))))) (sSeq (sIf (tAndS (testS (eCall (c 32) (aCons (eV 3) (aNil)))) (testS (eN gNe (a2 (eN gIx (a2 (eV 3) (eC (.int 0)))) (eC (.str "write")))))) (sAsg 1 (eN gAdd (a2 (eN gAdd (a2 (eSl gSl (eV 1) (oNo) (oAt (eN gIx (a2 (eV 3) (eC (.int 1)))))) (eTup (aCons (eV 2) (aNil))))) (eSl gSl (eV 1) (oAt (eN gAdd (a2 (eN gIx (a2 (eV 3) (eC (.int 1)))) (eC (.int 1))))) (oNo))))) (sNil)) (sRet (eCall (c 37) (aCons (eSl gSl (eV 0) (oAt (eC (.int 1))) (oNo)) (aCons (eV 1) (aNil)))))))
def ce1__law_begun (c : Nat → FS) : SE := eCall (c 37) (aCons (eV 1) (aCons (eTup (aCons (eC (.int 0)) (aCons (eC (.int 0)) (aCons (eC (.int 0)) (aNil))))) (aNil)))
def cm1__law_begun (c : Nat → FS) : SE := eComp (iS (eCall (c 34) (aCons (eV 0) (aNil)))) (gN 1) [1] (tYesS) (ce1__law_begun c)
def b__law_begun (c : Nat → FS) : FS := fDef 1 1 (sRet (eN gTuple (aCons (cm1__law_begun c) (aNil))))
def b__law_expression (c : Nat → FS) : FS := fDef 2 1 (sSeq (sAsg 2 (eCall (c 29) (aCons (eV 0) (aCons (eIf (testS (eN gGt (a2 (eV 1) (eC (.int 0))))) (eC (.int 6)) (eC (.int 4))) (aNil))))) (sSeq (sIf (testS (eN gLt (a2 (eV 2) (eC (.int 4))))) (sRet (eIf (testS (eN gLt (a2 (eV 2) (eC (.int 2))))) (eTup (aCons (eC (.str "num")) (aCons (eCall (c 30) (aCons (eV 0) (aCons (eLst (aCons (eC (.int 0)) (aCons (eC (.int 1)) (aCons (eC (.int 1)) (aCons (eC (.int 2)) (aCons (eC (.int 3)) (aCons (eC (.int 15)) (aNil)))))))) (aNil)))) (aNil)))) (eTup (aCons (eC (.str "reg")) (aCons (eCall (c 29) (aCons (eV 0) (aCons (eC (.int 2)) (aNil)))) (aNil)))))) (sNil)) (sRet (eTup (aCons (eCall (c 30) (aCons (eV 0) (aCons (eLst (aCons (eC (.str "plus")) (aCons (eC (.str "minus")) (aCons (eC (.str "times")) (aCons (eC (.str "same")) (aCons (eC (.str "less")) (aNil))))))) (aNil)))) (aCons (eCall (c 41) (aCons (eV 0) (aCons (eN gSub (a2 (eV 1) (eC (.int 1)))) (aNil)))) (aCons (eCall (c 41) (aCons (eV 0) (aCons (eN gSub (a2 (eV 1) (eC (.int 1)))) (aNil)))) (aNil))))))))
def b__law_access (c : Nat → FS) : FS := fDef 2 3 (sSeq (sPar [2, 3] (aCons (eCall (c 29) (aCons (eV 0) (aCons (eV 1) (aNil)))) (aCons (eCall (c 29) (aCons (eV 0) (aCons (eC (.int 10)) (aNil)))) (aNil)))) (sSeq (sIf (testS (eN gLt (a2 (eV 3) (eC (.int 4))))) (sRet (eTup (aCons (eC (.str "write")) (aCons (eV 2) (aCons (eCall (c 30) (aCons (eV 0) (aCons (eLst (aCons (eC (.str "plain")) (aCons (eC (.str "plain")) (aCons (eC (.str "release")) (aCons (eC (.str "strong")) (aNil)))))) (aNil)))) (aCons (eCall (c 41) (aCons (eV 0) (aCons (eC (.int 1)) (aNil)))) (aNil))))))) (sNil)) (sSeq (sIf (testS (eN gLt (a2 (eV 3) (eC (.int 8))))) (sRet (eTup (aCons (eC (.str "read")) (aCons (eCall (c 29) (aCons (eV 0) (aCons (eC (.int 2)) (aNil)))) (aCons (eV 2) (aCons (eCall (c 30) (aCons (eV 0) (aCons (eLst (aCons (eC (.str "plain")) (aCons (eC (.str "plain")) (aCons (eC (.str "acquire")) (aCons (eC (.str "strong")) (aNil)))))) (aNil)))) (aNil))))))) (sNil)) (sSeq (sAsg 4 (eCall (c 30) (aCons (eV 0) (aCons (eLst (aCons (eC (.str "swap")) (aCons (eC (.str "add")) (aCons (eC (.str "try")) (aNil))))) (aNil))))) (sRet (eN gAdd (a2 (eTup (aCons (eV 4) (aCons (eCall (c 29) (aCons (eV 0) (aCons (eC (.int 2)) (aNil)))) (aCons (eV 2) (aNil))))) (eIf (testS (eN gEq (a2 (eV 4) (eC (.str "try"))))) (eTup (aCons (eCall (c 41) (aCons (eV 0) (aCons (eC (.int 0)) (aNil)))) (aCons (eCall (c 41) (aCons (eV 0) (aCons (eC (.int 1)) (aNil)))) (aNil)))) (eTup (aCons (eCall (c 41) (aCons (eV 0) (aCons (eC (.int 1)) (aNil)))) (aNil)))))))))))
def wc1__law_thread (c : Nat → FS) : ST := testS (eN gGt (a2 (eV 1) (eC (.int 0))))
def wb1__law_thread (c : Nat → FS) : SS := sSeq (sAsg 5 (eCall (c 29) (aCons (eV 0) (aCons (eC (.int 12)) (aNil))))) (sSeq (sIf (testS (eN gEq (a2 (eV 5) (eC (.int 0))))) (sAsg 3 (eN gAdd (a2 (eV 3) (eTup (aCons (eTup (aCons (eC (.str "fence")) (aNil))) (aNil)))))) (sNil)) (sSeq (sIf (testS (eN gEq (a2 (eV 5) (eC (.int 1))))) (sAsg 3 (eN gAdd (a2 (eV 3) (eTup (aCons (eTup (aCons (eC (.str "set")) (aCons (eCall (c 29) (aCons (eV 0) (aCons (eC (.int 2)) (aNil)))) (aCons (eCall (c 41) (aCons (eV 0) (aCons (eC (.int 1)) (aNil)))) (aNil))))) (aNil)))))) (sNil)) (sSeq (sIf (tAndS (testS (eN gEq (a2 (eV 5) (eC (.int 2))))) (testS (eN gNe (a2 (eV 3) (eTup (aNil)))))) (sAsg 3 (eN gAdd (a2 (eV 3) (eTup (aCons (eTup (aCons (eC (.str "need")) (aCons (eTup (aCons (eC (.str "less")) (aCons (eTup (aCons (eC (.str "reg")) (aCons (eCall (c 29) (aCons (eV 0) (aCons (eC (.int 2)) (aNil)))) (aNil)))) (aCons (eTup (aCons (eC (.str "num")) (aCons (eC (.int 2)) (aNil)))) (aNil))))) (aNil)))) (aNil)))))) (sNil)) (sIf (tAndS (testS (eN gEq (a2 (eV 5) (eC (.int 3))))) (testS (eN gNe (a2 (eV 3) (eTup (aNil)))))) (sSeq (sPar [6, 7] (aCons (eTup (aCons (eCall (c 42) (aCons (eV 0) (aCons (eV 2) (aNil)))) (aNil))) (aCons (eIf (tAndS (testS (eN gGt (a2 (eV 1) (eC (.int 1))))) (testS (eN gEq (a2 (eCall (c 29) (aCons (eV 0) (aCons (eC (.int 2)) (aNil)))) (eC (.int 0)))))) (eTup (aCons (eCall (c 42) (aCons (eV 0) (aCons (eV 2) (aNil)))) (aNil))) (eTup (aNil))) (aNil)))) (sPar [3, 1] (aCons (eN gAdd (a2 (eV 3) (eTup (aCons (eTup (aCons (eC (.str "if")) (aCons (eTup (aCons (eC (.str "reg")) (aCons (eCall (c 29) (aCons (eV 0) (aCons (eC (.int 2)) (aNil)))) (aNil)))) (aCons (eV 6) (aCons (eV 7) (aNil)))))) (aNil))))) (aCons (eN gSub (a2 (eN gSub (a2 (eV 1) (eC (.int 1)))) (eN gLen (aCons (eV 7) (aNil))))) (aNil))))) (sPar [3, 1] (aCons (eN gAdd (a2 (eV 3) (eTup (aCons (eCall (c 42) (aCons (eV 0) (aCons (eV 2) (aNil)))) (aNil))))) (aCons (eN gSub (a2 (eV 1) (eC (.int 1)))) (aNil))))))))
def b__law_thread (c : Nat → FS) : FS := fDef 3 6 (sSeq (sPar [3, 4] (aCons (eTup (aNil)) (aCons (eV 1) (aNil)))) (sSeq (sWhile (wc1__law_thread c) (wb1__law_thread c)) (sSeq (sIf (tAndS (testS (eN gNe (a2 (eV 3) (eTup (aNil))))) (tAndS (testS (eN gLt (a2 (eV 4) (eC (.int 6))))) (testS (eN gEq (a2 (eCall (c 29) (aCons (eV 0) (aCons (eC (.int 3)) (aNil)))) (eC (.int 0))))))) (sSeq (sAsg 8 (eLst (aCons (eTup (aCons (eC (.str "set")) (aCons (eCall (c 29) (aCons (eV 0) (aCons (eC (.int 2)) (aNil)))) (aCons (eCall (c 41) (aCons (eV 0) (aCons (eC (.int 1)) (aNil)))) (aNil))))) (aCons (eTup (aCons (eC (.str "need")) (aCons (eTup (aCons (eC (.str "less")) (aCons (eTup (aCons (eC (.str "reg")) (aCons (eC (.int 0)) (aNil)))) (aCons (eTup (aCons (eC (.str "num")) (aCons (eC (.int 3)) (aNil)))) (aNil))))) (aNil)))) (aNil))))) (sAsg 3 (eN gAdd (a2 (eV 3) (eTup (aCons (eCall (c 30) (aCons (eV 0) (aCons (eN gAdd (a2 (eV 8) (eIf (testS (eN (gIn true) (a2 (eTup (aCons (eC (.str "fence")) (aNil))) (eV 3)))) (eLst (aCons (eTup (aCons (eC (.str "fence")) (aNil))) (aNil))) (eLst (aNil))))) (aNil)))) (aNil))))))) (sNil)) (sRet (eV 3)))))
def fb1__law_program (c : Nat → FS) : SS := sSeq (sAsg 6 (eCall (c 29) (aCons (eV 0) (aCons (eV 2) (aNil))))) (sAsg 4 (eN gAdd (a2 (eN gAdd (a2 (eSl gSl (eV 4) (oNo) (oAt (eV 6))) (eLst (aCons (eN gAdd (a2 (eN gIx (a2 (eV 4) (eV 6))) (eC (.int 1)))) (aNil))))) (eSl gSl (eV 4) (oAt (eN gAdd (a2 (eV 6) (eC (.int 1))))) (oNo)))))
def ce1__law_program (c : Nat → FS) : SE := eCall (c 43) (aCons (eV 0) (aCons (eV 7) (aCons (eV 3) (aNil))))
def cm1__law_program (c : Nat → FS) : SE := eComp (iS (eV 4)) (gN 7) [7] (tYesS) (ce1__law_program c)
def b__law_program (c : Nat → FS) : FS := fDef 2 6 (sSeq (sAsgG (gT 2 (gsC (gN 2) (gsC (gN 3) (gsN)))) (eTup (aCons (eN gAdd (a2 (eC (.int 2)) (eN gEq (a2 (eCall (c 29) (aCons (eV 0) (aCons (eC (.int 4)) (aNil)))) (eC (.int 0)))))) (aCons (eCall (c 30) (aCons (eV 0) (aCons (eLst (aCons (eC (.int 1)) (aCons (eC (.int 2)) (aCons (eC (.int 2)) (aCons (eC (.int 2)) (aNil)))))) (aNil)))) (aNil))))) (sSeq (sAsg 4 (eMulL (a2 (eLst (aCons (eC (.int 1)) (aNil))) (eV 2)))) (sSeq (sFor (iR1 (eN gSub (a2 (eV 1) (eV 2)))) (gN 5) (fb1__law_program c)) (sRet (eN gTuple (aCons (cm1__law_program c) (aNil)))))))
def wc1__law_due (c : Nat → FS) : ST := tAndS (testS (eN gIsN (a2 (eV 3) (eC .none)))) (testS (eN gNe (a2 (eV 3) (eTup (aNil)))))
def wb1__law_due (c : Nat → FS) : SS := sSeq (sPar [6, 7] (aCons (eN gIx (a2 (eV 3) (eC (.int 0)))) (aCons (eC .none) (aNil)))) (sSeq (sIf (testS (eCall (c 32) (aCons (eV 6) (aNil)))) (sSeq (sAsg 7 (eIf (testS (eN gNe (a2 (eN gIx (a2 (eV 6) (eC (.int 0)))) (eC (.str "write"))))) (eN gIx (a2 (eV 2) (eN gIx (a2 (eV 6) (eN gNeg (a1 (eC (.int 1)))))))) (eC .none))) (sSeq (sIf (tAndS (testS (eN gNe (a2 (eN gIx (a2 (eV 6) (eC (.int 0)))) (eC (.str "write"))))) (testS (eN gIs (a2 (eV 7) (eC .none))))) (sRet (eTup (aCons (eN gTuple (aCons (eV 5) (aNil))) (aCons (eV 4) (aCons (eC (.str "wants")) (aNil)))))) (sNil)) (sEx (eApp 5 (eTup (aCons (eN gIx (a2 (eV 6) (eN gNeg (a1 (eC (.int 1)))))) (aCons (eV 7) (aCons (eCall (c 38) (aCons (eV 6) (aCons (eV 4) (aCons (eV 7) (aNil))))) (aNil))))))))) (sNil)) (sAsgG (gT 2 (gsC (gN 3) (gsC (gN 4) (gsN)))) (eCall (c 39) (aCons (eV 3) (aCons (eV 4) (aCons (eV 7) (aNil)))))))
def b__law_due (c : Nat → FS) : FS := fDef 3 5 (sSeq (sAsgG (gT 2 (gsC (gN 3) (gsC (gN 4) (gsN)))) (eN gIx (a2 (eCall (c 40) (aCons (eV 0) (aNil))) (eV 1)))) (sSeq (sAsg 5 (eLst (aNil))) (sSeq (sWhile (wc1__law_due c) (wb1__law_due c)) (sRet (eTup (aCons (eN gTuple (aCons (eV 5) (aNil))) (aCons (eV 4) (aCons (eIf (testS (eN gIs (a2 (eV 3) (eC .none)))) (eC (.str "stuck")) (eC (.str "end"))) (aNil)))))))))
def ce1_law (c c2 : Nat → FS) : SE := eCall (c 30) (aCons (eV 1) (aCons (eLst (aCons (eC .none) (aCons (eC (.int 0)) (aCons (eC (.int 1)) (aCons (eCall (c 29) (aCons (eV 1) (aCons (eC (.int 16)) (aNil)))) (aCons (eC (.int 2)) (aCons (eC (.int 1)) (aNil)))))))) (aNil)))
def cm1_law (c c2 : Nat → FS) : SE := eComp (iR1 (eV 4)) (gN 19) [19] (tYesS) (ce1_law c c2)
def fb1_law (c c2 : Nat → FS) : SS := sIf (testS (eN gNe (a2 (eCall (c 27) (aCons (eV 3) (aCons (eV 6) (aCons (eV 5) (aNil))))) (eCall (c 45) (aCons (eV 3) (aCons (eV 6) (aCons (eV 5) (aNil)))))))) (sRet (eC (.bool false))) (sNil)
def fb2_law (c c2 : Nat → FS) : SS := sSeq (sAsg 3 (eCall (c 44) (aCons (eV 1) (aCons (eN gAdd (a2 (eC (.int 2)) (eCall (c 29) (aCons (eV 1) (aCons (eC (.int 6)) (aNil)))))) (aNil))))) (sSeq (sAsg 4 (eN gLen (aCons (eCall (c 36) (aCons (eV 3) (aNil))) (aNil)))) (sSeq (sAsg 5 (eN gTuple (aCons (cm1_law c c2) (aNil)))) (sFor (iR1 (eN gLen (aCons (eV 3) (aNil)))) (gN 6) (fb1_law c c2))))
def fb3_law (c c2 : Nat → FS) : SS := sSeq (sAsg 12 (eCall (c 27) (aCons (eTup (aCons (eTup (aCons (eTup (aCons (eC (.str "set")) (aCons (eC (.int 2)) (aCons (eTup (aCons (eV 10) (aCons (eTup (aCons (eC (.str "num")) (aCons (eV 7) (aNil)))) (aCons (eTup (aCons (eC (.str "num")) (aCons (eV 8) (aNil)))) (aNil))))) (aNil))))) (aNil))) (aNil))) (aCons (eC (.int 0)) (aCons (eTup (aNil)) (aNil)))))) (sIf (testS (eN gNe (a2 (eV 12) (eTup (aCons (eTup (aNil)) (aCons (eTup (aCons (eC (.int 0)) (aCons (eC (.int 0)) (aCons (eV 11) (aNil))))) (aCons (eC (.str "end")) (aNil)))))))) (sRet (eC (.bool false))) (sNil))
def ce2_law (c c2 : Nat → FS) : SE := eV 20
def ct1_law (c c2 : Nat → FS) : ST := testS (eN gNe (a2 (eCall (c 27) (aCons (eN gIx (a2 (eV 20) (eC (.int 0)))) (aCons (eC (.int 0)) (aCons (eN gIx (a2 (eV 20) (eC (.int 1)))) (aNil))))) (eN gIx (a2 (eV 20) (eC (.int 2))))))
def cm2_law (c c2 : Nat → FS) : SE := eComp (iS (eV 9)) (gN 20) [20] (ct1_law c c2) (ce2_law c c2)
def ce3_law (c c2 : Nat → FS) : SE := eLam (eCall (c2 27) (aCons (eV 21) (aCons (eC .none) (aCons (eC .none) (aNil))))) wl
def cm3_law (c c2 : Nat → FS) : SE := eComp (iS (eTup (aCons (eC .none) (aCons (eTup (aNil)) (aCons (eLst (aCons (eV 3) (aNil))) (aNil)))))) (gN 21) [21] (tYesS) (ce3_law c c2)
def ce4_law (c c2 : Nat → FS) : SE := eLam (eCall (c2 27) (aCons (eV 3) (aCons (eV 21) (aCons (eC .none) (aNil))))) wl
def cm4_law (c c2 : Nat → FS) : SE := eComp (iS (eTup (aCons (eC .none) (aCons (eC (.int 2)) (aCons (eN gNeg (a1 (eC (.int 1)))) (aCons (eC (.bool true)) (aNil))))))) (gN 21) [21] (tYesS) (ce4_law c c2)
def ce5_law (c c2 : Nat → FS) : SE := eLam (eCall (c2 27) (aCons (eV 3) (aCons (eC (.int 0)) (aCons (eV 21) (aNil))))) wl
def cm5_law (c c2 : Nat → FS) : SE := eComp (iS (eV 18)) (gN 21) [21] (tYesS) (ce5_law c c2)
def b_law (c c2 : Nat → FS) : FS := fDef 1 21 (sSeq (sAsg 1 (eCall (c 28) (aCons (eV 0) (aNil)))) (sSeq (sFor (iR1 (eC (.int 6))) (gN 2) (fb2_law c c2)) (sSeq (sPar [7, 8] (aCons (eCall (c 29) (aCons (eV 1) (aCons (eC (.int 16)) (aNil)))) (aCons (eCall (c 29) (aCons (eV 1) (aCons (eC (.int 16)) (aNil)))) (aNil)))) (sSeq (sAsg 9 (eLst (aCons (eTup (aCons (eC (.str "plus")) (aCons (eN gMod (a2 (eN gInt (aCons (eN gAdd (a2 (eV 7) (eV 8))) (aNil))) (eC (.int 16)))) (aNil)))) (aCons (eTup (aCons (eC (.str "minus")) (aCons (eN gMod (a2 (eN gInt (aCons (eN gSub (a2 (eV 7) (eV 8))) (aNil))) (eC (.int 16)))) (aNil)))) (aCons (eTup (aCons (eC (.str "times")) (aCons (eN gMod (a2 (eN gInt (aCons (eN gMul (a2 (eV 7) (eV 8))) (aNil))) (eC (.int 16)))) (aNil)))) (aNil)))))) (sSeq (sAsg 9 (eN gAdd (a2 (eV 9) (eLst (aCons (eTup (aCons (eC (.str "same")) (aCons (eN gInt (aCons (eN gEq (a2 (eV 7) (eV 8))) (aNil))) (aNil)))) (aCons (eTup (aCons (eC (.str "less")) (aCons (eN gInt (aCons (eN gLt (a2 (eV 7) (eV 8))) (aNil))) (aNil)))) (aCons (eTup (aCons (eC (.str "same")) (aCons (eN gInt (aCons (eN gEq (a2 (eV 7) (eV 8))) (aNil))) (aNil)))) (aNil)))))))) (sSeq (sFor (iS (eV 9)) (gT 2 (gsC (gN 10) (gsC (gN 11) (gsN)))) (fb3_law c c2)) (sSeq (sAsg 13 (eTup (aCons (eTup (aCons (eTup (aCons (eC (.str "need")) (aCons (eTup (aCons (eC (.str "num")) (aCons (eC (.int 0)) (aNil)))) (aNil)))) (aCons (eTup (aCons (eC (.str "write")) (aCons (eC (.int 0)) (aCons (eC (.str "plain")) (aCons (eTup (aCons (eC (.str "num")) (aCons (eC (.int 1)) (aNil)))) (aNil)))))) (aNil)))) (aNil)))) (sSeq (sAsg 14 (eTup (aCons (eC (.str "if")) (aCons (eTup (aCons (eC (.str "same")) (aCons (eTup (aCons (eC (.str "reg")) (aCons (eC (.int 0)) (aNil)))) (aCons (eTup (aCons (eC (.str "num")) (aCons (eC (.int 3)) (aNil)))) (aNil))))) (aCons (eTup (aCons (eTup (aCons (eC (.str "need")) (aCons (eTup (aCons (eC (.str "num")) (aCons (eC (.int 0)) (aNil)))) (aNil)))) (aNil))) (aCons (eTup (aCons (eTup (aCons (eC (.str "set")) (aCons (eC (.int 1)) (aCons (eTup (aCons (eC (.str "num")) (aCons (eC (.int 9)) (aNil)))) (aNil))))) (aNil))) (aNil))))))) (sSeq (sAsg 15 (eTup (aCons (eTup (aCons (eTup (aCons (eC (.str "try")) (aCons (eC (.int 0)) (aCons (eC (.int 0)) (aCons (eTup (aCons (eC (.str "num")) (aCons (eC (.int 3)) (aNil)))) (aCons (eTup (aCons (eC (.str "plus")) (aCons (eTup (aCons (eC (.str "reg")) (aCons (eC (.int 0)) (aNil)))) (aCons (eTup (aCons (eC (.str "num")) (aCons (eC (.int 5)) (aNil)))) (aNil))))) (aNil))))))) (aCons (eV 14) (aNil)))) (aNil)))) (sSeq (sAsg 9 (eLst (aCons (eTup (aCons (eV 13) (aCons (eTup (aCons (eC .none) (aNil))) (aCons (eTup (aCons (eTup (aNil)) (aCons (eTup (aCons (eC (.int 0)) (aCons (eC (.int 0)) (aCons (eC (.int 0)) (aNil))))) (aCons (eC (.str "stuck")) (aNil))))) (aNil))))) (aCons (eTup (aCons (eV 15) (aCons (eTup (aCons (eC (.int 3)) (aNil))) (aCons (eTup (aCons (eTup (aCons (eTup (aCons (eC (.int 0)) (aCons (eC (.int 3)) (aCons (eC (.int 5)) (aNil))))) (aNil))) (aCons (eTup (aCons (eC (.int 3)) (aCons (eC (.int 0)) (aCons (eC (.int 0)) (aNil))))) (aCons (eC (.str "stuck")) (aNil))))) (aNil))))) (aNil))))) (sSeq (sAsg 9 (eN gAdd (a2 (eV 9) (eLst (aCons (eTup (aCons (eV 15) (aCons (eTup (aCons (eC (.int 4)) (aNil))) (aCons (eTup (aCons (eTup (aCons (eTup (aCons (eC (.int 0)) (aCons (eC (.int 4)) (aCons (eC .none) (aNil))))) (aNil))) (aCons (eTup (aCons (eC (.int 4)) (aCons (eC (.int 9)) (aCons (eC (.int 0)) (aNil))))) (aCons (eC (.str "end")) (aNil))))) (aNil))))) (aCons (eTup (aCons (eV 15) (aCons (eTup (aCons (eC .none) (aNil))) (aCons (eTup (aCons (eTup (aNil)) (aCons (eTup (aCons (eC (.int 0)) (aCons (eC (.int 0)) (aCons (eC (.int 0)) (aNil))))) (aCons (eC (.str "wants")) (aNil))))) (aNil))))) (aNil))))))) (sSeq (sIf (testS (eN gNe (a2 (cm2_law c c2) (eLst (aNil))))) (sRet (eC (.bool false))) (sNil)) (sSeq (sAsg 16 (eTup (aCons (eTup (aNil)) (aCons (eTup (aNil)) (aCons (eTup (aNil)) (aCons (eTup (aCons (eTup (aCons (eC (.str "if")) (aCons (eTup (aCons (eC (.str "num")) (aCons (eC (.int 1)) (aNil)))) (aCons (eTup (aCons (eTup (aCons (eC (.str "if")) (aCons (eTup (aCons (eC (.str "num")) (aCons (eC (.int 1)) (aNil)))) (aCons (eTup (aCons (eTup (aCons (eC (.str "fence")) (aNil))) (aCons (eTup (aCons (eC (.str "read")) (aCons (eC (.int 2)) (aCons (eC (.int 3)) (aCons (eC (.str "plain")) (aNil)))))) (aCons (eTup (aCons (eC (.str "swap")) (aCons (eC (.int 2)) (aCons (eC (.int 2)) (aCons (eTup (aCons (eC (.str "plus")) (aCons (eTup (aCons (eC (.str "reg")) (aCons (eC (.int 2)) (aNil)))) (aCons (eTup (aCons (eC (.str "num")) (aCons (eC (.int 9)) (aNil)))) (aNil))))) (aNil)))))) (aNil))))) (aCons (eTup (aNil)) (aNil)))))) (aNil))) (aCons (eTup (aNil)) (aNil)))))) (aNil))) (aNil))))))) (sSeq (sIf (testS (eN gNe (a2 (eCall (c 27) (aCons (eV 16) (aCons (eC (.int 3)) (aCons (eTup (aCons (eC (.int 12)) (aCons (eC (.int 4)) (aNil)))) (aNil))))) (eTup (aCons (eTup (aCons (eTup (aCons (eC (.int 0)) (aCons (eC (.int 12)) (aCons (eC .none) (aNil))))) (aCons (eTup (aCons (eC (.int 1)) (aCons (eC (.int 4)) (aCons (eC (.int 5)) (aNil))))) (aNil)))) (aCons (eTup (aCons (eC (.int 0)) (aCons (eC (.int 0)) (aCons (eC (.int 4)) (aNil))))) (aCons (eC (.str "end")) (aNil)))))))) (sRet (eC (.bool false))) (sNil)) (sSeq (sAsg 3 (eTup (aCons (eTup (aCons (eTup (aCons (eC (.str "read")) (aCons (eC (.int 0)) (aCons (eC (.int 0)) (aCons (eC (.str "plain")) (aNil)))))) (aNil))) (aCons (eTup (aCons (eTup (aCons (eC (.str "write")) (aCons (eC (.int 0)) (aCons (eC (.str "plain")) (aCons (eTup (aCons (eC (.str "num")) (aCons (eC (.int 1)) (aNil)))) (aNil)))))) (aNil))) (aNil))))) (sSeq (sAsg 17 (cm3_law c c2)) (sSeq (sAsg 17 (eN gAdd (a2 (eV 17) (cm4_law c c2)))) (sSeq (sAsg 18 (eLst (aCons (eC .none) (aCons (eTup (aNil)) (aCons (eTup (aCons (eC (.int 1)) (aNil))) (aCons (eTup (aCons (eC (.int 1)) (aCons (eC (.int 2)) (aCons (eC (.int 3)) (aNil))))) (aCons (eTup (aCons (eC (.int 16)) (aCons (eC (.int 0)) (aNil)))) (aCons (eTup (aCons (eN gNeg (a1 (eC (.int 1)))) (aCons (eC (.int 0)) (aNil)))) (aCons (eTup (aCons (eC (.bool true)) (aCons (eC (.int 0)) (aNil)))) (aCons (eLst (aCons (eC (.int 1)) (aCons (eC (.int 2)) (aNil)))) (aCons (eTup (aCons (eC (.str "1")) (aCons (eC (.int 0)) (aNil)))) (aCons (eTup (aCons (eC (.int 1)) (aCons (eC (.int 16)) (aNil)))) (aCons (eTup (aCons (eC (.int 1)) (aCons (eC (.bool false)) (aNil)))) (aCons (eTup (aCons (eC .none) (aCons (eC (.str "x")) (aNil)))) (aNil))))))))))))))) (sSeq (sAsg 17 (eN gAdd (a2 (eV 17) (cm5_law c c2)))) (sSeq (sIf (testS (eN gNe (a2 (eV 17) (eN gAdd (a2 (eN gAdd (a2 (eMulL (a2 (eLst (aCons (eC (.str "program")) (aNil))) (eC (.int 3)))) (eMulL (a2 (eLst (aCons (eC (.str "number")) (aNil))) (eC (.int 4)))))) (eMulL (a2 (eLst (aCons (eC (.str "values")) (aNil))) (eC (.int 12))))))))) (sRet (eC (.bool false))) (sNil)) (sRet (eN gEq (a2 (eCall (c 27) (aCons (eV 3) (aCons (eC (.int 1)) (aCons (eTup (aCons (eC .none) (aCons (eC .none) (aNil)))) (aNil))))) (eTup (aCons (eTup (aCons (eTup (aCons (eC (.int 1)) (aCons (eC .none) (aCons (eC (.int 1)) (aNil))))) (aNil))) (aCons (eTup (aCons (eC (.int 0)) (aCons (eC (.int 0)) (aCons (eC (.int 0)) (aNil))))) (aCons (eC (.str "end")) (aNil))))))))))))))))))))))))))))
def bodies (c : Nat → FS) : Nat → FS
  | 0 => b_is_whole c
  | 1 => b_is_tuple_of c
  | 2 => b_is_word_of c
  | 3 => b_fits_expression c
  | 4 => b_is_register c
  | 5 => b_is_cell c
  | 6 => b_fits_access c
  | 7 => b_is_access c
  | 8 => b_fits_inner c
  | 9 => b_blocks_of c
  | 10 => b_all_statements c
  | 11 => b_fits_block c
  | 12 => b_fits_program c
  | 13 => b_numbered_block c
  | 14 => b_numbered_threads c
  | 15 => b_accesses_in c
  | 16 => b_can_read c
  | 17 => b_need_program c
  | 18 => b_need_number c
  | 19 => b_worth_by c
  | 20 => b_with_register c
  | 21 => b_settled c
  | 22 => b_begun c
  | 23 => b_written_by c
  | 24 => b_behind c
  | 25 => b_done_alone c
  | 26 => b_fits_values c
  | 27 => b_thread_alone c
  | 28 => b__law_cup c
  | 29 => b__law_roll c
  | 30 => b__law_some c
  | 31 => b__law_worth c
  | 32 => b__law_is_access c
  | 33 => b__law_numbered c
  | 34 => b__law_threads c
  | 35 => b__law_accesses c
  | 36 => b__law_all c
  | 37 => b__law_settled c
  | 38 => b__law_written c
  | 39 => b__law_behind c
  | 40 => b__law_begun c
  | 41 => b__law_expression c
  | 42 => b__law_access c
  | 43 => b__law_thread c
  | 44 => b__law_program c
  | 45 => b__law_due c
  | 46 => b_law c c
  | _ => fun _ => .bad
def S : Nat → Nat → FS
  | 0, _ => fun _ => .bad
  | n + 1, i => bodies (S n) i
end Lw
end
section
set_option Elab.async false
set_option linter.all false
set_option maxRecDepth 100000
set_option maxHeartbeats 0
namespace Lw
open PySem PySem.Spec PyProof.Rows L2 FE

@[simp] theorem Sx_is_whole (n : Nat) : S (n + 1) 0 = b_is_whole (S n) := rfl
@[simp] theorem Sx_is_tuple_of (n : Nat) : S (n + 1) 1 = b_is_tuple_of (S n) := rfl
@[simp] theorem Sx_is_word_of (n : Nat) : S (n + 1) 2 = b_is_word_of (S n) := rfl
@[simp] theorem Sx_fits_expression (n : Nat) : S (n + 1) 3 = b_fits_expression (S n) := rfl
@[simp] theorem Sx_is_register (n : Nat) : S (n + 1) 4 = b_is_register (S n) := rfl
@[simp] theorem Sx_is_cell (n : Nat) : S (n + 1) 5 = b_is_cell (S n) := rfl
@[simp] theorem Sx_fits_access (n : Nat) : S (n + 1) 6 = b_fits_access (S n) := rfl
@[simp] theorem Sx_is_access (n : Nat) : S (n + 1) 7 = b_is_access (S n) := rfl
@[simp] theorem Sx_fits_inner (n : Nat) : S (n + 1) 8 = b_fits_inner (S n) := rfl
@[simp] theorem Sx_blocks_of (n : Nat) : S (n + 1) 9 = b_blocks_of (S n) := rfl
@[simp] theorem Sx_all_statements (n : Nat) : S (n + 1) 10 = b_all_statements (S n) := rfl
@[simp] theorem Sx_fits_block (n : Nat) : S (n + 1) 11 = b_fits_block (S n) := rfl
@[simp] theorem Sx_fits_program (n : Nat) : S (n + 1) 12 = b_fits_program (S n) := rfl
@[simp] theorem Sx_numbered_block (n : Nat) : S (n + 1) 13 = b_numbered_block (S n) := rfl
@[simp] theorem Sx_numbered_threads (n : Nat) : S (n + 1) 14 = b_numbered_threads (S n) := rfl
@[simp] theorem Sx_accesses_in (n : Nat) : S (n + 1) 15 = b_accesses_in (S n) := rfl
@[simp] theorem Sx_can_read (n : Nat) : S (n + 1) 16 = b_can_read (S n) := rfl
@[simp] theorem Sx_need_program (n : Nat) : S (n + 1) 17 = b_need_program (S n) := rfl
@[simp] theorem Sx_need_number (n : Nat) : S (n + 1) 18 = b_need_number (S n) := rfl
@[simp] theorem Sx_worth_by (n : Nat) : S (n + 1) 19 = b_worth_by (S n) := rfl
@[simp] theorem Sx_with_register (n : Nat) : S (n + 1) 20 = b_with_register (S n) := rfl
@[simp] theorem Sx_settled (n : Nat) : S (n + 1) 21 = b_settled (S n) := rfl
@[simp] theorem Sx_begun (n : Nat) : S (n + 1) 22 = b_begun (S n) := rfl
@[simp] theorem Sx_written_by (n : Nat) : S (n + 1) 23 = b_written_by (S n) := rfl
@[simp] theorem Sx_behind (n : Nat) : S (n + 1) 24 = b_behind (S n) := rfl
@[simp] theorem Sx_done_alone (n : Nat) : S (n + 1) 25 = b_done_alone (S n) := rfl
@[simp] theorem Sx_fits_values (n : Nat) : S (n + 1) 26 = b_fits_values (S n) := rfl
@[simp] theorem Sx_thread_alone (n : Nat) : S (n + 1) 27 = b_thread_alone (S n) := rfl
@[simp] theorem Sx__law_cup (n : Nat) : S (n + 1) 28 = b__law_cup (S n) := rfl
@[simp] theorem Sx__law_roll (n : Nat) : S (n + 1) 29 = b__law_roll (S n) := rfl
@[simp] theorem Sx__law_some (n : Nat) : S (n + 1) 30 = b__law_some (S n) := rfl
@[simp] theorem Sx__law_worth (n : Nat) : S (n + 1) 31 = b__law_worth (S n) := rfl
@[simp] theorem Sx__law_is_access (n : Nat) : S (n + 1) 32 = b__law_is_access (S n) := rfl
@[simp] theorem Sx__law_numbered (n : Nat) : S (n + 1) 33 = b__law_numbered (S n) := rfl
@[simp] theorem Sx__law_threads (n : Nat) : S (n + 1) 34 = b__law_threads (S n) := rfl
@[simp] theorem Sx__law_accesses (n : Nat) : S (n + 1) 35 = b__law_accesses (S n) := rfl
@[simp] theorem Sx__law_all (n : Nat) : S (n + 1) 36 = b__law_all (S n) := rfl
@[simp] theorem Sx__law_settled (n : Nat) : S (n + 1) 37 = b__law_settled (S n) := rfl
@[simp] theorem Sx__law_written (n : Nat) : S (n + 1) 38 = b__law_written (S n) := rfl
@[simp] theorem Sx__law_behind (n : Nat) : S (n + 1) 39 = b__law_behind (S n) := rfl
@[simp] theorem Sx__law_begun (n : Nat) : S (n + 1) 40 = b__law_begun (S n) := rfl
@[simp] theorem Sx__law_expression (n : Nat) : S (n + 1) 41 = b__law_expression (S n) := rfl
@[simp] theorem Sx__law_access (n : Nat) : S (n + 1) 42 = b__law_access (S n) := rfl
@[simp] theorem Sx__law_thread (n : Nat) : S (n + 1) 43 = b__law_thread (S n) := rfl
@[simp] theorem Sx__law_program (n : Nat) : S (n + 1) 44 = b__law_program (S n) := rfl
@[simp] theorem Sx__law_due (n : Nat) : S (n + 1) 45 = b__law_due (S n) := rfl
@[simp] theorem Sx_law (n : Nat) : S (n + 1) 46 = b_law (S n) (S n) := rfl
/-! the words -/
@[simp] theorem so_0 : PySem.PyData.strOk ("1" : Str) = true := by decide +kernel
@[simp] theorem so_1 : PySem.PyData.strOk ("acquire" : Str) = true := by decide +kernel
@[simp] theorem so_2 : PySem.PyData.strOk ("add" : Str) = true := by decide +kernel
@[simp] theorem so_3 : PySem.PyData.strOk ("end" : Str) = true := by decide +kernel
@[simp] theorem so_4 : PySem.PyData.strOk ("fence" : Str) = true := by decide +kernel
@[simp] theorem so_5 : PySem.PyData.strOk ("if" : Str) = true := by decide +kernel
@[simp] theorem so_6 : PySem.PyData.strOk ("less" : Str) = true := by decide +kernel
@[simp] theorem so_7 : PySem.PyData.strOk ("minus" : Str) = true := by decide +kernel
@[simp] theorem so_8 : PySem.PyData.strOk ("need" : Str) = true := by decide +kernel
@[simp] theorem so_9 : PySem.PyData.strOk ("not a program" : Str) = true := by decide +kernel
@[simp] theorem so_10 : PySem.PyData.strOk ("num" : Str) = true := by decide +kernel
@[simp] theorem so_11 : PySem.PyData.strOk ("number" : Str) = true := by decide +kernel
@[simp] theorem so_12 : PySem.PyData.strOk ("plain" : Str) = true := by decide +kernel
@[simp] theorem so_13 : PySem.PyData.strOk ("plus" : Str) = true := by decide +kernel
@[simp] theorem so_14 : PySem.PyData.strOk ("program" : Str) = true := by decide +kernel
@[simp] theorem so_15 : PySem.PyData.strOk ("read" : Str) = true := by decide +kernel
@[simp] theorem so_16 : PySem.PyData.strOk ("reg" : Str) = true := by decide +kernel
@[simp] theorem so_17 : PySem.PyData.strOk ("release" : Str) = true := by decide +kernel
@[simp] theorem so_18 : PySem.PyData.strOk ("same" : Str) = true := by decide +kernel
@[simp] theorem so_19 : PySem.PyData.strOk ("set" : Str) = true := by decide +kernel
@[simp] theorem so_20 : PySem.PyData.strOk ("strong" : Str) = true := by decide +kernel
@[simp] theorem so_21 : PySem.PyData.strOk ("stuck" : Str) = true := by decide +kernel
@[simp] theorem so_22 : PySem.PyData.strOk ("swap" : Str) = true := by decide +kernel
@[simp] theorem so_23 : PySem.PyData.strOk ("times" : Str) = true := by decide +kernel
@[simp] theorem so_24 : PySem.PyData.strOk ("try" : Str) = true := by decide +kernel
@[simp] theorem so_25 : PySem.PyData.strOk ("values" : Str) = true := by decide +kernel
@[simp] theorem so_26 : PySem.PyData.strOk ("wants" : Str) = true := by decide +kernel
@[simp] theorem so_27 : PySem.PyData.strOk ("write" : Str) = true := by decide +kernel
@[simp] theorem so_28 : PySem.PyData.strOk ("x" : Str) = true := by decide +kernel
@[simp] theorem sq_0_0 : (("1" : Str) == "1") = true := by decide +kernel
@[simp] theorem sq_0_1 : (("1" : Str) == "acquire") = false := by decide +kernel
@[simp] theorem sq_0_2 : (("1" : Str) == "add") = false := by decide +kernel
@[simp] theorem sq_0_3 : (("1" : Str) == "end") = false := by decide +kernel
@[simp] theorem sq_0_4 : (("1" : Str) == "fence") = false := by decide +kernel
@[simp] theorem sq_0_5 : (("1" : Str) == "if") = false := by decide +kernel
@[simp] theorem sq_0_6 : (("1" : Str) == "less") = false := by decide +kernel
@[simp] theorem sq_0_7 : (("1" : Str) == "minus") = false := by decide +kernel
@[simp] theorem sq_0_8 : (("1" : Str) == "need") = false := by decide +kernel
@[simp] theorem sq_0_9 : (("1" : Str) == "not a program") = false := by decide +kernel
@[simp] theorem sq_0_10 : (("1" : Str) == "num") = false := by decide +kernel
@[simp] theorem sq_0_11 : (("1" : Str) == "number") = false := by decide +kernel
@[simp] theorem sq_0_12 : (("1" : Str) == "plain") = false := by decide +kernel
@[simp] theorem sq_0_13 : (("1" : Str) == "plus") = false := by decide +kernel
@[simp] theorem sq_0_14 : (("1" : Str) == "program") = false := by decide +kernel
@[simp] theorem sq_0_15 : (("1" : Str) == "read") = false := by decide +kernel
@[simp] theorem sq_0_16 : (("1" : Str) == "reg") = false := by decide +kernel
@[simp] theorem sq_0_17 : (("1" : Str) == "release") = false := by decide +kernel
@[simp] theorem sq_0_18 : (("1" : Str) == "same") = false := by decide +kernel
@[simp] theorem sq_0_19 : (("1" : Str) == "set") = false := by decide +kernel
@[simp] theorem sq_0_20 : (("1" : Str) == "strong") = false := by decide +kernel
@[simp] theorem sq_0_21 : (("1" : Str) == "stuck") = false := by decide +kernel
@[simp] theorem sq_0_22 : (("1" : Str) == "swap") = false := by decide +kernel
@[simp] theorem sq_0_23 : (("1" : Str) == "times") = false := by decide +kernel
@[simp] theorem sq_0_24 : (("1" : Str) == "try") = false := by decide +kernel
@[simp] theorem sq_0_25 : (("1" : Str) == "values") = false := by decide +kernel
@[simp] theorem sq_0_26 : (("1" : Str) == "wants") = false := by decide +kernel
@[simp] theorem sq_0_27 : (("1" : Str) == "write") = false := by decide +kernel
@[simp] theorem sq_0_28 : (("1" : Str) == "x") = false := by decide +kernel
@[simp] theorem sq_1_0 : (("acquire" : Str) == "1") = false := by decide +kernel
@[simp] theorem sq_1_1 : (("acquire" : Str) == "acquire") = true := by decide +kernel
@[simp] theorem sq_1_2 : (("acquire" : Str) == "add") = false := by decide +kernel
@[simp] theorem sq_1_3 : (("acquire" : Str) == "end") = false := by decide +kernel
@[simp] theorem sq_1_4 : (("acquire" : Str) == "fence") = false := by decide +kernel
@[simp] theorem sq_1_5 : (("acquire" : Str) == "if") = false := by decide +kernel
@[simp] theorem sq_1_6 : (("acquire" : Str) == "less") = false := by decide +kernel
@[simp] theorem sq_1_7 : (("acquire" : Str) == "minus") = false := by decide +kernel
@[simp] theorem sq_1_8 : (("acquire" : Str) == "need") = false := by decide +kernel
@[simp] theorem sq_1_9 : (("acquire" : Str) == "not a program") = false := by decide +kernel
@[simp] theorem sq_1_10 : (("acquire" : Str) == "num") = false := by decide +kernel
@[simp] theorem sq_1_11 : (("acquire" : Str) == "number") = false := by decide +kernel
@[simp] theorem sq_1_12 : (("acquire" : Str) == "plain") = false := by decide +kernel
@[simp] theorem sq_1_13 : (("acquire" : Str) == "plus") = false := by decide +kernel
@[simp] theorem sq_1_14 : (("acquire" : Str) == "program") = false := by decide +kernel
@[simp] theorem sq_1_15 : (("acquire" : Str) == "read") = false := by decide +kernel
@[simp] theorem sq_1_16 : (("acquire" : Str) == "reg") = false := by decide +kernel
@[simp] theorem sq_1_17 : (("acquire" : Str) == "release") = false := by decide +kernel
@[simp] theorem sq_1_18 : (("acquire" : Str) == "same") = false := by decide +kernel
@[simp] theorem sq_1_19 : (("acquire" : Str) == "set") = false := by decide +kernel
@[simp] theorem sq_1_20 : (("acquire" : Str) == "strong") = false := by decide +kernel
@[simp] theorem sq_1_21 : (("acquire" : Str) == "stuck") = false := by decide +kernel
@[simp] theorem sq_1_22 : (("acquire" : Str) == "swap") = false := by decide +kernel
@[simp] theorem sq_1_23 : (("acquire" : Str) == "times") = false := by decide +kernel
@[simp] theorem sq_1_24 : (("acquire" : Str) == "try") = false := by decide +kernel
@[simp] theorem sq_1_25 : (("acquire" : Str) == "values") = false := by decide +kernel
@[simp] theorem sq_1_26 : (("acquire" : Str) == "wants") = false := by decide +kernel
@[simp] theorem sq_1_27 : (("acquire" : Str) == "write") = false := by decide +kernel
@[simp] theorem sq_1_28 : (("acquire" : Str) == "x") = false := by decide +kernel
@[simp] theorem sq_2_0 : (("add" : Str) == "1") = false := by decide +kernel
@[simp] theorem sq_2_1 : (("add" : Str) == "acquire") = false := by decide +kernel
@[simp] theorem sq_2_2 : (("add" : Str) == "add") = true := by decide +kernel
@[simp] theorem sq_2_3 : (("add" : Str) == "end") = false := by decide +kernel
@[simp] theorem sq_2_4 : (("add" : Str) == "fence") = false := by decide +kernel
@[simp] theorem sq_2_5 : (("add" : Str) == "if") = false := by decide +kernel
@[simp] theorem sq_2_6 : (("add" : Str) == "less") = false := by decide +kernel
@[simp] theorem sq_2_7 : (("add" : Str) == "minus") = false := by decide +kernel
@[simp] theorem sq_2_8 : (("add" : Str) == "need") = false := by decide +kernel
@[simp] theorem sq_2_9 : (("add" : Str) == "not a program") = false := by decide +kernel
@[simp] theorem sq_2_10 : (("add" : Str) == "num") = false := by decide +kernel
@[simp] theorem sq_2_11 : (("add" : Str) == "number") = false := by decide +kernel
@[simp] theorem sq_2_12 : (("add" : Str) == "plain") = false := by decide +kernel
@[simp] theorem sq_2_13 : (("add" : Str) == "plus") = false := by decide +kernel
@[simp] theorem sq_2_14 : (("add" : Str) == "program") = false := by decide +kernel
@[simp] theorem sq_2_15 : (("add" : Str) == "read") = false := by decide +kernel
@[simp] theorem sq_2_16 : (("add" : Str) == "reg") = false := by decide +kernel
@[simp] theorem sq_2_17 : (("add" : Str) == "release") = false := by decide +kernel
@[simp] theorem sq_2_18 : (("add" : Str) == "same") = false := by decide +kernel
@[simp] theorem sq_2_19 : (("add" : Str) == "set") = false := by decide +kernel
@[simp] theorem sq_2_20 : (("add" : Str) == "strong") = false := by decide +kernel
@[simp] theorem sq_2_21 : (("add" : Str) == "stuck") = false := by decide +kernel
@[simp] theorem sq_2_22 : (("add" : Str) == "swap") = false := by decide +kernel
@[simp] theorem sq_2_23 : (("add" : Str) == "times") = false := by decide +kernel
@[simp] theorem sq_2_24 : (("add" : Str) == "try") = false := by decide +kernel
@[simp] theorem sq_2_25 : (("add" : Str) == "values") = false := by decide +kernel
@[simp] theorem sq_2_26 : (("add" : Str) == "wants") = false := by decide +kernel
@[simp] theorem sq_2_27 : (("add" : Str) == "write") = false := by decide +kernel
@[simp] theorem sq_2_28 : (("add" : Str) == "x") = false := by decide +kernel
@[simp] theorem sq_3_0 : (("end" : Str) == "1") = false := by decide +kernel
@[simp] theorem sq_3_1 : (("end" : Str) == "acquire") = false := by decide +kernel
@[simp] theorem sq_3_2 : (("end" : Str) == "add") = false := by decide +kernel
@[simp] theorem sq_3_3 : (("end" : Str) == "end") = true := by decide +kernel
@[simp] theorem sq_3_4 : (("end" : Str) == "fence") = false := by decide +kernel
@[simp] theorem sq_3_5 : (("end" : Str) == "if") = false := by decide +kernel
@[simp] theorem sq_3_6 : (("end" : Str) == "less") = false := by decide +kernel
@[simp] theorem sq_3_7 : (("end" : Str) == "minus") = false := by decide +kernel
@[simp] theorem sq_3_8 : (("end" : Str) == "need") = false := by decide +kernel
@[simp] theorem sq_3_9 : (("end" : Str) == "not a program") = false := by decide +kernel
@[simp] theorem sq_3_10 : (("end" : Str) == "num") = false := by decide +kernel
@[simp] theorem sq_3_11 : (("end" : Str) == "number") = false := by decide +kernel
@[simp] theorem sq_3_12 : (("end" : Str) == "plain") = false := by decide +kernel
@[simp] theorem sq_3_13 : (("end" : Str) == "plus") = false := by decide +kernel
@[simp] theorem sq_3_14 : (("end" : Str) == "program") = false := by decide +kernel
@[simp] theorem sq_3_15 : (("end" : Str) == "read") = false := by decide +kernel
@[simp] theorem sq_3_16 : (("end" : Str) == "reg") = false := by decide +kernel
@[simp] theorem sq_3_17 : (("end" : Str) == "release") = false := by decide +kernel
@[simp] theorem sq_3_18 : (("end" : Str) == "same") = false := by decide +kernel
@[simp] theorem sq_3_19 : (("end" : Str) == "set") = false := by decide +kernel
@[simp] theorem sq_3_20 : (("end" : Str) == "strong") = false := by decide +kernel
@[simp] theorem sq_3_21 : (("end" : Str) == "stuck") = false := by decide +kernel
@[simp] theorem sq_3_22 : (("end" : Str) == "swap") = false := by decide +kernel
@[simp] theorem sq_3_23 : (("end" : Str) == "times") = false := by decide +kernel
@[simp] theorem sq_3_24 : (("end" : Str) == "try") = false := by decide +kernel
@[simp] theorem sq_3_25 : (("end" : Str) == "values") = false := by decide +kernel
@[simp] theorem sq_3_26 : (("end" : Str) == "wants") = false := by decide +kernel
@[simp] theorem sq_3_27 : (("end" : Str) == "write") = false := by decide +kernel
@[simp] theorem sq_3_28 : (("end" : Str) == "x") = false := by decide +kernel
@[simp] theorem sq_4_0 : (("fence" : Str) == "1") = false := by decide +kernel
@[simp] theorem sq_4_1 : (("fence" : Str) == "acquire") = false := by decide +kernel
@[simp] theorem sq_4_2 : (("fence" : Str) == "add") = false := by decide +kernel
@[simp] theorem sq_4_3 : (("fence" : Str) == "end") = false := by decide +kernel
@[simp] theorem sq_4_4 : (("fence" : Str) == "fence") = true := by decide +kernel
@[simp] theorem sq_4_5 : (("fence" : Str) == "if") = false := by decide +kernel
@[simp] theorem sq_4_6 : (("fence" : Str) == "less") = false := by decide +kernel
@[simp] theorem sq_4_7 : (("fence" : Str) == "minus") = false := by decide +kernel
@[simp] theorem sq_4_8 : (("fence" : Str) == "need") = false := by decide +kernel
@[simp] theorem sq_4_9 : (("fence" : Str) == "not a program") = false := by decide +kernel
@[simp] theorem sq_4_10 : (("fence" : Str) == "num") = false := by decide +kernel
@[simp] theorem sq_4_11 : (("fence" : Str) == "number") = false := by decide +kernel
@[simp] theorem sq_4_12 : (("fence" : Str) == "plain") = false := by decide +kernel
@[simp] theorem sq_4_13 : (("fence" : Str) == "plus") = false := by decide +kernel
@[simp] theorem sq_4_14 : (("fence" : Str) == "program") = false := by decide +kernel
@[simp] theorem sq_4_15 : (("fence" : Str) == "read") = false := by decide +kernel
@[simp] theorem sq_4_16 : (("fence" : Str) == "reg") = false := by decide +kernel
@[simp] theorem sq_4_17 : (("fence" : Str) == "release") = false := by decide +kernel
@[simp] theorem sq_4_18 : (("fence" : Str) == "same") = false := by decide +kernel
@[simp] theorem sq_4_19 : (("fence" : Str) == "set") = false := by decide +kernel
@[simp] theorem sq_4_20 : (("fence" : Str) == "strong") = false := by decide +kernel
@[simp] theorem sq_4_21 : (("fence" : Str) == "stuck") = false := by decide +kernel
@[simp] theorem sq_4_22 : (("fence" : Str) == "swap") = false := by decide +kernel
@[simp] theorem sq_4_23 : (("fence" : Str) == "times") = false := by decide +kernel
@[simp] theorem sq_4_24 : (("fence" : Str) == "try") = false := by decide +kernel
@[simp] theorem sq_4_25 : (("fence" : Str) == "values") = false := by decide +kernel
@[simp] theorem sq_4_26 : (("fence" : Str) == "wants") = false := by decide +kernel
@[simp] theorem sq_4_27 : (("fence" : Str) == "write") = false := by decide +kernel
@[simp] theorem sq_4_28 : (("fence" : Str) == "x") = false := by decide +kernel
@[simp] theorem sq_5_0 : (("if" : Str) == "1") = false := by decide +kernel
@[simp] theorem sq_5_1 : (("if" : Str) == "acquire") = false := by decide +kernel
@[simp] theorem sq_5_2 : (("if" : Str) == "add") = false := by decide +kernel
@[simp] theorem sq_5_3 : (("if" : Str) == "end") = false := by decide +kernel
@[simp] theorem sq_5_4 : (("if" : Str) == "fence") = false := by decide +kernel
@[simp] theorem sq_5_5 : (("if" : Str) == "if") = true := by decide +kernel
@[simp] theorem sq_5_6 : (("if" : Str) == "less") = false := by decide +kernel
@[simp] theorem sq_5_7 : (("if" : Str) == "minus") = false := by decide +kernel
@[simp] theorem sq_5_8 : (("if" : Str) == "need") = false := by decide +kernel
@[simp] theorem sq_5_9 : (("if" : Str) == "not a program") = false := by decide +kernel
@[simp] theorem sq_5_10 : (("if" : Str) == "num") = false := by decide +kernel
@[simp] theorem sq_5_11 : (("if" : Str) == "number") = false := by decide +kernel
@[simp] theorem sq_5_12 : (("if" : Str) == "plain") = false := by decide +kernel
@[simp] theorem sq_5_13 : (("if" : Str) == "plus") = false := by decide +kernel
@[simp] theorem sq_5_14 : (("if" : Str) == "program") = false := by decide +kernel
@[simp] theorem sq_5_15 : (("if" : Str) == "read") = false := by decide +kernel
@[simp] theorem sq_5_16 : (("if" : Str) == "reg") = false := by decide +kernel
@[simp] theorem sq_5_17 : (("if" : Str) == "release") = false := by decide +kernel
@[simp] theorem sq_5_18 : (("if" : Str) == "same") = false := by decide +kernel
@[simp] theorem sq_5_19 : (("if" : Str) == "set") = false := by decide +kernel
@[simp] theorem sq_5_20 : (("if" : Str) == "strong") = false := by decide +kernel
@[simp] theorem sq_5_21 : (("if" : Str) == "stuck") = false := by decide +kernel
@[simp] theorem sq_5_22 : (("if" : Str) == "swap") = false := by decide +kernel
@[simp] theorem sq_5_23 : (("if" : Str) == "times") = false := by decide +kernel
@[simp] theorem sq_5_24 : (("if" : Str) == "try") = false := by decide +kernel
@[simp] theorem sq_5_25 : (("if" : Str) == "values") = false := by decide +kernel
@[simp] theorem sq_5_26 : (("if" : Str) == "wants") = false := by decide +kernel
@[simp] theorem sq_5_27 : (("if" : Str) == "write") = false := by decide +kernel
@[simp] theorem sq_5_28 : (("if" : Str) == "x") = false := by decide +kernel
@[simp] theorem sq_6_0 : (("less" : Str) == "1") = false := by decide +kernel
@[simp] theorem sq_6_1 : (("less" : Str) == "acquire") = false := by decide +kernel
@[simp] theorem sq_6_2 : (("less" : Str) == "add") = false := by decide +kernel
@[simp] theorem sq_6_3 : (("less" : Str) == "end") = false := by decide +kernel
@[simp] theorem sq_6_4 : (("less" : Str) == "fence") = false := by decide +kernel
@[simp] theorem sq_6_5 : (("less" : Str) == "if") = false := by decide +kernel
@[simp] theorem sq_6_6 : (("less" : Str) == "less") = true := by decide +kernel
@[simp] theorem sq_6_7 : (("less" : Str) == "minus") = false := by decide +kernel
@[simp] theorem sq_6_8 : (("less" : Str) == "need") = false := by decide +kernel
@[simp] theorem sq_6_9 : (("less" : Str) == "not a program") = false := by decide +kernel
@[simp] theorem sq_6_10 : (("less" : Str) == "num") = false := by decide +kernel
@[simp] theorem sq_6_11 : (("less" : Str) == "number") = false := by decide +kernel
@[simp] theorem sq_6_12 : (("less" : Str) == "plain") = false := by decide +kernel
@[simp] theorem sq_6_13 : (("less" : Str) == "plus") = false := by decide +kernel
@[simp] theorem sq_6_14 : (("less" : Str) == "program") = false := by decide +kernel
@[simp] theorem sq_6_15 : (("less" : Str) == "read") = false := by decide +kernel
@[simp] theorem sq_6_16 : (("less" : Str) == "reg") = false := by decide +kernel
@[simp] theorem sq_6_17 : (("less" : Str) == "release") = false := by decide +kernel
@[simp] theorem sq_6_18 : (("less" : Str) == "same") = false := by decide +kernel
@[simp] theorem sq_6_19 : (("less" : Str) == "set") = false := by decide +kernel
@[simp] theorem sq_6_20 : (("less" : Str) == "strong") = false := by decide +kernel
@[simp] theorem sq_6_21 : (("less" : Str) == "stuck") = false := by decide +kernel
@[simp] theorem sq_6_22 : (("less" : Str) == "swap") = false := by decide +kernel
@[simp] theorem sq_6_23 : (("less" : Str) == "times") = false := by decide +kernel
@[simp] theorem sq_6_24 : (("less" : Str) == "try") = false := by decide +kernel
@[simp] theorem sq_6_25 : (("less" : Str) == "values") = false := by decide +kernel
@[simp] theorem sq_6_26 : (("less" : Str) == "wants") = false := by decide +kernel
@[simp] theorem sq_6_27 : (("less" : Str) == "write") = false := by decide +kernel
@[simp] theorem sq_6_28 : (("less" : Str) == "x") = false := by decide +kernel
@[simp] theorem sq_7_0 : (("minus" : Str) == "1") = false := by decide +kernel
@[simp] theorem sq_7_1 : (("minus" : Str) == "acquire") = false := by decide +kernel
@[simp] theorem sq_7_2 : (("minus" : Str) == "add") = false := by decide +kernel
@[simp] theorem sq_7_3 : (("minus" : Str) == "end") = false := by decide +kernel
@[simp] theorem sq_7_4 : (("minus" : Str) == "fence") = false := by decide +kernel
@[simp] theorem sq_7_5 : (("minus" : Str) == "if") = false := by decide +kernel
@[simp] theorem sq_7_6 : (("minus" : Str) == "less") = false := by decide +kernel
@[simp] theorem sq_7_7 : (("minus" : Str) == "minus") = true := by decide +kernel
@[simp] theorem sq_7_8 : (("minus" : Str) == "need") = false := by decide +kernel
@[simp] theorem sq_7_9 : (("minus" : Str) == "not a program") = false := by decide +kernel
@[simp] theorem sq_7_10 : (("minus" : Str) == "num") = false := by decide +kernel
@[simp] theorem sq_7_11 : (("minus" : Str) == "number") = false := by decide +kernel
@[simp] theorem sq_7_12 : (("minus" : Str) == "plain") = false := by decide +kernel
@[simp] theorem sq_7_13 : (("minus" : Str) == "plus") = false := by decide +kernel
@[simp] theorem sq_7_14 : (("minus" : Str) == "program") = false := by decide +kernel
@[simp] theorem sq_7_15 : (("minus" : Str) == "read") = false := by decide +kernel
@[simp] theorem sq_7_16 : (("minus" : Str) == "reg") = false := by decide +kernel
@[simp] theorem sq_7_17 : (("minus" : Str) == "release") = false := by decide +kernel
@[simp] theorem sq_7_18 : (("minus" : Str) == "same") = false := by decide +kernel
@[simp] theorem sq_7_19 : (("minus" : Str) == "set") = false := by decide +kernel
@[simp] theorem sq_7_20 : (("minus" : Str) == "strong") = false := by decide +kernel
@[simp] theorem sq_7_21 : (("minus" : Str) == "stuck") = false := by decide +kernel
@[simp] theorem sq_7_22 : (("minus" : Str) == "swap") = false := by decide +kernel
@[simp] theorem sq_7_23 : (("minus" : Str) == "times") = false := by decide +kernel
@[simp] theorem sq_7_24 : (("minus" : Str) == "try") = false := by decide +kernel
@[simp] theorem sq_7_25 : (("minus" : Str) == "values") = false := by decide +kernel
@[simp] theorem sq_7_26 : (("minus" : Str) == "wants") = false := by decide +kernel
@[simp] theorem sq_7_27 : (("minus" : Str) == "write") = false := by decide +kernel
@[simp] theorem sq_7_28 : (("minus" : Str) == "x") = false := by decide +kernel
@[simp] theorem sq_8_0 : (("need" : Str) == "1") = false := by decide +kernel
@[simp] theorem sq_8_1 : (("need" : Str) == "acquire") = false := by decide +kernel
@[simp] theorem sq_8_2 : (("need" : Str) == "add") = false := by decide +kernel
@[simp] theorem sq_8_3 : (("need" : Str) == "end") = false := by decide +kernel
@[simp] theorem sq_8_4 : (("need" : Str) == "fence") = false := by decide +kernel
@[simp] theorem sq_8_5 : (("need" : Str) == "if") = false := by decide +kernel
@[simp] theorem sq_8_6 : (("need" : Str) == "less") = false := by decide +kernel
@[simp] theorem sq_8_7 : (("need" : Str) == "minus") = false := by decide +kernel
@[simp] theorem sq_8_8 : (("need" : Str) == "need") = true := by decide +kernel
@[simp] theorem sq_8_9 : (("need" : Str) == "not a program") = false := by decide +kernel
@[simp] theorem sq_8_10 : (("need" : Str) == "num") = false := by decide +kernel
@[simp] theorem sq_8_11 : (("need" : Str) == "number") = false := by decide +kernel
@[simp] theorem sq_8_12 : (("need" : Str) == "plain") = false := by decide +kernel
@[simp] theorem sq_8_13 : (("need" : Str) == "plus") = false := by decide +kernel
@[simp] theorem sq_8_14 : (("need" : Str) == "program") = false := by decide +kernel
@[simp] theorem sq_8_15 : (("need" : Str) == "read") = false := by decide +kernel
@[simp] theorem sq_8_16 : (("need" : Str) == "reg") = false := by decide +kernel
@[simp] theorem sq_8_17 : (("need" : Str) == "release") = false := by decide +kernel
@[simp] theorem sq_8_18 : (("need" : Str) == "same") = false := by decide +kernel
@[simp] theorem sq_8_19 : (("need" : Str) == "set") = false := by decide +kernel
@[simp] theorem sq_8_20 : (("need" : Str) == "strong") = false := by decide +kernel
@[simp] theorem sq_8_21 : (("need" : Str) == "stuck") = false := by decide +kernel
@[simp] theorem sq_8_22 : (("need" : Str) == "swap") = false := by decide +kernel
@[simp] theorem sq_8_23 : (("need" : Str) == "times") = false := by decide +kernel
@[simp] theorem sq_8_24 : (("need" : Str) == "try") = false := by decide +kernel
@[simp] theorem sq_8_25 : (("need" : Str) == "values") = false := by decide +kernel
@[simp] theorem sq_8_26 : (("need" : Str) == "wants") = false := by decide +kernel
@[simp] theorem sq_8_27 : (("need" : Str) == "write") = false := by decide +kernel
@[simp] theorem sq_8_28 : (("need" : Str) == "x") = false := by decide +kernel
@[simp] theorem sq_9_0 : (("not a program" : Str) == "1") = false := by decide +kernel
@[simp] theorem sq_9_1 : (("not a program" : Str) == "acquire") = false := by decide +kernel
@[simp] theorem sq_9_2 : (("not a program" : Str) == "add") = false := by decide +kernel
@[simp] theorem sq_9_3 : (("not a program" : Str) == "end") = false := by decide +kernel
@[simp] theorem sq_9_4 : (("not a program" : Str) == "fence") = false := by decide +kernel
@[simp] theorem sq_9_5 : (("not a program" : Str) == "if") = false := by decide +kernel
@[simp] theorem sq_9_6 : (("not a program" : Str) == "less") = false := by decide +kernel
@[simp] theorem sq_9_7 : (("not a program" : Str) == "minus") = false := by decide +kernel
@[simp] theorem sq_9_8 : (("not a program" : Str) == "need") = false := by decide +kernel
@[simp] theorem sq_9_9 : (("not a program" : Str) == "not a program") = true := by decide +kernel
@[simp] theorem sq_9_10 : (("not a program" : Str) == "num") = false := by decide +kernel
@[simp] theorem sq_9_11 : (("not a program" : Str) == "number") = false := by decide +kernel
@[simp] theorem sq_9_12 : (("not a program" : Str) == "plain") = false := by decide +kernel
@[simp] theorem sq_9_13 : (("not a program" : Str) == "plus") = false := by decide +kernel
@[simp] theorem sq_9_14 : (("not a program" : Str) == "program") = false := by decide +kernel
@[simp] theorem sq_9_15 : (("not a program" : Str) == "read") = false := by decide +kernel
@[simp] theorem sq_9_16 : (("not a program" : Str) == "reg") = false := by decide +kernel
@[simp] theorem sq_9_17 : (("not a program" : Str) == "release") = false := by decide +kernel
@[simp] theorem sq_9_18 : (("not a program" : Str) == "same") = false := by decide +kernel
@[simp] theorem sq_9_19 : (("not a program" : Str) == "set") = false := by decide +kernel
@[simp] theorem sq_9_20 : (("not a program" : Str) == "strong") = false := by decide +kernel
@[simp] theorem sq_9_21 : (("not a program" : Str) == "stuck") = false := by decide +kernel
@[simp] theorem sq_9_22 : (("not a program" : Str) == "swap") = false := by decide +kernel
@[simp] theorem sq_9_23 : (("not a program" : Str) == "times") = false := by decide +kernel
@[simp] theorem sq_9_24 : (("not a program" : Str) == "try") = false := by decide +kernel
@[simp] theorem sq_9_25 : (("not a program" : Str) == "values") = false := by decide +kernel
@[simp] theorem sq_9_26 : (("not a program" : Str) == "wants") = false := by decide +kernel
@[simp] theorem sq_9_27 : (("not a program" : Str) == "write") = false := by decide +kernel
@[simp] theorem sq_9_28 : (("not a program" : Str) == "x") = false := by decide +kernel
@[simp] theorem sq_10_0 : (("num" : Str) == "1") = false := by decide +kernel
@[simp] theorem sq_10_1 : (("num" : Str) == "acquire") = false := by decide +kernel
@[simp] theorem sq_10_2 : (("num" : Str) == "add") = false := by decide +kernel
@[simp] theorem sq_10_3 : (("num" : Str) == "end") = false := by decide +kernel
@[simp] theorem sq_10_4 : (("num" : Str) == "fence") = false := by decide +kernel
@[simp] theorem sq_10_5 : (("num" : Str) == "if") = false := by decide +kernel
@[simp] theorem sq_10_6 : (("num" : Str) == "less") = false := by decide +kernel
@[simp] theorem sq_10_7 : (("num" : Str) == "minus") = false := by decide +kernel
@[simp] theorem sq_10_8 : (("num" : Str) == "need") = false := by decide +kernel
@[simp] theorem sq_10_9 : (("num" : Str) == "not a program") = false := by decide +kernel
@[simp] theorem sq_10_10 : (("num" : Str) == "num") = true := by decide +kernel
@[simp] theorem sq_10_11 : (("num" : Str) == "number") = false := by decide +kernel
@[simp] theorem sq_10_12 : (("num" : Str) == "plain") = false := by decide +kernel
@[simp] theorem sq_10_13 : (("num" : Str) == "plus") = false := by decide +kernel
@[simp] theorem sq_10_14 : (("num" : Str) == "program") = false := by decide +kernel
@[simp] theorem sq_10_15 : (("num" : Str) == "read") = false := by decide +kernel
@[simp] theorem sq_10_16 : (("num" : Str) == "reg") = false := by decide +kernel
@[simp] theorem sq_10_17 : (("num" : Str) == "release") = false := by decide +kernel
@[simp] theorem sq_10_18 : (("num" : Str) == "same") = false := by decide +kernel
@[simp] theorem sq_10_19 : (("num" : Str) == "set") = false := by decide +kernel
@[simp] theorem sq_10_20 : (("num" : Str) == "strong") = false := by decide +kernel
@[simp] theorem sq_10_21 : (("num" : Str) == "stuck") = false := by decide +kernel
@[simp] theorem sq_10_22 : (("num" : Str) == "swap") = false := by decide +kernel
@[simp] theorem sq_10_23 : (("num" : Str) == "times") = false := by decide +kernel
@[simp] theorem sq_10_24 : (("num" : Str) == "try") = false := by decide +kernel
@[simp] theorem sq_10_25 : (("num" : Str) == "values") = false := by decide +kernel
@[simp] theorem sq_10_26 : (("num" : Str) == "wants") = false := by decide +kernel
@[simp] theorem sq_10_27 : (("num" : Str) == "write") = false := by decide +kernel
@[simp] theorem sq_10_28 : (("num" : Str) == "x") = false := by decide +kernel
@[simp] theorem sq_11_0 : (("number" : Str) == "1") = false := by decide +kernel
@[simp] theorem sq_11_1 : (("number" : Str) == "acquire") = false := by decide +kernel
@[simp] theorem sq_11_2 : (("number" : Str) == "add") = false := by decide +kernel
@[simp] theorem sq_11_3 : (("number" : Str) == "end") = false := by decide +kernel
@[simp] theorem sq_11_4 : (("number" : Str) == "fence") = false := by decide +kernel
@[simp] theorem sq_11_5 : (("number" : Str) == "if") = false := by decide +kernel
@[simp] theorem sq_11_6 : (("number" : Str) == "less") = false := by decide +kernel
@[simp] theorem sq_11_7 : (("number" : Str) == "minus") = false := by decide +kernel
@[simp] theorem sq_11_8 : (("number" : Str) == "need") = false := by decide +kernel
@[simp] theorem sq_11_9 : (("number" : Str) == "not a program") = false := by decide +kernel
@[simp] theorem sq_11_10 : (("number" : Str) == "num") = false := by decide +kernel
@[simp] theorem sq_11_11 : (("number" : Str) == "number") = true := by decide +kernel
@[simp] theorem sq_11_12 : (("number" : Str) == "plain") = false := by decide +kernel
@[simp] theorem sq_11_13 : (("number" : Str) == "plus") = false := by decide +kernel
@[simp] theorem sq_11_14 : (("number" : Str) == "program") = false := by decide +kernel
@[simp] theorem sq_11_15 : (("number" : Str) == "read") = false := by decide +kernel
@[simp] theorem sq_11_16 : (("number" : Str) == "reg") = false := by decide +kernel
@[simp] theorem sq_11_17 : (("number" : Str) == "release") = false := by decide +kernel
@[simp] theorem sq_11_18 : (("number" : Str) == "same") = false := by decide +kernel
@[simp] theorem sq_11_19 : (("number" : Str) == "set") = false := by decide +kernel
@[simp] theorem sq_11_20 : (("number" : Str) == "strong") = false := by decide +kernel
@[simp] theorem sq_11_21 : (("number" : Str) == "stuck") = false := by decide +kernel
@[simp] theorem sq_11_22 : (("number" : Str) == "swap") = false := by decide +kernel
@[simp] theorem sq_11_23 : (("number" : Str) == "times") = false := by decide +kernel
@[simp] theorem sq_11_24 : (("number" : Str) == "try") = false := by decide +kernel
@[simp] theorem sq_11_25 : (("number" : Str) == "values") = false := by decide +kernel
@[simp] theorem sq_11_26 : (("number" : Str) == "wants") = false := by decide +kernel
@[simp] theorem sq_11_27 : (("number" : Str) == "write") = false := by decide +kernel
@[simp] theorem sq_11_28 : (("number" : Str) == "x") = false := by decide +kernel
@[simp] theorem sq_12_0 : (("plain" : Str) == "1") = false := by decide +kernel
@[simp] theorem sq_12_1 : (("plain" : Str) == "acquire") = false := by decide +kernel
@[simp] theorem sq_12_2 : (("plain" : Str) == "add") = false := by decide +kernel
@[simp] theorem sq_12_3 : (("plain" : Str) == "end") = false := by decide +kernel
@[simp] theorem sq_12_4 : (("plain" : Str) == "fence") = false := by decide +kernel
@[simp] theorem sq_12_5 : (("plain" : Str) == "if") = false := by decide +kernel
@[simp] theorem sq_12_6 : (("plain" : Str) == "less") = false := by decide +kernel
@[simp] theorem sq_12_7 : (("plain" : Str) == "minus") = false := by decide +kernel
@[simp] theorem sq_12_8 : (("plain" : Str) == "need") = false := by decide +kernel
@[simp] theorem sq_12_9 : (("plain" : Str) == "not a program") = false := by decide +kernel
@[simp] theorem sq_12_10 : (("plain" : Str) == "num") = false := by decide +kernel
@[simp] theorem sq_12_11 : (("plain" : Str) == "number") = false := by decide +kernel
@[simp] theorem sq_12_12 : (("plain" : Str) == "plain") = true := by decide +kernel
@[simp] theorem sq_12_13 : (("plain" : Str) == "plus") = false := by decide +kernel
@[simp] theorem sq_12_14 : (("plain" : Str) == "program") = false := by decide +kernel
@[simp] theorem sq_12_15 : (("plain" : Str) == "read") = false := by decide +kernel
@[simp] theorem sq_12_16 : (("plain" : Str) == "reg") = false := by decide +kernel
@[simp] theorem sq_12_17 : (("plain" : Str) == "release") = false := by decide +kernel
@[simp] theorem sq_12_18 : (("plain" : Str) == "same") = false := by decide +kernel
@[simp] theorem sq_12_19 : (("plain" : Str) == "set") = false := by decide +kernel
@[simp] theorem sq_12_20 : (("plain" : Str) == "strong") = false := by decide +kernel
@[simp] theorem sq_12_21 : (("plain" : Str) == "stuck") = false := by decide +kernel
@[simp] theorem sq_12_22 : (("plain" : Str) == "swap") = false := by decide +kernel
@[simp] theorem sq_12_23 : (("plain" : Str) == "times") = false := by decide +kernel
@[simp] theorem sq_12_24 : (("plain" : Str) == "try") = false := by decide +kernel
@[simp] theorem sq_12_25 : (("plain" : Str) == "values") = false := by decide +kernel
@[simp] theorem sq_12_26 : (("plain" : Str) == "wants") = false := by decide +kernel
@[simp] theorem sq_12_27 : (("plain" : Str) == "write") = false := by decide +kernel
@[simp] theorem sq_12_28 : (("plain" : Str) == "x") = false := by decide +kernel
@[simp] theorem sq_13_0 : (("plus" : Str) == "1") = false := by decide +kernel
@[simp] theorem sq_13_1 : (("plus" : Str) == "acquire") = false := by decide +kernel
@[simp] theorem sq_13_2 : (("plus" : Str) == "add") = false := by decide +kernel
@[simp] theorem sq_13_3 : (("plus" : Str) == "end") = false := by decide +kernel
@[simp] theorem sq_13_4 : (("plus" : Str) == "fence") = false := by decide +kernel
@[simp] theorem sq_13_5 : (("plus" : Str) == "if") = false := by decide +kernel
@[simp] theorem sq_13_6 : (("plus" : Str) == "less") = false := by decide +kernel
@[simp] theorem sq_13_7 : (("plus" : Str) == "minus") = false := by decide +kernel
@[simp] theorem sq_13_8 : (("plus" : Str) == "need") = false := by decide +kernel
@[simp] theorem sq_13_9 : (("plus" : Str) == "not a program") = false := by decide +kernel
@[simp] theorem sq_13_10 : (("plus" : Str) == "num") = false := by decide +kernel
@[simp] theorem sq_13_11 : (("plus" : Str) == "number") = false := by decide +kernel
@[simp] theorem sq_13_12 : (("plus" : Str) == "plain") = false := by decide +kernel
@[simp] theorem sq_13_13 : (("plus" : Str) == "plus") = true := by decide +kernel
@[simp] theorem sq_13_14 : (("plus" : Str) == "program") = false := by decide +kernel
@[simp] theorem sq_13_15 : (("plus" : Str) == "read") = false := by decide +kernel
@[simp] theorem sq_13_16 : (("plus" : Str) == "reg") = false := by decide +kernel
@[simp] theorem sq_13_17 : (("plus" : Str) == "release") = false := by decide +kernel
@[simp] theorem sq_13_18 : (("plus" : Str) == "same") = false := by decide +kernel
@[simp] theorem sq_13_19 : (("plus" : Str) == "set") = false := by decide +kernel
@[simp] theorem sq_13_20 : (("plus" : Str) == "strong") = false := by decide +kernel
@[simp] theorem sq_13_21 : (("plus" : Str) == "stuck") = false := by decide +kernel
@[simp] theorem sq_13_22 : (("plus" : Str) == "swap") = false := by decide +kernel
@[simp] theorem sq_13_23 : (("plus" : Str) == "times") = false := by decide +kernel
@[simp] theorem sq_13_24 : (("plus" : Str) == "try") = false := by decide +kernel
@[simp] theorem sq_13_25 : (("plus" : Str) == "values") = false := by decide +kernel
@[simp] theorem sq_13_26 : (("plus" : Str) == "wants") = false := by decide +kernel
@[simp] theorem sq_13_27 : (("plus" : Str) == "write") = false := by decide +kernel
@[simp] theorem sq_13_28 : (("plus" : Str) == "x") = false := by decide +kernel
@[simp] theorem sq_14_0 : (("program" : Str) == "1") = false := by decide +kernel
@[simp] theorem sq_14_1 : (("program" : Str) == "acquire") = false := by decide +kernel
@[simp] theorem sq_14_2 : (("program" : Str) == "add") = false := by decide +kernel
@[simp] theorem sq_14_3 : (("program" : Str) == "end") = false := by decide +kernel
@[simp] theorem sq_14_4 : (("program" : Str) == "fence") = false := by decide +kernel
@[simp] theorem sq_14_5 : (("program" : Str) == "if") = false := by decide +kernel
@[simp] theorem sq_14_6 : (("program" : Str) == "less") = false := by decide +kernel
@[simp] theorem sq_14_7 : (("program" : Str) == "minus") = false := by decide +kernel
@[simp] theorem sq_14_8 : (("program" : Str) == "need") = false := by decide +kernel
@[simp] theorem sq_14_9 : (("program" : Str) == "not a program") = false := by decide +kernel
@[simp] theorem sq_14_10 : (("program" : Str) == "num") = false := by decide +kernel
@[simp] theorem sq_14_11 : (("program" : Str) == "number") = false := by decide +kernel
@[simp] theorem sq_14_12 : (("program" : Str) == "plain") = false := by decide +kernel
@[simp] theorem sq_14_13 : (("program" : Str) == "plus") = false := by decide +kernel
@[simp] theorem sq_14_14 : (("program" : Str) == "program") = true := by decide +kernel
@[simp] theorem sq_14_15 : (("program" : Str) == "read") = false := by decide +kernel
@[simp] theorem sq_14_16 : (("program" : Str) == "reg") = false := by decide +kernel
@[simp] theorem sq_14_17 : (("program" : Str) == "release") = false := by decide +kernel
@[simp] theorem sq_14_18 : (("program" : Str) == "same") = false := by decide +kernel
@[simp] theorem sq_14_19 : (("program" : Str) == "set") = false := by decide +kernel
@[simp] theorem sq_14_20 : (("program" : Str) == "strong") = false := by decide +kernel
@[simp] theorem sq_14_21 : (("program" : Str) == "stuck") = false := by decide +kernel
@[simp] theorem sq_14_22 : (("program" : Str) == "swap") = false := by decide +kernel
@[simp] theorem sq_14_23 : (("program" : Str) == "times") = false := by decide +kernel
@[simp] theorem sq_14_24 : (("program" : Str) == "try") = false := by decide +kernel
@[simp] theorem sq_14_25 : (("program" : Str) == "values") = false := by decide +kernel
@[simp] theorem sq_14_26 : (("program" : Str) == "wants") = false := by decide +kernel
@[simp] theorem sq_14_27 : (("program" : Str) == "write") = false := by decide +kernel
@[simp] theorem sq_14_28 : (("program" : Str) == "x") = false := by decide +kernel
@[simp] theorem sq_15_0 : (("read" : Str) == "1") = false := by decide +kernel
@[simp] theorem sq_15_1 : (("read" : Str) == "acquire") = false := by decide +kernel
@[simp] theorem sq_15_2 : (("read" : Str) == "add") = false := by decide +kernel
@[simp] theorem sq_15_3 : (("read" : Str) == "end") = false := by decide +kernel
@[simp] theorem sq_15_4 : (("read" : Str) == "fence") = false := by decide +kernel
@[simp] theorem sq_15_5 : (("read" : Str) == "if") = false := by decide +kernel
@[simp] theorem sq_15_6 : (("read" : Str) == "less") = false := by decide +kernel
@[simp] theorem sq_15_7 : (("read" : Str) == "minus") = false := by decide +kernel
@[simp] theorem sq_15_8 : (("read" : Str) == "need") = false := by decide +kernel
@[simp] theorem sq_15_9 : (("read" : Str) == "not a program") = false := by decide +kernel
@[simp] theorem sq_15_10 : (("read" : Str) == "num") = false := by decide +kernel
@[simp] theorem sq_15_11 : (("read" : Str) == "number") = false := by decide +kernel
@[simp] theorem sq_15_12 : (("read" : Str) == "plain") = false := by decide +kernel
@[simp] theorem sq_15_13 : (("read" : Str) == "plus") = false := by decide +kernel
@[simp] theorem sq_15_14 : (("read" : Str) == "program") = false := by decide +kernel
@[simp] theorem sq_15_15 : (("read" : Str) == "read") = true := by decide +kernel
@[simp] theorem sq_15_16 : (("read" : Str) == "reg") = false := by decide +kernel
@[simp] theorem sq_15_17 : (("read" : Str) == "release") = false := by decide +kernel
@[simp] theorem sq_15_18 : (("read" : Str) == "same") = false := by decide +kernel
@[simp] theorem sq_15_19 : (("read" : Str) == "set") = false := by decide +kernel
@[simp] theorem sq_15_20 : (("read" : Str) == "strong") = false := by decide +kernel
@[simp] theorem sq_15_21 : (("read" : Str) == "stuck") = false := by decide +kernel
@[simp] theorem sq_15_22 : (("read" : Str) == "swap") = false := by decide +kernel
@[simp] theorem sq_15_23 : (("read" : Str) == "times") = false := by decide +kernel
@[simp] theorem sq_15_24 : (("read" : Str) == "try") = false := by decide +kernel
@[simp] theorem sq_15_25 : (("read" : Str) == "values") = false := by decide +kernel
@[simp] theorem sq_15_26 : (("read" : Str) == "wants") = false := by decide +kernel
@[simp] theorem sq_15_27 : (("read" : Str) == "write") = false := by decide +kernel
@[simp] theorem sq_15_28 : (("read" : Str) == "x") = false := by decide +kernel
@[simp] theorem sq_16_0 : (("reg" : Str) == "1") = false := by decide +kernel
@[simp] theorem sq_16_1 : (("reg" : Str) == "acquire") = false := by decide +kernel
@[simp] theorem sq_16_2 : (("reg" : Str) == "add") = false := by decide +kernel
@[simp] theorem sq_16_3 : (("reg" : Str) == "end") = false := by decide +kernel
@[simp] theorem sq_16_4 : (("reg" : Str) == "fence") = false := by decide +kernel
@[simp] theorem sq_16_5 : (("reg" : Str) == "if") = false := by decide +kernel
@[simp] theorem sq_16_6 : (("reg" : Str) == "less") = false := by decide +kernel
@[simp] theorem sq_16_7 : (("reg" : Str) == "minus") = false := by decide +kernel
@[simp] theorem sq_16_8 : (("reg" : Str) == "need") = false := by decide +kernel
@[simp] theorem sq_16_9 : (("reg" : Str) == "not a program") = false := by decide +kernel
@[simp] theorem sq_16_10 : (("reg" : Str) == "num") = false := by decide +kernel
@[simp] theorem sq_16_11 : (("reg" : Str) == "number") = false := by decide +kernel
@[simp] theorem sq_16_12 : (("reg" : Str) == "plain") = false := by decide +kernel
@[simp] theorem sq_16_13 : (("reg" : Str) == "plus") = false := by decide +kernel
@[simp] theorem sq_16_14 : (("reg" : Str) == "program") = false := by decide +kernel
@[simp] theorem sq_16_15 : (("reg" : Str) == "read") = false := by decide +kernel
@[simp] theorem sq_16_16 : (("reg" : Str) == "reg") = true := by decide +kernel
@[simp] theorem sq_16_17 : (("reg" : Str) == "release") = false := by decide +kernel
@[simp] theorem sq_16_18 : (("reg" : Str) == "same") = false := by decide +kernel
@[simp] theorem sq_16_19 : (("reg" : Str) == "set") = false := by decide +kernel
@[simp] theorem sq_16_20 : (("reg" : Str) == "strong") = false := by decide +kernel
@[simp] theorem sq_16_21 : (("reg" : Str) == "stuck") = false := by decide +kernel
@[simp] theorem sq_16_22 : (("reg" : Str) == "swap") = false := by decide +kernel
@[simp] theorem sq_16_23 : (("reg" : Str) == "times") = false := by decide +kernel
@[simp] theorem sq_16_24 : (("reg" : Str) == "try") = false := by decide +kernel
@[simp] theorem sq_16_25 : (("reg" : Str) == "values") = false := by decide +kernel
@[simp] theorem sq_16_26 : (("reg" : Str) == "wants") = false := by decide +kernel
@[simp] theorem sq_16_27 : (("reg" : Str) == "write") = false := by decide +kernel
@[simp] theorem sq_16_28 : (("reg" : Str) == "x") = false := by decide +kernel
@[simp] theorem sq_17_0 : (("release" : Str) == "1") = false := by decide +kernel
@[simp] theorem sq_17_1 : (("release" : Str) == "acquire") = false := by decide +kernel
@[simp] theorem sq_17_2 : (("release" : Str) == "add") = false := by decide +kernel
@[simp] theorem sq_17_3 : (("release" : Str) == "end") = false := by decide +kernel
@[simp] theorem sq_17_4 : (("release" : Str) == "fence") = false := by decide +kernel
@[simp] theorem sq_17_5 : (("release" : Str) == "if") = false := by decide +kernel
@[simp] theorem sq_17_6 : (("release" : Str) == "less") = false := by decide +kernel
@[simp] theorem sq_17_7 : (("release" : Str) == "minus") = false := by decide +kernel
@[simp] theorem sq_17_8 : (("release" : Str) == "need") = false := by decide +kernel
@[simp] theorem sq_17_9 : (("release" : Str) == "not a program") = false := by decide +kernel
@[simp] theorem sq_17_10 : (("release" : Str) == "num") = false := by decide +kernel
@[simp] theorem sq_17_11 : (("release" : Str) == "number") = false := by decide +kernel
@[simp] theorem sq_17_12 : (("release" : Str) == "plain") = false := by decide +kernel
@[simp] theorem sq_17_13 : (("release" : Str) == "plus") = false := by decide +kernel
@[simp] theorem sq_17_14 : (("release" : Str) == "program") = false := by decide +kernel
@[simp] theorem sq_17_15 : (("release" : Str) == "read") = false := by decide +kernel
@[simp] theorem sq_17_16 : (("release" : Str) == "reg") = false := by decide +kernel
@[simp] theorem sq_17_17 : (("release" : Str) == "release") = true := by decide +kernel
@[simp] theorem sq_17_18 : (("release" : Str) == "same") = false := by decide +kernel
@[simp] theorem sq_17_19 : (("release" : Str) == "set") = false := by decide +kernel
@[simp] theorem sq_17_20 : (("release" : Str) == "strong") = false := by decide +kernel
@[simp] theorem sq_17_21 : (("release" : Str) == "stuck") = false := by decide +kernel
@[simp] theorem sq_17_22 : (("release" : Str) == "swap") = false := by decide +kernel
@[simp] theorem sq_17_23 : (("release" : Str) == "times") = false := by decide +kernel
@[simp] theorem sq_17_24 : (("release" : Str) == "try") = false := by decide +kernel
@[simp] theorem sq_17_25 : (("release" : Str) == "values") = false := by decide +kernel
@[simp] theorem sq_17_26 : (("release" : Str) == "wants") = false := by decide +kernel
@[simp] theorem sq_17_27 : (("release" : Str) == "write") = false := by decide +kernel
@[simp] theorem sq_17_28 : (("release" : Str) == "x") = false := by decide +kernel
@[simp] theorem sq_18_0 : (("same" : Str) == "1") = false := by decide +kernel
@[simp] theorem sq_18_1 : (("same" : Str) == "acquire") = false := by decide +kernel
@[simp] theorem sq_18_2 : (("same" : Str) == "add") = false := by decide +kernel
@[simp] theorem sq_18_3 : (("same" : Str) == "end") = false := by decide +kernel
@[simp] theorem sq_18_4 : (("same" : Str) == "fence") = false := by decide +kernel
@[simp] theorem sq_18_5 : (("same" : Str) == "if") = false := by decide +kernel
@[simp] theorem sq_18_6 : (("same" : Str) == "less") = false := by decide +kernel
@[simp] theorem sq_18_7 : (("same" : Str) == "minus") = false := by decide +kernel
@[simp] theorem sq_18_8 : (("same" : Str) == "need") = false := by decide +kernel
@[simp] theorem sq_18_9 : (("same" : Str) == "not a program") = false := by decide +kernel
@[simp] theorem sq_18_10 : (("same" : Str) == "num") = false := by decide +kernel
@[simp] theorem sq_18_11 : (("same" : Str) == "number") = false := by decide +kernel
@[simp] theorem sq_18_12 : (("same" : Str) == "plain") = false := by decide +kernel
@[simp] theorem sq_18_13 : (("same" : Str) == "plus") = false := by decide +kernel
@[simp] theorem sq_18_14 : (("same" : Str) == "program") = false := by decide +kernel
@[simp] theorem sq_18_15 : (("same" : Str) == "read") = false := by decide +kernel
@[simp] theorem sq_18_16 : (("same" : Str) == "reg") = false := by decide +kernel
@[simp] theorem sq_18_17 : (("same" : Str) == "release") = false := by decide +kernel
@[simp] theorem sq_18_18 : (("same" : Str) == "same") = true := by decide +kernel
@[simp] theorem sq_18_19 : (("same" : Str) == "set") = false := by decide +kernel
@[simp] theorem sq_18_20 : (("same" : Str) == "strong") = false := by decide +kernel
@[simp] theorem sq_18_21 : (("same" : Str) == "stuck") = false := by decide +kernel
@[simp] theorem sq_18_22 : (("same" : Str) == "swap") = false := by decide +kernel
@[simp] theorem sq_18_23 : (("same" : Str) == "times") = false := by decide +kernel
@[simp] theorem sq_18_24 : (("same" : Str) == "try") = false := by decide +kernel
@[simp] theorem sq_18_25 : (("same" : Str) == "values") = false := by decide +kernel
@[simp] theorem sq_18_26 : (("same" : Str) == "wants") = false := by decide +kernel
@[simp] theorem sq_18_27 : (("same" : Str) == "write") = false := by decide +kernel
@[simp] theorem sq_18_28 : (("same" : Str) == "x") = false := by decide +kernel
@[simp] theorem sq_19_0 : (("set" : Str) == "1") = false := by decide +kernel
@[simp] theorem sq_19_1 : (("set" : Str) == "acquire") = false := by decide +kernel
@[simp] theorem sq_19_2 : (("set" : Str) == "add") = false := by decide +kernel
@[simp] theorem sq_19_3 : (("set" : Str) == "end") = false := by decide +kernel
@[simp] theorem sq_19_4 : (("set" : Str) == "fence") = false := by decide +kernel
@[simp] theorem sq_19_5 : (("set" : Str) == "if") = false := by decide +kernel
@[simp] theorem sq_19_6 : (("set" : Str) == "less") = false := by decide +kernel
@[simp] theorem sq_19_7 : (("set" : Str) == "minus") = false := by decide +kernel
@[simp] theorem sq_19_8 : (("set" : Str) == "need") = false := by decide +kernel
@[simp] theorem sq_19_9 : (("set" : Str) == "not a program") = false := by decide +kernel
@[simp] theorem sq_19_10 : (("set" : Str) == "num") = false := by decide +kernel
@[simp] theorem sq_19_11 : (("set" : Str) == "number") = false := by decide +kernel
@[simp] theorem sq_19_12 : (("set" : Str) == "plain") = false := by decide +kernel
@[simp] theorem sq_19_13 : (("set" : Str) == "plus") = false := by decide +kernel
@[simp] theorem sq_19_14 : (("set" : Str) == "program") = false := by decide +kernel
@[simp] theorem sq_19_15 : (("set" : Str) == "read") = false := by decide +kernel
@[simp] theorem sq_19_16 : (("set" : Str) == "reg") = false := by decide +kernel
@[simp] theorem sq_19_17 : (("set" : Str) == "release") = false := by decide +kernel
@[simp] theorem sq_19_18 : (("set" : Str) == "same") = false := by decide +kernel
@[simp] theorem sq_19_19 : (("set" : Str) == "set") = true := by decide +kernel
@[simp] theorem sq_19_20 : (("set" : Str) == "strong") = false := by decide +kernel
@[simp] theorem sq_19_21 : (("set" : Str) == "stuck") = false := by decide +kernel
@[simp] theorem sq_19_22 : (("set" : Str) == "swap") = false := by decide +kernel
@[simp] theorem sq_19_23 : (("set" : Str) == "times") = false := by decide +kernel
@[simp] theorem sq_19_24 : (("set" : Str) == "try") = false := by decide +kernel
@[simp] theorem sq_19_25 : (("set" : Str) == "values") = false := by decide +kernel
@[simp] theorem sq_19_26 : (("set" : Str) == "wants") = false := by decide +kernel
@[simp] theorem sq_19_27 : (("set" : Str) == "write") = false := by decide +kernel
@[simp] theorem sq_19_28 : (("set" : Str) == "x") = false := by decide +kernel
@[simp] theorem sq_20_0 : (("strong" : Str) == "1") = false := by decide +kernel
@[simp] theorem sq_20_1 : (("strong" : Str) == "acquire") = false := by decide +kernel
@[simp] theorem sq_20_2 : (("strong" : Str) == "add") = false := by decide +kernel
@[simp] theorem sq_20_3 : (("strong" : Str) == "end") = false := by decide +kernel
@[simp] theorem sq_20_4 : (("strong" : Str) == "fence") = false := by decide +kernel
@[simp] theorem sq_20_5 : (("strong" : Str) == "if") = false := by decide +kernel
@[simp] theorem sq_20_6 : (("strong" : Str) == "less") = false := by decide +kernel
@[simp] theorem sq_20_7 : (("strong" : Str) == "minus") = false := by decide +kernel
@[simp] theorem sq_20_8 : (("strong" : Str) == "need") = false := by decide +kernel
@[simp] theorem sq_20_9 : (("strong" : Str) == "not a program") = false := by decide +kernel
@[simp] theorem sq_20_10 : (("strong" : Str) == "num") = false := by decide +kernel
@[simp] theorem sq_20_11 : (("strong" : Str) == "number") = false := by decide +kernel
@[simp] theorem sq_20_12 : (("strong" : Str) == "plain") = false := by decide +kernel
@[simp] theorem sq_20_13 : (("strong" : Str) == "plus") = false := by decide +kernel
@[simp] theorem sq_20_14 : (("strong" : Str) == "program") = false := by decide +kernel
@[simp] theorem sq_20_15 : (("strong" : Str) == "read") = false := by decide +kernel
@[simp] theorem sq_20_16 : (("strong" : Str) == "reg") = false := by decide +kernel
@[simp] theorem sq_20_17 : (("strong" : Str) == "release") = false := by decide +kernel
@[simp] theorem sq_20_18 : (("strong" : Str) == "same") = false := by decide +kernel
@[simp] theorem sq_20_19 : (("strong" : Str) == "set") = false := by decide +kernel
@[simp] theorem sq_20_20 : (("strong" : Str) == "strong") = true := by decide +kernel
@[simp] theorem sq_20_21 : (("strong" : Str) == "stuck") = false := by decide +kernel
@[simp] theorem sq_20_22 : (("strong" : Str) == "swap") = false := by decide +kernel
@[simp] theorem sq_20_23 : (("strong" : Str) == "times") = false := by decide +kernel
@[simp] theorem sq_20_24 : (("strong" : Str) == "try") = false := by decide +kernel
@[simp] theorem sq_20_25 : (("strong" : Str) == "values") = false := by decide +kernel
@[simp] theorem sq_20_26 : (("strong" : Str) == "wants") = false := by decide +kernel
@[simp] theorem sq_20_27 : (("strong" : Str) == "write") = false := by decide +kernel
@[simp] theorem sq_20_28 : (("strong" : Str) == "x") = false := by decide +kernel
@[simp] theorem sq_21_0 : (("stuck" : Str) == "1") = false := by decide +kernel
@[simp] theorem sq_21_1 : (("stuck" : Str) == "acquire") = false := by decide +kernel
@[simp] theorem sq_21_2 : (("stuck" : Str) == "add") = false := by decide +kernel
@[simp] theorem sq_21_3 : (("stuck" : Str) == "end") = false := by decide +kernel
@[simp] theorem sq_21_4 : (("stuck" : Str) == "fence") = false := by decide +kernel
@[simp] theorem sq_21_5 : (("stuck" : Str) == "if") = false := by decide +kernel
@[simp] theorem sq_21_6 : (("stuck" : Str) == "less") = false := by decide +kernel
@[simp] theorem sq_21_7 : (("stuck" : Str) == "minus") = false := by decide +kernel
@[simp] theorem sq_21_8 : (("stuck" : Str) == "need") = false := by decide +kernel
@[simp] theorem sq_21_9 : (("stuck" : Str) == "not a program") = false := by decide +kernel
@[simp] theorem sq_21_10 : (("stuck" : Str) == "num") = false := by decide +kernel
@[simp] theorem sq_21_11 : (("stuck" : Str) == "number") = false := by decide +kernel
@[simp] theorem sq_21_12 : (("stuck" : Str) == "plain") = false := by decide +kernel
@[simp] theorem sq_21_13 : (("stuck" : Str) == "plus") = false := by decide +kernel
@[simp] theorem sq_21_14 : (("stuck" : Str) == "program") = false := by decide +kernel
@[simp] theorem sq_21_15 : (("stuck" : Str) == "read") = false := by decide +kernel
@[simp] theorem sq_21_16 : (("stuck" : Str) == "reg") = false := by decide +kernel
@[simp] theorem sq_21_17 : (("stuck" : Str) == "release") = false := by decide +kernel
@[simp] theorem sq_21_18 : (("stuck" : Str) == "same") = false := by decide +kernel
@[simp] theorem sq_21_19 : (("stuck" : Str) == "set") = false := by decide +kernel
@[simp] theorem sq_21_20 : (("stuck" : Str) == "strong") = false := by decide +kernel
@[simp] theorem sq_21_21 : (("stuck" : Str) == "stuck") = true := by decide +kernel
@[simp] theorem sq_21_22 : (("stuck" : Str) == "swap") = false := by decide +kernel
@[simp] theorem sq_21_23 : (("stuck" : Str) == "times") = false := by decide +kernel
@[simp] theorem sq_21_24 : (("stuck" : Str) == "try") = false := by decide +kernel
@[simp] theorem sq_21_25 : (("stuck" : Str) == "values") = false := by decide +kernel
@[simp] theorem sq_21_26 : (("stuck" : Str) == "wants") = false := by decide +kernel
@[simp] theorem sq_21_27 : (("stuck" : Str) == "write") = false := by decide +kernel
@[simp] theorem sq_21_28 : (("stuck" : Str) == "x") = false := by decide +kernel
@[simp] theorem sq_22_0 : (("swap" : Str) == "1") = false := by decide +kernel
@[simp] theorem sq_22_1 : (("swap" : Str) == "acquire") = false := by decide +kernel
@[simp] theorem sq_22_2 : (("swap" : Str) == "add") = false := by decide +kernel
@[simp] theorem sq_22_3 : (("swap" : Str) == "end") = false := by decide +kernel
@[simp] theorem sq_22_4 : (("swap" : Str) == "fence") = false := by decide +kernel
@[simp] theorem sq_22_5 : (("swap" : Str) == "if") = false := by decide +kernel
@[simp] theorem sq_22_6 : (("swap" : Str) == "less") = false := by decide +kernel
@[simp] theorem sq_22_7 : (("swap" : Str) == "minus") = false := by decide +kernel
@[simp] theorem sq_22_8 : (("swap" : Str) == "need") = false := by decide +kernel
@[simp] theorem sq_22_9 : (("swap" : Str) == "not a program") = false := by decide +kernel
@[simp] theorem sq_22_10 : (("swap" : Str) == "num") = false := by decide +kernel
@[simp] theorem sq_22_11 : (("swap" : Str) == "number") = false := by decide +kernel
@[simp] theorem sq_22_12 : (("swap" : Str) == "plain") = false := by decide +kernel
@[simp] theorem sq_22_13 : (("swap" : Str) == "plus") = false := by decide +kernel
@[simp] theorem sq_22_14 : (("swap" : Str) == "program") = false := by decide +kernel
@[simp] theorem sq_22_15 : (("swap" : Str) == "read") = false := by decide +kernel
@[simp] theorem sq_22_16 : (("swap" : Str) == "reg") = false := by decide +kernel
@[simp] theorem sq_22_17 : (("swap" : Str) == "release") = false := by decide +kernel
@[simp] theorem sq_22_18 : (("swap" : Str) == "same") = false := by decide +kernel
@[simp] theorem sq_22_19 : (("swap" : Str) == "set") = false := by decide +kernel
@[simp] theorem sq_22_20 : (("swap" : Str) == "strong") = false := by decide +kernel
@[simp] theorem sq_22_21 : (("swap" : Str) == "stuck") = false := by decide +kernel
@[simp] theorem sq_22_22 : (("swap" : Str) == "swap") = true := by decide +kernel
@[simp] theorem sq_22_23 : (("swap" : Str) == "times") = false := by decide +kernel
@[simp] theorem sq_22_24 : (("swap" : Str) == "try") = false := by decide +kernel
@[simp] theorem sq_22_25 : (("swap" : Str) == "values") = false := by decide +kernel
@[simp] theorem sq_22_26 : (("swap" : Str) == "wants") = false := by decide +kernel
@[simp] theorem sq_22_27 : (("swap" : Str) == "write") = false := by decide +kernel
@[simp] theorem sq_22_28 : (("swap" : Str) == "x") = false := by decide +kernel
@[simp] theorem sq_23_0 : (("times" : Str) == "1") = false := by decide +kernel
@[simp] theorem sq_23_1 : (("times" : Str) == "acquire") = false := by decide +kernel
@[simp] theorem sq_23_2 : (("times" : Str) == "add") = false := by decide +kernel
@[simp] theorem sq_23_3 : (("times" : Str) == "end") = false := by decide +kernel
@[simp] theorem sq_23_4 : (("times" : Str) == "fence") = false := by decide +kernel
@[simp] theorem sq_23_5 : (("times" : Str) == "if") = false := by decide +kernel
@[simp] theorem sq_23_6 : (("times" : Str) == "less") = false := by decide +kernel
@[simp] theorem sq_23_7 : (("times" : Str) == "minus") = false := by decide +kernel
@[simp] theorem sq_23_8 : (("times" : Str) == "need") = false := by decide +kernel
@[simp] theorem sq_23_9 : (("times" : Str) == "not a program") = false := by decide +kernel
@[simp] theorem sq_23_10 : (("times" : Str) == "num") = false := by decide +kernel
@[simp] theorem sq_23_11 : (("times" : Str) == "number") = false := by decide +kernel
@[simp] theorem sq_23_12 : (("times" : Str) == "plain") = false := by decide +kernel
@[simp] theorem sq_23_13 : (("times" : Str) == "plus") = false := by decide +kernel
@[simp] theorem sq_23_14 : (("times" : Str) == "program") = false := by decide +kernel
@[simp] theorem sq_23_15 : (("times" : Str) == "read") = false := by decide +kernel
@[simp] theorem sq_23_16 : (("times" : Str) == "reg") = false := by decide +kernel
@[simp] theorem sq_23_17 : (("times" : Str) == "release") = false := by decide +kernel
@[simp] theorem sq_23_18 : (("times" : Str) == "same") = false := by decide +kernel
@[simp] theorem sq_23_19 : (("times" : Str) == "set") = false := by decide +kernel
@[simp] theorem sq_23_20 : (("times" : Str) == "strong") = false := by decide +kernel
@[simp] theorem sq_23_21 : (("times" : Str) == "stuck") = false := by decide +kernel
@[simp] theorem sq_23_22 : (("times" : Str) == "swap") = false := by decide +kernel
@[simp] theorem sq_23_23 : (("times" : Str) == "times") = true := by decide +kernel
@[simp] theorem sq_23_24 : (("times" : Str) == "try") = false := by decide +kernel
@[simp] theorem sq_23_25 : (("times" : Str) == "values") = false := by decide +kernel
@[simp] theorem sq_23_26 : (("times" : Str) == "wants") = false := by decide +kernel
@[simp] theorem sq_23_27 : (("times" : Str) == "write") = false := by decide +kernel
@[simp] theorem sq_23_28 : (("times" : Str) == "x") = false := by decide +kernel
@[simp] theorem sq_24_0 : (("try" : Str) == "1") = false := by decide +kernel
@[simp] theorem sq_24_1 : (("try" : Str) == "acquire") = false := by decide +kernel
@[simp] theorem sq_24_2 : (("try" : Str) == "add") = false := by decide +kernel
@[simp] theorem sq_24_3 : (("try" : Str) == "end") = false := by decide +kernel
@[simp] theorem sq_24_4 : (("try" : Str) == "fence") = false := by decide +kernel
@[simp] theorem sq_24_5 : (("try" : Str) == "if") = false := by decide +kernel
@[simp] theorem sq_24_6 : (("try" : Str) == "less") = false := by decide +kernel
@[simp] theorem sq_24_7 : (("try" : Str) == "minus") = false := by decide +kernel
@[simp] theorem sq_24_8 : (("try" : Str) == "need") = false := by decide +kernel
@[simp] theorem sq_24_9 : (("try" : Str) == "not a program") = false := by decide +kernel
@[simp] theorem sq_24_10 : (("try" : Str) == "num") = false := by decide +kernel
@[simp] theorem sq_24_11 : (("try" : Str) == "number") = false := by decide +kernel
@[simp] theorem sq_24_12 : (("try" : Str) == "plain") = false := by decide +kernel
@[simp] theorem sq_24_13 : (("try" : Str) == "plus") = false := by decide +kernel
@[simp] theorem sq_24_14 : (("try" : Str) == "program") = false := by decide +kernel
@[simp] theorem sq_24_15 : (("try" : Str) == "read") = false := by decide +kernel
@[simp] theorem sq_24_16 : (("try" : Str) == "reg") = false := by decide +kernel
@[simp] theorem sq_24_17 : (("try" : Str) == "release") = false := by decide +kernel
@[simp] theorem sq_24_18 : (("try" : Str) == "same") = false := by decide +kernel
@[simp] theorem sq_24_19 : (("try" : Str) == "set") = false := by decide +kernel
@[simp] theorem sq_24_20 : (("try" : Str) == "strong") = false := by decide +kernel
@[simp] theorem sq_24_21 : (("try" : Str) == "stuck") = false := by decide +kernel
@[simp] theorem sq_24_22 : (("try" : Str) == "swap") = false := by decide +kernel
@[simp] theorem sq_24_23 : (("try" : Str) == "times") = false := by decide +kernel
@[simp] theorem sq_24_24 : (("try" : Str) == "try") = true := by decide +kernel
@[simp] theorem sq_24_25 : (("try" : Str) == "values") = false := by decide +kernel
@[simp] theorem sq_24_26 : (("try" : Str) == "wants") = false := by decide +kernel
@[simp] theorem sq_24_27 : (("try" : Str) == "write") = false := by decide +kernel
@[simp] theorem sq_24_28 : (("try" : Str) == "x") = false := by decide +kernel
@[simp] theorem sq_25_0 : (("values" : Str) == "1") = false := by decide +kernel
@[simp] theorem sq_25_1 : (("values" : Str) == "acquire") = false := by decide +kernel
@[simp] theorem sq_25_2 : (("values" : Str) == "add") = false := by decide +kernel
@[simp] theorem sq_25_3 : (("values" : Str) == "end") = false := by decide +kernel
@[simp] theorem sq_25_4 : (("values" : Str) == "fence") = false := by decide +kernel
@[simp] theorem sq_25_5 : (("values" : Str) == "if") = false := by decide +kernel
@[simp] theorem sq_25_6 : (("values" : Str) == "less") = false := by decide +kernel
@[simp] theorem sq_25_7 : (("values" : Str) == "minus") = false := by decide +kernel
@[simp] theorem sq_25_8 : (("values" : Str) == "need") = false := by decide +kernel
@[simp] theorem sq_25_9 : (("values" : Str) == "not a program") = false := by decide +kernel
@[simp] theorem sq_25_10 : (("values" : Str) == "num") = false := by decide +kernel
@[simp] theorem sq_25_11 : (("values" : Str) == "number") = false := by decide +kernel
@[simp] theorem sq_25_12 : (("values" : Str) == "plain") = false := by decide +kernel
@[simp] theorem sq_25_13 : (("values" : Str) == "plus") = false := by decide +kernel
@[simp] theorem sq_25_14 : (("values" : Str) == "program") = false := by decide +kernel
@[simp] theorem sq_25_15 : (("values" : Str) == "read") = false := by decide +kernel
@[simp] theorem sq_25_16 : (("values" : Str) == "reg") = false := by decide +kernel
@[simp] theorem sq_25_17 : (("values" : Str) == "release") = false := by decide +kernel
@[simp] theorem sq_25_18 : (("values" : Str) == "same") = false := by decide +kernel
@[simp] theorem sq_25_19 : (("values" : Str) == "set") = false := by decide +kernel
@[simp] theorem sq_25_20 : (("values" : Str) == "strong") = false := by decide +kernel
@[simp] theorem sq_25_21 : (("values" : Str) == "stuck") = false := by decide +kernel
@[simp] theorem sq_25_22 : (("values" : Str) == "swap") = false := by decide +kernel
@[simp] theorem sq_25_23 : (("values" : Str) == "times") = false := by decide +kernel
@[simp] theorem sq_25_24 : (("values" : Str) == "try") = false := by decide +kernel
@[simp] theorem sq_25_25 : (("values" : Str) == "values") = true := by decide +kernel
@[simp] theorem sq_25_26 : (("values" : Str) == "wants") = false := by decide +kernel
@[simp] theorem sq_25_27 : (("values" : Str) == "write") = false := by decide +kernel
@[simp] theorem sq_25_28 : (("values" : Str) == "x") = false := by decide +kernel
@[simp] theorem sq_26_0 : (("wants" : Str) == "1") = false := by decide +kernel
@[simp] theorem sq_26_1 : (("wants" : Str) == "acquire") = false := by decide +kernel
@[simp] theorem sq_26_2 : (("wants" : Str) == "add") = false := by decide +kernel
@[simp] theorem sq_26_3 : (("wants" : Str) == "end") = false := by decide +kernel
@[simp] theorem sq_26_4 : (("wants" : Str) == "fence") = false := by decide +kernel
@[simp] theorem sq_26_5 : (("wants" : Str) == "if") = false := by decide +kernel
@[simp] theorem sq_26_6 : (("wants" : Str) == "less") = false := by decide +kernel
@[simp] theorem sq_26_7 : (("wants" : Str) == "minus") = false := by decide +kernel
@[simp] theorem sq_26_8 : (("wants" : Str) == "need") = false := by decide +kernel
@[simp] theorem sq_26_9 : (("wants" : Str) == "not a program") = false := by decide +kernel
@[simp] theorem sq_26_10 : (("wants" : Str) == "num") = false := by decide +kernel
@[simp] theorem sq_26_11 : (("wants" : Str) == "number") = false := by decide +kernel
@[simp] theorem sq_26_12 : (("wants" : Str) == "plain") = false := by decide +kernel
@[simp] theorem sq_26_13 : (("wants" : Str) == "plus") = false := by decide +kernel
@[simp] theorem sq_26_14 : (("wants" : Str) == "program") = false := by decide +kernel
@[simp] theorem sq_26_15 : (("wants" : Str) == "read") = false := by decide +kernel
@[simp] theorem sq_26_16 : (("wants" : Str) == "reg") = false := by decide +kernel
@[simp] theorem sq_26_17 : (("wants" : Str) == "release") = false := by decide +kernel
@[simp] theorem sq_26_18 : (("wants" : Str) == "same") = false := by decide +kernel
@[simp] theorem sq_26_19 : (("wants" : Str) == "set") = false := by decide +kernel
@[simp] theorem sq_26_20 : (("wants" : Str) == "strong") = false := by decide +kernel
@[simp] theorem sq_26_21 : (("wants" : Str) == "stuck") = false := by decide +kernel
@[simp] theorem sq_26_22 : (("wants" : Str) == "swap") = false := by decide +kernel
@[simp] theorem sq_26_23 : (("wants" : Str) == "times") = false := by decide +kernel
@[simp] theorem sq_26_24 : (("wants" : Str) == "try") = false := by decide +kernel
@[simp] theorem sq_26_25 : (("wants" : Str) == "values") = false := by decide +kernel
@[simp] theorem sq_26_26 : (("wants" : Str) == "wants") = true := by decide +kernel
@[simp] theorem sq_26_27 : (("wants" : Str) == "write") = false := by decide +kernel
@[simp] theorem sq_26_28 : (("wants" : Str) == "x") = false := by decide +kernel
@[simp] theorem sq_27_0 : (("write" : Str) == "1") = false := by decide +kernel
@[simp] theorem sq_27_1 : (("write" : Str) == "acquire") = false := by decide +kernel
@[simp] theorem sq_27_2 : (("write" : Str) == "add") = false := by decide +kernel
@[simp] theorem sq_27_3 : (("write" : Str) == "end") = false := by decide +kernel
@[simp] theorem sq_27_4 : (("write" : Str) == "fence") = false := by decide +kernel
@[simp] theorem sq_27_5 : (("write" : Str) == "if") = false := by decide +kernel
@[simp] theorem sq_27_6 : (("write" : Str) == "less") = false := by decide +kernel
@[simp] theorem sq_27_7 : (("write" : Str) == "minus") = false := by decide +kernel
@[simp] theorem sq_27_8 : (("write" : Str) == "need") = false := by decide +kernel
@[simp] theorem sq_27_9 : (("write" : Str) == "not a program") = false := by decide +kernel
@[simp] theorem sq_27_10 : (("write" : Str) == "num") = false := by decide +kernel
@[simp] theorem sq_27_11 : (("write" : Str) == "number") = false := by decide +kernel
@[simp] theorem sq_27_12 : (("write" : Str) == "plain") = false := by decide +kernel
@[simp] theorem sq_27_13 : (("write" : Str) == "plus") = false := by decide +kernel
@[simp] theorem sq_27_14 : (("write" : Str) == "program") = false := by decide +kernel
@[simp] theorem sq_27_15 : (("write" : Str) == "read") = false := by decide +kernel
@[simp] theorem sq_27_16 : (("write" : Str) == "reg") = false := by decide +kernel
@[simp] theorem sq_27_17 : (("write" : Str) == "release") = false := by decide +kernel
@[simp] theorem sq_27_18 : (("write" : Str) == "same") = false := by decide +kernel
@[simp] theorem sq_27_19 : (("write" : Str) == "set") = false := by decide +kernel
@[simp] theorem sq_27_20 : (("write" : Str) == "strong") = false := by decide +kernel
@[simp] theorem sq_27_21 : (("write" : Str) == "stuck") = false := by decide +kernel
@[simp] theorem sq_27_22 : (("write" : Str) == "swap") = false := by decide +kernel
@[simp] theorem sq_27_23 : (("write" : Str) == "times") = false := by decide +kernel
@[simp] theorem sq_27_24 : (("write" : Str) == "try") = false := by decide +kernel
@[simp] theorem sq_27_25 : (("write" : Str) == "values") = false := by decide +kernel
@[simp] theorem sq_27_26 : (("write" : Str) == "wants") = false := by decide +kernel
@[simp] theorem sq_27_27 : (("write" : Str) == "write") = true := by decide +kernel
@[simp] theorem sq_27_28 : (("write" : Str) == "x") = false := by decide +kernel
@[simp] theorem sq_28_0 : (("x" : Str) == "1") = false := by decide +kernel
@[simp] theorem sq_28_1 : (("x" : Str) == "acquire") = false := by decide +kernel
@[simp] theorem sq_28_2 : (("x" : Str) == "add") = false := by decide +kernel
@[simp] theorem sq_28_3 : (("x" : Str) == "end") = false := by decide +kernel
@[simp] theorem sq_28_4 : (("x" : Str) == "fence") = false := by decide +kernel
@[simp] theorem sq_28_5 : (("x" : Str) == "if") = false := by decide +kernel
@[simp] theorem sq_28_6 : (("x" : Str) == "less") = false := by decide +kernel
@[simp] theorem sq_28_7 : (("x" : Str) == "minus") = false := by decide +kernel
@[simp] theorem sq_28_8 : (("x" : Str) == "need") = false := by decide +kernel
@[simp] theorem sq_28_9 : (("x" : Str) == "not a program") = false := by decide +kernel
@[simp] theorem sq_28_10 : (("x" : Str) == "num") = false := by decide +kernel
@[simp] theorem sq_28_11 : (("x" : Str) == "number") = false := by decide +kernel
@[simp] theorem sq_28_12 : (("x" : Str) == "plain") = false := by decide +kernel
@[simp] theorem sq_28_13 : (("x" : Str) == "plus") = false := by decide +kernel
@[simp] theorem sq_28_14 : (("x" : Str) == "program") = false := by decide +kernel
@[simp] theorem sq_28_15 : (("x" : Str) == "read") = false := by decide +kernel
@[simp] theorem sq_28_16 : (("x" : Str) == "reg") = false := by decide +kernel
@[simp] theorem sq_28_17 : (("x" : Str) == "release") = false := by decide +kernel
@[simp] theorem sq_28_18 : (("x" : Str) == "same") = false := by decide +kernel
@[simp] theorem sq_28_19 : (("x" : Str) == "set") = false := by decide +kernel
@[simp] theorem sq_28_20 : (("x" : Str) == "strong") = false := by decide +kernel
@[simp] theorem sq_28_21 : (("x" : Str) == "stuck") = false := by decide +kernel
@[simp] theorem sq_28_22 : (("x" : Str) == "swap") = false := by decide +kernel
@[simp] theorem sq_28_23 : (("x" : Str) == "times") = false := by decide +kernel
@[simp] theorem sq_28_24 : (("x" : Str) == "try") = false := by decide +kernel
@[simp] theorem sq_28_25 : (("x" : Str) == "values") = false := by decide +kernel
@[simp] theorem sq_28_26 : (("x" : Str) == "wants") = false := by decide +kernel
@[simp] theorem sq_28_27 : (("x" : Str) == "write") = false := by decide +kernel
@[simp] theorem sq_28_28 : (("x" : Str) == "x") = true := by decide +kernel
end Lw
end
section
set_option Elab.async false
set_option linter.all false
set_option maxRecDepth 100000
set_option maxHeartbeats 0
namespace Lw
open PySem PySem.Spec PyProof.Rows L2 FE

def top (i : Nat) : Stmt := PySem.Challenge.pw_mendedmodels_k01_whole_threads_alone.main.body.getD i (.Pass ⟨0, 0, 0, 0⟩)
structure Bx (K : PySem.W.Frag) (mg : Str → Option Value) : Prop where
  f_abs : mg "abs" = none
  f_all : mg "all" = none
  f_bool : mg "bool" = none
  f_enumerate : mg "enumerate" = none
  f_int : mg "int" = none
  f_isinstance : mg "isinstance" = none
  f_len : mg "len" = none
  f_list : mg "list" = none
  f_range : mg "range" = none
  f_str : mg "str" = none
  f_tuple : mg "tuple" = none
  k_VALUES : Kon K mg "VALUES" k_VALUES
  k_CELLS : Kon K mg "CELLS" k_CELLS
  k_REGISTERS : Kon K mg "REGISTERS" k_REGISTERS
  k_THREADS : Kon K mg "THREADS" k_THREADS
  k_STATEMENTS : Kon K mg "STATEMENTS" k_STATEMENTS
  k_ACCESSES : Kon K mg "ACCESSES" k_ACCESSES
  k_FENCES : Kon K mg "FENCES" k_FENCES
  k_IFS : Kon K mg "IFS" k_IFS
  k_DEEP : Kon K mg "DEEP" k_DEEP
  k_WORKED : Kon K mg "WORKED" k_WORKED
  k_WRITING : Kon K mg "WRITING" k_WRITING
  k_READING : Kon K mg "READING" k_READING
  k_EXCHANGES : Kon K mg "EXCHANGES" k_EXCHANGES
  x_InvalidNumber : Exw K mg "InvalidNumber"
  x_InvalidProgram : Exw K mg "InvalidProgram"
  x_InvalidValues : Exw K mg "InvalidValues"
  n_InvalidNumber : mg "InvalidNumber" = some (.ref (He.ga K "InvalidNumber"))
  c_InvalidNumber : CatOk K mg (.ref (He.ga K "InvalidNumber")) cat_InvalidNumber
  n_InvalidProgram : mg "InvalidProgram" = some (.ref (He.ga K "InvalidProgram"))
  c_InvalidProgram : CatOk K mg (.ref (He.ga K "InvalidProgram")) cat_InvalidProgram
  n_InvalidRow : mg "InvalidRow" = some (.ref (He.ga K "InvalidRow"))
  c_InvalidRow : CatOk K mg (.ref (He.ga K "InvalidRow")) cat_InvalidRow
  n_InvalidValues : mg "InvalidValues" = some (.ref (He.ga K "InvalidValues"))
  c_InvalidValues : CatOk K mg (.ref (He.ga K "InvalidValues")) cat_InvalidValues
  d_is_whole : Df K mg "is_whole" ["value", "low", "high"] (top 21)
  d_is_tuple_of : Df K mg "is_tuple_of" ["value", "low", "high"] (top 22)
  d_is_word_of : Df K mg "is_word_of" ["value", "words"] (top 23)
  d_fits_expression : Df K mg "fits_expression" ["value"] (top 24)
  d_is_register : Df K mg "is_register" ["value"] (top 25)
  d_is_cell : Df K mg "is_cell" ["value"] (top 26)
  d_fits_access : Df K mg "fits_access" ["value"] (top 27)
  d_is_access : Df K mg "is_access" ["statement"] (top 28)
  d_fits_inner : Df K mg "fits_inner" ["value"] (top 29)
  d_blocks_of : Df K mg "blocks_of" ["statement"] (top 30)
  d_all_statements : Df K mg "all_statements" ["block"] (top 31)
  d_fits_block : Df K mg "fits_block" ["value"] (top 32)
  d_fits_program : Df K mg "fits_program" ["value"] (top 33)
  d_numbered_block : Df K mg "numbered_block" ["block", "first"] (top 34)
  d_numbered_threads : Df K mg "numbered_threads" ["program"] (top 35)
  d_accesses_in : Df K mg "accesses_in" ["program"] (top 36)
  d_can_read : Df K mg "can_read" ["statement"] (top 37)
  d_need_program : Df K mg "need_program" ["value"] (top 38)
  d_need_number : Df K mg "need_number" ["value", "low", "high"] (top 39)
  d_worth_by : Df K mg "worth_by" ["expression", "registers"] (top 41)
  d_with_register : Df K mg "with_register" ["registers", "at", "value"] (top 42)
  d_settled : Df K mg "settled" ["rest", "registers"] (top 43)
  d_begun : Df K mg "begun" ["program"] (top 44)
  d_written_by : Df K mg "written_by" ["statement", "registers", "read"] (top 45)
  d_behind : Df K mg "behind" ["rest", "registers", "read"] (top 46)
  d_done_alone : Df K mg "done_alone" ["program", "thread", "values"] (top 47)
  d_fits_values : Df K mg "fits_values" ["program", "value"] (top 48)
  d_thread_alone : Df K mg "thread_alone" ["program", "thread", "values"] (top 49)
  d__law_cup : Df K mg "_law_cup" ["script"] (top 51)
  d__law_roll : Df K mg "_law_roll" ["cup", "many"] (top 52)
  d__law_some : Df K mg "_law_some" ["cup", "things"] (top 53)
  d__law_worth : Df K mg "_law_worth" ["expression", "registers"] (top 54)
  d__law_is_access : Df K mg "_law_is_access" ["statement"] (top 55)
  d__law_numbered : Df K mg "_law_numbered" ["block", "first"] (top 56)
  d__law_threads : Df K mg "_law_threads" ["program"] (top 57)
  d__law_accesses : Df K mg "_law_accesses" ["block"] (top 58)
  d__law_all : Df K mg "_law_all" ["program"] (top 59)
  d__law_settled : Df K mg "_law_settled" ["rest", "registers"] (top 60)
  d__law_written : Df K mg "_law_written" ["statement", "registers", "read"] (top 61)
  d__law_behind : Df K mg "_law_behind" ["rest", "registers", "read"] (top 62)
  d__law_begun : Df K mg "_law_begun" ["program"] (top 63)
  d__law_expression : Df K mg "_law_expression" ["cup", "deep"] (top 64)
  d__law_access : Df K mg "_law_access" ["cup", "cells"] (top 65)
  d__law_thread : Df K mg "_law_thread" ["cup", "accesses", "cells"] (top 66)
  d__law_program : Df K mg "_law_program" ["cup", "accesses"] (top 67)
  d__law_word : Df K mg "_law_word" ["call"] (top 68)
  d__law_due : Df K mg "_law_due" ["program", "thread", "values"] (top 69)
  d_law : Df K mg "law" ["script"] (top 70)
structure Fs (P : Program) (w : World) (K : PySem.W.Frag) (mg : Str → Option Value) (base : Heap) (n : Nat) (c : Nat → FS) : Prop where
  f_is_whole : GF P w K mg base n "is_whole" ["value", "low", "high"] (c 0)
  f_is_tuple_of : GF P w K mg base n "is_tuple_of" ["value", "low", "high"] (c 1)
  f_is_word_of : GF P w K mg base n "is_word_of" ["value", "words"] (c 2)
  f_fits_expression : GF P w K mg base n "fits_expression" ["value"] (c 3)
  f_is_register : GF P w K mg base n "is_register" ["value"] (c 4)
  f_is_cell : GF P w K mg base n "is_cell" ["value"] (c 5)
  f_fits_access : GF P w K mg base n "fits_access" ["value"] (c 6)
  f_is_access : GF P w K mg base n "is_access" ["statement"] (c 7)
  f_fits_inner : GF P w K mg base n "fits_inner" ["value"] (c 8)
  f_blocks_of : GF P w K mg base n "blocks_of" ["statement"] (c 9)
  f_all_statements : GF P w K mg base n "all_statements" ["block"] (c 10)
  f_fits_block : GF P w K mg base n "fits_block" ["value"] (c 11)
  f_fits_program : GF P w K mg base n "fits_program" ["value"] (c 12)
  f_numbered_block : GF P w K mg base n "numbered_block" ["block", "first"] (c 13)
  f_numbered_threads : GF P w K mg base n "numbered_threads" ["program"] (c 14)
  f_accesses_in : GF P w K mg base n "accesses_in" ["program"] (c 15)
  f_can_read : GF P w K mg base n "can_read" ["statement"] (c 16)
  f_need_program : GF P w K mg base n "need_program" ["value"] (c 17)
  f_need_number : GF P w K mg base n "need_number" ["value", "low", "high"] (c 18)
  f_worth_by : GF P w K mg base n "worth_by" ["expression", "registers"] (c 19)
  f_with_register : GF P w K mg base n "with_register" ["registers", "at", "value"] (c 20)
  f_settled : GF P w K mg base n "settled" ["rest", "registers"] (c 21)
  f_begun : GF P w K mg base n "begun" ["program"] (c 22)
  f_written_by : GF P w K mg base n "written_by" ["statement", "registers", "read"] (c 23)
  f_behind : GF P w K mg base n "behind" ["rest", "registers", "read"] (c 24)
  f_done_alone : GF P w K mg base n "done_alone" ["program", "thread", "values"] (c 25)
  f_fits_values : GF P w K mg base n "fits_values" ["program", "value"] (c 26)
  f_thread_alone : GF P w K mg base n "thread_alone" ["program", "thread", "values"] (c 27)
  f__law_cup : GF P w K mg base n "_law_cup" ["script"] (c 28)
  f__law_roll : GF P w K mg base n "_law_roll" ["cup", "many"] (c 29)
  f__law_some : GF P w K mg base n "_law_some" ["cup", "things"] (c 30)
  f__law_worth : GF P w K mg base n "_law_worth" ["expression", "registers"] (c 31)
  f__law_is_access : GF P w K mg base n "_law_is_access" ["statement"] (c 32)
  f__law_numbered : GF P w K mg base n "_law_numbered" ["block", "first"] (c 33)
  f__law_threads : GF P w K mg base n "_law_threads" ["program"] (c 34)
  f__law_accesses : GF P w K mg base n "_law_accesses" ["block"] (c 35)
  f__law_all : GF P w K mg base n "_law_all" ["program"] (c 36)
  f__law_settled : GF P w K mg base n "_law_settled" ["rest", "registers"] (c 37)
  f__law_written : GF P w K mg base n "_law_written" ["statement", "registers", "read"] (c 38)
  f__law_behind : GF P w K mg base n "_law_behind" ["rest", "registers", "read"] (c 39)
  f__law_begun : GF P w K mg base n "_law_begun" ["program"] (c 40)
  f__law_expression : GF P w K mg base n "_law_expression" ["cup", "deep"] (c 41)
  f__law_access : GF P w K mg base n "_law_access" ["cup", "cells"] (c 42)
  f__law_thread : GF P w K mg base n "_law_thread" ["cup", "accesses", "cells"] (c 43)
  f__law_program : GF P w K mg base n "_law_program" ["cup", "accesses"] (c 44)
  f__law_due : GF P w K mg base n "_law_due" ["program", "thread", "values"] (c 45)
section
variable {P : Program} {w : World} {K : PySem.W.Frag} {mg : Str → Option Value} {base : Heap} {n : Nat} {c : Nat → FS}
theorem wd (B : Bx K mg) : Wd K mg "_law_word" "call" (top 68) ["call", "error"] wl where
  df := B.d__law_word
  sc := ⟨rfl, rfl, rfl, by decide +kernel, rfl, by decide +kernel, by decide +kernel⟩
  n0 := rfl
  vi := by first | exact Or.inl rfl | exact Or.inr (Or.inl rfl)
  h0 := fun _ => rfl
  bd := ⟨_, _, [_, _, _, _], [_], [(.ref (He.ga K "InvalidProgram"), "program"), (.ref (He.ga K "InvalidNumber"), "number"), (.ref (He.ga K "InvalidValues"), "values"), (.ref (He.ga K "InvalidRow"), "row")], _, _, _, _, _, _, _, rfl, rfl, .cons rfl B.n_InvalidProgram (by decide) (.cons rfl B.n_InvalidNumber (by decide) (.cons rfl B.n_InvalidValues (by decide) (.cons rfl B.n_InvalidRow (by decide) (.nil)))), .cons B.c_InvalidProgram (.cons B.c_InvalidNumber (.cons B.c_InvalidValues (.cons B.c_InvalidRow (.nil))))⟩
theorem w_is_whole (B : Bx K mg) (F : Fs P w K mg base n c) : GF P w K mg base (n + 1) "is_whole" ["value", "low", "high"] (b_is_whole c) :=
  GF.make (N := ["value", "low", "high"]) B.d_is_whole ⟨rfl, rfl, rfl, by decide +kernel, rfl, by decide +kernel, by decide +kernel⟩ rfl fun X H0 W cdv A outer s H E f hX hgu hr tk => by
    have hu : X.A.units + 64 < cLine := by have := hr.un; omega
    have hu1 : X.A.units + 65 < cLine := by have := hr.un; omega
    have hu2 : X.A.units + 150 < cLine := by have := hr.un; omega
    subst hX
    have ND : (["value", "low", "high"] : List Str).Nodup := by decide +kernel
    exact fb_one (fs_ret (fe_and (fe_isi (t := .int) rfl B.f_isinstance (fe_v (pv 0)) rfl B.f_int bt_int) (fe_and (fe_not (fe_isi (t := .bool) rfl B.f_isinstance (fe_v (pv 0)) rfl B.f_bool bt_bool)) (fe_one (fe_chain or_le or_le (fe_v (pv 1)) (fe_v (pv 0)) (fe_v (pv 2)))))))
theorem w_is_tuple_of (B : Bx K mg) (F : Fs P w K mg base n c) : GF P w K mg base (n + 1) "is_tuple_of" ["value", "low", "high"] (b_is_tuple_of c) :=
  GF.make (N := ["value", "low", "high"]) B.d_is_tuple_of ⟨rfl, rfl, rfl, by decide +kernel, rfl, by decide +kernel, by decide +kernel⟩ rfl fun X H0 W cdv A outer s H E f hX hgu hr tk => by
    have hu : X.A.units + 64 < cLine := by have := hr.un; omega
    have hu1 : X.A.units + 65 < cLine := by have := hr.un; omega
    have hu2 : X.A.units + 150 < cLine := by have := hr.un; omega
    subst hX
    have ND : (["value", "low", "high"] : List Str).Nodup := by decide +kernel
    exact fb_one (fs_ret (fe_and (fe_isi (t := .tuple) rfl B.f_isinstance (fe_v (pv 0)) rfl B.f_tuple bt_tuple) (fe_one (fe_chain or_le or_le (fe_v (pv 1)) (fe_bi cr_len rfl B.f_len bt_len (fa_cons (fe_v (pv 0)) (fa_nil))) (fe_v (pv 2))))))
theorem w_is_word_of (B : Bx K mg) (F : Fs P w K mg base n c) : GF P w K mg base (n + 1) "is_word_of" ["value", "words"] (b_is_word_of c) :=
  GF.make (N := ["value", "words"]) B.d_is_word_of ⟨rfl, rfl, rfl, by decide +kernel, rfl, by decide +kernel, by decide +kernel⟩ rfl fun X H0 W cdv A outer s H E f hX hgu hr tk => by
    have hu : X.A.units + 64 < cLine := by have := hr.un; omega
    have hu1 : X.A.units + 65 < cLine := by have := hr.un; omega
    have hu2 : X.A.units + 150 < cLine := by have := hr.un; omega
    subst hX
    have ND : (["value", "words"] : List Str).Nodup := by decide +kernel
    exact fb_one (fs_ret (fe_and (fe_isi (t := .str) rfl B.f_isinstance (fe_v (pv 0)) rfl B.f_str bt_str) (fe_one (fe_cmp (or_in hu1) (fe_v (pv 0)) (fe_v (pv 1)) (by first | rfl | with_unfolding_all rfl)))))
theorem w_fits_expression (B : Bx K mg) (F : Fs P w K mg base n c) : GF P w K mg base (n + 1) "fits_expression" ["value"] (b_fits_expression c) :=
  GF.make (N := ["value", "line", "one", "deep", "most"]) B.d_fits_expression ⟨rfl, rfl, rfl, by decide +kernel, rfl, by decide +kernel, by decide +kernel⟩ rfl fun X H0 W cdv A outer s H E f hX hgu hr tk => by
    have hu : X.A.units + 64 < cLine := by have := hr.un; omega
    have hu1 : X.A.units + 65 < cLine := by have := hr.un; omega
    have hu2 : X.A.units + 150 < cLine := by have := hr.un; omega
    subst hX
    have ND : (["value", "line", "one", "deep", "most"] : List Str).Nodup := by decide +kernel
    exact fb_cons (fs_set ND rfl (by first | exact Or.inl rfl | exact Or.inr rfl) (fe_lst (fa_cons (fe_tup (fa_cons (fe_v (pv 0)) (fa_cons (fe_int) (fa_nil)))) (fa_nil)))) (fb_cons (fs_while (passes_of rfl) (ft_cmp (or_ne hu) (fe_v (pv 1)) (fe_lst (fa_nil))) (fb_cons (fs_asg (fe_pop (pv 1)) (fg_tup rfl (fgs_cons (fg_name ND rfl (by first | exact Or.inl rfl | exact Or.inr rfl)) (fgs_cons (fg_name ND rfl (by first | exact Or.inl rfl | exact Or.inr rfl)) (fgs_nil))))) (fb_cons (fs_if (ft_w (fw_or (ft_cmp or_gt (fe_v (pv 3)) (fe_k B.k_DEEP)) (fw_or (ft_not (ft_val (fe_F F.f_is_tuple_of hgu hr tk (fa_cons (fe_v (pv 2)) (fa_cons (fe_int) (fa_cons (fe_int) (fa_nil)))) (.cons (.cons (.cons .nil)))))) (fw_or1 (ft_not (ft_val (fe_isi (t := .str) rfl B.f_isinstance (fe_ix xr_ix (fe_v (pv 2)) (fe_int)) rfl B.f_str bt_str))))))) (fb_one (fs_ret (fe_bl))) (fb_nil)) (fb_one (fs_if (ft_cmp (or_eq hu) (fe_bi cr_len rfl B.f_len bt_len (fa_cons (fe_v (pv 2)) (fa_nil))) (fe_int)) (fb_cons (fs_set ND rfl (by first | exact Or.inl rfl | exact Or.inr rfl) (fe_if (ft_cmp (or_eq hu) (fe_ix xr_ix (fe_v (pv 2)) (fe_int)) (fe_str)) (fe_k B.k_VALUES) (fe_k B.k_REGISTERS))) (fb_one (fs_if (ft_w (fw_or (ft_cmp (or_notin hu1) (fe_ix xr_ix (fe_v (pv 2)) (fe_int)) (fe_tup (fa_cons (fe_str) (fa_cons (fe_str) (fa_nil)))) (by first | rfl | with_unfolding_all rfl)) (fw_or1 (ft_not (ft_val (fe_F F.f_is_whole hgu hr tk (fa_cons (fe_ix xr_ix (fe_v (pv 2)) (fe_int)) (fa_cons (fe_int) (fa_cons (fe_op or_sub (fe_v (pv 4)) (fe_int)) (fa_nil)))) (.cons (.cons (.cons .nil))))))))) (fb_one (fs_ret (fe_bl))) (fb_nil)))) (fb_one (fs_if (ft_cmp (or_in hu1) (fe_ix xr_ix (fe_v (pv 2)) (fe_int)) (fe_k B.k_WORKED) (by first | rfl | with_unfolding_all rfl)) (fb_one (fs_ext ND rfl (by first | exact Or.inl rfl | exact Or.inr rfl) (fe_lst (fa_cons (fe_tup (fa_cons (fe_ix xr_ix (fe_v (pv 2)) (fe_int)) (fa_cons (fe_op or_add (fe_v (pv 3)) (fe_int)) (fa_nil)))) (fa_cons (fe_tup (fa_cons (fe_ix xr_ix (fe_v (pv 2)) (fe_int)) (fa_cons (fe_op or_add (fe_v (pv 3)) (fe_int)) (fa_nil)))) (fa_nil)))))) (fb_one (fs_ret (fe_bl)))))))))) (fb_one (fs_ret (fe_bl))))
theorem w_is_register (B : Bx K mg) (F : Fs P w K mg base n c) : GF P w K mg base (n + 1) "is_register" ["value"] (b_is_register c) :=
  GF.make (N := ["value"]) B.d_is_register ⟨rfl, rfl, rfl, by decide +kernel, rfl, by decide +kernel, by decide +kernel⟩ rfl fun X H0 W cdv A outer s H E f hX hgu hr tk => by
    have hu : X.A.units + 64 < cLine := by have := hr.un; omega
    have hu1 : X.A.units + 65 < cLine := by have := hr.un; omega
    have hu2 : X.A.units + 150 < cLine := by have := hr.un; omega
    subst hX
    have ND : (["value"] : List Str).Nodup := by decide +kernel
    exact fb_one (fs_ret (fe_F F.f_is_whole hgu hr tk (fa_cons (fe_v (pv 0)) (fa_cons (fe_int) (fa_cons (fe_op or_sub (fe_k B.k_REGISTERS) (fe_int)) (fa_nil)))) (.cons (.cons (.cons .nil)))))
theorem w_is_cell (B : Bx K mg) (F : Fs P w K mg base n c) : GF P w K mg base (n + 1) "is_cell" ["value"] (b_is_cell c) :=
  GF.make (N := ["value"]) B.d_is_cell ⟨rfl, rfl, rfl, by decide +kernel, rfl, by decide +kernel, by decide +kernel⟩ rfl fun X H0 W cdv A outer s H E f hX hgu hr tk => by
    have hu : X.A.units + 64 < cLine := by have := hr.un; omega
    have hu1 : X.A.units + 65 < cLine := by have := hr.un; omega
    have hu2 : X.A.units + 150 < cLine := by have := hr.un; omega
    subst hX
    have ND : (["value"] : List Str).Nodup := by decide +kernel
    exact fb_one (fs_ret (fe_F F.f_is_whole hgu hr tk (fa_cons (fe_v (pv 0)) (fa_cons (fe_int) (fa_cons (fe_op or_sub (fe_k B.k_CELLS) (fe_int)) (fa_nil)))) (.cons (.cons (.cons .nil)))))
theorem w_fits_access (B : Bx K mg) (F : Fs P w K mg base n c) : GF P w K mg base (n + 1) "fits_access" ["value"] (b_fits_access c) :=
  GF.make (N := ["value", "word", "many", "one"]) B.d_fits_access ⟨rfl, rfl, rfl, by decide +kernel, rfl, by decide +kernel, by decide +kernel⟩ rfl fun X H0 W cdv A outer s H E f hX hgu hr tk => by
    have hu : X.A.units + 64 < cLine := by have := hr.un; omega
    have hu1 : X.A.units + 65 < cLine := by have := hr.un; omega
    have hu2 : X.A.units + 150 < cLine := by have := hr.un; omega
    subst hX
    have ND : (["value", "word", "many", "one"] : List Str).Nodup := by decide +kernel
    exact fb_cons (fs_par rfl ND rfl rfl (by decide) rfl rfl (fa_cons (fe_ix xr_ix (fe_v (pv 0)) (fe_int)) (fa_cons (fe_bi cr_len rfl B.f_len bt_len (fa_cons (fe_v (pv 0)) (fa_nil))) (fa_nil))) (by rfl)) (fb_cons (fs_if (ft_cmp (or_eq hu) (fe_v (pv 1)) (fe_str)) (fb_one (fs_ret (fe_and (fe_cmp (or_eq hu) (fe_v (pv 2)) (fe_int)) (fe_and (fe_F F.f_is_cell hgu hr tk (fa_cons (fe_ix xr_ix (fe_v (pv 0)) (fe_int)) (fa_nil)) (.cons .nil)) (fe_and (fe_F F.f_is_word_of hgu hr tk (fa_cons (fe_ix xr_ix (fe_v (pv 0)) (fe_int)) (fa_cons (fe_k B.k_WRITING) (fa_nil))) (.cons (.cons .nil))) (fe_one (fe_F F.f_fits_expression hgu hr tk (fa_cons (fe_ix xr_ix (fe_v (pv 0)) (fe_int)) (fa_nil)) (.cons .nil)))))))) (fb_nil)) (fb_cons (fs_if (ft_w (fw_or (ft_cmp or_lt (fe_v (pv 2)) (fe_int)) (fw_or (ft_not (ft_val (fe_F F.f_is_register hgu hr tk (fa_cons (fe_ix xr_ix (fe_v (pv 0)) (fe_int)) (fa_nil)) (.cons .nil)))) (fw_or1 (ft_not (ft_val (fe_F F.f_is_cell hgu hr tk (fa_cons (fe_ix xr_ix (fe_v (pv 0)) (fe_int)) (fa_nil)) (.cons .nil)))))))) (fb_one (fs_ret (fe_bl))) (fb_nil)) (fb_cons (fs_if (ft_cmp (or_eq hu) (fe_v (pv 1)) (fe_str)) (fb_one (fs_ret (fe_and (fe_cmp (or_eq hu) (fe_v (pv 2)) (fe_int)) (fe_one (fe_F F.f_is_word_of hgu hr tk (fa_cons (fe_ix xr_ix (fe_v (pv 0)) (fe_int)) (fa_cons (fe_k B.k_READING) (fa_nil))) (.cons (.cons .nil))))))) (fb_nil)) (fb_cons (fs_if (ft_cmp (or_ne hu) (fe_v (pv 2)) (fe_if (ft_cmp (or_eq hu) (fe_v (pv 1)) (fe_str)) (fe_int) (fe_int))) (fb_one (fs_ret (fe_bl))) (fb_nil)) (fb_one (fs_ret (fe_bi (cr_all' rfl) rfl B.f_all bt_all (fa_cons (fe_lc (own := [("one", 3)]) rfl ND (fi_seq (fe_sl sr_sl (fe_v (pv 0)) (fo_at (fe_int)) (fo_no))) (blkOk_by (by kernel_rfl)) (by decide) (gin_name) (fun s H C cl fp => fg_name ND rfl (by first | exact Or.inl rfl | exact Or.inr rfl)) (fun s H C cl fp => fts_nil) (fun s H C cl fp => fe_F F.f_fits_expression hgu hr takes0 (fa_cons (fe_v (pv 3)) (fa_nil)) (.cons .nil))) (fa_nil)))))))))
theorem w_is_access (B : Bx K mg) (F : Fs P w K mg base n c) : GF P w K mg base (n + 1) "is_access" ["statement"] (b_is_access c) :=
  GF.make (N := ["statement"]) B.d_is_access ⟨rfl, rfl, rfl, by decide +kernel, rfl, by decide +kernel, by decide +kernel⟩ rfl fun X H0 W cdv A outer s H E f hX hgu hr tk => by
    have hu : X.A.units + 64 < cLine := by have := hr.un; omega
    have hu1 : X.A.units + 65 < cLine := by have := hr.un; omega
    have hu2 : X.A.units + 150 < cLine := by have := hr.un; omega
    subst hX
    have ND : (["statement"] : List Str).Nodup := by decide +kernel
    exact fb_one (fs_ret (fe_or (fe_cmp (or_in hu1) (fe_ix xr_ix (fe_v (pv 0)) (fe_int)) (fe_tup (fa_cons (fe_str) (fa_cons (fe_str) (fa_nil)))) (by first | rfl | with_unfolding_all rfl)) (fe_one (fe_cmp (or_in hu1) (fe_ix xr_ix (fe_v (pv 0)) (fe_int)) (fe_k B.k_EXCHANGES) (by first | rfl | with_unfolding_all rfl)))))
theorem w_fits_inner (B : Bx K mg) (F : Fs P w K mg base n c) : GF P w K mg base (n + 1) "fits_inner" ["value"] (b_fits_inner c) :=
  GF.make (N := ["value", "word", "many"]) B.d_fits_inner ⟨rfl, rfl, rfl, by decide +kernel, rfl, by decide +kernel, by decide +kernel⟩ rfl fun X H0 W cdv A outer s H E f hX hgu hr tk => by
    have hu : X.A.units + 64 < cLine := by have := hr.un; omega
    have hu1 : X.A.units + 65 < cLine := by have := hr.un; omega
    have hu2 : X.A.units + 150 < cLine := by have := hr.un; omega
    subst hX
    have ND : (["value", "word", "many"] : List Str).Nodup := by decide +kernel
    exact fb_cons (fs_par rfl ND rfl rfl (by decide) rfl rfl (fa_cons (fe_ix xr_ix (fe_v (pv 0)) (fe_int)) (fa_cons (fe_bi cr_len rfl B.f_len bt_len (fa_cons (fe_v (pv 0)) (fa_nil))) (fa_nil))) (by rfl)) (fb_cons (fs_if (ft_cmp (or_eq hu) (fe_v (pv 1)) (fe_str)) (fb_one (fs_ret (fe_cmp (or_eq hu) (fe_v (pv 2)) (fe_int)))) (fb_nil)) (fb_cons (fs_if (ft_cmp (or_eq hu) (fe_v (pv 1)) (fe_str)) (fb_one (fs_ret (fe_and (fe_cmp (or_eq hu) (fe_v (pv 2)) (fe_int)) (fe_one (fe_F F.f_fits_expression hgu hr tk (fa_cons (fe_ix xr_ix (fe_v (pv 0)) (fe_int)) (fa_nil)) (.cons .nil)))))) (fb_nil)) (fb_cons (fs_if (ft_cmp (or_eq hu) (fe_v (pv 1)) (fe_str)) (fb_one (fs_ret (fe_and (fe_cmp (or_eq hu) (fe_v (pv 2)) (fe_int)) (fe_and (fe_F F.f_is_register hgu hr tk (fa_cons (fe_ix xr_ix (fe_v (pv 0)) (fe_int)) (fa_nil)) (.cons .nil)) (fe_one (fe_F F.f_fits_expression hgu hr tk (fa_cons (fe_ix xr_ix (fe_v (pv 0)) (fe_int)) (fa_nil)) (.cons .nil))))))) (fb_nil)) (fb_cons (fs_if (ft_w (fw_or (ft_cmp (or_ne hu) (fe_v (pv 1)) (fe_str)) (fw_or (ft_cmp (or_ne hu) (fe_v (pv 2)) (fe_int)) (fw_or1 (ft_not (ft_val (fe_F F.f_fits_expression hgu hr tk (fa_cons (fe_ix xr_ix (fe_v (pv 0)) (fe_int)) (fa_nil)) (.cons .nil)))))))) (fb_one (fs_ret (fe_bl))) (fb_nil)) (fb_one (fs_ret (fe_and (fe_F F.f_is_tuple_of hgu hr tk (fa_cons (fe_ix xr_ix (fe_v (pv 0)) (fe_int)) (fa_cons (fe_int) (fa_cons (fe_k B.k_STATEMENTS) (fa_nil)))) (.cons (.cons (.cons .nil)))) (fe_one (fe_F F.f_is_tuple_of hgu hr tk (fa_cons (fe_ix xr_ix (fe_v (pv 0)) (fe_int)) (fa_cons (fe_int) (fa_cons (fe_k B.k_STATEMENTS) (fa_nil)))) (.cons (.cons (.cons .nil))))))))))))
theorem w_blocks_of (B : Bx K mg) (F : Fs P w K mg base n c) : GF P w K mg base (n + 1) "blocks_of" ["statement"] (b_blocks_of c) :=
  GF.make (N := ["statement"]) B.d_blocks_of ⟨rfl, rfl, rfl, by decide +kernel, rfl, by decide +kernel, by decide +kernel⟩ rfl fun X H0 W cdv A outer s H E f hX hgu hr tk => by
    have hu : X.A.units + 64 < cLine := by have := hr.un; omega
    have hu1 : X.A.units + 65 < cLine := by have := hr.un; omega
    have hu2 : X.A.units + 150 < cLine := by have := hr.un; omega
    subst hX
    have ND : (["statement"] : List Str).Nodup := by decide +kernel
    exact fb_one (fs_ret (fe_if (ft_cmp (or_eq hu) (fe_ix xr_ix (fe_v (pv 0)) (fe_int)) (fe_str)) (fe_lst (fa_cons (fe_ix xr_ix (fe_v (pv 0)) (fe_int)) (fa_cons (fe_ix xr_ix (fe_v (pv 0)) (fe_int)) (fa_nil)))) (fe_lst (fa_nil))))
theorem w_all_statements (B : Bx K mg) (F : Fs P w K mg base n c) : GF P w K mg base (n + 1) "all_statements" ["block"] (b_all_statements c) :=
  GF.make (N := ["block", "found", "line", "one", "part", "inner"]) B.d_all_statements ⟨rfl, rfl, rfl, by decide +kernel, rfl, by decide +kernel, by decide +kernel⟩ rfl fun X H0 W cdv A outer s H E f hX hgu hr tk => by
    have hu : X.A.units + 64 < cLine := by have := hr.un; omega
    have hu1 : X.A.units + 65 < cLine := by have := hr.un; omega
    have hu2 : X.A.units + 150 < cLine := by have := hr.un; omega
    subst hX
    have ND : (["block", "found", "line", "one", "part", "inner"] : List Str).Nodup := by decide +kernel
    exact fb_cons (fs_par rfl ND rfl rfl (by decide) rfl rfl (fa_cons (fe_lst (fa_nil)) (fa_cons (fe_ty cr_list rfl B.f_list bt_list (fa_cons (fe_v (pv 0)) (fa_nil))) (fa_nil))) (by rfl)) (fb_cons (fs_while (passes_of rfl) (ft_cmp (or_ne hu) (fe_v (pv 2)) (fe_lst (fa_nil))) (fb_cons (fs_set ND rfl (by first | exact Or.inl rfl | exact Or.inr rfl) (fe_popAt (pv 2) (by decide) (by decide))) (fb_cons (fs_ex (fe_app (pv 1) (fe_v (pv 3)))) (fb_one (fs_set ND rfl (by first | exact Or.inl rfl | exact Or.inr rfl) (fe_op or_add (fe_lc2 (own := [("part", 4), ("inner", 5)]) (vs1 := [5]) rfl ND (fi_seq (fe_F F.f_blocks_of hgu hr tk (fa_cons (fe_v (pv 3)) (fa_nil)) (.cons .nil))) (blkOk_by (by kernel_rfl)) (by decide) (by decide) (gin_name) (by decide) (gin_name) (fun s H C cl fp => fg_name ND rfl (by first | exact Or.inl rfl | exact Or.inr rfl)) (fun s H C cl fp => fts_nil) (fun s H C cl fp => fi_seq (fe_v (pv 4))) (fun s H C cl fp => fg_name ND rfl (by first | exact Or.inl rfl | exact Or.inr rfl)) (fun s H C cl fp => fts_nil) (fun s H C cl fp => fe_v (pv 5))) (fe_v (pv 2)))))))) (fb_one (fs_ret (fe_v (pv 1)))))
theorem w_fits_block (B : Bx K mg) (F : Fs P w K mg base n c) : GF P w K mg base (n + 1) "fits_block" ["value"] (b_fits_block c) :=
  GF.make (N := ["value", "line", "many", "one", "deep", "part", "inner"]) B.d_fits_block ⟨rfl, rfl, rfl, by decide +kernel, rfl, by decide +kernel, by decide +kernel⟩ rfl fun X H0 W cdv A outer s H E f hX hgu hr tk => by
    have hu : X.A.units + 64 < cLine := by have := hr.un; omega
    have hu1 : X.A.units + 65 < cLine := by have := hr.un; omega
    have hu2 : X.A.units + 150 < cLine := by have := hr.un; omega
    subst hX
    have ND : (["value", "line", "many", "one", "deep", "part", "inner"] : List Str).Nodup := by decide +kernel
    exact fb_cons (fs_if (ft_not (ft_val (fe_F F.f_is_tuple_of hgu hr tk (fa_cons (fe_v (pv 0)) (fa_cons (fe_int) (fa_cons (fe_k B.k_STATEMENTS) (fa_nil)))) (.cons (.cons (.cons .nil)))))) (fb_one (fs_ret (fe_bl))) (fb_nil)) (fb_cons (fs_par rfl ND rfl rfl (by decide) rfl rfl (fa_cons (fe_lc (own := [("one", 3)]) rfl ND (fi_seq (fe_v (pv 0))) (blkOk_by (by kernel_rfl)) (by decide) (gin_name) (fun s H C cl fp => fg_name ND rfl (by first | exact Or.inl rfl | exact Or.inr rfl)) (fun s H C cl fp => fts_nil) (fun s H C cl fp => fe_tup (fa_cons (fe_v (pv 3)) (fa_cons (fe_int) (fa_nil))))) (fa_cons (fe_int) (fa_nil))) (by rfl)) (fb_cons (fs_while (passes_of rfl) (ft_cmp (or_ne hu) (fe_v (pv 1)) (fe_lst (fa_nil))) (fb_cons (fs_asg (fe_pop (pv 1)) (fg_tup rfl (fgs_cons (fg_name ND rfl (by first | exact Or.inl rfl | exact Or.inr rfl)) (fgs_cons (fg_name ND rfl (by first | exact Or.inl rfl | exact Or.inr rfl)) (fgs_nil))))) (fb_cons (fs_set ND rfl (by first | exact Or.inl rfl | exact Or.inr rfl) (fe_op or_add (fe_v (pv 2)) (fe_int))) (fb_cons (fs_if (ft_w (fw_or (ft_cmp or_gt (fe_v (pv 2)) (fe_k B.k_STATEMENTS)) (fw_or (ft_not (ft_val (fe_F F.f_is_tuple_of hgu hr tk (fa_cons (fe_v (pv 3)) (fa_cons (fe_int) (fa_cons (fe_int) (fa_nil)))) (.cons (.cons (.cons .nil)))))) (fw_or1 (ft_not (ft_val (fe_isi (t := .str) rfl B.f_isinstance (fe_ix xr_ix (fe_v (pv 3)) (fe_int)) rfl B.f_str bt_str))))))) (fb_one (fs_ret (fe_bl))) (fb_nil)) (fb_cons (fs_if (ft_not (ft_if (ft_val (fe_F F.f_is_access hgu hr tk (fa_cons (fe_v (pv 3)) (fa_nil)) (.cons .nil))) (ft_val (fe_F F.f_fits_access hgu hr tk (fa_cons (fe_v (pv 3)) (fa_nil)) (.cons .nil))) (ft_val (fe_F F.f_fits_inner hgu hr tk (fa_cons (fe_v (pv 3)) (fa_nil)) (.cons .nil))))) (fb_one (fs_ret (fe_bl))) (fb_nil)) (fb_cons (fs_if (ft_w (fw_and (ft_cmp (or_eq hu) (fe_ix xr_ix (fe_v (pv 3)) (fe_int)) (fe_str)) (fw_and1 (ft_cmp (or_eq hu) (fe_v (pv 4)) (fe_k B.k_IFS))))) (fb_one (fs_ret (fe_bl))) (fb_nil)) (fb_one (fs_ext ND rfl (by first | exact Or.inl rfl | exact Or.inr rfl) (fe_lc2 (own := [("part", 5), ("inner", 6)]) (vs1 := [6]) rfl ND (fi_seq (fe_F F.f_blocks_of hgu hr tk (fa_cons (fe_v (pv 3)) (fa_nil)) (.cons .nil))) (blkOk_by (by kernel_rfl)) (by decide) (by decide) (gin_name) (by decide) (gin_name) (fun s H C cl fp => fg_name ND rfl (by first | exact Or.inl rfl | exact Or.inr rfl)) (fun s H C cl fp => fts_nil) (fun s H C cl fp => fi_seq (fe_v (pv 5))) (fun s H C cl fp => fg_name ND rfl (by first | exact Or.inl rfl | exact Or.inr rfl)) (fun s H C cl fp => fts_nil) (fun s H C cl fp => fe_tup (fa_cons (fe_v (pv 6)) (fa_cons (fe_op or_add (fe_v (pv 4)) (fe_int)) (fa_nil))))))))))))) (fb_one (fs_ret (fe_bl)))))
theorem w_fits_program (B : Bx K mg) (F : Fs P w K mg base n c) : GF P w K mg base (n + 1) "fits_program" ["value"] (b_fits_program c) :=
  GF.make (N := ["value", "every", "one", "block"]) B.d_fits_program ⟨rfl, rfl, rfl, by decide +kernel, rfl, by decide +kernel, by decide +kernel⟩ rfl fun X H0 W cdv A outer s H E f hX hgu hr tk => by
    have hu : X.A.units + 64 < cLine := by have := hr.un; omega
    have hu1 : X.A.units + 65 < cLine := by have := hr.un; omega
    have hu2 : X.A.units + 150 < cLine := by have := hr.un; omega
    subst hX
    have ND : (["value", "every", "one", "block"] : List Str).Nodup := by decide +kernel
    exact fb_cons (fs_if (ft_w (fw_or (ft_not (ft_val (fe_F F.f_is_tuple_of hgu hr tk (fa_cons (fe_v (pv 0)) (fa_cons (fe_int) (fa_cons (fe_k B.k_THREADS) (fa_nil)))) (.cons (.cons (.cons .nil)))))) (fw_or1 (ft_not (ft_val (fe_bi (cr_all' rfl) rfl B.f_all bt_all (fa_cons (fe_lc (own := [("one", 2)]) rfl ND (fi_seq (fe_v (pv 0))) (blkOk_by (by kernel_rfl)) (by decide) (gin_name) (fun s H C cl fp => fg_name ND rfl (by first | exact Or.inl rfl | exact Or.inr rfl)) (fun s H C cl fp => fts_nil) (fun s H C cl fp => fe_F F.f_fits_block hgu hr takes0 (fa_cons (fe_v (pv 2)) (fa_nil)) (.cons .nil))) (fa_nil)))))))) (fb_one (fs_ret (fe_bl))) (fb_nil)) (fb_cons (fs_setLc2 (own := [("block", 3), ("one", 2)]) (vs1 := [2]) rfl ND (fi_seq (fe_v (pv 0))) (blkOk_by (by kernel_rfl)) (by decide) (by decide) (gin_name) (by decide) (gin_name) (fun s H C cl fp => fg_name ND rfl (by first | exact Or.inl rfl | exact Or.inr rfl)) (fun s H C cl fp => fts_nil) (fun s H C cl fp => fi_seq (fe_F F.f_all_statements hgu hr takes0 (fa_cons (fe_v (pv 3)) (fa_nil)) (.cons .nil))) (fun s H C cl fp => fg_name ND rfl (by first | exact Or.inl rfl | exact Or.inr rfl)) (fun s H C cl fp => fts_nil) (fun s H C cl fp => fe_v (pv 2)) rfl rfl (by rfl)) (fb_cons (fs_if (ft_cmp or_gt (fe_bi cr_len rfl B.f_len bt_len (fa_cons (fe_lc (own := [("one", 2)]) rfl ND (fi_seq (fe_v (pv 1))) (blkOk_by (by kernel_rfl)) (by decide) (gin_name) (fun s H C cl fp => fg_name ND rfl (by first | exact Or.inl rfl | exact Or.inr rfl)) (fun s H C cl fp => fts_one (ft_val (fe_F F.f_is_access hgu hr takes0 (fa_cons (fe_v (pv 2)) (fa_nil)) (.cons .nil)))) (fun s H C cl fp => fe_v (pv 2))) (fa_nil))) (fe_k B.k_ACCESSES)) (fb_one (fs_ret (fe_bl))) (fb_nil)) (fb_one (fs_ret (fe_cmp or_le (fe_bi cr_len rfl B.f_len bt_len (fa_cons (fe_lc (own := [("one", 2)]) rfl ND (fi_seq (fe_v (pv 1))) (blkOk_by (by kernel_rfl)) (by decide) (gin_name) (fun s H C cl fp => fg_name ND rfl (by first | exact Or.inl rfl | exact Or.inr rfl)) (fun s H C cl fp => fts_one (ft_cmp (or_eq hu) (fe_ix xr_ix (fe_v (pv 2)) (fe_int)) (fe_str))) (fun s H C cl fp => fe_v (pv 2))) (fa_nil))) (fe_k B.k_FENCES))))))
theorem w_numbered_block (B : Bx K mg) (F : Fs P w K mg base n c) : GF P w K mg base (n + 1) "numbered_block" ["block", "first"] (b_numbered_block c) :=
  GF.make (N := ["block", "first", "found", "one", "yes", "no"]) B.d_numbered_block ⟨rfl, rfl, rfl, by decide +kernel, rfl, by decide +kernel, by decide +kernel⟩ rfl fun X H0 W cdv A outer s H E f hX hgu hr tk => by
    have hu : X.A.units + 64 < cLine := by have := hr.un; omega
    have hu1 : X.A.units + 65 < cLine := by have := hr.un; omega
    have hu2 : X.A.units + 150 < cLine := by have := hr.un; omega
    subst hX
    have ND : (["block", "first", "found", "one", "yes", "no"] : List Str).Nodup := by decide +kernel
    exact fb_cons (fs_set ND rfl (by first | exact Or.inl rfl | exact Or.inr rfl) (fe_lst (fa_nil))) (fb_cons (fs_for (passes_of rfl) rfl (fi_seq (fe_v (pv 0))) (fg_name ND rfl (by first | exact Or.inl rfl | exact Or.inr rfl)) (fb_one (fs_if (ft_val (fe_F F.f_is_access hgu hr tk (fa_cons (fe_v (pv 3)) (fa_nil)) (.cons .nil))) (fb_cons (fs_ex (fe_app (pv 2) (fe_op or_add (fe_v (pv 3)) (fe_tup (fa_cons (fe_v (pv 1)) (fa_nil)))))) (fb_one (fs_set ND rfl (by first | exact Or.inl rfl | exact Or.inr rfl) (fe_op or_add (fe_v (pv 1)) (fe_int))))) (fb_one (fs_if (ft_cmp (or_eq hu) (fe_ix xr_ix (fe_v (pv 3)) (fe_int)) (fe_str)) (fb_cons (fs_asg (fe_F F.f_numbered_block hgu hr tk (fa_cons (fe_ix xr_ix (fe_v (pv 3)) (fe_int)) (fa_cons (fe_v (pv 1)) (fa_nil))) (.cons (.cons .nil))) (fg_tup rfl (fgs_cons (fg_name ND rfl (by first | exact Or.inl rfl | exact Or.inr rfl)) (fgs_cons (fg_name ND rfl (by first | exact Or.inl rfl | exact Or.inr rfl)) (fgs_nil))))) (fb_cons (fs_asg (fe_F F.f_numbered_block hgu hr tk (fa_cons (fe_ix xr_ix (fe_v (pv 3)) (fe_int)) (fa_cons (fe_v (pv 1)) (fa_nil))) (.cons (.cons .nil))) (fg_tup rfl (fgs_cons (fg_name ND rfl (by first | exact Or.inl rfl | exact Or.inr rfl)) (fgs_cons (fg_name ND rfl (by first | exact Or.inl rfl | exact Or.inr rfl)) (fgs_nil))))) (fb_one (fs_ex (fe_app (pv 2) (fe_tup (fa_cons (fe_str) (fa_cons (fe_ix xr_ix (fe_v (pv 3)) (fe_int)) (fa_cons (fe_v (pv 4)) (fa_cons (fe_v (pv 5)) (fa_nil))))))))))) (fb_one (fs_ex (fe_app (pv 2) (fe_v (pv 3)))))))))) (fb_one (fs_ret (fe_tup (fa_cons (fe_ty cr_tuple rfl B.f_tuple bt_tuple (fa_cons (fe_v (pv 2)) (fa_nil))) (fa_cons (fe_v (pv 1)) (fa_nil)))))))
theorem w_numbered_threads (B : Bx K mg) (F : Fs P w K mg base n c) : GF P w K mg base (n + 1) "numbered_threads" ["program"] (b_numbered_threads c) :=
  GF.make (N := ["program", "found", "first", "block", "own"]) B.d_numbered_threads ⟨rfl, rfl, rfl, by decide +kernel, rfl, by decide +kernel, by decide +kernel⟩ rfl fun X H0 W cdv A outer s H E f hX hgu hr tk => by
    have hu : X.A.units + 64 < cLine := by have := hr.un; omega
    have hu1 : X.A.units + 65 < cLine := by have := hr.un; omega
    have hu2 : X.A.units + 150 < cLine := by have := hr.un; omega
    subst hX
    have ND : (["program", "found", "first", "block", "own"] : List Str).Nodup := by decide +kernel
    exact fb_cons (fs_par rfl ND rfl rfl (by decide) rfl rfl (fa_cons (fe_lst (fa_nil)) (fa_cons (fe_int) (fa_nil))) (by rfl)) (fb_cons (fs_for (passes_of rfl) rfl (fi_seq (fe_v (pv 0))) (fg_name ND rfl (by first | exact Or.inl rfl | exact Or.inr rfl)) (fb_cons (fs_asg (fe_F F.f_numbered_block hgu hr tk (fa_cons (fe_v (pv 3)) (fa_cons (fe_v (pv 2)) (fa_nil))) (.cons (.cons .nil))) (fg_tup rfl (fgs_cons (fg_name ND rfl (by first | exact Or.inl rfl | exact Or.inr rfl)) (fgs_cons (fg_name ND rfl (by first | exact Or.inl rfl | exact Or.inr rfl)) (fgs_nil))))) (fb_one (fs_ex (fe_app (pv 1) (fe_v (pv 4))))))) (fb_one (fs_ret (fe_ty cr_tuple rfl B.f_tuple bt_tuple (fa_cons (fe_v (pv 1)) (fa_nil))))))
theorem w_accesses_in (B : Bx K mg) (F : Fs P w K mg base n c) : GF P w K mg base (n + 1) "accesses_in" ["program"] (b_accesses_in c) :=
  GF.make (N := ["program", "at", "block", "one"]) B.d_accesses_in ⟨rfl, rfl, rfl, by decide +kernel, rfl, by decide +kernel, by decide +kernel⟩ rfl fun X H0 W cdv A outer s H E f hX hgu hr tk => by
    have hu : X.A.units + 64 < cLine := by have := hr.un; omega
    have hu1 : X.A.units + 65 < cLine := by have := hr.un; omega
    have hu2 : X.A.units + 150 < cLine := by have := hr.un; omega
    subst hX
    have ND : (["program", "at", "block", "one"] : List Str).Nodup := by decide +kernel
    exact fb_one (fs_ret (fe_lc2 (own := [("at", 1), ("block", 2), ("one", 3)]) (vs1 := [3]) rfl ND (fi_enum rfl B.f_enumerate (fe_v (pv 0))) (blkOk_by (by kernel_rfl)) (by decide) (by decide) (gin_tup (gsin_cons (gin_name) (gsin_cons (gin_name) (gsin_nil)))) (by decide) (gin_name) (fun s H C cl fp => fg_tup rfl (fgs_cons (fg_name ND rfl (by first | exact Or.inl rfl | exact Or.inr rfl)) (fgs_cons (fg_name ND rfl (by first | exact Or.inl rfl | exact Or.inr rfl)) (fgs_nil)))) (fun s H C cl fp => fts_nil) (fun s H C cl fp => fi_seq (fe_F F.f_all_statements hgu hr takes0 (fa_cons (fe_v (pv 2)) (fa_nil)) (.cons .nil))) (fun s H C cl fp => fg_name ND rfl (by first | exact Or.inl rfl | exact Or.inr rfl)) (fun s H C cl fp => fts_one (ft_val (fe_F F.f_is_access hgu hr takes0 (fa_cons (fe_v (pv 3)) (fa_nil)) (.cons .nil)))) (fun s H C cl fp => fe_tup (fa_cons (fe_v (pv 1)) (fa_cons (fe_v (pv 3)) (fa_nil))))))
theorem w_can_read (B : Bx K mg) (F : Fs P w K mg base n c) : GF P w K mg base (n + 1) "can_read" ["statement"] (b_can_read c) :=
  GF.make (N := ["statement"]) B.d_can_read ⟨rfl, rfl, rfl, by decide +kernel, rfl, by decide +kernel, by decide +kernel⟩ rfl fun X H0 W cdv A outer s H E f hX hgu hr tk => by
    have hu : X.A.units + 64 < cLine := by have := hr.un; omega
    have hu1 : X.A.units + 65 < cLine := by have := hr.un; omega
    have hu2 : X.A.units + 150 < cLine := by have := hr.un; omega
    subst hX
    have ND : (["statement"] : List Str).Nodup := by decide +kernel
    exact fb_one (fs_ret (fe_cmp (or_ne hu) (fe_ix xr_ix (fe_v (pv 0)) (fe_int)) (fe_str)))
theorem w_need_program (B : Bx K mg) (F : Fs P w K mg base n c) : GF P w K mg base (n + 1) "need_program" ["value"] (b_need_program c) :=
  GF.make (N := ["value"]) B.d_need_program ⟨rfl, rfl, rfl, by decide +kernel, rfl, by decide +kernel, by decide +kernel⟩ rfl fun X H0 W cdv A outer s H E f hX hgu hr tk => by
    have hu : X.A.units + 64 < cLine := by have := hr.un; omega
    have hu1 : X.A.units + 65 < cLine := by have := hr.un; omega
    have hu2 : X.A.units + 150 < cLine := by have := hr.un; omega
    subst hX
    have ND : (["value"] : List Str).Nodup := by decide +kernel
    exact fb_one (fs_if (ft_not (ft_val (fe_F F.f_fits_program hgu hr tk (fa_cons (fe_v (pv 0)) (fa_nil)) (.cons .nil)))) (fb_one (fs_raise rfl tk B.x_InvalidProgram.exF rfl)) (fb_nil))
theorem w_need_number (B : Bx K mg) (F : Fs P w K mg base n c) : GF P w K mg base (n + 1) "need_number" ["value", "low", "high"] (b_need_number c) :=
  GF.make (N := ["value", "low", "high"]) B.d_need_number ⟨rfl, rfl, rfl, by decide +kernel, rfl, by decide +kernel, by decide +kernel⟩ rfl fun X H0 W cdv A outer s H E f hX hgu hr tk => by
    have hu : X.A.units + 64 < cLine := by have := hr.un; omega
    have hu1 : X.A.units + 65 < cLine := by have := hr.un; omega
    have hu2 : X.A.units + 150 < cLine := by have := hr.un; omega
    subst hX
    have ND : (["value", "low", "high"] : List Str).Nodup := by decide +kernel
    exact fb_one (fs_if (ft_not (ft_val (fe_F F.f_is_whole hgu hr tk (fa_cons (fe_v (pv 0)) (fa_cons (fe_v (pv 1)) (fa_cons (fe_v (pv 2)) (fa_nil)))) (.cons (.cons (.cons .nil)))))) (fb_one (fs_raise rfl tk B.x_InvalidNumber.exF rfl)) (fb_nil))
theorem w_worth_by (B : Bx K mg) (F : Fs P w K mg base n c) : GF P w K mg base (n + 1) "worth_by" ["expression", "registers"] (b_worth_by c) :=
  GF.make (N := ["expression", "registers", "word", "one", "other"]) B.d_worth_by ⟨rfl, rfl, rfl, by decide +kernel, rfl, by decide +kernel, by decide +kernel⟩ rfl fun X H0 W cdv A outer s H E f hX hgu hr tk => by
    have hu : X.A.units + 64 < cLine := by have := hr.un; omega
    have hu1 : X.A.units + 65 < cLine := by have := hr.un; omega
    have hu2 : X.A.units + 150 < cLine := by have := hr.un; omega
    subst hX
    have ND : (["expression", "registers", "word", "one", "other"] : List Str).Nodup := by decide +kernel
    exact fb_cons (fs_set ND rfl (by first | exact Or.inl rfl | exact Or.inr rfl) (fe_ix xr_ix (fe_v (pv 0)) (fe_int))) (fb_cons (fs_if (ft_cmp (or_eq hu) (fe_v (pv 2)) (fe_str)) (fb_one (fs_ret (fe_ix xr_ix (fe_v (pv 0)) (fe_int)))) (fb_nil)) (fb_cons (fs_if (ft_cmp (or_eq hu) (fe_v (pv 2)) (fe_str)) (fb_one (fs_ret (fe_ix xr_ix (fe_v (pv 1)) (fe_ix xr_ix (fe_v (pv 0)) (fe_int))))) (fb_nil)) (fb_cons (fs_par rfl ND rfl rfl (by decide) rfl rfl (fa_cons (fe_F F.f_worth_by hgu hr tk (fa_cons (fe_ix xr_ix (fe_v (pv 0)) (fe_int)) (fa_cons (fe_v (pv 1)) (fa_nil))) (.cons (.cons .nil))) (fa_cons (fe_F F.f_worth_by hgu hr tk (fa_cons (fe_ix xr_ix (fe_v (pv 0)) (fe_int)) (fa_cons (fe_v (pv 1)) (fa_nil))) (.cons (.cons .nil))) (fa_nil))) (by rfl)) (fb_cons (fs_if (ft_cmp (or_eq hu) (fe_v (pv 2)) (fe_str)) (fb_one (fs_ret (fe_if (ft_cmp (or_eq hu) (fe_v (pv 3)) (fe_v (pv 4))) (fe_int) (fe_int)))) (fb_nil)) (fb_cons (fs_if (ft_cmp (or_eq hu) (fe_v (pv 2)) (fe_str)) (fb_one (fs_ret (fe_if (ft_cmp or_lt (fe_v (pv 3)) (fe_v (pv 4))) (fe_int) (fe_int)))) (fb_nil)) (fb_one (fs_ret (fe_op or_mod (fe_if (ft_cmp (or_eq hu) (fe_v (pv 2)) (fe_str)) (fe_op or_add (fe_v (pv 3)) (fe_v (pv 4))) (fe_if (ft_cmp (or_eq hu) (fe_v (pv 2)) (fe_str)) (fe_op or_sub (fe_v (pv 3)) (fe_v (pv 4))) (fe_op or_mul (fe_v (pv 3)) (fe_v (pv 4))))) (fe_k B.k_VALUES)))))))))
theorem w_with_register (B : Bx K mg) (F : Fs P w K mg base n c) : GF P w K mg base (n + 1) "with_register" ["registers", "at", "value"] (b_with_register c) :=
  GF.make (N := ["registers", "at", "value"]) B.d_with_register ⟨rfl, rfl, rfl, by decide +kernel, rfl, by decide +kernel, by decide +kernel⟩ rfl fun X H0 W cdv A outer s H E f hX hgu hr tk => by
    have hu : X.A.units + 64 < cLine := by have := hr.un; omega
    have hu1 : X.A.units + 65 < cLine := by have := hr.un; omega
    have hu2 : X.A.units + 150 < cLine := by have := hr.un; omega
    subst hX
    have ND : (["registers", "at", "value"] : List Str).Nodup := by decide +kernel
    exact fb_one (fs_ret (fe_op or_add (fe_op or_add (fe_sl sr_sl (fe_v (pv 0)) (fo_no) (fo_at (fe_v (pv 1)))) (fe_tup (fa_cons (fe_v (pv 2)) (fa_nil)))) (fe_sl sr_sl (fe_v (pv 0)) (fo_at (fe_op or_add (fe_v (pv 1)) (fe_int))) (fo_no))))
theorem w_settled (B : Bx K mg) (F : Fs P w K mg base n c) : GF P w K mg base (n + 1) "settled" ["rest", "registers"] (b_settled c) :=
  GF.make (N := ["rest", "registers", "one"]) B.d_settled ⟨rfl, rfl, rfl, by decide +kernel, rfl, by decide +kernel, by decide +kernel⟩ rfl fun X H0 W cdv A outer s H E f hX hgu hr tk => by
    have hu : X.A.units + 64 < cLine := by have := hr.un; omega
    have hu1 : X.A.units + 65 < cLine := by have := hr.un; omega
    have hu2 : X.A.units + 150 < cLine := by have := hr.un; omega
    subst hX
    have ND : (["rest", "registers", "one"] : List Str).Nodup := by decide +kernel
    exact fb_cons (fs_while (passes_of rfl) (ft_w (fw_and (ft_cmp (or_ne hu) (fe_v (pv 0)) (fe_tup (fa_nil))) (fw_and1 (ft_cmp (or_in hu1) (fe_ix xr_ix (fe_ix xr_ix (fe_v (pv 0)) (fe_int)) (fe_int)) (fe_tup (fa_cons (fe_str) (fa_cons (fe_str) (fa_cons (fe_str) (fa_nil))))) (by first | rfl | with_unfolding_all rfl))))) (fb_cons (fs_set ND rfl (by first | exact Or.inl rfl | exact Or.inr rfl) (fe_ix xr_ix (fe_v (pv 0)) (fe_int))) (fb_one (fs_if (ft_cmp (or_eq hu) (fe_ix xr_ix (fe_v (pv 2)) (fe_int)) (fe_str)) (fb_one (fs_par rfl ND rfl rfl (by decide) rfl rfl (fa_cons (fe_sl sr_sl (fe_v (pv 0)) (fo_at (fe_int)) (fo_no)) (fa_cons (fe_F F.f_with_register hgu hr tk (fa_cons (fe_v (pv 1)) (fa_cons (fe_ix xr_ix (fe_v (pv 2)) (fe_int)) (fa_cons (fe_F F.f_worth_by hgu hr tk (fa_cons (fe_ix xr_ix (fe_v (pv 2)) (fe_int)) (fa_cons (fe_v (pv 1)) (fa_nil))) (.cons (.cons .nil))) (fa_nil)))) (.cons (.cons (.cons .nil)))) (fa_nil))) (by rfl))) (fb_one (fs_if (ft_cmp (or_eq hu) (fe_ix xr_ix (fe_v (pv 2)) (fe_int)) (fe_str)) (fb_cons (fs_if (ft_cmp (or_eq hu) (fe_F F.f_worth_by hgu hr tk (fa_cons (fe_ix xr_ix (fe_v (pv 2)) (fe_int)) (fa_cons (fe_v (pv 1)) (fa_nil))) (.cons (.cons .nil))) (fe_int)) (fb_one (fs_ret (fe_tup (fa_cons (fe_non) (fa_cons (fe_v (pv 1)) (fa_nil)))))) (fb_nil)) (fb_one (fs_set ND rfl (by first | exact Or.inl rfl | exact Or.inr rfl) (fe_sl sr_sl (fe_v (pv 0)) (fo_at (fe_int)) (fo_no))))) (fb_one (fs_set ND rfl (by first | exact Or.inl rfl | exact Or.inr rfl) (fe_op or_add (fe_if (ft_cmp (or_ne hu) (fe_F F.f_worth_by hgu hr tk (fa_cons (fe_ix xr_ix (fe_v (pv 2)) (fe_int)) (fa_cons (fe_v (pv 1)) (fa_nil))) (.cons (.cons .nil))) (fe_int)) (fe_ix xr_ix (fe_v (pv 2)) (fe_int)) (fe_ix xr_ix (fe_v (pv 2)) (fe_int))) (fe_sl sr_sl (fe_v (pv 0)) (fo_at (fe_int)) (fo_no))))))))))) (fb_one (fs_ret (fe_tup (fa_cons (fe_v (pv 0)) (fa_cons (fe_v (pv 1)) (fa_nil))))))
theorem w_begun (B : Bx K mg) (F : Fs P w K mg base n c) : GF P w K mg base (n + 1) "begun" ["program"] (b_begun c) :=
  GF.make (N := ["program", "block"]) B.d_begun ⟨rfl, rfl, rfl, by decide +kernel, rfl, by decide +kernel, by decide +kernel⟩ rfl fun X H0 W cdv A outer s H E f hX hgu hr tk => by
    have hu : X.A.units + 64 < cLine := by have := hr.un; omega
    have hu1 : X.A.units + 65 < cLine := by have := hr.un; omega
    have hu2 : X.A.units + 150 < cLine := by have := hr.un; omega
    subst hX
    have ND : (["program", "block"] : List Str).Nodup := by decide +kernel
    exact fb_one (fs_ret (fe_ty cr_tuple rfl B.f_tuple bt_tuple (fa_cons (fe_lc (own := [("block", 1)]) rfl ND (fi_seq (fe_F F.f_numbered_threads hgu hr tk (fa_cons (fe_v (pv 0)) (fa_nil)) (.cons .nil))) (blkOk_by (by kernel_rfl)) (by decide) (gin_name) (fun s H C cl fp => fg_name ND rfl (by first | exact Or.inl rfl | exact Or.inr rfl)) (fun s H C cl fp => fts_nil) (fun s H C cl fp => fe_F F.f_settled hgu hr takes0 (fa_cons (fe_v (pv 1)) (fa_cons (fe_op or_mul (fe_tup (fa_cons (fe_int) (fa_nil))) (fe_k B.k_REGISTERS)) (fa_nil))) (.cons (.cons .nil)))) (fa_nil))))
theorem w_written_by (B : Bx K mg) (F : Fs P w K mg base n c) : GF P w K mg base (n + 1) "written_by" ["statement", "registers", "read"] (b_written_by c) :=
  GF.make (N := ["statement", "registers", "read", "word"]) B.d_written_by ⟨rfl, rfl, rfl, by decide +kernel, rfl, by decide +kernel, by decide +kernel⟩ rfl fun X H0 W cdv A outer s H E f hX hgu hr tk => by
    have hu : X.A.units + 64 < cLine := by have := hr.un; omega
    have hu1 : X.A.units + 65 < cLine := by have := hr.un; omega
    have hu2 : X.A.units + 150 < cLine := by have := hr.un; omega
    subst hX
    have ND : (["statement", "registers", "read", "word"] : List Str).Nodup := by decide +kernel
    exact fb_cons (fs_set ND rfl (by first | exact Or.inl rfl | exact Or.inr rfl) (fe_ix xr_ix (fe_v (pv 0)) (fe_int))) (fb_cons (fs_if (ft_cmp (or_eq hu) (fe_v (pv 3)) (fe_str)) (fb_one (fs_ret (fe_F F.f_worth_by hgu hr tk (fa_cons (fe_ix xr_ix (fe_v (pv 0)) (fe_int)) (fa_cons (fe_v (pv 1)) (fa_nil))) (.cons (.cons .nil))))) (fb_nil)) (fb_cons (fs_if (ft_cmp (or_eq hu) (fe_v (pv 3)) (fe_str)) (fb_one (fs_ret (fe_F F.f_worth_by hgu hr tk (fa_cons (fe_ix xr_ix (fe_v (pv 0)) (fe_int)) (fa_cons (fe_v (pv 1)) (fa_nil))) (.cons (.cons .nil))))) (fb_nil)) (fb_cons (fs_if (ft_cmp (or_eq hu) (fe_v (pv 3)) (fe_str)) (fb_one (fs_ret (fe_op or_mod (fe_op or_add (fe_v (pv 2)) (fe_F F.f_worth_by hgu hr tk (fa_cons (fe_ix xr_ix (fe_v (pv 0)) (fe_int)) (fa_cons (fe_v (pv 1)) (fa_nil))) (.cons (.cons .nil)))) (fe_k B.k_VALUES)))) (fb_nil)) (fb_cons (fs_if (ft_w (fw_and (ft_cmp (or_eq hu) (fe_v (pv 3)) (fe_str)) (fw_and1 (ft_cmp (or_eq hu) (fe_v (pv 2)) (fe_F F.f_worth_by hgu hr tk (fa_cons (fe_ix xr_ix (fe_v (pv 0)) (fe_int)) (fa_cons (fe_v (pv 1)) (fa_nil))) (.cons (.cons .nil))))))) (fb_one (fs_ret (fe_F F.f_worth_by hgu hr tk (fa_cons (fe_ix xr_ix (fe_v (pv 0)) (fe_int)) (fa_cons (fe_v (pv 1)) (fa_nil))) (.cons (.cons .nil))))) (fb_nil)) (fb_one (fs_ret (fe_non)))))))
theorem w_behind (B : Bx K mg) (F : Fs P w K mg base n c) : GF P w K mg base (n + 1) "behind" ["rest", "registers", "read"] (b_behind c) :=
  GF.make (N := ["rest", "registers", "read", "one"]) B.d_behind ⟨rfl, rfl, rfl, by decide +kernel, rfl, by decide +kernel, by decide +kernel⟩ rfl fun X H0 W cdv A outer s H E f hX hgu hr tk => by
    have hu : X.A.units + 64 < cLine := by have := hr.un; omega
    have hu1 : X.A.units + 65 < cLine := by have := hr.un; omega
    have hu2 : X.A.units + 150 < cLine := by have := hr.un; omega
    subst hX
    have ND : (["rest", "registers", "read", "one"] : List Str).Nodup := by decide +kernel
    exact fb_cons (fs_set ND rfl (by first | exact Or.inl rfl | exact Or.inr rfl) (fe_ix xr_ix (fe_v (pv 0)) (fe_int))) (fb_cons (fs_if (ft_w (fw_and (ft_val (fe_F F.f_is_access hgu hr tk (fa_cons (fe_v (pv 3)) (fa_nil)) (.cons .nil))) (fw_and1 (ft_val (fe_F F.f_can_read hgu hr tk (fa_cons (fe_v (pv 3)) (fa_nil)) (.cons .nil)))))) (fb_one (fs_set ND rfl (by first | exact Or.inl rfl | exact Or.inr rfl) (fe_F F.f_with_register hgu hr tk (fa_cons (fe_v (pv 1)) (fa_cons (fe_ix xr_ix (fe_v (pv 3)) (fe_int)) (fa_cons (fe_v (pv 2)) (fa_nil)))) (.cons (.cons (.cons .nil)))))) (fb_nil)) (fb_one (fs_ret (fe_F F.f_settled hgu hr tk (fa_cons (fe_sl sr_sl (fe_v (pv 0)) (fo_at (fe_int)) (fo_no)) (fa_cons (fe_v (pv 1)) (fa_nil))) (.cons (.cons .nil))))))
theorem w_done_alone (B : Bx K mg) (F : Fs P w K mg base n c) : GF P w K mg base (n + 1) "done_alone" ["program", "thread", "values"] (b_done_alone c) :=
  GF.make (N := ["program", "thread", "values", "rest", "registers", "found", "one", "read"]) B.d_done_alone ⟨rfl, rfl, rfl, by decide +kernel, rfl, by decide +kernel, by decide +kernel⟩ rfl fun X H0 W cdv A outer s H E f hX hgu hr tk => by
    have hu : X.A.units + 64 < cLine := by have := hr.un; omega
    have hu1 : X.A.units + 65 < cLine := by have := hr.un; omega
    have hu2 : X.A.units + 150 < cLine := by have := hr.un; omega
    subst hX
    have ND : (["program", "thread", "values", "rest", "registers", "found", "one", "read"] : List Str).Nodup := by decide +kernel
    exact fb_cons (fs_asg (fe_ix xr_ix (fe_F F.f_begun hgu hr tk (fa_cons (fe_v (pv 0)) (fa_nil)) (.cons .nil)) (fe_v (pv 1))) (fg_tup rfl (fgs_cons (fg_name ND rfl (by first | exact Or.inl rfl | exact Or.inr rfl)) (fgs_cons (fg_name ND rfl (by first | exact Or.inl rfl | exact Or.inr rfl)) (fgs_nil))))) (fb_cons (fs_set ND rfl (by first | exact Or.inl rfl | exact Or.inr rfl) (fe_lst (fa_nil))) (fb_cons (fs_while (passes_of rfl) (ft_w (fw_and (ft_cmp or_isnot (fe_v (pv 3)) (fe_non)) (fw_and1 (ft_cmp (or_ne hu) (fe_v (pv 3)) (fe_tup (fa_nil)))))) (fb_cons (fs_set ND rfl (by first | exact Or.inl rfl | exact Or.inr rfl) (fe_ix xr_ix (fe_v (pv 3)) (fe_int))) (fb_cons (fs_set ND rfl (by first | exact Or.inl rfl | exact Or.inr rfl) (fe_non)) (fb_cons (fs_if (ft_val (fe_F F.f_is_access hgu hr tk (fa_cons (fe_v (pv 6)) (fa_nil)) (.cons .nil))) (fb_cons (fs_if (ft_val (fe_F F.f_can_read hgu hr tk (fa_cons (fe_v (pv 6)) (fa_nil)) (.cons .nil))) (fb_cons (fs_set ND rfl (by first | exact Or.inl rfl | exact Or.inr rfl) (fe_ix xr_ix (fe_v (pv 2)) (fe_ix xr_ix (fe_v (pv 6)) (fe_un ur_neg (fe_int))))) (fb_one (fs_if (ft_cmp or_is (fe_v (pv 7)) (fe_non)) (fb_one (fs_ret (fe_tup (fa_cons (fe_ty cr_tuple rfl B.f_tuple bt_tuple (fa_cons (fe_v (pv 5)) (fa_nil))) (fa_cons (fe_v (pv 4)) (fa_cons (fe_str) (fa_nil))))))) (fb_nil)))) (fb_nil)) (fb_one (fs_ex (fe_app (pv 5) (fe_tup (fa_cons (fe_ix xr_ix (fe_v (pv 6)) (fe_un ur_neg (fe_int))) (fa_cons (fe_v (pv 7)) (fa_cons (fe_F F.f_written_by hgu hr tk (fa_cons (fe_v (pv 6)) (fa_cons (fe_v (pv 4)) (fa_cons (fe_v (pv 7)) (fa_nil)))) (.cons (.cons (.cons .nil)))) (fa_nil))))))))) (fb_nil)) (fb_one (fs_asg (fe_F F.f_behind hgu hr tk (fa_cons (fe_v (pv 3)) (fa_cons (fe_v (pv 4)) (fa_cons (fe_v (pv 7)) (fa_nil)))) (.cons (.cons (.cons .nil)))) (fg_tup rfl (fgs_cons (fg_name ND rfl (by first | exact Or.inl rfl | exact Or.inr rfl)) (fgs_cons (fg_name ND rfl (by first | exact Or.inl rfl | exact Or.inr rfl)) (fgs_nil)))))))))) (fb_one (fs_ret (fe_tup (fa_cons (fe_ty cr_tuple rfl B.f_tuple bt_tuple (fa_cons (fe_v (pv 5)) (fa_nil))) (fa_cons (fe_v (pv 4)) (fa_cons (fe_if (ft_cmp or_is (fe_v (pv 3)) (fe_non)) (fe_str) (fe_str)) (fa_nil)))))))))
theorem w_fits_values (B : Bx K mg) (F : Fs P w K mg base n c) : GF P w K mg base (n + 1) "fits_values" ["program", "value"] (b_fits_values c) :=
  GF.make (N := ["program", "value", "many", "one"]) B.d_fits_values ⟨rfl, rfl, rfl, by decide +kernel, rfl, by decide +kernel, by decide +kernel⟩ rfl fun X H0 W cdv A outer s H E f hX hgu hr tk => by
    have hu : X.A.units + 64 < cLine := by have := hr.un; omega
    have hu1 : X.A.units + 65 < cLine := by have := hr.un; omega
    have hu2 : X.A.units + 150 < cLine := by have := hr.un; omega
    subst hX
    have ND : (["program", "value", "many", "one"] : List Str).Nodup := by decide +kernel
    exact fb_cons (fs_set ND rfl (by first | exact Or.inl rfl | exact Or.inr rfl) (fe_bi cr_len rfl B.f_len bt_len (fa_cons (fe_F F.f_accesses_in hgu hr tk (fa_cons (fe_v (pv 0)) (fa_nil)) (.cons .nil)) (fa_nil)))) (fb_one (fs_ret (fe_and (fe_F F.f_is_tuple_of hgu hr tk (fa_cons (fe_v (pv 1)) (fa_cons (fe_v (pv 2)) (fa_cons (fe_v (pv 2)) (fa_nil)))) (.cons (.cons (.cons .nil)))) (fe_one (fe_bi (cr_all' rfl) rfl B.f_all bt_all (fa_cons (fe_lc (own := [("one", 3)]) rfl ND (fi_seq (fe_v (pv 1))) (blkOk_by (by kernel_rfl)) (by decide) (gin_name) (fun s H C cl fp => fg_name ND rfl (by first | exact Or.inl rfl | exact Or.inr rfl)) (fun s H C cl fp => fts_nil) (fun s H C cl fp => fe_or (fe_cmp or_is (fe_v (pv 3)) (fe_non)) (fe_one (fe_F F.f_is_whole hgu hr takes0 (fa_cons (fe_v (pv 3)) (fa_cons (fe_int) (fa_cons (fe_op or_sub (fe_k B.k_VALUES) (fe_int)) (fa_nil)))) (.cons (.cons (.cons .nil))))))) (fa_nil)))))))
theorem w_thread_alone (B : Bx K mg) (F : Fs P w K mg base n c) : GF P w K mg base (n + 1) "thread_alone" ["program", "thread", "values"] (b_thread_alone c) :=
  GF.make (N := ["program", "thread", "values"]) B.d_thread_alone ⟨rfl, rfl, rfl, by decide +kernel, rfl, by decide +kernel, by decide +kernel⟩ rfl fun X H0 W cdv A outer s H E f hX hgu hr tk => by
    have hu : X.A.units + 64 < cLine := by have := hr.un; omega
    have hu1 : X.A.units + 65 < cLine := by have := hr.un; omega
    have hu2 : X.A.units + 150 < cLine := by have := hr.un; omega
    subst hX
    have ND : (["program", "thread", "values"] : List Str).Nodup := by decide +kernel
    exact fb_cons (fs_ex (fe_F F.f_need_program hgu hr tk (fa_cons (fe_v (pv 0)) (fa_nil)) (.cons .nil))) (fb_cons (fs_ex (fe_F F.f_need_number hgu hr tk (fa_cons (fe_v (pv 1)) (fa_cons (fe_int) (fa_cons (fe_op or_sub (fe_bi cr_len rfl B.f_len bt_len (fa_cons (fe_v (pv 0)) (fa_nil))) (fe_int)) (fa_nil)))) (.cons (.cons (.cons .nil))))) (fb_cons (fs_if (ft_not (ft_val (fe_F F.f_fits_values hgu hr tk (fa_cons (fe_v (pv 0)) (fa_cons (fe_v (pv 2)) (fa_nil))) (.cons (.cons .nil))))) (fb_one (fs_raise rfl tk B.x_InvalidValues.exF rfl)) (fb_nil)) (fb_one (fs_ret (fe_F F.f_done_alone hgu hr tk (fa_cons (fe_v (pv 0)) (fa_cons (fe_v (pv 1)) (fa_cons (fe_v (pv 2)) (fa_nil)))) (.cons (.cons (.cons .nil))))))))
theorem w__law_cup (B : Bx K mg) (F : Fs P w K mg base n c) : GF P w K mg base (n + 1) "_law_cup" ["script"] (b__law_cup c) :=
  GF.make (N := ["script", "cell"]) B.d__law_cup ⟨rfl, rfl, rfl, by decide +kernel, rfl, by decide +kernel, by decide +kernel⟩ rfl fun X H0 W cdv A outer s H E f hX hgu hr tk => by
    have hu : X.A.units + 64 < cLine := by have := hr.un; omega
    have hu1 : X.A.units + 65 < cLine := by have := hr.un; omega
    have hu2 : X.A.units + 150 < cLine := by have := hr.un; omega
    subst hX
    have ND : (["script", "cell"] : List Str).Nodup := by decide +kernel
    exact fb_cons (fs_set ND rfl (by first | exact Or.inl rfl | exact Or.inr rfl) (fe_bi cr_abs rfl B.f_abs bt_abs (fa_cons (fe_ix xr_ix (fe_op or_add (fe_ty cr_list rfl B.f_list bt_list (fa_cons (fe_v (pv 0)) (fa_nil))) (fe_lst (fa_cons (fe_int) (fa_nil)))) (fe_int)) (fa_nil)))) (fb_one (fs_ret (fe_lst (fa_cons (fe_if (ft_cmp or_ge (fe_v (pv 1)) (fe_op or_pow (fe_int) (fe_int))) (fe_op or_fdiv (fe_v (pv 1)) (fe_int)) (fe_int)) (fa_cons (fe_op or_add (fe_op or_mod (fe_ty cr_int rfl B.f_int bt_int (fa_cons (fe_op or_add (fe_op or_mul (fe_v (pv 1)) (fe_int)) (fe_int)) (fa_nil))) (fe_int)) (fe_int)) (fa_nil))))))
theorem w__law_roll (B : Bx K mg) (F : Fs P w K mg base n c) : GF P w K mg base (n + 1) "_law_roll" ["cup", "many"] (b__law_roll c) :=
  GF.make (N := ["cup", "many", "found", "deep"]) B.d__law_roll ⟨rfl, rfl, rfl, by decide +kernel, rfl, by decide +kernel, by decide +kernel⟩ rfl fun X H0 W cdv A outer s H E f hX hgu hr tk => by
    have hu : X.A.units + 64 < cLine := by have := hr.un; omega
    have hu1 : X.A.units + 65 < cLine := by have := hr.un; omega
    have hu2 : X.A.units + 150 < cLine := by have := hr.un; omega
    subst hX
    have ND : (["cup", "many", "found", "deep"] : List Str).Nodup := by decide +kernel
    exact fb_cons (fs_if (ft_cmp or_gt (fe_ix xr_ix (fe_v (pv 0)) (fe_int)) (fe_int)) (fb_cons (fs_set ND rfl (by first | exact Or.inl rfl | exact Or.inr rfl) (fe_op or_mod (fe_ty cr_int rfl B.f_int bt_int (fa_cons (fe_ix xr_ix (fe_v (pv 0)) (fe_int)) (fa_nil))) (fe_v (pv 1)))) (fb_cons (fs_setI (fe_op or_fdiv (fe_ix xr_ix (fe_v (pv 0)) (fe_int)) (fe_v (pv 1))) (pg_sub (pv 0) (fe_int) set_list)) (fb_one (fs_ret (fe_v (pv 2)))))) (fb_nil)) (fb_cons (fs_setI (fe_op or_mod (fe_ty cr_int rfl B.f_int bt_int (fa_cons (fe_op or_add (fe_op or_mul (fe_ix xr_ix (fe_v (pv 0)) (fe_int)) (fe_int)) (fe_int)) (fa_nil))) (fe_int)) (pg_sub (pv 0) (fe_int) set_list)) (fb_cons (fs_set ND rfl (by first | exact Or.inl rfl | exact Or.inr rfl) (fe_op or_mod (fe_ty cr_int rfl B.f_int bt_int (fa_cons (fe_op or_mul (fe_ix xr_ix (fe_v (pv 0)) (fe_int)) (fe_op or_add (fe_ix xr_ix (fe_v (pv 0)) (fe_int)) (fe_int))) (fa_nil))) (fe_int))) (fb_one (fs_ret (fe_op or_mod (fe_ty cr_int rfl B.f_int bt_int (fa_cons (fe_op or_fdiv (fe_v (pv 3)) (fe_int)) (fa_nil))) (fe_v (pv 1)))))))
theorem w__law_some (B : Bx K mg) (F : Fs P w K mg base n c) : GF P w K mg base (n + 1) "_law_some" ["cup", "things"] (b__law_some c) :=
  GF.make (N := ["cup", "things"]) B.d__law_some ⟨rfl, rfl, rfl, by decide +kernel, rfl, by decide +kernel, by decide +kernel⟩ rfl fun X H0 W cdv A outer s H E f hX hgu hr tk => by
    have hu : X.A.units + 64 < cLine := by have := hr.un; omega
    have hu1 : X.A.units + 65 < cLine := by have := hr.un; omega
    have hu2 : X.A.units + 150 < cLine := by have := hr.un; omega
    subst hX
    have ND : (["cup", "things"] : List Str).Nodup := by decide +kernel
    exact fb_one (fs_ret (fe_ix xr_ix (fe_v (pv 1)) (fe_F F.f__law_roll hgu hr tk (fa_cons (fe_v (pv 0)) (fa_cons (fe_bi cr_len rfl B.f_len bt_len (fa_cons (fe_v (pv 1)) (fa_nil))) (fa_nil))) (.cons (.cons .nil)))))
theorem w__law_worth (B : Bx K mg) (F : Fs P w K mg base n c) : GF P w K mg base (n + 1) "_law_worth" ["expression", "registers"] (b__law_worth c) :=
  GF.make (N := ["expression", "registers", "word", "one", "other"]) B.d__law_worth ⟨rfl, rfl, rfl, by decide +kernel, rfl, by decide +kernel, by decide +kernel⟩ rfl fun X H0 W cdv A outer s H E f hX hgu hr tk => by
    have hu : X.A.units + 64 < cLine := by have := hr.un; omega
    have hu1 : X.A.units + 65 < cLine := by have := hr.un; omega
    have hu2 : X.A.units + 150 < cLine := by have := hr.un; omega
    subst hX
    have ND : (["expression", "registers", "word", "one", "other"] : List Str).Nodup := by decide +kernel
    exact fb_cons (fs_set ND rfl (by first | exact Or.inl rfl | exact Or.inr rfl) (fe_ix xr_ix (fe_v (pv 0)) (fe_int))) (fb_cons (fs_if (ft_w (fw_or (ft_cmp (or_eq hu) (fe_v (pv 2)) (fe_str)) (fw_or1 (ft_cmp (or_eq hu) (fe_v (pv 2)) (fe_str))))) (fb_one (fs_ret (fe_if (ft_cmp (or_eq hu) (fe_v (pv 2)) (fe_str)) (fe_ix xr_ix (fe_v (pv 0)) (fe_int)) (fe_ix xr_ix (fe_v (pv 1)) (fe_ix xr_ix (fe_v (pv 0)) (fe_int)))))) (fb_nil)) (fb_cons (fs_par rfl ND rfl rfl (by decide) rfl rfl (fa_cons (fe_F F.f__law_worth hgu hr tk (fa_cons (fe_ix xr_ix (fe_v (pv 0)) (fe_int)) (fa_cons (fe_v (pv 1)) (fa_nil))) (.cons (.cons .nil))) (fa_cons (fe_F F.f__law_worth hgu hr tk (fa_cons (fe_ix xr_ix (fe_v (pv 0)) (fe_int)) (fa_cons (fe_v (pv 1)) (fa_nil))) (.cons (.cons .nil))) (fa_nil))) (by rfl)) (fb_cons (fs_if (ft_cmp (or_in hu1) (fe_v (pv 2)) (fe_tup (fa_cons (fe_str) (fa_cons (fe_str) (fa_nil)))) (by first | rfl | with_unfolding_all rfl)) (fb_one (fs_ret (fe_ty cr_int rfl B.f_int bt_int (fa_cons (fe_if (ft_cmp (or_eq hu) (fe_v (pv 2)) (fe_str)) (fe_cmp (or_eq hu) (fe_v (pv 3)) (fe_v (pv 4))) (fe_cmp or_lt (fe_v (pv 3)) (fe_v (pv 4)))) (fa_nil))))) (fb_nil)) (fb_one (fs_ret (fe_op or_mod (fe_ty cr_int rfl B.f_int bt_int (fa_cons (fe_if (ft_cmp (or_eq hu) (fe_v (pv 2)) (fe_str)) (fe_op or_add (fe_v (pv 3)) (fe_v (pv 4))) (fe_if (ft_cmp (or_eq hu) (fe_v (pv 2)) (fe_str)) (fe_op or_sub (fe_v (pv 3)) (fe_v (pv 4))) (fe_op or_mul (fe_v (pv 3)) (fe_v (pv 4))))) (fa_nil))) (fe_int)))))))
theorem w__law_is_access (B : Bx K mg) (F : Fs P w K mg base n c) : GF P w K mg base (n + 1) "_law_is_access" ["statement"] (b__law_is_access c) :=
  GF.make (N := ["statement"]) B.d__law_is_access ⟨rfl, rfl, rfl, by decide +kernel, rfl, by decide +kernel, by decide +kernel⟩ rfl fun X H0 W cdv A outer s H E f hX hgu hr tk => by
    have hu : X.A.units + 64 < cLine := by have := hr.un; omega
    have hu1 : X.A.units + 65 < cLine := by have := hr.un; omega
    have hu2 : X.A.units + 150 < cLine := by have := hr.un; omega
    subst hX
    have ND : (["statement"] : List Str).Nodup := by decide +kernel
    exact fb_one (fs_ret (fe_cmp (or_in hu1) (fe_ix xr_ix (fe_v (pv 0)) (fe_int)) (fe_tup (fa_cons (fe_str) (fa_cons (fe_str) (fa_cons (fe_str) (fa_cons (fe_str) (fa_cons (fe_str) (fa_nil))))))) (by first | rfl | with_unfolding_all rfl)))
theorem w__law_numbered (B : Bx K mg) (F : Fs P w K mg base n c) : GF P w K mg base (n + 1) "_law_numbered" ["block", "first"] (b__law_numbered c) :=
  GF.make (N := ["block", "first", "found", "one", "yes", "no"]) B.d__law_numbered ⟨rfl, rfl, rfl, by decide +kernel, rfl, by decide +kernel, by decide +kernel⟩ rfl fun X H0 W cdv A outer s H E f hX hgu hr tk => by
    have hu : X.A.units + 64 < cLine := by have := hr.un; omega
    have hu1 : X.A.units + 65 < cLine := by have := hr.un; omega
    have hu2 : X.A.units + 150 < cLine := by have := hr.un; omega
    subst hX
    have ND : (["block", "first", "found", "one", "yes", "no"] : List Str).Nodup := by decide +kernel
    exact fb_cons (fs_set ND rfl (by first | exact Or.inl rfl | exact Or.inr rfl) (fe_lst (fa_nil))) (fb_cons (fs_for (passes_of rfl) rfl (fi_seq (fe_v (pv 0))) (fg_name ND rfl (by first | exact Or.inl rfl | exact Or.inr rfl)) (fb_one (fs_if (ft_val (fe_F F.f__law_is_access hgu hr tk (fa_cons (fe_v (pv 3)) (fa_nil)) (.cons .nil))) (fb_one (fs_par rfl ND rfl rfl (by decide) rfl rfl (fa_cons (fe_op or_add (fe_v (pv 2)) (fe_lst (fa_cons (fe_op or_add (fe_v (pv 3)) (fe_tup (fa_cons (fe_v (pv 1)) (fa_nil)))) (fa_nil)))) (fa_cons (fe_op or_add (fe_v (pv 1)) (fe_int)) (fa_nil))) (by rfl))) (fb_one (fs_if (ft_cmp (or_eq hu) (fe_ix xr_ix (fe_v (pv 3)) (fe_int)) (fe_str)) (fb_cons (fs_asg (fe_F F.f__law_numbered hgu hr tk (fa_cons (fe_ix xr_ix (fe_v (pv 3)) (fe_int)) (fa_cons (fe_v (pv 1)) (fa_nil))) (.cons (.cons .nil))) (fg_tup rfl (fgs_cons (fg_name ND rfl (by first | exact Or.inl rfl | exact Or.inr rfl)) (fgs_cons (fg_name ND rfl (by first | exact Or.inl rfl | exact Or.inr rfl)) (fgs_nil))))) (fb_cons (fs_asg (fe_F F.f__law_numbered hgu hr tk (fa_cons (fe_ix xr_ix (fe_v (pv 3)) (fe_int)) (fa_cons (fe_v (pv 1)) (fa_nil))) (.cons (.cons .nil))) (fg_tup rfl (fgs_cons (fg_name ND rfl (by first | exact Or.inl rfl | exact Or.inr rfl)) (fgs_cons (fg_name ND rfl (by first | exact Or.inl rfl | exact Or.inr rfl)) (fgs_nil))))) (fb_one (fs_ex (fe_app (pv 2) (fe_tup (fa_cons (fe_str) (fa_cons (fe_ix xr_ix (fe_v (pv 3)) (fe_int)) (fa_cons (fe_v (pv 4)) (fa_cons (fe_v (pv 5)) (fa_nil))))))))))) (fb_one (fs_ex (fe_app (pv 2) (fe_v (pv 3)))))))))) (fb_one (fs_ret (fe_tup (fa_cons (fe_ty cr_tuple rfl B.f_tuple bt_tuple (fa_cons (fe_v (pv 2)) (fa_nil))) (fa_cons (fe_v (pv 1)) (fa_nil)))))))
theorem w__law_threads (B : Bx K mg) (F : Fs P w K mg base n c) : GF P w K mg base (n + 1) "_law_threads" ["program"] (b__law_threads c) :=
  GF.make (N := ["program", "found", "first", "block", "own"]) B.d__law_threads ⟨rfl, rfl, rfl, by decide +kernel, rfl, by decide +kernel, by decide +kernel⟩ rfl fun X H0 W cdv A outer s H E f hX hgu hr tk => by
    have hu : X.A.units + 64 < cLine := by have := hr.un; omega
    have hu1 : X.A.units + 65 < cLine := by have := hr.un; omega
    have hu2 : X.A.units + 150 < cLine := by have := hr.un; omega
    subst hX
    have ND : (["program", "found", "first", "block", "own"] : List Str).Nodup := by decide +kernel
    exact fb_cons (fs_par rfl ND rfl rfl (by decide) rfl rfl (fa_cons (fe_lst (fa_nil)) (fa_cons (fe_int) (fa_nil))) (by rfl)) (fb_cons (fs_for (passes_of rfl) rfl (fi_seq (fe_v (pv 0))) (fg_name ND rfl (by first | exact Or.inl rfl | exact Or.inr rfl)) (fb_cons (fs_asg (fe_F F.f__law_numbered hgu hr tk (fa_cons (fe_v (pv 3)) (fa_cons (fe_v (pv 2)) (fa_nil))) (.cons (.cons .nil))) (fg_tup rfl (fgs_cons (fg_name ND rfl (by first | exact Or.inl rfl | exact Or.inr rfl)) (fgs_cons (fg_name ND rfl (by first | exact Or.inl rfl | exact Or.inr rfl)) (fgs_nil))))) (fb_one (fs_ex (fe_app (pv 1) (fe_v (pv 4))))))) (fb_one (fs_ret (fe_v (pv 1)))))
theorem w__law_accesses (B : Bx K mg) (F : Fs P w K mg base n c) : GF P w K mg base (n + 1) "_law_accesses" ["block"] (b__law_accesses c) :=
  GF.make (N := ["block", "found", "one"]) B.d__law_accesses ⟨rfl, rfl, rfl, by decide +kernel, rfl, by decide +kernel, by decide +kernel⟩ rfl fun X H0 W cdv A outer s H E f hX hgu hr tk => by
    have hu : X.A.units + 64 < cLine := by have := hr.un; omega
    have hu1 : X.A.units + 65 < cLine := by have := hr.un; omega
    have hu2 : X.A.units + 150 < cLine := by have := hr.un; omega
    subst hX
    have ND : (["block", "found", "one"] : List Str).Nodup := by decide +kernel
    exact fb_cons (fs_set ND rfl (by first | exact Or.inl rfl | exact Or.inr rfl) (fe_lst (fa_nil))) (fb_cons (fs_for (passes_of rfl) rfl (fi_seq (fe_v (pv 0))) (fg_name ND rfl (by first | exact Or.inl rfl | exact Or.inr rfl)) (fb_cons (fs_if (ft_val (fe_F F.f__law_is_access hgu hr tk (fa_cons (fe_v (pv 2)) (fa_nil)) (.cons .nil))) (fb_one (fs_ex (fe_app (pv 1) (fe_v (pv 2))))) (fb_nil)) (fb_one (fs_if (ft_cmp (or_eq hu) (fe_ix xr_ix (fe_v (pv 2)) (fe_int)) (fe_str)) (fb_one (fs_set ND rfl (by first | exact Or.inl rfl | exact Or.inr rfl) (fe_op or_add (fe_op or_add (fe_v (pv 1)) (fe_F F.f__law_accesses hgu hr tk (fa_cons (fe_ix xr_ix (fe_v (pv 2)) (fe_int)) (fa_nil)) (.cons .nil))) (fe_F F.f__law_accesses hgu hr tk (fa_cons (fe_ix xr_ix (fe_v (pv 2)) (fe_int)) (fa_nil)) (.cons .nil))))) (fb_nil))))) (fb_one (fs_ret (fe_v (pv 1)))))
theorem w__law_all (B : Bx K mg) (F : Fs P w K mg base n c) : GF P w K mg base (n + 1) "_law_all" ["program"] (b__law_all c) :=
  GF.make (N := ["program", "found", "thread", "block", "one"]) B.d__law_all ⟨rfl, rfl, rfl, by decide +kernel, rfl, by decide +kernel, by decide +kernel⟩ rfl fun X H0 W cdv A outer s H E f hX hgu hr tk => by
    have hu : X.A.units + 64 < cLine := by have := hr.un; omega
    have hu1 : X.A.units + 65 < cLine := by have := hr.un; omega
    have hu2 : X.A.units + 150 < cLine := by have := hr.un; omega
    subst hX
    have ND : (["program", "found", "thread", "block", "one"] : List Str).Nodup := by decide +kernel
    exact fb_cons (fs_set ND rfl (by first | exact Or.inl rfl | exact Or.inr rfl) (fe_lst (fa_nil))) (fb_cons (fs_for (passes_of rfl) rfl (fi_enum rfl B.f_enumerate (fe_F F.f__law_threads hgu hr tk (fa_cons (fe_v (pv 0)) (fa_nil)) (.cons .nil))) (fg_tup rfl (fgs_cons (fg_name ND rfl (by first | exact Or.inl rfl | exact Or.inr rfl)) (fgs_cons (fg_name ND rfl (by first | exact Or.inl rfl | exact Or.inr rfl)) (fgs_nil)))) (fb_one (fs_set ND rfl (by first | exact Or.inl rfl | exact Or.inr rfl) (fe_op or_add (fe_v (pv 1)) (fe_lc (own := [("one", 4)]) rfl ND (fi_seq (fe_F F.f__law_accesses hgu hr tk (fa_cons (fe_v (pv 3)) (fa_nil)) (.cons .nil))) (blkOk_by (by kernel_rfl)) (by decide) (gin_name) (fun s H C cl fp => fg_name ND rfl (by first | exact Or.inl rfl | exact Or.inr rfl)) (fun s H C cl fp => fts_nil) (fun s H C cl fp => fe_tup (fa_cons (fe_v (pv 2)) (fa_cons (fe_v (pv 4)) (fa_nil))))))))) (fb_one (fs_ret (fe_v (pv 1)))))
theorem w__law_settled (B : Bx K mg) (F : Fs P w K mg base n c) : GF P w K mg base (n + 1) "_law_settled" ["rest", "registers"] (b__law_settled c) :=
  GF.make (N := ["rest", "registers", "one", "worth"]) B.d__law_settled ⟨rfl, rfl, rfl, by decide +kernel, rfl, by decide +kernel, by decide +kernel⟩ rfl fun X H0 W cdv A outer s H E f hX hgu hr tk => by
    have hu : X.A.units + 64 < cLine := by have := hr.un; omega
    have hu1 : X.A.units + 65 < cLine := by have := hr.un; omega
    have hu2 : X.A.units + 150 < cLine := by have := hr.un; omega
    subst hX
    have ND : (["rest", "registers", "one", "worth"] : List Str).Nodup := by decide +kernel
    exact fb_cons (fs_while (passes_of rfl) (ft_w (fw_and (ft_cmp (or_ne hu) (fe_v (pv 0)) (fe_tup (fa_nil))) (fw_and1 (ft_cmp (or_in hu1) (fe_ix xr_ix (fe_ix xr_ix (fe_v (pv 0)) (fe_int)) (fe_int)) (fe_tup (fa_cons (fe_str) (fa_cons (fe_str) (fa_cons (fe_str) (fa_nil))))) (by first | rfl | with_unfolding_all rfl))))) (fb_cons (fs_par rfl ND rfl rfl (by decide) rfl rfl (fa_cons (fe_ix xr_ix (fe_v (pv 0)) (fe_int)) (fa_cons (fe_F F.f__law_worth hgu hr tk (fa_cons (fe_if (ft_cmp (or_eq hu) (fe_ix xr_ix (fe_ix xr_ix (fe_v (pv 0)) (fe_int)) (fe_int)) (fe_str)) (fe_ix xr_ix (fe_ix xr_ix (fe_v (pv 0)) (fe_int)) (fe_int)) (fe_ix xr_ix (fe_ix xr_ix (fe_v (pv 0)) (fe_int)) (fe_int))) (fa_cons (fe_v (pv 1)) (fa_nil))) (.cons (.cons .nil))) (fa_nil))) (by rfl)) (fb_cons (fs_if (ft_w (fw_and (ft_cmp (or_eq hu) (fe_ix xr_ix (fe_v (pv 2)) (fe_int)) (fe_str)) (fw_and1 (ft_cmp (or_eq hu) (fe_v (pv 3)) (fe_int))))) (fb_one (fs_ret (fe_tup (fa_cons (fe_non) (fa_cons (fe_v (pv 1)) (fa_nil)))))) (fb_nil)) (fb_cons (fs_set ND rfl (by first | exact Or.inl rfl | exact Or.inr rfl) (fe_if (ft_cmp (or_eq hu) (fe_ix xr_ix (fe_v (pv 2)) (fe_int)) (fe_str)) (fe_op or_add (fe_if (ft_cmp (or_ne hu) (fe_v (pv 3)) (fe_int)) (fe_ix xr_ix (fe_v (pv 2)) (fe_int)) (fe_ix xr_ix (fe_v (pv 2)) (fe_int))) (fe_sl sr_sl (fe_v (pv 0)) (fo_at (fe_int)) (fo_no))) (fe_sl sr_sl (fe_v (pv 0)) (fo_at (fe_int)) (fo_no)))) (fb_one (fs_if (ft_cmp (or_eq hu) (fe_ix xr_ix (fe_v (pv 2)) (fe_int)) (fe_str)) (fb_one (fs_set ND rfl (by first | exact Or.inl rfl | exact Or.inr rfl) (fe_op or_add (fe_op or_add (fe_sl sr_sl (fe_v (pv 1)) (fo_no) (fo_at (fe_ix xr_ix (fe_v (pv 2)) (fe_int)))) (fe_tup (fa_cons (fe_v (pv 3)) (fa_nil)))) (fe_sl sr_sl (fe_v (pv 1)) (fo_at (fe_op or_add (fe_ix xr_ix (fe_v (pv 2)) (fe_int)) (fe_int))) (fo_no))))) (fb_nil))))))) (fb_one (fs_ret (fe_tup (fa_cons (fe_v (pv 0)) (fa_cons (fe_v (pv 1)) (fa_nil))))))
theorem w__law_written (B : Bx K mg) (F : Fs P w K mg base n c) : GF P w K mg base (n + 1) "_law_written" ["statement", "registers", "read"] (b__law_written c) :=
  GF.make (N := ["statement", "registers", "read", "word"]) B.d__law_written ⟨rfl, rfl, rfl, by decide +kernel, rfl, by decide +kernel, by decide +kernel⟩ rfl fun X H0 W cdv A outer s H E f hX hgu hr tk => by
    have hu : X.A.units + 64 < cLine := by have := hr.un; omega
    have hu1 : X.A.units + 65 < cLine := by have := hr.un; omega
    have hu2 : X.A.units + 150 < cLine := by have := hr.un; omega
    subst hX
    have ND : (["statement", "registers", "read", "word"] : List Str).Nodup := by decide +kernel
    exact fb_cons (fs_set ND rfl (by first | exact Or.inl rfl | exact Or.inr rfl) (fe_ix xr_ix (fe_v (pv 0)) (fe_int))) (fb_cons (fs_if (ft_cmp (or_in hu1) (fe_v (pv 3)) (fe_tup (fa_cons (fe_str) (fa_cons (fe_str) (fa_nil)))) (by first | rfl | with_unfolding_all rfl)) (fb_one (fs_ret (fe_F F.f__law_worth hgu hr tk (fa_cons (fe_ix xr_ix (fe_v (pv 0)) (fe_int)) (fa_cons (fe_v (pv 1)) (fa_nil))) (.cons (.cons .nil))))) (fb_nil)) (fb_cons (fs_if (ft_cmp (or_eq hu) (fe_v (pv 3)) (fe_str)) (fb_one (fs_ret (fe_op or_mod (fe_ty cr_int rfl B.f_int bt_int (fa_cons (fe_op or_add (fe_v (pv 2)) (fe_F F.f__law_worth hgu hr tk (fa_cons (fe_ix xr_ix (fe_v (pv 0)) (fe_int)) (fa_cons (fe_v (pv 1)) (fa_nil))) (.cons (.cons .nil)))) (fa_nil))) (fe_int)))) (fb_nil)) (fb_cons (fs_if (ft_w (fw_and (ft_cmp (or_eq hu) (fe_v (pv 3)) (fe_str)) (fw_and1 (ft_cmp (or_eq hu) (fe_v (pv 2)) (fe_F F.f__law_worth hgu hr tk (fa_cons (fe_ix xr_ix (fe_v (pv 0)) (fe_int)) (fa_cons (fe_v (pv 1)) (fa_nil))) (.cons (.cons .nil))))))) (fb_one (fs_ret (fe_F F.f__law_worth hgu hr tk (fa_cons (fe_ix xr_ix (fe_v (pv 0)) (fe_int)) (fa_cons (fe_v (pv 1)) (fa_nil))) (.cons (.cons .nil))))) (fb_nil)) (fb_one (fs_ret (fe_non))))))
theorem w__law_behind (B : Bx K mg) (F : Fs P w K mg base n c) : GF P w K mg base (n + 1) "_law_behind" ["rest", "registers", "read"] (b__law_behind c) :=
  GF.make (N := ["rest", "registers", "read", "one"]) B.d__law_behind ⟨rfl, rfl, rfl, by decide +kernel, rfl, by decide +kernel, by decide +kernel⟩ rfl fun X H0 W cdv A outer s H E f hX hgu hr tk => by
    have hu : X.A.units + 64 < cLine := by have := hr.un; omega
    have hu1 : X.A.units + 65 < cLine := by have := hr.un; omega
    have hu2 : X.A.units + 150 < cLine := by have := hr.un; omega
    subst hX
    have ND : (["rest", "registers", "read", "one"] : List Str).Nodup := by decide +kernel
    exact fb_cons (fs_set ND rfl (by first | exact Or.inl rfl | exact Or.inr rfl) (fe_ix xr_ix (fe_v (pv 0)) (fe_int))) (fb_cons (fs_if (ft_w (fw_and (ft_val (fe_F F.f__law_is_access hgu hr tk (fa_cons (fe_v (pv 3)) (fa_nil)) (.cons .nil))) (fw_and1 (ft_cmp (or_ne hu) (fe_ix xr_ix (fe_v (pv 3)) (fe_int)) (fe_str))))) (fb_one (fs_set ND rfl (by first | exact Or.inl rfl | exact Or.inr rfl) (fe_op or_add (fe_op or_add (fe_sl sr_sl (fe_v (pv 1)) (fo_no) (fo_at (fe_ix xr_ix (fe_v (pv 3)) (fe_int)))) (fe_tup (fa_cons (fe_v (pv 2)) (fa_nil)))) (fe_sl sr_sl (fe_v (pv 1)) (fo_at (fe_op or_add (fe_ix xr_ix (fe_v (pv 3)) (fe_int)) (fe_int))) (fo_no))))) (fb_nil)) (fb_one (fs_ret (fe_F F.f__law_settled hgu hr tk (fa_cons (fe_sl sr_sl (fe_v (pv 0)) (fo_at (fe_int)) (fo_no)) (fa_cons (fe_v (pv 1)) (fa_nil))) (.cons (.cons .nil))))))
theorem w__law_begun (B : Bx K mg) (F : Fs P w K mg base n c) : GF P w K mg base (n + 1) "_law_begun" ["program"] (b__law_begun c) :=
  GF.make (N := ["program", "block"]) B.d__law_begun ⟨rfl, rfl, rfl, by decide +kernel, rfl, by decide +kernel, by decide +kernel⟩ rfl fun X H0 W cdv A outer s H E f hX hgu hr tk => by
    have hu : X.A.units + 64 < cLine := by have := hr.un; omega
    have hu1 : X.A.units + 65 < cLine := by have := hr.un; omega
    have hu2 : X.A.units + 150 < cLine := by have := hr.un; omega
    subst hX
    have ND : (["program", "block"] : List Str).Nodup := by decide +kernel
    exact fb_one (fs_ret (fe_ty cr_tuple rfl B.f_tuple bt_tuple (fa_cons (fe_lc (own := [("block", 1)]) rfl ND (fi_seq (fe_F F.f__law_threads hgu hr tk (fa_cons (fe_v (pv 0)) (fa_nil)) (.cons .nil))) (blkOk_by (by kernel_rfl)) (by decide) (gin_name) (fun s H C cl fp => fg_name ND rfl (by first | exact Or.inl rfl | exact Or.inr rfl)) (fun s H C cl fp => fts_nil) (fun s H C cl fp => fe_F F.f__law_settled hgu hr takes0 (fa_cons (fe_v (pv 1)) (fa_cons (fe_tup (fa_cons (fe_int) (fa_cons (fe_int) (fa_cons (fe_int) (fa_nil))))) (fa_nil))) (.cons (.cons .nil)))) (fa_nil))))
theorem w__law_expression (B : Bx K mg) (F : Fs P w K mg base n c) : GF P w K mg base (n + 1) "_law_expression" ["cup", "deep"] (b__law_expression c) :=
  GF.make (N := ["cup", "deep", "way"]) B.d__law_expression ⟨rfl, rfl, rfl, by decide +kernel, rfl, by decide +kernel, by decide +kernel⟩ rfl fun X H0 W cdv A outer s H E f hX hgu hr tk => by
    have hu : X.A.units + 64 < cLine := by have := hr.un; omega
    have hu1 : X.A.units + 65 < cLine := by have := hr.un; omega
    have hu2 : X.A.units + 150 < cLine := by have := hr.un; omega
    subst hX
    have ND : (["cup", "deep", "way"] : List Str).Nodup := by decide +kernel
    exact fb_cons (fs_set ND rfl (by first | exact Or.inl rfl | exact Or.inr rfl) (fe_F F.f__law_roll hgu hr tk (fa_cons (fe_v (pv 0)) (fa_cons (fe_if (ft_cmp or_gt (fe_v (pv 1)) (fe_int)) (fe_int) (fe_int)) (fa_nil))) (.cons (.cons .nil)))) (fb_cons (fs_if (ft_cmp or_lt (fe_v (pv 2)) (fe_int)) (fb_one (fs_ret (fe_if (ft_cmp or_lt (fe_v (pv 2)) (fe_int)) (fe_tup (fa_cons (fe_str) (fa_cons (fe_F F.f__law_some hgu hr tk (fa_cons (fe_v (pv 0)) (fa_cons (fe_lst (fa_cons (fe_int) (fa_cons (fe_int) (fa_cons (fe_int) (fa_cons (fe_int) (fa_cons (fe_int) (fa_cons (fe_int) (fa_nil)))))))) (fa_nil))) (.cons (.cons .nil))) (fa_nil)))) (fe_tup (fa_cons (fe_str) (fa_cons (fe_F F.f__law_roll hgu hr tk (fa_cons (fe_v (pv 0)) (fa_cons (fe_int) (fa_nil))) (.cons (.cons .nil))) (fa_nil))))))) (fb_nil)) (fb_one (fs_ret (fe_tup (fa_cons (fe_F F.f__law_some hgu hr tk (fa_cons (fe_v (pv 0)) (fa_cons (fe_lst (fa_cons (fe_str) (fa_cons (fe_str) (fa_cons (fe_str) (fa_cons (fe_str) (fa_cons (fe_str) (fa_nil))))))) (fa_nil))) (.cons (.cons .nil))) (fa_cons (fe_F F.f__law_expression hgu hr tk (fa_cons (fe_v (pv 0)) (fa_cons (fe_op or_sub (fe_v (pv 1)) (fe_int)) (fa_nil))) (.cons (.cons .nil))) (fa_cons (fe_F F.f__law_expression hgu hr tk (fa_cons (fe_v (pv 0)) (fa_cons (fe_op or_sub (fe_v (pv 1)) (fe_int)) (fa_nil))) (.cons (.cons .nil))) (fa_nil))))))))
theorem w__law_access (B : Bx K mg) (F : Fs P w K mg base n c) : GF P w K mg base (n + 1) "_law_access" ["cup", "cells"] (b__law_access c) :=
  GF.make (N := ["cup", "cells", "cell", "way", "word"]) B.d__law_access ⟨rfl, rfl, rfl, by decide +kernel, rfl, by decide +kernel, by decide +kernel⟩ rfl fun X H0 W cdv A outer s H E f hX hgu hr tk => by
    have hu : X.A.units + 64 < cLine := by have := hr.un; omega
    have hu1 : X.A.units + 65 < cLine := by have := hr.un; omega
    have hu2 : X.A.units + 150 < cLine := by have := hr.un; omega
    subst hX
    have ND : (["cup", "cells", "cell", "way", "word"] : List Str).Nodup := by decide +kernel
    exact fb_cons (fs_par rfl ND rfl rfl (by decide) rfl rfl (fa_cons (fe_F F.f__law_roll hgu hr tk (fa_cons (fe_v (pv 0)) (fa_cons (fe_v (pv 1)) (fa_nil))) (.cons (.cons .nil))) (fa_cons (fe_F F.f__law_roll hgu hr tk (fa_cons (fe_v (pv 0)) (fa_cons (fe_int) (fa_nil))) (.cons (.cons .nil))) (fa_nil))) (by rfl)) (fb_cons (fs_if (ft_cmp or_lt (fe_v (pv 3)) (fe_int)) (fb_one (fs_ret (fe_tup (fa_cons (fe_str) (fa_cons (fe_v (pv 2)) (fa_cons (fe_F F.f__law_some hgu hr tk (fa_cons (fe_v (pv 0)) (fa_cons (fe_lst (fa_cons (fe_str) (fa_cons (fe_str) (fa_cons (fe_str) (fa_cons (fe_str) (fa_nil)))))) (fa_nil))) (.cons (.cons .nil))) (fa_cons (fe_F F.f__law_expression hgu hr tk (fa_cons (fe_v (pv 0)) (fa_cons (fe_int) (fa_nil))) (.cons (.cons .nil))) (fa_nil)))))))) (fb_nil)) (fb_cons (fs_if (ft_cmp or_lt (fe_v (pv 3)) (fe_int)) (fb_one (fs_ret (fe_tup (fa_cons (fe_str) (fa_cons (fe_F F.f__law_roll hgu hr tk (fa_cons (fe_v (pv 0)) (fa_cons (fe_int) (fa_nil))) (.cons (.cons .nil))) (fa_cons (fe_v (pv 2)) (fa_cons (fe_F F.f__law_some hgu hr tk (fa_cons (fe_v (pv 0)) (fa_cons (fe_lst (fa_cons (fe_str) (fa_cons (fe_str) (fa_cons (fe_str) (fa_cons (fe_str) (fa_nil)))))) (fa_nil))) (.cons (.cons .nil))) (fa_nil)))))))) (fb_nil)) (fb_cons (fs_set ND rfl (by first | exact Or.inl rfl | exact Or.inr rfl) (fe_F F.f__law_some hgu hr tk (fa_cons (fe_v (pv 0)) (fa_cons (fe_lst (fa_cons (fe_str) (fa_cons (fe_str) (fa_cons (fe_str) (fa_nil))))) (fa_nil))) (.cons (.cons .nil)))) (fb_one (fs_ret (fe_op or_add (fe_tup (fa_cons (fe_v (pv 4)) (fa_cons (fe_F F.f__law_roll hgu hr tk (fa_cons (fe_v (pv 0)) (fa_cons (fe_int) (fa_nil))) (.cons (.cons .nil))) (fa_cons (fe_v (pv 2)) (fa_nil))))) (fe_if (ft_cmp (or_eq hu) (fe_v (pv 4)) (fe_str)) (fe_tup (fa_cons (fe_F F.f__law_expression hgu hr tk (fa_cons (fe_v (pv 0)) (fa_cons (fe_int) (fa_nil))) (.cons (.cons .nil))) (fa_cons (fe_F F.f__law_expression hgu hr tk (fa_cons (fe_v (pv 0)) (fa_cons (fe_int) (fa_nil))) (.cons (.cons .nil))) (fa_nil)))) (fe_tup (fa_cons (fe_F F.f__law_expression hgu hr tk (fa_cons (fe_v (pv 0)) (fa_cons (fe_int) (fa_nil))) (.cons (.cons .nil))) (fa_nil))))))))))
theorem w__law_thread (B : Bx K mg) (F : Fs P w K mg base n c) : GF P w K mg base (n + 1) "_law_thread" ["cup", "accesses", "cells"] (b__law_thread c) :=
  GF.make (N := ["cup", "accesses", "cells", "found", "many", "way", "yes", "no", "tail"]) B.d__law_thread ⟨rfl, rfl, rfl, by decide +kernel, rfl, by decide +kernel, by decide +kernel⟩ rfl fun X H0 W cdv A outer s H E f hX hgu hr tk => by
    have hu : X.A.units + 64 < cLine := by have := hr.un; omega
    have hu1 : X.A.units + 65 < cLine := by have := hr.un; omega
    have hu2 : X.A.units + 150 < cLine := by have := hr.un; omega
    subst hX
    have ND : (["cup", "accesses", "cells", "found", "many", "way", "yes", "no", "tail"] : List Str).Nodup := by decide +kernel
    exact fb_cons (fs_par rfl ND rfl rfl (by decide) rfl rfl (fa_cons (fe_tup (fa_nil)) (fa_cons (fe_v (pv 1)) (fa_nil))) (by rfl)) (fb_cons (fs_while (passes_of rfl) (ft_cmp or_gt (fe_v (pv 1)) (fe_int)) (fb_cons (fs_set ND rfl (by first | exact Or.inl rfl | exact Or.inr rfl) (fe_F F.f__law_roll hgu hr tk (fa_cons (fe_v (pv 0)) (fa_cons (fe_int) (fa_nil))) (.cons (.cons .nil)))) (fb_cons (fs_if (ft_cmp (or_eq hu) (fe_v (pv 5)) (fe_int)) (fb_one (fs_set ND rfl (by first | exact Or.inl rfl | exact Or.inr rfl) (fe_op or_add (fe_v (pv 3)) (fe_tup (fa_cons (fe_tup (fa_cons (fe_str) (fa_nil))) (fa_nil)))))) (fb_nil)) (fb_cons (fs_if (ft_cmp (or_eq hu) (fe_v (pv 5)) (fe_int)) (fb_one (fs_set ND rfl (by first | exact Or.inl rfl | exact Or.inr rfl) (fe_op or_add (fe_v (pv 3)) (fe_tup (fa_cons (fe_tup (fa_cons (fe_str) (fa_cons (fe_F F.f__law_roll hgu hr tk (fa_cons (fe_v (pv 0)) (fa_cons (fe_int) (fa_nil))) (.cons (.cons .nil))) (fa_cons (fe_F F.f__law_expression hgu hr tk (fa_cons (fe_v (pv 0)) (fa_cons (fe_int) (fa_nil))) (.cons (.cons .nil))) (fa_nil))))) (fa_nil)))))) (fb_nil)) (fb_cons (fs_if (ft_w (fw_and (ft_cmp (or_eq hu) (fe_v (pv 5)) (fe_int)) (fw_and1 (ft_cmp (or_ne hu) (fe_v (pv 3)) (fe_tup (fa_nil)))))) (fb_one (fs_set ND rfl (by first | exact Or.inl rfl | exact Or.inr rfl) (fe_op or_add (fe_v (pv 3)) (fe_tup (fa_cons (fe_tup (fa_cons (fe_str) (fa_cons (fe_tup (fa_cons (fe_str) (fa_cons (fe_tup (fa_cons (fe_str) (fa_cons (fe_F F.f__law_roll hgu hr tk (fa_cons (fe_v (pv 0)) (fa_cons (fe_int) (fa_nil))) (.cons (.cons .nil))) (fa_nil)))) (fa_cons (fe_tup (fa_cons (fe_str) (fa_cons (fe_int) (fa_nil)))) (fa_nil))))) (fa_nil)))) (fa_nil)))))) (fb_nil)) (fb_one (fs_if (ft_w (fw_and (ft_cmp (or_eq hu) (fe_v (pv 5)) (fe_int)) (fw_and1 (ft_cmp (or_ne hu) (fe_v (pv 3)) (fe_tup (fa_nil)))))) (fb_cons (fs_par rfl ND rfl rfl (by decide) rfl rfl (fa_cons (fe_tup (fa_cons (fe_F F.f__law_access hgu hr tk (fa_cons (fe_v (pv 0)) (fa_cons (fe_v (pv 2)) (fa_nil))) (.cons (.cons .nil))) (fa_nil))) (fa_cons (fe_if (ft_w (fw_and (ft_cmp or_gt (fe_v (pv 1)) (fe_int)) (fw_and1 (ft_cmp (or_eq hu) (fe_F F.f__law_roll hgu hr tk (fa_cons (fe_v (pv 0)) (fa_cons (fe_int) (fa_nil))) (.cons (.cons .nil))) (fe_int))))) (fe_tup (fa_cons (fe_F F.f__law_access hgu hr tk (fa_cons (fe_v (pv 0)) (fa_cons (fe_v (pv 2)) (fa_nil))) (.cons (.cons .nil))) (fa_nil))) (fe_tup (fa_nil))) (fa_nil))) (by rfl)) (fb_one (fs_par rfl ND rfl rfl (by decide) rfl rfl (fa_cons (fe_op or_add (fe_v (pv 3)) (fe_tup (fa_cons (fe_tup (fa_cons (fe_str) (fa_cons (fe_tup (fa_cons (fe_str) (fa_cons (fe_F F.f__law_roll hgu hr tk (fa_cons (fe_v (pv 0)) (fa_cons (fe_int) (fa_nil))) (.cons (.cons .nil))) (fa_nil)))) (fa_cons (fe_v (pv 6)) (fa_cons (fe_v (pv 7)) (fa_nil)))))) (fa_nil)))) (fa_cons (fe_op or_sub (fe_op or_sub (fe_v (pv 1)) (fe_int)) (fe_bi cr_len rfl B.f_len bt_len (fa_cons (fe_v (pv 7)) (fa_nil)))) (fa_nil))) (by rfl)))) (fb_one (fs_par rfl ND rfl rfl (by decide) rfl rfl (fa_cons (fe_op or_add (fe_v (pv 3)) (fe_tup (fa_cons (fe_F F.f__law_access hgu hr tk (fa_cons (fe_v (pv 0)) (fa_cons (fe_v (pv 2)) (fa_nil))) (.cons (.cons .nil))) (fa_nil)))) (fa_cons (fe_op or_sub (fe_v (pv 1)) (fe_int)) (fa_nil))) (by rfl)))))))))) (fb_cons (fs_if (ft_w (fw_and (ft_cmp (or_ne hu) (fe_v (pv 3)) (fe_tup (fa_nil))) (fw_and (ft_cmp or_lt (fe_v (pv 4)) (fe_int)) (fw_and1 (ft_cmp (or_eq hu) (fe_F F.f__law_roll hgu hr tk (fa_cons (fe_v (pv 0)) (fa_cons (fe_int) (fa_nil))) (.cons (.cons .nil))) (fe_int)))))) (fb_cons (fs_set ND rfl (by first | exact Or.inl rfl | exact Or.inr rfl) (fe_lst (fa_cons (fe_tup (fa_cons (fe_str) (fa_cons (fe_F F.f__law_roll hgu hr tk (fa_cons (fe_v (pv 0)) (fa_cons (fe_int) (fa_nil))) (.cons (.cons .nil))) (fa_cons (fe_F F.f__law_expression hgu hr tk (fa_cons (fe_v (pv 0)) (fa_cons (fe_int) (fa_nil))) (.cons (.cons .nil))) (fa_nil))))) (fa_cons (fe_tup (fa_cons (fe_str) (fa_cons (fe_tup (fa_cons (fe_str) (fa_cons (fe_tup (fa_cons (fe_str) (fa_cons (fe_int) (fa_nil)))) (fa_cons (fe_tup (fa_cons (fe_str) (fa_cons (fe_int) (fa_nil)))) (fa_nil))))) (fa_nil)))) (fa_nil))))) (fb_one (fs_set ND rfl (by first | exact Or.inl rfl | exact Or.inr rfl) (fe_op or_add (fe_v (pv 3)) (fe_tup (fa_cons (fe_F F.f__law_some hgu hr tk (fa_cons (fe_v (pv 0)) (fa_cons (fe_op or_add (fe_v (pv 8)) (fe_if (ft_cmp (or_notin hu1) (fe_tup (fa_cons (fe_str) (fa_nil))) (fe_v (pv 3)) (by first | rfl | with_unfolding_all rfl)) (fe_lst (fa_cons (fe_tup (fa_cons (fe_str) (fa_nil))) (fa_nil))) (fe_lst (fa_nil)))) (fa_nil))) (.cons (.cons .nil))) (fa_nil))))))) (fb_nil)) (fb_one (fs_ret (fe_v (pv 3))))))
theorem w__law_program (B : Bx K mg) (F : Fs P w K mg base n c) : GF P w K mg base (n + 1) "_law_program" ["cup", "accesses"] (b__law_program c) :=
  GF.make (N := ["cup", "accesses", "threads", "cells", "many", "turn", "at", "one"]) B.d__law_program ⟨rfl, rfl, rfl, by decide +kernel, rfl, by decide +kernel, by decide +kernel⟩ rfl fun X H0 W cdv A outer s H E f hX hgu hr tk => by
    have hu : X.A.units + 64 < cLine := by have := hr.un; omega
    have hu1 : X.A.units + 65 < cLine := by have := hr.un; omega
    have hu2 : X.A.units + 150 < cLine := by have := hr.un; omega
    subst hX
    have ND : (["cup", "accesses", "threads", "cells", "many", "turn", "at", "one"] : List Str).Nodup := by decide +kernel
    exact fb_cons (fs_asg (fe_tup (fa_cons (fe_op or_add (fe_int) (fe_cmp (or_eq hu) (fe_F F.f__law_roll hgu hr tk (fa_cons (fe_v (pv 0)) (fa_cons (fe_int) (fa_nil))) (.cons (.cons .nil))) (fe_int))) (fa_cons (fe_F F.f__law_some hgu hr tk (fa_cons (fe_v (pv 0)) (fa_cons (fe_lst (fa_cons (fe_int) (fa_cons (fe_int) (fa_cons (fe_int) (fa_cons (fe_int) (fa_nil)))))) (fa_nil))) (.cons (.cons .nil))) (fa_nil)))) (fg_tup rfl (fgs_cons (fg_name ND rfl (by first | exact Or.inl rfl | exact Or.inr rfl)) (fgs_cons (fg_name ND rfl (by first | exact Or.inl rfl | exact Or.inr rfl)) (fgs_nil))))) (fb_cons (fs_set ND rfl (by first | exact Or.inl rfl | exact Or.inr rfl) (fe_mulL (fe_lst (fa_cons (fe_int) (fa_nil))) (fe_v (pv 2)))) (fb_cons (fs_for (passes_of rfl) rfl (fi_r1 rfl B.f_range (fe_op or_sub (fe_v (pv 1)) (fe_v (pv 2)))) (fg_name ND rfl (by first | exact Or.inl rfl | exact Or.inr rfl)) (fb_cons (fs_set ND rfl (by first | exact Or.inl rfl | exact Or.inr rfl) (fe_F F.f__law_roll hgu hr tk (fa_cons (fe_v (pv 0)) (fa_cons (fe_v (pv 2)) (fa_nil))) (.cons (.cons .nil)))) (fb_one (fs_set ND rfl (by first | exact Or.inl rfl | exact Or.inr rfl) (fe_op or_add (fe_op or_add (fe_sl sr_sl (fe_v (pv 4)) (fo_no) (fo_at (fe_v (pv 6)))) (fe_lst (fa_cons (fe_op or_add (fe_ix xr_ix (fe_v (pv 4)) (fe_v (pv 6))) (fe_int)) (fa_nil)))) (fe_sl sr_sl (fe_v (pv 4)) (fo_at (fe_op or_add (fe_v (pv 6)) (fe_int))) (fo_no))))))) (fb_one (fs_ret (fe_ty cr_tuple rfl B.f_tuple bt_tuple (fa_cons (fe_lc (own := [("one", 7)]) rfl ND (fi_seq (fe_v (pv 4))) (blkOk_by (by kernel_rfl)) (by decide) (gin_name) (fun s H C cl fp => fg_name ND rfl (by first | exact Or.inl rfl | exact Or.inr rfl)) (fun s H C cl fp => fts_nil) (fun s H C cl fp => fe_F F.f__law_thread hgu hr takes0 (fa_cons (fe_v (pv 0)) (fa_cons (fe_v (pv 7)) (fa_cons (fe_v (pv 3)) (fa_nil)))) (.cons (.cons (.cons .nil))))) (fa_nil)))))))
theorem w__law_due (B : Bx K mg) (F : Fs P w K mg base n c) : GF P w K mg base (n + 1) "_law_due" ["program", "thread", "values"] (b__law_due c) :=
  GF.make (N := ["program", "thread", "values", "rest", "registers", "found", "one", "read"]) B.d__law_due ⟨rfl, rfl, rfl, by decide +kernel, rfl, by decide +kernel, by decide +kernel⟩ rfl fun X H0 W cdv A outer s H E f hX hgu hr tk => by
    have hu : X.A.units + 64 < cLine := by have := hr.un; omega
    have hu1 : X.A.units + 65 < cLine := by have := hr.un; omega
    have hu2 : X.A.units + 150 < cLine := by have := hr.un; omega
    subst hX
    have ND : (["program", "thread", "values", "rest", "registers", "found", "one", "read"] : List Str).Nodup := by decide +kernel
    exact fb_cons (fs_asg (fe_ix xr_ix (fe_F F.f__law_begun hgu hr tk (fa_cons (fe_v (pv 0)) (fa_nil)) (.cons .nil)) (fe_v (pv 1))) (fg_tup rfl (fgs_cons (fg_name ND rfl (by first | exact Or.inl rfl | exact Or.inr rfl)) (fgs_cons (fg_name ND rfl (by first | exact Or.inl rfl | exact Or.inr rfl)) (fgs_nil))))) (fb_cons (fs_set ND rfl (by first | exact Or.inl rfl | exact Or.inr rfl) (fe_lst (fa_nil))) (fb_cons (fs_while (passes_of rfl) (ft_w (fw_and (ft_cmp or_isnot (fe_v (pv 3)) (fe_non)) (fw_and1 (ft_cmp (or_ne hu) (fe_v (pv 3)) (fe_tup (fa_nil)))))) (fb_cons (fs_par rfl ND rfl rfl (by decide) rfl rfl (fa_cons (fe_ix xr_ix (fe_v (pv 3)) (fe_int)) (fa_cons (fe_non) (fa_nil))) (by rfl)) (fb_cons (fs_if (ft_val (fe_F F.f__law_is_access hgu hr tk (fa_cons (fe_v (pv 6)) (fa_nil)) (.cons .nil))) (fb_cons (fs_set ND rfl (by first | exact Or.inl rfl | exact Or.inr rfl) (fe_if (ft_cmp (or_ne hu) (fe_ix xr_ix (fe_v (pv 6)) (fe_int)) (fe_str)) (fe_ix xr_ix (fe_v (pv 2)) (fe_ix xr_ix (fe_v (pv 6)) (fe_un ur_neg (fe_int)))) (fe_non))) (fb_cons (fs_if (ft_w (fw_and (ft_cmp (or_ne hu) (fe_ix xr_ix (fe_v (pv 6)) (fe_int)) (fe_str)) (fw_and1 (ft_cmp or_is (fe_v (pv 7)) (fe_non))))) (fb_one (fs_ret (fe_tup (fa_cons (fe_ty cr_tuple rfl B.f_tuple bt_tuple (fa_cons (fe_v (pv 5)) (fa_nil))) (fa_cons (fe_v (pv 4)) (fa_cons (fe_str) (fa_nil))))))) (fb_nil)) (fb_one (fs_ex (fe_app (pv 5) (fe_tup (fa_cons (fe_ix xr_ix (fe_v (pv 6)) (fe_un ur_neg (fe_int))) (fa_cons (fe_v (pv 7)) (fa_cons (fe_F F.f__law_written hgu hr tk (fa_cons (fe_v (pv 6)) (fa_cons (fe_v (pv 4)) (fa_cons (fe_v (pv 7)) (fa_nil)))) (.cons (.cons (.cons .nil)))) (fa_nil)))))))))) (fb_nil)) (fb_one (fs_asg (fe_F F.f__law_behind hgu hr tk (fa_cons (fe_v (pv 3)) (fa_cons (fe_v (pv 4)) (fa_cons (fe_v (pv 7)) (fa_nil)))) (.cons (.cons (.cons .nil)))) (fg_tup rfl (fgs_cons (fg_name ND rfl (by first | exact Or.inl rfl | exact Or.inr rfl)) (fgs_cons (fg_name ND rfl (by first | exact Or.inl rfl | exact Or.inr rfl)) (fgs_nil))))))))) (fb_one (fs_ret (fe_tup (fa_cons (fe_ty cr_tuple rfl B.f_tuple bt_tuple (fa_cons (fe_v (pv 5)) (fa_nil))) (fa_cons (fe_v (pv 4)) (fa_cons (fe_if (ft_cmp or_is (fe_v (pv 3)) (fe_non)) (fe_str) (fe_str)) (fa_nil)))))))))
theorem w_law {fa c0 P0 : Addr} (B : Bx K mg) {c c2 : Nat → FS} (F : ∀ base, Fs P w K mg base (n + 2) c) (F2 : ∀ base, Fs P w K mg base n c2) (hfa : mg "law" = some (.ref fa)) (hcd : ∀ cdv, CodeAt K fa cdv → cdv = .ref c0) :
    ∃ fd, (∀ (s : Shared) (u : Value), BindsTo s fd ⟨[u], []⟩ [("script", u)]) ∧ ∀ base : Heap, LamX.TabB base mg c0 P0 → FnG P w K mg base (n + 3) fa fd ["script"] (spT [P0] (spF K mg 1 (b_law c c2))) :=
  makeL (N := ["script", "cup", "turn", "program", "many", "values", "thread", "one", "other", "rows", "word", "due", "told", "stop", "ends", "trying", "deep", "words", "odds", "at", "row", "odd"]) B.d_law hfa ⟨rfl, rfl, rfl, by decide +kernel, rfl, by decide +kernel, by decide +kernel⟩ rfl hcd fun base X H0 W cdv A outer s H E f hTB hX hcode hP hr tk => by
    have F := F base
    have F2 := F2 base
    have hgu : NoG X.A := trivial
    have hu : X.A.units + 64 < cLine := by have := hr.un; omega
    have hu1 : X.A.units + 65 < cLine := by have := hr.un; omega
    have hu2 : X.A.units + 150 < cLine := by have := hr.un; omega
    subst hX
    have ND : (["script", "cup", "turn", "program", "many", "values", "thread", "one", "other", "rows", "word", "due", "told", "stop", "ends", "trying", "deep", "words", "odds", "at", "row", "odd"] : List Str).Nodup := by decide +kernel
    exact fb_cons (fs_set ND rfl (by first | exact Or.inl rfl | exact Or.inr rfl) (fe_F F.f__law_cup hgu hr tk (fa_cons (fe_v (pv 0)) (fa_nil)) (.cons .nil))) (fb_cons (fs_for (passes_of rfl) rfl (fi_r1 rfl B.f_range (fe_int)) (fg_name ND rfl (by first | exact Or.inl rfl | exact Or.inr rfl)) (fb_cons (fs_set ND rfl (by first | exact Or.inl rfl | exact Or.inr rfl) (fe_F F.f__law_program hgu hr tk (fa_cons (fe_v (pv 1)) (fa_cons (fe_op or_add (fe_int) (fe_F F.f__law_roll hgu hr tk (fa_cons (fe_v (pv 1)) (fa_cons (fe_int) (fa_nil))) (.cons (.cons .nil)))) (fa_nil))) (.cons (.cons .nil)))) (fb_cons (fs_set ND rfl (by first | exact Or.inl rfl | exact Or.inr rfl) (fe_bi cr_len rfl B.f_len bt_len (fa_cons (fe_F F.f__law_all hgu hr tk (fa_cons (fe_v (pv 3)) (fa_nil)) (.cons .nil)) (fa_nil)))) (fb_cons (fs_set ND rfl (by first | exact Or.inl rfl | exact Or.inr rfl) (fe_ty cr_tuple rfl B.f_tuple bt_tuple (fa_cons (fe_lc (own := [("at", 19)]) rfl ND (fi_r1 rfl B.f_range (fe_v (pv 4))) (blkOk_by (by kernel_rfl)) (by decide) (gin_name) (fun s H C cl fp => fg_name ND rfl (by first | exact Or.inl rfl | exact Or.inr rfl)) (fun s H C cl fp => fts_nil) (fun s H C cl fp => fe_F F.f__law_some hgu hr takes0 (fa_cons (fe_v (pv 1)) (fa_cons (fe_lst (fa_cons (fe_non) (fa_cons (fe_int) (fa_cons (fe_int) (fa_cons (fe_F F.f__law_roll hgu hr takes0 (fa_cons (fe_v (pv 1)) (fa_cons (fe_int) (fa_nil))) (.cons (.cons .nil))) (fa_cons (fe_int) (fa_cons (fe_int) (fa_nil)))))))) (fa_nil))) (.cons (.cons .nil)))) (fa_nil)))) (fb_one (fs_for (passes_of rfl) rfl (fi_r1 rfl B.f_range (fe_bi cr_len rfl B.f_len bt_len (fa_cons (fe_v (pv 3)) (fa_nil)))) (fg_name ND rfl (by first | exact Or.inl rfl | exact Or.inr rfl)) (fb_one (fs_if (ft_cmp (or_ne hu) (fe_F F.f_thread_alone hgu hr tk (fa_cons (fe_v (pv 3)) (fa_cons (fe_v (pv 6)) (fa_cons (fe_v (pv 5)) (fa_nil)))) (.cons (.cons (.cons .nil)))) (fe_F F.f__law_due hgu hr tk (fa_cons (fe_v (pv 3)) (fa_cons (fe_v (pv 6)) (fa_cons (fe_v (pv 5)) (fa_nil)))) (.cons (.cons (.cons .nil))))) (fb_one (fs_ret (fe_bl))) (fb_nil))))))))) (fb_cons (fs_par rfl ND rfl rfl (by decide) rfl rfl (fa_cons (fe_F F.f__law_roll hgu hr tk (fa_cons (fe_v (pv 1)) (fa_cons (fe_int) (fa_nil))) (.cons (.cons .nil))) (fa_cons (fe_F F.f__law_roll hgu hr tk (fa_cons (fe_v (pv 1)) (fa_cons (fe_int) (fa_nil))) (.cons (.cons .nil))) (fa_nil))) (by rfl)) (fb_cons (fs_set ND rfl (by first | exact Or.inl rfl | exact Or.inr rfl) (fe_lst (fa_cons (fe_tup (fa_cons (fe_str) (fa_cons (fe_op or_mod (fe_ty cr_int rfl B.f_int bt_int (fa_cons (fe_op or_add (fe_v (pv 7)) (fe_v (pv 8))) (fa_nil))) (fe_int)) (fa_nil)))) (fa_cons (fe_tup (fa_cons (fe_str) (fa_cons (fe_op or_mod (fe_ty cr_int rfl B.f_int bt_int (fa_cons (fe_op or_sub (fe_v (pv 7)) (fe_v (pv 8))) (fa_nil))) (fe_int)) (fa_nil)))) (fa_cons (fe_tup (fa_cons (fe_str) (fa_cons (fe_op or_mod (fe_ty cr_int rfl B.f_int bt_int (fa_cons (fe_op or_mul (fe_v (pv 7)) (fe_v (pv 8))) (fa_nil))) (fe_int)) (fa_nil)))) (fa_nil)))))) (fb_cons (fs_set ND rfl (by first | exact Or.inl rfl | exact Or.inr rfl) (fe_op or_add (fe_v (pv 9)) (fe_lst (fa_cons (fe_tup (fa_cons (fe_str) (fa_cons (fe_ty cr_int rfl B.f_int bt_int (fa_cons (fe_cmp (or_eq hu) (fe_v (pv 7)) (fe_v (pv 8))) (fa_nil))) (fa_nil)))) (fa_cons (fe_tup (fa_cons (fe_str) (fa_cons (fe_ty cr_int rfl B.f_int bt_int (fa_cons (fe_cmp or_lt (fe_v (pv 7)) (fe_v (pv 8))) (fa_nil))) (fa_nil)))) (fa_cons (fe_tup (fa_cons (fe_str) (fa_cons (fe_ty cr_int rfl B.f_int bt_int (fa_cons (fe_cmp (or_eq hu) (fe_v (pv 7)) (fe_v (pv 8))) (fa_nil))) (fa_nil)))) (fa_nil))))))) (fb_cons (fs_for (passes_of rfl) rfl (fi_seq (fe_v (pv 9))) (fg_tup rfl (fgs_cons (fg_name ND rfl (by first | exact Or.inl rfl | exact Or.inr rfl)) (fgs_cons (fg_name ND rfl (by first | exact Or.inl rfl | exact Or.inr rfl)) (fgs_nil)))) (fb_cons (fs_set ND rfl (by first | exact Or.inl rfl | exact Or.inr rfl) (fe_F F.f_thread_alone hgu hr tk (fa_cons (fe_tup (fa_cons (fe_tup (fa_cons (fe_tup (fa_cons (fe_str) (fa_cons (fe_int) (fa_cons (fe_tup (fa_cons (fe_v (pv 10)) (fa_cons (fe_tup (fa_cons (fe_str) (fa_cons (fe_v (pv 7)) (fa_nil)))) (fa_cons (fe_tup (fa_cons (fe_str) (fa_cons (fe_v (pv 8)) (fa_nil)))) (fa_nil))))) (fa_nil))))) (fa_nil))) (fa_nil))) (fa_cons (fe_int) (fa_cons (fe_tup (fa_nil)) (fa_nil)))) (.cons (.cons (.cons .nil))))) (fb_one (fs_if (ft_cmp (or_ne hu) (fe_v (pv 12)) (fe_tup (fa_cons (fe_tup (fa_nil)) (fa_cons (fe_tup (fa_cons (fe_int) (fa_cons (fe_int) (fa_cons (fe_v (pv 11)) (fa_nil))))) (fa_cons (fe_str) (fa_nil)))))) (fb_one (fs_ret (fe_bl))) (fb_nil))))) (fb_cons (fs_set ND rfl (by first | exact Or.inl rfl | exact Or.inr rfl) (fe_tup (fa_cons (fe_tup (fa_cons (fe_tup (fa_cons (fe_str) (fa_cons (fe_tup (fa_cons (fe_str) (fa_cons (fe_int) (fa_nil)))) (fa_nil)))) (fa_cons (fe_tup (fa_cons (fe_str) (fa_cons (fe_int) (fa_cons (fe_str) (fa_cons (fe_tup (fa_cons (fe_str) (fa_cons (fe_int) (fa_nil)))) (fa_nil)))))) (fa_nil)))) (fa_nil)))) (fb_cons (fs_set ND rfl (by first | exact Or.inl rfl | exact Or.inr rfl) (fe_tup (fa_cons (fe_str) (fa_cons (fe_tup (fa_cons (fe_str) (fa_cons (fe_tup (fa_cons (fe_str) (fa_cons (fe_int) (fa_nil)))) (fa_cons (fe_tup (fa_cons (fe_str) (fa_cons (fe_int) (fa_nil)))) (fa_nil))))) (fa_cons (fe_tup (fa_cons (fe_tup (fa_cons (fe_str) (fa_cons (fe_tup (fa_cons (fe_str) (fa_cons (fe_int) (fa_nil)))) (fa_nil)))) (fa_nil))) (fa_cons (fe_tup (fa_cons (fe_tup (fa_cons (fe_str) (fa_cons (fe_int) (fa_cons (fe_tup (fa_cons (fe_str) (fa_cons (fe_int) (fa_nil)))) (fa_nil))))) (fa_nil))) (fa_nil))))))) (fb_cons (fs_set ND rfl (by first | exact Or.inl rfl | exact Or.inr rfl) (fe_tup (fa_cons (fe_tup (fa_cons (fe_tup (fa_cons (fe_str) (fa_cons (fe_int) (fa_cons (fe_int) (fa_cons (fe_tup (fa_cons (fe_str) (fa_cons (fe_int) (fa_nil)))) (fa_cons (fe_tup (fa_cons (fe_str) (fa_cons (fe_tup (fa_cons (fe_str) (fa_cons (fe_int) (fa_nil)))) (fa_cons (fe_tup (fa_cons (fe_str) (fa_cons (fe_int) (fa_nil)))) (fa_nil))))) (fa_nil))))))) (fa_cons (fe_v (pv 14)) (fa_nil)))) (fa_nil)))) (fb_cons (fs_set ND rfl (by first | exact Or.inl rfl | exact Or.inr rfl) (fe_lst (fa_cons (fe_tup (fa_cons (fe_v (pv 13)) (fa_cons (fe_tup (fa_cons (fe_non) (fa_nil))) (fa_cons (fe_tup (fa_cons (fe_tup (fa_nil)) (fa_cons (fe_tup (fa_cons (fe_int) (fa_cons (fe_int) (fa_cons (fe_int) (fa_nil))))) (fa_cons (fe_str) (fa_nil))))) (fa_nil))))) (fa_cons (fe_tup (fa_cons (fe_v (pv 15)) (fa_cons (fe_tup (fa_cons (fe_int) (fa_nil))) (fa_cons (fe_tup (fa_cons (fe_tup (fa_cons (fe_tup (fa_cons (fe_int) (fa_cons (fe_int) (fa_cons (fe_int) (fa_nil))))) (fa_nil))) (fa_cons (fe_tup (fa_cons (fe_int) (fa_cons (fe_int) (fa_cons (fe_int) (fa_nil))))) (fa_cons (fe_str) (fa_nil))))) (fa_nil))))) (fa_nil))))) (fb_cons (fs_set ND rfl (by first | exact Or.inl rfl | exact Or.inr rfl) (fe_op or_add (fe_v (pv 9)) (fe_lst (fa_cons (fe_tup (fa_cons (fe_v (pv 15)) (fa_cons (fe_tup (fa_cons (fe_int) (fa_nil))) (fa_cons (fe_tup (fa_cons (fe_tup (fa_cons (fe_tup (fa_cons (fe_int) (fa_cons (fe_int) (fa_cons (fe_non) (fa_nil))))) (fa_nil))) (fa_cons (fe_tup (fa_cons (fe_int) (fa_cons (fe_int) (fa_cons (fe_int) (fa_nil))))) (fa_cons (fe_str) (fa_nil))))) (fa_nil))))) (fa_cons (fe_tup (fa_cons (fe_v (pv 15)) (fa_cons (fe_tup (fa_cons (fe_non) (fa_nil))) (fa_cons (fe_tup (fa_cons (fe_tup (fa_nil)) (fa_cons (fe_tup (fa_cons (fe_int) (fa_cons (fe_int) (fa_cons (fe_int) (fa_nil))))) (fa_cons (fe_str) (fa_nil))))) (fa_nil))))) (fa_nil)))))) (fb_cons (fs_if (ft_cmp (or_ne hu) (fe_lc (own := [("row", 20)]) rfl ND (fi_seq (fe_v (pv 9))) (blkOk_by (by kernel_rfl)) (by decide) (gin_name) (fun s H C cl fp => fg_name ND rfl (by first | exact Or.inl rfl | exact Or.inr rfl)) (fun s H C cl fp => fts_one (ft_cmp (or_ne hu) (fe_F F.f_thread_alone hgu hr takes0 (fa_cons (fe_ix xr_ix (fe_v (pv 20)) (fe_int)) (fa_cons (fe_int) (fa_cons (fe_ix xr_ix (fe_v (pv 20)) (fe_int)) (fa_nil)))) (.cons (.cons (.cons .nil)))) (fe_ix xr_ix (fe_v (pv 20)) (fe_int)))) (fun s H C cl fp => fe_v (pv 20))) (fe_lst (fa_nil))) (fb_one (fs_ret (fe_bl))) (fb_nil)) (fb_cons (fs_set ND rfl (by first | exact Or.inl rfl | exact Or.inr rfl) (fe_tup (fa_cons (fe_tup (fa_nil)) (fa_cons (fe_tup (fa_nil)) (fa_cons (fe_tup (fa_nil)) (fa_cons (fe_tup (fa_cons (fe_tup (fa_cons (fe_str) (fa_cons (fe_tup (fa_cons (fe_str) (fa_cons (fe_int) (fa_nil)))) (fa_cons (fe_tup (fa_cons (fe_tup (fa_cons (fe_str) (fa_cons (fe_tup (fa_cons (fe_str) (fa_cons (fe_int) (fa_nil)))) (fa_cons (fe_tup (fa_cons (fe_tup (fa_cons (fe_str) (fa_nil))) (fa_cons (fe_tup (fa_cons (fe_str) (fa_cons (fe_int) (fa_cons (fe_int) (fa_cons (fe_str) (fa_nil)))))) (fa_cons (fe_tup (fa_cons (fe_str) (fa_cons (fe_int) (fa_cons (fe_int) (fa_cons (fe_tup (fa_cons (fe_str) (fa_cons (fe_tup (fa_cons (fe_str) (fa_cons (fe_int) (fa_nil)))) (fa_cons (fe_tup (fa_cons (fe_str) (fa_cons (fe_int) (fa_nil)))) (fa_nil))))) (fa_nil)))))) (fa_nil))))) (fa_cons (fe_tup (fa_nil)) (fa_nil)))))) (fa_nil))) (fa_cons (fe_tup (fa_nil)) (fa_nil)))))) (fa_nil))) (fa_nil))))))) (fb_cons (fs_if (ft_cmp (or_ne hu) (fe_F F.f_thread_alone hgu hr tk (fa_cons (fe_v (pv 16)) (fa_cons (fe_int) (fa_cons (fe_tup (fa_cons (fe_int) (fa_cons (fe_int) (fa_nil)))) (fa_nil)))) (.cons (.cons (.cons .nil)))) (fe_tup (fa_cons (fe_tup (fa_cons (fe_tup (fa_cons (fe_int) (fa_cons (fe_int) (fa_cons (fe_non) (fa_nil))))) (fa_cons (fe_tup (fa_cons (fe_int) (fa_cons (fe_int) (fa_cons (fe_int) (fa_nil))))) (fa_nil)))) (fa_cons (fe_tup (fa_cons (fe_int) (fa_cons (fe_int) (fa_cons (fe_int) (fa_nil))))) (fa_cons (fe_str) (fa_nil)))))) (fb_one (fs_ret (fe_bl))) (fb_nil)) (fb_cons (fs_set ND rfl (by first | exact Or.inl rfl | exact Or.inr rfl) (fe_tup (fa_cons (fe_tup (fa_cons (fe_tup (fa_cons (fe_str) (fa_cons (fe_int) (fa_cons (fe_int) (fa_cons (fe_str) (fa_nil)))))) (fa_nil))) (fa_cons (fe_tup (fa_cons (fe_tup (fa_cons (fe_str) (fa_cons (fe_int) (fa_cons (fe_str) (fa_cons (fe_tup (fa_cons (fe_str) (fa_cons (fe_int) (fa_nil)))) (fa_nil)))))) (fa_nil))) (fa_nil))))) (fb_cons (fs_setLc (own := [("odd", 21)]) rfl ND rfl rfl (by rfl) (fi_seq (fe_tup (fa_cons (fe_non) (fa_cons (fe_tup (fa_nil)) (fa_cons (fe_lst (fa_cons (fe_v (pv 3)) (fa_nil))) (fa_nil)))))) (blkOk_by (by kernel_rfl)) (by decide) (gin_name) (fun s H C cl fp => fg_name ND rfl (by first | exact Or.inl rfl | exact Or.inr rfl)) (fun s H C cl fp => fts_nil) (fun s H C cl fp => fe_lam (wd B) hTB hcode hP (by rfl) hr (LamX.lamS_by (by kernel_rfl)) (fun A outer s H E f c4 rm tk => fe_F F2.f_thread_alone hgu rm tk (fa_cons (fe_v (pv 21)) (fa_cons (fe_non) (fa_cons (fe_non) (fa_nil)))) (.cons (.cons (.cons .nil)))))) (fb_cons (fs_set ND rfl (by first | exact Or.inl rfl | exact Or.inr rfl) (fe_op or_add (fe_v (pv 17)) (fe_lc (own := [("odd", 21)]) rfl ND (fi_seq (fe_tup (fa_cons (fe_non) (fa_cons (fe_int) (fa_cons (fe_un ur_neg (fe_int)) (fa_cons (fe_bl) (fa_nil))))))) (blkOk_by (by kernel_rfl)) (by decide) (gin_name) (fun s H C cl fp => fg_name ND rfl (by first | exact Or.inl rfl | exact Or.inr rfl)) (fun s H C cl fp => fts_nil) (fun s H C cl fp => fe_lam (wd B) hTB hcode hP (by rfl) hr (LamX.lamS_by (by kernel_rfl)) (fun A outer s H E f c4 rm tk => fe_F F2.f_thread_alone hgu rm tk (fa_cons (fe_v (pv 3)) (fa_cons (fe_v (pv 21)) (fa_cons (fe_non) (fa_nil)))) (.cons (.cons (.cons .nil)))))))) (fb_cons (fs_set ND rfl (by first | exact Or.inl rfl | exact Or.inr rfl) (fe_lst (fa_cons (fe_non) (fa_cons (fe_tup (fa_nil)) (fa_cons (fe_tup (fa_cons (fe_int) (fa_nil))) (fa_cons (fe_tup (fa_cons (fe_int) (fa_cons (fe_int) (fa_cons (fe_int) (fa_nil))))) (fa_cons (fe_tup (fa_cons (fe_int) (fa_cons (fe_int) (fa_nil)))) (fa_cons (fe_tup (fa_cons (fe_un ur_neg (fe_int)) (fa_cons (fe_int) (fa_nil)))) (fa_cons (fe_tup (fa_cons (fe_bl) (fa_cons (fe_int) (fa_nil)))) (fa_cons (fe_lst (fa_cons (fe_int) (fa_cons (fe_int) (fa_nil)))) (fa_cons (fe_tup (fa_cons (fe_str) (fa_cons (fe_int) (fa_nil)))) (fa_cons (fe_tup (fa_cons (fe_int) (fa_cons (fe_int) (fa_nil)))) (fa_cons (fe_tup (fa_cons (fe_int) (fa_cons (fe_bl) (fa_nil)))) (fa_cons (fe_tup (fa_cons (fe_non) (fa_cons (fe_str) (fa_nil)))) (fa_nil))))))))))))))) (fb_cons (fs_set ND rfl (by first | exact Or.inl rfl | exact Or.inr rfl) (fe_op or_add (fe_v (pv 17)) (fe_lc (own := [("odd", 21)]) rfl ND (fi_seq (fe_v (pv 18))) (blkOk_by (by kernel_rfl)) (by decide) (gin_name) (fun s H C cl fp => fg_name ND rfl (by first | exact Or.inl rfl | exact Or.inr rfl)) (fun s H C cl fp => fts_nil) (fun s H C cl fp => fe_lam (wd B) hTB hcode hP (by rfl) hr (LamX.lamS_by (by kernel_rfl)) (fun A outer s H E f c4 rm tk => fe_F F2.f_thread_alone hgu rm tk (fa_cons (fe_v (pv 3)) (fa_cons (fe_int) (fa_cons (fe_v (pv 21)) (fa_nil)))) (.cons (.cons (.cons .nil)))))))) (fb_cons (fs_if (ft_cmp (or_ne hu) (fe_v (pv 17)) (fe_op or_add (fe_op or_add (fe_mulL (fe_lst (fa_cons (fe_str) (fa_nil))) (fe_int)) (fe_mulL (fe_lst (fa_cons (fe_str) (fa_nil))) (fe_int))) (fe_mulL (fe_lst (fa_cons (fe_str) (fa_nil))) (fe_int)))) (fb_one (fs_ret (fe_bl))) (fb_nil)) (fb_one (fs_ret (fe_cmp (or_eq hu) (fe_F F.f_thread_alone hgu hr tk (fa_cons (fe_v (pv 3)) (fa_cons (fe_int) (fa_cons (fe_tup (fa_cons (fe_non) (fa_cons (fe_non) (fa_nil)))) (fa_nil)))) (.cons (.cons (.cons .nil)))) (fe_tup (fa_cons (fe_tup (fa_cons (fe_tup (fa_cons (fe_int) (fa_cons (fe_non) (fa_cons (fe_int) (fa_nil))))) (fa_nil))) (fa_cons (fe_tup (fa_cons (fe_int) (fa_cons (fe_int) (fa_cons (fe_int) (fa_nil))))) (fa_cons (fe_str) (fa_nil)))))))))))))))))))))))))))
theorem fs_all (B : Bx K mg) : ∀ n, Fs P w K mg base n (S n)
  | 0 => ⟨GF.zero B.d_is_whole, GF.zero B.d_is_tuple_of, GF.zero B.d_is_word_of, GF.zero B.d_fits_expression, GF.zero B.d_is_register, GF.zero B.d_is_cell, GF.zero B.d_fits_access, GF.zero B.d_is_access, GF.zero B.d_fits_inner, GF.zero B.d_blocks_of, GF.zero B.d_all_statements, GF.zero B.d_fits_block, GF.zero B.d_fits_program, GF.zero B.d_numbered_block, GF.zero B.d_numbered_threads, GF.zero B.d_accesses_in, GF.zero B.d_can_read, GF.zero B.d_need_program, GF.zero B.d_need_number, GF.zero B.d_worth_by, GF.zero B.d_with_register, GF.zero B.d_settled, GF.zero B.d_begun, GF.zero B.d_written_by, GF.zero B.d_behind, GF.zero B.d_done_alone, GF.zero B.d_fits_values, GF.zero B.d_thread_alone, GF.zero B.d__law_cup, GF.zero B.d__law_roll, GF.zero B.d__law_some, GF.zero B.d__law_worth, GF.zero B.d__law_is_access, GF.zero B.d__law_numbered, GF.zero B.d__law_threads, GF.zero B.d__law_accesses, GF.zero B.d__law_all, GF.zero B.d__law_settled, GF.zero B.d__law_written, GF.zero B.d__law_behind, GF.zero B.d__law_begun, GF.zero B.d__law_expression, GF.zero B.d__law_access, GF.zero B.d__law_thread, GF.zero B.d__law_program, GF.zero B.d__law_due⟩
  | n + 1 => ⟨w_is_whole B (fs_all B n), w_is_tuple_of B (fs_all B n), w_is_word_of B (fs_all B n), w_fits_expression B (fs_all B n), w_is_register B (fs_all B n), w_is_cell B (fs_all B n), w_fits_access B (fs_all B n), w_is_access B (fs_all B n), w_fits_inner B (fs_all B n), w_blocks_of B (fs_all B n), w_all_statements B (fs_all B n), w_fits_block B (fs_all B n), w_fits_program B (fs_all B n), w_numbered_block B (fs_all B n), w_numbered_threads B (fs_all B n), w_accesses_in B (fs_all B n), w_can_read B (fs_all B n), w_need_program B (fs_all B n), w_need_number B (fs_all B n), w_worth_by B (fs_all B n), w_with_register B (fs_all B n), w_settled B (fs_all B n), w_begun B (fs_all B n), w_written_by B (fs_all B n), w_behind B (fs_all B n), w_done_alone B (fs_all B n), w_fits_values B (fs_all B n), w_thread_alone B (fs_all B n), w__law_cup B (fs_all B n), w__law_roll B (fs_all B n), w__law_some B (fs_all B n), w__law_worth B (fs_all B n), w__law_is_access B (fs_all B n), w__law_numbered B (fs_all B n), w__law_threads B (fs_all B n), w__law_accesses B (fs_all B n), w__law_all B (fs_all B n), w__law_settled B (fs_all B n), w__law_written B (fs_all B n), w__law_behind B (fs_all B n), w__law_begun B (fs_all B n), w__law_expression B (fs_all B n), w__law_access B (fs_all B n), w__law_thread B (fs_all B n), w__law_program B (fs_all B n), w__law_due B (fs_all B n)⟩
end
end Lw
end
section
set_option Elab.async false
set_option linter.all false
set_option maxRecDepth 100000
set_option maxHeartbeats 0
namespace Lw
open PySem PySem.Spec PyProof.Rows L2 FE

def dd (x : Str) (i : Nat) : He.DefD := ⟨(x, none), x, x, defArgs (top i), defBody (top i), defScope (top i), [], []⟩
def fn : List He.DefD := (([dd "is_whole" 21, dd "is_tuple_of" 22, dd "is_word_of" 23, dd "fits_expression" 24, dd "is_register" 25, dd "is_cell" 26, dd "fits_access" 27, dd "is_access" 28, dd "fits_inner" 29, dd "blocks_of" 30, dd "all_statements" 31, dd "fits_block" 32, dd "fits_program" 33, dd "numbered_block" 34, dd "numbered_threads" 35, dd "accesses_in" 36, dd "can_read" 37, dd "need_program" 38, dd "need_number" 39, dd "worth_by" 41, dd "with_register" 42, dd "settled" 43, dd "begun" 44, dd "written_by" 45, dd "behind" 46, dd "done_alone" 47, dd "fits_values" 48, dd "thread_alone" 49, dd "_law_cup" 51, dd "_law_roll" 52] : List He.DefD) ++ ([dd "_law_some" 53, dd "_law_worth" 54, dd "_law_is_access" 55, dd "_law_numbered" 56, dd "_law_threads" 57, dd "_law_accesses" 58, dd "_law_all" 59, dd "_law_settled" 60, dd "_law_written" 61, dd "_law_behind" 62, dd "_law_begun" 63, dd "_law_expression" 64, dd "_law_access" 65, dd "_law_thread" 66, dd "_law_program" 67, dd "_law_word" 68, dd "_law_due" 69, dd "law" 70] : List He.DefD))
def fa : List He.Fa := (([.glo "is_whole", .glo "is_tuple_of", .glo "is_word_of", .glo "fits_expression", .glo "is_register", .glo "is_cell", .glo "fits_access", .glo "is_access", .glo "fits_inner", .glo "blocks_of", .glo "all_statements", .glo "fits_block", .glo "fits_program", .glo "numbered_block", .glo "numbered_threads", .glo "accesses_in", .glo "can_read", .glo "need_program", .glo "need_number", .glo "worth_by", .glo "with_register", .glo "settled", .glo "begun", .glo "written_by", .glo "behind", .glo "done_alone", .glo "fits_values", .glo "thread_alone", .glo "_law_cup", .glo "_law_roll"] : List He.Fa) ++ ([.glo "_law_some", .glo "_law_worth", .glo "_law_is_access", .glo "_law_numbered", .glo "_law_threads", .glo "_law_accesses", .glo "_law_all", .glo "_law_settled", .glo "_law_written", .glo "_law_behind", .glo "_law_begun", .glo "_law_expression", .glo "_law_access", .glo "_law_thread", .glo "_law_program", .glo "_law_word", .glo "_law_due", .glo "law", .free "abs", .free "all", .free "bool", .free "enumerate", .free "int", .free "isinstance", .free "len", .free "list", .free "range", .free "str", .free "tuple", .glo "InvalidNumber"] : List He.Fa) ++ ([.glo "InvalidProgram", .glo "InvalidRow", .glo "InvalidValues", .exc "InvalidNumber", .exc "InvalidProgram", .exc "InvalidValues", .exm "InvalidNumber" "InvalidNumber" true, .exm "InvalidProgram" "InvalidNumber" false, .exm "InvalidValues" "InvalidNumber" false, .exm "InvalidNumber" "InvalidProgram" false, .exm "InvalidProgram" "InvalidProgram" true, .exm "InvalidValues" "InvalidProgram" false, .exm "InvalidNumber" "InvalidRow" false, .exm "InvalidProgram" "InvalidRow" false, .exm "InvalidValues" "InvalidRow" false, .exm "InvalidNumber" "InvalidValues" false, .exm "InvalidProgram" "InvalidValues" false, .exm "InvalidValues" "InvalidValues" true] : List He.Fa))
def fy : List Fy := [.kon "VALUES" k_VALUES, .kon "CELLS" k_CELLS, .kon "REGISTERS" k_REGISTERS, .kon "THREADS" k_THREADS, .kon "STATEMENTS" k_STATEMENTS, .kon "ACCESSES" k_ACCESSES, .kon "FENCES" k_FENCES, .kon "IFS" k_IFS, .kon "DEEP" k_DEEP, .kon "WORKED" k_WORKED, .kon "WRITING" k_WRITING, .kon "READING" k_READING, .kon "EXCHANGES" k_EXCHANGES, .exC "InvalidNumber", .exC "InvalidProgram", .exC "InvalidValues"]
abbrev Rw : PySem.W.OpenRow := PySem.W.OpenLaw.row PySem.Challenge.rw_mendedmodels_k01_whole_threads_alone
abbrev hk : PySem.W.Hook := hookZ 4 fy fa fn [Lw0]
def ob (s : PySem.W.SharedT) : AlY := obsZG 4 fy fa fn [Lw0] (HandSHeadRun.getT s)
theorem ob_eq (s : PySem.W.SharedT) : ob s = hk.obs s.abs := obsZG_eq (HandSHeadRun.getT_eq s)
def loose : List Str := ((["__name__", "ModelError", "InvalidProgram", "InvalidNumber", "InvalidValues", "InvalidRow", "TooMany", "VALUES", "CELLS", "REGISTERS", "THREADS", "STATEMENTS", "ACCESSES", "FENCES", "IFS", "DEEP", "WORKED", "WRITING", "READING", "EXCHANGES", "is_whole", "is_tuple_of", "is_word_of", "fits_expression", "is_register", "is_cell", "fits_access", "is_access", "fits_inner", "blocks_of"] : List Str) ++ (["all_statements", "fits_block", "fits_program", "numbered_block", "numbered_threads", "accesses_in", "can_read", "need_program", "need_number", "worth_by", "with_register", "settled", "begun", "written_by", "behind", "done_alone", "fits_values", "thread_alone", "_law_cup", "_law_roll", "_law_some", "_law_worth", "_law_is_access", "_law_numbered", "_law_threads", "_law_accesses", "_law_all", "_law_settled", "_law_written", "_law_behind"] : List Str) ++ (["_law_begun", "_law_expression", "_law_access", "_law_thread", "_law_program", "_law_word", "_law_due"] : List Str))
theorem run (w : World) : HandSHeadRun.RunEq Rw (PySem.W.view Rw.prog [70]) hk ob 4000 loose w := by
  intro os
  kernel_rfl
theorem facts {K : PySem.W.Frag} {h : Heap} {mg : Str → Option Value} (X : K.In h) (G : h.Ns mainGlobals mg) (c : SaysY fy fa fn K) : Bx K mg where
  f_abs := He.free_ok X G (c.d.fact 48 (f := .free "abs") rfl)
  f_all := He.free_ok X G (c.d.fact 49 (f := .free "all") rfl)
  f_bool := He.free_ok X G (c.d.fact 50 (f := .free "bool") rfl)
  f_enumerate := He.free_ok X G (c.d.fact 51 (f := .free "enumerate") rfl)
  f_int := He.free_ok X G (c.d.fact 52 (f := .free "int") rfl)
  f_isinstance := He.free_ok X G (c.d.fact 53 (f := .free "isinstance") rfl)
  f_len := He.free_ok X G (c.d.fact 54 (f := .free "len") rfl)
  f_list := He.free_ok X G (c.d.fact 55 (f := .free "list") rfl)
  f_range := He.free_ok X G (c.d.fact 56 (f := .free "range") rfl)
  f_str := He.free_ok X G (c.d.fact 57 (f := .free "str") rfl)
  f_tuple := He.free_ok X G (c.d.fact 58 (f := .free "tuple") rfl)
  k_VALUES := kon_ok X G (c.y 0 (f := .kon "VALUES" k_VALUES) rfl)
  k_CELLS := kon_ok X G (c.y 1 (f := .kon "CELLS" k_CELLS) rfl)
  k_REGISTERS := kon_ok X G (c.y 2 (f := .kon "REGISTERS" k_REGISTERS) rfl)
  k_THREADS := kon_ok X G (c.y 3 (f := .kon "THREADS" k_THREADS) rfl)
  k_STATEMENTS := kon_ok X G (c.y 4 (f := .kon "STATEMENTS" k_STATEMENTS) rfl)
  k_ACCESSES := kon_ok X G (c.y 5 (f := .kon "ACCESSES" k_ACCESSES) rfl)
  k_FENCES := kon_ok X G (c.y 6 (f := .kon "FENCES" k_FENCES) rfl)
  k_IFS := kon_ok X G (c.y 7 (f := .kon "IFS" k_IFS) rfl)
  k_DEEP := kon_ok X G (c.y 8 (f := .kon "DEEP" k_DEEP) rfl)
  k_WORKED := kon_ok X G (c.y 9 (f := .kon "WORKED" k_WORKED) rfl)
  k_WRITING := kon_ok X G (c.y 10 (f := .kon "WRITING" k_WRITING) rfl)
  k_READING := kon_ok X G (c.y 11 (f := .kon "READING" k_READING) rfl)
  k_EXCHANGES := kon_ok X G (c.y 12 (f := .kon "EXCHANGES" k_EXCHANGES) rfl)
  x_InvalidNumber := exw_of X G (c.d.fact 63 (f := .exc "InvalidNumber") rfl) (c.d.fact 59 (f := .glo "InvalidNumber") rfl)
  x_InvalidProgram := exw_of X G (c.d.fact 64 (f := .exc "InvalidProgram") rfl) (c.d.fact 60 (f := .glo "InvalidProgram") rfl)
  x_InvalidValues := exw_of X G (c.d.fact 65 (f := .exc "InvalidValues") rfl) (c.d.fact 62 (f := .glo "InvalidValues") rfl)
  n_InvalidNumber := (He.glo_ok X G (c.d.fact 59 (f := .glo "InvalidNumber") rfl))
  c_InvalidNumber := .cons (.ref (He.ga K "InvalidNumber")) (He.glo_ok X G (c.d.fact 59 (f := .glo "InvalidNumber") rfl)) (He.exm_ok (c.d.fact 66 (f := .exm "InvalidNumber" "InvalidNumber" true) rfl)) (.cons (.ref (He.ga K "InvalidProgram")) (He.glo_ok X G (c.d.fact 60 (f := .glo "InvalidProgram") rfl)) (He.exm_ok (c.d.fact 67 (f := .exm "InvalidProgram" "InvalidNumber" false) rfl)) (.cons (.ref (He.ga K "InvalidValues")) (He.glo_ok X G (c.d.fact 62 (f := .glo "InvalidValues") rfl)) (He.exm_ok (c.d.fact 68 (f := .exm "InvalidValues" "InvalidNumber" false) rfl)) (.nil)))
  n_InvalidProgram := (He.glo_ok X G (c.d.fact 60 (f := .glo "InvalidProgram") rfl))
  c_InvalidProgram := .cons (.ref (He.ga K "InvalidNumber")) (He.glo_ok X G (c.d.fact 59 (f := .glo "InvalidNumber") rfl)) (He.exm_ok (c.d.fact 69 (f := .exm "InvalidNumber" "InvalidProgram" false) rfl)) (.cons (.ref (He.ga K "InvalidProgram")) (He.glo_ok X G (c.d.fact 60 (f := .glo "InvalidProgram") rfl)) (He.exm_ok (c.d.fact 70 (f := .exm "InvalidProgram" "InvalidProgram" true) rfl)) (.cons (.ref (He.ga K "InvalidValues")) (He.glo_ok X G (c.d.fact 62 (f := .glo "InvalidValues") rfl)) (He.exm_ok (c.d.fact 71 (f := .exm "InvalidValues" "InvalidProgram" false) rfl)) (.nil)))
  n_InvalidRow := (He.glo_ok X G (c.d.fact 61 (f := .glo "InvalidRow") rfl))
  c_InvalidRow := .cons (.ref (He.ga K "InvalidNumber")) (He.glo_ok X G (c.d.fact 59 (f := .glo "InvalidNumber") rfl)) (He.exm_ok (c.d.fact 72 (f := .exm "InvalidNumber" "InvalidRow" false) rfl)) (.cons (.ref (He.ga K "InvalidProgram")) (He.glo_ok X G (c.d.fact 60 (f := .glo "InvalidProgram") rfl)) (He.exm_ok (c.d.fact 73 (f := .exm "InvalidProgram" "InvalidRow" false) rfl)) (.cons (.ref (He.ga K "InvalidValues")) (He.glo_ok X G (c.d.fact 62 (f := .glo "InvalidValues") rfl)) (He.exm_ok (c.d.fact 74 (f := .exm "InvalidValues" "InvalidRow" false) rfl)) (.nil)))
  n_InvalidValues := (He.glo_ok X G (c.d.fact 62 (f := .glo "InvalidValues") rfl))
  c_InvalidValues := .cons (.ref (He.ga K "InvalidNumber")) (He.glo_ok X G (c.d.fact 59 (f := .glo "InvalidNumber") rfl)) (He.exm_ok (c.d.fact 75 (f := .exm "InvalidNumber" "InvalidValues" false) rfl)) (.cons (.ref (He.ga K "InvalidProgram")) (He.glo_ok X G (c.d.fact 60 (f := .glo "InvalidProgram") rfl)) (He.exm_ok (c.d.fact 76 (f := .exm "InvalidProgram" "InvalidValues" false) rfl)) (.cons (.ref (He.ga K "InvalidValues")) (He.glo_ok X G (c.d.fact 62 (f := .glo "InvalidValues") rfl)) (He.exm_ok (c.d.fact 77 (f := .exm "InvalidValues" "InvalidValues" true) rfl)) (.nil)))
  d_is_whole := df_of X G c.d 0 (d := dd "is_whole" 21) rfl rfl 0 rfl fun _ _ _ _ _ _ us hl => match us, hl with | [_, _, _], _ => rfl
  d_is_tuple_of := df_of X G c.d 1 (d := dd "is_tuple_of" 22) rfl rfl 1 rfl fun _ _ _ _ _ _ us hl => match us, hl with | [_, _, _], _ => rfl
  d_is_word_of := df_of X G c.d 2 (d := dd "is_word_of" 23) rfl rfl 2 rfl fun _ _ _ _ _ _ us hl => match us, hl with | [_, _], _ => rfl
  d_fits_expression := df_of X G c.d 3 (d := dd "fits_expression" 24) rfl rfl 3 rfl fun _ _ _ _ _ _ us hl => match us, hl with | [_], _ => rfl
  d_is_register := df_of X G c.d 4 (d := dd "is_register" 25) rfl rfl 4 rfl fun _ _ _ _ _ _ us hl => match us, hl with | [_], _ => rfl
  d_is_cell := df_of X G c.d 5 (d := dd "is_cell" 26) rfl rfl 5 rfl fun _ _ _ _ _ _ us hl => match us, hl with | [_], _ => rfl
  d_fits_access := df_of X G c.d 6 (d := dd "fits_access" 27) rfl rfl 6 rfl fun _ _ _ _ _ _ us hl => match us, hl with | [_], _ => rfl
  d_is_access := df_of X G c.d 7 (d := dd "is_access" 28) rfl rfl 7 rfl fun _ _ _ _ _ _ us hl => match us, hl with | [_], _ => rfl
  d_fits_inner := df_of X G c.d 8 (d := dd "fits_inner" 29) rfl rfl 8 rfl fun _ _ _ _ _ _ us hl => match us, hl with | [_], _ => rfl
  d_blocks_of := df_of X G c.d 9 (d := dd "blocks_of" 30) rfl rfl 9 rfl fun _ _ _ _ _ _ us hl => match us, hl with | [_], _ => rfl
  d_all_statements := df_of X G c.d 10 (d := dd "all_statements" 31) rfl rfl 10 rfl fun _ _ _ _ _ _ us hl => match us, hl with | [_], _ => rfl
  d_fits_block := df_of X G c.d 11 (d := dd "fits_block" 32) rfl rfl 11 rfl fun _ _ _ _ _ _ us hl => match us, hl with | [_], _ => rfl
  d_fits_program := df_of X G c.d 12 (d := dd "fits_program" 33) rfl rfl 12 rfl fun _ _ _ _ _ _ us hl => match us, hl with | [_], _ => rfl
  d_numbered_block := df_of X G c.d 13 (d := dd "numbered_block" 34) rfl rfl 13 rfl fun _ _ _ _ _ _ us hl => match us, hl with | [_, _], _ => rfl
  d_numbered_threads := df_of X G c.d 14 (d := dd "numbered_threads" 35) rfl rfl 14 rfl fun _ _ _ _ _ _ us hl => match us, hl with | [_], _ => rfl
  d_accesses_in := df_of X G c.d 15 (d := dd "accesses_in" 36) rfl rfl 15 rfl fun _ _ _ _ _ _ us hl => match us, hl with | [_], _ => rfl
  d_can_read := df_of X G c.d 16 (d := dd "can_read" 37) rfl rfl 16 rfl fun _ _ _ _ _ _ us hl => match us, hl with | [_], _ => rfl
  d_need_program := df_of X G c.d 17 (d := dd "need_program" 38) rfl rfl 17 rfl fun _ _ _ _ _ _ us hl => match us, hl with | [_], _ => rfl
  d_need_number := df_of X G c.d 18 (d := dd "need_number" 39) rfl rfl 18 rfl fun _ _ _ _ _ _ us hl => match us, hl with | [_, _, _], _ => rfl
  d_worth_by := df_of X G c.d 19 (d := dd "worth_by" 41) rfl rfl 19 rfl fun _ _ _ _ _ _ us hl => match us, hl with | [_, _], _ => rfl
  d_with_register := df_of X G c.d 20 (d := dd "with_register" 42) rfl rfl 20 rfl fun _ _ _ _ _ _ us hl => match us, hl with | [_, _, _], _ => rfl
  d_settled := df_of X G c.d 21 (d := dd "settled" 43) rfl rfl 21 rfl fun _ _ _ _ _ _ us hl => match us, hl with | [_, _], _ => rfl
  d_begun := df_of X G c.d 22 (d := dd "begun" 44) rfl rfl 22 rfl fun _ _ _ _ _ _ us hl => match us, hl with | [_], _ => rfl
  d_written_by := df_of X G c.d 23 (d := dd "written_by" 45) rfl rfl 23 rfl fun _ _ _ _ _ _ us hl => match us, hl with | [_, _, _], _ => rfl
  d_behind := df_of X G c.d 24 (d := dd "behind" 46) rfl rfl 24 rfl fun _ _ _ _ _ _ us hl => match us, hl with | [_, _, _], _ => rfl
  d_done_alone := df_of X G c.d 25 (d := dd "done_alone" 47) rfl rfl 25 rfl fun _ _ _ _ _ _ us hl => match us, hl with | [_, _, _], _ => rfl
  d_fits_values := df_of X G c.d 26 (d := dd "fits_values" 48) rfl rfl 26 rfl fun _ _ _ _ _ _ us hl => match us, hl with | [_, _], _ => rfl
  d_thread_alone := df_of X G c.d 27 (d := dd "thread_alone" 49) rfl rfl 27 rfl fun _ _ _ _ _ _ us hl => match us, hl with | [_, _, _], _ => rfl
  d__law_cup := df_of X G c.d 28 (d := dd "_law_cup" 51) rfl rfl 28 rfl fun _ _ _ _ _ _ us hl => match us, hl with | [_], _ => rfl
  d__law_roll := df_of X G c.d 29 (d := dd "_law_roll" 52) rfl rfl 29 rfl fun _ _ _ _ _ _ us hl => match us, hl with | [_, _], _ => rfl
  d__law_some := df_of X G c.d 30 (d := dd "_law_some" 53) rfl rfl 30 rfl fun _ _ _ _ _ _ us hl => match us, hl with | [_, _], _ => rfl
  d__law_worth := df_of X G c.d 31 (d := dd "_law_worth" 54) rfl rfl 31 rfl fun _ _ _ _ _ _ us hl => match us, hl with | [_, _], _ => rfl
  d__law_is_access := df_of X G c.d 32 (d := dd "_law_is_access" 55) rfl rfl 32 rfl fun _ _ _ _ _ _ us hl => match us, hl with | [_], _ => rfl
  d__law_numbered := df_of X G c.d 33 (d := dd "_law_numbered" 56) rfl rfl 33 rfl fun _ _ _ _ _ _ us hl => match us, hl with | [_, _], _ => rfl
  d__law_threads := df_of X G c.d 34 (d := dd "_law_threads" 57) rfl rfl 34 rfl fun _ _ _ _ _ _ us hl => match us, hl with | [_], _ => rfl
  d__law_accesses := df_of X G c.d 35 (d := dd "_law_accesses" 58) rfl rfl 35 rfl fun _ _ _ _ _ _ us hl => match us, hl with | [_], _ => rfl
  d__law_all := df_of X G c.d 36 (d := dd "_law_all" 59) rfl rfl 36 rfl fun _ _ _ _ _ _ us hl => match us, hl with | [_], _ => rfl
  d__law_settled := df_of X G c.d 37 (d := dd "_law_settled" 60) rfl rfl 37 rfl fun _ _ _ _ _ _ us hl => match us, hl with | [_, _], _ => rfl
  d__law_written := df_of X G c.d 38 (d := dd "_law_written" 61) rfl rfl 38 rfl fun _ _ _ _ _ _ us hl => match us, hl with | [_, _, _], _ => rfl
  d__law_behind := df_of X G c.d 39 (d := dd "_law_behind" 62) rfl rfl 39 rfl fun _ _ _ _ _ _ us hl => match us, hl with | [_, _, _], _ => rfl
  d__law_begun := df_of X G c.d 40 (d := dd "_law_begun" 63) rfl rfl 40 rfl fun _ _ _ _ _ _ us hl => match us, hl with | [_], _ => rfl
  d__law_expression := df_of X G c.d 41 (d := dd "_law_expression" 64) rfl rfl 41 rfl fun _ _ _ _ _ _ us hl => match us, hl with | [_, _], _ => rfl
  d__law_access := df_of X G c.d 42 (d := dd "_law_access" 65) rfl rfl 42 rfl fun _ _ _ _ _ _ us hl => match us, hl with | [_, _], _ => rfl
  d__law_thread := df_of X G c.d 43 (d := dd "_law_thread" 66) rfl rfl 43 rfl fun _ _ _ _ _ _ us hl => match us, hl with | [_, _, _], _ => rfl
  d__law_program := df_of X G c.d 44 (d := dd "_law_program" 67) rfl rfl 44 rfl fun _ _ _ _ _ _ us hl => match us, hl with | [_, _], _ => rfl
  d__law_word := df_of X G c.d 45 (d := dd "_law_word" 68) rfl rfl 45 rfl fun _ _ _ _ _ _ us hl => match us, hl with | [_], _ => rfl
  d__law_due := df_of X G c.d 46 (d := dd "_law_due" 69) rfl rfl 46 rfl fun _ _ _ _ _ _ us hl => match us, hl with | [_, _, _], _ => rfl
  d_law := df_of X G c.d 47 (d := dd "law" 70) rfl rfl 47 rfl fun _ _ _ _ _ _ us hl => match us, hl with | [_], _ => rfl
theorem law_ga {K : PySem.W.Frag} {h : Heap} {mg : Str → Option Value} {a : Addr} (X : K.In h) (G : h.Ns mainGlobals mg) (c : SaysY fy fa fn K) (hm : mg "law" = some (.ref a)) : He.fAd K Lw0 = a := by
  have e := He.glo_ok X G (c.d.fact 47 (f := .glo "law") rfl)
  rw [hm] at e
  cases e
  rfl
end Lw
end
section
set_option Elab.async false
set_option linter.all false
set_option maxRecDepth 100000
namespace Lw
open PySem FE
/-! ### what may be compared -/
def Nice (k : Nat) (d : D) : Prop := d.canLay0 = true ∧ d.depth ≤ k
theorem Nice.mono {k l : Nat} {d : D} (h : Nice k d) (hl : k ≤ l) : Nice l d := ⟨h.1, Nat.le_trans h.2 hl⟩
theorem lay_all : ∀ {xs : List D}, (∀ x ∈ xs, PyData.canLay0 x = true) → PyData.canLayAll0 xs = true
  | [], _ => rfl
  | x :: xs, h => by
    have h1 := h x (by simp)
    have h2 := lay_all (xs := xs) fun y hy => h y (by simp [hy])
    simp [PyData.canLayAll0, h1, h2]
theorem dep_all {k : Nat} : ∀ {xs : List D}, (∀ x ∈ xs, PyData.depth x ≤ k) → PyData.depthAll xs ≤ k
  | [], _ => Nat.zero_le _
  | x :: xs, h => by
    have h1 := h x (by simp)
    have h2 := dep_all (xs := xs) fun y hy => h y (by simp [hy])
    simp only [PyData.depthAll]
    omega
theorem nice_tup {k : Nat} {xs : List D} (h : ∀ x ∈ xs, Nice k x) : Nice (k + 1) (.tuple xs) :=
  ⟨by simp only [PyData.canLay0]; exact lay_all fun x hx => (h x hx).1, by simp only [PyData.depth]; have := dep_all fun x hx => (h x hx).2; omega⟩
theorem nice_lst {k : Nat} {xs : List D} (h : ∀ x ∈ xs, Nice k x) : Nice (k + 1) (.list xs) :=
  ⟨by simp only [PyData.canLay0]; exact lay_all fun x hx => (h x hx).1, by simp only [PyData.depth]; have := dep_all fun x hx => (h x hx).2; omega⟩
theorem nice_int (k : Nat) (i : Int) : Nice k (.int i) := ⟨by simp [PyData.canLay0], by simp [PyData.depth]⟩
theorem nice_non (k : Nat) : Nice k .none := ⟨by simp [PyData.canLay0], by simp [PyData.depth]⟩
theorem nice_bool (k : Nat) (b : Bool) : Nice k (.bool b) := ⟨by simp [PyData.canLay0], by simp [PyData.depth]⟩
theorem nice_str {k : Nat} {x : Str} (h : PyData.strOk x = true) : Nice k (.str x) := ⟨by simp [PyData.canLay0, h], by simp [PyData.depth]⟩
theorem Nice.sh {k : Nat} {d : D} (h : Nice k d) (hk : k ≤ 64 := by decide) : SeqAt.shaped d = true := by
  unfold SeqAt.shaped
  simp [h.1, Nat.le_trans h.2 hk]
/-! ### operations -/
@[simp] theorem sh_str (x : Str) : SeqAt.shaped (.str x) = PyData.strOk x := by simp [SeqAt.shaped, PyData.canLay0, PyData.depth]
@[simp] theorem sh_int (i : Int) : SeqAt.shaped (.int i) = true := by simp [SeqAt.shaped, PyData.canLay0, PyData.depth]
@[simp] theorem sh_bool (i : Bool) : SeqAt.shaped (.bool i) = true := by simp [SeqAt.shaped, PyData.canLay0, PyData.depth]
@[simp] theorem sh_non : SeqAt.shaped .none = true := by simp [SeqAt.shaped, PyData.canLay0, PyData.depth]
@[simp] theorem sh_l0 : SeqAt.shaped (.list []) = true := by decide
@[simp] theorem sh_t0 : SeqAt.shaped (.tuple []) = true := by decide
theorem o_eq (d e : D) (h1 : SeqAt.shaped d = true) (h2 : SeqAt.shaped e = true) : gEq [d, e] = some (false, .bool (PyData.eqv d e)) := by simp [gEq, h1, h2]
theorem o_ne (d e : D) (h1 : SeqAt.shaped d = true) (h2 : SeqAt.shaped e = true) : gNe [d, e] = some (false, .bool (!PyData.eqv d e)) := by simp [gNe, h1, h2]
@[simp] theorem o_eqs (x y : Str) (h1 : PyData.strOk x = true) (h2 : PyData.strOk y = true) : gEq [.str x, .str y] = some (false, .bool (x == y)) := by simp [gEq, h1, h2, PyData.eqv]
@[simp] theorem o_nes (x y : Str) (h1 : PyData.strOk x = true) (h2 : PyData.strOk y = true) : gNe [.str x, .str y] = some (false, .bool (!(x == y))) := by simp [gNe, h1, h2, PyData.eqv]
@[simp] theorem o_eqi (x y : Int) : gEq [.int x, .int y] = some (false, .bool (x == y)) := by simp [gEq, PyData.eqv]
@[simp] theorem o_nei (x y : Int) : gNe [.int x, .int y] = some (false, .bool (!(x == y))) := by simp [gNe, PyData.eqv]
@[simp] theorem o_lt (x y : Int) : gLt [.int x, .int y] = some (false, .bool (decide (x < y))) := rfl
@[simp] theorem o_le (x y : Int) : gLe [.int x, .int y] = some (false, .bool (decide (x ≤ y))) := rfl
@[simp] theorem o_gt (x y : Int) : gGt [.int x, .int y] = some (false, .bool (decide (y < x))) := rfl
@[simp] theorem o_ge (x y : Int) : gGe [.int x, .int y] = some (false, .bool (decide (y ≤ x))) := rfl
@[simp] theorem o_add (x y : Int) : gAdd [.int x, .int y] = some (false, .int (x + y)) := rfl
@[simp] theorem o_addb (x : Int) (b : Bool) : gAdd [.int x, .bool b] = some (false, .int (x + if b then 1 else 0)) := by cases b <;> rfl
@[simp] theorem o_sub (x y : Int) : gSub [.int x, .int y] = some (false, .int (x - y)) := rfl
@[simp] theorem o_addt (x y : List D) (h : x.length + y.length ≤ 1000000) : gAdd [.tuple x, .tuple y] = some (false, .tuple (x ++ y)) := if_pos h
@[simp] theorem o_addl (x y : List D) (h : x.length + y.length ≤ 1000000) : gAdd [.list x, .list y] = some (true, .list (x ++ y)) := if_pos h
@[simp] theorem o_lenl (x : List D) : gLen [.list x] = some (false, .int x.length) := rfl
@[simp] theorem o_lent (x : List D) : gLen [.tuple x] = some (false, .int x.length) := rfl
@[simp] theorem o_ixt (x : List D) (i : Int) : gIx [.tuple x, .int i] = (at_ x i).map fun d => (false, d) := rfl
@[simp] theorem o_ixl (x : List D) (i : Int) : gIx [.list x, .int i] = (at_ x i).map fun d => (false, d) := rfl
@[simp] theorem at_0 (x : List D) : at_ x 0 = x[0]? := by
  unfold at_ L2.ixN
  cases x with
  | nil => rfl
  | cons a x => simp
@[simp] theorem at_1 (x : List D) : at_ x 1 = x[1]? := by
  unfold at_ L2.ixN
  rw [if_pos (by decide)]
  by_cases h : 1 < x.length
  · rw [if_pos (by exact_mod_cast h)]; rfl
  · rw [if_neg (by exact_mod_cast h)]; exact (List.getElem?_eq_none (by omega)).symm
@[simp] theorem at_2 (x : List D) : at_ x 2 = x[2]? := by
  unfold at_ L2.ixN
  rw [if_pos (by decide)]
  by_cases h : 2 < x.length
  · rw [if_pos (by exact_mod_cast h)]; rfl
  · rw [if_neg (by exact_mod_cast h)]; exact (List.getElem?_eq_none (by omega)).symm
@[simp] theorem at_3 (x : List D) : at_ x 3 = x[3]? := by
  unfold at_ L2.ixN
  rw [if_pos (by decide)]
  by_cases h : 3 < x.length
  · rw [if_pos (by exact_mod_cast h)]; rfl
  · rw [if_neg (by exact_mod_cast h)]; exact (List.getElem?_eq_none (by omega)).symm
@[simp] theorem at_4 (x : List D) : at_ x 4 = x[4]? := by
  unfold at_ L2.ixN
  rw [if_pos (by decide)]
  by_cases h : 4 < x.length
  · rw [if_pos (by exact_mod_cast h)]; rfl
  · rw [if_neg (by exact_mod_cast h)]; exact (List.getElem?_eq_none (by omega)).symm
@[simp] theorem at_5 (x : List D) : at_ x 5 = x[5]? := by
  unfold at_ L2.ixN
  rw [if_pos (by decide)]
  by_cases h : 5 < x.length
  · rw [if_pos (by exact_mod_cast h)]; rfl
  · rw [if_neg (by exact_mod_cast h)]; exact (List.getElem?_eq_none (by omega)).symm
theorem at_k (x : List D) (i : Int) (h0 : 0 ≤ i) (h1 : i < x.length) : at_ x i = x[i.toNat]? := by
  unfold at_ L2.ixN
  rw [if_pos h0, if_pos h1]
  rfl
@[simp] theorem o_int (i : Int) : gInt [.int i] = some (false, .int i) := rfl
@[simp] theorem o_intb (b : Bool) : gInt [.bool b] = some (false, .int (if b then 1 else 0)) := rfl
@[simp] theorem o_lst1 (x : List D) : gList [.list x] = some (true, .list x) := rfl
@[simp] theorem o_lst2 (x : List D) : gList [.tuple x] = some (true, .list x) := rfl
@[simp] theorem o_tup1 (x : List D) : gTuple [.list x] = some (false, .tuple x) := rfl
@[simp] theorem o_tup2 (x : List D) : gTuple [.tuple x] = some (false, .tuple x) := rfl
@[simp] theorem o_mod (x y : Int) (h : 0 < y) : gMod [.int x, .int y] = some (false, .int (x % y)) := if_pos h
@[simp] theorem o_fdiv (x y : Int) (h : 0 < y ∧ y < 1073741824) : gFdiv [.int x, .int y] = some (false, .int (x / y)) := if_pos h
@[simp] theorem o_mul (x y : Int) (h : (-(2 ^ 64) < x ∧ x < 2 ^ 64) ∨ (-(2 ^ 64) < y ∧ y < 2 ^ 64)) : gMul [.int x, .int y] = some (false, .int (x * y)) := if_pos h
@[simp] theorem o_nel0 (x : List D) (h : SeqAt.shaped (.list x) = true) : gNe [.list x, .list []] = some (false, .bool (!x.isEmpty)) := by
  simp [gNe, h]
  cases x <;> simp [PyData.eqv, PyData.eqvAll]
@[simp] theorem o_net0 (x : List D) (h : SeqAt.shaped (.tuple x) = true) : gNe [.tuple x, .tuple []] = some (false, .bool (!x.isEmpty)) := by
  simp [gNe, h]
  cases x <;> simp [PyData.eqv, PyData.eqvAll]
theorem o_in (d : D) (x : List D) (h1 : SeqAt.shaped d = true) (h2 : SeqAt.shaped (.tuple x) = true) : gIn false [d, .tuple x] = some (false, .bool (x.any fun z => PyData.eqv z d)) := by
  cases d <;> simp [gIn, h1, h2] at *
theorem o_nin (d : D) (x : List D) (h1 : SeqAt.shaped d = true) (h2 : SeqAt.shaped (.tuple x) = true) : gIn true [d, .tuple x] = some (false, .bool (!(x.any fun z => PyData.eqv z d))) := by
  cases d <;> simp [gIn, h1, h2] at *
end Lw
end
section
set_option Elab.async false
set_option linter.all false
set_option maxRecDepth 100000
namespace Lw
open PySem FE
@[simp] theorem x_eIsi (t : Ty) (f : SE) (e : En) : eIsi t f e = (f e).bind fun v e1 => match v.get e1 with
  | some d => .ok (.sh (.bool (isTy t d))) e1
  | none => .bad := rfl
theorem S1 (n i : Nat) : S (n + 1) i = bodies (S n) i := rfl
def wholeB (d : D) (lo hi : Int) : Bool := match d with
  | .int i => decide (lo ≤ i) && decide (i ≤ hi)
  | _ => false
@[simp] theorem wholeB_int (i lo hi : Int) : wholeB (.int i) lo hi = (decide (lo ≤ i) && decide (i ≤ hi)) := rfl
@[simp] theorem wholeB_non (lo hi : Int) : wholeB .none lo hi = false := rfl
@[simp] theorem wholeB_bool (b : Bool) (lo hi : Int) : wholeB (.bool b) lo hi = false := rfl
@[simp] theorem wholeB_str (b : Str) (lo hi : Int) : wholeB (.str b) lo hi = false := rfl
@[simp] theorem wholeB_tup (b : List D) (lo hi : Int) : wholeB (.tuple b) lo hi = false := rfl
@[simp] theorem wholeB_lst (b : List D) (lo hi : Int) : wholeB (.list b) lo hi = false := rfl
def tupB (d : D) (lo hi : Int) : Bool := match d with
  | .tuple xs => decide (lo ≤ (xs.length : Int)) && decide ((xs.length : Int) ≤ hi)
  | _ => false
@[simp] theorem tupB_tup (xs : List D) (lo hi : Int) : tupB (.tuple xs) lo hi = (decide (lo ≤ (xs.length : Int)) && decide ((xs.length : Int) ≤ hi)) := rfl
@[simp] theorem tupB_non (lo hi : Int) : tupB .none lo hi = false := rfl
@[simp] theorem tupB_bool (b : Bool) (lo hi : Int) : tupB (.bool b) lo hi = false := rfl
@[simp] theorem tupB_str (b : Str) (lo hi : Int) : tupB (.str b) lo hi = false := rfl
@[simp] theorem tupB_int (b : Int) (lo hi : Int) : tupB (.int b) lo hi = false := rfl
@[simp] theorem tupB_lst (b : List D) (lo hi : Int) : tupB (.list b) lo hi = false := rfl
theorem ev_whole (c : Nat → FS) (d : D) (lo hi : Int) : b_is_whole c [.sh d, .sh (.int lo), .sh (.int hi)] = .ok (.sh (.bool (wholeB d lo hi))) [.sh d, .sh (.int lo), .sh (.int hi)] := by
  cases d with
  | int i => by_cases h1 : lo ≤ i <;> by_cases h2 : i ≤ hi <;> simp [b_is_whole, isTy, h1, h2]
  | _ => simp [b_is_whole, isTy, wholeB]
theorem ev_tup (c : Nat → FS) (d : D) (lo hi : Int) : b_is_tuple_of c [.sh d, .sh (.int lo), .sh (.int hi)] = .ok (.sh (.bool (tupB d lo hi))) [.sh d, .sh (.int lo), .sh (.int hi)] := by
  cases d with
  | tuple xs => by_cases h1 : lo ≤ (xs.length : Int) <;> by_cases h2 : (xs.length : Int) ≤ hi <;> simp [b_is_tuple_of, isTy, h1, h2]
  | _ => simp [b_is_tuple_of, isTy, tupB]
theorem ev_word (c : Nat → FS) (x : Str) (xs : List D) (h1 : PyData.strOk x = true) (h2 : SeqAt.shaped (.tuple xs) = true) : b_is_word_of c [.sh (.str x), .sh (.tuple xs)] = .ok (.sh (.bool (xs.any fun z => PyData.eqv z (.str x)))) [.sh (.str x), .sh (.tuple xs)] := by
  simp [b_is_word_of, isTy, o_in, h1, h2]
end Lw
end
section
set_option Elab.async false
set_option linter.all false
set_option maxRecDepth 100000
namespace Lw
open PySem FE
def worked : List Str := ["plus", "minus", "times", "same", "less"]
inductive IsEx : Nat → Nat → D → Prop
  | num {k : Nat} {v : Int} : 0 ≤ v → v ≤ 15 → IsEx (k + 1) 1 (.tuple [.str "num", .int v])
  | reg {k : Nat} {v : Int} : 0 ≤ v → v ≤ 2 → IsEx (k + 1) 1 (.tuple [.str "reg", .int v])
  | op {k s1 s2 : Nat} {w : Str} {a b : D} : w ∈ worked → IsEx k s1 a → IsEx k s2 b → IsEx (k + 1) (s1 + s2 + 1) (.tuple [.str w, a, b])
theorem IsEx.pos {k s : Nat} {d : D} (h : IsEx k s d) : 1 ≤ s ∧ 1 ≤ k := by cases h <;> omega
theorem IsEx.mono {k s : Nat} {d : D} (h : IsEx k s d) : ∀ {l : Nat}, k ≤ l → IsEx l s d := by
  induction h with
  | @num k v h1 h2 => intro l hl; obtain ⟨m, rfl⟩ : ∃ m, l = m + 1 := ⟨l - 1, by omega⟩; exact .num h1 h2
  | @reg k v h1 h2 => intro l hl; obtain ⟨m, rfl⟩ : ∃ m, l = m + 1 := ⟨l - 1, by omega⟩; exact .reg h1 h2
  | @op k s1 s2 w a b hw ha hb iha ihb => intro l hl; obtain ⟨m, rfl⟩ : ∃ m, l = m + 1 := ⟨l - 1, by omega⟩; exact .op hw (iha (by omega)) (ihb (by omega))
theorem worked_cases {w : Str} (h : w ∈ worked) : w = "plus" ∨ w = "minus" ∨ w = "times" ∨ w = "same" ∨ w = "less" := by
  simpa [worked] using h
theorem IsEx.nice {k s : Nat} {d : D} (h : IsEx k s d) : Nice k d := by
  induction h with
  | @num k v h1 h2 => exact nice_tup (k := k) (by intro x hx; simp at hx; rcases hx with rfl | rfl; exact nice_str (by simp); exact nice_int _ _)
  | @reg k v h1 h2 => exact nice_tup (k := k) (by intro x hx; simp at hx; rcases hx with rfl | rfl; exact nice_str (by simp); exact nice_int _ _)
  | @op k s1 s2 w a b hw ha hb iha ihb =>
    refine nice_tup (k := k) ?_
    intro x hx
    simp at hx
    rcases hx with rfl | rfl | rfl
    · rcases worked_cases hw with rfl | rfl | rfl | rfl | rfl <;> exact nice_str (by simp)
    · exact iha
    · exact ihb
/-- expressions still to be looked at, with how deep each lies -/
inductive Stk : Nat → List D → Prop
  | nil : Stk 0 []
  | snoc {T k s : Nat} {l : List D} {e : D} : Stk T l → IsEx k s e → k ≤ 4 → Stk (T + s) (l ++ [.tuple [e, .int (5 - (k : Int))]])
theorem Stk.nice {T : Nat} {l : List D} (h : Stk T l) : ∀ x ∈ l, Nice 5 x := by
  induction h with
  | nil => simp
  | @snoc T k s l e h1 h2 h3 ih =>
    intro x hx
    rw [List.mem_append] at hx
    rcases hx with hx | hx
    · exact ih x hx
    · simp at hx
      subst hx
      exact nice_tup (k := 4) (by intro x hx; simp at hx; rcases hx with rfl | rfl; exact h2.nice.mono h3; exact nice_int _ _)
theorem Stk.len {T : Nat} {l : List D} (h : Stk T l) : l.length ≤ T := by
  induction h with
  | nil => simp
  | @snoc T k s l e h1 h2 h3 ih => have := h2.pos; simp; omega
theorem ex_cond (c : Nat → FS) (v s2 s3 s4 : Slot) (l : List D) (h : ∀ x ∈ l, Nice 5 x) : wc1_fits_expression c [v, .ow (.list l), s2, s3, s4] = .ok (!l.isEmpty) [v, .ow (.list l), s2, s3, s4] := by
  have := (nice_lst h).sh
  simp [wc1_fits_expression, this]
theorem ex_leaf (n : Nat) (v s2 s3 s4 : Slot) (l : List D) (k : Nat) (hk : 1 ≤ k) (hk4 : k ≤ 4) (w : Str) (x : Int) (h0 : 0 ≤ x) (hw : (w = "num" ∧ x ≤ 15) ∨ (w = "reg" ∧ x ≤ 2)) :
    ∃ t, wb1_fits_expression (S (n + 1)) [v, .ow (.list (l ++ [.tuple [.tuple [.str w, .int x], .int (5 - (k : Int))]])), s2, s3, s4] = .ok .nx [v, .ow (.list l), .sh (.tuple [.str w, .int x]), .sh (.int (5 - (k : Int))), t] := by
  have hd : ¬ (4 < 5 - (k : Int)) := by omega
  rcases hw with ⟨rfl, hx⟩ | ⟨rfl, hx⟩
  · exact ⟨.sh (.int 16), by simp [wb1_fits_expression, k_DEEP, k_VALUES, k_REGISTERS, k_WORKED, ev_tup, ev_whole, isTy, hd, o_nin, h0, hx, SeqAt.shaped, PyData.canLay0, PyData.canLayAll0, PyData.depth, PyData.depthAll, PyData.eqv]⟩
  · exact ⟨.sh (.int 3), by simp [wb1_fits_expression, k_DEEP, k_VALUES, k_REGISTERS, k_WORKED, ev_tup, ev_whole, isTy, hd, o_nin, h0, hx, SeqAt.shaped, PyData.canLay0, PyData.canLayAll0, PyData.depth, PyData.depthAll, PyData.eqv]⟩
theorem ex_op (n : Nat) (v s2 s3 s4 : Slot) (l : List D) (k : Nat) (hk : 1 ≤ k) (hk4 : k ≤ 4) (w : Str) (a b : D) (hw : w ∈ worked) (hl : l.length + 2 ≤ 1000000) :
    wb1_fits_expression (S (n + 1)) [v, .ow (.list (l ++ [.tuple [.tuple [.str w, a, b], .int (5 - (k : Int))]])), s2, s3, s4] = .ok .nx [v, .ow (.list (l ++ [.tuple [a, .int (5 - (k : Int) + 1)], .tuple [b, .int (5 - (k : Int) + 1)]])), .sh (.tuple [.str w, a, b]), .sh (.int (5 - (k : Int))), s4] := by
  have hd : ¬ (4 < 5 - (k : Int)) := by omega
  rcases worked_cases hw with rfl | rfl | rfl | rfl | rfl <;>
    simp [wb1_fits_expression, k_DEEP, k_VALUES, k_REGISTERS, k_WORKED, ev_tup, ev_whole, isTy, hd, o_in, o_nin, SeqAt.shaped, PyData.canLay0, PyData.canLayAll0, PyData.depth, PyData.depthAll, PyData.eqv, x_exL, hl]
theorem ex_loop (n : Nat) (v : Slot) : ∀ (T : Nat) (l : List D), Stk T l → T ≤ 500000 → ∀ (fuel : Nat), T < fuel → ∀ s2 s3 s4, ∃ s2' s3' s4', sWhileN (wc1_fits_expression (S (n + 1))) (wb1_fits_expression (S (n + 1))) fuel [v, .ow (.list l), s2, s3, s4] = .ok .nx [v, .ow (.list []), s2', s3', s4'] := by
  intro T
  induction T using Nat.strongRecOn with
  | ind T ih =>
    intro l h hT fuel hf s2 s3 s4
    obtain ⟨f, rfl⟩ : ∃ f, fuel = f + 1 := ⟨fuel - 1, by omega⟩
    have hn := h.nice
    have hlen := h.len
    cases h with
    | nil => exact ⟨s2, s3, s4, by rw [x_sWhileN]; simp [ex_cond]⟩
    | @snoc T k s l e h1 h2 h3 =>
      have hl1 := h1.len
      have step : ∀ {l' : List D} {T' : Nat} {t2 t3 t4 : Slot}, wb1_fits_expression (S (n + 1)) [v, .ow (.list (l ++ [.tuple [e, .int (5 - (k : Int))]])), s2, s3, s4] = .ok .nx [v, .ow (.list l'), t2, t3, t4] → Stk T' l' → T' < T + s →
          ∃ s2' s3' s4', sWhileN (wc1_fits_expression (S (n + 1))) (wb1_fits_expression (S (n + 1))) (f + 1) [v, .ow (.list (l ++ [.tuple [e, .int (5 - (k : Int))]])), s2, s3, s4] = .ok .nx [v, .ow (.list []), s2', s3', s4'] := fun {l' T' t2 t3 t4} hb hs ht => by
        obtain ⟨a, b, c, hw⟩ := ih T' ht l' hs (by omega) f (by omega) t2 t3 t4
        refine ⟨a, b, c, ?_⟩
        have he : (l ++ [PyData.tuple [e, PyData.int (5 - (k : Int))]]).isEmpty = false := by cases l <;> rfl
        rw [x_sWhileN, ex_cond _ _ _ _ _ _ hn, he]
        simp [hb, hw]
      cases h2 with
      | @num k v h4 h5 =>
        obtain ⟨t, ht⟩ := ex_leaf n _ s2 s3 s4 l (k + 1) (by omega) h3 "num" v h4 (.inl ⟨rfl, h5⟩)
        exact step ht h1 (by omega)
      | @reg k v h4 h5 =>
        obtain ⟨t, ht⟩ := ex_leaf n _ s2 s3 s4 l (k + 1) (by omega) h3 "reg" v h4 (.inr ⟨rfl, h5⟩)
        exact step ht h1 (by omega)
      | @op k s1 s2' w a b hw ha hb =>
        have hb' := ex_op n v s2 s3 s4 l (k + 1) (by omega) h3 w a b hw (by omega)
        have e1 : (5 - ((k + 1 : Nat) : Int) + 1) = 5 - (k : Int) := by omega
        rw [e1] at hb'
        have hs : Stk (T + s1 + s2') (l ++ [.tuple [a, .int (5 - (k : Int))], .tuple [b, .int (5 - (k : Int))]]) := by
          have := Stk.snoc (Stk.snoc h1 ha (by omega)) hb (by omega)
          simpa using this
        exact step hb' hs (by omega)
theorem ev_ex (n : Nat) (e : D) (s : Nat) (h : IsEx 4 s e) (hs : s ≤ 500000) : b_fits_expression (S (n + 1)) [.sh e] = .ok (.sh (.bool true)) [.sh e] := by
  have hst : Stk s [.tuple [e, .int 1]] := by
    have := Stk.snoc .nil h (by omega)
    simpa using this
  obtain ⟨a, b, c, hw⟩ := ex_loop n (.sh e) s _ hst hs wfuel (by unfold wfuel; omega) .un .un .un
  simp [b_fits_expression, sWhile, hw]
end Lw
end
section
set_option Elab.async false
set_option linter.all false
set_option maxRecDepth 100000
namespace Lw
open PySem FE
theorem ev_reg (n : Nat) (i : Int) : b_is_register (S (n + 1)) [.sh (.int i)] = .ok (.sh (.bool (decide (0 ≤ i) && decide (i ≤ 2)))) [.sh (.int i)] := by
  simp [b_is_register, k_REGISTERS, ev_whole]
theorem ev_cell (n : Nat) (i : Int) : b_is_cell (S (n + 1)) [.sh (.int i)] = .ok (.sh (.bool (decide (0 ≤ i) && decide (i ≤ 3)))) [.sh (.int i)] := by
  simp [b_is_cell, k_CELLS, ev_whole]
inductive IsE : D → Prop
  | mk {s : Nat} {d : D} : IsEx 4 s d → s ≤ 1000 → IsE d
theorem IsE.nice {d : D} (h : IsE d) : Nice 4 d := by cases h with | mk h _ => exact h.nice
theorem ev_E (n : Nat) (e : D) (h : IsE e) : b_fits_expression (S (n + 1)) [.sh e] = .ok (.sh (.bool true)) [.sh e] := by
  cases h with | mk h hs => exact ev_ex n e _ h (by omega)
def wmodes : List Str := ["plain", "release", "strong"]
def rmodes : List Str := ["plain", "acquire", "strong"]
inductive IsAc : D → Prop
  | write {c : Int} {m : Str} {e : D} : 0 ≤ c → c ≤ 3 → m ∈ wmodes → IsE e → IsAc (.tuple [.str "write", .int c, .str m, e])
  | read {r c : Int} {m : Str} : 0 ≤ r → r ≤ 2 → 0 ≤ c → c ≤ 3 → m ∈ rmodes → IsAc (.tuple [.str "read", .int r, .int c, .str m])
  | swap {r c : Int} {e : D} : 0 ≤ r → r ≤ 2 → 0 ≤ c → c ≤ 3 → IsE e → IsAc (.tuple [.str "swap", .int r, .int c, e])
  | add {r c : Int} {e : D} : 0 ≤ r → r ≤ 2 → 0 ≤ c → c ≤ 3 → IsE e → IsAc (.tuple [.str "add", .int r, .int c, e])
  | tri {r c : Int} {e f : D} : 0 ≤ r → r ≤ 2 → 0 ≤ c → c ≤ 3 → IsE e → IsE f → IsAc (.tuple [.str "try", .int r, .int c, e, f])
/-- plain statements -/
inductive IsPl : D → Prop
  | fence : IsPl (.tuple [.str "fence"])
  | need {e : D} : IsE e → IsPl (.tuple [.str "need", e])
  | set {r : Int} {e : D} : 0 ≤ r → r ≤ 2 → IsE e → IsPl (.tuple [.str "set", .int r, e])
theorem wm_cases {m : Str} (h : m ∈ wmodes) : m = "plain" ∨ m = "release" ∨ m = "strong" := by simpa [wmodes] using h
theorem rm_cases {m : Str} (h : m ∈ rmodes) : m = "plain" ∨ m = "acquire" ∨ m = "strong" := by simpa [rmodes] using h
@[simp] theorem g_sl (d : List D) (a b : Option Int) : gSl (.tuple d) a b = some (false, .tuple (cutD d a b)) := rfl
@[simp] theorem g_sll (d : List D) (a b : Option Int) : gSl (.list d) a b = some (true, .list (cutD d a b)) := rfl
@[simp] theorem cut34 (a b c d : D) : cutD [a, b, c, d] (some 3) none = [d] := rfl
@[simp] theorem cut35 (a b c d e : D) : cutD [a, b, c, d, e] (some 3) none = [d, e] := rfl
@[simp] theorem o_all (bs : List D) (cs : List Bool) (h : bls bs = some cs) : gAll [.list bs] = some (false, .bool (cs.all id)) := by simp [gAll, h]
theorem ev_acc (n : Nat) (d : D) (h : IsAc d) : b_fits_access (S (n + 2)) [.sh d] = .ok (.sh (.bool true)) [.sh d] := by
  cases h with
  | @write c m e h1 h2 hm he =>
    rcases wm_cases hm with rfl | rfl | rfl <;>
      simp [b_fits_access, ev_cell, ev_word, ev_E n e he, h1, h2, k_WRITING, SeqAt.shaped, PyData.canLay0, PyData.canLayAll0, PyData.depth, PyData.depthAll, PyData.eqv]
  | @read r c m h1 h2 h3 h4 hm =>
    rcases rm_cases hm with rfl | rfl | rfl <;>
      simp [b_fits_access, ev_cell, ev_reg, ev_word, h1, h2, h3, h4, k_READING, SeqAt.shaped, PyData.canLay0, PyData.canLayAll0, PyData.depth, PyData.depthAll, PyData.eqv]
  | @swap r c e h1 h2 h3 h4 he =>
    simp [b_fits_access, cm1_fits_access, ce1_fits_access, ev_cell, ev_reg, ev_E n e he, h1, h2, h3, h4, x_coK, x_cl1, bls]
  | @add r c e h1 h2 h3 h4 he =>
    simp [b_fits_access, cm1_fits_access, ce1_fits_access, ev_cell, ev_reg, ev_E n e he, h1, h2, h3, h4, x_coK, x_cl1, bls]
  | @tri r c e f h1 h2 h3 h4 he hf =>
    simp [b_fits_access, cm1_fits_access, ce1_fits_access, ev_cell, ev_reg, ev_E n e he, ev_E n f hf, h1, h2, h3, h4, x_coK, x_cl1, bls]
end Lw
end
section
set_option Elab.async false
set_option linter.all false
set_option maxRecDepth 100000
namespace Lw
open PySem FE
/-! ### statements as trees -/
inductive St where
  | ac (d : D) | pl (d : D) | ifs (e : D) (ys ns : List St)
mutual
def St.d : St → D
  | .ac d => d
  | .pl d => d
  | .ifs e ys ns => .tuple [.str "if", e, .tuple (dL ys), .tuple (dL ns)]
def dL : List St → List D
  | [] => []
  | s :: ss => s.d :: dL ss
end
@[simp] theorem St.d_ac (d : D) : (St.ac d).d = d := by simp [St.d]
@[simp] theorem St.d_pl (d : D) : (St.pl d).d = d := by simp [St.d]
theorem St.d_ifs (e : D) (ys ns : List St) : (St.ifs e ys ns).d = .tuple [.str "if", e, .tuple (dL ys), .tuple (dL ns)] := by simp [St.d]
theorem dL_map : ∀ ss : List St, dL ss = ss.map St.d
  | [] => by simp [dL]
  | s :: ss => by simp [dL, dL_map ss]
mutual
def St.sz : St → Nat
  | .ac _ => 1
  | .pl _ => 1
  | .ifs _ ys ns => szL ys + szL ns + 1
def szL : List St → Nat
  | [] => 0
  | s :: ss => s.sz + szL ss
end
inductive Wf : Nat → St → Prop
  | ac {k : Nat} {d : D} : IsAc d → Wf k (.ac d)
  | pl {k : Nat} {d : D} : IsPl d → Wf k (.pl d)
  | ifs {k : Nat} {e : D} {ys ns : List St} : IsE e → (∀ y ∈ ys, Wf k y) → (∀ y ∈ ns, Wf k y) → ys.length ≤ 12 → ns.length ≤ 12 → Wf (k + 1) (.ifs e ys ns)
theorem St.sz_pos (s : St) : 1 ≤ s.sz := by cases s <;> simp [St.sz]
theorem szL_len : ∀ ss : List St, ss.length ≤ szL ss
  | [] => by simp [szL]
  | s :: ss => by have := szL_len ss; have := s.sz_pos; simp [szL]; omega
theorem IsAc.nice {d : D} (h : IsAc d) : Nice 5 d := by
  cases h with
  | @write c m e h1 h2 hm he => exact nice_tup (k := 4) (by intro x hx; simp at hx; rcases hx with rfl | rfl | rfl | rfl; exact nice_str (by simp); exact nice_int _ _; (rcases wm_cases hm with rfl | rfl | rfl <;> exact nice_str (by simp)); exact he.nice)
  | @read r c m h1 h2 h3 h4 hm => exact nice_tup (k := 4) (by intro x hx; simp at hx; rcases hx with rfl | rfl | rfl | rfl; exact nice_str (by simp); exact nice_int _ _; exact nice_int _ _; (rcases rm_cases hm with rfl | rfl | rfl <;> exact nice_str (by simp)))
  | @swap r c e h1 h2 h3 h4 he => exact nice_tup (k := 4) (by intro x hx; simp at hx; rcases hx with rfl | rfl | rfl | rfl; exact nice_str (by simp); exact nice_int _ _; exact nice_int _ _; exact he.nice)
  | @add r c e h1 h2 h3 h4 he => exact nice_tup (k := 4) (by intro x hx; simp at hx; rcases hx with rfl | rfl | rfl | rfl; exact nice_str (by simp); exact nice_int _ _; exact nice_int _ _; exact he.nice)
  | @tri r c e f h1 h2 h3 h4 he hf => exact nice_tup (k := 4) (by intro x hx; simp at hx; rcases hx with rfl | rfl | rfl | rfl | rfl; exact nice_str (by simp); exact nice_int _ _; exact nice_int _ _; exact he.nice; exact hf.nice)
theorem IsPl.nice {d : D} (h : IsPl d) : Nice 5 d := by
  cases h with
  | fence => exact nice_tup (k := 4) (by intro x hx; simp at hx; subst hx; exact nice_str (by simp))
  | @need e he => exact nice_tup (k := 4) (by intro x hx; simp at hx; rcases hx with rfl | rfl; exact nice_str (by simp); exact he.nice)
  | @set r e h1 h2 he => exact nice_tup (k := 4) (by intro x hx; simp at hx; rcases hx with rfl | rfl | rfl; exact nice_str (by simp); exact nice_int _ _; exact he.nice)
theorem Wf.nice {k : Nat} {s : St} (h : Wf k s) : Nice (5 + 2 * k) s.d := by
  induction h with
  | ac h => exact (by simpa using h.nice.mono (by omega))
  | pl h => exact (by simpa using h.nice.mono (by omega))
  | @ifs k e ys ns he hy hn ly ln ihy ihn =>
    rw [St.d_ifs]
    have e1 : ∀ x ∈ dL ys, Nice (5 + 2 * k) x := by intro x hx; rw [dL_map] at hx; obtain ⟨y, hy1, rfl⟩ := List.mem_map.mp hx; exact ihy y hy1
    have e2 : ∀ x ∈ dL ns, Nice (5 + 2 * k) x := by intro x hx; rw [dL_map] at hx; obtain ⟨y, hy1, rfl⟩ := List.mem_map.mp hx; exact ihn y hy1
    exact (nice_tup (k := 5 + 2 * k + 1) (by intro x hx; simp at hx; rcases hx with rfl | rfl | rfl | rfl; exact nice_str (by simp); exact he.nice.mono (by omega); exact nice_tup e1; exact nice_tup e2)).mono (by omega)
/-! ### each statement by its kind -/
def St.isAc : St → Bool
  | .ac _ => true
  | _ => false
theorem ev_isac (n : Nat) {k : Nat} (s : St) (h : Wf k s) : b_is_access (S n) [.sh s.d] = .ok (.sh (.bool s.isAc)) [.sh s.d] := by
  cases h with
  | ac h => cases h <;> simp [b_is_access, St.isAc, o_in, k_EXCHANGES, SeqAt.shaped, PyData.canLay0, PyData.canLayAll0, PyData.depth, PyData.depthAll, PyData.eqv]
  | pl h => cases h <;> simp [b_is_access, St.isAc, o_in, k_EXCHANGES, SeqAt.shaped, PyData.canLay0, PyData.canLayAll0, PyData.depth, PyData.depthAll, PyData.eqv]
  | ifs he hy hn ly ln => simp [b_is_access, St.isAc, St.d_ifs, o_in, k_EXCHANGES, SeqAt.shaped, PyData.canLay0, PyData.canLayAll0, PyData.depth, PyData.depthAll, PyData.eqv]
theorem ev_inner (n : Nat) {k : Nat} (s : St) (h : Wf k s) (ha : s.isAc = false) : b_fits_inner (S (n + 2)) [.sh s.d] = .ok (.sh (.bool true)) [.sh s.d] := by
  cases h with
  | ac h => cases ha
  | pl h =>
    cases h with
    | fence => simp [b_fits_inner]
    | @need e he => simp [b_fits_inner, ev_E n e he]
    | @set r e h1 h2 he => simp [b_fits_inner, ev_E n e he, ev_reg, h1, h2]
  | @ifs k e ys ns he hy hn ly ln =>
    have l1 : ((dL ys).length : Int) ≤ 12 := by rw [dL_map]; simp; omega
    have l2 : ((dL ns).length : Int) ≤ 12 := by rw [dL_map]; simp; omega
    simp [b_fits_inner, St.d_ifs, ev_E n e he, ev_tup, k_STATEMENTS, l1, l2]
def St.blocks : St → List (List St)
  | .ifs _ ys ns => [ys, ns]
  | _ => []
theorem ev_blocks (n : Nat) {k : Nat} (s : St) (h : Wf k s) : b_blocks_of (S n) [.sh s.d] = .ok (.fr (.list (s.blocks.map fun b => .tuple (dL b)))) [.sh s.d] := by
  cases h with
  | ac h => cases h <;> simp [b_blocks_of, St.blocks]
  | pl h => cases h <;> simp [b_blocks_of, St.blocks]
  | ifs he hy hn ly ln => simp [b_blocks_of, St.blocks, St.d_ifs]
/-! ### loops that leave the frame as it is -/
theorem cl_pure {α : Type} (g : GS) (own : List Nat) (k : List D → En → R (List D)) (e0 : En) (f : α → D) (h : α → List D) : ∀ (xs : List α), (∀ x ∈ xs, ∀ acc, ∃ e1 e2, g (f x) e0 = some e1 ∧ k acc e1 = .ok (acc ++ h x) e2 ∧ wipeE e2 own = e0) →
    ∀ acc, cLoop g own k (xs.map f) acc e0 = .ok (acc ++ xs.flatMap h) e0
  | [], _, acc => by simp
  | x :: xs, hx, acc => by
    obtain ⟨e1, e2, h1, h2, h3⟩ := hx x (by simp) acc
    rw [List.map_cons, x_cl1, h1]
    simp [h2, h3, cl_pure g own k e0 f h xs (fun y hy => hx y (by simp [hy]))]
end Lw
end
section
set_option Elab.async false
set_option linter.all false
set_option maxRecDepth 100000
namespace Lw
open PySem FE
theorem fm_one {α β : Type} (f : α → β) : ∀ l : List α, (l.flatMap fun x => [f x]) = l.map f
  | [] => rfl
  | x :: l => by simp [fm_one f l]
/-! ### a block fits -/
def dp (k : Nat) : Int := 2 - (k : Int)
theorem dp_s (k : Nat) : dp (k + 1) + 1 = dp k := by unfold dp; omega
theorem dp_ne (k : Nat) : (dp (k + 1) == 2) = false := by
  have : dp (k + 1) ≠ 2 := by unfold dp; omega
  simpa using this
def pair (k : Nat) (s : St) : D := .tuple [s.d, .int (dp k)]
inductive StkB : Nat → List D → Prop
  | nil : StkB 0 []
  | snoc {T k : Nat} {l : List D} {s : St} : StkB T l → Wf k s → k ≤ 2 → StkB (T + s.sz) (l ++ [pair k s])
theorem StkB.app {T k : Nat} {l : List D} (h : StkB T l) (hk : k ≤ 2) : ∀ (ss : List St), (∀ s ∈ ss, Wf k s) → StkB (T + szL ss) (l ++ ss.map (pair k))
  | [], _ => by simpa [szL] using h
  | s :: ss, hs => by
    have h1 := StkB.app (h.snoc (hs s (by simp)) hk) hk ss fun y hy => hs y (by simp [hy])
    simpa [szL, Nat.add_assoc] using h1
theorem StkB.nice {T : Nat} {l : List D} (h : StkB T l) : ∀ x ∈ l, Nice 10 x := by
  induction h with
  | nil => simp
  | @snoc T k l s h1 h2 h3 ih =>
    intro x hx
    rw [List.mem_append] at hx
    rcases hx with hx | hx
    · exact ih x hx
    · simp at hx
      subst hx
      exact nice_tup (k := 9) (by intro x hx; simp at hx; rcases hx with rfl | rfl; exact h2.nice.mono (by omega); exact nice_int _ _)
theorem StkB.len {T : Nat} {l : List D} (h : StkB T l) : l.length ≤ T := by
  induction h with
  | nil => simp
  | @snoc T k l s h1 h2 h3 ih => have := s.sz_pos; simp; omega
theorem fb_cond (c : Nat → FS) (v s2 s3 s4 s5 s6 : Slot) (l : List D) (h : ∀ x ∈ l, Nice 10 x) : wc1_fits_block c [v, .ow (.list l), s2, s3, s4, s5, s6] = .ok (!l.isEmpty) [v, .ow (.list l), s2, s3, s4, s5, s6] := by
  have := (nice_lst h).sh
  simp [wc1_fits_block, this]
@[simp] theorem cI_blk (c : Nat → FS) : ci1_fits_block c = iS (eV 5) := rfl
/-- the inner loop: the statements of a block go to the line -/
theorem in_loop (c : Nat → FS) (v s1 s2 s3 : Slot) (k : Nat) (s5 : Slot) (ss : List St) (acc : List D) :
    cLoop (gN 6) [6] (cItem tYesS (ce2_fits_block c)) (dL ss) acc [v, s1, s2, s3, .sh (.int (dp (k + 1))), s5, .un] = .ok (acc ++ ss.map (pair k)) [v, s1, s2, s3, .sh (.int (dp (k + 1))), s5, .un] := by
  rw [dL_map, cl_pure (gN 6) [6] (cItem tYesS (ce2_fits_block c)) _ St.d (fun s => [pair k s]) ss, fm_one]
  intro s hs acc
  refine ⟨_, [v, s1, s2, s3, .sh (.int (dp (k + 1))), s5, .sh s.d], rfl, ?_, ?_⟩
  · simp [ce2_fits_block, pair, dp_s]
  · simp
theorem out_leaf (n : Nat) {k : Nat} (v s1 s2 s4 s5 s6 : Slot) (s : St) (h : Wf k s) (hb : s.blocks = []) :
    cm2_fits_block (S (n + 1)) [v, s1, s2, .sh s.d, s4, s5, s6] = .ok (.fr (.list [])) [v, s1, s2, .sh s.d, s4, s5, s6] := by
  simp [cm2_fits_block, ev_blocks n s h, hb, x_coK']
theorem out_if (n : Nat) {k : Nat} (v s1 s2 s5 s6 : Slot) (e : D) (ys ns : List St) (h : Wf (k + 1) (.ifs e ys ns)) :
    cm2_fits_block (S (n + 1)) [v, s1, s2, .sh (St.ifs e ys ns).d, .sh (.int (dp (k + 1))), s5, s6] =
      .ok (.fr (.list (ys.map (pair k) ++ ns.map (pair k)))) [v, s1, s2, .sh (St.ifs e ys ns).d, .sh (.int (dp (k + 1))), s5, s6] := by
  have ly : (dL ys).length ≤ 1000 := by cases h with | ifs _ _ _ a b => rw [dL_map]; simp; omega
  have ln : (dL ns).length ≤ 1000 := by cases h with | ifs _ _ _ a b => rw [dL_map]; simp; omega
  have i1 := in_loop (S (n + 1)) v s1 s2 (.sh (St.ifs e ys ns).d) k (.sh (.tuple (dL ys))) ys []
  have i2 := in_loop (S (n + 1)) v s1 s2 (.sh (St.ifs e ys ns).d) k (.sh (.tuple (dL ns))) ns (ys.map (pair k))
  simp [cm2_fits_block, ev_blocks n _ h, St.blocks, x_coK', x_cl1, x_cnK2, ly, ln, i1, i2]
theorem nb_of {s : St} (h : ∀ e ys ns, s ≠ .ifs e ys ns) : s.blocks = [] := by
  cases s with
  | ifs e ys ns => exact absurd rfl (h e ys ns)
  | _ => rfl
/-- what is asked of one statement of the line -/
theorem fb_leaf (n : Nat) {k : Nat} (v s3 s4 s5 s6 : Slot) (l : List D) (m : Int) (s : St) (h : Wf k s) (hs : ∀ e ys ns, s ≠ .ifs e ys ns) (hm : m + 1 ≤ 12) (hl : l.length ≤ 1000) :
    wb1_fits_block (S (n + 3)) [v, .ow (.list (l ++ [pair k s])), .sh (.int m), s3, s4, s5, s6] = .ok .nx [v, .ow (.list l), .sh (.int (m + 1)), .sh s.d, .sh (.int (dp k)), s5, s6] := by
  have hb := nb_of hs
  have o := out_leaf (n + 2) v (.ow (.list l)) (.sh (.int (m + 1))) (.sh (.int (dp k))) s5 s6 s h hb
  have hm' : ¬ (12 < m + 1) := by omega
  cases h with
  | ac h =>
    have e := ev_acc n _ h
    have i := ev_isac (n + 2) (.ac _) (Wf.ac (k := k) h)
    simp only [St.d_ac] at i o
    cases h <;> simp [wb1_fits_block, pair, ev_tup, k_STATEMENTS, k_IFS, hm', isTy, e, i, St.isAc, o] <;> (rw [x_exL _ _ _ _ (by simp; omega)]; simp)
  | pl h =>
    have i := ev_isac (n + 2) (.pl _) (Wf.pl (k := k) h)
    have e := ev_inner n (.pl _) (Wf.pl (k := k) h) rfl
    simp only [St.d_pl] at i o e
    cases h <;> simp [wb1_fits_block, pair, ev_tup, k_STATEMENTS, k_IFS, hm', isTy, e, i, St.isAc, o] <;> (rw [x_exL _ _ _ _ (by simp; omega)]; simp)
  | ifs => exact absurd rfl (hs _ _ _)
theorem fb_if (n : Nat) {k : Nat} (v s3 s4 s5 s6 : Slot) (l : List D) (m : Int) (e : D) (ys ns : List St) (h : Wf (k + 1) (.ifs e ys ns)) (hm : m + 1 ≤ 12) (hl : l.length ≤ 1000) :
    wb1_fits_block (S (n + 3)) [v, .ow (.list (l ++ [pair (k + 1) (.ifs e ys ns)])), .sh (.int m), s3, s4, s5, s6] = .ok .nx [v, .ow (.list (l ++ (ys.map (pair k) ++ ns.map (pair k)))), .sh (.int (m + 1)), .sh (St.ifs e ys ns).d, .sh (.int (dp (k + 1))), s5, s6] := by
  have o := out_if (n + 2) v (.ow (.list l)) (.sh (.int (m + 1))) s5 s6 e ys ns h
  have i := ev_isac (n + 2) _ h
  have e := ev_inner n _ h rfl
  have hm' : ¬ (12 < m + 1) := by omega
  have ly : ys.length ≤ 12 ∧ ns.length ≤ 12 := by cases h with | ifs _ _ _ a b => exact ⟨a, b⟩
  rw [St.d_ifs] at *
  simp [wb1_fits_block, pair, St.d_ifs, ev_tup, k_STATEMENTS, k_IFS, hm', isTy, e, i, St.isAc, o, dp_ne]
  rw [x_exL _ _ _ _ (by simp; omega)]
  simp
theorem fb_loop (n : Nat) (v : Slot) : ∀ (T : Nat) (l : List D), StkB T l → ∀ (m : Int), m + T ≤ 12 → T ≤ 1000 → ∀ (fuel : Nat), T < fuel → ∀ s3 s4 s5 s6, ∃ s2' s3' s4' s5' s6', sWhileN (wc1_fits_block (S (n + 3))) (wb1_fits_block (S (n + 3))) fuel [v, .ow (.list l), .sh (.int m), s3, s4, s5, s6] = .ok .nx [v, .ow (.list []), s2', s3', s4', s5', s6'] := by
  intro T
  induction T using Nat.strongRecOn with
  | ind T ih =>
    intro l h m hm hT fuel hf s3 s4 s5 s6
    obtain ⟨f, rfl⟩ : ∃ f, fuel = f + 1 := ⟨fuel - 1, by omega⟩
    have hn := h.nice
    cases h with
    | nil => exact ⟨_, s3, s4, s5, s6, by rw [x_sWhileN, fb_cond _ _ _ _ _ _ _ _ hn]; simp; rfl⟩
    | @snoc T k l s h1 h2 h3 =>
      have hl1 := h1.len
      have sp := s.sz_pos
      have he : (l ++ [pair k s]).isEmpty = false := by cases l <;> rfl
      have step : ∀ {l' : List D} {T' : Nat} {t3 t4 t5 t6 : Slot}, wb1_fits_block (S (n + 3)) [v, .ow (.list (l ++ [pair k s])), .sh (.int m), s3, s4, s5, s6] = .ok .nx [v, .ow (.list l'), .sh (.int (m + 1)), t3, t4, t5, t6] → StkB T' l' → T' + 1 ≤ T + s.sz →
          ∃ s2' s3' s4' s5' s6', sWhileN (wc1_fits_block (S (n + 3))) (wb1_fits_block (S (n + 3))) (f + 1) [v, .ow (.list (l ++ [pair k s])), .sh (.int m), s3, s4, s5, s6] = .ok .nx [v, .ow (.list []), s2', s3', s4', s5', s6'] := fun {l' T' t3 t4 t5 t6} hb hs ht => by
        obtain ⟨a, b, c, d, e, hw⟩ := ih T' (by omega) l' hs (m + 1) (by omega) (by omega) f (by omega) t3 t4 t5 t6
        refine ⟨a, b, c, d, e, ?_⟩
        rw [x_sWhileN, fb_cond _ _ _ _ _ _ _ _ hn, he]
        simp [hb, hw]
      by_cases hi : ∃ e ys ns, s = .ifs e ys ns
      · obtain ⟨e, ys, ns, rfl⟩ := hi
        cases h2 with
        | @ifs k e ys ns a1 a2 a3 a4 a5 =>
          have hb := fb_if n v s3 s4 s5 s6 l m e ys ns (.ifs a1 a2 a3 a4 a5) (by omega) (by omega)
          have hs : StkB (T + szL ys + szL ns) (l ++ (ys.map (pair k) ++ ns.map (pair k))) := by
            have := (h1.app (k := k) (by omega) ys a2).app (by omega) ns a3
            simpa using this
          exact step hb hs (by simp [St.sz]; omega)
      · have hb := fb_leaf n v s3 s4 s5 s6 l m s h2 (fun e ys ns z => hi ⟨e, ys, ns, z⟩) (by omega) (by omega)
        exact step hb h1 (by omega)
theorem ev_block (n : Nat) (ss : List St) (h : ∀ s ∈ ss, Wf 2 s) (hz : szL ss ≤ 12) : b_fits_block (S (n + 3)) [.sh (.tuple (dL ss))] = .ok (.sh (.bool true)) [.sh (.tuple (dL ss))] := by
  have hl := szL_len ss
  have l1 : ((dL ss).length : Int) ≤ 12 := by rw [dL_map]; simp; omega
  have l2 : (dL ss).length ≤ 1000000 := by rw [dL_map]; simp; omega
  have hst : StkB (szL ss) (ss.map (pair 2)) := by
    have := StkB.nil.app (k := 2) (by omega) ss h
    simpa using this
  obtain ⟨a, b, c, d, e, hw⟩ := fb_loop n (.sh (.tuple (dL ss))) _ _ hst 0 (by omega) (by omega) wfuel (by unfold wfuel; omega) .un .un .un .un
  have hc : cm1_fits_block (S (n + 3)) [.sh (.tuple (dL ss)), .un, .un, .un, .un, .un, .un] = .ok (.fr (.list (ss.map (pair 2)))) [.sh (.tuple (dL ss)), .un, .un, .un, .un, .un, .un] := by
    simp [cm1_fits_block, x_coK _ _ _ _ _ _ l2]
    rw [dL_map, cl_pure (gN 3) [3] (cItem tYesS (ce1_fits_block (S (n + 3)))) _ St.d (fun s => [pair 2 s]) ss, fm_one]
    · simp
    · intro s hs acc
      exact ⟨_, [.sh (.tuple (dL ss)), .un, .un, .sh s.d, .un, .un, .un], rfl, by simp [ce1_fits_block, pair, dp, dL_map], by simp [dL_map]⟩
  simp [b_fits_block, sWhile, ev_tup, k_STATEMENTS, l1, hc, hw]
end Lw
end
section
set_option Elab.async false
set_option linter.all false
set_option maxRecDepth 100000
namespace Lw
open PySem FE
mutual
def St.pre : St → List St
  | .ac d => [.ac d]
  | .pl d => [.pl d]
  | .ifs e ys ns => .ifs e ys ns :: (preL ys ++ preL ns)
def preL : List St → List St
  | [] => []
  | s :: ss => s.pre ++ preL ss
end
theorem preL_app : ∀ xs ys : List St, preL (xs ++ ys) = preL xs ++ preL ys
  | [], ys => by simp [preL]
  | x :: xs, ys => by simp [preL, preL_app xs ys]
theorem szL_app : ∀ xs ys : List St, szL (xs ++ ys) = szL xs + szL ys
  | [], ys => by simp [szL]
  | x :: xs, ys => by simp [szL, szL_app xs ys]; omega
theorem dL_app (xs ys : List St) : dL (xs ++ ys) = dL xs ++ dL ys := by simp [dL_map]
/-- what stands in a statement's blocks -/
def St.inn : St → List St
  | .ifs _ ys ns => ys ++ ns
  | _ => []
theorem pre_inn (s : St) : s.pre = s :: preL s.inn := by
  cases s with
  | ifs e ys ns => simp [St.pre, St.inn, preL_app]
  | _ => simp [St.pre, St.inn, preL]
theorem sz_inn (s : St) : s.sz = 1 + szL s.inn := by
  cases s with
  | ifs e ys ns => simp [St.sz, St.inn, szL_app]; omega
  | _ => simp [St.sz, St.inn, szL]
theorem Wf.inn {k : Nat} {s : St} (h : Wf k s) : ∀ x ∈ s.inn, Wf k x := by
  have up : ∀ {k : Nat} {s : St}, Wf k s → Wf (k + 1) s := by
    intro k s h
    induction h with
    | ac h => exact .ac h
    | pl h => exact .pl h
    | ifs he hy hn ly ln ihy ihn => exact .ifs he ihy ihn ly ln
  cases h with
  | ac h => simp [St.inn]
  | pl h => simp [St.inn]
  | ifs he hy hn ly ln =>
    intro x hx
    simp [St.inn] at hx
    rcases hx with hx | hx
    · exact up (hy x hx)
    · exact up (hn x hx)
theorem wf_nice {k : Nat} {ss : List St} (hk : k ≤ 20) (h : ∀ s ∈ ss, Wf k s) : ∀ x ∈ dL ss, Nice 45 x := by
  intro x hx
  rw [dL_map] at hx
  obtain ⟨s, hs, rfl⟩ := List.mem_map.mp hx
  exact (h s hs).nice.mono (by omega)
theorem as_cond (c : Nat → FS) (v s1 s3 s4 s5 : Slot) (l : List D) (h : ∀ x ∈ l, Nice 45 x) : wc1_all_statements c [v, s1, .ow (.list l), s3, s4, s5] = .ok (!l.isEmpty) [v, s1, .ow (.list l), s3, s4, s5] := by
  have := (nice_lst h).sh
  simp [wc1_all_statements, this]
@[simp] theorem cI_as (c : Nat → FS) : ci1_all_statements c = iS (eV 4) := rfl
@[simp] theorem cE_as (c : Nat → FS) : ce1_all_statements c = eV 5 := rfl
theorem as_in (v s1 s2 s3 s4 : Slot) (ss : List St) (acc : List D) : cLoop (gN 5) [5] (cItem tYesS (eV 5)) (dL ss) acc [v, s1, s2, s3, s4, .un] = .ok (acc ++ dL ss) [v, s1, s2, s3, s4, .un] := by
  have := cl_pure (gN 5) [5] (cItem tYesS (eV 5)) [v, s1, s2, s3, s4, .un] St.d (fun s => [s.d]) ss (fun s hs acc => ⟨_, [v, s1, s2, s3, s4, .sh s.d], rfl, by simp, by simp⟩) acc
  rw [dL_map, this, fm_one]
theorem as_cm (n : Nat) {k : Nat} (v s1 s2 s4 s5 : Slot) (s : St) (h : Wf k s) : cm1_all_statements (S (n + 1)) [v, s1, s2, .sh s.d, s4, s5] = .ok (.fr (.list (dL s.inn))) [v, s1, s2, .sh s.d, s4, s5] := by
  cases h with
  | ac h =>
    have b := ev_blocks n _ (Wf.ac (k := k) h)
    simp [St.blocks] at b
    simp [cm1_all_statements, b, x_coK', St.inn, dL]
  | pl h =>
    have b := ev_blocks n _ (Wf.pl (k := k) h)
    simp [St.blocks] at b
    simp [cm1_all_statements, b, x_coK', St.inn, dL]
  | @ifs k e ys ns he hy hn ly ln =>
    have b := ev_blocks n _ (Wf.ifs he hy hn ly ln)
    have l1 : (dL ys).length ≤ 1000 := by rw [dL_map]; simp; omega
    have l2 : (dL ns).length ≤ 1000 := by rw [dL_map]; simp; omega
    simp only [St.blocks] at b
    have i1 := as_in v s1 s2 (.sh (St.ifs e ys ns).d) (.sh (.tuple (dL ys))) ys []
    have i2 := as_in v s1 s2 (.sh (St.ifs e ys ns).d) (.sh (.tuple (dL ns))) ns (dL ys)
    simp [cm1_all_statements, b, x_coK', x_cl1, x_cnK2, l1, l2, i1, i2, St.inn, dL_app]
theorem as_body (n : Nat) {k : Nat} (v s3 s4 s5 : Slot) (acc : List D) (s : St) (ss : List St) (h : Wf k s) (hl : acc.length < 1000000) (hz : (dL s.inn).length + (dL ss).length ≤ 1000000) :
    wb1_all_statements (S (n + 1)) [v, .ow (.list acc), .ow (.list (dL (s :: ss))), s3, s4, s5] = .ok .nx [v, .ow (.list (acc ++ [s.d])), .ow (.list (dL (s.inn ++ ss))), .sh s.d, s4, s5] := by
  have c := as_cm n v (.ow (.list (acc ++ [s.d]))) (.ow (.list (dL ss))) s4 s5 s h
  simp [wb1_all_statements, dL, hl, c, hz, dL_app, seq0]
theorem as_loop (n : Nat) (v : Slot) : ∀ (T : Nat) (ss : List St), szL ss = T → (∀ s ∈ ss, Wf 2 s) → ∀ (acc : List D), acc.length + T ≤ 1000 → ∀ (fuel : Nat), T < fuel → ∀ s3 s4 s5, ∃ s3' s4' s5', sWhileN (wc1_all_statements (S (n + 1))) (wb1_all_statements (S (n + 1))) fuel [v, .ow (.list acc), .ow (.list (dL ss)), s3, s4, s5] = .ok .nx [v, .ow (.list (acc ++ dL (preL ss))), .ow (.list []), s3', s4', s5'] := by
  intro T
  induction T using Nat.strongRecOn with
  | ind T ih =>
    intro ss hT h acc hl fuel hf s3 s4 s5
    obtain ⟨f, rfl⟩ : ∃ f, fuel = f + 1 := ⟨fuel - 1, by omega⟩
    have hn := wf_nice (by omega) h
    cases ss with
    | nil => exact ⟨s3, s4, s5, by rw [x_sWhileN, as_cond _ _ _ _ _ _ _ hn]; simp [dL, preL]⟩
    | cons s ss =>
      have hs := h s (by simp)
      have z1 := sz_inn s
      have z2 : szL (s :: ss) = s.sz + szL ss := by simp [szL]
      have z3 := szL_app s.inn ss
      have n1 := szL_len s.inn
      have n2 := szL_len ss
      obtain ⟨a, b, c, hw⟩ := ih (szL (s.inn ++ ss)) (by omega) (s.inn ++ ss) rfl (by
        intro x hx
        rw [List.mem_append] at hx
        exact hx.elim (hs.inn x) fun q => h x (by simp [q])) (acc ++ [s.d]) (by simp; omega) f (by omega) (.sh s.d) s4 s5
      refine ⟨a, b, c, ?_⟩
      have hb := as_body n v s3 s4 s5 acc s ss hs (by omega) (by rw [dL_map, dL_map]; simp; omega)
      have he : (dL (s :: ss)).isEmpty = false := by simp [dL]
      rw [x_sWhileN, as_cond _ _ _ _ _ _ _ hn, he]
      simp only [Bool.not_false, R.bind_ok, x_whK2, hb, x_whK3, hw]
      simp [preL_app, preL, pre_inn, dL]
theorem ev_all (n : Nat) (ss : List St) (h : ∀ s ∈ ss, Wf 2 s) (hz : szL ss ≤ 500) : b_all_statements (S (n + 1)) [.sh (.tuple (dL ss))] = .ok (.fr (.list (dL (preL ss)))) [.sh (.tuple (dL ss))] := by
  obtain ⟨a, b, c, hw⟩ := as_loop n (.sh (.tuple (dL ss))) _ ss rfl h [] (by simp; omega) wfuel (by unfold wfuel; omega) .un .un .un
  simp [b_all_statements, sWhile, hw]
end Lw
end
section
set_option Elab.async false
set_option linter.all false
set_option maxRecDepth 100000
namespace Lw
open PySem FE
abbrev bD (b : List St) : D := .tuple (dL b)
def pD (p : List (List St)) : D := .tuple (p.map bD)
def hd : D → Str
  | .tuple (.str w :: _) => w
  | _ => "x"
def St.isFe (s : St) : Bool := hd s.d == "fence"
abbrev every (p : List (List St)) : List St := p.flatMap preL
structure Pr (p : List (List St)) : Prop where
  l1 : 1 ≤ p.length
  l4 : p.length ≤ 4
  wf : ∀ b ∈ p, ∀ s ∈ b, Wf 2 s
  sz : ∀ b ∈ p, szL b ≤ 12
  ac : ((every p).filter St.isAc).length ≤ 8
  fe : ((every p).filter St.isFe).length ≤ 8
theorem wf_pre {k : Nat} : ∀ (T : Nat) (ss : List St), szL ss ≤ T → (∀ s ∈ ss, Wf k s) → ∀ x ∈ preL ss, Wf k x
  | 0, ss, hz, h => by
    cases ss with
    | nil => simp [preL]
    | cons s ss => have := s.sz_pos; simp [szL] at hz; omega
  | T + 1, ss, hz, h => by
    cases ss with
    | nil => simp [preL]
    | cons s ss =>
      have z := sz_inn s
      have z2 : szL (s :: ss) = s.sz + szL ss := by simp [szL]
      intro x hx
      simp [preL, pre_inn] at hx
      rcases hx with rfl | hx | hx
      · exact h x (by simp)
      · exact wf_pre T s.inn (by omega) (h s (by simp)).inn x hx
      · exact wf_pre T ss (by omega) (fun y hy => h y (by simp [hy])) x hx
theorem len_pre : ∀ (T : Nat) (ss : List St), szL ss ≤ T → (preL ss).length = szL ss
  | 0, ss, hz => by
    cases ss with
    | nil => simp [preL, szL]
    | cons s ss => have := s.sz_pos; simp [szL] at hz; omega
  | T + 1, ss, hz => by
    cases ss with
    | nil => simp [preL, szL]
    | cons s ss =>
      have z := sz_inn s
      have z2 : szL (s :: ss) = s.sz + szL ss := by simp [szL]
      have h1 := len_pre T s.inn (by omega)
      have h2 := len_pre T ss (by omega)
      simp [preL, pre_inn, h1, h2]
      omega
theorem bls_true {α : Type} : ∀ l : List α, bls (l.map fun _ => PyData.bool true) = some (l.map fun _ => true)
  | [] => rfl
  | x :: l => by simp [bls, bls_true l]
@[simp] theorem all_true {α : Type} (l : List α) : gAll [.list (l.map fun _ => PyData.bool true)] = some (false, .bool true) := by
  rw [o_all _ _ (bls_true l)]
  simp
theorem ev_hd (n : Nat) {k : Nat} (s : St) (h : Wf k s) : at_ (match s.d with | .tuple xs => xs | _ => []) 0 = some (.str (hd s.d)) ∧ PyData.strOk (hd s.d) = true := by
  cases h with
  | ac h => cases h <;> simp [hd]
  | pl h => cases h <;> simp [hd]
  | ifs he hy hn ly ln => simp [hd, St.d_ifs]
section
variable (n : Nat) {p : List (List St)} (P : Pr p)
include P
theorem fp_blocks (s1 s2 s3 : Slot) : cm1_fits_program (S (n + 4)) [.sh (pD p), s1, s2, s3] = .ok (.fr (.list (p.map fun _ => .bool true))) [.sh (pD p), s1, s2, s3] := by
  have l := P.l4
  have c := cl_pure (gN 2) [2] (cItem tYesS (ce1_fits_program (S (n + 4)))) [.sh (pD p), s1, .un, s3] bD (fun _ => [.bool true]) p (fun b hb acc => ⟨_, [.sh (pD p), s1, .sh (bD b), s3], rfl, by
    simp [ce1_fits_program, ev_block n b (P.wf b hb) (P.sz b hb)], by simp⟩) []
  rw [fm_one] at c
  unfold pD at c ⊢
  simp [cm1_fits_program, x_coK _ _ _ _ _ _ (show (p.map bD).length ≤ 1000000 by simp; omega), c]
theorem len_every : (every p).length ≤ 48 := by
  have h : ∀ q : List (List St), (∀ b ∈ q, szL b ≤ 12) → (q.flatMap preL).length ≤ 12 * q.length := by
    intro q
    induction q with
    | nil => simp
    | cons b q ih =>
      intro hq
      have h1 := hq b (by simp)
      have h2 := ih fun x hx => hq x (by simp [hx])
      have h4 := len_pre (szL b) b (by omega)
      rw [List.flatMap_cons, List.length_append, h4, List.length_cons]
      omega
  have := h p P.sz
  have := P.l4
  show (p.flatMap preL).length ≤ 48
  omega
theorem wf_every : ∀ s ∈ every p, Wf 2 s := by
  intro s hs
  obtain ⟨b, hb, h⟩ := List.mem_flatMap.mp hs
  exact wf_pre _ b (Nat.le_refl _) (P.wf b hb) s h
theorem fp_every (s1 s2 s3 : Slot) : cm2_fits_program (S (n + 4)) [.sh (pD p), s1, s2, s3] = .ok (.fr (.list (dL (every p)))) [.sh (pD p), s1, s2, s3] := by
  have l := P.l4
  have c := cl_pure (gN 3) [3, 2] (cIn tYesS (ci1_fits_program (S (n + 4))) (gN 2) [2] tYesS (ce2_fits_program (S (n + 4)))) [.sh (pD p), s1, .un, .un] bD (fun b => dL (preL b)) p (fun b hb acc => ⟨_, [.sh (pD p), s1, .un, .sh (bD b)], rfl, by
    have z := P.sz b hb
    have w := P.wf b hb
    have c2 := cl_pure (gN 2) [2] (cItem tYesS (ce2_fits_program (S (n + 4)))) [.sh (pD p), s1, .un, .sh (bD b)] St.d (fun s => [s.d]) (preL b) (fun s hs acc => ⟨_, [.sh (pD p), s1, .sh s.d, .sh (bD b)], rfl, by simp [ce2_fits_program], by simp⟩) acc
    have lp := len_pre _ b z
    have e1 : (dL (preL b)).length ≤ 1000 := by rw [dL_map, List.length_map, len_pre (szL b) b (by omega)]; omega
    rw [fm_one, ← dL_map] at c2
    simp [ci1_fits_program, ev_all (n + 2) b w (by omega), x_cnK2 _ _ _ _ _ _ _ e1]
    simpa using c2, by simp⟩) []
  have e : (p.flatMap fun b => dL (preL b)) = dL (every p) := by
    rw [dL_map]
    show _ = (p.flatMap preL).map St.d
    rw [List.map_flatMap]
    congr 1
    funext b
    rw [dL_map]
  rw [e] at c
  unfold pD at c ⊢
  simp [cm2_fits_program, x_coK' _ _ _ _ _ _ _ _ _ _ (show (p.map bD).length ≤ 1000 by simp; omega), c]
end
end Lw
end
section
set_option Elab.async false
set_option linter.all false
set_option maxRecDepth 100000
namespace Lw
open PySem FE
theorem fm_filter {α β : Type} (f : α → β) (q : α → Bool) : ∀ l : List α, (l.flatMap fun x => if q x = true then [f x] else []) = (l.filter q).map f
  | [] => rfl
  | x :: l => by
    rw [List.flatMap_cons, fm_filter f q l]
    cases h : q x <;> simp [h]
theorem fe_of {s : St} {k : Nat} (h : Wf k s) (n : Nat) (e : En) (i : Nat) (hi : e[i]? = some (.sh s.d)) : eN gEq (a2 (eN gIx (a2 (eV i) (eC (.int 0)))) (eC (.str "fence"))) e = .ok (.sh (.bool s.isFe)) e := by
  unfold St.isFe
  cases h with
  | ac h => cases h <;> simp [hi, hd] <;> simp at hi <;> simp [hi]
  | pl h => cases h <;> simp [hi, hd] <;> simp at hi <;> simp [hi]
  | ifs he hy hn ly ln => simp [hi, hd, St.d_ifs] <;> simp [St.d_ifs] at hi <;> simp [hi]
section
variable (n : Nat) {p : List (List St)} (P : Pr p)
include P
theorem fp_acc (s2 s3 : Slot) (x : Slot) (hx : x = .ow (.list (dL (every p))) ∨ x = .sh (.list (dL (every p)))) : cm3_fits_program (S (n + 4)) [.sh (pD p), x, s2, s3] = .ok (.fr (.list (((every p).filter St.isAc).map St.d))) [.sh (pD p), .sh (.list (dL (every p))), s2, s3] := by
  have hw := wf_every P
  have hl := len_every P
  have c := cl_pure (gN 2) [2] (cItem (ct1_fits_program (S (n + 4))) (ce3_fits_program (S (n + 4)))) [.sh (pD p), .sh (.list (dL (every p))), .un, s3] St.d (fun s => if s.isAc = true then [s.d] else []) (every p) (fun s hs acc => ⟨_, [.sh (pD p), .sh (.list (dL (every p))), .sh s.d, s3], rfl, by
    have i := ev_isac (n + 3) s (hw s hs)
    cases hq : s.isAc <;> rw [hq] at i <;> simp [ct1_fits_program, ce3_fits_program, i], by simp⟩) []
  rw [fm_filter, ← dL_map] at c
  have l6 : (dL (every p)).length ≤ 1000000 := by rw [dL_map]; simp only [List.length_map]; omega
  rcases hx with rfl | rfl <;> simp [cm3_fits_program, x_coK _ _ _ _ _ _ l6, c]
theorem fp_fen (s2 s3 : Slot) : cm4_fits_program (S (n + 4)) [.sh (pD p), .sh (.list (dL (every p))), s2, s3] = .ok (.fr (.list (((every p).filter St.isFe).map St.d))) [.sh (pD p), .sh (.list (dL (every p))), s2, s3] := by
  have hw := wf_every P
  have hl := len_every P
  have c := cl_pure (gN 2) [2] (cItem (ct2_fits_program (S (n + 4))) (ce4_fits_program (S (n + 4)))) [.sh (pD p), .sh (.list (dL (every p))), .un, s3] St.d (fun s => if s.isFe = true then [s.d] else []) (every p) (fun s hs acc => ⟨_, [.sh (pD p), .sh (.list (dL (every p))), .sh s.d, s3], rfl, by
    have i := fe_of (hw s hs) n [.sh (pD p), .sh (.list (dL (every p))), .sh s.d, s3] 2 rfl
    show cItem _ _ acc [.sh (pD p), .sh (.list (dL (every p))), .sh s.d, s3] = _
    rw [x_cItem]
    unfold ct2_fits_program
    rw [x_testS, i]
    cases hq : s.isFe <;> simp [ce4_fits_program], by simp⟩) []
  rw [fm_filter, ← dL_map] at c
  have l6 : (dL (every p)).length ≤ 1000000 := by rw [dL_map]; simp only [List.length_map]; omega
  simp [cm4_fits_program, x_coK _ _ _ _ _ _ l6, c]
theorem ev_prog : b_fits_program (S (n + 4)) [.sh (pD p)] = .ok (.sh (.bool true)) [.sh (pD p)] := by
  have h1 := P.l1
  have h4 := P.l4
  have c1 := fp_blocks n P .un .un .un
  have c2 := fp_every n P .un .un .un
  have c3 := fp_acc n P .un .un _ (.inl rfl)
  have c4 := fp_fen n P .un .un
  have t := ev_tup (S (n + 3)) (pD p) 1 4
  have e : tupB (pD p) 1 4 = true := by
    simp [pD]; omega
  rw [e] at t
  have a := P.ac
  have f := P.fe
  have a' : ¬ (8 < (((every p).filter St.isAc).length : Int)) := by omega
  have f' : ((((every p).filter St.isFe).length : Int) ≤ 8) := by omega
  simp only [every] at a' f' c1 c2 c3 c4
  simp [b_fits_program, k_THREADS, k_ACCESSES, k_FENCES, t, c1, c2, c3, c4, a', f']
theorem ev_need : b_need_program (S (n + 5)) [.sh (pD p)] = .ok (.sh .none) [.sh (pD p)] := by
  simp [b_need_program, ev_prog n P]
end
end Lw
end
section
set_option Elab.async false
set_option linter.all false
set_option maxRecDepth 100000
namespace Lw
open PySem FE
theorem ok_app (a b : Str) : PyData.strOk (a ++ b) = (PyData.strOk a && PyData.strOk b) := by
  show (a.cps ++ b.cps).all _ = _
  rw [Array.all_append]
  rfl
theorem len_app (a b : Str) : (a ++ b).length = a.length + b.length := by
  show (a.cps ++ b.cps).size = _
  rw [Array.size_append]
  rfl
/-- shown within L signs -/
def Sho (L : Nat) (d : D) : Prop := d.showable = true ∧ PyData.strOk d.shown = true ∧ d.shown.length ≤ L
theorem Sho.mono {L M : Nat} {d : D} (h : Sho L d) (hl : L ≤ M) : Sho M d := ⟨h.1, h.2.1, Nat.le_trans h.2.2 hl⟩
def wordsAll : List Str := ["write", "read", "swap", "add", "try", "fence", "need", "set", "if", "num", "reg", "plus", "minus", "times", "same", "less", "plain", "release", "strong", "acquire"]
theorem sho_words : (wordsAll.all fun w => (PyData.str w).showable && PyData.strOk (PyData.str w).shown && decide ((PyData.str w).shown.length ≤ 12)) = true := by decide +kernel
theorem sho_w {w : Str} (h : w ∈ wordsAll) : Sho 12 (.str w) := by
  have := List.all_eq_true.mp sho_words w h
  simp only [Bool.and_eq_true, decide_eq_true_eq] at this
  exact ⟨this.1.1, this.1.2, this.2⟩
theorem sho_ints : ((List.range 16).all fun i => (PyData.int (i : Nat)).showable && PyData.strOk (PyData.int (i : Nat)).shown && decide ((PyData.int (i : Nat)).shown.length ≤ 12)) = true := by decide +kernel
theorem sho_i {i : Int} (h0 : 0 ≤ i) (h1 : i ≤ 15) : Sho 12 (.int i) := by
  obtain ⟨n, rfl⟩ : ∃ n : Nat, i = n := ⟨i.toNat, by omega⟩
  have := List.all_eq_true.mp sho_ints n (List.mem_range.mpr (by omega))
  simp only [Bool.and_eq_true, decide_eq_true_eq] at this
  exact ⟨this.1.1, this.1.2, this.2⟩
/-- what a tuple's items take -/
def tl : List D → Nat
  | [] => 0
  | x :: xs => x.shown.length + 2 + tl xs
theorem shA_map : ∀ xs : List D, PyData.shownAll xs = xs.map PyData.shown
  | [] => by simp [PyData.shownAll]
  | x :: xs => by simp [PyData.shownAll, shA_map xs]
theorem join_ok : ∀ ts : List Str, (∀ t ∈ ts, PyData.strOk t = true) → PyData.strOk (Str.join ", " ts) = true ∧ (Str.join ", " ts).length ≤ (ts.map fun t => t.length + 2).sum
  | [], _ => ⟨by decide +kernel, by decide +kernel⟩
  | [x], h => ⟨h x (by simp), by show x.length ≤ _; simp⟩
  | x :: y :: r, h => by
    have ih := join_ok (y :: r) fun t ht => h t (by simp [ht])
    have e : Str.join ", " (x :: y :: r) = x ++ ", " ++ Str.join ", " (y :: r) := rfl
    have c : PyData.strOk (", " : Str) = true := by decide +kernel
    have c2 : (", " : Str).length = 2 := by decide +kernel
    refine ⟨by rw [e, ok_app, ok_app, h x (by simp), c, ih.1]; rfl, ?_⟩
    rw [e, len_app, len_app, c2]
    have := ih.2
    simp only [List.map_cons, List.sum_cons] at this ⊢
    omega
theorem sho_tup {xs : List D} (h : ∀ x ∈ xs, ∃ L, Sho L x) : Sho (tl xs + 3) (.tuple xs) := by
  have h1 : ∀ x ∈ xs, PyData.showable x = true := fun x hx => (h x hx).choose_spec.1
  have sa : ∀ ys : List D, (∀ x ∈ ys, PyData.showable x = true) → PyData.showableAll ys = true := by
    intro ys
    induction ys with
    | nil => intro _; rfl
    | cons y ys ih => intro hy; simp [PyData.showableAll, hy y (by simp), ih fun x hx => hy x (by simp [hx])]
  have j := join_ok (xs.map PyData.shown) (by
    intro t ht
    obtain ⟨x, hx, rfl⟩ := List.mem_map.mp ht
    exact (h x hx).choose_spec.2.1)
  have lt : ((xs.map PyData.shown).map fun t => t.length + 2).sum = tl xs := by
    clear h h1 j
    induction xs with
    | nil => rfl
    | cons x xs ih => simp only [List.map_cons, List.sum_cons, tl]; rw [ih]
  have es : PyData.shown (.tuple xs) = tupleText (xs.map PyData.shown) := by simp only [PyData.shown]; rw [shA_map]
  have c1 : PyData.strOk ("(" : Str) = true := by decide +kernel
  have c2 : ("(" : Str).length = 1 := by decide +kernel
  have c3 : ∀ b : Bool, PyData.strOk ((if b = true then ",)" else ")" : String) : Str) = true ∧ (((if b = true then ",)" else ")" : String) : Str)).length ≤ 2 := by intro b; cases b <;> exact ⟨by decide +kernel, by decide +kernel⟩
  have c3 := c3 ((xs.map PyData.shown).length == 1)
  refine ⟨by simp only [PyData.showable]; exact sa xs h1, ?_, ?_⟩
  · rw [es]
    unfold tupleText
    rw [ok_app, ok_app, c1, j.1, c3.1]
    rfl
  · rw [es]
    unfold tupleText
    rw [len_app, len_app, c2]
    have := j.2
    rw [lt] at this
    have := c3.2
    omega
end Lw
end
section
set_option Elab.async false
set_option linter.all false
set_option maxRecDepth 100000
namespace Lw
open PySem FE
/-! ### what is drawn -/
def GC (c : D) : Prop := ∃ a b : Int, c = .list [.int a, .int b] ∧ 0 ≤ a ∧ 0 ≤ b ∧ b < 2 ^ 32
@[simp] theorem ix0 (n : Nat) : L2.ixN (n + 1) 0 = some 0 := by unfold L2.ixN; simp
@[simp] theorem ix1 (n : Nat) : L2.ixN (n + 2) 1 = some 1 := by
  unfold L2.ixN
  rw [if_pos (by decide), if_pos (by omega)]
  rfl
theorem roll (n : Nat) (c : D) (m : Int) (h : GC c) (hm : 0 < m) (hm2 : m < 1073741824) : ∃ r c', GC c' ∧ 0 ≤ r ∧ r < m ∧ b__law_roll (S n) [.pa c, .sh (.int m)] = .ok (.sh (.int r)) [.pa c', .sh (.int m)] := by
  obtain ⟨a, b, rfl, ha, hb, hb2⟩ := h
  by_cases h0 : 0 < a
  · refine ⟨a % m, _, ⟨a / m, b, rfl, Int.ediv_nonneg ha (by omega), hb, hb2⟩, Int.emod_nonneg _ (by omega), Int.emod_lt_of_pos _ hm, ?_⟩
    simp [b__law_roll, h0, hm, hm2]
  · have e1 : 0 ≤ (b * 31081 + 8039) % 2147483477 := Int.emod_nonneg _ (by decide)
    have e2 : (b * 31081 + 8039) % 2147483477 < 2147483477 := Int.emod_lt_of_pos _ (by decide)
    have c1 : (-(2 ^ 64) < b ∧ b < 2 ^ 64) ∨ (-(2 ^ 64) < (31081 : Int) ∧ (31081 : Int) < 2 ^ 64) := .inr (by decide)
    have c2 : (-(2 ^ 64) < (b * 31081 + 8039) % 2147483477 ∧ (b * 31081 + 8039) % 2147483477 < 2 ^ 64) ∨ (-(2 ^ 64) < (b * 31081 + 8039) % 2147483477 + 251 ∧ (b * 31081 + 8039) % 2147483477 + 251 < 2 ^ 64) := .inl (by omega)
    have g1 := o_mul b 31081 c1
    have g2 := o_mul _ _ c2
    generalize hb' : (b * 31081 + 8039) % 2147483477 = b' at e1 e2 g2
    refine ⟨(b' * (b' + 251)) % 2147483587 / 839 % m, _, ⟨a, b', rfl, ha, e1, by omega⟩, Int.emod_nonneg _ (by omega), Int.emod_lt_of_pos _ hm, ?_⟩
    simp [b__law_roll, h0, hm, g1, hb', g2]
theorem some_ (n : Nat) (c : D) (ds : List D) (h : GC c) (h0 : ds ≠ []) (hl : ds.length < 1000) : ∃ d c', d ∈ ds ∧ GC c' ∧ b__law_some (S (n + 1)) [.pa c, .sh (.list ds)] = .ok (.sh d) [.pa c', .sh (.list ds)] := by
  have hp : 0 < ds.length := List.length_pos_iff.mpr h0
  obtain ⟨r, c', g, r0, r1, e⟩ := roll n c ds.length h (by omega) (by omega)
  have hr : r.toNat < ds.length := by omega
  refine ⟨ds[r.toNat], c', List.getElem_mem hr, g, ?_⟩
  have q : at_ ds r = some ds[r.toNat] := by rw [at_k ds r r0 r1, List.getElem?_eq_getElem hr]
  simp [b__law_some, e, q]
theorem cup_ (n : Nat) (ns : List Int) (hl : ns.length ≤ 63) : ∃ c, GC c ∧ b__law_cup (S n) [.sh (.list (ns.map .int))] = .ok (.fr c) [.sh (.list (ns.map .int))] := by
  have key : ∃ i : Int, ((ns.map PyData.int) ++ [PyData.int 0])[0]? = some (.int i) := by
    cases ns with
    | nil => exact ⟨0, rfl⟩
    | cons i ns => exact ⟨i, rfl⟩
  obtain ⟨i, hi⟩ := key
  have l1 : (ns.map PyData.int).length + [PyData.int 0].length ≤ 1000000 := by simp; omega
  have ab : 0 ≤ (if i < 0 then -i else i) := by split <;> omega
  generalize hc : (if i < 0 then -i else i) = cell at ab
  have ga : gAbs [.int i] = some (false, .int cell) := by rw [← hc]; rfl
  have gp : gPow [.int 10, .int 18] = some (false, .int (10 ^ 18)) := by
    show (if 0 ≤ (18 : Int) ∧ (18 : Int) ≤ 1000000 ∧ (10 : Int).natAbs < 2 ^ 64 then some (false, PyData.int ((10 : Int) ^ (18 : Int).toNat)) else none) = _
    rw [if_pos (by decide)]
    rfl
  have c1 : (-(2 ^ 64) < cell ∧ cell < 2 ^ 64) ∨ (-(2 ^ 64) < (307 : Int) ∧ (307 : Int) < 2 ^ 64) := .inr (by decide)
  have g1 := o_mul cell 307 c1
  have e1 : 0 ≤ (cell * 307 + 3001) % 2077503113 := Int.emod_nonneg _ (by decide)
  have e2 : (cell * 307 + 3001) % 2077503113 < 2077503113 := Int.emod_lt_of_pos _ (by decide)
  have l2 : ns.length + 1 ≤ 1000000 := by omega
  by_cases h18 : (10 : Int) ^ 18 ≤ cell
  · refine ⟨_, ⟨cell / 83, (cell * 307 + 3001) % 2077503113 + 181, rfl, Int.ediv_nonneg ab (by decide), by omega, by omega⟩, ?_⟩
    simp at h18 hi
    simp [b__law_cup, l2, hi, ga, gp, h18, g1]
  · refine ⟨_, ⟨0, (cell * 307 + 3001) % 2077503113 + 181, rfl, by decide, by omega, by omega⟩, ?_⟩
    simp at h18 hi
    have h18' : ¬ (1000000000000000000 ≤ cell) := by omega
    simp [b__law_cup, l2, hi, ga, gp, h18', g1]
end Lw
end
section
set_option Elab.async false
set_option linter.all false
set_option maxRecDepth 100000
namespace Lw
open PySem FE
theorem num_mem {d : D} (h : d ∈ [PyData.int 0, .int 1, .int 1, .int 2, .int 3, .int 15]) : ∃ v : Int, d = .int v ∧ 0 ≤ v ∧ v ≤ 15 := by
  simp at h
  rcases h with rfl | rfl | rfl | rfl | rfl
  · exact ⟨0, rfl, by decide, by decide⟩
  · exact ⟨1, rfl, by decide, by decide⟩
  · exact ⟨2, rfl, by decide, by decide⟩
  · exact ⟨3, rfl, by decide, by decide⟩
  · exact ⟨15, rfl, by decide, by decide⟩
def exN : Nat → Nat
  | 0 => 0
  | k + 1 => 2 * exN k + 1
theorem expr (n : Nat) : ∀ (k : Nat) (c : D), GC c → ∃ e c' s, IsEx (k + 1) s e ∧ s ≤ exN (k + 1) ∧ GC c' ∧ b__law_expression (S (n + k + 2)) [.pa c, .sh (.int k)] = .ok (.sh e) [.pa c', .sh (.int k)] := by
  intro k
  induction k with
  | zero =>
    intro c h
    obtain ⟨w, c1, g1, w0, w1, e1⟩ := roll (n + 1) c 4 h (by decide) (by decide)
    by_cases h2 : w < 2
    · obtain ⟨d, c2, hd, g2, e2⟩ := some_ n c1 [PyData.int 0, .int 1, .int 1, .int 2, .int 3, .int 15] g1 (by simp) (by simp)
      obtain ⟨v, rfl, v0, v1⟩ := num_mem hd
      refine ⟨_, c2, _, .num (k := 0) v0 v1, by simp [exN], g2, ?_⟩
      unfold b__law_expression
      simp [e1, w1, h2, e2]
    · obtain ⟨r, c2, g2, r0, r1, e2⟩ := roll (n + 1) c1 2 g1 (by decide) (by decide)
      refine ⟨_, c2, _, .reg (k := 0) r0 (by omega), by simp [exN], g2, ?_⟩
      unfold b__law_expression
      simp [e1, w1, h2, e2]
  | succ k ih =>
    intro c h
    obtain ⟨w, c1, g1, w0, w1, e1⟩ := roll (n + k + 2) c 6 h (by decide) (by decide)
    have kp : (0 : Int) < (k : Int) + 1 := by omega
    have lv : n + (k + 1) + 2 = n + k + 3 := by omega
    by_cases h4 : w < 4
    · by_cases h2 : w < 2
      · obtain ⟨d, c2, hd, g2, e2⟩ := some_ (n + k + 1) c1 [PyData.int 0, .int 1, .int 1, .int 2, .int 3, .int 15] g1 (by simp) (by simp)
        obtain ⟨v, rfl, v0, v1⟩ := num_mem hd
        refine ⟨_, c2, _, .num (k := k + 1) v0 v1, by simp [exN], g2, ?_⟩
        rw [lv]
        unfold b__law_expression
        simp [e1, h4, h2, e2, kp]
      · obtain ⟨r, c2, g2, r0, r1, e2⟩ := roll (n + k + 2) c1 2 g1 (by decide) (by decide)
        refine ⟨_, c2, _, .reg (k := k + 1) r0 (by omega), by simp [exN], g2, ?_⟩
        rw [lv]
        unfold b__law_expression
        simp [e1, h4, h2, e2, kp]
    · obtain ⟨d, c2, hd, g2, e2⟩ := some_ (n + k + 1) c1 [PyData.str "plus", .str "minus", .str "times", .str "same", .str "less"] g1 (by simp) (by simp)
      obtain ⟨a, c3, s1, i1, l1, g3, e3⟩ := ih c2 g2
      obtain ⟨b, c4, s2, i2, l2, g4, e4⟩ := ih c3 g3
      have hw : ∃ w ∈ worked, d = .str w := by
        simp at hd
        rcases hd with rfl | rfl | rfl | rfl | rfl
        · exact ⟨"plus", by simp [worked], rfl⟩
        · exact ⟨"minus", by simp [worked], rfl⟩
        · exact ⟨"times", by simp [worked], rfl⟩
        · exact ⟨"same", by simp [worked], rfl⟩
        · exact ⟨"less", by simp [worked], rfl⟩
      obtain ⟨w', hw', rfl⟩ := hw
      refine ⟨_, c4, _, .op hw' i1 i2, by simp only [exN] at *; omega, g4, ?_⟩
      have es : ((k : Int) + 1 - 1) = (k : Int) := by omega
      rw [lv]
      unfold b__law_expression
      simp [e1, h4, e2, kp, es, e3, e4]
theorem exE {k s : Nat} {e : D} (h : IsEx (k + 1) s e) (hk : k ≤ 1) (hs : s ≤ exN (k + 1)) : IsE e :=
  .mk (h.mono (by omega)) (by
    have : exN (k + 1) ≤ 3 := by
      rcases (show k = 0 ∨ k = 1 by omega) with rfl | rfl <;> decide
    omega)
theorem acc (n : Nat) (c : D) (cells : Int) (h : GC c) (h1 : 1 ≤ cells) (h2 : cells ≤ 2) : ∃ d c', IsAc d ∧ GC c' ∧ b__law_access (S (n + 4)) [.pa c, .sh (.int cells)] = .ok (.sh d) [.pa c', .sh (.int cells)] := by
  obtain ⟨cl, c1, g1, x0, x1, e1⟩ := roll (n + 3) c cells h (by omega) (by omega)
  obtain ⟨w, c2, g2, w0, w1, e2⟩ := roll (n + 3) c1 10 g1 (by decide) (by decide)
  by_cases h4 : w < 4
  · obtain ⟨d, c3, hd, g3, e3⟩ := some_ (n + 2) c2 [PyData.str "plain", .str "plain", .str "release", .str "strong"] g2 (by simp) (by simp)
    obtain ⟨e, c4, s, i, l, g4, e4⟩ := expr n 1 c3 g3
    have hm : ∃ m ∈ wmodes, d = .str m := by
      simp at hd
      rcases hd with rfl | rfl | rfl
      · exact ⟨"plain", by simp [wmodes], rfl⟩
      · exact ⟨"release", by simp [wmodes], rfl⟩
      · exact ⟨"strong", by simp [wmodes], rfl⟩
    obtain ⟨m, hm, rfl⟩ := hm
    refine ⟨_, c4, .write x0 (by omega) hm (exE i (by omega) l), g4, ?_⟩
    simp at e4
    simp [b__law_access, e1, e2, h4, e3, e4]
  · by_cases h8 : w < 8
    · obtain ⟨r, c3, g3, r0, r1, e3⟩ := roll (n + 3) c2 2 g2 (by decide) (by decide)
      obtain ⟨d, c4, hd, g4, e4⟩ := some_ (n + 2) c3 [PyData.str "plain", .str "plain", .str "acquire", .str "strong"] g3 (by simp) (by simp)
      have hm : ∃ m ∈ rmodes, d = .str m := by
        simp at hd
        rcases hd with rfl | rfl | rfl
        · exact ⟨"plain", by simp [rmodes], rfl⟩
        · exact ⟨"acquire", by simp [rmodes], rfl⟩
        · exact ⟨"strong", by simp [rmodes], rfl⟩
      obtain ⟨m, hm, rfl⟩ := hm
      refine ⟨_, c4, .read r0 (by omega) x0 (by omega) hm, g4, ?_⟩
      simp [b__law_access, e1, e2, h4, h8, e3, e4]
    · obtain ⟨d, c3, hd, g3, e3⟩ := some_ (n + 2) c2 [PyData.str "swap", .str "add", .str "try"] g2 (by simp) (by simp)
      obtain ⟨r, c4, g4, r0, r1, e4⟩ := roll (n + 3) c3 2 g3 (by decide) (by decide)
      simp at hd
      rcases hd with rfl | rfl | rfl
      · obtain ⟨e, c5, s, i, l, g5, e5⟩ := expr n 1 c4 g4
        refine ⟨_, c5, .swap r0 (by omega) x0 (by omega) (exE i (by omega) l), g5, ?_⟩
        simp at e5
        simp [b__law_access, e1, e2, h4, h8, e3, e4, e5]
      · obtain ⟨e, c5, s, i, l, g5, e5⟩ := expr n 1 c4 g4
        refine ⟨_, c5, .add r0 (by omega) x0 (by omega) (exE i (by omega) l), g5, ?_⟩
        simp at e5
        simp [b__law_access, e1, e2, h4, h8, e3, e4, e5]
      · obtain ⟨e, c5, s, i, l, g5, e5⟩ := expr (n + 1) 0 c4 g4
        obtain ⟨f, c6, s2, i2, l2, g6, e6⟩ := expr n 1 c5 g5
        refine ⟨_, c6, .tri r0 (by omega) x0 (by omega) (exE i (by omega) l) (exE i2 (by omega) l2), g6, ?_⟩
        simp at e5 e6
        simp [b__law_access, e1, e2, h4, h8, e3, e4, e5, e6]
end Lw
end
section
set_option Elab.async false
set_option linter.all false
set_option maxRecDepth 100000
namespace Lw
open PySem FE
def nAc (ss : List St) : Nat := ((preL ss).filter St.isAc).length
def nFe (ss : List St) : Nat := ((preL ss).filter St.isFe).length
theorem nAc_app (xs ys : List St) : nAc (xs ++ ys) = nAc xs + nAc ys := by simp [nAc, preL_app]
theorem nFe_app (xs ys : List St) : nFe (xs ++ ys) = nFe xs + nFe ys := by simp [nFe, preL_app]
structure Th (a : Nat) (ss : List St) : Prop where
  wf : ∀ s ∈ ss, Wf 2 s
  sz : szL ss ≤ 2 * a
  ac : nAc ss = a
  fe : nFe ss = (ss.filter St.isFe).length
  fa : (ss.filter St.isFe).length ≤ a
theorem Th.add {a k : Nat} {ss xs : List St} (h : Th a ss) (g : Th k xs) : Th (a + k) (ss ++ xs) :=
  ⟨by intro s hs; rw [List.mem_append] at hs; exact hs.elim (h.wf s) (g.wf s), by rw [szL_app]; have := h.sz; have := g.sz; omega, by rw [nAc_app, h.ac, g.ac], by rw [nFe_app, h.fe, g.fe]; simp, by simp; have := h.fa; have := g.fa; omega⟩
theorem ac_fe {d : D} (h : IsAc d) : (St.ac d).isFe = false := by cases h <;> simp [St.isFe, hd]
@[simp] theorem ifs_fe (e : D) (ys ns : List St) : (St.ifs e ys ns).isFe = false := by simp [St.isFe, hd, St.d_ifs]
theorem th_ac {d : D} (h : IsAc d) : Th 1 [.ac d] := ⟨by simp; exact .ac h, by simp [szL, St.sz], by simp [nAc, preL, St.pre, List.filter_cons, St.isAc], by simp [nFe, preL, St.pre], by simp [ac_fe h]⟩
theorem th_pl {d e : D} (g : IsPl e) (h : IsAc d) : Th 1 [.pl e, .ac d] :=
  ⟨by simp; exact ⟨.pl g, .ac h⟩, by simp [szL, St.sz], by simp [nAc, preL, St.pre, List.filter_cons, St.isAc], by simp [nFe, preL, St.pre], by have := ac_fe h; have := List.length_filter_le St.isFe [St.pl e]; simp [List.filter_cons, ac_fe h] at *; split <;> simp⟩
theorem th_if1 {d e : D} (he : IsE e) (h : IsAc d) : Th 1 [.ifs e [.ac d] []] :=
  ⟨by simp; exact .ifs he (by simp; exact .ac h) (by simp) (by simp) (by simp), by simp [szL, St.sz], by simp [nAc, preL, St.pre, List.filter_cons, St.isAc], by simp [nFe, preL, St.pre, ac_fe h], by simp⟩
theorem th_if2 {d f e : D} (he : IsE e) (h : IsAc d) (g : IsAc f) : Th 2 [.ifs e [.ac d] [.ac f]] :=
  ⟨by simp; exact .ifs he (by simp; exact .ac h) (by simp; exact .ac g) (by simp) (by simp), by simp [szL, St.sz], by simp [nAc, preL, St.pre, List.filter_cons, St.isAc], by simp [nFe, preL, St.pre, ac_fe h, ac_fe g], by simp⟩
theorem e_reg {r : Int} (h0 : 0 ≤ r) (h2 : r ≤ 2) : IsE (.tuple [.str "reg", .int r]) := .mk (.reg h0 h2) (by omega)
theorem e_less {r v : Int} (h0 : 0 ≤ r) (h2 : r ≤ 2) (v0 : 0 ≤ v) (v1 : v ≤ 15) : IsE (.tuple [.str "less", .tuple [.str "reg", .int r], .tuple [.str "num", .int v]]) :=
  .mk (.op (k := 3) (by simp [worked]) (.reg h0 h2) (.num v0 v1)) (by omega)
def Tn (n : Nat) (c : D) (r cells m : Int) (ss : List St) (a : Nat) (s5 s6 s7 s8 : Slot) : Prop :=
    ∃ (c' : D) (k : Nat) (ss' : List St) (s5' s6' s7' : Slot), 1 ≤ k ∧ (k : Int) ≤ r ∧ GC c' ∧ Th (a + k) ss' ∧ ss' ≠ [] ∧ wb1__law_thread (S (n + 5)) [.pa c, .sh (.int r), .sh (.int cells), .sh (.tuple (dL ss)), .sh (.int m), s5, s6, s7, s8] = .ok .nx [.pa c', .sh (.int (r - (k : Int))), .sh (.int cells), .sh (.tuple (dL ss')), .sh (.int m), s5', s6', s7', s8]
theorem turn (n : Nat) (c : D) (r cells m : Int) (ss : List St) (a : Nat) (h : GC c) (T : Th a ss) (ha : a ≤ 100) (hr : 1 ≤ r) (h1 : 1 ≤ cells) (h2 : cells ≤ 2) (s5 s6 s7 s8 : Slot) :
    Tn n c r cells m ss a s5 s6 s7 s8 := by
  have hz := T.sz
  have hl : (dL ss).length ≤ szL ss := by rw [dL_map, List.length_map]; exact szL_len ss
  have hA : (dL ss).length ≤ 999999 := by omega
  have hB : (dL ss).length ≤ 999998 := by omega
  have hs : SeqAt.shaped (.tuple (dL ss)) = true := (nice_tup (wf_nice (k := 2) (by omega) T.wf)).sh
  obtain ⟨w, c1, g1, w0, w1, e1⟩ := roll (n + 4) c 12 h (by decide) (by decide)
  have plain : ∀ (w : Int) (c1 : D), GC c1 → b__law_roll (S (n + 4)) [.pa c, .sh (.int 12)] = .ok (.sh (.int w)) [.pa c1, .sh (.int 12)] → w ≠ 0 → w ≠ 1 → (w = 2 → ss = []) → (w = 3 → ss = []) → Tn n c r cells m ss a s5 s6 s7 s8 := by
    intro w c1 g1 e1 n0 n1 n2 n3
    obtain ⟨d, c2, i, g2, e2⟩ := acc n c1 cells g1 h1 h2
    refine ⟨c2, 1, ss ++ [.ac d], .sh (.int w), s6, s7, by omega, by omega, g2, T.add (th_ac i), by simp, ?_⟩
    by_cases q2 : w = 2
    · have := n2 q2; subst this; subst q2
      simp [wb1__law_thread, e1, e2, hs, dL, SeqAt.shaped, PyData.canLay0, PyData.canLayAll0, PyData.depth, PyData.depthAll]
    · by_cases q3 : w = 3
      · have := n3 q3; subst this; subst q3
        simp [wb1__law_thread, e1, e2, hs, dL, SeqAt.shaped, PyData.canLay0, PyData.canLayAll0, PyData.depth, PyData.depthAll]
      · simp [wb1__law_thread, e1, e2, show (w == 0) = false by simp [n0], show (w == 1) = false by simp [n1], show (w == 2) = false by simp [q2], show (w == 3) = false by simp [q3], hA, dL_app, dL]
  by_cases q0 : w = 0
  · subst q0
    obtain ⟨d, c2, i, g2, e2⟩ := acc n c1 cells g1 h1 h2
    refine ⟨c2, 1, ss ++ [.pl (.tuple [.str "fence"]), .ac d], .sh (.int 0), s6, s7, by omega, by omega, g2, T.add (th_pl .fence i), by simp, ?_⟩
    simp [wb1__law_thread, e1, e2, hA, hB, dL_app, dL]
  by_cases q1 : w = 1
  · subst q1
    obtain ⟨t, c2, g2, t0, t1, e2⟩ := roll (n + 4) c1 2 g1 (by decide) (by decide)
    obtain ⟨x, c3, s, i, l, g3, e3⟩ := expr (n + 1) 1 c2 g2
    obtain ⟨d, c4, j, g4, e4⟩ := acc n c3 cells g3 h1 h2
    refine ⟨c4, 1, ss ++ [.pl (.tuple [.str "set", .int t, x]), .ac d], .sh (.int 1), s6, s7, by omega, by omega, g4, T.add (th_pl (.set t0 (by omega) (exE i (by omega) l)) j), by simp, ?_⟩
    simp at e3
    simp [wb1__law_thread, e1, e2, e3, e4, hA, hB, dL_app, dL]
  by_cases qs : ss = []
  · exact plain w c1 g1 e1 q0 q1 (fun _ => qs) (fun _ => qs)
  by_cases q2 : w = 2
  · subst q2
    have ne : (dL ss).isEmpty = false := by rw [dL_map]; cases ss <;> simp at qs ⊢
    obtain ⟨t, c2, g2, t0, t1, e2⟩ := roll (n + 4) c1 2 g1 (by decide) (by decide)
    obtain ⟨d, c4, j, g4, e4⟩ := acc n c2 cells g2 h1 h2
    refine ⟨c4, 1, ss ++ [.pl (.tuple [.str "need", .tuple [.str "less", .tuple [.str "reg", .int t], .tuple [.str "num", .int 2]]]), .ac d], .sh (.int 2), s6, s7, by omega, by omega, g4, T.add (th_pl (.need (e_less t0 (by omega) (by decide) (by decide))) j), by simp, ?_⟩
    simp [wb1__law_thread, e1, e2, e4, hA, hB, dL_app, dL, hs, ne]
  by_cases q3 : w = 3
  · subst q3
    have ne : (dL ss).isEmpty = false := by rw [dL_map]; cases ss <;> simp at qs ⊢
    obtain ⟨d, c2, j, g2, e2⟩ := acc n c1 cells g1 h1 h2
    by_cases r1 : 1 < r
    · obtain ⟨t, c3, g3, t0, t1, e3⟩ := roll (n + 4) c2 2 g2 (by decide) (by decide)
      by_cases tz : t = 0
      · subst tz
        obtain ⟨f, c4, i, g4, e4⟩ := acc n c3 cells g3 h1 h2
        obtain ⟨v, c5, g5, v0, v1, e5⟩ := roll (n + 4) c4 2 g4 (by decide) (by decide)
        refine ⟨c5, 2, ss ++ [.ifs (.tuple [.str "reg", .int v]) [.ac d] [.ac f]], .sh (.int 3), .sh (.tuple [d]), .sh (.tuple [f]), by omega, by omega, g5, T.add (th_if2 (e_reg v0 (by omega)) j i), by simp, ?_⟩
        have er : r - 1 - 1 = r - 2 := by omega
        simp [wb1__law_thread, e1, e2, e3, e4, e5, hA, hB, dL_app, dL, hs, ne, r1, St.d_ifs, er]
      · obtain ⟨v, c5, g5, v0, v1, e5⟩ := roll (n + 4) c3 2 g3 (by decide) (by decide)
        refine ⟨c5, 1, ss ++ [.ifs (.tuple [.str "reg", .int v]) [.ac d] []], .sh (.int 3), .sh (.tuple [d]), .sh (.tuple []), by omega, by omega, g5, T.add (th_if1 (e_reg v0 (by omega)) j), by simp, ?_⟩
        simp [wb1__law_thread, e1, e2, e3, e5, hA, hB, dL_app, dL, hs, ne, r1, show (t == 0) = false by simp [tz], St.d_ifs]
    · obtain ⟨v, c5, g5, v0, v1, e5⟩ := roll (n + 4) c2 2 g2 (by decide) (by decide)
      refine ⟨c5, 1, ss ++ [.ifs (.tuple [.str "reg", .int v]) [.ac d] []], .sh (.int 3), .sh (.tuple [d]), .sh (.tuple []), by omega, by omega, g5, T.add (th_if1 (e_reg v0 (by omega)) j), by simp, ?_⟩
      simp [wb1__law_thread, e1, e2, e5, hA, hB, dL_app, dL, hs, ne, r1, St.d_ifs]
  · exact plain w c1 g1 e1 q0 q1 (fun h => absurd h q2) (fun h => absurd h q3)
end Lw
end
section
set_option Elab.async false
set_option linter.all false
set_option maxRecDepth 100000
namespace Lw
open PySem FE
theorem th_cond (n : Nat) (e : En) (r : Int) (h : e[1]? = some (.sh (.int r))) : wc1__law_thread (S n) e = .ok (decide (0 < r)) e := by
  simp [wc1__law_thread, h]
theorem th_loop (n : Nat) (cells m : Int) (h1 : 1 ≤ cells) (h2 : cells ≤ 2) (s8 : Slot) : ∀ (N fuel : Nat) (c : D) (r : Int) (ss : List St) (a : Nat) (s5 s6 s7 : Slot), GC c → Th a ss → 0 ≤ r → r.toNat ≤ N → N < fuel → a + r.toNat ≤ 100 →
    ∃ c' ss' s5' s6' s7', GC c' ∧ Th (a + r.toNat) ss' ∧ (0 < r → ss' ≠ []) ∧ sWhileN (wc1__law_thread (S (n + 5))) (wb1__law_thread (S (n + 5))) fuel [.pa c, .sh (.int r), .sh (.int cells), .sh (.tuple (dL ss)), .sh (.int m), s5, s6, s7, s8] = .ok .nx [.pa c', .sh (.int 0), .sh (.int cells), .sh (.tuple (dL ss')), .sh (.int m), s5', s6', s7', s8] := by
  intro N
  induction N with
  | zero =>
    intro fuel c r ss a s5 s6 s7 g T h0 hN hf ha
    obtain ⟨f, rfl⟩ : ∃ f, fuel = f + 1 := ⟨fuel - 1, by omega⟩
    have : r = 0 := by omega
    subst this
    refine ⟨c, ss, s5, s6, s7, g, T, by omega, ?_⟩
    rw [x_sWhileN, th_cond _ _ 0 rfl]
    rfl
  | succ N ih =>
    intro fuel c r ss a s5 s6 s7 g T h0 hN hf ha
    obtain ⟨f, rfl⟩ : ∃ f, fuel = f + 1 := ⟨fuel - 1, by omega⟩
    by_cases hr : 0 < r
    · obtain ⟨c1, k, ss1, t5, t6, t7, k1, kr, g1, T1, ne1, e1⟩ := turn n c r cells m ss a g T (by omega) (by omega) h1 h2 s5 s6 s7 s8
      obtain ⟨c2, ss2, u5, u6, u7, g2, T2, ne2, e2⟩ := ih f c1 (r - k) ss1 (a + k) t5 t6 t7 g1 T1 (by omega) (by omega) (by omega) (by omega)
      refine ⟨c2, ss2, u5, u6, u7, g2, ?_, ?_, ?_⟩
      · have : a + k + (r - k).toNat = a + r.toNat := by omega
        rw [← this]
        exact T2
      · intro _ hn
        have q := T2.ac
        rw [hn] at q
        simp [nAc, preL] at q
        omega
      · rw [x_sWhileN, th_cond _ _ r rfl]
        simp [hr, e1]
        exact e2
    · have : r = 0 := by omega
      subst this
      refine ⟨c, ss, s5, s6, s7, g, T, by omega, ?_⟩
      rw [x_sWhileN, th_cond _ _ 0 rfl]
      rfl
theorem fe_eqv {s : St} (h : Wf 2 s) : PyData.eqv s.d (.tuple [.str "fence"]) = s.isFe := by
  cases h with
  | ac h => cases h <;> simp [St.isFe, hd, PyData.eqv, PyData.eqvAll]
  | pl h => cases h <;> simp [St.isFe, hd, PyData.eqv, PyData.eqvAll]
  | ifs he hy hn ly ln => simp [St.isFe, hd, St.d_ifs, PyData.eqv, PyData.eqvAll]
theorem fe_any {ss : List St} (h : ∀ s ∈ ss, Wf 2 s) : ((dL ss).any fun z => PyData.eqv z (.tuple [.str "fence"])) = ss.any St.isFe := by
  rw [dL_map]
  induction ss with
  | nil => rfl
  | cons s ss ih =>
    rw [List.map_cons, List.any_cons, List.any_cons, fe_eqv (h s (by simp)), ih fun x hx => h x (by simp [hx])]
structure Tb (m : Nat) (ss : List St) : Prop where
  wf : ∀ s ∈ ss, Wf 2 s
  sz : szL ss ≤ 12
  ac : nAc ss = m
  fe : nFe ss ≤ m
theorem th_tail {m : Nat} {ss : List St} {d : D} (T : Th m ss) (hm : m < 6) (h1 : 1 ≤ m) (h : IsPl d) (hf : (St.pl d).isFe = true → ss.any St.isFe = false) : Tb m (ss ++ [.pl d]) :=
  ⟨by intro s hs; simp at hs; rcases hs with hs | rfl; exact T.wf s hs; exact .pl h,
   by have := T.sz; rw [szL_app]; simp [szL, St.sz]; omega,
   by rw [nAc_app, T.ac]; simp [nAc, preL, St.pre, List.filter_cons, St.isAc],
   by
    rw [nFe_app, T.fe]
    have := T.fa
    by_cases q : (St.pl d).isFe = true
    · have e := hf q
      have : ss.filter St.isFe = [] := by
        rw [List.filter_eq_nil_iff]
        intro s hs
        have := List.any_eq_false.mp e s hs
        exact this
      rw [this]
      simp [nFe, preL, St.pre, List.filter_cons, q]
      omega
    · simp [nFe, preL, St.pre, List.filter_cons, q]
      omega⟩
theorem thread (n : Nat) (c : D) (m cells : Int) (h : GC c) (m1 : 1 ≤ m) (m6 : m ≤ 6) (h1 : 1 ≤ cells) (h2 : cells ≤ 2) : ∃ ss c', GC c' ∧ Tb m.toNat ss ∧ b__law_thread (S (n + 5)) [.pa c, .sh (.int m), .sh (.int cells)] = .ok (.sh (bD ss)) [.pa c', .sh (.int 0), .sh (.int cells)] := by
  obtain ⟨c1, ss, s5, s6, s7, g1, T, ne, e1⟩ := th_loop n cells m h1 h2 .un m.toNat 1000000 c m [] 0 .un .un .un h ⟨by simp, by simp [szL], by simp [nAc, preL], by simp [nFe, preL], by simp⟩ (by omega) (by omega) (by omega) (by omega)
  rw [Nat.zero_add] at T
  have ne := ne (by omega)
  have hi : (dL ss).isEmpty = false := by rw [dL_map]; cases ss <;> simp at ne ⊢
  have hs : SeqAt.shaped (.tuple (dL ss)) = true := (nice_tup (wf_nice (k := 2) (by omega) T.wf)).sh
  have hz := T.sz
  have hl : (dL ss).length ≤ szL ss := by rw [dL_map, List.length_map]; exact szL_len ss
  have hA : (dL ss).length ≤ 999999 := by omega
  have base : Tb m.toNat ss := ⟨T.wf, by omega, T.ac, by have := T.fe; have := T.fa; omega⟩
  simp only [dL] at e1
  replace e1 : sWhile (wc1__law_thread (S (n + 5))) (wb1__law_thread (S (n + 5))) _ = _ := e1
  by_cases hm : m < 6
  · obtain ⟨w, c2, g2, w0, w1, e2⟩ := roll (n + 4) c1 3 g1 (by decide) (by decide)
    by_cases hw : w = 0
    · subst hw
      obtain ⟨t, c3, g3, t0, t1, e3⟩ := roll (n + 4) c2 2 g2 (by decide) (by decide)
      obtain ⟨x, c4, s, i, l, g4, e4⟩ := expr (n + 1) 1 c3 g3
      simp at e4
      have ix := exE i (by omega) l
      have hf : SeqAt.shaped (.tuple [.str "fence"]) = true := by simp [SeqAt.shaped, PyData.canLay0, PyData.canLayAll0, PyData.depth, PyData.depthAll]
      cases hq : ss.any St.isFe with
      | true =>
        obtain ⟨d, c5, hd, g5, e5⟩ := some_ (n + 3) c4 [.tuple [.str "set", .int t, x], .tuple [.str "need", .tuple [.str "less", .tuple [.str "reg", .int 0], .tuple [.str "num", .int 3]]]] g4 (by simp) (by simp)
        refine ⟨ss ++ [.pl d], c5, g5, ?_, ?_⟩
        · simp at hd
          rcases hd with rfl | rfl
          · exact th_tail T (by omega) (by omega) (.set t0 (by omega) ix) (by simp [St.isFe, Lw.hd])
          · exact th_tail T (by omega) (by omega) (.need (e_less (by decide) (by decide) (by decide) (by decide))) (by simp [St.isFe, Lw.hd])
        · simp [b__law_thread, e1, hs, hi, hm, e2, e3, e4, o_nin, hf, fe_any T.wf, hq, e5, hA, dL_app, dL]
      | false =>
        obtain ⟨d, c5, hd, g5, e5⟩ := some_ (n + 3) c4 [.tuple [.str "set", .int t, x], .tuple [.str "need", .tuple [.str "less", .tuple [.str "reg", .int 0], .tuple [.str "num", .int 3]]], .tuple [.str "fence"]] g4 (by simp) (by simp)
        refine ⟨ss ++ [.pl d], c5, g5, ?_, ?_⟩
        · simp at hd
          rcases hd with rfl | rfl | rfl
          · exact th_tail T (by omega) (by omega) (.set t0 (by omega) ix) (by simp [St.isFe, Lw.hd])
          · exact th_tail T (by omega) (by omega) (.need (e_less (by decide) (by decide) (by decide) (by decide))) (by simp [St.isFe, Lw.hd])
          · exact th_tail T (by omega) (by omega) .fence (fun _ => hq)
        · simp [b__law_thread, e1, hs, hi, hm, e2, e3, e4, o_nin, hf, fe_any T.wf, hq, e5, hA, dL_app, dL]
    · refine ⟨ss, c2, g2, base, ?_⟩
      simp [b__law_thread, e1, hs, hi, hm, e2, show (w == 0) = false by simp [hw]]
  · refine ⟨ss, c1, g1, base, ?_⟩
    simp [b__law_thread, e1, hs, hi, hm]
end Lw
end
section
set_option Elab.async false
set_option linter.all false
set_option maxRecDepth 100000
namespace Lw
open PySem FE
theorem cutTo (d : List D) (k : Nat) (h : k ≤ d.length) : cutD d none (some (k : Int)) = d.take k := by
  unfold cutD
  rw [HT.sIx_nat, Nat.min_eq_left h]
  show List.take (k - 0) (d.drop 0) = _
  simp
theorem cutOf (d : List D) (k : Nat) (h : k ≤ d.length) : cutD d (some (k : Int)) none = d.drop k := by
  unfold cutD
  rw [HT.sIx_nat, Nat.min_eq_left h]
  show List.take (d.length - k) (d.drop k) = _
  rw [List.take_of_length_le (by simp)]
structure Ms (t : Nat) (s : Int) (ms : List Int) : Prop where
  len : ms.length = t
  pos : ∀ x ∈ ms, 1 ≤ x
  sum : ms.sum = s
abbrev mI (ms : List Int) : D := .list (ms.map .int)
theorem ms_step {t : Nat} {s : Int} {ms : List Int} (h : Ms t s ms) (k : Nat) (hk : k < ms.length) : Ms t (s + 1) (ms.take k ++ [ms[k] + 1] ++ ms.drop (k + 1)) := by
  have e : ms = ms.take k ++ ms[k] :: ms.drop (k + 1) := by
    rw [← List.drop_eq_getElem_cons hk, List.take_append_drop]
  refine ⟨?_, ?_, ?_⟩
  · have := h.len
    simp
    omega
  · intro x hx
    simp only [List.mem_append, List.mem_singleton] at hx
    rcases hx with (hx | rfl) | hx
    · exact h.pos x (List.mem_of_mem_take hx)
    · have := h.pos ms[k] (List.getElem_mem hk); omega
    · exact h.pos x (List.mem_of_mem_drop hx)
  · have := h.sum
    rw [e, List.sum_append, List.sum_cons] at this
    rw [List.sum_append, List.sum_append, ← this]
    simp
    omega
theorem pg_turn (n : Nat) (c : D) (A cells : D) (t : Nat) (s : Int) (ms : List Int) (g : GC c) (M : Ms t s ms) (t0 : 0 < t) (t1 : t ≤ 3) (s5 s6 s7 : Slot) : ∃ c' ms' s6', GC c' ∧ Ms t (s + 1) ms' ∧
    fb1__law_program (S (n + 1)) [.pa c, .sh A, .sh (.int t), .sh cells, .ow (mI ms), s5, s6, s7] = .ok .nx [.pa c', .sh A, .sh (.int t), .sh cells, .ow (mI ms'), s5, s6', s7] := by
  obtain ⟨r, c1, g1, r0, r1, e1⟩ := roll n c t g (by omega) (by omega)
  obtain ⟨k, rfl⟩ : ∃ k : Nat, r = k := ⟨r.toNat, by omega⟩
  have hl := M.len
  have hk : k < ms.length := by omega
  refine ⟨c1, _, .sh (.int k), g1, ms_step M k hk, ?_⟩
  have q : at_ (ms.map PyData.int) (k : Int) = some (.int ms[k]) := by
    rw [at_k _ _ (by omega) (by simp; omega)]
    simp [hk]
  have q1 : cutD (ms.map PyData.int) none (some (k : Int)) = (ms.take k).map .int := by rw [cutTo _ _ (by simp; omega), List.map_take]
  have q2 : cutD (ms.map PyData.int) (some ((k : Int) + 1)) none = (ms.drop (k + 1)).map .int := by
    rw [show ((k : Int) + 1) = ((k + 1 : Nat) : Int) by omega, cutOf _ _ (by simp; omega), List.map_drop]
  have l1 : min k ms.length ≤ 999999 := by omega
  have l2 : min k ms.length + 1 + (ms.length - (k + 1)) ≤ 1000000 := by omega
  simp [fb1__law_program, e1, q, q1, q2, l1, l2, mI]
theorem pg_loop (n : Nat) (A cells : D) (t : Nat) (t0 : 0 < t) (t1 : t ≤ 3) (s7 : Slot) : ∀ (ds : List D) (c : D) (s : Int) (ms : List Int) (s5 s6 : Slot), GC c → Ms t s ms → ∃ c' ms' s5' s6', GC c' ∧ Ms t (s + ds.length) ms' ∧
    sLoop (gN 5) (fb1__law_program (S (n + 1))) ds [.pa c, .sh A, .sh (.int t), .sh cells, .ow (mI ms), s5, s6, s7] = .ok .nx [.pa c', .sh A, .sh (.int t), .sh cells, .ow (mI ms'), s5', s6', s7]
  | [], c, s, ms, s5, s6, g, M => ⟨c, ms, s5, s6, g, by simpa using M, rfl⟩
  | d :: ds, c, s, ms, s5, s6, g, M => by
    obtain ⟨c1, m1, u6, g1, M1, e1⟩ := pg_turn n c A cells t s ms g M t0 t1 (.sh d) s6 s7
    obtain ⟨c2, m2, v5, v6, g2, M2, e2⟩ := pg_loop n A cells t t0 t1 s7 ds c1 (s + 1) m1 (.sh d) u6 g1 M1
    refine ⟨c2, m2, v5, v6, g2, ?_, ?_⟩
    · have : s + ((d :: ds).length : Int) = s + 1 + ds.length := by simp; omega
      rw [this]
      exact M2
    · rw [x_loop1]
      simp [e1]
      exact e2
structure Pb (p : List (List St)) (t s : Nat) : Prop where
  len : p.length = t
  wf : ∀ b ∈ p, ∀ s ∈ b, Wf 2 s
  sz : ∀ b ∈ p, szL b ≤ 12
  ac : ((every p).filter St.isAc).length = s
  fe : ((every p).filter St.isFe).length ≤ s
theorem Pb.cons {p : List (List St)} {t s m : Nat} {b : List St} (B : Tb m b) (h : Pb p t s) : Pb (b :: p) (t + 1) (m + s) :=
  ⟨by simp [h.len], by simp; exact ⟨B.wf, h.wf⟩, by simp; exact ⟨B.sz, h.sz⟩, by
    have a := B.ac; have c := h.ac
    simp only [every, List.flatMap_cons, List.filter_append, List.length_append, nAc] at *
    omega, by
    have a := B.fe; have c := h.fe
    simp only [every, List.flatMap_cons, List.filter_append, List.length_append, nFe] at *
    omega⟩
theorem pg_comp (n : Nat) (A cells : Int) (h1 : 1 ≤ cells) (h2 : cells ≤ 2) (s1 s2 s4 s5 s6 : Slot) : ∀ (ms : List Int) (c : D) (acc : List D), GC c → (∀ x ∈ ms, 1 ≤ x ∧ x ≤ 6) → ∃ c' p, GC c' ∧ Pb p ms.length ms.sum.toNat ∧ 0 ≤ ms.sum ∧
    cLoop (gN 7) [7] (cItem tYesS (ce1__law_program (S (n + 6)))) (ms.map .int) acc [.pa c, s1, s2, .sh (.int cells), s4, s5, s6, .un] = .ok (acc ++ p.map bD) [.pa c', s1, s2, .sh (.int cells), s4, s5, s6, .un]
  | [], c, acc, g, _ => ⟨c, [], g, ⟨rfl, by simp, by simp, by simp [every], by simp [every]⟩, by simp, by simp⟩
  | m :: ms, c, acc, g, hm => by
    have hm1 := hm m (by simp)
    obtain ⟨ss, c1, g1, T, e1⟩ := thread n c m cells g hm1.1 hm1.2 h1 h2
    obtain ⟨c2, p, g2, P, s0, e2⟩ := pg_comp n A cells h1 h2 s1 s2 s4 s5 s6 ms c1 (acc ++ [bD ss]) g1 (fun x hx => hm x (by simp [hx]))
    refine ⟨c2, ss :: p, g2, ?_, ?_, ?_⟩
    · have : (m :: ms).sum.toNat = m.toNat + ms.sum.toNat := by rw [List.sum_cons]; omega
      rw [this]
      exact .cons T P
    · rw [List.sum_cons]; omega
    · rw [List.map_cons, x_cl1]
      simp [ce1__law_program, e1]
      simpa [ce1__law_program] using e2
theorem sum_le : ∀ (ms : List Int), (∀ x ∈ ms, 1 ≤ x) → 0 ≤ ms.sum ∧ ∀ x ∈ ms, x ≤ ms.sum
  | [], _ => by simp
  | m :: ms, h => by
    have ⟨a, b⟩ := sum_le ms (fun x hx => h x (by simp [hx]))
    have h1 := h m (by simp)
    rw [List.sum_cons]
    refine ⟨by omega, ?_⟩
    intro x hx
    simp at hx
    rcases hx with rfl | hx
    · omega
    · have := b x hx; omega
theorem sum_le2 : ∀ (ms : List Int), (∀ x ∈ ms, 1 ≤ x) → ∀ x ∈ ms, x + ((ms.length : Int) - 1) ≤ ms.sum
  | [], _, x, h => by cases h
  | m :: ms, h, x, hx => by
    have h1 := h m (by simp)
    have g : ∀ (l : List Int), (∀ y ∈ l, 1 ≤ y) → (l.length : Int) ≤ l.sum := fun l => by
      induction l with
      | nil => intro _; simp
      | cons y l ih =>
        intro q
        have a := q y (by simp)
        have b := ih fun z hz => q z (by simp [hz])
        simp
        omega
    have g1 := g ms fun y hy => h y (by simp [hy])
    have hm := fun y hy => sum_le2 ms (fun z hz => h z (by simp [hz])) y hy
    simp at hx
    simp
    rcases hx with rfl | hx
    · omega
    · have := hm x hx
      omega
theorem pg_key (n : Nat) (c2 : D) (A cells : Int) (t : Nat) (ht : t = 2 ∨ t = 3) (g2 : GC c2) (h2 : 2 ≤ A) (h6 : A ≤ 7) (k1 : 1 ≤ cells) (k2 : cells ≤ 2) : ∃ p c' u2 u3 u4 u5 u6 u7, Pr p ∧ 2 ≤ p.length ∧ GC c' ∧ ((sSeq (sAsg 4 (eMulL (a2 (eLst (aCons (eC (.int 1)) (aNil))) (eV 2)))) (sSeq (sFor (iR1 (eN gSub (a2 (eV 1) (eV 2)))) (gN 5) (fb1__law_program (S (n + 6)))) (sRet (eN gTuple (aCons (cm1__law_program (S (n + 6))) (aNil)))))) [.pa c2, .sh (.int A), .sh (.int t), .sh (.int cells), .un, .un, .un, .un]) = .ok (.rt (.sh (pD p))) [.pa c', .sh (.int A), u2, u3, u4, u5, u6, u7] := by
  have M0 : Ms t t (List.replicate t 1) := ⟨by simp, by simp, by rcases ht with rfl | rfl <;> decide⟩
  obtain ⟨c3, ms, u5, u6, g3, M, e3⟩ := pg_loop (n + 5) (.int A) (.int cells) t (by omega) (by omega) .un (intsD 0 (A - t).toNat) c2 t _ .un .un g2 M0
  rw [intsD_len] at M
  have hs := sum_le ms M.pos
  have hsum := M.sum
  have hS : ms.sum ≤ 7 := by omega
  obtain ⟨c4, p, g4, P, s0, e4⟩ := pg_comp n A cells k1 k2 (.sh (.int A)) (.sh (.int t)) (.sh (mI ms)) u5 u6 ms c3 [] g3 (fun x hx => ⟨M.pos x hx, by have := sum_le2 ms M.pos x hx; have := M.len; omega⟩)
  have hl := M.len
  have hL : (ms.map PyData.int).length ≤ 1000000 := by simp; omega
  have pl := P.len
  refine ⟨p, c4, .sh (.int t), .sh (.int cells), .sh (mI ms), u5, u6, .un, ⟨by omega, by omega, P.wf, P.sz, by have := P.ac; omega, by have := P.fe; omega⟩, by omega, g4, ?_⟩
  have hm : -(2 ^ 63) ≤ (t : Int) ∧ (t : Int) < 2 ^ 63 ∧ [PyData.int 1].length * (t : Int).toNat ≤ 1000000 := by simp; omega
  have hr : -(2 ^ 62) ≤ A - (t : Int) ∧ A - (t : Int) < 2 ^ 62 := by omega
  have q1 : (List.replicate (t : Int).toNat [PyData.int 1]).flatten = (List.replicate t 1).map PyData.int := by
    rcases ht with rfl | rfl <;> rfl
  simp only [mI] at e3 e4
  have r2 : eMulL (a2 (eLst (aCons (eC (.int 1)) (aNil))) (eV 2)) [.pa c2, .sh (.int A), .sh (.int t), .sh (.int cells), .un, .un, .un, .un] = .ok (.fr (.list (List.replicate t (.int 1)))) [.pa c2, .sh (.int A), .sh (.int t), .sh (.int cells), .un, .un, .un, .un] := by
    have h1 : (a2 (eLst (aCons (eC (.int 1)) (aNil))) (eV 2)) [.pa c2, .sh (.int A), .sh (.int t), .sh (.int cells), .un, .un, .un, .un] = .ok [.fr (.list [.int 1]), .lt 2] [.pa c2, .sh (.int A), .sh (.int t), .sh (.int cells), .un, .un, .un, .un] := by simp
    have h2 : (Vl.lt 2).get [.pa c2, .sh (.int A), .sh (.int t), .sh (.int cells), .un, .un, .un, .un] = some (.int t) := rfl
    have h3 : ∀ (vs : List Vl) (e : En), (R.ok vs e).bind mlK = mlK vs e := fun _ _ => rfl
    rw [x_eMulL, h1, h3, x_mlK, h2, x_mlK2 _ _ _ hm, q1, List.map_replicate]
  simp at e3
  have r3 : (sSeq (sFor (iR1 (eN gSub (a2 (eV 1) (eV 2)))) (gN 5) (fb1__law_program (S (n + 6)))) (sRet (eN gTuple (aCons (cm1__law_program (S (n + 6))) (aNil))))) [.pa c2, .sh (.int A), .sh (.int t), .sh (.int cells), .ow (.list (List.replicate t (.int 1))), .un, .un, .un] = .ok (.rt (.sh (pD p))) [.pa c4, .sh (.int A), .sh (.int t), .sh (.int cells), .sh (mI ms), u5, u6, .un] := by
    simp [x_r1K _ _ hr]
    simp [e3, cm1__law_program, x_coK _ _ _ _ _ _ hL, e4]
    simp only [pD]
  have r4 : (sAsg 4 (eMulL (a2 (eLst (aCons (eC (.int 1)) (aNil))) (eV 2)))) [.pa c2, .sh (.int A), .sh (.int t), .sh (.int cells), .un, .un, .un, .un] = .ok .nx [.pa c2, .sh (.int A), .sh (.int t), .sh (.int cells), .ow (.list (List.replicate t (.int 1))), .un, .un, .un] := by
    rw [x_sAsg, r2]
    simp
  rw [x_sSeq, r4]
  exact r3
theorem program (n : Nat) (c : D) (A : Int) (g : GC c) (h2 : 2 ≤ A) (h6 : A ≤ 7) : ∃ p c', Pr p ∧ 2 ≤ p.length ∧ GC c' ∧ b__law_program (S (n + 6)) [.pa c, .sh (.int A)] = .ok (.sh (pD p)) [.pa c', .sh (.int A)] := by
  obtain ⟨r, c1, g1, r0, r1, e1⟩ := roll (n + 5) c 4 g (by decide) (by decide)
  obtain ⟨d, c2, hd, g2, e2⟩ := some_ (n + 4) c1 [.int 1, .int 2, .int 2, .int 2] g1 (by simp) (by simp)
  have hc : ∃ cells : Int, d = .int cells ∧ 1 ≤ cells ∧ cells ≤ 2 := by
    simp at hd
    rcases hd with rfl | rfl
    · exact ⟨1, rfl, by decide, by decide⟩
    · exact ⟨2, rfl, by decide, by decide⟩
  obtain ⟨cells, rfl, k1, k2⟩ := hc
  by_cases hr : r = 0
  · subst hr
    obtain ⟨p, c', u2, u3, u4, u5, u6, u7, P, P2, g', e⟩ := pg_key n c2 A cells 3 (.inr rfl) g2 h2 h6 k1 k2
    refine ⟨p, c', P, P2, g', ?_⟩
    simp at e
    simp [b__law_program, e1, e2]
    simp [e]
  · obtain ⟨p, c', u2, u3, u4, u5, u6, u7, P, P2, g', e⟩ := pg_key n c2 A cells 2 (.inl rfl) g2 h2 h6 k1 k2
    refine ⟨p, c', P, P2, g', ?_⟩
    simp at e
    simp [b__law_program, e1, e2, show (r == 0) = false by simp [hr]]
    simp [e]
end Lw
end
section
set_option Elab.async false
set_option linter.all false
set_option maxRecDepth 100000
namespace Lw
open PySem FE
theorem ev_lisac (n : Nat) {k : Nat} (s : St) (h : Wf k s) : b__law_is_access (S n) [.sh s.d] = .ok (.sh (.bool s.isAc)) [.sh s.d] := by
  cases h with
  | ac h => cases h <;> simp [b__law_is_access, St.isAc, o_in, SeqAt.shaped, PyData.canLay0, PyData.canLayAll0, PyData.depth, PyData.depthAll, PyData.eqv]
  | pl h => cases h <;> simp [b__law_is_access, St.isAc, o_in, SeqAt.shaped, PyData.canLay0, PyData.canLayAll0, PyData.depth, PyData.depthAll, PyData.eqv]
  | ifs he hy hn ly ln => simp [b__law_is_access, St.isAc, St.d_ifs, o_in, SeqAt.shaped, PyData.canLay0, PyData.canLayAll0, PyData.depth, PyData.depthAll, PyData.eqv]
def apnd : D → Int → D
  | .tuple xs, f => .tuple (xs ++ [.int f])
  | d, _ => d
mutual
def nuS : St → Int → D × Int
  | .ac d, f => (apnd d f, f + 1)
  | .pl d, f => (d, f)
  | .ifs e ys ns, f => (.tuple [.str "if", e, .tuple (nuL ys f).1, .tuple (nuL ns (nuL ys f).2).1], (nuL ns (nuL ys f).2).2)
def nuL : List St → Int → List D × Int
  | [], f => ([], f)
  | s :: ss, f => ((nuS s f).1 :: (nuL ss (nuS s f).2).1, (nuL ss (nuS s f).2).2)
end
theorem nu_ac (d : D) (f : Int) : nuS (.ac d) f = (apnd d f, f + 1) := by simp [nuS]
theorem nu_pl (d : D) (f : Int) : nuS (.pl d) f = (d, f) := by simp [nuS]
theorem nu_ifs (e : D) (ys ns : List St) (f : Int) : nuS (.ifs e ys ns) f = (.tuple [.str "if", e, .tuple (nuL ys f).1, .tuple (nuL ns (nuL ys f).2).1], (nuL ns (nuL ys f).2).2) := by simp [nuS]
theorem nu_nil (f : Int) : nuL [] f = ([], f) := by simp [nuL]
theorem nu_cons (s : St) (ss : List St) (f : Int) : nuL (s :: ss) f = ((nuS s f).1 :: (nuL ss (nuS s f).2).1, (nuL ss (nuS s f).2).2) := by simp [nuL]
theorem nu_len : ∀ (ss : List St) (f : Int), (nuL ss f).1.length = ss.length
  | [], f => by simp [nu_nil]
  | s :: ss, f => by simp [nu_cons, nu_len ss]
theorem nu_one (n : Nat) (k : Nat)
    (rec : ∀ k', k = k' + 1 → ∀ (n : Nat) (ss : List St) (f : Int), (∀ s ∈ ss, Wf k' s) → ss.length ≤ 12 → b__law_numbered (S (n + k' + 1)) [.sh (bD ss), .sh (.int f)] = .ok (.sh (.tuple [.tuple (nuL ss f).1, .int (nuL ss f).2])) [.sh (bD ss), .sh (.int (nuL ss f).2)])
    (s : St) (h : Wf k s) (v : Slot) (f : Int) (acc : List D) (s4 s5 : Slot) (hl : acc.length < 1000) :
    ∃ s4' s5', fb1__law_numbered (S (n + k + 1)) [v, .sh (.int f), .ow (.list acc), .sh s.d, s4, s5] = .ok .nx [v, .sh (.int (nuS s f).2), .ow (.list (acc ++ [(nuS s f).1])), .sh s.d, s4', s5'] := by
  have i := ev_lisac (n + k) s h
  have hl' : acc.length + 1 ≤ 1000000 := by omega
  have hl3 : acc.length ≤ 999999 := by omega
  have hl2 : acc.length < 1000000 := by omega
  cases h with
  | @ac _ d h =>
    simp only [St.d_ac] at i ⊢
    refine ⟨s4, s5, ?_⟩
    cases h <;> simp [fb1__law_numbered, i, St.isAc, hl', hl3, nu_ac, apnd]
  | @pl _ d h =>
    simp only [St.d_pl] at i ⊢
    refine ⟨s4, s5, ?_⟩
    cases h <;> simp [fb1__law_numbered, i, St.isAc, hl2, nu_pl]
  | @ifs k e ys ns he hy hn ly ln =>
    have r1 := rec k rfl n ys f hy ly
    have r2 := rec k rfl n ns (nuL ys f).2 hn ln
    have ee : n + (k + 1) = n + k + 1 := by omega
    rw [← ee] at r1 r2
    refine ⟨.sh (.tuple (nuL ys f).1), .sh (.tuple (nuL ns (nuL ys f).2).1), ?_⟩
    rw [St.d_ifs] at i ⊢
    simp [fb1__law_numbered, i, St.isAc, hl2, nu_ifs, r1, r2]
theorem nu_loop (n : Nat) (k : Nat)
    (rec : ∀ k', k = k' + 1 → ∀ (n : Nat) (ss : List St) (f : Int), (∀ s ∈ ss, Wf k' s) → ss.length ≤ 12 → b__law_numbered (S (n + k' + 1)) [.sh (bD ss), .sh (.int f)] = .ok (.sh (.tuple [.tuple (nuL ss f).1, .int (nuL ss f).2])) [.sh (bD ss), .sh (.int (nuL ss f).2)])
    (v : Slot) : ∀ (ss : List St), (∀ s ∈ ss, Wf k s) → ∀ (f : Int) (acc : List D) (s3 s4 s5 : Slot), acc.length + ss.length ≤ 500 →
    ∃ s3' s4' s5', sLoop (gN 3) (fb1__law_numbered (S (n + k + 1))) (dL ss) [v, .sh (.int f), .ow (.list acc), s3, s4, s5] = .ok .nx [v, .sh (.int (nuL ss f).2), .ow (.list (acc ++ (nuL ss f).1)), s3', s4', s5']
  | [], _, f, acc, s3, s4, s5, _ => ⟨s3, s4, s5, by simp [dL, nu_nil]⟩
  | s :: ss, h, f, acc, s3, s4, s5, hl => by
    obtain ⟨t4, t5, h1⟩ := nu_one n k rec s (h s (by simp)) v f acc s4 s5 (by simp at hl; omega)
    obtain ⟨u3, u4, u5, h2⟩ := nu_loop n k rec v ss (fun x hx => h x (by simp [hx])) (nuS s f).2 (acc ++ [(nuS s f).1]) (.sh s.d) t4 t5 (by simp at hl ⊢; omega)
    refine ⟨u3, u4, u5, ?_⟩
    have e : dL (s :: ss) = s.d :: dL ss := by simp [dL]
    rw [e, x_loop1]
    simp [h1, h2, nu_cons]
theorem nu_ok : ∀ (k : Nat) (n : Nat) (ss : List St) (f : Int), (∀ s ∈ ss, Wf k s) → ss.length ≤ 12 → b__law_numbered (S (n + k + 1)) [.sh (bD ss), .sh (.int f)] = .ok (.sh (.tuple [.tuple (nuL ss f).1, .int (nuL ss f).2])) [.sh (bD ss), .sh (.int (nuL ss f).2)]
  | k, n, ss, f, h, hl => by
    obtain ⟨a, b, c, hw⟩ := nu_loop n k (fun k' e => by subst e; exact nu_ok k') (.sh (bD ss)) ss h f [] .un .un .un (by simp; omega)
    simp at hw
    simp [b__law_numbered, hw]
def nuP : List (List St) → Int → List D
  | [], _ => []
  | b :: p, f => .tuple (nuL b f).1 :: nuP p (nuL b f).2
theorem nut_loop (n : Nat) (v : Slot) : ∀ (q : List (List St)), (∀ b ∈ q, (∀ s ∈ b, Wf 2 s) ∧ b.length ≤ 12) → ∀ (f : Int) (acc : List D) (s3 s4 : Slot), acc.length + q.length ≤ 1000 →
    ∃ f' s3' s4', sLoop (gN 3) (fb1__law_threads (S (n + 4))) (q.map bD) [v, .ow (.list acc), .sh (.int f), s3, s4] = .ok .nx [v, .ow (.list (acc ++ nuP q f)), .sh (.int f'), s3', s4']
  | [], _, f, acc, s3, s4, _ => ⟨f, s3, s4, by simp [nuP]⟩
  | b :: q, h, f, acc, s3, s4, hl => by
    have hb := h b (by simp)
    have r := nu_ok 2 n b f hb.1 hb.2
    obtain ⟨f', u3, u4, h2⟩ := nut_loop n v q (fun x hx => h x (by simp [hx])) (nuL b f).2 (acc ++ [.tuple (nuL b f).1]) (.sh (bD b)) (.sh (.tuple (nuL b f).1)) (by simp at hl ⊢; omega)
    have hl' : acc.length < 1000000 := by simp at hl; omega
    have hb1 : fb1__law_threads (S (n + 4)) [v, .ow (.list acc), .sh (.int f), .sh (bD b), s4] = .ok .nx [v, .ow (.list (acc ++ [.tuple (nuL b f).1])), .sh (.int (nuL b f).2), .sh (bD b), .sh (.tuple (nuL b f).1)] := by
      simp [fb1__law_threads, r, hl']
    refine ⟨f', u3, u4, ?_⟩
    rw [List.map_cons, x_loop1]
    simp [hb1, h2, nuP]
theorem ev_nut (n : Nat) (p : List (List St)) (h : ∀ b ∈ p, (∀ s ∈ b, Wf 2 s) ∧ b.length ≤ 12) (hl : p.length ≤ 4) : b__law_threads (S (n + 4)) [.sh (pD p)] = .ok (.fr (.list (nuP p 0))) [.sh (pD p)] := by
  obtain ⟨f', a, b, hw⟩ := nut_loop n (.sh (pD p)) p h 0 [] .un .un (by simp; omega)
  have e : pD p = .tuple (p.map bD) := rfl
  rw [e] at hw ⊢
  simp at hw
  simp [b__law_threads, hw]
end Lw
end
section
set_option Elab.async false
set_option linter.all false
set_option maxRecDepth 100000
namespace Lw
open PySem FE
/-! ### registers, worths -/
abbrev rD (a b c : Int) : D := .tuple [.int a, .int b, .int c]
def Rg (r : D) : Prop := ∃ a b c : Int, r = rD a b c ∧ (0 ≤ a ∧ a ≤ 15) ∧ (0 ≤ b ∧ b ≤ 15) ∧ (0 ≤ c ∧ c ≤ 15)
theorem Rg.nice {r : D} (h : Rg r) : Nice 1 r := by
  obtain ⟨a, b, c, rfl, _⟩ := h
  exact nice_tup (k := 0) (by intro x hx; simp at hx; rcases hx with rfl | rfl | rfl <;> exact nice_int _ _)
theorem mod16 (x : Int) : 0 ≤ x % 16 ∧ x % 16 ≤ 15 := ⟨Int.emod_nonneg _ (by decide), by have := Int.emod_lt_of_pos x (show (0:Int) < 16 by decide); omega⟩
theorem worth2 {r : D} (hr : Rg r) {k s : Nat} {d : D} (h : IsEx k s d) : ∃ v : Int, 0 ≤ v ∧ v ≤ 15 ∧ (∀ n, b_worth_by (S (n + k)) [.sh d, .sh r] = .ok (.sh (.int v)) [.sh d, .sh r]) ∧ (∀ n, b__law_worth (S (n + k)) [.sh d, .sh r] = .ok (.sh (.int v)) [.sh d, .sh r]) := by
  induction h with
  | @num k v h1 h2 => exact ⟨v, h1, h2, fun n => by unfold b_worth_by; simp, fun n => by unfold b__law_worth; simp⟩
  | @reg k v h1 h2 =>
    obtain ⟨a, b, c, rfl, ha, hb, hc⟩ := hr
    rcases (show v = 0 ∨ v = 1 ∨ v = 2 by omega) with rfl | rfl | rfl
    · exact ⟨a, ha.1, ha.2, fun n => by unfold b_worth_by; simp, fun n => by unfold b__law_worth; simp⟩
    · exact ⟨b, hb.1, hb.2, fun n => by unfold b_worth_by; simp, fun n => by unfold b__law_worth; simp⟩
    · exact ⟨c, hc.1, hc.2, fun n => by unfold b_worth_by; simp, fun n => by unfold b__law_worth; simp⟩
  | @op k s1 s2 w a b hw ha hb iha ihb =>
    obtain ⟨x, x0, x1, ex, lx⟩ := iha
    obtain ⟨y, y0, y1, ey, ly⟩ := ihb
    have gm := o_mul x y (.inl ⟨by omega, by omega⟩)
    have S1 : ∀ n, S (n + (k + 1)) = S (n + k + 1) := fun n => rfl
    rcases worked_cases hw with rfl | rfl | rfl | rfl | rfl
    · exact ⟨(x + y) % 16, (mod16 _).1, (mod16 _).2, fun n => by rw [S1]; unfold b_worth_by; simp [ex, ey, k_VALUES], fun n => by rw [S1]; unfold b__law_worth; simp [lx, ly, o_in, SeqAt.shaped, PyData.canLay0, PyData.canLayAll0, PyData.depth, PyData.depthAll, PyData.eqv]⟩
    · exact ⟨(x - y) % 16, (mod16 _).1, (mod16 _).2, fun n => by rw [S1]; unfold b_worth_by; simp [ex, ey, k_VALUES], fun n => by rw [S1]; unfold b__law_worth; simp [lx, ly, o_in, SeqAt.shaped, PyData.canLay0, PyData.canLayAll0, PyData.depth, PyData.depthAll, PyData.eqv]⟩
    · exact ⟨(x * y) % 16, (mod16 _).1, (mod16 _).2, fun n => by rw [S1]; unfold b_worth_by; simp [ex, ey, k_VALUES, gm], fun n => by rw [S1]; unfold b__law_worth; simp [lx, ly, gm, o_in, SeqAt.shaped, PyData.canLay0, PyData.canLayAll0, PyData.depth, PyData.depthAll, PyData.eqv]⟩
    · by_cases hq : x = y
      · exact ⟨1, by decide, by decide, fun n => by rw [S1]; unfold b_worth_by; simp [ex, ey, hq], fun n => by rw [S1]; unfold b__law_worth; simp [lx, ly, hq, o_in, SeqAt.shaped, PyData.canLay0, PyData.canLayAll0, PyData.depth, PyData.depthAll, PyData.eqv]⟩
      · have hq' : (x == y) = false := by simp [hq]
        exact ⟨0, by decide, by decide, fun n => by rw [S1]; unfold b_worth_by; simp [ex, ey, hq'], fun n => by rw [S1]; unfold b__law_worth; simp [lx, ly, hq', o_in, SeqAt.shaped, PyData.canLay0, PyData.canLayAll0, PyData.depth, PyData.depthAll, PyData.eqv]⟩
    · by_cases hq : x < y
      · exact ⟨1, by decide, by decide, fun n => by rw [S1]; unfold b_worth_by; simp [ex, ey, hq], fun n => by rw [S1]; unfold b__law_worth; simp [lx, ly, hq, o_in, SeqAt.shaped, PyData.canLay0, PyData.canLayAll0, PyData.depth, PyData.depthAll, PyData.eqv]⟩
      · exact ⟨0, by decide, by decide, fun n => by rw [S1]; unfold b_worth_by; simp [ex, ey, hq], fun n => by rw [S1]; unfold b__law_worth; simp [lx, ly, hq, o_in, SeqAt.shaped, PyData.canLay0, PyData.canLayAll0, PyData.depth, PyData.depthAll, PyData.eqv]⟩
theorem worthE {r : D} (hr : Rg r) {d : D} (h : IsE d) : ∃ v : Int, 0 ≤ v ∧ v ≤ 15 ∧ (∀ n, b_worth_by (S (n + 4)) [.sh d, .sh r] = .ok (.sh (.int v)) [.sh d, .sh r]) ∧ (∀ n, b__law_worth (S (n + 4)) [.sh d, .sh r] = .ok (.sh (.int v)) [.sh d, .sh r]) := by
  cases h with
  | mk h _ => exact worth2 hr h
/-! ### another item at one place -/
@[simp] theorem c3a (a b c : D) : cutD [a, b, c] none (some 0) = [] := rfl
@[simp] theorem c3b (a b c : D) : cutD [a, b, c] none (some 1) = [a] := rfl
@[simp] theorem c3c (a b c : D) : cutD [a, b, c] none (some 2) = [a, b] := rfl
@[simp] theorem cut1n (d : List D) : cutD d (some 1) none = d.tail := by
  cases d with
  | nil => rfl
  | cons a r =>
    unfold cutD
    have h : HT.sIx (a :: r).length 0 (some 1) = 1 := by unfold HT.sIx; simp
    have h2 : HT.sIx (a :: r).length (a :: r).length none = (a :: r).length := rfl
    rw [h, h2, List.take_of_length_le (by simp)]
    rfl
@[simp] theorem c3e (a b c : D) : cutD [a, b, c] (some 2) none = [c] := rfl
@[simp] theorem c3f (a b c : D) : cutD [a, b, c] (some 3) none = [] := rfl
theorem reg2 {r : D} (hr : Rg r) {i v : Int} (i0 : 0 ≤ i) (i2 : i ≤ 2) (v0 : 0 ≤ v) (v1 : v ≤ 15) : ∃ r', Rg r' ∧ (∀ c, b_with_register c [.sh r, .sh (.int i), .sh (.int v)] = .ok (.sh r') [.sh r, .sh (.int i), .sh (.int v)]) ∧
    (∃ x y z, r = .tuple x ∧ cutD x none (some i) = y ∧ cutD x (some (i + 1)) none = z ∧ r' = .tuple (y ++ [.int v] ++ z) ∧ y.length + 1 ≤ 1000000 ∧ y.length + 1 + z.length ≤ 1000000) := by
  obtain ⟨a, b, c, rfl, ha, hb, hc⟩ := hr
  rcases (show i = 0 ∨ i = 1 ∨ i = 2 by omega) with rfl | rfl | rfl
  · exact ⟨rD v b c, ⟨_, _, _, rfl, ⟨v0, v1⟩, hb, hc⟩, fun n => by simp [b_with_register], _, _, _, rfl, rfl, rfl, by simp, by simp, by simp⟩
  · exact ⟨rD a v c, ⟨_, _, _, rfl, ha, ⟨v0, v1⟩, hc⟩, fun n => by simp [b_with_register], _, _, _, rfl, rfl, rfl, by simp, by simp, by simp⟩
  · exact ⟨rD a b v, ⟨_, _, _, rfl, ha, hb, ⟨v0, v1⟩⟩, fun n => by simp [b_with_register], _, _, _, rfl, rfl, rfl, by simp, by simp, by simp⟩
end Lw
end
section
set_option Elab.async false
set_option linter.all false
set_option maxRecDepth 100000
namespace Lw
open PySem FE
variable {N : Int}
/-! ### statements with numbers behind the accesses -/
inductive WfN (N : Int) : Nat → St → Prop
  | ac {k : Nat} {xs : List D} {i : Int} : IsAc (.tuple xs) → 0 ≤ i → i < N → WfN N k (.ac (.tuple (xs ++ [.int i])))
  | pl {k : Nat} {d : D} : IsPl d → WfN N k (.pl d)
  | ifs {k : Nat} {e : D} {ys ns : List St} : IsE e → (∀ y ∈ ys, WfN N k y) → (∀ y ∈ ns, WfN N k y) → WfN N (k + 1) (.ifs e ys ns)
theorem WfN.up {k : Nat} {s : St} (h : WfN N k s) : WfN N (k + 1) s := by
  induction h with
  | ac h a b => exact .ac h a b
  | pl h => exact .pl h
  | ifs he hy hn ihy ihn => exact .ifs he ihy ihn
theorem nice_app {k : Nat} {xs : List D} {i : Int} (h : Nice (k + 1) (.tuple xs)) : Nice (k + 1) (.tuple (xs ++ [.int i])) := by
  have h1 : ∀ ys : List D, PyData.canLayAll0 ys = true → PyData.canLayAll0 (ys ++ [.int i]) = true := by
    intro ys
    induction ys with
    | nil => intro _; simp [PyData.canLayAll0, PyData.canLay0]
    | cons y ys ih => intro q; simp [PyData.canLayAll0] at q ⊢; exact ⟨q.1, ih q.2⟩
  have h2 : ∀ ys : List D, PyData.depthAll (ys ++ [.int i]) = PyData.depthAll ys := by
    intro ys
    induction ys with
    | nil => simp [PyData.depthAll, PyData.depth]
    | cons y ys ih => simp [PyData.depthAll, ih]
  refine ⟨?_, ?_⟩
  · have := h.1
    simp only [PyData.canLay0] at this ⊢
    exact h1 _ this
  · have := h.2
    simp only [PyData.depth] at this ⊢
    rw [h2]
    exact this
theorem WfN.nice {k : Nat} {s : St} (h : WfN N k s) : Nice (5 + 2 * k) s.d := by
  induction h with
  | ac h => exact (by simpa using (nice_app (k := 4) h.nice).mono (by omega))
  | pl h => exact (by simpa using h.nice.mono (by omega))
  | @ifs k e ys ns he hy hn ihy ihn =>
    rw [St.d_ifs]
    have e1 : ∀ x ∈ dL ys, Nice (5 + 2 * k) x := by intro x hx; rw [dL_map] at hx; obtain ⟨y, hy1, rfl⟩ := List.mem_map.mp hx; exact ihy y hy1
    have e2 : ∀ x ∈ dL ns, Nice (5 + 2 * k) x := by intro x hx; rw [dL_map] at hx; obtain ⟨y, hy1, rfl⟩ := List.mem_map.mp hx; exact ihn y hy1
    exact (nice_tup (k := 5 + 2 * k + 1) (by intro x hx; simp at hx; rcases hx with rfl | rfl | rfl | rfl; exact nice_str (by simp); exact he.nice.mono (by omega); exact nice_tup e1; exact nice_tup e2)).mono (by omega)
theorem wfn_nice {rs : List St} (h : ∀ s ∈ rs, WfN N 2 s) : Nice 10 (.tuple (dL rs)) := nice_tup (by
  intro x hx
  rw [dL_map] at hx
  obtain ⟨s, hs, rfl⟩ := List.mem_map.mp hx
  exact (h s hs).nice)
/-- done by itself -/
def St.go : St → Bool
  | .ac _ => false
  | .pl (.tuple (.str w :: _)) => !(w == "fence")
  | .pl _ => false
  | .ifs _ _ _ => true
def goL : List St → Bool
  | [] => false
  | s :: _ => s.go
def rsD : Option (List St) → D
  | none => .none
  | some rs => .tuple (dL rs)
structure Rst (N : Int) (a z : Nat) (o : Option (List St)) : Prop where
  wf : ∀ rs, o = some rs → (∀ s ∈ rs, WfN N 2 s) ∧ szL rs ≤ z ∧ nAc rs ≤ a ∧ goL rs = false
theorem Rst.mono {a z b y : Nat} {o : Option (List St)} (h : Rst N a z o) (h1 : a ≤ b) (h2 : z ≤ y) : Rst N b y o := ⟨fun rs e => by
  have := h.wf rs e
  exact ⟨this.1, by omega, by omega, this.2.2.2⟩⟩
def LoopOut (o : Option (List St)) (r : D) (c : Fl) (t : En) : Prop :=
  (∃ rs, o = some rs ∧ c = .nx ∧ ∃ ss, t = .sh (.tuple (dL rs)) :: .sh r :: ss) ∨ (o = none ∧ c = .rt (.sh (.tuple [.none, r])) ∧ ∃ x y ss, t = x :: y :: ss)
theorem st_condP (n : Nat) (rs : List St) (h : ∀ s ∈ rs, WfN N 2 s) (s1 s2 : Slot) : wc1_settled (S n) [.sh (.tuple (dL rs)), s1, s2] = .ok (goL rs) [.sh (.tuple (dL rs)), s1, s2] := by
  have hs := (wfn_nice h).sh
  cases rs with
  | nil => simp [wc1_settled, dL, goL]
  | cons s rs =>
    have g := o_net0 (dL (s :: rs)) hs
    simp only [dL] at g ⊢
    clear hs
    cases h s (by simp) with
    | @ac _ xs i hh => cases hh <;> simp at g <;> simp [wc1_settled, g, goL, St.go, o_in, SeqAt.shaped, PyData.canLay0, PyData.canLayAll0, PyData.depth, PyData.depthAll, PyData.eqv]
    | @pl _ d hh => cases hh <;> simp at g <;> simp [wc1_settled, g, goL, St.go, o_in, SeqAt.shaped, PyData.canLay0, PyData.canLayAll0, PyData.depth, PyData.depthAll, PyData.eqv]
    | @ifs _ e ys ns he hy hn => simp only [St.d_ifs] at g ⊢; simp at g; simp [wc1_settled, g, goL, St.go, o_in, SeqAt.shaped, PyData.canLay0, PyData.canLayAll0, PyData.depth, PyData.depthAll, PyData.eqv]
theorem st_condL (n : Nat) (rs : List St) (h : ∀ s ∈ rs, WfN N 2 s) (s1 s2 s3 : Slot) : wc1__law_settled (S n) [.sh (.tuple (dL rs)), s1, s2, s3] = .ok (goL rs) [.sh (.tuple (dL rs)), s1, s2, s3] := by
  have hs := (wfn_nice h).sh
  cases rs with
  | nil => simp [wc1__law_settled, dL, goL]
  | cons s rs =>
    have g := o_net0 (dL (s :: rs)) hs
    simp only [dL] at g ⊢
    clear hs
    cases h s (by simp) with
    | @ac _ xs i hh => cases hh <;> simp at g <;> simp [wc1__law_settled, g, goL, St.go, o_in, SeqAt.shaped, PyData.canLay0, PyData.canLayAll0, PyData.depth, PyData.depthAll, PyData.eqv]
    | @pl _ d hh => cases hh <;> simp at g <;> simp [wc1__law_settled, g, goL, St.go, o_in, SeqAt.shaped, PyData.canLay0, PyData.canLayAll0, PyData.depth, PyData.depthAll, PyData.eqv]
    | @ifs _ e ys ns he hy hn => simp only [St.d_ifs] at g ⊢; simp at g; simp [wc1__law_settled, g, goL, St.go, o_in, SeqAt.shaped, PyData.canLay0, PyData.canLayAll0, PyData.depth, PyData.depthAll, PyData.eqv]
abbrev WP (n fuel : Nat) : SS := sWhileN (wc1_settled (S (n + 5))) (wb1_settled (S (n + 5))) fuel
abbrev WL (n fuel : Nat) : SS := sWhileN (wc1__law_settled (S (n + 5))) (wb1__law_settled (S (n + 5))) fuel
/-- one turn of both loops -/
structure Turn (rs : List St) (r : D) (rs' : List St) (r' : D) : Prop where
  p : ∀ n s2, ∃ t2, wb1_settled (S (n + 5)) [.sh (.tuple (dL rs)), .sh r, s2] = .ok .nx [.sh (.tuple (dL rs')), .sh r', t2]
  l : ∀ n s2 s3, ∃ t2 t3, wb1__law_settled (S (n + 5)) [.sh (.tuple (dL rs)), .sh r, s2, s3] = .ok .nx [.sh (.tuple (dL rs')), .sh r', t2, t3]
structure Halt (rs : List St) (r : D) : Prop where
  p : ∀ n s2, ∃ x y ss, wb1_settled (S (n + 5)) [.sh (.tuple (dL rs)), .sh r, s2] = .ok (.rt (.sh (.tuple [.none, r]))) (x :: y :: ss)
  l : ∀ n s2 s3, ∃ x y ss, wb1__law_settled (S (n + 5)) [.sh (.tuple (dL rs)), .sh r, s2, s3] = .ok (.rt (.sh (.tuple [.none, r]))) (x :: y :: ss)
theorem t_need {e : D} (he : IsE e) (rs : List St) {r : D} (hr : Rg r) : Turn (.pl (.tuple [.str "need", e]) :: rs) r rs r ∨ Halt (.pl (.tuple [.str "need", e]) :: rs) r := by
  obtain ⟨v, v0, v1, ep, el⟩ := worthE hr he
  by_cases hv : v = 0
  · subst hv
    refine .inr ⟨fun n s2 => ⟨.sh (.tuple (dL (.pl (.tuple [.str "need", e]) :: rs))), .sh r, [.sh (.tuple [.str "need", e])], ?_⟩, fun n s2 s3 => ⟨.sh (.tuple (dL (.pl (.tuple [.str "need", e]) :: rs))), .sh r, [.sh (.tuple [.str "need", e]), .sh (.int 0)], ?_⟩⟩
    · simp [wb1_settled, dL, ep]
    · simp [wb1__law_settled, dL, el]
  · have hv' : (v == 0) = false := by simp [hv]
    refine .inl ⟨fun n s2 => ⟨.sh (.tuple [.str "need", e]), ?_⟩, fun n s2 s3 => ⟨.sh (.tuple [.str "need", e]), .sh (.int v), ?_⟩⟩
    · simp [wb1_settled, dL, ep, hv']
    · simp [wb1__law_settled, dL, el, hv']
theorem t_set {e : D} {i : Int} (i0 : 0 ≤ i) (i2 : i ≤ 2) (he : IsE e) (rs : List St) {r : D} (hr : Rg r) : ∃ r', Rg r' ∧ Turn (.pl (.tuple [.str "set", .int i, e]) :: rs) r rs r' := by
  obtain ⟨v, v0, v1, ep, el⟩ := worthE hr he
  obtain ⟨r', g, hp, x, y, z, rfl, h1, h2, rfl, l1, l2⟩ := reg2 hr i0 i2 v0 v1
  refine ⟨_, g, ⟨fun n s2 => ⟨.sh (.tuple [.str "set", .int i, e]), ?_⟩, fun n s2 s3 => ⟨.sh (.tuple [.str "set", .int i, e]), .sh (.int v), ?_⟩⟩⟩
  · simp at hp
    simp [wb1_settled, dL, ep, hp]
  · have l3 : y.length ≤ 999999 := by omega
    simp [wb1__law_settled, dL, el, h1, h2, l1, l2, l3]
theorem t_if {e : D} (he : IsE e) (ys ns rs : List St) {r : D} (hr : Rg r) (hl : szL (.ifs e ys ns :: rs) ≤ 500) : Turn (.ifs e ys ns :: rs) r (ys ++ rs) r ∨ Turn (.ifs e ys ns :: rs) r (ns ++ rs) r := by
  obtain ⟨v, v0, v1, ep, el⟩ := worthE hr he
  have z1 := szL_len ys
  have z2 := szL_len ns
  have z3 := szL_len rs
  simp only [szL, St.sz] at hl
  have m1 : (dL ys).length + (dL rs).length ≤ 1000000 := by rw [dL_map, dL_map]; simp; omega
  have m2 : (dL ns).length + (dL rs).length ≤ 1000000 := by rw [dL_map, dL_map]; simp; omega
  by_cases hv : v = 0
  · subst hv
    refine .inr ⟨fun n s2 => ⟨.sh (St.ifs e ys ns).d, ?_⟩, fun n s2 s3 => ⟨.sh (St.ifs e ys ns).d, .sh (.int 0), ?_⟩⟩
    · simp [wb1_settled, dL, ep, St.d_ifs, m2, dL_app]
    · simp [wb1__law_settled, dL, el, St.d_ifs, m2, dL_app]
  · have hv' : (v == 0) = false := by simp [hv]
    refine .inl ⟨fun n s2 => ⟨.sh (St.ifs e ys ns).d, ?_⟩, fun n s2 s3 => ⟨.sh (St.ifs e ys ns).d, .sh (.int v), ?_⟩⟩
    · simp [wb1_settled, dL, ep, St.d_ifs, m1, hv', dL_app]
    · simp [wb1__law_settled, dL, el, St.d_ifs, m1, hv', dL_app]
theorem nAc_cons (s : St) (rs : List St) : nAc (s :: rs) = (if s.isAc = true then 1 else 0) + nAc s.inn + nAc rs := by
  simp only [nAc, preL, pre_inn, List.filter_append, List.length_append]
  cases h : s.isAc <;> simp [h, List.filter_cons] <;> omega
def SetOk (N : Int) (rs : List St) (r : D) : Prop := ∃ o r', Rst N (nAc rs) (szL rs) o ∧ Rg r' ∧
  (∀ n fuel s2, szL rs < fuel → ∃ c t, LoopOut o r' c t ∧ WP n fuel [.sh (.tuple (dL rs)), .sh r, s2] = .ok c t) ∧
  (∀ n fuel s2 s3, szL rs < fuel → ∃ c t, LoopOut o r' c t ∧ WL n fuel [.sh (.tuple (dL rs)), .sh r, s2, s3] = .ok c t)
theorem s_stop {rs : List St} (hw : ∀ s ∈ rs, WfN N 2 s) (hg : goL rs = false) {r : D} (hr : Rg r) : SetOk N rs r := by
  refine ⟨some rs, r, ⟨fun q e => by cases e; exact ⟨hw, Nat.le_refl _, Nat.le_refl _, hg⟩⟩, hr, fun n fuel s2 hf => ?_, fun n fuel s2 s3 hf => ?_⟩
  · obtain ⟨f, rfl⟩ : ∃ f, fuel = f + 1 := ⟨fuel - 1, by omega⟩
    refine ⟨.nx, _, .inl ⟨rs, rfl, rfl, [s2], rfl⟩, ?_⟩
    show sWhileN _ _ _ _ = _
    rw [x_sWhileN, st_condP _ _ hw, hg]
    rfl
  · obtain ⟨f, rfl⟩ : ∃ f, fuel = f + 1 := ⟨fuel - 1, by omega⟩
    refine ⟨.nx, _, .inl ⟨rs, rfl, rfl, [s2, s3], rfl⟩, ?_⟩
    show sWhileN _ _ _ _ = _
    rw [x_sWhileN, st_condL _ _ hw, hg]
    rfl
theorem s_halt {rs : List St} (hw : ∀ s ∈ rs, WfN N 2 s) (hg : goL rs = true) {r : D} (hr : Rg r) (h : Halt rs r) : SetOk N rs r := by
  refine ⟨none, r, ⟨fun q e => by cases e⟩, hr, fun n fuel s2 hf => ?_, fun n fuel s2 s3 hf => ?_⟩
  · obtain ⟨f, rfl⟩ : ∃ f, fuel = f + 1 := ⟨fuel - 1, by omega⟩
    obtain ⟨x, y, ss, e⟩ := h.p n s2
    refine ⟨_, _, .inr ⟨rfl, rfl, x, y, ss, rfl⟩, ?_⟩
    show sWhileN _ _ _ _ = _
    rw [x_sWhileN, st_condP _ _ hw, hg]
    simp [e]
  · obtain ⟨f, rfl⟩ : ∃ f, fuel = f + 1 := ⟨fuel - 1, by omega⟩
    obtain ⟨x, y, ss, e⟩ := h.l n s2 s3
    refine ⟨_, _, .inr ⟨rfl, rfl, x, y, ss, rfl⟩, ?_⟩
    show sWhileN _ _ _ _ = _
    rw [x_sWhileN, st_condL _ _ hw, hg]
    simp [e]
theorem s_turn {rs rs' : List St} (hw : ∀ s ∈ rs, WfN N 2 s) (hg : goL rs = true) {r r' : D} (h : Turn rs r rs' r') (hz : szL rs' < szL rs) (ha : nAc rs' ≤ nAc rs) (k : SetOk N rs' r') : SetOk N rs r := by
  obtain ⟨o, q, R, hq, kp, kl⟩ := k
  refine ⟨o, q, R.mono ha (by omega), hq, fun n fuel s2 hf => ?_, fun n fuel s2 s3 hf => ?_⟩
  · obtain ⟨f, rfl⟩ : ∃ f, fuel = f + 1 := ⟨fuel - 1, by omega⟩
    obtain ⟨t2, e⟩ := h.p n s2
    obtain ⟨c, t, l, e2⟩ := kp n f t2 (by omega)
    refine ⟨c, t, l, ?_⟩
    show sWhileN _ _ _ _ = _
    rw [x_sWhileN, st_condP _ _ hw, hg]
    simp [e]
    exact e2
  · obtain ⟨f, rfl⟩ : ∃ f, fuel = f + 1 := ⟨fuel - 1, by omega⟩
    obtain ⟨t2, t3, e⟩ := h.l n s2 s3
    obtain ⟨c, t, l, e2⟩ := kl n f t2 t3 (by omega)
    refine ⟨c, t, l, ?_⟩
    show sWhileN _ _ _ _ = _
    rw [x_sWhileN, st_condL _ _ hw, hg]
    simp [e]
    exact e2
theorem settle : ∀ (T : Nat) (rs : List St) (r : D), szL rs ≤ T → szL rs ≤ 500 → (∀ s ∈ rs, WfN N 2 s) → Rg r → SetOk N rs r := by
  intro T
  induction T with
  | zero =>
    intro rs r hT h5 hw hr
    cases rs with
    | nil => exact s_stop hw rfl hr
    | cons s rs => have := s.sz_pos; simp only [szL] at hT; omega
  | succ T ih =>
    intro rs r hT h5 hw hr
    cases rs with
    | nil => exact s_stop hw rfl hr
    | cons s rs =>
      have hw' : ∀ s ∈ rs, WfN N 2 s := fun x hx => hw x (by simp [hx])
      have hsz : szL (s :: rs) = s.sz + szL rs := by simp [szL]
      have hp := s.sz_pos
      have hc := nAc_cons s rs
      cases hw s (by simp) with
      | ac h => exact s_stop hw rfl hr
      | @pl _ d h =>
        cases h with
        | fence => exact s_stop hw (by simp [goL, St.go]) hr
        | @need e he =>
          have hg : goL (.pl (.tuple [.str "need", e]) :: rs) = true := by simp [goL, St.go]
          rcases t_need he rs hr with t | t
          · exact s_turn hw hg t (by omega) (by omega) (ih rs r (by omega) (by omega) hw' hr)
          · exact s_halt hw hg hr t
        | @set i e i0 i2 he =>
          have hg : goL (.pl (.tuple [.str "set", .int i, e]) :: rs) = true := by simp [goL, St.go]
          obtain ⟨r', hr', t⟩ := t_set i0 i2 he rs hr
          exact s_turn hw hg t (by omega) (by omega) (ih rs r' (by omega) (by omega) hw' hr')
      | @ifs _ e ys ns he hy hn =>
        have hg : goL (.ifs e ys ns :: rs) = true := by simp [goL, St.go]
        have z1 := szL_app ys rs
        have z2 := szL_app ns rs
        have a1 := nAc_app ys rs
        have a2 := nAc_app ns rs
        have a3 := nAc_app ys ns
        simp only [St.sz, St.inn] at hsz hc
        rcases t_if he ys ns rs hr h5 with t | t
        · refine s_turn hw hg t (by omega) (by omega) (ih _ r (by omega) (by omega) ?_ hr)
          intro x hx
          rw [List.mem_append] at hx
          exact hx.elim (fun q => (hy x q).up) (hw' x)
        · refine s_turn hw hg t (by omega) (by omega) (ih _ r (by omega) (by omega) ?_ hr)
          intro x hx
          rw [List.mem_append] at hx
          exact hx.elim (fun q => (hn x q).up) (hw' x)
/-- both read the same -/
theorem settled2 {rs : List St} {r : D} (h5 : szL rs ≤ 500) (hw : ∀ s ∈ rs, WfN N 2 s) (hr : Rg r) : ∃ o r', Rst N (nAc rs) (szL rs) o ∧ Rg r' ∧
    (∀ n, ∃ f g, b_settled (S (n + 5)) [.sh (.tuple (dL rs)), .sh r] = .ok (.sh (.tuple [rsD o, r'])) [f, g]) ∧
    (∀ n, ∃ f g, b__law_settled (S (n + 5)) [.sh (.tuple (dL rs)), .sh r] = .ok (.sh (.tuple [rsD o, r'])) [f, g]) := by
  obtain ⟨o, r', R, hr', kp, kl⟩ := settle _ rs r (Nat.le_refl _) h5 hw hr
  refine ⟨o, r', R, hr', fun n => ?_, fun n => ?_⟩
  · obtain ⟨c, t, l, e⟩ := kp n wfuel .un (by unfold wfuel; omega)
    simp only [WP] at e
    rcases l with ⟨q, rfl, rfl, ss, rfl⟩ | ⟨rfl, rfl, x, y, ss, rfl⟩
    · exact ⟨.sh (.tuple (dL q)), .sh r', by simp [b_settled, sWhile, e, rsD]⟩
    · exact ⟨x, y, by simp [b_settled, sWhile, e, rsD]⟩
  · obtain ⟨c, t, l, e⟩ := kl n wfuel .un .un (by unfold wfuel; omega)
    simp only [WL] at e
    rcases l with ⟨q, rfl, rfl, ss, rfl⟩ | ⟨rfl, rfl, x, y, ss, rfl⟩
    · exact ⟨.sh (.tuple (dL q)), .sh r', by simp [b__law_settled, sWhile, e, rsD]⟩
    · exact ⟨x, y, by simp [b__law_settled, sWhile, e, rsD]⟩
end Lw
end
section
set_option Elab.async false
set_option linter.all false
set_option maxRecDepth 100000
namespace Lw
open PySem FE
variable {N : Int}
/-! ### the program's numbering is the law's -/
theorem pn_one (n : Nat) (k : Nat)
    (rec : ∀ k', k = k' + 1 → ∀ (n : Nat) (ss : List St) (f : Int), (∀ s ∈ ss, Wf k' s) → ss.length ≤ 12 → b_numbered_block (S (n + k' + 1)) [.sh (bD ss), .sh (.int f)] = .ok (.sh (.tuple [.tuple (nuL ss f).1, .int (nuL ss f).2])) [.sh (bD ss), .sh (.int (nuL ss f).2)])
    (s : St) (h : Wf k s) (v : Slot) (f : Int) (acc : List D) (s4 s5 : Slot) (hl : acc.length < 1000) :
    ∃ s4' s5', fb1_numbered_block (S (n + k + 1)) [v, .sh (.int f), .ow (.list acc), .sh s.d, s4, s5] = .ok .nx [v, .sh (.int (nuS s f).2), .ow (.list (acc ++ [(nuS s f).1])), .sh s.d, s4', s5'] := by
  have i := ev_isac (n + k) s h
  have hl' : acc.length + 1 ≤ 1000000 := by omega
  have hl3 : acc.length ≤ 999999 := by omega
  have hl2 : acc.length < 1000000 := by omega
  cases h with
  | @ac _ d h =>
    simp only [St.d_ac] at i ⊢
    refine ⟨s4, s5, ?_⟩
    cases h <;> simp [fb1_numbered_block, i, St.isAc, hl', hl2, hl3, nu_ac, apnd]
  | @pl _ d h =>
    simp only [St.d_pl] at i ⊢
    refine ⟨s4, s5, ?_⟩
    cases h <;> simp [fb1_numbered_block, i, St.isAc, hl2, nu_pl]
  | @ifs k e ys ns he hy hn ly ln =>
    have r1 := rec k rfl n ys f hy ly
    have r2 := rec k rfl n ns (nuL ys f).2 hn ln
    have ee : n + (k + 1) = n + k + 1 := by omega
    rw [← ee] at r1 r2
    refine ⟨.sh (.tuple (nuL ys f).1), .sh (.tuple (nuL ns (nuL ys f).2).1), ?_⟩
    rw [St.d_ifs] at i ⊢
    simp [fb1_numbered_block, i, St.isAc, hl2, nu_ifs, r1, r2]
theorem pn_loop (n : Nat) (k : Nat)
    (rec : ∀ k', k = k' + 1 → ∀ (n : Nat) (ss : List St) (f : Int), (∀ s ∈ ss, Wf k' s) → ss.length ≤ 12 → b_numbered_block (S (n + k' + 1)) [.sh (bD ss), .sh (.int f)] = .ok (.sh (.tuple [.tuple (nuL ss f).1, .int (nuL ss f).2])) [.sh (bD ss), .sh (.int (nuL ss f).2)])
    (v : Slot) : ∀ (ss : List St), (∀ s ∈ ss, Wf k s) → ∀ (f : Int) (acc : List D) (s3 s4 s5 : Slot), acc.length + ss.length ≤ 500 →
    ∃ s3' s4' s5', sLoop (gN 3) (fb1_numbered_block (S (n + k + 1))) (dL ss) [v, .sh (.int f), .ow (.list acc), s3, s4, s5] = .ok .nx [v, .sh (.int (nuL ss f).2), .ow (.list (acc ++ (nuL ss f).1)), s3', s4', s5']
  | [], _, f, acc, s3, s4, s5, _ => ⟨s3, s4, s5, by simp [dL, nu_nil]⟩
  | s :: ss, h, f, acc, s3, s4, s5, hl => by
    obtain ⟨t4, t5, h1⟩ := pn_one n k rec s (h s (by simp)) v f acc s4 s5 (by simp at hl; omega)
    obtain ⟨u3, u4, u5, h2⟩ := pn_loop n k rec v ss (fun x hx => h x (by simp [hx])) (nuS s f).2 (acc ++ [(nuS s f).1]) (.sh s.d) t4 t5 (by simp at hl ⊢; omega)
    refine ⟨u3, u4, u5, ?_⟩
    have e : dL (s :: ss) = s.d :: dL ss := by simp [dL]
    rw [e, x_loop1]
    simp [h1, h2, nu_cons]
theorem pn_ok : ∀ (k : Nat) (n : Nat) (ss : List St) (f : Int), (∀ s ∈ ss, Wf k s) → ss.length ≤ 12 → b_numbered_block (S (n + k + 1)) [.sh (bD ss), .sh (.int f)] = .ok (.sh (.tuple [.tuple (nuL ss f).1, .int (nuL ss f).2])) [.sh (bD ss), .sh (.int (nuL ss f).2)]
  | k, n, ss, f, h, hl => by
    obtain ⟨a, b, c, hw⟩ := pn_loop n k (fun k' e => by subst e; exact pn_ok k') (.sh (bD ss)) ss h f [] .un .un .un (by simp; omega)
    simp at hw
    simp [b_numbered_block, hw]
theorem pnt_loop (n : Nat) (v : Slot) : ∀ (q : List (List St)), (∀ b ∈ q, (∀ s ∈ b, Wf 2 s) ∧ b.length ≤ 12) → ∀ (f : Int) (acc : List D) (s3 s4 : Slot), acc.length + q.length ≤ 1000 →
    ∃ f' s3' s4', sLoop (gN 3) (fb1_numbered_threads (S (n + 4))) (q.map bD) [v, .ow (.list acc), .sh (.int f), s3, s4] = .ok .nx [v, .ow (.list (acc ++ nuP q f)), .sh (.int f'), s3', s4']
  | [], _, f, acc, s3, s4, _ => ⟨f, s3, s4, by simp [nuP]⟩
  | b :: q, h, f, acc, s3, s4, hl => by
    have hb := h b (by simp)
    have r := pn_ok 2 n b f hb.1 hb.2
    obtain ⟨f', u3, u4, h2⟩ := pnt_loop n v q (fun x hx => h x (by simp [hx])) (nuL b f).2 (acc ++ [.tuple (nuL b f).1]) (.sh (bD b)) (.sh (.tuple (nuL b f).1)) (by simp at hl ⊢; omega)
    have hl' : acc.length < 1000000 := by simp at hl; omega
    have hb1 : fb1_numbered_threads (S (n + 4)) [v, .ow (.list acc), .sh (.int f), .sh (bD b), s4] = .ok .nx [v, .ow (.list (acc ++ [.tuple (nuL b f).1])), .sh (.int (nuL b f).2), .sh (bD b), .sh (.tuple (nuL b f).1)] := by
      simp [fb1_numbered_threads, r, hl']
    refine ⟨f', u3, u4, ?_⟩
    rw [List.map_cons, x_loop1]
    simp [hb1, h2, nuP]
theorem ev_pnt (n : Nat) (p : List (List St)) (h : ∀ b ∈ p, (∀ s ∈ b, Wf 2 s) ∧ b.length ≤ 12) (hl : p.length ≤ 4) : b_numbered_threads (S (n + 4)) [.sh (pD p)] = .ok (.sh (.tuple (nuP p 0))) [.sh (pD p)] := by
  obtain ⟨f', a, b, hw⟩ := pnt_loop n (.sh (pD p)) p h 0 [] .un .un (by simp; omega)
  have e : pD p = .tuple (p.map bD) := rfl
  rw [e] at hw ⊢
  simp at hw
  simp [b_numbered_threads, hw]


/-! ### numbered statements as trees -/
def acS (s : St) : Nat := (if s.isAc = true then 1 else 0) + nAc s.inn
theorem nAc_c (s : St) (ss : List St) : nAc (s :: ss) = acS s + nAc ss := nAc_cons s ss
theorem nAc_0 : nAc [] = 0 := by simp [nAc, preL]
/-- whether an access is strong, by its looks -/
def stgD : D → Bool
  | .tuple (.str w :: _ :: b :: r) => if w == "write" then (match b with | .str m => m == "strong" | _ => false) else if w == "read" then (match r with | .str m :: _ => m == "strong" | _ => false) else true
  | _ => true
def acsL (ss : List St) : List St := (preL ss).filter St.isAc
def fl (ss : List St) : List Bool := (acsL ss).map fun s => stgD s.d
theorem acsL_c (s : St) (ss : List St) : acsL (s :: ss) = (if s.isAc = true then [s] else []) ++ acsL s.inn ++ acsL ss := by
  simp only [acsL, preL, pre_inn, List.filter_append]
  cases h : s.isAc <;> simp [List.filter_cons, h]
theorem acsL_app (xs ys : List St) : acsL (xs ++ ys) = acsL xs ++ acsL ys := by simp [acsL, preL_app]
theorem acsL_len (ss : List St) : (acsL ss).length = nAc ss := rfl
theorem acsL_0 : acsL [] = [] := by simp [acsL, preL]
theorem fl_c (s : St) (ss : List St) : fl (s :: ss) = fl [s] ++ fl ss := by
  unfold fl
  rw [acsL_c s ss, acsL_c s [], acsL_0]
  simp
def NumL (N : Int) (k : Nat) (ss : List St) (f : Int) : Prop := ∃ ss', (nuL ss f).1 = dL ss' ∧ (∀ s ∈ ss', WfN N k s) ∧ szL ss' = szL ss ∧ nAc ss' = nAc ss ∧ (nuL ss f).2 = f + nAc ss ∧ fl ss' = fl ss
def NumS (N : Int) (k : Nat) (s : St) (f : Int) : Prop := ∃ s' : St, (nuS s f).1 = s'.d ∧ WfN N k s' ∧ s'.sz = s.sz ∧ acS s' = acS s ∧ (nuS s f).2 = f + acS s ∧ fl [s'] = fl [s]
theorem num_L (k : Nat) (ih : ∀ s : St, Wf k s → ∀ f : Int, 0 ≤ f → f + acS s ≤ N → NumS N k s f) : ∀ (ss : List St), (∀ s ∈ ss, Wf k s) → ∀ f : Int, 0 ≤ f → f + nAc ss ≤ N → NumL N k ss f
  | [], _, f, _, _ => ⟨[], by simp [nu_nil, dL], by simp, rfl, rfl, by simp [nu_nil, nAc_0], rfl⟩
  | s :: ss, h, f, f0, fN => by
    rw [nAc_c] at fN
    obtain ⟨s', e1, w1, z1, a1, g1, l1⟩ := ih s (h s (by simp)) f f0 (by omega)
    obtain ⟨ss', e2, w2, z2, a2, g2, l2⟩ := num_L k ih ss (fun x hx => h x (by simp [hx])) (nuS s f).2 (by omega) (by omega)
    refine ⟨s' :: ss', by simp [nu_cons, dL, e1, e2], ?_, by simp [szL, z1, z2], by rw [nAc_c, nAc_c, a1, a2], ?_, by rw [fl_c s' ss', fl_c s ss, l1, l2]⟩
    · intro x hx
      simp at hx
      rcases hx with rfl | hx
      · exact w1
      · exact w2 x hx
    · rw [nu_cons, nAc_c]
      show (nuL ss (nuS s f).2).2 = _
      rw [g2, g1]
      omega
theorem num_S : ∀ (k : Nat) (s : St), Wf k s → ∀ f : Int, 0 ≤ f → f + acS s ≤ N → NumS N k s f := by
  have base : ∀ (k : Nat) (d : D), IsAc d → ∀ f : Int, 0 ≤ f → f + acS (.ac d) ≤ N → NumS N k (.ac d) f := by
    intro k d h f f0 fN
    have a1 : ∀ d, acS (.ac d) = 1 := fun d => by simp [acS, St.isAc, St.inn, nAc_0]
    rw [a1] at fN
    have fa : ∀ d, fl [.ac d] = [stgD d] := fun d => by simp [fl, acsL, preL, St.pre, List.filter_cons, St.isAc]
    have : ∃ xs, d = .tuple xs := by cases h <;> exact ⟨_, rfl⟩
    obtain ⟨xs, rfl⟩ := this
    refine ⟨.ac (.tuple (xs ++ [.int f])), by simp [nu_ac, apnd], .ac h f0 (by omega), by simp [St.sz], by rw [a1, a1], by rw [nu_ac, a1]; rfl, ?_⟩
    rw [fa, fa]
    cases h <;> simp [stgD]
  intro k
  induction k with
  | zero =>
    intro s h f f0 fN
    cases h with
    | ac h => exact base _ _ h f f0 fN
    | @pl _ d h => exact ⟨.pl d, by simp [nu_pl], .pl h, rfl, rfl, by simp [nu_pl, acS, St.isAc, St.inn, nAc_0], rfl⟩
  | succ k ih =>
    intro s h f f0 fN
    cases h with
    | ac h => exact base _ _ h f f0 fN
    | @pl _ d h => exact ⟨.pl d, by simp [nu_pl], .pl h, rfl, rfl, by simp [nu_pl, acS, St.isAc, St.inn, nAc_0], rfl⟩
    | @ifs _ e ys ns he hy hn ly ln =>
      have b1 := nAc_app ys ns
      have c1 : acS (.ifs e ys ns) = nAc ys + nAc ns := by simp [acS, St.isAc, St.inn, b1]
      rw [c1] at fN
      obtain ⟨ys', e1, w1, z1, a1, g1, l1⟩ := num_L k ih ys hy f f0 (by omega)
      obtain ⟨ns', e2, w2, z2, a2, g2, l2⟩ := num_L k ih ns hn (nuL ys f).2 (by omega) (by omega)
      have b2 := nAc_app ys' ns'
      refine ⟨.ifs e ys' ns', by rw [nu_ifs, e1, e2, St.d_ifs], .ifs he w1 w2, by simp [St.sz, z1, z2], ?_, ?_, ?_⟩
      · simp only [acS, St.isAc, St.inn, Bool.false_eq_true, if_false]
        omega
      · rw [nu_ifs, c1]
        show (nuL ns (nuL ys f).2).2 = _
        rw [g2, g1]
        omega
      · have f1 : ∀ ys ns, fl [.ifs e ys ns] = fl ys ++ fl ns := fun ys ns => by
          unfold fl
          rw [acsL_c, acsL_0]
          simp [St.isAc, St.inn, acsL_app]
        rw [f1, f1, l1, l2]
def tot (p : List (List St)) : Nat := (p.map nAc).sum
theorem num_P : ∀ (p : List (List St)) (f : Int), (∀ b ∈ p, (∀ s ∈ b, Wf 2 s) ∧ szL b ≤ 12 ∧ nAc b ≤ 8) → 0 ≤ f → f + tot p ≤ N → ∃ q : List (List St), nuP p f = q.map bD ∧ q.length = p.length ∧ (∀ b ∈ q, (∀ s ∈ b, WfN N 2 s) ∧ szL b ≤ 12 ∧ nAc b ≤ 8) ∧ q.map fl = p.map fl
  | [], f, _, _, _ => ⟨[], by simp [nuP], rfl, by simp, rfl⟩
  | b :: p, f, h, f0, fN => by
    have hb := h b (by simp)
    have ht : tot (b :: p) = nAc b + tot p := by simp [tot]
    rw [ht] at fN
    obtain ⟨b', e1, w1, z1, a1, g1, l1⟩ := num_L (N := N) 2 (num_S 2) b hb.1 f f0 (by omega)
    obtain ⟨q, e2, l2, w2, m2⟩ := num_P p (nuL b f).2 (fun x hx => h x (by simp [hx])) (by omega) (by omega)
    refine ⟨b' :: q, by simp [nuP, e1, e2], by simp [l2], ?_, by simp [l1, m2]⟩
    intro x hx
    simp at hx
    rcases hx with rfl | hx
    · exact ⟨w1, by omega, by omega⟩
    · exact w2 x hx
/-! ### the threads at the beginning -/
abbrev Th1 := Option (List St) × D
def thD (t : Th1) : D := .tuple [rsD t.1, t.2]
structure ThOk (N : Int) (a : Nat) (t : Th1) : Prop where
  rs : Rst N a 12 t.1
  rg : Rg t.2
theorem m3 : gMul [.tuple [.int 0], .int 3] = some (false, rD 0 0 0) := by simp [gMul, List.replicate]
theorem rg0 : Rg (rD 0 0 0) := ⟨0, 0, 0, rfl, by decide, by decide, by decide⟩
theorem begin2 : ∀ (q : List (List St)), (∀ b ∈ q, (∀ s ∈ b, WfN N 2 s) ∧ szL b ≤ 12 ∧ nAc b ≤ 8) → ∃ ths : List Th1, ths.length = q.length ∧ (∀ t ∈ ths, ThOk N 8 t) ∧
    (∀ n v acc, cLoop (gN 1) [1] (cItem tYesS (ce1_begun (S (n + 6)))) (q.map bD) acc [v, .un] = .ok (acc ++ ths.map thD) [v, .un]) ∧
    (∀ n v acc, cLoop (gN 1) [1] (cItem tYesS (ce1__law_begun (S (n + 6)))) (q.map bD) acc [v, .un] = .ok (acc ++ ths.map thD) [v, .un])
  | [], _ => ⟨[], rfl, by simp, fun n v acc => by simp, fun n v acc => by simp⟩
  | b :: q, h => by
    have hb := h b (by simp)
    obtain ⟨o, r, R, hr, kp, kl⟩ := settled2 (by omega) hb.1 rg0
    obtain ⟨ths, l, g, ep, el⟩ := begin2 q fun x hx => h x (by simp [hx])
    refine ⟨(o, r) :: ths, by simp [l], ?_, fun n v acc => ?_, fun n v acc => ?_⟩
    · intro x hx
      simp at hx
      rcases hx with rfl | hx
      · exact ⟨R.mono hb.2.2 hb.2.1, hr⟩
      · exact g x hx
    · obtain ⟨f1, g1, e1⟩ := kp n
      have e2 := ep n v (acc ++ [thD (o, r)])
      rw [List.map_cons, x_cl1]
      simp [ce1_begun, k_REGISTERS, m3, e1]
      simp [thD] at e2
      exact e2
    · obtain ⟨f1, g1, e1⟩ := kl n
      have e2 := el n v (acc ++ [thD (o, r)])
      rw [List.map_cons, x_cl1]
      simp [ce1__law_begun, e1]
      simp [thD] at e2
      exact e2

theorem nA_sum : ∀ q : List (List St), ((every q).filter St.isAc).length = tot q
  | [] => by simp [every, tot]
  | b :: q => by
    have := nA_sum q
    simp only [every, List.flatMap_cons, List.filter_append, List.length_append, tot, List.map_cons, List.sum_cons, nAc] at *
    omega
theorem le_tot : ∀ (q : List (List St)), ∀ b ∈ q, nAc b ≤ tot q
  | [], b, h => by cases h
  | x :: q, b, h => by
    have ht : tot (x :: q) = nAc x + tot q := by simp [tot]
    simp at h
    rcases h with rfl | h
    · omega
    · have := le_tot q b h; omega
theorem Pr.tot8 {p : List (List St)} (P : Pr p) : tot p ≤ 8 := by have := P.ac; rw [nA_sum] at this; exact this
theorem Pr.nac {p : List (List St)} (P : Pr p) : ∀ b ∈ p, nAc b ≤ 8 := fun b hb => Nat.le_trans (le_tot p b hb) P.tot8
/-- the numbered blocks of a program -/
theorem Pr.nums {p : List (List St)} (P : Pr p) : ∃ q : List (List St), nuP p 0 = q.map bD ∧ q.length = p.length ∧ (∀ b ∈ q, (∀ s ∈ b, WfN (tot p : Nat) 2 s) ∧ szL b ≤ 12 ∧ nAc b ≤ 8) ∧ q.map fl = p.map fl :=
  num_P p 0 (fun b hb => ⟨P.wf b hb, P.sz b hb, P.nac b hb⟩) (by omega) (by omega)
theorem begun2 {p : List (List St)} (P : Pr p) : ∃ ths : List Th1, ths.length = p.length ∧ (∀ t ∈ ths, ThOk (tot p : Nat) 8 t) ∧
    (∀ n, b_begun (S (n + 6)) [.sh (pD p)] = .ok (.sh (.tuple (ths.map thD))) [.sh (pD p)]) ∧
    (∀ n, b__law_begun (S (n + 6)) [.sh (pD p)] = .ok (.sh (.tuple (ths.map thD))) [.sh (pD p)]) := by
  obtain ⟨q, e1, l1, w1, _⟩ := P.nums
  obtain ⟨ths, l, g, ep, el⟩ := begin2 q w1
  have l4 := P.l4
  have hw : ∀ b ∈ p, (∀ s ∈ b, Wf 2 s) ∧ b.length ≤ 12 := fun b hb => ⟨P.wf b hb, Nat.le_trans (szL_len b) (P.sz b hb)⟩
  have hq : (q.map bD).length ≤ 1000000 := by simp; omega
  refine ⟨ths, by omega, g, fun n => ?_, fun n => ?_⟩
  · have a := ev_pnt (n + 1) p hw l4
    have b := ep n (.sh (pD p)) []
    rw [e1] at a
    simp at b
    simp [b_begun, cm1_begun, a, x_coK _ _ _ _ _ _ hq, b]
  · have a := ev_nut (n + 1) p hw l4
    have b := el n (.sh (pD p)) []
    rw [e1] at a
    simp at b
    simp [b__law_begun, cm1__law_begun, a, x_coK _ _ _ _ _ _ hq, b]
end Lw
end
section
set_option Elab.async false
set_option linter.all false
set_option maxRecDepth 100000
namespace Lw
open PySem FE
variable {N : Int}
def oI : Option Int → D
  | none => .none
  | some x => .int x
/-- what is to be known of an access with its number -/
structure AcF (d : D) (no : Int) (rd : Bool) : Prop where
  w : ∃ w tl, d = .tuple (.str w :: tl) ∧ PyData.strOk w = true ∧ (w == "write") = !rd
  l : ∃ xs, d = .tuple (xs ++ [.int no])
  pa : ∀ n, b_is_access (S n) [.sh d] = .ok (.sh (.bool true)) [.sh d]
  pr : ∀ n, b_can_read (S n) [.sh d] = .ok (.sh (.bool rd)) [.sh d]
  la : ∀ n, b__law_is_access (S n) [.sh d] = .ok (.sh (.bool true)) [.sh d]
  rg : rd = true → ∃ w i tl, d = .tuple (.str w :: .int i :: tl) ∧ 0 ≤ i ∧ i ≤ 2
  wr : ∀ (r : D) (v : Int), Rg r → 0 ≤ v → v ≤ 15 → ∃ u : Option Int, (∀ x, u = some x → 0 ≤ x ∧ x ≤ 15) ∧ (∀ n, b_written_by (S (n + 5)) [.sh d, .sh r, .sh (if rd = true then .int v else .none)] = .ok (.sh (oI u)) [.sh d, .sh r, .sh (if rd = true then .int v else .none)]) ∧ (∀ n, b__law_written (S (n + 5)) [.sh d, .sh r, .sh (if rd = true then .int v else .none)] = .ok (.sh (oI u)) [.sh d, .sh r, .sh (if rd = true then .int v else .none)])
theorem ac_facts {xs : List D} (h : IsAc (.tuple xs)) (no : Int) : ∃ rd, AcF (.tuple (xs ++ [.int no])) no rd := by
  cases h with
  | @write c m e h1 h2 hm he =>
    simp only [List.cons_append, List.nil_append]
    rcases wm_cases hm with rfl | rfl | rfl
    · refine ⟨false, ⟨"write", _, rfl, by simp, by simp⟩, ⟨[.str "write", .int c, .str "plain", e], by simp⟩, fun n => by simp [b_is_access, k_EXCHANGES, o_in, SeqAt.shaped, PyData.canLay0, PyData.canLayAll0, PyData.depth, PyData.depthAll, PyData.eqv], fun n => by simp [b_can_read], fun n => by simp [b__law_is_access, o_in, SeqAt.shaped, PyData.canLay0, PyData.canLayAll0, PyData.depth, PyData.depthAll, PyData.eqv], by simp, ?_⟩
      intro r v hr v0 v1
      obtain ⟨x, x0, x1, ep, el⟩ := worthE hr he
      exact ⟨some x, by intro y hy; cases hy; exact ⟨x0, x1⟩, fun n => by simp [b_written_by, ep, oI], fun n => by simp [b__law_written, el, oI, o_in, SeqAt.shaped, PyData.canLay0, PyData.canLayAll0, PyData.depth, PyData.depthAll, PyData.eqv]⟩
    · refine ⟨false, ⟨"write", _, rfl, by simp, by simp⟩, ⟨[.str "write", .int c, .str "release", e], by simp⟩, fun n => by simp [b_is_access, k_EXCHANGES, o_in, SeqAt.shaped, PyData.canLay0, PyData.canLayAll0, PyData.depth, PyData.depthAll, PyData.eqv], fun n => by simp [b_can_read], fun n => by simp [b__law_is_access, o_in, SeqAt.shaped, PyData.canLay0, PyData.canLayAll0, PyData.depth, PyData.depthAll, PyData.eqv], by simp, ?_⟩
      intro r v hr v0 v1
      obtain ⟨x, x0, x1, ep, el⟩ := worthE hr he
      exact ⟨some x, by intro y hy; cases hy; exact ⟨x0, x1⟩, fun n => by simp [b_written_by, ep, oI], fun n => by simp [b__law_written, el, oI, o_in, SeqAt.shaped, PyData.canLay0, PyData.canLayAll0, PyData.depth, PyData.depthAll, PyData.eqv]⟩
    · refine ⟨false, ⟨"write", _, rfl, by simp, by simp⟩, ⟨[.str "write", .int c, .str "strong", e], by simp⟩, fun n => by simp [b_is_access, k_EXCHANGES, o_in, SeqAt.shaped, PyData.canLay0, PyData.canLayAll0, PyData.depth, PyData.depthAll, PyData.eqv], fun n => by simp [b_can_read], fun n => by simp [b__law_is_access, o_in, SeqAt.shaped, PyData.canLay0, PyData.canLayAll0, PyData.depth, PyData.depthAll, PyData.eqv], by simp, ?_⟩
      intro r v hr v0 v1
      obtain ⟨x, x0, x1, ep, el⟩ := worthE hr he
      exact ⟨some x, by intro y hy; cases hy; exact ⟨x0, x1⟩, fun n => by simp [b_written_by, ep, oI], fun n => by simp [b__law_written, el, oI, o_in, SeqAt.shaped, PyData.canLay0, PyData.canLayAll0, PyData.depth, PyData.depthAll, PyData.eqv]⟩
  | @read i c m h0 h01 h1 h2 hm =>
    simp only [List.cons_append, List.nil_append]
    rcases rm_cases hm with rfl | rfl | rfl
    · refine ⟨true, ⟨"read", _, rfl, by simp, by simp⟩, ⟨[.str "read", .int i, .int c, .str "plain"], by simp⟩, fun n => by simp [b_is_access, k_EXCHANGES, o_in, SeqAt.shaped, PyData.canLay0, PyData.canLayAll0, PyData.depth, PyData.depthAll, PyData.eqv], fun n => by simp [b_can_read], fun n => by simp [b__law_is_access, o_in, SeqAt.shaped, PyData.canLay0, PyData.canLayAll0, PyData.depth, PyData.depthAll, PyData.eqv], fun _ => ⟨_, _, _, rfl, h0, h01⟩, ?_⟩
      intro r v hr v0 v1
      exact ⟨none, (by intro y hy; cases hy), fun n => by simp [b_written_by, oI], fun n => by simp [b__law_written, oI, o_in, SeqAt.shaped, PyData.canLay0, PyData.canLayAll0, PyData.depth, PyData.depthAll, PyData.eqv]⟩
    · refine ⟨true, ⟨"read", _, rfl, by simp, by simp⟩, ⟨[.str "read", .int i, .int c, .str "acquire"], by simp⟩, fun n => by simp [b_is_access, k_EXCHANGES, o_in, SeqAt.shaped, PyData.canLay0, PyData.canLayAll0, PyData.depth, PyData.depthAll, PyData.eqv], fun n => by simp [b_can_read], fun n => by simp [b__law_is_access, o_in, SeqAt.shaped, PyData.canLay0, PyData.canLayAll0, PyData.depth, PyData.depthAll, PyData.eqv], fun _ => ⟨_, _, _, rfl, h0, h01⟩, ?_⟩
      intro r v hr v0 v1
      exact ⟨none, (by intro y hy; cases hy), fun n => by simp [b_written_by, oI], fun n => by simp [b__law_written, oI, o_in, SeqAt.shaped, PyData.canLay0, PyData.canLayAll0, PyData.depth, PyData.depthAll, PyData.eqv]⟩
    · refine ⟨true, ⟨"read", _, rfl, by simp, by simp⟩, ⟨[.str "read", .int i, .int c, .str "strong"], by simp⟩, fun n => by simp [b_is_access, k_EXCHANGES, o_in, SeqAt.shaped, PyData.canLay0, PyData.canLayAll0, PyData.depth, PyData.depthAll, PyData.eqv], fun n => by simp [b_can_read], fun n => by simp [b__law_is_access, o_in, SeqAt.shaped, PyData.canLay0, PyData.canLayAll0, PyData.depth, PyData.depthAll, PyData.eqv], fun _ => ⟨_, _, _, rfl, h0, h01⟩, ?_⟩
      intro r v hr v0 v1
      exact ⟨none, (by intro y hy; cases hy), fun n => by simp [b_written_by, oI], fun n => by simp [b__law_written, oI, o_in, SeqAt.shaped, PyData.canLay0, PyData.canLayAll0, PyData.depth, PyData.depthAll, PyData.eqv]⟩
  | @swap i c e h0 h01 h1 h2 he =>
    simp only [List.cons_append, List.nil_append]
    refine ⟨true, ⟨"swap", _, rfl, by simp, by simp⟩, ⟨[.str "swap", .int i, .int c, e], by simp⟩, fun n => by simp [b_is_access, k_EXCHANGES, o_in, SeqAt.shaped, PyData.canLay0, PyData.canLayAll0, PyData.depth, PyData.depthAll, PyData.eqv], fun n => by simp [b_can_read], fun n => by simp [b__law_is_access, o_in, SeqAt.shaped, PyData.canLay0, PyData.canLayAll0, PyData.depth, PyData.depthAll, PyData.eqv], fun _ => ⟨_, _, _, rfl, h0, h01⟩, ?_⟩
    intro r v hr v0 v1
    obtain ⟨x, x0, x1, ep, el⟩ := worthE hr he
    exact ⟨some x, by intro y hy; cases hy; exact ⟨x0, x1⟩, fun n => by simp [b_written_by, ep, oI], fun n => by simp [b__law_written, el, oI, o_in, SeqAt.shaped, PyData.canLay0, PyData.canLayAll0, PyData.depth, PyData.depthAll, PyData.eqv]⟩
  | @add i c e h0 h01 h1 h2 he =>
    simp only [List.cons_append, List.nil_append]
    refine ⟨true, ⟨"add", _, rfl, by simp, by simp⟩, ⟨[.str "add", .int i, .int c, e], by simp⟩, fun n => by simp [b_is_access, k_EXCHANGES, o_in, SeqAt.shaped, PyData.canLay0, PyData.canLayAll0, PyData.depth, PyData.depthAll, PyData.eqv], fun n => by simp [b_can_read], fun n => by simp [b__law_is_access, o_in, SeqAt.shaped, PyData.canLay0, PyData.canLayAll0, PyData.depth, PyData.depthAll, PyData.eqv], fun _ => ⟨_, _, _, rfl, h0, h01⟩, ?_⟩
    intro r v hr v0 v1
    obtain ⟨x, x0, x1, ep, el⟩ := worthE hr he
    exact ⟨some ((v + x) % 16), by intro y hy; cases hy; exact mod16 _, fun n => by simp [b_written_by, ep, oI, k_VALUES], fun n => by simp [b__law_written, el, oI, o_in, SeqAt.shaped, PyData.canLay0, PyData.canLayAll0, PyData.depth, PyData.depthAll, PyData.eqv]⟩
  | @tri i c e f h0 h01 h1 h2 he hf =>
    simp only [List.cons_append, List.nil_append]
    refine ⟨true, ⟨"try", _, rfl, by simp, by simp⟩, ⟨[.str "try", .int i, .int c, e, f], by simp⟩, fun n => by simp [b_is_access, k_EXCHANGES, o_in, SeqAt.shaped, PyData.canLay0, PyData.canLayAll0, PyData.depth, PyData.depthAll, PyData.eqv], fun n => by simp [b_can_read], fun n => by simp [b__law_is_access, o_in, SeqAt.shaped, PyData.canLay0, PyData.canLayAll0, PyData.depth, PyData.depthAll, PyData.eqv], fun _ => ⟨_, _, _, rfl, h0, h01⟩, ?_⟩
    intro r v hr v0 v1
    obtain ⟨x, x0, x1, ep, el⟩ := worthE hr he
    obtain ⟨y, y0, y1, fp, fl⟩ := worthE hr hf
    by_cases hq : v = x
    · subst hq
      exact ⟨some y, by intro z hz; cases hz; exact ⟨y0, y1⟩, fun n => by simp [b_written_by, ep, fp, oI], fun n => by simp [b__law_written, el, fl, oI, o_in, SeqAt.shaped, PyData.canLay0, PyData.canLayAll0, PyData.depth, PyData.depthAll, PyData.eqv]⟩
    · have hq' : (v == x) = false := by simp [hq]
      exact ⟨none, (by intro z hz; cases hz), fun n => by simp [b_written_by, ep, hq', oI], fun n => by simp [b__law_written, el, hq', oI, o_in, SeqAt.shaped, PyData.canLay0, PyData.canLayAll0, PyData.depth, PyData.depthAll, PyData.eqv]⟩
def fence : D := .tuple [.str "fence"]
theorem head_kinds {s : St} (h : WfN N 2 s) (hg : s.go = false) : (s.isAc = false ∧ s.d = fence) ∨ (s.isAc = true ∧ ∃ no rd, 0 ≤ no ∧ no < N ∧ AcF s.d no rd) := by
  cases h with
  | @ac _ xs i h i0 iN =>
    obtain ⟨rd, F⟩ := ac_facts h i
    exact .inr ⟨rfl, i, rd, i0, iN, by simpa using F⟩
  | pl h =>
    cases h with
    | fence => exact .inl ⟨rfl, by simp [fence]⟩
    | need he => simp [St.go] at hg
    | set h0 h1 he => simp [St.go] at hg
  | ifs he hy hn => simp [St.go] at hg
theorem f_pa (n : Nat) : b_is_access (S n) [.sh fence] = .ok (.sh (.bool false)) [.sh fence] := by unfold fence; simp [b_is_access, k_EXCHANGES, o_in, SeqAt.shaped, PyData.canLay0, PyData.canLayAll0, PyData.depth, PyData.depthAll, PyData.eqv]
theorem f_la (n : Nat) : b__law_is_access (S n) [.sh fence] = .ok (.sh (.bool false)) [.sh fence] := by unfold fence; simp [b__law_is_access, o_in, SeqAt.shaped, PyData.canLay0, PyData.canLayAll0, PyData.depth, PyData.depthAll, PyData.eqv]
end Lw
end
section
set_option Elab.async false
set_option linter.all false
set_option maxRecDepth 100000
namespace Lw
open PySem FE
variable {N : Int}
theorem ix_map {α : Type} (f : α → D) (xs : List α) (t : Int) (x : α) (h0 : 0 ≤ t) (h : xs[t.toNat]? = some x) : at_ (xs.map f) t = some (f x) := by
  have hl : t.toNat < xs.length := by
    rcases Nat.lt_or_ge t.toNat xs.length with q | q
    · exact q
    · rw [List.getElem?_eq_none q] at h; cases h
  rw [at_k _ _ h0 (by simp; omega), List.getElem?_map, h]
  rfl
theorem has {α : Type} (xs : List α) (t : Int) (h0 : 0 ≤ t) (h : t < xs.length) : ∃ x, xs[t.toNat]? = some x := ⟨xs[t.toNat]'(by omega), by rw [List.getElem?_eq_getElem (by omega)]⟩
theorem cut_to (d : List D) (a : Int) (h : 0 ≤ a) : cutD d none (some a) = d.take a.toNat := by
  have e : HT.sIx d.length d.length (some a) = min a.toNat d.length := by show (if a < 0 then (a + (d.length : Int)).toNat else min a.toNat d.length) = _; rw [if_neg (by omega)]
  unfold cutD
  rw [e]
  show List.take (_ - 0) (d.drop 0) = _
  simp [List.take_eq_take_iff]
theorem cut_of (d : List D) (a : Int) (h : 0 ≤ a) : cutD d (some a) none = d.drop a.toNat := by
  have e : HT.sIx d.length 0 (some a) = min a.toNat d.length := by show (if a < 0 then (a + (d.length : Int)).toNat else min a.toNat d.length) = _; rw [if_neg (by omega)]
  unfold cutD
  rw [e]
  show List.take (d.length - _) (d.drop _) = _
  rw [List.take_of_length_le (by simp)]
  rcases Nat.le_total a.toNat d.length with q | q
  · rw [Nat.min_eq_left q]
  · rw [Nat.min_eq_right q, List.drop_eq_nil_of_le q, List.drop_eq_nil_of_le (Nat.le_refl _)]
@[simp] theorem o_eqt0 (x : List D) (h : SeqAt.shaped (.tuple x) = true) : gEq [.tuple x, .tuple []] = some (false, .bool x.isEmpty) := by
  simp [gEq, h]
  cases x <;> simp [PyData.eqv, PyData.eqvAll]
@[simp] theorem eqv_ii (a b : Int) : PyData.eqv (.int a) (.int b) = (a == b) := by simp [PyData.eqv]
theorem rs_ne0 {rs : List St} (h : ∀ s ∈ rs, WfN N 2 s) : gNe [.tuple (dL rs), .tuple []] = some (false, .bool (!rs.isEmpty)) := by
  have := o_net0 (dL rs) (wfn_nice h).sh
  rw [this, dL_map]
  simp
theorem rs_eq0 {rs : List St} (h : ∀ s ∈ rs, WfN N 2 s) : gEq [.tuple (dL rs), .tuple []] = some (false, .bool rs.isEmpty) := by
  have := o_eqt0 (dL rs) (wfn_nice h).sh
  rw [this, dL_map]
  simp
@[simp] theorem g_isn0 : gIsN [.none, .none] = some (false, .bool false) := rfl
@[simp] theorem g_isnt (x : List D) : gIsN [.tuple x, .none] = some (false, .bool true) := rfl
@[simp] theorem g_is0 : gIs [.none, .none] = some (false, .bool true) := rfl
@[simp] theorem g_ist (x : List D) : gIs [.tuple x, .none] = some (false, .bool false) := rfl
@[simp] theorem g_isni (x : Int) : gIsN [.int x, .none] = some (false, .bool true) := rfl
theorem at_m1 (x : List D) : at_ x (-1) = x.getLast? := by
  unfold at_ L2.ixN
  rw [if_neg (by decide)]
  cases x with
  | nil => rfl
  | cons a x =>
    rw [if_pos (by simp; omega)]
    have e : ((-1 : Int) + ((a :: x).length : Int)).toNat = x.length := by simp; omega
    show ((a :: x)[((-1 : Int) + ((a :: x).length : Int)).toNat]?) = _ <;> skip
    try rw [e]
    rw [List.getLast?_eq_getElem?]
    simp
theorem set_cut (ds : List D) (i : Int) (v : D) (h0 : 0 ≤ i) (h1 : i < ds.length) : ds.take i.toNat ++ [v] ++ ds.drop (i + 1).toNat = ds.set i.toNat v := by
  rw [List.set_eq_take_append_cons_drop, if_pos (by omega), show (i + 1).toNat = i.toNat + 1 by omega]
  simp
/-! ### behind the next access or fence -/
theorem behindA {q : St} {rs : List St} {r : D} {c : Int} {rd : Bool} (F : AcF q.d c rd) (h5 : szL rs ≤ 500) (hw : ∀ s ∈ rs, WfN N 2 s) (hr : Rg r) (v : Int) (v0 : 0 ≤ v) (v1 : v ≤ 15) : ∃ o r', Rst N (nAc rs) (szL rs) o ∧ Rg r' ∧
    (∀ n, ∃ f g k, b_behind (S (n + 6)) [.sh (.tuple (q.d :: dL rs)), .sh r, .sh (if rd = true then .int v else .none)] = .ok (.sh (.tuple [rsD o, r'])) [f, g, k]) ∧
    (∀ n, ∃ f g k, b__law_behind (S (n + 6)) [.sh (.tuple (q.d :: dL rs)), .sh r, .sh (if rd = true then .int v else .none)] = .ok (.sh (.tuple [rsD o, r'])) [f, g, k]) := by
  obtain ⟨w, tl, hd, hw1, hw2⟩ := F.w
  cases rd with
  | false =>
    obtain ⟨o, r', R, hr', kp, kl⟩ := settled2 h5 hw hr
    refine ⟨o, r', R, hr', fun n => ?_, fun n => ?_⟩
    · obtain ⟨f, g, e⟩ := kp n
      refine ⟨.sh (.tuple (q.d :: dL rs)), .sh r, .sh .none, ?_⟩
      · simp [b_behind, F.pa, F.pr, e]
    · obtain ⟨f, g, e⟩ := kl n
      have hw3 : (w == "write") = true := by simpa using hw2
      have F2 := F.la
      rw [hd] at F2 ⊢
      refine ⟨.sh (.tuple (.tuple (.str w :: tl) :: dL rs)), .sh r, .sh .none, ?_⟩
      · simp [b__law_behind, F2, hw1, hw3, e]
  | true =>
    obtain ⟨w', i, tl', hd', i0, i2⟩ := F.rg rfl
    obtain ⟨r1, hr1, hp, x, y, z, rfl, h1, h2, rfl, l1, l2⟩ := reg2 hr i0 i2 v0 v1
    obtain ⟨o, r', R, hr', kp, kl⟩ := settled2 h5 hw hr1
    rw [hd'] at hd
    cases hd
    have F1 := F.pa
    have F2 := F.la
    have F3 := F.pr
    rw [hd'] at F1 F2 F3 ⊢
    refine ⟨o, r', R, hr', fun n => ?_, fun n => ?_⟩
    · obtain ⟨f, g, e⟩ := kp n
      simp at hp e
      refine ⟨.sh (.tuple (.tuple (.str w :: .int i :: tl') :: dL rs)), .sh (.tuple (y ++ [.int v] ++ z)), .sh (.int v), ?_⟩
      · simp [b_behind, F1, F3, hp, e]
    · obtain ⟨f, g, e⟩ := kl n
      have hw3 : (w == "write") = false := by simpa using hw2
      have l3 : y.length ≤ 999999 := by omega
      simp at e
      refine ⟨.sh (.tuple (.tuple (.str w :: .int i :: tl') :: dL rs)), .sh (.tuple (y ++ [.int v] ++ z)), .sh (.int v), ?_⟩
      · simp [b__law_behind, F2, hw1, hw3, h1, h2, l1, l2, l3, e]
theorem behindF {rs : List St} {r : D} (h5 : szL rs ≤ 500) (hw : ∀ s ∈ rs, WfN N 2 s) (hr : Rg r) : ∃ o r', Rst N (nAc rs) (szL rs) o ∧ Rg r' ∧
    (∀ n, ∃ f g k, b_behind (S (n + 6)) [.sh (.tuple (fence :: dL rs)), .sh r, .sh .none] = .ok (.sh (.tuple [rsD o, r'])) [f, g, k]) ∧
    (∀ n, ∃ f g k, b__law_behind (S (n + 6)) [.sh (.tuple (fence :: dL rs)), .sh r, .sh .none] = .ok (.sh (.tuple [rsD o, r'])) [f, g, k]) := by
  obtain ⟨o, r', R, hr', kp, kl⟩ := settled2 h5 hw hr
  have f1 := f_pa
  have f2 := f_la
  refine ⟨o, r', R, hr', fun n => ?_, fun n => ?_⟩
  · obtain ⟨f, g, e⟩ := kp n
    refine ⟨.sh (.tuple (fence :: dL rs)), .sh r, .sh .none, ?_⟩
    · simp [b_behind, f1, e]
  · obtain ⟨f, g, e⟩ := kl n
    refine ⟨.sh (.tuple (fence :: dL rs)), .sh r, .sh .none, ?_⟩
    · simp [b__law_behind, f2, e]
theorem m4 : gMul [.tuple [.int 0], .int 4] = some (false, .tuple [.int 0, .int 0, .int 0, .int 0]) := by simp [gMul, List.replicate]

end Lw
end
section
set_option Elab.async false
set_option linter.all false
set_option maxRecDepth 100000
namespace Lw
open PySem FE
@[simp] theorem g_isi (x : Int) : gIs [.int x, .none] = some (false, .bool false) := rfl
/-! ### a turn of both loops, for any calls -/
section
variable (c : Nat → FS) {P T : Slot} {vs rs acc : List D} {q r o' r' u : D} {f g k s6 s7 : Slot} {no v : Int} {w : Str} {ds : List D}
theorem pF (h7 : c 7 [.sh q] = .ok (.sh (.bool false)) [.sh q]) (h : c 24 [.sh (.tuple (q :: rs)), .sh r, .sh .none] = .ok (.sh (.tuple [o', r'])) [f, g, k]) :
    wb1_done_alone c [P, T, .sh (.tuple vs), .sh (.tuple (q :: rs)), .sh r, .ow (.list acc), s6, s7] = .ok .nx [P, T, .sh (.tuple vs), .sh o', .sh r', .ow (.list acc), .sh q, .sh .none] := by
  simp [wb1_done_alone, h7, h]
theorem lF (h7 : c 32 [.sh q] = .ok (.sh (.bool false)) [.sh q]) (h : c 39 [.sh (.tuple (q :: rs)), .sh r, .sh .none] = .ok (.sh (.tuple [o', r'])) [f, g, k]) :
    wb1__law_due c [P, T, .sh (.tuple vs), .sh (.tuple (q :: rs)), .sh r, .ow (.list acc), s6, s7] = .ok .nx [P, T, .sh (.tuple vs), .sh o', .sh r', .ow (.list acc), .sh q, .sh .none] := by
  simp [wb1__law_due, h7, h]
variable (hl : acc.length ≤ 1000) (m1 : at_ ds (-1) = some (.int no))
include hl m1
theorem pW (h7 : c 7 [.sh (.tuple ds)] = .ok (.sh (.bool true)) [.sh (.tuple ds)]) (h16 : c 16 [.sh (.tuple ds)] = .ok (.sh (.bool false)) [.sh (.tuple ds)]) (h23 : c 23 [.sh (.tuple ds), .sh r, .sh .none] = .ok (.sh u) [.sh (.tuple ds), .sh r, .sh .none]) (h : c 24 [.sh (.tuple (.tuple ds :: rs)), .sh r, .sh .none] = .ok (.sh (.tuple [o', r'])) [f, g, k]) :
    wb1_done_alone c [P, T, .sh (.tuple vs), .sh (.tuple (.tuple ds :: rs)), .sh r, .ow (.list acc), s6, s7] = .ok .nx [P, T, .sh (.tuple vs), .sh o', .sh r', .ow (.list (acc ++ [.tuple [.int no, .none, u]])), .sh (.tuple ds), .sh .none] := by
  have hl' : acc.length < 1000000 := by omega
  simp [wb1_done_alone, h7, h16, h23, h, gNeg, m1, hl']
theorem lW (m0 : at_ ds 0 = some (.str w)) (hw : PyData.strOk w = true) (hw1 : (w == "write") = true) (h7 : c 32 [.sh (.tuple ds)] = .ok (.sh (.bool true)) [.sh (.tuple ds)]) (h23 : c 38 [.sh (.tuple ds), .sh r, .sh .none] = .ok (.sh u) [.sh (.tuple ds), .sh r, .sh .none]) (h : c 39 [.sh (.tuple (.tuple ds :: rs)), .sh r, .sh .none] = .ok (.sh (.tuple [o', r'])) [f, g, k]) :
    wb1__law_due c [P, T, .sh (.tuple vs), .sh (.tuple (.tuple ds :: rs)), .sh r, .ow (.list acc), s6, s7] = .ok .nx [P, T, .sh (.tuple vs), .sh o', .sh r', .ow (.list (acc ++ [.tuple [.int no, .none, u]])), .sh (.tuple ds), .sh .none] := by
  have hl' : acc.length < 1000000 := by omega
  simp [wb1__law_due, h7, h23, h, gNeg, m0, m1, hw, hw1, hl']
theorem pR (hv : at_ vs no = some (.int v)) (h7 : c 7 [.sh (.tuple ds)] = .ok (.sh (.bool true)) [.sh (.tuple ds)]) (h16 : c 16 [.sh (.tuple ds)] = .ok (.sh (.bool true)) [.sh (.tuple ds)]) (h23 : c 23 [.sh (.tuple ds), .sh r, .sh (.int v)] = .ok (.sh u) [.sh (.tuple ds), .sh r, .sh (.int v)]) (h : c 24 [.sh (.tuple (.tuple ds :: rs)), .sh r, .sh (.int v)] = .ok (.sh (.tuple [o', r'])) [f, g, k]) :
    wb1_done_alone c [P, T, .sh (.tuple vs), .sh (.tuple (.tuple ds :: rs)), .sh r, .ow (.list acc), s6, s7] = .ok .nx [P, T, .sh (.tuple vs), .sh o', .sh r', .ow (.list (acc ++ [.tuple [.int no, .int v, u]])), .sh (.tuple ds), .sh (.int v)] := by
  have hl' : acc.length < 1000000 := by omega
  simp [wb1_done_alone, h7, h16, h23, h, gNeg, m1, hl', hv]
theorem lR (hv : at_ vs no = some (.int v)) (m0 : at_ ds 0 = some (.str w)) (hw : PyData.strOk w = true) (hw1 : (w == "write") = false) (h7 : c 32 [.sh (.tuple ds)] = .ok (.sh (.bool true)) [.sh (.tuple ds)]) (h23 : c 38 [.sh (.tuple ds), .sh r, .sh (.int v)] = .ok (.sh u) [.sh (.tuple ds), .sh r, .sh (.int v)]) (h : c 39 [.sh (.tuple (.tuple ds :: rs)), .sh r, .sh (.int v)] = .ok (.sh (.tuple [o', r'])) [f, g, k]) :
    wb1__law_due c [P, T, .sh (.tuple vs), .sh (.tuple (.tuple ds :: rs)), .sh r, .ow (.list acc), s6, s7] = .ok .nx [P, T, .sh (.tuple vs), .sh o', .sh r', .ow (.list (acc ++ [.tuple [.int no, .int v, u]])), .sh (.tuple ds), .sh (.int v)] := by
  have hl' : acc.length < 1000000 := by omega
  simp [wb1__law_due, h7, h23, h, gNeg, m0, m1, hw, hw1, hl', hv]
theorem pN (hv : at_ vs no = some .none) (h7 : c 7 [.sh (.tuple ds)] = .ok (.sh (.bool true)) [.sh (.tuple ds)]) (h16 : c 16 [.sh (.tuple ds)] = .ok (.sh (.bool true)) [.sh (.tuple ds)]) :
    wb1_done_alone c [P, T, .sh (.tuple vs), .sh (.tuple (.tuple ds :: rs)), .sh r, .ow (.list acc), s6, s7] = .ok (.rt (.sh (.tuple [.tuple acc, r, .str "wants"]))) [P, T, .sh (.tuple vs), .sh (.tuple (.tuple ds :: rs)), .sh r, .ow (.list acc), .sh (.tuple ds), .sh .none] := by
  have hl' : acc.length < 1000000 := by omega
  simp [wb1_done_alone, h7, h16, gNeg, m1, hl', hv]
theorem lN (hv : at_ vs no = some .none) (m0 : at_ ds 0 = some (.str w)) (hw : PyData.strOk w = true) (hw1 : (w == "write") = false) (h7 : c 32 [.sh (.tuple ds)] = .ok (.sh (.bool true)) [.sh (.tuple ds)]) :
    wb1__law_due c [P, T, .sh (.tuple vs), .sh (.tuple (.tuple ds :: rs)), .sh r, .ow (.list acc), s6, s7] = .ok (.rt (.sh (.tuple [.tuple acc, r, .str "wants"]))) [P, T, .sh (.tuple vs), .sh (.tuple (.tuple ds :: rs)), .sh r, .ow (.list acc), .sh (.tuple ds), .sh .none] := by
  have hl' : acc.length < 1000000 := by omega
  simp [wb1__law_due, h7, gNeg, m0, m1, hw, hw1, hl', hv]
end
end Lw
end
section
set_option Elab.async false
set_option linter.all false
set_option maxRecDepth 100000
namespace Lw
open PySem FE
variable {N : Int}
def goes : Option (List St) → Bool
  | some (_ :: _) => true
  | _ => false
theorem al_condP {o : Option (List St)} (h : ∀ rs, o = some rs → ∀ s ∈ rs, WfN N 2 s) (c : Nat → FS) (P T V s4 s5 s6 s7 : Slot) :
    wc1_done_alone c [P, T, V, .sh (rsD o), s4, s5, s6, s7] = .ok (goes o) [P, T, V, .sh (rsD o), s4, s5, s6, s7] := by
  cases o with
  | none => simp [wc1_done_alone, rsD, goes]
  | some rs =>
    have n0 := rs_ne0 (h rs rfl)
    cases rs with
    | nil => simp [wc1_done_alone, rsD, goes, dL]
    | cons q rs =>
      simp only [List.isEmpty_cons, Bool.not_false] at n0
      simp [wc1_done_alone, rsD, goes, n0]
theorem al_condL {o : Option (List St)} (h : ∀ rs, o = some rs → ∀ s ∈ rs, WfN N 2 s) (c : Nat → FS) (P T V s4 s5 s6 s7 : Slot) :
    wc1__law_due c [P, T, V, .sh (rsD o), s4, s5, s6, s7] = .ok (goes o) [P, T, V, .sh (rsD o), s4, s5, s6, s7] := by
  cases o with
  | none => simp [wc1__law_due, rsD, goes]
  | some rs =>
    have n0 := rs_ne0 (h rs rfl)
    cases rs with
    | nil => simp [wc1__law_due, rsD, goes, dL]
    | cons q rs =>
      simp only [List.isEmpty_cons, Bool.not_false] at n0
      simp [wc1__law_due, rsD, goes, n0]
/-- values for accesses: None or 0 to 15 -/
def VsOk (n : Nat) (vs : List D) : Prop := vs.length = n ∧ ∀ d ∈ vs, d = .none ∨ ∃ v : Int, d = .int v ∧ 0 ≤ v ∧ v ≤ 15
/-- what a loop over a thread comes to -/
inductive AlEnd
  | fin (o : Option (List St)) (r : D) (acc : List D)
  | want (r : D) (acc : List D)
def AlOut (P T V : Slot) : AlEnd → Fl → En → Prop
  | .fin o r acc, c, t => c = .nx ∧ ∃ s6 s7, t = [P, T, V, .sh (rsD o), .sh r, .ow (.list acc), s6, s7]
  | .want r acc, c, t => c = .rt (.sh (.tuple [.tuple acc, r, .str "wants"])) ∧ ∃ s3 s5 s6 s7, t = [P, T, V, s3, .sh r, s5, s6, s7]
/-- an access done: its number, what it read, what it wrote -/
def RowOk (d : D) : Prop := ∃ (n : Int) (x y : Option Int), d = .tuple [.int n, oI x, oI y]
def EndOk : AlEnd → Prop
  | .fin o r acc => goes o = false ∧ Rg r ∧ (∀ d ∈ acc, RowOk d) ∧ acc.length ≤ 200
  | .want r acc => Rg r ∧ (∀ d ∈ acc, RowOk d) ∧ acc.length ≤ 200
abbrev DP (n fuel : Nat) : SS := sWhileN (wc1_done_alone (S (n + 7))) (wb1_done_alone (S (n + 7))) fuel
abbrev DU (n fuel : Nat) : SS := sWhileN (wc1__law_due (S (n + 7))) (wb1__law_due (S (n + 7))) fuel
def AlOk (vs : List D) (o : Option (List St)) (r : D) (acc : List D) (z : Nat) : Prop := ∃ e : AlEnd, EndOk e ∧
  (∀ n fuel P T s6 s7, z < fuel → ∃ c t, AlOut P T (.sh (.tuple vs)) e c t ∧ DP n fuel [P, T, .sh (.tuple vs), .sh (rsD o), .sh r, .ow (.list acc), s6, s7] = .ok c t) ∧
  (∀ n fuel P T s6 s7, z < fuel → ∃ c t, AlOut P T (.sh (.tuple vs)) e c t ∧ DU n fuel [P, T, .sh (.tuple vs), .sh (rsD o), .sh r, .ow (.list acc), s6, s7] = .ok c t)
section
variable {vs : List D} {o : Option (List St)} {r : D} {acc : List D} {z : Nat} (hw : ∀ rs, o = some rs → ∀ s ∈ rs, WfN N 2 s)
include hw
theorem al_stop (hg : goes o = false) (hr : Rg r) (ha : ∀ d ∈ acc, RowOk d) (hl : acc.length ≤ 200) : AlOk vs o r acc z := by
  refine ⟨.fin o r acc, ⟨hg, hr, ha, hl⟩, fun n fuel P T s6 s7 hf => ?_, fun n fuel P T s6 s7 hf => ?_⟩
  · obtain ⟨f, rfl⟩ : ∃ f, fuel = f + 1 := ⟨fuel - 1, by omega⟩
    refine ⟨.nx, _, ⟨rfl, s6, s7, rfl⟩, ?_⟩
    show sWhileN _ _ _ _ = _
    rw [x_sWhileN, al_condP hw, hg]
    rfl
  · obtain ⟨f, rfl⟩ : ∃ f, fuel = f + 1 := ⟨fuel - 1, by omega⟩
    refine ⟨.nx, _, ⟨rfl, s6, s7, rfl⟩, ?_⟩
    show sWhileN _ _ _ _ = _
    rw [x_sWhileN, al_condL hw, hg]
    rfl
theorem al_want (hg : goes o = true) (hr : Rg r) (ha : ∀ d ∈ acc, RowOk d) (hl : acc.length ≤ 200)
    (p : ∀ n P T s6 s7, ∃ s3 s5 t6 t7, wb1_done_alone (S (n + 7)) [P, T, .sh (.tuple vs), .sh (rsD o), .sh r, .ow (.list acc), s6, s7] = .ok (.rt (.sh (.tuple [.tuple acc, r, .str "wants"]))) [P, T, .sh (.tuple vs), s3, .sh r, s5, t6, t7])
    (l : ∀ n P T s6 s7, ∃ s3 s5 t6 t7, wb1__law_due (S (n + 7)) [P, T, .sh (.tuple vs), .sh (rsD o), .sh r, .ow (.list acc), s6, s7] = .ok (.rt (.sh (.tuple [.tuple acc, r, .str "wants"]))) [P, T, .sh (.tuple vs), s3, .sh r, s5, t6, t7]) : AlOk vs o r acc z := by
  refine ⟨.want r acc, ⟨hr, ha, hl⟩, fun n fuel P T s6 s7 hf => ?_, fun n fuel P T s6 s7 hf => ?_⟩
  · obtain ⟨f, rfl⟩ : ∃ f, fuel = f + 1 := ⟨fuel - 1, by omega⟩
    obtain ⟨s3, s5, t6, t7, e⟩ := p n P T s6 s7
    refine ⟨_, _, ⟨rfl, s3, s5, t6, t7, rfl⟩, ?_⟩
    show sWhileN _ _ _ _ = _
    rw [x_sWhileN, al_condP hw, hg]
    simp [e]
  · obtain ⟨f, rfl⟩ : ∃ f, fuel = f + 1 := ⟨fuel - 1, by omega⟩
    obtain ⟨s3, s5, t6, t7, e⟩ := l n P T s6 s7
    refine ⟨_, _, ⟨rfl, s3, s5, t6, t7, rfl⟩, ?_⟩
    show sWhileN _ _ _ _ = _
    rw [x_sWhileN, al_condL hw, hg]
    simp [e]
theorem al_turn {o' : Option (List St)} {r' : D} {acc' : List D} {z' : Nat} (hg : goes o = true) (hz : z' < z)
    (p : ∀ n P T s6 s7, ∃ t6 t7, wb1_done_alone (S (n + 7)) [P, T, .sh (.tuple vs), .sh (rsD o), .sh r, .ow (.list acc), s6, s7] = .ok .nx [P, T, .sh (.tuple vs), .sh (rsD o'), .sh r', .ow (.list acc'), t6, t7])
    (l : ∀ n P T s6 s7, ∃ t6 t7, wb1__law_due (S (n + 7)) [P, T, .sh (.tuple vs), .sh (rsD o), .sh r, .ow (.list acc), s6, s7] = .ok .nx [P, T, .sh (.tuple vs), .sh (rsD o'), .sh r', .ow (.list acc'), t6, t7]) (k : AlOk vs o' r' acc' z') : AlOk vs o r acc z := by
  obtain ⟨e, ok, kp, kl⟩ := k
  refine ⟨e, ok, fun n fuel P T s6 s7 hf => ?_, fun n fuel P T s6 s7 hf => ?_⟩
  · obtain ⟨f, rfl⟩ : ∃ f, fuel = f + 1 := ⟨fuel - 1, by omega⟩
    obtain ⟨t6, t7, e1⟩ := p n P T s6 s7
    obtain ⟨c, t, l, e2⟩ := kp n f P T t6 t7 (by omega)
    refine ⟨c, t, l, ?_⟩
    show sWhileN _ _ _ _ = _
    rw [x_sWhileN, al_condP hw, hg]
    simp [e1]
    exact e2
  · obtain ⟨f, rfl⟩ : ∃ f, fuel = f + 1 := ⟨fuel - 1, by omega⟩
    obtain ⟨t6, t7, e1⟩ := l n P T s6 s7
    obtain ⟨c, t, l, e2⟩ := kl n f P T t6 t7 (by omega)
    refine ⟨c, t, l, ?_⟩
    show sWhileN _ _ _ _ = _
    rw [x_sWhileN, al_condL hw, hg]
    simp [e1]
    exact e2
end
def szO : Option (List St) → Nat
  | some rs => szL rs
  | none => 0
theorem alone2 {k : Nat} {vs : List D} (hv : VsOk k vs) : ∀ (z : Nat) (o : Option (List St)) (r : D) (acc : List D), szO o ≤ z → Rst (k : Int) 8 12 o → Rg r → (∀ d ∈ acc, RowOk d) → acc.length + z ≤ 100 → AlOk vs o r acc (z + 1) := by
  intro z
  induction z with
  | zero =>
    intro o r acc hz R hr ha hl
    cases o with
    | none => exact al_stop (N := k) (fun _ h => by cases h) rfl hr ha (by omega)
    | some rs =>
      cases rs with
      | nil => exact al_stop (N := k) (fun _ h => by cases h; simp) rfl hr ha (by omega)
      | cons s rs => have := s.sz_pos; simp only [szO, szL] at hz; omega
  | succ z ih =>
    intro o r acc hz R hr ha hl
    cases o with
    | none => exact al_stop (N := k) (fun _ h => by cases h) rfl hr ha (by omega)
    | some rs =>
      obtain ⟨w1, w2, w3, w4⟩ := R.wf rs rfl
      have W : ∀ q, some rs = some q → ∀ s ∈ q, WfN (k : Int) 2 s := fun q e => by cases e; exact w1
      cases rs with
      | nil => exact al_stop W rfl hr ha (by omega)
      | cons q rs =>
        have wr : ∀ s ∈ rs, WfN (k : Int) 2 s := fun x hx => w1 x (by simp [hx])
        have hc := nAc_c q rs
        have hs : szL (q :: rs) = q.sz + szL rs := by simp [szL]
        have hp := q.sz_pos
        simp only [szO] at hz
        have next : ∀ {o'}, Rst (k : Int) (nAc rs) (szL rs) o' → szO o' ≤ z ∧ Rst (k : Int) 8 12 o' := fun {o'} R' => by
          refine ⟨?_, R'.mono (by omega) (by omega)⟩
          cases o' with
          | none => simp [szO]
          | some q => have := (R'.wf q rfl).2.1; simp only [szO]; omega
        rcases head_kinds (w1 q (by simp)) w4 with ⟨k1, k2⟩ | ⟨k1, no, rd, n0, nN, F⟩
        · obtain ⟨o', r', R', hr', kp, kl⟩ := behindF (by omega) wr hr
          obtain ⟨s1, R2⟩ := next R'
          refine al_turn W rfl (Nat.lt_succ_self _) (fun n P T s6 s7 => ?_) (fun n P T s6 s7 => ?_) (ih o' r' acc s1 R2 hr' ha (by omega))
          · obtain ⟨f, g, h, e⟩ := kp n
            refine ⟨.sh fence, .sh .none, ?_⟩
            have := pF (S (n + 7)) (P := P) (T := T) (vs := vs) (acc := acc) (s6 := s6) (s7 := s7) (q := fence) (by rw [Sx_is_access]; exact f_pa _) (by rw [Sx_behind]; exact e)
            simpa [rsD, dL, k2] using this
          · obtain ⟨f, g, h, e⟩ := kl n
            refine ⟨.sh fence, .sh .none, ?_⟩
            have := lF (S (n + 7)) (P := P) (T := T) (vs := vs) (acc := acc) (s6 := s6) (s7 := s7) (q := fence) (by rw [Sx__law_is_access]; exact f_la _) (by rw [Sx__law_behind]; exact e)
            simpa [rsD, dL, k2] using this
        · obtain ⟨w, tl, hd, hw1, hw2⟩ := F.w
          obtain ⟨ys, hys⟩ := F.l
          have hh : ys ++ [.int no] = .str w :: tl := by rw [hys] at hd; exact PyData.tuple.inj hd
          have m1 : at_ (.str w :: tl) (-1) = some (.int no) := by rw [← hh, at_m1]; simp
          have m0 : at_ (.str w :: tl) 0 = some (.str w) := by simp
          have tv : no.toNat < vs.length := by rw [hv.1]; omega
          have hvx : at_ vs no = some (vs[no.toNat]'tv) := by rw [at_k _ _ n0 (by rw [hv.1]; omega), List.getElem?_eq_getElem tv]
          have F1 := F.pa
          have F2 := F.pr
          have F3 := F.la
          rw [hd] at F1 F2 F3
          have hl' : acc.length ≤ 1000 := by omega
          have rsd : rsD (some (q :: rs)) = .tuple (.tuple (.str w :: tl) :: dL rs) := by simp [rsD, dL, hd]
          cases rd with
          | false =>
            obtain ⟨o', r', R', hr', kp, kl⟩ := behindA F (by omega) wr hr 0 (by decide) (by decide)
            obtain ⟨u, hu, up, ul⟩ := F.wr r 0 hr (by decide) (by decide)
            obtain ⟨s1, R2⟩ := next R'
            rw [hd] at kp kl up ul
            have hw3 : (w == "write") = true := by simpa using hw2
            refine al_turn W rfl (Nat.lt_succ_self _) (fun n P T s6 s7 => ?_) (fun n P T s6 s7 => ?_) (ih o' r' (acc ++ [.tuple [.int no, .none, oI u]]) s1 R2 hr' ?_ (by simp; omega))
            · obtain ⟨f, g, h, e⟩ := kp n
              rw [rsd]
              exact ⟨_, _, pW (S (n + 7)) hl' m1 (by rw [Sx_is_access]; exact F1 _) (by rw [Sx_can_read]; exact F2 _) (by rw [Sx_written_by]; exact up (n + 1)) (by rw [Sx_behind]; exact e)⟩
            · obtain ⟨f, g, h, e⟩ := kl n
              rw [rsd]
              exact ⟨_, _, lW (S (n + 7)) hl' m1 m0 hw1 hw3 (by rw [Sx__law_is_access]; exact F3 _) (by rw [Sx__law_written]; exact ul (n + 1)) (by rw [Sx__law_behind]; exact e)⟩
            · intro d hd'
              rw [List.mem_append] at hd'
              rcases hd' with h | h
              · exact ha d h
              · simp at h; subst h; exact ⟨no, none, u, rfl⟩
          | true =>
            have hw3 : (w == "write") = false := by simpa using hw2
            rcases hv.2 _ (List.getElem_mem tv) with hx | ⟨v, hx, v0, v1⟩
            · rw [hx] at hvx
              refine al_want W rfl hr ha (by omega) (fun n P T s6 s7 => ?_) (fun n P T s6 s7 => ?_)
              · rw [rsd]
                exact ⟨_, _, _, _, pN (S (n + 7)) hl' m1 hvx (by rw [Sx_is_access]; exact F1 _) (by rw [Sx_can_read]; exact F2 _)⟩
              · rw [rsd]
                exact ⟨_, _, _, _, lN (S (n + 7)) hl' m1 hvx m0 hw1 hw3 (by rw [Sx__law_is_access]; exact F3 _)⟩
            · rw [hx] at hvx
              obtain ⟨o', r', R', hr', kp, kl⟩ := behindA F (by omega) wr hr v v0 v1
              obtain ⟨u, hu, up, ul⟩ := F.wr r v hr v0 v1
              obtain ⟨s1, R2⟩ := next R'
              rw [hd] at kp kl up ul
              refine al_turn W rfl (Nat.lt_succ_self _) (fun n P T s6 s7 => ?_) (fun n P T s6 s7 => ?_) (ih o' r' (acc ++ [.tuple [.int no, .int v, oI u]]) s1 R2 hr' ?_ (by simp; omega))
              · obtain ⟨f, g, h, e⟩ := kp n
                rw [rsd]
                exact ⟨_, _, pR (S (n + 7)) hl' m1 hvx (by rw [Sx_is_access]; exact F1 _) (by rw [Sx_can_read]; exact F2 _) (by rw [Sx_written_by]; exact up (n + 1)) (by rw [Sx_behind]; exact e)⟩
              · obtain ⟨f, g, h, e⟩ := kl n
                rw [rsd]
                exact ⟨_, _, lR (S (n + 7)) hl' m1 hvx m0 hw1 hw3 (by rw [Sx__law_is_access]; exact F3 _) (by rw [Sx__law_written]; exact ul (n + 1)) (by rw [Sx__law_behind]; exact e)⟩
              · intro d hd'
                rw [List.mem_append] at hd'
                rcases hd' with h | h
                · exact ha d h
                · simp at h; subst h; exact ⟨no, some v, u, rfl⟩
end Lw
end
section
set_option Elab.async false
set_option linter.all false
set_option maxRecDepth 100000
namespace Lw
open PySem FE
variable {N : Int}
/-! ### the accesses, and which are strong -/
def enl (i : Nat) : List (List St) → List (Int × St)
  | [] => []
  | b :: q => (acsL b).map (fun s => ((i : Int), s)) ++ enl (i + 1) q
def teD (t : Int × St) : D := .tuple [.int t.1, t.2.d]
theorem enl_snd : ∀ (q : List (List St)) (i : Nat), (enl i q).map (fun t => t.2) = q.flatMap acsL
  | [], i => rfl
  | b :: q, i => by simp [enl, enl_snd q, Function.comp_def]
theorem enl_len (q : List (List St)) (i : Nat) : (enl i q).length = tot q := by
  have : (enl i q).length = (q.flatMap acsL).length := by rw [← enl_snd q i, List.length_map]
  rw [this]
  clear this
  induction q with
  | nil => rfl
  | cons b q ih => simp [tot, acsL_len] at ih ⊢ <;> omega
theorem acsL_wf {k : Nat} {ss : List St} (h : ∀ s ∈ ss, Wf k s) : ∀ s ∈ acsL ss, Wf k s ∧ s.isAc = true := by
  intro s hs
  simp only [acsL, List.mem_filter] at hs
  exact ⟨wf_pre (szL ss) ss (Nat.le_refl _) h s hs.1, hs.2⟩
theorem wfn_inn {k : Nat} {s : St} (h : WfN N k s) : ∀ x ∈ s.inn, WfN N k x := by
  cases h with
  | ac h => simp [St.inn]
  | pl h => simp [St.inn]
  | ifs he hy hn =>
    intro x hx
    simp [St.inn] at hx
    exact hx.elim (fun q => (hy x q).up) (fun q => (hn x q).up)
theorem wfn_pre {k : Nat} : ∀ (T : Nat) (ss : List St), szL ss ≤ T → (∀ s ∈ ss, WfN N k s) → ∀ x ∈ preL ss, WfN N k x
  | 0, ss, hz, h => by
    cases ss with
    | nil => simp [preL]
    | cons s ss => have := s.sz_pos; simp [szL] at hz; omega
  | T + 1, ss, hz, h => by
    cases ss with
    | nil => simp [preL]
    | cons s ss =>
      have z := sz_inn s
      have z2 : szL (s :: ss) = s.sz + szL ss := by simp [szL]
      intro x hx
      simp [preL, pre_inn] at hx
      rcases hx with rfl | hx | hx
      · exact h x (by simp)
      · exact wfn_pre T s.inn (by omega) (wfn_inn (h s (by simp))) x hx
      · exact wfn_pre T ss (by omega) (fun y hy => h y (by simp [hy])) x hx
theorem acsL_wfn {k : Nat} {ss : List St} (h : ∀ s ∈ ss, WfN N k s) : ∀ s ∈ acsL ss, WfN N k s ∧ s.isAc = true := by
  intro s hs
  simp only [acsL, List.mem_filter] at hs
  exact ⟨wfn_pre (szL ss) ss (Nat.le_refl _) h s hs.1, hs.2⟩
def flP (p : List (List St)) : List Bool := (p.map fl).flatten
theorem flP_eq (q : List (List St)) : (q.flatMap acsL).map (fun s => stgD s.d) = flP q := by
  induction q with
  | nil => rfl
  | cons b q ih => simp only [List.flatMap_cons, List.map_append, flP, List.map_cons, List.flatten_cons] at ih ⊢; rw [ih]; rfl
theorem flP_len (q : List (List St)) : (flP q).length = tot q := by
  rw [← flP_eq, List.length_map]
  have := enl_len q 0
  have e := congrArg List.length (enl_snd q 0)
  rw [List.length_map] at e
  omega
section
variable {p : List (List St)} (P : Pr p)
include P
theorem acc_p (n : Nat) : b_accesses_in (S (n + 3)) [.sh (pD p)] = .ok (.fr (.list ((enl 0 p).map teD))) [.sh (pD p)] := by
  have l4 := P.l4
  have key : ∀ (q : List (List St)) (i : Nat), (∀ b ∈ q, b ∈ p) → ∀ acc,
      cLoop (gT 2 (gsC (gN 1) (gsC (gN 2) gsN))) [1, 2, 3] (cIn tYesS (ci1_accesses_in (S (n + 3))) (gN 3) [3] (cu1_accesses_in (S (n + 3))) (ce1_accesses_in (S (n + 3)))) (enumD i (q.map bD)) acc [.sh (pD p), .un, .un, .un] = .ok (acc ++ (enl i q).map teD) [.sh (pD p), .un, .un, .un] := by
    intro q
    induction q with
    | nil => intro i _ acc; simp [enumD, enl]
    | cons b q ih =>
      intro i hq acc
      have hb := hq b (by simp)
      have z := P.sz b hb
      have w := P.wf b hb
      have hw := wf_pre _ b (Nat.le_refl _) w
      have c := cl_pure (gN 3) [3] (cItem (cu1_accesses_in (S (n + 3))) (ce1_accesses_in (S (n + 3)))) [.sh (pD p), .sh (.int (i : Nat)), .sh (bD b), .un] St.d (fun s => if s.isAc = true then [.tuple [.int (i : Nat), s.d]] else []) (preL b) (fun s hs acc => ⟨_, [.sh (pD p), .sh (.int (i : Nat)), .sh (bD b), .sh s.d], rfl, by
        have i := ev_isac (n + 2) s (hw s hs)
        cases hq : s.isAc <;> rw [hq] at i <;> simp [cu1_accesses_in, ce1_accesses_in, i], by simp⟩) acc
      rw [fm_filter (fun s : St => PyData.tuple [.int (i : Nat), s.d])] at c
      have e1 : (dL (preL b)).length ≤ 1000 := by rw [dL_map, List.length_map, len_pre (szL b) b (by omega)]; omega
      have hd := ih (i + 1) (fun x hx => hq x (by simp [hx])) (acc ++ ((preL b).filter St.isAc).map fun s => PyData.tuple [.int (i : Nat), s.d])
      have en : (enl i (b :: q)).map teD = ((preL b).filter St.isAc).map (fun s => PyData.tuple [.int (i : Nat), s.d]) ++ (enl (i + 1) q).map teD := by
        simp [enl, acsL, teD, Function.comp_def]
      rw [en]
      rw [← dL_map] at c
      rw [List.map_cons]
      unfold enumD
      rw [x_cl1]
      simp [ci1_accesses_in, ev_all (n + 1) b w (by omega), x_cnK2 _ _ _ _ _ _ _ e1]
      rw [c]
      simp
      rw [List.append_assoc] at hd
      exact hd
  have hd := key p 0 (fun b hb => hb) []
  have e2 : (enumD 0 (p.map bD)).length ≤ 1000 := by rw [enumD_len]; simp; omega
  have e3 : pD p = .tuple (p.map bD) := rfl
  rw [e3] at hd ⊢
  simp only [List.nil_append] at hd
  simp [b_accesses_in, cm1_accesses_in, x_coK' _ _ _ _ _ _ _ _ _ _ e2, hd]
theorem enl_ac : ∀ (q : List (List St)) (i : Nat), (∀ b ∈ q, b ∈ p) → ∀ t ∈ enl i q, ∃ d, t.2 = .ac d ∧ IsAc d
  | [], i, _, t, h => by cases h
  | b :: q, i, hq, t, h => by
    simp only [enl, List.mem_append, List.mem_map] at h
    rcases h with ⟨s, hs, rfl⟩ | h
    · have w := acsL_wf (P.wf b (hq b (by simp))) s hs
      cases w.1 with
      | @ac _ d hh => exact ⟨d, rfl, hh⟩
      | pl hh => cases w.2
      | ifs => cases w.2
    · exact enl_ac q (i + 1) (fun x hx => hq x (by simp [hx])) t h
end
/-! the law's own -/
theorem lacc_one (n k : Nat) (rec : ∀ k', k = k' + 1 → ∀ (n : Nat) (ss : List St), (∀ s ∈ ss, WfN N k' s) → szL ss ≤ 500 → b__law_accesses (S (n + k' + 1)) [.sh (bD ss)] = .ok (.fr (.list ((acsL ss).map St.d))) [.sh (bD ss)])
    (s : St) (h : WfN N k s) (hz : s.sz ≤ 500) (v : Slot) (acc : List D) (hl : acc.length ≤ 1000) :
    fb1__law_accesses (S (n + k + 1)) [v, .ow (.list acc), .sh s.d] = .ok .nx [v, .ow (.list (acc ++ (acsL [s]).map St.d)), .sh s.d] := by
  have hl' : acc.length < 1000000 := by omega
  cases h with
  | @ac _ xs i hh i0 iN =>
    have e : (acsL [St.ac (.tuple (xs ++ [.int i]))]).map St.d = [.tuple (xs ++ [.int i])] := by rw [acsL_c]; simp [St.isAc, St.inn, acsL_0]
    rw [e]
    cases hh <;> simp [fb1__law_accesses, b__law_is_access, hl', o_in, SeqAt.shaped, PyData.canLay0, PyData.canLayAll0, PyData.depth, PyData.depthAll, PyData.eqv]
  | @pl _ d hh =>
    have e : (acsL [St.pl d]).map St.d = [] := by rw [acsL_c]; simp [St.isAc, St.inn, acsL_0]
    rw [e]
    cases hh <;> simp [fb1__law_accesses, b__law_is_access, hl', o_in, SeqAt.shaped, PyData.canLay0, PyData.canLayAll0, PyData.depth, PyData.depthAll, PyData.eqv]
  | @ifs k e ys ns he hy hn =>
    simp only [St.sz] at hz
    have r1 := rec k rfl n ys hy (by omega)
    have r2 := rec k rfl n ns hn (by omega)
    have ee : n + (k + 1) = n + k + 1 := by omega
    rw [← ee] at r1 r2
    have e1 : (acsL [St.ifs e ys ns]).map St.d = (acsL ys).map St.d ++ (acsL ns).map St.d := by rw [acsL_c]; simp [St.isAc, St.inn, acsL_0, acsL_app]
    have z1 : (acsL ys).length ≤ 500 := by
      have h1 : (acsL ys).length ≤ (preL ys).length := List.length_filter_le _ _
      have h2 := len_pre (szL ys) ys (Nat.le_refl _)
      omega
    have z2 : (acsL ns).length ≤ 500 := by
      have h1 : (acsL ns).length ≤ (preL ns).length := List.length_filter_le _ _
      have h2 := len_pre (szL ns) ns (Nat.le_refl _)
      omega
    have a1 := o_addl acc ((acsL ys).map St.d) (by simp; omega)
    have a2 := o_addl (acc ++ (acsL ys).map St.d) ((acsL ns).map St.d) (by simp; omega)
    rw [List.append_assoc] at a2
    rw [e1, St.d_ifs]
    simp [fb1__law_accesses, b__law_is_access, r1, r2, a1, a2, o_in, SeqAt.shaped, PyData.canLay0, PyData.canLayAll0, PyData.depth, PyData.depthAll, PyData.eqv, -o_addl]
theorem lacc_loop (n k : Nat) (rec : ∀ k', k = k' + 1 → ∀ (n : Nat) (ss : List St), (∀ s ∈ ss, WfN N k' s) → szL ss ≤ 500 → b__law_accesses (S (n + k' + 1)) [.sh (bD ss)] = .ok (.fr (.list ((acsL ss).map St.d))) [.sh (bD ss)])
    (v : Slot) : ∀ (ss : List St), (∀ s ∈ ss, WfN N k s) → ∀ (acc : List D) (s2 : Slot), acc.length + szL ss ≤ 500 →
    ∃ s2', sLoop (gN 2) (fb1__law_accesses (S (n + k + 1))) (dL ss) [v, .ow (.list acc), s2] = .ok .nx [v, .ow (.list (acc ++ (acsL ss).map St.d)), s2']
  | [], _, acc, s2, _ => ⟨s2, by simp [dL, acsL_0]⟩
  | s :: ss, h, acc, s2, hl => by
    have hz : szL (s :: ss) = s.sz + szL ss := by simp [szL]
    have h1 := lacc_one n k rec s (h s (by simp)) (by omega) v acc (by omega)
    have l1 : (acsL [s]).length ≤ s.sz := by
      have h1 : (acsL [s]).length ≤ (preL [s]).length := List.length_filter_le _ _
      have h2 := len_pre (szL [s]) [s] (Nat.le_refl _)
      have h3 : szL [s] = s.sz := by simp [szL]
      omega
    obtain ⟨u2, h2⟩ := lacc_loop n k rec v ss (fun x hx => h x (by simp [hx])) (acc ++ (acsL [s]).map St.d) (.sh s.d) (by simp; omega)
    refine ⟨u2, ?_⟩
    have e : dL (s :: ss) = s.d :: dL ss := by simp [dL]
    have e2 : acsL (s :: ss) = acsL [s] ++ acsL ss := by rw [acsL_c s ss, acsL_c s [], acsL_0]; simp
    rw [e, x_loop1, e2]
    simp [h1]
    simpa using h2
theorem lacc_ok : ∀ (k : Nat) (n : Nat) (ss : List St), (∀ s ∈ ss, WfN N k s) → szL ss ≤ 500 → b__law_accesses (S (n + k + 1)) [.sh (bD ss)] = .ok (.fr (.list ((acsL ss).map St.d))) [.sh (bD ss)]
  | k, n, ss, h, hz => by
    obtain ⟨a, hw⟩ := lacc_loop n k (fun k' e => by subst e; exact lacc_ok k') (.sh (bD ss)) ss h [] .un (by simp; omega)
    simp only [List.nil_append] at hw
    unfold b__law_accesses
    simp [hw]
theorem lall_loop (n : Nat) (v : Slot) : ∀ (q : List (List St)), (∀ b ∈ q, (∀ s ∈ b, WfN N 2 s) ∧ szL b ≤ 12 ∧ nAc b ≤ 8) → ∀ (i : Nat) (acc : List D) (s2 s3 : Slot), acc.length + 12 * q.length ≤ 500 →
    ∃ s2' s3', sLoop (gT 2 (gsC (gN 2) (gsC (gN 3) gsN))) (fb1__law_all (S (n + 4))) (enumD i (q.map bD)) [v, .ow (.list acc), s2, s3, .un] = .ok .nx [v, .ow (.list (acc ++ (enl i q).map teD)), s2', s3', .un]
  | [], _, i, acc, s2, s3, _ => ⟨s2, s3, by simp [enumD, enl]⟩
  | b :: q, h, i, acc, s2, s3, hl => by
    have hb := h b (by simp)
    simp only [List.length_cons] at hl
    have r := lacc_ok 2 n b hb.1 (by omega)
    have l8 : (acsL b).length ≤ 8 := by rw [acsL_len]; exact hb.2.2
    have lt : ((acsL b).map St.d).length ≤ 1000000 := by simp; omega
    have c := cl_pure (gN 4) [4] (cItem tYesS (ce1__law_all (S (n + 4)))) [v, .ow (.list acc), .sh (.int (i : Nat)), .sh (bD b), .un] St.d (fun s => [.tuple [.int (i : Nat), s.d]]) (acsL b) (fun s hs acc' => ⟨_, [v, .ow (.list acc), .sh (.int (i : Nat)), .sh (bD b), .sh s.d], rfl, by simp [ce1__law_all], by simp⟩) []
    rw [fm_one] at c
    simp only [List.nil_append] at c
    have ce : cm1__law_all (S (n + 4)) [v, .ow (.list acc), .sh (.int (i : Nat)), .sh (bD b), .un] = .ok (.fr (.list ((acsL b).map fun s => .tuple [.int (i : Nat), s.d]))) [v, .ow (.list acc), .sh (.int (i : Nat)), .sh (bD b), .un] := by
      simp [cm1__law_all, r, x_coK _ _ _ _ _ _ lt, c]
    have a1 := o_addl acc ((acsL b).map fun s => .tuple [.int (i : Nat), s.d]) (by simp; omega)
    have hb1 : fb1__law_all (S (n + 4)) [v, .ow (.list acc), .sh (.int (i : Nat)), .sh (bD b), .un] = .ok .nx [v, .ow (.list (acc ++ (acsL b).map fun s => .tuple [.int (i : Nat), s.d])), .sh (.int (i : Nat)), .sh (bD b), .un] := by
      simp [fb1__law_all, ce, a1, -o_addl]
    obtain ⟨u2, u3, h2⟩ := lall_loop n v q (fun x hx => h x (by simp [hx])) (i + 1) (acc ++ (acsL b).map fun s => .tuple [.int (i : Nat), s.d]) (.sh (.int (i : Nat))) (.sh (bD b)) (by simp; omega)
    have en : (enl i (b :: q)).map teD = (acsL b).map (fun s => PyData.tuple [.int (i : Nat), s.d]) ++ (enl (i + 1) q).map teD := by
      simp [enl, teD, Function.comp_def]
    refine ⟨u2, u3, ?_⟩
    rw [en, List.map_cons]
    unfold enumD
    rw [x_loop1]
    simp [hb1]
    simpa using h2
theorem enl_wfn : ∀ (q : List (List St)) (i : Nat), (∀ b ∈ q, ∀ s ∈ b, WfN N 2 s) → ∀ t ∈ enl i q, ∃ xs j, t.2 = .ac (.tuple (xs ++ [.int j])) ∧ IsAc (.tuple xs)
  | [], i, hq, t, h => by cases h
  | b :: q, i, hq, t, h => by
    simp only [enl, List.mem_append, List.mem_map] at h
    rcases h with ⟨s, hs, rfl⟩ | h
    · have w := acsL_wfn (hq b (by simp)) s hs
      cases w.1 with
      | @ac _ xs j hh => exact ⟨xs, j, rfl, hh⟩
      | pl hh => cases w.2
      | ifs => cases w.2
    · exact enl_wfn q (i + 1) (fun x hx => hq x (by simp [hx])) t h
section
variable {p : List (List St)} (P : Pr p)
include P
theorem all_l : ∃ q : List (List St), (∀ b ∈ q, ∀ s ∈ b, WfN (tot p : Nat) 2 s) ∧ q.map fl = p.map fl ∧ tot q = tot p ∧ ∀ n, b__law_all (S (n + 5)) [.sh (pD p)] = .ok (.fr (.list ((enl 0 q).map teD))) [.sh (pD p)] := by
  obtain ⟨q, e1, l1, w1, m1⟩ := P.nums
  have l4 := P.l4
  have hw : ∀ b ∈ p, (∀ s ∈ b, Wf 2 s) ∧ b.length ≤ 12 := fun b hb => ⟨P.wf b hb, Nat.le_trans (szL_len b) (P.sz b hb)⟩
  have t1 : tot q = tot p := by
    rw [← flP_len q, ← flP_len p]
    unfold flP
    rw [m1]
  refine ⟨q, fun b hb => (w1 b hb).1, m1, t1, fun n => ?_⟩
  have a := ev_nut n p hw l4
  rw [e1] at a
  obtain ⟨u2, u3, e⟩ := lall_loop (n + 1) (.sh (pD p)) q w1 0 [] .un .un (by simp; omega)
  simp only [List.nil_append] at e
  simp [b__law_all, a, e]
/-- how many accesses, by the law -/
theorem many_l : ∃ ds : List D, ds.length = tot p ∧ ∀ n, b__law_all (S (n + 5)) [.sh (pD p)] = .ok (.fr (.list ds)) [.sh (pD p)] := by
  obtain ⟨q, wq, mq, tq, eq⟩ := all_l P
  exact ⟨_, by rw [List.length_map, enl_len, tq], eq⟩
end
end Lw
end
section
set_option Elab.async false
set_option linter.all false
set_option maxRecDepth 100000
namespace Lw
open PySem FE
variable {N : Int}
def endW : Option (List St) → Str
  | none => "stuck"
  | some _ => "end"
theorem rs_is (o : Option (List St)) : gIs [rsD o, .none] = some (false, .bool (match o with | none => true | some _ => false)) := by
  cases o <;> rfl
section
variable (c : Nat → FS) {p : D} {ths vs acc : List D} {t : Int} {rest r r' : D} {o : Option (List St)} {s3 s5 s6 s7 : Slot}
theorem dn_fin (h : c 22 [.sh p] = .ok (.sh (.tuple ths)) [.sh p]) (ix : at_ ths t = some (.tuple [rest, r])) (hl : acc.length ≤ 1000)
    (hw : sWhileN (wc1_done_alone c) (wb1_done_alone c) wfuel [.sh p, .sh (.int t), .sh (.tuple vs), .sh rest, .sh r, .ow (.list []), .un, .un] = .ok .nx [.sh p, .sh (.int t), .sh (.tuple vs), .sh (rsD o), .sh r', .ow (.list acc), s6, s7]) :
    b_done_alone c [.sh p, .sh (.int t), .sh (.tuple vs)] = .ok (.sh (.tuple [.tuple acc, r', .str (endW o)])) [.sh p, .sh (.int t), .sh (.tuple vs)] := by
  have hl' : acc.length ≤ 1000000 := by omega
  cases o with
  | none =>
    simp only [rsD] at hw
    simp [b_done_alone, h, ix, sWhile, hw, hl', endW]
  | some rs =>
    have g := rs_is (some rs)
    simp only [rsD] at hw g
    simp [b_done_alone, h, ix, sWhile, hw, g, hl', endW]
theorem dn_want (h : c 22 [.sh p] = .ok (.sh (.tuple ths)) [.sh p]) (ix : at_ ths t = some (.tuple [rest, r]))
    (hw : sWhileN (wc1_done_alone c) (wb1_done_alone c) wfuel [.sh p, .sh (.int t), .sh (.tuple vs), .sh rest, .sh r, .ow (.list []), .un, .un] = .ok (.rt (.sh (.tuple [.tuple acc, r', .str "wants"]))) [.sh p, .sh (.int t), .sh (.tuple vs), s3, .sh r', s5, s6, s7]) :
    b_done_alone c [.sh p, .sh (.int t), .sh (.tuple vs)] = .ok (.sh (.tuple [.tuple acc, r', .str "wants"])) [.sh p, .sh (.int t), .sh (.tuple vs)] := by
  simp [b_done_alone, h, ix, sWhile, hw]
theorem du_fin (h : c 40 [.sh p] = .ok (.sh (.tuple ths)) [.sh p]) (ix : at_ ths t = some (.tuple [rest, r])) (hl : acc.length ≤ 1000)
    (hw : sWhileN (wc1__law_due c) (wb1__law_due c) wfuel [.sh p, .sh (.int t), .sh (.tuple vs), .sh rest, .sh r, .ow (.list []), .un, .un] = .ok .nx [.sh p, .sh (.int t), .sh (.tuple vs), .sh (rsD o), .sh r', .ow (.list acc), s6, s7]) :
    b__law_due c [.sh p, .sh (.int t), .sh (.tuple vs)] = .ok (.sh (.tuple [.tuple acc, r', .str (endW o)])) [.sh p, .sh (.int t), .sh (.tuple vs)] := by
  have hl' : acc.length ≤ 1000000 := by omega
  cases o with
  | none =>
    simp only [rsD] at hw
    simp [b__law_due, h, ix, sWhile, hw, hl', endW]
  | some rs =>
    have g := rs_is (some rs)
    simp only [rsD] at hw g
    simp [b__law_due, h, ix, sWhile, hw, g, hl', endW]
theorem du_want (h : c 40 [.sh p] = .ok (.sh (.tuple ths)) [.sh p]) (ix : at_ ths t = some (.tuple [rest, r]))
    (hw : sWhileN (wc1__law_due c) (wb1__law_due c) wfuel [.sh p, .sh (.int t), .sh (.tuple vs), .sh rest, .sh r, .ow (.list []), .un, .un] = .ok (.rt (.sh (.tuple [.tuple acc, r', .str "wants"]))) [.sh p, .sh (.int t), .sh (.tuple vs), s3, .sh r', s5, s6, s7]) :
    b__law_due c [.sh p, .sh (.int t), .sh (.tuple vs)] = .ok (.sh (.tuple [.tuple acc, r', .str "wants"])) [.sh p, .sh (.int t), .sh (.tuple vs)] := by
  simp [b__law_due, h, ix, sWhile, hw]
end
theorem nice_oI (k : Nat) (x : Option Int) : Nice k (oI x) := by
  cases x with
  | none => exact nice_non _
  | some v => exact nice_int _ _
theorem nice_row {d : D} (h : RowOk d) : Nice 1 d := by
  obtain ⟨n, x, y, rfl⟩ := h
  exact nice_tup (k := 0) (by intro z hz; simp at hz; rcases hz with rfl | rfl | rfl; exact nice_int _ _; exact nice_oI _ _; exact nice_oI _ _)
theorem nice_told {acc : List D} (ha : ∀ d ∈ acc, RowOk d) {r : D} (hr : Rg r) (w : Str) (hw : PyData.strOk w = true) : Nice 4 (.tuple [.tuple acc, r, .str w]) :=
  nice_tup (k := 3) (by
    intro z hz
    simp at hz
    rcases hz with rfl | rfl | rfl
    · exact nice_tup (k := 2) fun d hd => (nice_row (ha d hd)).mono (by decide)
    · exact hr.nice.mono (by decide)
    · exact nice_str hw)
/-- both tell the same -/
theorem done2 {p : List (List St)} (P : Pr p) {vs : List D} (hv : VsOk (tot p) vs) {t : Int} (t0 : 0 ≤ t) (t1 : t < p.length) : ∃ d, Nice 4 d ∧
    (∀ n, b_done_alone (S (n + 7)) [.sh (pD p), .sh (.int t), .sh (.tuple vs)] = .ok (.sh d) [.sh (pD p), .sh (.int t), .sh (.tuple vs)]) ∧
    (∀ n, b__law_due (S (n + 7)) [.sh (pD p), .sh (.int t), .sh (.tuple vs)] = .ok (.sh d) [.sh (pD p), .sh (.int t), .sh (.tuple vs)]) := by
  obtain ⟨ths, l, g, ep, el⟩ := begun2 P
  obtain ⟨⟨o, r⟩, hx⟩ := has ths t t0 (by rw [l]; exact t1)
  have ix := ix_map thD _ _ _ t0 hx
  have hk := g _ (List.mem_of_getElem? hx)
  have R : Rst (tot p : Nat) 8 12 o := hk.rs
  have hr : Rg r := hk.rg
  have hz : szO o ≤ 12 := by
    cases o with
    | none => simp [szO]
    | some q => have := (R.wf q rfl).2.1; simp only [szO]; omega
  obtain ⟨e, ok, kp, kl⟩ := alone2 hv 12 o r [] hz R hr (by simp) (by simp)
  simp only [thD] at ix
  have e1 : ∀ n, S (n + 7) 22 [.sh (pD p)] = .ok (.sh (.tuple (ths.map thD))) [.sh (pD p)] := fun n => by rw [show (22 : Nat) = i_begun from rfl, Sx_begun]; exact ep n
  have e2 : ∀ n, S (n + 7) 40 [.sh (pD p)] = .ok (.sh (.tuple (ths.map thD))) [.sh (pD p)] := fun n => by rw [show (40 : Nat) = i__law_begun from rfl, Sx__law_begun]; exact el n
  cases e with
  | fin o' r' acc =>
    obtain ⟨hg, hr', ha, hl⟩ := ok
    refine ⟨_, nice_told ha hr' (endW o') (by cases o' <;> simp [endW]), fun n => ?_, fun n => ?_⟩
    · obtain ⟨c, t', ⟨rfl, s6, s7, rfl⟩, h⟩ := kp n wfuel (.sh (pD p)) (.sh (.int t)) .un .un (by unfold wfuel; omega)
      exact dn_fin _ (e1 n) ix (by omega) h
    · obtain ⟨c, t', ⟨rfl, s6, s7, rfl⟩, h⟩ := kl n wfuel (.sh (pD p)) (.sh (.int t)) .un .un (by unfold wfuel; omega)
      exact du_fin _ (e2 n) ix (by omega) h
  | want r' acc =>
    obtain ⟨hr', ha, hl⟩ := ok
    refine ⟨_, nice_told ha hr' "wants" (by simp), fun n => ?_, fun n => ?_⟩
    · obtain ⟨c, t', ⟨rfl, s3, s5, s6, s7, rfl⟩, h⟩ := kp n wfuel (.sh (pD p)) (.sh (.int t)) .un .un (by unfold wfuel; omega)
      exact dn_want _ (e1 n) ix h
    · obtain ⟨c, t', ⟨rfl, s3, s5, s6, s7, rfl⟩, h⟩ := kl n wfuel (.sh (pD p)) (.sh (.int t)) .un .un (by unfold wfuel; omega)
      exact du_want _ (e2 n) ix h
end Lw
end
section
set_option Elab.async false
set_option linter.all false
set_option maxRecDepth 100000
namespace Lw
open PySem FE
variable {N : Int}
theorem pD_len (p : List (List St)) : gLen [pD p] = some (false, .int (p.length : Nat)) := by simp [pD]
theorem ev_numb (n : Nat) (d : D) (lo hi : Int) : b_need_number (S (n + 1)) [.sh d, .sh (.int lo), .sh (.int hi)] = if wholeB d lo hi = true then .ok (.sh .none) [.sh d, .sh (.int lo), .sh (.int hi)] else .exc ⟨"InvalidNumber", []⟩ [.sh d, .sh (.int lo), .sh (.int hi)] := by
  have w := ev_whole (S n) d lo hi
  cases hq : wholeB d lo hi <;> rw [hq] at w <;> simp [b_need_number, w]
theorem fits_v {p : List (List St)} (P : Pr p) {vs : List D} (hv : VsOk (tot p) vs) (n : Nat) : b_fits_values (S (n + 4)) [.sh (pD p), .sh (.tuple vs)] = .ok (.sh (.bool true)) [.sh (pD p), .sh (.tuple vs)] := by
  have ac := acc_p P n
  have t8 := P.tot8
  obtain ⟨J, hJ⟩ : ∃ J : Int, (tot p : Int) = J := ⟨_, rfl⟩
  have gl : gLen [.list ((enl 0 p).map teD)] = some (false, .int J) := by
    rw [← hJ, ← enl_len p 0]
    show some (false, PyData.int (((enl 0 p).map teD).length : Nat)) = _
    rw [List.length_map]
  have tu := ev_tup (S (n + 3)) (.tuple vs) J J
  have tb : tupB (.tuple vs) J J = true := by simp [hv.1]; omega
  rw [tb] at tu
  have lt : vs.length ≤ 1000000 := by rw [hv.1]; omega
  have c := cl_pure (gN 3) [3] (cItem tYesS (ce1_fits_values (S (n + 4)))) [.sh (pD p), .sh (.tuple vs), .sh (.int J), .un] id (fun _ => [PyData.bool true]) vs (fun d hd acc => ⟨_, [.sh (pD p), .sh (.tuple vs), .sh (.int J), .sh d], rfl, by
    rcases hv.2 d hd with rfl | ⟨v, rfl, v0, v1⟩
    · simp [ce1_fits_values]
    · have w := ev_whole (S (n + 3)) (.int v) 0 15
      simp [v0, v1] at w
      simp [ce1_fits_values, k_VALUES, w], by simp⟩) []
  rw [fm_one, List.map_id] at c
  simp only [List.nil_append] at c
  have at1 := all_true vs
  simp [b_fits_values, cm1_fits_values, ac, gl, tu, x_coK _ _ _ _ _ _ lt, c, at1, -o_lenl]
theorem ta (c : Nat → FS) {p vs d : D} {t J : Int} (h17 : c 17 [.sh p] = .ok (.sh .none) [.sh p]) (gl : gLen [p] = some (false, .int J)) (h18 : c 18 [.sh (.int t), .sh (.int 0), .sh (.int (J - 1))] = .ok (.sh .none) [.sh (.int t), .sh (.int 0), .sh (.int (J - 1))]) (h26 : c 26 [.sh p, .sh vs] = .ok (.sh (.bool true)) [.sh p, .sh vs]) (h25 : c 25 [.sh p, .sh (.int t), .sh vs] = .ok (.sh d) [.sh p, .sh (.int t), .sh vs]) :
    b_thread_alone c [.sh p, .sh (.int t), .sh vs] = .ok (.sh d) [.sh p, .sh (.int t), .sh vs] := by
  simp [b_thread_alone, h17, gl, h18, h26, h25]
/-- both tell the same of a thread alone -/
theorem thread2 {p : List (List St)} (P : Pr p) {vs : List D} (hv : VsOk (tot p) vs) {t : Int} (t0 : 0 ≤ t) (t1 : t < p.length) : ∃ d, Nice 4 d ∧
    (∀ n, b_thread_alone (S (n + 8)) [.sh (pD p), .sh (.int t), .sh (.tuple vs)] = .ok (.sh d) [.sh (pD p), .sh (.int t), .sh (.tuple vs)]) ∧
    (∀ n, b__law_due (S (n + 7)) [.sh (pD p), .sh (.int t), .sh (.tuple vs)] = .ok (.sh d) [.sh (pD p), .sh (.int t), .sh (.tuple vs)]) := by
  obtain ⟨d, nd, ep, el⟩ := done2 P hv t0 t1
  refine ⟨d, nd, fun n => ?_, el⟩
  obtain ⟨J, hJ⟩ : ∃ J : Int, (p.length : Int) = J := ⟨_, rfl⟩
  have w := ev_numb (n + 6) (.int t) 0 (J - 1)
  rw [if_pos (by simp; omega)] at w
  exact ta _ (J := J) (by rw [show (17 : Nat) = i_need_program from rfl, Sx_need_program]; exact ev_need (n + 2) P) (by rw [← hJ]; exact pD_len p) (by rw [show (18 : Nat) = i_need_number from rfl, Sx_need_number]; exact w)
    (by rw [show (26 : Nat) = i_fits_values from rfl, Sx_fits_values]; exact fits_v P hv (n + 3)) (by rw [show (25 : Nat) = i_done_alone from rfl, Sx_done_alone]; exact ep n)
/-! ### drawn values -/
abbrev en (L s1 s2 s3 s4 s5 s6 s19 : Slot) : En := [L, s1, s2, s3, s4, s5, s6, .un, .un, .un, .un, .un, .un, .un, .un, .un, .un, .un, .un, s19, .un, .un]
theorem v1 (c c2 : Nat → FS) {cu cu1 cu2 d : D} {k : Int} {L s2 s3 s4 s5 s6 s19 : Slot} (h1 : c 29 [.pa cu, .sh (.int 16)] = .ok (.sh (.int k)) [.pa cu1, .sh (.int 16)]) (h2 : c 30 [.pa cu1, .sh (.list [.none, .int 0, .int 1, .int k, .int 2, .int 1])] = .ok (.sh d) [.pa cu2, .sh (.list [.none, .int 0, .int 1, .int k, .int 2, .int 1])]) :
    ce1_law c c2 (en L (.ow cu) s2 s3 s4 s5 s6 s19) = .ok (.sh d) (en L (.ow cu2) s2 s3 s4 s5 s6 s19) := by
  simp [ce1_law, h1, h2]
theorem vs_loop (L s2 s3 s4 s5 s6 : Slot) : ∀ (is : List D) (cu : D) (acc : List D), GC cu → ∃ cu' vs, GC cu' ∧ VsOk is.length vs ∧
    cLoop (gN 19) [19] (cItem tYesS (ce1_law (S 39) (S 37))) is acc (en L (.ow cu) s2 s3 s4 s5 s6 .un) = .ok (acc ++ vs) (en L (.ow cu') s2 s3 s4 s5 s6 .un)
  | [], cu, acc, g => ⟨cu, [], g, ⟨rfl, by simp⟩, by simp⟩
  | i :: is, cu, acc, g => by
    obtain ⟨k, c1, g1, k0, k1, e1⟩ := roll 38 cu 16 g (by decide) (by decide)
    obtain ⟨d, c2, hd, g2, e2⟩ := some_ 37 c1 [.none, .int 0, .int 1, .int k, .int 2, .int 1] g1 (by simp) (by simp)
    have q := v1 (S 39) (S 37) (L := L) (s2 := s2) (s3 := s3) (s4 := s4) (s5 := s5) (s6 := s6) (s19 := .sh i) (k := k) (by rw [show (29 : Nat) = i__law_roll from rfl, Sx__law_roll]; exact e1) (by rw [show (30 : Nat) = i__law_some from rfl, Sx__law_some]; exact e2)
    obtain ⟨c3, vs, g3, hv, e3⟩ := vs_loop L s2 s3 s4 s5 s6 is c2 (acc ++ [d]) g2
    refine ⟨c3, d :: vs, g3, ⟨by simp [hv.1], ?_⟩, ?_⟩
    · intro x hx
      simp at hx
      rcases hx with rfl | hx
      · simp at hd
        rcases hd with rfl | rfl | rfl | rfl | rfl | rfl
        · exact .inl rfl
        · exact .inr ⟨0, rfl, by decide, by decide⟩
        · exact .inr ⟨1, rfl, by decide, by decide⟩
        · exact .inr ⟨k, rfl, k0, by omega⟩
        · exact .inr ⟨2, rfl, by decide, by decide⟩
        · exact .inr ⟨1, rfl, by decide, by decide⟩
      · exact hv.2 x hx
    · rw [x_cl1]
      have hg : gN 19 i (en L (.ow cu) s2 s3 s4 s5 s6 .un) = some (en L (.ow cu) s2 s3 s4 s5 s6 (.sh i)) := rfl
      simp [q]
      simpa using e3
end Lw
end
section
set_option Elab.async false
set_option linter.all false
set_option maxRecDepth 100000
namespace Lw
open PySem PySem.Spec PyProof.Rows L2 FE
def rg (n : Nat) : List Int := (List.range n).map fun (k : Nat) => 0 + (k : Int)
theorem ints_rg (n : Nat) : intsD 0 n = (rg n).map .int := by simp [intsD, rg]
theorem rg_mem {n : Nat} {t : Int} (h : t ∈ rg n) : 0 ≤ t ∧ t < n := by
  simp only [rg, List.mem_map, List.mem_range] at h
  obtain ⟨k, hk, rfl⟩ := h
  omega
theorem rg_len (n : Nat) : (rg n).length = n := by simp [rg]
theorem r1len (k : Nat) (h : k ≤ 1000) : ∃ j : Int, (k : Int) = j ∧ ∀ e, r1K e (some (.int j)) = .ok ((rg k).map .int) e := by
  obtain ⟨j, hj⟩ : ∃ j : Int, (k : Int) = j := ⟨_, rfl⟩
  refine ⟨j, hj, fun e => ?_⟩
  rw [x_r1K _ _ (by constructor <;> omega), ← ints_rg]
  congr 2
  omega

theorem r1i (j : Int) (h0 : 0 ≤ j) (h : j ≤ 1000) (e : En) : r1K e (some (.int j)) = .ok ((rg j.toNat).map .int) e := by
  rw [x_r1K _ _ (by constructor <;> omega), ints_rg]
def m01 (c c2 : Nat → FS) : SS := sAsg 3 (eCall (c 44) (aCons (eV 1) (aCons (eN gAdd (a2 (eC (.int 2)) (eCall (c 29) (aCons (eV 1) (aCons (eC (.int 6)) (aNil)))))) (aNil))))
def m02 (c c2 : Nat → FS) : SS := sAsg 4 (eN gLen (aCons (eCall (c 36) (aCons (eV 3) (aNil))) (aNil)))
def m03 (c c2 : Nat → FS) : SS := sAsg 5 (eN gTuple (aCons (cm1_law c c2) (aNil)))
def m04 (c c2 : Nat → FS) : SS := sFor (iR1 (eN gLen (aCons (eV 3) (aNil)))) (gN 6) (fb1_law c c2)
theorem m0_eq (c c2 : Nat → FS) : fb2_law c c2 = sSeq (m01 c c2) (sSeq (m02 c c2) (sSeq (m03 c c2) (m04 c c2))) := rfl
def l01 (c c2 : Nat → FS) : SS := sAsg 1 (eCall (c 28) (aCons (eV 0) (aNil)))
def l02 (c c2 : Nat → FS) : SS := sFor (iR1 (eC (.int 6))) (gN 2) (fb2_law c c2)
def l03 (c c2 : Nat → FS) : SS := sPar [7, 8] (aCons (eCall (c 29) (aCons (eV 1) (aCons (eC (.int 16)) (aNil)))) (aCons (eCall (c 29) (aCons (eV 1) (aCons (eC (.int 16)) (aNil)))) (aNil)))
def l04 (c c2 : Nat → FS) : SS := sAsg 9 (eLst (aCons (eTup (aCons (eC (.str "plus")) (aCons (eN gMod (a2 (eN gInt (aCons (eN gAdd (a2 (eV 7) (eV 8))) (aNil))) (eC (.int 16)))) (aNil)))) (aCons (eTup (aCons (eC (.str "minus")) (aCons (eN gMod (a2 (eN gInt (aCons (eN gSub (a2 (eV 7) (eV 8))) (aNil))) (eC (.int 16)))) (aNil)))) (aCons (eTup (aCons (eC (.str "times")) (aCons (eN gMod (a2 (eN gInt (aCons (eN gMul (a2 (eV 7) (eV 8))) (aNil))) (eC (.int 16)))) (aNil)))) (aNil)))))
def l05 (c c2 : Nat → FS) : SS := sAsg 9 (eN gAdd (a2 (eV 9) (eLst (aCons (eTup (aCons (eC (.str "same")) (aCons (eN gInt (aCons (eN gEq (a2 (eV 7) (eV 8))) (aNil))) (aNil)))) (aCons (eTup (aCons (eC (.str "less")) (aCons (eN gInt (aCons (eN gLt (a2 (eV 7) (eV 8))) (aNil))) (aNil)))) (aCons (eTup (aCons (eC (.str "same")) (aCons (eN gInt (aCons (eN gEq (a2 (eV 7) (eV 8))) (aNil))) (aNil)))) (aNil)))))))
def l06 (c c2 : Nat → FS) : SS := sFor (iS (eV 9)) (gT 2 (gsC (gN 10) (gsC (gN 11) (gsN)))) (fb3_law c c2)
def l07 (c c2 : Nat → FS) : SS := sAsg 13 (eTup (aCons (eTup (aCons (eTup (aCons (eC (.str "need")) (aCons (eTup (aCons (eC (.str "num")) (aCons (eC (.int 0)) (aNil)))) (aNil)))) (aCons (eTup (aCons (eC (.str "write")) (aCons (eC (.int 0)) (aCons (eC (.str "plain")) (aCons (eTup (aCons (eC (.str "num")) (aCons (eC (.int 1)) (aNil)))) (aNil)))))) (aNil)))) (aNil)))
def l08 (c c2 : Nat → FS) : SS := sAsg 14 (eTup (aCons (eC (.str "if")) (aCons (eTup (aCons (eC (.str "same")) (aCons (eTup (aCons (eC (.str "reg")) (aCons (eC (.int 0)) (aNil)))) (aCons (eTup (aCons (eC (.str "num")) (aCons (eC (.int 3)) (aNil)))) (aNil))))) (aCons (eTup (aCons (eTup (aCons (eC (.str "need")) (aCons (eTup (aCons (eC (.str "num")) (aCons (eC (.int 0)) (aNil)))) (aNil)))) (aNil))) (aCons (eTup (aCons (eTup (aCons (eC (.str "set")) (aCons (eC (.int 1)) (aCons (eTup (aCons (eC (.str "num")) (aCons (eC (.int 9)) (aNil)))) (aNil))))) (aNil))) (aNil))))))
def l09 (c c2 : Nat → FS) : SS := sAsg 15 (eTup (aCons (eTup (aCons (eTup (aCons (eC (.str "try")) (aCons (eC (.int 0)) (aCons (eC (.int 0)) (aCons (eTup (aCons (eC (.str "num")) (aCons (eC (.int 3)) (aNil)))) (aCons (eTup (aCons (eC (.str "plus")) (aCons (eTup (aCons (eC (.str "reg")) (aCons (eC (.int 0)) (aNil)))) (aCons (eTup (aCons (eC (.str "num")) (aCons (eC (.int 5)) (aNil)))) (aNil))))) (aNil))))))) (aCons (eV 14) (aNil)))) (aNil)))
def l010 (c c2 : Nat → FS) : SS := sAsg 9 (eLst (aCons (eTup (aCons (eV 13) (aCons (eTup (aCons (eC .none) (aNil))) (aCons (eTup (aCons (eTup (aNil)) (aCons (eTup (aCons (eC (.int 0)) (aCons (eC (.int 0)) (aCons (eC (.int 0)) (aNil))))) (aCons (eC (.str "stuck")) (aNil))))) (aNil))))) (aCons (eTup (aCons (eV 15) (aCons (eTup (aCons (eC (.int 3)) (aNil))) (aCons (eTup (aCons (eTup (aCons (eTup (aCons (eC (.int 0)) (aCons (eC (.int 3)) (aCons (eC (.int 5)) (aNil))))) (aNil))) (aCons (eTup (aCons (eC (.int 3)) (aCons (eC (.int 0)) (aCons (eC (.int 0)) (aNil))))) (aCons (eC (.str "stuck")) (aNil))))) (aNil))))) (aNil))))
def l011 (c c2 : Nat → FS) : SS := sAsg 9 (eN gAdd (a2 (eV 9) (eLst (aCons (eTup (aCons (eV 15) (aCons (eTup (aCons (eC (.int 4)) (aNil))) (aCons (eTup (aCons (eTup (aCons (eTup (aCons (eC (.int 0)) (aCons (eC (.int 4)) (aCons (eC .none) (aNil))))) (aNil))) (aCons (eTup (aCons (eC (.int 4)) (aCons (eC (.int 9)) (aCons (eC (.int 0)) (aNil))))) (aCons (eC (.str "end")) (aNil))))) (aNil))))) (aCons (eTup (aCons (eV 15) (aCons (eTup (aCons (eC .none) (aNil))) (aCons (eTup (aCons (eTup (aNil)) (aCons (eTup (aCons (eC (.int 0)) (aCons (eC (.int 0)) (aCons (eC (.int 0)) (aNil))))) (aCons (eC (.str "wants")) (aNil))))) (aNil))))) (aNil))))))
def l012 (c c2 : Nat → FS) : SS := sIf (testS (eN gNe (a2 (cm2_law c c2) (eLst (aNil))))) (sRet (eC (.bool false))) (sNil)
def l013 (c c2 : Nat → FS) : SS := sAsg 16 (eTup (aCons (eTup (aNil)) (aCons (eTup (aNil)) (aCons (eTup (aNil)) (aCons (eTup (aCons (eTup (aCons (eC (.str "if")) (aCons (eTup (aCons (eC (.str "num")) (aCons (eC (.int 1)) (aNil)))) (aCons (eTup (aCons (eTup (aCons (eC (.str "if")) (aCons (eTup (aCons (eC (.str "num")) (aCons (eC (.int 1)) (aNil)))) (aCons (eTup (aCons (eTup (aCons (eC (.str "fence")) (aNil))) (aCons (eTup (aCons (eC (.str "read")) (aCons (eC (.int 2)) (aCons (eC (.int 3)) (aCons (eC (.str "plain")) (aNil)))))) (aCons (eTup (aCons (eC (.str "swap")) (aCons (eC (.int 2)) (aCons (eC (.int 2)) (aCons (eTup (aCons (eC (.str "plus")) (aCons (eTup (aCons (eC (.str "reg")) (aCons (eC (.int 2)) (aNil)))) (aCons (eTup (aCons (eC (.str "num")) (aCons (eC (.int 9)) (aNil)))) (aNil))))) (aNil)))))) (aNil))))) (aCons (eTup (aNil)) (aNil)))))) (aNil))) (aCons (eTup (aNil)) (aNil)))))) (aNil))) (aNil))))))
def l014 (c c2 : Nat → FS) : SS := sIf (testS (eN gNe (a2 (eCall (c 27) (aCons (eV 16) (aCons (eC (.int 3)) (aCons (eTup (aCons (eC (.int 12)) (aCons (eC (.int 4)) (aNil)))) (aNil))))) (eTup (aCons (eTup (aCons (eTup (aCons (eC (.int 0)) (aCons (eC (.int 12)) (aCons (eC .none) (aNil))))) (aCons (eTup (aCons (eC (.int 1)) (aCons (eC (.int 4)) (aCons (eC (.int 5)) (aNil))))) (aNil)))) (aCons (eTup (aCons (eC (.int 0)) (aCons (eC (.int 0)) (aCons (eC (.int 4)) (aNil))))) (aCons (eC (.str "end")) (aNil)))))))) (sRet (eC (.bool false))) (sNil)
def l015 (c c2 : Nat → FS) : SS := sAsg 3 (eTup (aCons (eTup (aCons (eTup (aCons (eC (.str "read")) (aCons (eC (.int 0)) (aCons (eC (.int 0)) (aCons (eC (.str "plain")) (aNil)))))) (aNil))) (aCons (eTup (aCons (eTup (aCons (eC (.str "write")) (aCons (eC (.int 0)) (aCons (eC (.str "plain")) (aCons (eTup (aCons (eC (.str "num")) (aCons (eC (.int 1)) (aNil)))) (aNil)))))) (aNil))) (aNil))))
def l016 (c c2 : Nat → FS) : SS := sAsg 17 (cm3_law c c2)
def l017 (c c2 : Nat → FS) : SS := sAsg 17 (eN gAdd (a2 (eV 17) (cm4_law c c2)))
def l018 (c c2 : Nat → FS) : SS := sAsg 18 (eLst (aCons (eC .none) (aCons (eTup (aNil)) (aCons (eTup (aCons (eC (.int 1)) (aNil))) (aCons (eTup (aCons (eC (.int 1)) (aCons (eC (.int 2)) (aCons (eC (.int 3)) (aNil))))) (aCons (eTup (aCons (eC (.int 16)) (aCons (eC (.int 0)) (aNil)))) (aCons (eTup (aCons (eN gNeg (a1 (eC (.int 1)))) (aCons (eC (.int 0)) (aNil)))) (aCons (eTup (aCons (eC (.bool true)) (aCons (eC (.int 0)) (aNil)))) (aCons (eLst (aCons (eC (.int 1)) (aCons (eC (.int 2)) (aNil)))) (aCons (eTup (aCons (eC (.str "1")) (aCons (eC (.int 0)) (aNil)))) (aCons (eTup (aCons (eC (.int 1)) (aCons (eC (.int 16)) (aNil)))) (aCons (eTup (aCons (eC (.int 1)) (aCons (eC (.bool false)) (aNil)))) (aCons (eTup (aCons (eC .none) (aCons (eC (.str "x")) (aNil)))) (aNil))))))))))))))
def l019 (c c2 : Nat → FS) : SS := sAsg 17 (eN gAdd (a2 (eV 17) (cm5_law c c2)))
def l020 (c c2 : Nat → FS) : SS := sIf (testS (eN gNe (a2 (eV 17) (eN gAdd (a2 (eN gAdd (a2 (eMulL (a2 (eLst (aCons (eC (.str "program")) (aNil))) (eC (.int 3)))) (eMulL (a2 (eLst (aCons (eC (.str "number")) (aNil))) (eC (.int 4)))))) (eMulL (a2 (eLst (aCons (eC (.str "values")) (aNil))) (eC (.int 12))))))))) (sRet (eC (.bool false))) (sNil)
def l021 (c c2 : Nat → FS) : SS := sRet (eN gEq (a2 (eCall (c 27) (aCons (eV 3) (aCons (eC (.int 1)) (aCons (eTup (aCons (eC .none) (aCons (eC .none) (aNil)))) (aNil))))) (eTup (aCons (eTup (aCons (eTup (aCons (eC (.int 1)) (aCons (eC .none) (aCons (eC (.int 1)) (aNil))))) (aNil))) (aCons (eTup (aCons (eC (.int 0)) (aCons (eC (.int 0)) (aCons (eC (.int 0)) (aNil))))) (aCons (eC (.str "end")) (aNil)))))))
theorem l0_eq (c c2 : Nat → FS) : b_law c c2 = fDef 1 21 (sSeq (l01 c c2) (sSeq (l02 c c2) (sSeq (l03 c c2) (sSeq (l04 c c2) (sSeq (l05 c c2) (sSeq (l06 c c2) (sSeq (l07 c c2) (sSeq (l08 c c2) (sSeq (l09 c c2) (sSeq (l010 c c2) (sSeq (l011 c c2) (sSeq (l012 c c2) (sSeq (l013 c c2) (sSeq (l014 c c2) (sSeq (l015 c c2) (sSeq (l016 c c2) (sSeq (l017 c c2) (sSeq (l018 c c2) (sSeq (l019 c c2) (sSeq (l020 c c2) (l021 c c2))))))))))))))))))))) := rfl

theorem sq_nx (e : En) (g : SS) : (R.ok Fl.nx e).seq g = g e := rfl
theorem two_ {f t : SS} {e0 e1 : En} {r : R Fl} (h1 : f e0 = .ok .nx e1) (h2 : t e1 = r) : (sSeq f t) e0 = r := by
  simp only [x_sSeq, h1, h2, sq_nx]
def okT : R Fl → Bool
  | .ok (.rt (.sh (.bool true))) _ => true
  | _ => false
theorem okT_ok {r : R Fl} (h : okT r = true) : ∃ e, r = .ok (.rt (.sh (.bool true))) e := by
  cases r with
  | bad => cases h
  | exc => cases h
  | ok f e =>
    cases f with
    | rt v =>
      cases v with
      | sh d =>
        cases d with
        | bool b => cases b with
          | true => exact ⟨e, rfl⟩
          | false => cases h
        | _ => cases h
      | _ => cases h
    | _ => cases h
def ta6 (c c2 : Nat → FS) : SS := sSeq (l04 c c2) (sSeq (l05 c c2) (l06 c c2))
def tb7 (c c2 : Nat → FS) : SS := sSeq (l07 c c2) (sSeq (l08 c c2) (sSeq (l09 c c2) (sSeq (l010 c c2) (sSeq (l011 c c2) (sSeq (l012 c c2) (sSeq (l013 c c2) (sSeq (l014 c c2) (sSeq (l015 c c2) (sSeq (l016 c c2) (sSeq (l017 c c2) (sSeq (l018 c c2) (sSeq (l019 c c2) (sSeq (l020 c c2) (l021 c c2))))))))))))))
theorem law_eq (c c2 : Nat → FS) : b_law c c2 = fDef 1 21 (sSeq (l01 c c2) (sSeq (l02 c c2) (sSeq (l03 c c2) (sSeq (l04 c c2) (sSeq (l05 c c2) (sSeq (l06 c c2) (tb7 c c2))))))) := rfl
def nx10 : R Fl → Bool
  | .ok .nx [_, _, _, _, _, _, _, .sh _, .sh _, .sh _, .sh _, .sh _, .sh _, .un, .un, .un, .un, .un, .un, .un, .un, .un] => true
  | _ => false
end Lw
end
section
set_option Elab.async false
set_option linter.all false
set_option maxRecDepth 100000
namespace Lw
open PySem PySem.Spec PyProof.Rows L2 FE
/-! ### worths, told by a thread that only sets a register -/
abbrev nu (a : Int) : D := .tuple [.str "num", .int a]
abbrev exW (w : Str) (a b : Int) : D := .tuple [.str w, nu a, nu b]
structure Wo (w : Str) (a b v : Int) : Prop where
  hw : w ∈ worked
  ra : 0 ≤ a ∧ a ≤ 15
  rb : 0 ≤ b ∧ b ≤ 15
  rv : 0 ≤ v ∧ v ≤ 15
  e : ∀ n r, b_worth_by (S (n + 2)) [.sh (exW w a b), .sh r] = .ok (.sh (.int v)) [.sh (exW w a b), .sh r]
theorem wo_nu (n : Nat) (a : Int) (r : D) : b_worth_by (S n) [.sh (nu a), .sh r] = .ok (.sh (.int a)) [.sh (nu a), .sh r] := by unfold b_worth_by; simp
section
variable {a b : Int} (ha : 0 ≤ a ∧ a ≤ 15) (hb : 0 ≤ b ∧ b ≤ 15)
include ha hb
theorem wo_plus : Wo "plus" a b ((a + b) % 16) := ⟨by simp [worked], ha, hb, mod16 _, fun n r => by
  have x := wo_nu (n + 1) a r
  have y := wo_nu (n + 1) b r
  unfold b_worth_by
  simp [x, y, k_VALUES]⟩
theorem wo_minus : Wo "minus" a b ((a - b) % 16) := ⟨by simp [worked], ha, hb, mod16 _, fun n r => by
  have x := wo_nu (n + 1) a r
  have y := wo_nu (n + 1) b r
  unfold b_worth_by
  simp [x, y, k_VALUES]⟩
theorem wo_times : Wo "times" a b ((a * b) % 16) := ⟨by simp [worked], ha, hb, mod16 _, fun n r => by
  have x := wo_nu (n + 1) a r
  have y := wo_nu (n + 1) b r
  have gm := o_mul a b (.inl ⟨by omega, by omega⟩)
  unfold b_worth_by
  simp [x, y, k_VALUES, gm]⟩
theorem wo_same : Wo "same" a b (if a = b then 1 else 0) := ⟨by simp [worked], ha, hb, by split <;> decide, fun n r => by
  have x := wo_nu (n + 1) a r
  have y := wo_nu (n + 1) b r
  by_cases hq : a = b
  · unfold b_worth_by
    simp [x, y, hq]
  · have hq' : (a == b) = false := by simp [hq]
    unfold b_worth_by
    simp [x, y, hq, hq']⟩
theorem wo_less : Wo "less" a b (if a < b then 1 else 0) := ⟨by simp [worked], ha, hb, by split <;> decide, fun n r => by
  have x := wo_nu (n + 1) a r
  have y := wo_nu (n + 1) b r
  by_cases hq : a < b
  · unfold b_worth_by
    simp [x, y, hq]
  · unfold b_worth_by
    simp [x, y, hq]⟩
end
def stW (w : Str) (a b : Int) : St := .pl (.tuple [.str "set", .int 2, exW w a b])
section
variable {w : Str} {a b v : Int} (W : Wo w a b v)
include W
theorem isw : IsE (exW w a b) := .mk (s := 3) (.op W.hw (.num W.ra.1 W.ra.2) (.num W.rb.1 W.rb.2)) (by decide)
theorem prw : Pr [[stW w a b]] := by
  have e := isw W
  refine ⟨by simp, by simp, ?_, ?_, ?_, ?_⟩
  · intro x hx s hs
    simp at hx
    subst hx
    simp at hs
    subst hs
    exact .pl (.set (by decide) (by decide) e)
  · intro x hx
    simp at hx
    subst hx
    simp [szL, stW, St.sz]
  · simp [every, preL, stW, St.pre, St.isAc, List.filter_cons]
  · simp [every, preL, stW, St.pre, List.filter_cons]
    split <;> simp
theorem stw (n : Nat) : ∃ f g, b_settled (S (n + 5)) [.sh (.tuple [(stW w a b).d]), .sh (rD 0 0 0)] = .ok (.sh (.tuple [.tuple [], rD 0 0 v])) [f, g] := by
  have wn : ∀ s ∈ [stW w a b], WfN (1 : Int) 2 s := by
    intro s hs
    simp at hs
    subst hs
    exact .pl (.set (by decide) (by decide) (isw W))
  obtain ⟨f, hf⟩ : ∃ f, wfuel = f + 2 := ⟨wfuel - 2, by unfold wfuel; rfl⟩
  have c1 := st_condP (n + 5) [stW w a b] wn (.sh (rD 0 0 0)) .un
  have g1 : goL [stW w a b] = true := by simp [goL, St.go, stW]
  rw [g1] at c1
  have ep := W.e (n + 2) (rD 0 0 0)
  have hr : b_with_register (S (n + 4)) [.sh (rD 0 0 0), .sh (.int 2), .sh (.int v)] = .ok (.sh (rD 0 0 v)) [.sh (rD 0 0 0), .sh (.int 2), .sh (.int v)] := by simp [b_with_register]
  have d1 : dL [stW w a b] = [(stW w a b).d] := by simp [dL]
  rw [d1] at c1
  have b1 : wb1_settled (S (n + 5)) [.sh (.tuple [(stW w a b).d]), .sh (rD 0 0 0), .un] = .ok .nx [.sh (.tuple []), .sh (rD 0 0 v), .sh (stW w a b).d] := by
    simp [wb1_settled, stW, ep, hr]
  have c2 := st_condP (N := 1) (n + 5) [] (by simp) (.sh (rD 0 0 v)) (.sh (stW w a b).d)
  have d2 : dL [] = [] := by simp [dL]
  rw [d2] at c2
  refine ⟨.sh (.tuple []), .sh (rD 0 0 v), ?_⟩
  have e : sWhileN (wc1_settled (S (n + 5))) (wb1_settled (S (n + 5))) wfuel [.sh (.tuple [(stW w a b).d]), .sh (rD 0 0 0), .un] = .ok .nx [.sh (.tuple []), .sh (rD 0 0 v), .sh (stW w a b).d] := by
    rw [hf, x_sWhileN, c1]
    simp [b1]
    rw [x_sWhileN, c2]
    rfl
  simp [b_settled, sWhile, e]
theorem bgw (n : Nat) : b_begun (S (n + 6)) [.sh (pD [[stW w a b]])] = .ok (.sh (.tuple [.tuple [.tuple [], rD 0 0 v]])) [.sh (pD [[stW w a b]])] := by
  have P := prw W
  have hw : ∀ b' ∈ [[stW w a b]], (∀ s ∈ b', Wf 2 s) ∧ b'.length ≤ 12 := fun b hb => ⟨P.wf b hb, Nat.le_trans (szL_len b) (P.sz b hb)⟩
  have a1 := ev_pnt (n + 1) [[stW w a b]] hw P.l4
  have e0 : nuP [[stW w a b]] 0 = [.tuple [(stW w a b).d]] := by simp [nuP, nu_cons, nu_nil, stW, nu_pl]
  rw [e0] at a1
  obtain ⟨f, g, e1⟩ := stw W n
  have q : ([PyData.tuple [(stW w a b).d]] : List D).length ≤ 1000000 := by simp
  have c : cLoop (gN 1) [1] (cItem tYesS (ce1_begun (S (n + 6)))) [.tuple [(stW w a b).d]] [] [.sh (pD [[stW w a b]]), .un] = .ok [.tuple [.tuple [], rD 0 0 v]] [.sh (pD [[stW w a b]]), .un] := by
    rw [x_cl1]
    simp [ce1_begun, k_REGISTERS, m3, e1]
  simp [b_begun, cm1_begun, a1, x_coK _ _ _ _ _ _ q, c]
theorem told (n : Nat) : b_thread_alone (S (n + 8)) [.sh (pD [[stW w a b]]), .sh (.int 0), .sh (.tuple [])] = .ok (.sh (.tuple [.tuple [], rD 0 0 v, .str "end"])) [.sh (pD [[stW w a b]]), .sh (.int 0), .sh (.tuple [])] := by
  have P := prw W
  have w0 := ev_numb (n + 6) (.int 0) 0 0
  rw [if_pos (by simp)] at w0
  have hv : VsOk (tot [[stW w a b]]) [] := ⟨by simp [tot, nAc, preL, stW, St.pre, St.isAc, List.filter_cons], by simp⟩
  refine ta _ (J := 1) (by rw [show (17 : Nat) = i_need_program from rfl, Sx_need_program]; exact ev_need (n + 2) P) (by simp [pD]) (by rw [show (18 : Nat) = i_need_number from rfl, Sx_need_number]; exact w0)
    (by rw [show (26 : Nat) = i_fits_values from rfl, Sx_fits_values]; exact fits_v P hv (n + 3)) (by
      rw [show (25 : Nat) = i_done_alone from rfl, Sx_done_alone]
      have e1 : S (n + 7) 22 [.sh (pD [[stW w a b]])] = .ok (.sh (.tuple [.tuple [.tuple [], rD 0 0 v]])) [.sh (pD [[stW w a b]])] := by rw [show (22 : Nat) = i_begun from rfl, Sx_begun]; exact bgw W n
      obtain ⟨f, hf⟩ : ∃ f, wfuel = f + 1 := ⟨wfuel - 1, by unfold wfuel; rfl⟩
      have c := al_condP (N := 1) (o := some []) (by intro rs h; cases h; simp) (S (n + 7)) (.sh (pD [[stW w a b]])) (.sh (.int 0)) (.sh (.tuple [])) (.sh (rD 0 0 v)) (.ow (.list [])) .un .un
      refine dn_fin _ (o := some []) (rest := .tuple []) (r := rD 0 0 v) (acc := []) e1 (by simp) (by simp) (s6 := .un) (s7 := .un) ?_
      rw [hf, x_sWhileN]
      have d2 : rsD (some []) = .tuple [] := by simp [rsD, dL]
      rw [d2] at c ⊢
      rw [c]
      rfl)
end
/-! ### the rows -/
abbrev en7 (L s1 s2 s3 s4 s5 s6 s7 s8 s9 s10 s11 s12 : Slot) : En := [L, s1, s2, s3, s4, s5, s6, s7, s8, s9, s10, s11, s12, .un, .un, .un, .un, .un, .un, .un, .un, .un]
def rowD (q : Str × Int) : D := .tuple [.str q.1, .int q.2]
theorem r1 (c c2 : Nat → FS) {L s1 s2 s3 s4 s5 s6 s9 s12 : Slot} {a b v : Int} {w : Str}
    (h : c 27 [.sh (.tuple [.tuple [.tuple [.str "set", .int 2, exW w a b]]]), .sh (.int 0), .sh (.tuple [])] = .ok (.sh (.tuple [.tuple [], rD 0 0 v, .str "end"])) [.sh (.tuple [.tuple [.tuple [.str "set", .int 2, exW w a b]]]), .sh (.int 0), .sh (.tuple [])])
    (g : gNe [.tuple [.tuple [], rD 0 0 v, .str "end"], .tuple [.tuple [], rD 0 0 v, .str "end"]] = some (false, .bool false)) :
    fb3_law c c2 (en7 L s1 s2 s3 s4 s5 s6 (.sh (.int a)) (.sh (.int b)) s9 (.sh (.str w)) (.sh (.int v)) s12) = .ok .nx (en7 L s1 s2 s3 s4 s5 s6 (.sh (.int a)) (.sh (.int b)) s9 (.sh (.str w)) (.sh (.int v)) (.sh (.tuple [.tuple [], rD 0 0 v, .str "end"]))) := by
  simp [fb3_law, h, g]
theorem rows_loop (L s1 s2 s3 s4 s5 s6 s9 : Slot) (a b : Int) : ∀ (qs : List (Str × Int)), (∀ q ∈ qs, Wo q.1 a b q.2) → ∀ s10 s11 s12 : Slot, ∃ t10 t11 t12, sLoop (gT 2 (gsC (gN 10) (gsC (gN 11) (gsN)))) (fb3_law (S 39) (S 37)) (qs.map rowD) (en7 L s1 s2 s3 s4 s5 s6 (.sh (.int a)) (.sh (.int b)) s9 s10 s11 s12) = .ok .nx (en7 L s1 s2 s3 s4 s5 s6 (.sh (.int a)) (.sh (.int b)) s9 t10 t11 t12)
  | [], _, s10, s11, s12 => ⟨s10, s11, s12, by simp⟩
  | q :: qs, h, s10, s11, s12 => by
    obtain ⟨w, v⟩ := q
    have W : Wo w a b v := h (w, v) (by simp)
    have n4 : Nice 3 (.tuple [.tuple [], rD 0 0 v, .str "end"]) := nice_tup (k := 2) (by
      intro z hz
      simp at hz
      rcases hz with rfl | rfl | rfl
      · exact nice_tup (k := 1) (by simp)
      · exact nice_tup (k := 1) (by intro y hy; simp at hy; rcases hy with rfl | rfl <;> exact nice_int _ _)
      · exact nice_str (by simp))
    have g : gNe [.tuple [.tuple [], rD 0 0 v, .str "end"], .tuple [.tuple [], rD 0 0 v, .str "end"]] = some (false, .bool false) := by
      rw [o_ne _ _ n4.sh n4.sh, SeqAt.eqv_refl_plain _ (PyData.plain_of_canLay0 _ n4.1)]; rfl
    have e := r1 (S 39) (S 37) (L := L) (s1 := s1) (s2 := s2) (s3 := s3) (s4 := s4) (s5 := s5) (s6 := s6) (s9 := s9) (s12 := s12) (by
      rw [show (27 : Nat) = i_thread_alone from rfl, Sx_thread_alone]
      have := told W 30
      simpa [pD, bD, dL, stW] using this) g
    obtain ⟨t10, t11, t12, e2⟩ := rows_loop L s1 s2 s3 s4 s5 s6 s9 a b qs (fun x hx => h x (by simp [hx])) (.sh (.str w)) (.sh (.int v)) (.sh (.tuple [.tuple [], rD 0 0 v, .str "end"]))
    refine ⟨t10, t11, t12, ?_⟩
    rw [List.map_cons, x_loop1]
    simp [rowD, e]
    exact e2
def rws (a b : Int) : List (Str × Int) := [("plus", (a + b) % 16), ("minus", (a - b) % 16), ("times", (a * b) % 16), ("same", if a = b then 1 else 0), ("less", if a < b then 1 else 0), ("same", if a = b then 1 else 0)]
theorem g4 (c c2 : Nat → FS) {L s1 s2 s3 s4 s5 s6 : Slot} {a b : Int} (ha : 0 ≤ a ∧ a ≤ 15) (hb : 0 ≤ b ∧ b ≤ 15) :
    l04 c c2 (en7 L s1 s2 s3 s4 s5 s6 (.sh (.int a)) (.sh (.int b)) .un .un .un .un) = .ok .nx (en7 L s1 s2 s3 s4 s5 s6 (.sh (.int a)) (.sh (.int b)) (.ow (.list (((rws a b).take 3).map rowD))) .un .un .un) := by
  have gm := o_mul a b (.inl ⟨by omega, by omega⟩)
  simp [l04, gm, rws, rowD]
theorem g5 (c c2 : Nat → FS) {L s1 s2 s3 s4 s5 s6 : Slot} {a b : Int} :
    l05 c c2 (en7 L s1 s2 s3 s4 s5 s6 (.sh (.int a)) (.sh (.int b)) (.ow (.list (((rws a b).take 3).map rowD))) .un .un .un) = .ok .nx (en7 L s1 s2 s3 s4 s5 s6 (.sh (.int a)) (.sh (.int b)) (.ow (.list ((rws a b).map rowD))) .un .un .un) := by
  by_cases h1 : a = b <;> by_cases h2 : a < b <;> simp [l05, rws, rowD, h1, h2]
theorem g6 {L s1 s2 s3 s4 s5 s6 : Slot} {a b : Int} (ha : 0 ≤ a ∧ a ≤ 15) (hb : 0 ≤ b ∧ b ≤ 15) : ∃ t9 t10 t11 t12,
    l06 (S 39) (S 37) (en7 L s1 s2 s3 s4 s5 s6 (.sh (.int a)) (.sh (.int b)) (.ow (.list ((rws a b).map rowD))) .un .un .un) = .ok .nx (en7 L s1 s2 s3 s4 s5 s6 (.sh (.int a)) (.sh (.int b)) t9 t10 t11 t12) := by
  obtain ⟨t10, t11, t12, e⟩ := rows_loop L s1 s2 s3 s4 s5 s6 (.sh (.list ((rws a b).map rowD))) a b (rws a b) (by
    intro q hq
    simp [rws] at hq
    rcases hq with rfl | rfl | rfl | rfl | rfl | rfl
    · exact wo_plus ha hb
    · exact wo_minus ha hb
    · exact wo_times ha hb
    · exact wo_same ha hb
    · exact wo_less ha hb
    · exact wo_same ha hb) .un .un .un
  refine ⟨.sh (.list ((rws a b).map rowD)), t10, t11, t12, ?_⟩
  unfold l06
  rw [x_sFor]
  exact e
end Lw
end
section
set_option Elab.async false
set_option linter.all false
set_option maxRecDepth 100000
namespace Lw
open PySem PySem.Spec PyProof.Rows L2 FE
theorem tail7 (s0 s1 s2 s3 s4 s5 s6 s7 s8 s9 s10 s11 s12 : Slot) : okT (tb7 (S 39) (S 37) (en7 s0 s1 s2 s3 s4 s5 s6 s7 s8 s9 s10 s11 s12)) = true := by kernel_rfl
/-! ### a turn -/
section
variable (c c2 : Nat → FS) {L s1 s2 s3 s4 s5 s6 : Slot}
theorem b_thr {p vs d : D} {t : Int} (h1 : c 27 [.sh p, .sh (.int t), .sh vs] = .ok (.sh d) [.sh p, .sh (.int t), .sh vs]) (h2 : c 45 [.sh p, .sh (.int t), .sh vs] = .ok (.sh d) [.sh p, .sh (.int t), .sh vs]) (g : gNe [d, d] = some (false, .bool false)) :
    fb1_law c c2 (en L s1 s2 (.sh p) s4 (.sh vs) (.sh (.int t)) .un) = .ok .nx (en L s1 s2 (.sh p) s4 (.sh vs) (.sh (.int t)) .un) := by
  simp [fb1_law, h1, h2, g]
theorem b1 {cu cu1 cu2 pd : D} {k : Int} (h1 : c 29 [.pa cu, .sh (.int 6)] = .ok (.sh (.int k)) [.pa cu1, .sh (.int 6)]) (h2 : c 44 [.pa cu1, .sh (.int (2 + k))] = .ok (.sh pd) [.pa cu2, .sh (.int (2 + k))]) :
    m01 c c2 (en L (.ow cu) s2 s3 s4 s5 s6 .un) = .ok .nx (en L (.ow cu2) s2 (.sh pd) s4 s5 s6 .un) := by
  have ha : gAdd [.int 2, .int k] = some (false, .int (2 + k)) := rfl
  simp [m01, h1, h2, ha]
theorem b2 {pd : D} {ds : List D} {J : Int} (h : c 36 [.sh pd] = .ok (.fr (.list ds)) [.sh pd]) (g : gLen [.list ds] = some (false, .int J)) :
    m02 c c2 (en L s1 s2 (.sh pd) s4 s5 s6 .un) = .ok .nx (en L s1 s2 (.sh pd) (.sh (.int J)) s5 s6 .un) := by
  simp [m02, h, g, -o_lenl]
theorem b3 {cu : D} {vs : List D} (hl : vs.length ≤ 1000) (h : cm1_law c c2 (en L s1 s2 s3 s4 s5 s6 .un) = .ok (.fr (.list vs)) (en L (.ow cu) s2 s3 s4 s5 s6 .un)) :
    m03 c c2 (en L s1 s2 s3 s4 s5 s6 .un) = .ok .nx (en L (.ow cu) s2 s3 s4 (.sh (.tuple vs)) s6 .un) := by
  have hl' : vs.length ≤ 1000000 := by omega
  simp [m03, h, hl']
end
theorem vals {L s1 s2 s3 s5 s6 : Slot} {cu : D} (g : GC cu) (J : Int) (h0 : 0 ≤ J) (h1 : J ≤ 100) : ∃ cu' vs, GC cu' ∧ VsOk J.toNat vs ∧ cm1_law (S 39) (S 37) (en L (.ow cu) s2 s3 (.sh (.int J)) s5 s6 .un) = .ok (.fr (.list vs)) (en L (.ow cu') s2 s3 (.sh (.int J)) s5 s6 .un) := by
  obtain ⟨cu', vs, g', hv, e⟩ := vs_loop L s2 s3 (.sh (.int J)) s5 s6 ((rg J.toNat).map .int) cu [] g
  rw [List.length_map, rg_len] at hv
  refine ⟨cu', vs, g', hv, ?_⟩
  have r := r1i J h0 (by omega) (en L (.ow cu) s2 s3 (.sh (.int J)) s5 s6 .un)
  have lt : ((rg J.toNat).map PyData.int).length ≤ 1000000 := by rw [List.length_map, rg_len]; omega
  simp at e
  simp [cm1_law, r, x_coK _ _ _ _ _ _ lt, e]
theorem thr_loop {p : List (List St)} (P : Pr p) {vs : List D} (hv : VsOk (tot p) vs) (L s1 s2 s4 : Slot) : ∀ (ts : List Int), (∀ t ∈ ts, 0 ≤ t ∧ t < p.length) → ∀ s6 : Slot, ∃ t6,
    sLoop (gN 6) (fb1_law (S 39) (S 37)) (ts.map .int) (en L s1 s2 (.sh (pD p)) s4 (.sh (.tuple vs)) s6 .un) = .ok .nx (en L s1 s2 (.sh (pD p)) s4 (.sh (.tuple vs)) t6 .un)
  | [], _, s6 => ⟨s6, by simp⟩
  | t :: ts, h, s6 => by
    obtain ⟨d, nd, ep, el⟩ := thread2 P hv (h t (by simp)).1 (h t (by simp)).2
    have e := b_thr (S 39) (S 37) (L := L) (s1 := s1) (s2 := s2) (s4 := s4) (p := pD p) (vs := .tuple vs) (t := t) (d := d) (by rw [show (27 : Nat) = i_thread_alone from rfl, Sx_thread_alone]; exact ep 30) (by rw [show (45 : Nat) = i__law_due from rfl, Sx__law_due]; exact el 31) (by
      rw [o_ne _ _ nd.sh nd.sh, SeqAt.eqv_refl_plain _ (PyData.plain_of_canLay0 _ nd.1)]; rfl)
    obtain ⟨t6, e2⟩ := thr_loop P hv L s1 s2 s4 ts (fun x hx => h x (by simp [hx])) (.sh (.int t))
    refine ⟨t6, ?_⟩
    rw [List.map_cons, x_loop1]
    simp [e]
    exact e2
theorem thr_it {p : List (List St)} (P : Pr p) : ∀ e : En, e[3]? = some (.sh (pD p)) → iR1 (eN gLen (aCons (eV 3) (aNil))) e = .ok ((rg p.length).map .int) e := by
  intro e he
  have l4 := P.l4
  obtain ⟨j, hj, hr⟩ := r1len p.length (by omega)
  have ge : gLen [pD p] = some (false, .int j) := by
    rw [← hj]
    exact pD_len p
  simp [he, ge, hr, -o_lent]
theorem comp4 {f g h t : SS} {e0 e1 e2 e3 : En} {r : R Fl} (h1 : f e0 = .ok .nx e1) (h2 : g e1 = .ok .nx e2) (h3 : h e2 = .ok .nx e3) (h4 : t e3 = r) : (sSeq f (sSeq g (sSeq h t))) e0 = r := by
  simp only [x_sSeq, h1, h2, h3, h4, sq_nx]
theorem turn0 (L s2 s3 s4 s5 s6 : Slot) (cu : D) (g : GC cu) : ∃ cu' s3' s4' s5' s6', GC cu' ∧ fb2_law (S 39) (S 37) (en L (.ow cu) s2 s3 s4 s5 s6 .un) = .ok .nx (en L (.ow cu') s2 s3' s4' s5' s6' .un) := by
  obtain ⟨k, c1, g1, k0, k1, e1⟩ := roll 38 cu 6 g (by decide) (by decide)
  obtain ⟨p, c2, P, _, g2, e2⟩ := program 32 c1 (2 + k) g1 (by omega) (by omega)
  have q1 := b1 (S 39) (S 37) (L := L) (s2 := s2) (s3 := s3) (s4 := s4) (s5 := s5) (s6 := s6) (k := k) (by rw [show (29 : Nat) = i__law_roll from rfl, Sx__law_roll]; exact e1) (by rw [show (44 : Nat) = i__law_program from rfl, Sx__law_program]; exact e2)
  obtain ⟨ds, hd, ea⟩ := many_l P
  have t8 := P.tot8
  obtain ⟨J, hJ⟩ : ∃ J : Int, (tot p : Int) = J := ⟨_, rfl⟩
  have gl : gLen [.list ds] = some (false, .int J) := by
    rw [← hJ, ← hd]; rfl
  have q2 := b2 (S 39) (S 37) (L := L) (s1 := .ow c2) (s2 := s2) (s4 := s4) (s5 := s5) (s6 := s6) (pd := pD p) (by rw [show (36 : Nat) = i__law_all from rfl, Sx__law_all]; exact ea 33) gl
  obtain ⟨c3, vs, g3, hv, e3⟩ := vals (L := L) (s1 := .un) (s2 := s2) (s3 := .sh (pD p)) (s5 := s5) (s6 := s6) g2 J (by omega) (by omega)
  have hv' : VsOk (tot p) vs := by rw [show J.toNat = tot p by omega] at hv; exact hv
  have q3 := b3 (S 39) (S 37) (by rw [hv'.1]; omega) e3
  obtain ⟨t6, e4⟩ := thr_loop P hv' L (.ow c3) s2 (.sh (.int J)) (rg p.length) (fun t ht => rg_mem ht) s6
  refine ⟨c3, .sh (pD p), .sh (.int J), .sh (.tuple vs), t6, g3, ?_⟩
  rw [m0_eq]
  refine comp4 q1 q2 q3 ?_
  unfold m04
  rw [x_sFor, thr_it P _ rfl]
  exact e4
theorem loop0 (L : Slot) : ∀ (ds : List D) (cu : D) (s2 s3 s4 s5 s6 : Slot), GC cu → ∃ cu' s2' s3' s4' s5' s6', GC cu' ∧ sLoop (gN 2) (fb2_law (S 39) (S 37)) ds (en L (.ow cu) s2 s3 s4 s5 s6 .un) = .ok .nx (en L (.ow cu') s2' s3' s4' s5' s6' .un)
  | [], cu, s2, s3, s4, s5, s6, g => ⟨cu, s2, s3, s4, s5, s6, g, rfl⟩
  | d :: ds, cu, s2, s3, s4, s5, s6, g => by
    obtain ⟨c1, u3, u4, u5, u6, g1, e1⟩ := turn0 L (.sh d) s3 s4 s5 s6 cu g
    obtain ⟨c2, v2, v3, v4, v5, v6, g2, e2⟩ := loop0 L ds c1 (.sh d) u3 u4 u5 u6 g1
    refine ⟨c2, v2, v3, v4, v5, v6, g2, ?_⟩
    rw [x_loop1]
    simp [e1]
    exact e2
theorem a3 (c c2 : Nat → FS) {cu cu1 cu2 : D} {a b : Int} {L s2 s3 s4 s5 s6 : Slot} (h1 : c 29 [.pa cu, .sh (.int 16)] = .ok (.sh (.int a)) [.pa cu1, .sh (.int 16)]) (h2 : c 29 [.pa cu1, .sh (.int 16)] = .ok (.sh (.int b)) [.pa cu2, .sh (.int 16)]) :
    l03 c c2 (en L (.ow cu) s2 s3 s4 s5 s6 .un) = .ok .nx (en7 L (.ow cu2) s2 s3 s4 s5 s6 (.sh (.int a)) (.sh (.int b)) .un .un .un .un) := by
  simp [l03, h1, h2]
theorem a1 (c c2 : Nat → FS) {cu : List D} {L : D} (h : c 28 [.sh L] = .ok (.fr (.list cu)) [.sh L]) :
    l01 c c2 (en (.sh L) .un .un .un .un .un .un .un) = .ok .nx (en (.sh L) (.ow (.list cu)) .un .un .un .un .un .un) := by
  simp [l01, h]
theorem a1p (c c2 : Nat → FS) {cu : List D} {L : D} (h : c 28 [.pa L] = .ok (.fr (.list cu)) [.pa L]) :
    l01 c c2 (en (.pa L) .un .un .un .un .un .un .un) = .ok .nx (en (.pa L) (.ow (.list cu)) .un .un .un .un .un .un) := by
  simp [l01, h]
theorem l02_loop (c c2 : Nat → FS) (e : En) : l02 c c2 e = sLoop (gN 2) (fb2_law c c2) [.int 0, .int 1, .int 2, .int 3, .int 4, .int 5] e := rfl
theorem rest0 (L : Slot) (cu : D) (g : GC cu) : ∃ fin, (sSeq (l02 (S 39) (S 37)) (sSeq (l03 (S 39) (S 37)) (sSeq (l04 (S 39) (S 37)) (sSeq (l05 (S 39) (S 37)) (sSeq (l06 (S 39) (S 37)) (tb7 (S 39) (S 37))))))) (en L (.ow cu) .un .un .un .un .un .un) = .ok (.rt (.sh (.bool true))) fin := by
  obtain ⟨c1, u2, u3, u4, u5, u6, g1, e1⟩ := loop0 L [.int 0, .int 1, .int 2, .int 3, .int 4, .int 5] cu .un .un .un .un .un g
  have q2 : l02 (S 39) (S 37) (en L (.ow cu) .un .un .un .un .un .un) = .ok .nx (en L (.ow c1) u2 u3 u4 u5 u6 .un) := by
    rw [l02_loop, e1]
  obtain ⟨a, c2, g2, a0, a1, f1⟩ := roll 38 c1 16 g1 (by decide) (by decide)
  obtain ⟨b, c3, g3, b0, b1, f2⟩ := roll 38 c2 16 g2 (by decide) (by decide)
  have q3 := a3 (S 39) (S 37) (L := L) (s2 := u2) (s3 := u3) (s4 := u4) (s5 := u5) (s6 := u6) (a := a) (b := b) (by rw [show (29 : Nat) = i__law_roll from rfl, Sx__law_roll]; exact f1) (by rw [show (29 : Nat) = i__law_roll from rfl, Sx__law_roll]; exact f2)
  have ha : 0 ≤ a ∧ a ≤ 15 := by omega
  have hb : 0 ≤ b ∧ b ≤ 15 := by omega
  have q4 := g4 (S 39) (S 37) (L := L) (s1 := .ow c3) (s2 := u2) (s3 := u3) (s4 := u4) (s5 := u5) (s6 := u6) ha hb
  have q5 := g5 (S 39) (S 37) (L := L) (s1 := .ow c3) (s2 := u2) (s3 := u3) (s4 := u4) (s5 := u5) (s6 := u6) (a := a) (b := b)
  obtain ⟨t9, t10, t11, t12, q6⟩ := g6 (L := L) (s1 := .ow c3) (s2 := u2) (s3 := u3) (s4 := u4) (s5 := u5) (s6 := u6) ha hb
  obtain ⟨fin, q7⟩ := okT_ok (tail7 L (.ow c3) u2 u3 u4 u5 u6 (.sh (.int a)) (.sh (.int b)) t9 t10 t11 t12)
  exact ⟨fin, comp4 q2 q3 q4 (two_ q5 (two_ q6 q7))⟩
theorem cup_pa (n : Nat) (ns : List Int) (hl : ns.length ≤ 63) : ∃ c, GC c ∧ b__law_cup (S n) [.pa (.list (ns.map .int))] = .ok (.fr c) [.pa (.list (ns.map .int))] := by
  have key : ∃ i : Int, ((ns.map PyData.int) ++ [PyData.int 0])[0]? = some (.int i) := by
    cases ns with
    | nil => exact ⟨0, rfl⟩
    | cons i ns => exact ⟨i, rfl⟩
  obtain ⟨i, hi⟩ := key
  have l1 : (ns.map PyData.int).length + [PyData.int 0].length ≤ 1000000 := by simp; omega
  have ab : 0 ≤ (if i < 0 then -i else i) := by split <;> omega
  generalize hc : (if i < 0 then -i else i) = cell at ab
  have ga : gAbs [.int i] = some (false, .int cell) := by rw [← hc]; rfl
  have gp : gPow [.int 10, .int 18] = some (false, .int (10 ^ 18)) := by
    show (if 0 ≤ (18 : Int) ∧ (18 : Int) ≤ 1000000 ∧ (10 : Int).natAbs < 2 ^ 64 then some (false, PyData.int ((10 : Int) ^ (18 : Int).toNat)) else none) = _
    rw [if_pos (by decide)]
    rfl
  have c1 : (-(2 ^ 64) < cell ∧ cell < 2 ^ 64) ∨ (-(2 ^ 64) < (307 : Int) ∧ (307 : Int) < 2 ^ 64) := .inr (by decide)
  have g1 := o_mul cell 307 c1
  have e1 : 0 ≤ (cell * 307 + 3001) % 2077503113 := Int.emod_nonneg _ (by decide)
  have e2 : (cell * 307 + 3001) % 2077503113 < 2077503113 := Int.emod_lt_of_pos _ (by decide)
  have l2 : ns.length + 1 ≤ 1000000 := by omega
  by_cases h18 : (10 : Int) ^ 18 ≤ cell
  · refine ⟨_, ⟨cell / 83, (cell * 307 + 3001) % 2077503113 + 181, rfl, Int.ediv_nonneg ab (by decide), by omega, by omega⟩, ?_⟩
    simp at h18 hi
    simp [b__law_cup, l2, hi, ga, gp, h18, g1]
  · refine ⟨_, ⟨0, (cell * 307 + 3001) % 2077503113 + 181, rfl, by decide, by omega, by omega⟩, ?_⟩
    simp at h18 hi
    have h18' : ¬ (1000000000000000000 ≤ cell) := by omega
    simp [b__law_cup, l2, hi, ga, gp, h18', g1]
theorem law_of {L : Slot} {cu : D} (g : GC cu) (h : l01 (S 39) (S 37) (en L .un .un .un .un .un .un .un) = .ok .nx (en L (.ow cu) .un .un .un .un .un .un)) :
    ∃ fin, b_law (S 39) (S 37) [L] = .ok (.sh (.bool true)) fin := by
  obtain ⟨fin, e⟩ := rest0 L cu g
  have w := two_ h e
  refine ⟨fin.take 1, ?_⟩
  rw [law_eq, x_fDef]
  show dfK 1 _ = _
  have e2 : [L] ++ List.replicate 21 FE.Slot.un = en L .un .un .un .un .un .un .un := rfl
  rw [e2, w]
  rfl
theorem plain : ∀ ns : List Int, ns.length ≤ 63 → ∃ fin, b_law (S 39) (S 37) [.sh (.list (ns.map .int))] = .ok (.sh (.bool true)) fin := fun ns hl => by
  obtain ⟨c, g, e⟩ := cup_ 38 ns hl
  obtain ⟨a, b, rfl, _⟩ := id g
  exact law_of g (a1 (S 39) (S 37) (by rw [show (28 : Nat) = i__law_cup from rfl, Sx__law_cup]; exact e))
theorem plain2 : ∀ ns : List Int, ns.length ≤ 63 → ∃ fin, b_law (S 39) (S 37) [.pa (.list (ns.map .int))] = .ok (.sh (.bool true)) fin := fun ns hl => by
  obtain ⟨c, g, e⟩ := cup_pa 38 ns hl
  obtain ⟨a, b, rfl, _⟩ := id g
  exact law_of g (a1p (S 39) (S 37) (by rw [show (28 : Nat) = i__law_cup from rfl, Sx__law_cup]; exact e))
end Lw
end
set_option Elab.async false
set_option linter.all false
set_option maxRecDepth 100000
set_option maxHeartbeats 0
namespace Lw
open PySem PySem.Spec PyProof.Rows L2 FE

end Lw
open PySem PySem.W PySem.Calls PyProof.Rows
theorem PySem.Challenge.cw_mendedmodels_k01_whole_threads_alone_holds : PySem.Challenge.rw_mendedmodels_k01_whole_threads_alone.Holds := by
  w_on; o_law
  refine HandSHeadRun.head_any (r := OpenLaw.row PySem.Challenge.rw_mendedmodels_k01_whole_threads_alone) (q := view (OpenLaw.row PySem.Challenge.rw_mendedmodels_k01_whole_threads_alone).prog [70]) (H := Lw.hk) (ob := Lw.ob) (M := 4000) (loose := Lw.loose) (d := HandSHeadRun.topDef (OpenLaw.row PySem.Challenge.rw_mendedmodels_k01_whole_threads_alone).prog 70) (kwd := []) Lw.ob_eq
    (by kernel_rfl) (fun s => by kernel_rfl) Lw.run (by kernel_rfl) (by kernel_rfl) (by kernel_rfl) (by rfl) (by first | assumption | decide +kernel) (by decide +kernel) ⟨rfl, rfl, rfl, rfl, rfl, by decide +kernel⟩ ?hw ?hc
  case hw => w_witness2
  case hc =>
    refine FE.walk_ofZ (l := PySem.Challenge.rw_mendedmodels_k01_whole_threads_alone) (n := 63) (k := 40) (x := "script") rfl (by decide) (by kernel_rfl) ⟨rfl, by decide, by decide⟩ ?F
    intro w mg fa h Y G hmg0
    obtain ⟨K, KX, z⟩ := Y
    have c := z.y
    have hmg : mg ("law" : PySem.Str) = some (.ref fa) := by
      have e : (HandSHeadRun.topDef (OpenLaw.row PySem.Challenge.rw_mendedmodels_k01_whole_threads_alone).prog 70).name = ("law" : PySem.Str) := by kernel_rfl
      rw [← e]
      exact hmg0
    have B := Lw.facts KX G c
    have m0 : FE.Lw0 ∈ [FE.Lw0] := List.mem_singleton.mpr rfl
    obtain ⟨fd, hb, hF⟩ := Lw.w_law (P := (PySem.Challenge.rw_mendedmodels_k01_whole_threads_alone).prog) (w := w) (n := 37) (c0 := (He.cT K FE.Lw0).1) (P0 := (He.cT K FE.Lw0).2) B (fun base => Lw.fs_all (base := base) B 39) (fun base => Lw.fs_all (base := base) B 37) hmg fun cdv hc => FE.law_cd hc (Lw.law_ga KX G c hmg)
    exact ⟨K, fd, _, _, _, KX, z.empty _ m0, z.out _ m0, PySem.W.codeHd_of_K KX (z.hd _ m0), hb, fun H a ns hl hP hS => FE.spT_ok Lw.plain Lw.plain2 H a ns hl hP hS, fun base _ _ hT => hF base hT⟩
