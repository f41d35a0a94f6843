import PyProof.Rows.All
import Wide.All
import OpenK.AllK
import Wide.FinOn
import HandS.ForMost
import HandS.ForExc
import HandS.TryMany
import KE.DataEq
import HandS.IsInst
import HandS.Style
import HandS.StrMore
import HandS.TupAny
import HandS.TupMul
import HandS.Zip
import HandS.Flow
import HandS.Strs
import PyProof.SeqIndex
import HandS.ExcSuper
import PyProof.StrOps2
import HandS.Conv
import PySem.Challenge.RW_productstold_k76_whole_words_that_agree
set_option Elab.async false
set_option linter.all false
set_option maxRecDepth 100000
set_option maxHeartbeats 4000000
set_option autoImplicit false
section
set_option Elab.async false
set_option linter.all false
set_option maxRecDepth 100000
set_option maxHeartbeats 4000000
set_option autoImplicit false
/-! DL: Python values as pure data, a monadic mirror, and judgements over HandS that tie the text to the mirror. -/
namespace DL
open PySem PySem.Spec PyProof.Rows L2
abbrev St := L2.St

/-! ### data in a frozen heap -/
def FzL (K : PySem.W.Frag) (F : Hp) (a : Addr) (xs : List V) : Prop := F a = some (.lst xs) ∨ SqL K (fun _ => none) a xs
def FzT (K : PySem.W.Frag) (F : Hp) (a : Addr) (xs : List V) : Prop := F a = some (.tup xs) ∨ SqT K (fun _ => none) a xs
def kD : Key → PyData
  | .inl i => .int i
  | .inr x => .str x
mutual
inductive Rp (K : PySem.W.Frag) (F : Hp) : V → PyData → Prop
  | non : Rp K F .non .none
  | bl (b : Bool) : Rp K F (.bl b) (.bool b)
  | int (i : Int) : Rp K F (.int i) (.int i)
  | str (x : Str) : Rp K F (.str x) (.str x)
  | lst {a : Addr} {xs : List V} {ds : List PyData} : FzL K F a xs → Rps K F xs ds → Rp K F (.ref a) (.list ds)
  | tup {a : Addr} {xs : List V} {ds : List PyData} : FzT K F a xs → Rps K F xs ds → Rp K F (.ref a) (.tuple ds)
  | dK {a : Addr} {kvs : List (Key × V)} {ds : List (PyData × PyData)} : F a = some (.dK kvs) → RpK K F kvs ds → Rp K F (.ref a) (.dict ds)
  | dT {a : Addr} {kvs : List (List Key × V)} {ds : List (PyData × PyData)} : F a = some (.dT kvs) → RpT K F kvs ds → Rp K F (.ref a) (.dict ds)
inductive Rps (K : PySem.W.Frag) (F : Hp) : List V → List PyData → Prop
  | nil : Rps K F [] []
  | cons {v : V} {vs : List V} {d : PyData} {ds : List PyData} : Rp K F v d → Rps K F vs ds → Rps K F (v :: vs) (d :: ds)
inductive RpK (K : PySem.W.Frag) (F : Hp) : List (Key × V) → List (PyData × PyData) → Prop
  | nil : RpK K F [] []
  | cons {k : Key} {v : V} {vs : List (Key × V)} {d : PyData} {ds : List (PyData × PyData)} : Rp K F v d → RpK K F vs ds → RpK K F ((k, v) :: vs) ((kD k, d) :: ds)
inductive RpT (K : PySem.W.Frag) (F : Hp) : List (List Key × V) → List (PyData × PyData) → Prop
  | nil : RpT K F [] []
  | cons {k : List Key} {v : V} {vs : List (List Key × V)} {d : PyData} {ds : List (PyData × PyData)} : Rp K F v d → RpT K F vs ds → RpT K F ((k, v) :: vs) ((.tuple (k.map kD), d) :: ds)
end
def Le (F F' : Hp) : Prop := ∀ a o, F a = some o → F' a = some o
theorem Le.refl (F : Hp) : Le F F := fun _ _ h => h
theorem Le.trans {A B C : Hp} (h : Le A B) (g : Le B C) : Le A C := fun a o e => g a o (h a o e)
section
variable {K : PySem.W.Frag} {F F' H : Hp}
theorem FzL.mono {a : Addr} {xs : List V} (h : FzL K F a xs) (l : Le F F') : FzL K F' a xs := h.imp (l _ _) id
theorem FzT.mono {a : Addr} {xs : List V} (h : FzT K F a xs) (l : Le F F') : FzT K F' a xs := h.imp (l _ _) id
mutual
theorem Rp.mono (l : Le F F') : ∀ {v : V} {d : PyData}, Rp K F v d → Rp K F' v d
  | _, _, .non => .non
  | _, _, .bl b => .bl b
  | _, _, .int i => .int i
  | _, _, .str x => .str x
  | _, _, .lst h r => .lst (h.mono l) (Rps.mono l r)
  | _, _, .tup h r => .tup (h.mono l) (Rps.mono l r)
  | _, _, .dK h r => .dK (l _ _ h) (RpK.mono l r)
  | _, _, .dT h r => .dT (l _ _ h) (RpT.mono l r)
theorem Rps.mono (l : Le F F') : ∀ {vs : List V} {ds : List PyData}, Rps K F vs ds → Rps K F' vs ds
  | _, _, .nil => .nil
  | _, _, .cons a r => .cons (Rp.mono l a) (Rps.mono l r)
theorem RpK.mono (l : Le F F') : ∀ {vs : List (Key × V)} {ds : List (PyData × PyData)}, RpK K F vs ds → RpK K F' vs ds
  | _, _, .nil => .nil
  | _, _, .cons a r => .cons (Rp.mono l a) (RpK.mono l r)
theorem RpT.mono (l : Le F F') : ∀ {vs : List (List Key × V)} {ds : List (PyData × PyData)}, RpT K F vs ds → RpT K F' vs ds
  | _, _, .nil => .nil
  | _, _, .cons a r => .cons (Rp.mono l a) (RpT.mono l r)
end
theorem Rps.length : ∀ {vs : List V} {ds : List PyData}, Rps K F vs ds → vs.length = ds.length
  | _, _, .nil => rfl
  | _, _, .cons _ r => congrArg (· + 1) (Rps.length r)
theorem Rps.get : ∀ {vs : List V} {ds : List PyData} {i : Nat} {d : PyData}, Rps K F vs ds → ds[i]? = some d → ∃ v, vs[i]? = some v ∧ Rp K F v d
  | _, _, _, _, .nil, e => by simp at e
  | _, _, 0, _, .cons a _, e => by simp at e; subst e; exact ⟨_, rfl, a⟩
  | _, _, i + 1, _, .cons _ r, e => by
    obtain ⟨v, h1, h2⟩ := Rps.get (i := i) r (by simpa using e)
    exact ⟨v, by simpa using h1, h2⟩
theorem Rps.get' {vs : List V} {ds : List PyData} {i : Nat} {v : V} (r : Rps K F vs ds) (e : vs[i]? = some v) : ∃ d, ds[i]? = some d ∧ Rp K F v d := by
  have hl := r.length
  obtain ⟨h1, _⟩ := List.getElem?_eq_some_iff.mp e
  have h2 : i < ds.length := by omega
  obtain ⟨v', h3, h4⟩ := r.get (List.getElem?_eq_getElem h2)
  rw [e] at h3; cases h3
  exact ⟨_, List.getElem?_eq_getElem h2, h4⟩
theorem Rps.append : ∀ {vs ws : List V} {ds es : List PyData}, Rps K F vs ds → Rps K F ws es → Rps K F (vs ++ ws) (ds ++ es)
  | _, _, _, _, .nil, s => s
  | _, _, _, _, .cons a r, s => .cons a (Rps.append r s)
theorem Rps.one {v : V} {d : PyData} (h : Rp K F v d) : Rps K F [v] [d] := .cons h .nil
theorem Rps.take : ∀ {vs : List V} {ds : List PyData} (n : Nat), Rps K F vs ds → Rps K F (vs.take n) (ds.take n)
  | _, _, 0, _ => .nil
  | _, _, _ + 1, .nil => .nil
  | _, _, n + 1, .cons a r => .cons a (Rps.take n r)
theorem Rps.drop : ∀ {vs : List V} {ds : List PyData} (n : Nat), Rps K F vs ds → Rps K F (vs.drop n) (ds.drop n)
  | _, _, 0, r => r
  | _, _, _ + 1, .nil => .nil
  | _, _, n + 1, .cons _ r => Rps.drop n r
theorem Rps.set {v : V} {d : PyData} (a : Rp K F v d) : ∀ {vs : List V} {ds : List PyData} (i : Nat), Rps K F vs ds → Rps K F (vs.set i v) (ds.set i d)
  | _, _, _, .nil => .nil
  | _, _, 0, .cons _ r => .cons a r
  | _, _, i + 1, .cons b r => .cons b (Rps.set a i r)
theorem Rps.reverse {vs : List V} {ds : List PyData} (r : Rps K F vs ds) : Rps K F vs.reverse ds.reverse := by
  induction vs generalizing ds with
  | nil => cases r; exact .nil
  | cons v vs ih => cases r with | cons a r => rw [List.reverse_cons, List.reverse_cons]; exact (ih r).append (.one a)
theorem Rps.dropLast {vs : List V} {ds : List PyData} (r : Rps K F vs ds) : Rps K F vs.dropLast ds.dropLast := by
  rw [List.dropLast_eq_take, List.dropLast_eq_take, r.length]
  exact r.take _
theorem Rps.eraseIdx : ∀ {vs : List V} {ds : List PyData} (i : Nat), Rps K F vs ds → Rps K F (vs.eraseIdx i) (ds.eraseIdx i)
  | _, _, _, .nil => .nil
  | _, _, 0, .cons _ r => r
  | _, _, i + 1, .cons b r => .cons b (Rps.eraseIdx i r)
theorem Rps.ints : ∀ (ns : List Int), Rps K F (ns.map V.int) (ns.map PyData.int)
  | [] => .nil
  | n :: ns => .cons (.int n) (Rps.ints ns)

/-- what is frozen stands in the heap -/
def Sub (F H : Hp) : Prop := ∀ a o, F a = some o → Rd H a o
theorem SqL.up {a : Addr} {xs : List V} (h : SqL K (fun _ => none) a xs) : SqL K H a xs := by
  rcases h with (h | ⟨o, h⟩) | h
  · cases h
  · cases h
  · exact .inr h
theorem SqT.up {a : Addr} {xs : List V} (h : SqT K (fun _ => none) a xs) : SqT K H a xs := by
  rcases h with (h | ⟨o, h⟩) | h
  · cases h
  · cases h
  · exact .inr h
theorem FzL.sq {a : Addr} {xs : List V} (h : FzL K F a xs) (s : Sub F H) : SqL K H a xs := h.elim (fun h => .inl (s _ _ h)) SqL.up
theorem FzT.sq {a : Addr} {xs : List V} (h : FzT K F a xs) (s : Sub F H) : SqT K H a xs := h.elim (fun h => .inl (s _ _ h)) SqT.up
theorem Sub.fresh {p : Addr} (s : Sub F H) (n : H p = none) : F p = none := by
  cases e : F p with
  | none => rfl
  | some o =>
    rcases s p o e with h | ⟨ob, h⟩ <;> (rw [n] at h; cases h)
end

/-! ### the mirror's monad -/
inductive Er where
  | stuck
  | exc (c : Str) (f : Option (Str × PyData))
abbrev M (α : Type) := StateT (List PyData) (Except Er) α
def stuck {α : Type} : M α := fun _ => .error .stuck
def raiseM {α : Type} (c : Str) (f : Option (Str × PyData)) : M α := fun _ => .error (.exc c f)
/-- a call of a def that has no cup -/
def liftP {α : Type} (m : M α) : M α := fun cs => match m [] with
  | .ok (x, _) => .ok (x, cs)
  | .error e => .error e
/-- within a comprehension nothing may be raised -/
def noexc {α : Type} (m : M α) : M α := fun cs => match m cs with
  | .error (.exc _ _) => .error .stuck
  | r => r
def chk (p : Prop) [Decidable p] : M Unit := if p then pure () else stuck
theorem M.bind_run {α β : Type} (m : M α) (f : α → M β) (cs : List PyData) : (m >>= f) cs = (match m cs with | .ok (x, cs1) => f x cs1 | .error e => .error e) := by
  show (StateT.bind m f) cs = _
  unfold StateT.bind
  show (Except.bind (m cs) _) = _
  unfold Except.bind
  cases m cs with
  | ok p => rfl
  | error e => rfl
theorem M.pure_run {α : Type} (x : α) (cs : List PyData) : (pure x : M α) cs = .ok (x, cs) := rfl
@[simp] theorem stuck_bind {α β : Type} (f : α → M β) : (stuck >>= f) = stuck := by funext cs; rw [M.bind_run]; rfl
@[simp] theorem raiseM_bind {α β : Type} (c : Str) (x : Option (Str × PyData)) (f : α → M β) : (raiseM c x >>= f) = raiseM c x := by funext cs; rw [M.bind_run]; rfl
@[simp] theorem liftP_pure {α : Type} (x : α) : liftP (pure x) = pure x := rfl
@[simp] theorem liftP_raise {α : Type} (c : Str) (x : Option (Str × PyData)) : liftP (raiseM c x : M α) = raiseM c x := rfl
@[simp] theorem liftP_stuck {α : Type} : liftP (stuck : M α) = stuck := rfl
@[simp] theorem noexc_pure {α : Type} (x : α) : noexc (pure x) = pure x := rfl
theorem noexc_bind {α β : Type} (m : M α) (f : α → M β) : noexc (m >>= f) = noexc m >>= fun x => noexc (f x) := by
  funext cs
  unfold noexc
  rw [M.bind_run, M.bind_run]
  cases m cs with
  | ok p => rfl
  | error e => cases e <;> rfl
@[simp] theorem chk_true {p : Prop} [Decidable p] (h : p) : chk p = pure () := if_pos h

/-! ### what a slot holds -/
inductive Sl where
  /-- nothing is known -/
  | un
  /-- frozen data -/
  | d (x : PyData)
  /-- a list of the def's own -/
  | own (xs : List PyData)
  /-- a dict of the def's own: keys ints and texts; keys tuples of these -/
  | odK (kvs : List (PyData × PyData)) | odT (kvs : List (PyData × PyData))
  /-- the cup -/
  | cup
  /-- a def of the text, by its name -/
  | fn (x : Str)
/-- what a derivation stands in: the wish of exceptions, what is known of the slots then, the cup's address, the heap at the def's entry -/
structure Ct where
  W : WX
  rx : List Sl
  c : Option Addr
  E : Hp
  F0 : Hp
def Ct.cup (C : Ct) (a : Addr) : Prop := C.c = some a
section
variable (K : PySem.W.Frag) (mg : Str → Option Value) (C : Ct)
def SlOk (F H : Hp) : Sl → Option (Option V) → Prop
  | .un, _ => True
  | .d x, o => ∃ v, o = some (some v) ∧ Rp K F v x
  | .own xs, o => ∃ a vs, o = some (some (.ref a)) ∧ H a = some (.lst vs) ∧ F a = none ∧ C.c ≠ some a ∧ C.E a = none ∧ Rps K F vs xs
  | .odK kvs, o => ∃ a es, o = some (some (.ref a)) ∧ H a = some (.dK es) ∧ F a = none ∧ C.c ≠ some a ∧ C.E a = none ∧ RpK K F es kvs
  | .odT kvs, o => ∃ a es, o = some (some (.ref a)) ∧ H a = some (.dT es) ∧ F a = none ∧ C.c ≠ some a ∧ C.E a = none ∧ RpT K F es kvs
  | .cup, o => ∃ a, C.c = some a ∧ o = some (some (.ref a))
  | .fn x, o => ∃ f, mg x = some (.ref f) ∧ o = some (some (.ref f))
def isOwn : Sl → Bool
  | .own _ | .odK _ | .odT _ => true
  | _ => false
/-- the slot i is the owner of the object at a -/
def OwnAt (ρ : List Sl) (σ : St) (i : Nat) (a : Addr) : Prop := ∃ s, ρ[i]? = some s ∧ isOwn s = true ∧ σ[i]? = some (some (.ref a))
def CupOk (F H : Hp) (cs : List PyData) : Prop := match C.c with
  | none => cs = []
  | some a => F a = none ∧ ∃ vs, H a = some (.lst vs) ∧ Rps K F vs cs
structure Grow (c : Option Addr) (F H F' H' : Hp) : Prop where
  le : Le F F'
  new : ∀ a, F' a ≠ none → F a ≠ none ∨ H a = none
  keep : ∀ a o, H a = some o → c ≠ some a → H' a = some o
  ex : ∀ a, H a ≠ none → H' a ≠ none
  sub : Sub F' H'
structure EnvOk (F H : Hp) (σ : St) (ρ : List Sl) : Prop where
  len : ρ.length ≤ σ.length
  g0 : Grow C.c C.F0 C.E F H
  sl : ∀ (i : Nat) (s : Sl), ρ[i]? = some s → SlOk K mg C F H s σ[i]?
  sep : ∀ (i j : Nat) (a : Addr), OwnAt ρ σ i a → OwnAt ρ σ j a → i = j
def ExR (F H : Hp) (nm : Str) (fld : Option (Str × PyData)) (cl : Value) (d : Option Addr) : Prop := ∃ Cx, mg nm = some (.ref Cx) ∧ cl = .ref Cx ∧ match fld with
  | none => d = none
  | some (f, x) => ∃ da v, d = some da ∧ H da = some (.xd [(f, v)]) ∧ Rp K F v x
def Res {α : Type} (F H : Hp) (r : Except Er (α × List PyData)) (k : α → List PyData → Hp → Hp → Prop) : Prop := match r with
  | .ok (x, cs) => ∀ F' H', Grow C.c F H F' H' → CupOk K C F' H' cs → k x cs F' H'
  | .error (.exc nm fld) => ∀ F' H' cl d σ, Grow C.c F H F' H' → EnvOk K mg C F' H' σ C.rx → ExR K mg F' H' nm fld cl d → C.W cl d σ H'
  | .error .stuck => False
end
section
variable {K : PySem.W.Frag} {mg : Str → Option Value} {C : Ct} {c : Option Addr} {F H F' H' F'' H'' : Hp} {σ : St} {ρ ρ' : List Sl} {cs : List PyData}
theorem EnvOk.sub (h : EnvOk K mg C F H σ ρ) : Sub F H := h.g0.sub
theorem EnvOk.ent (h : EnvOk K mg C F H σ ρ) : ∀ a, C.E a ≠ none → H a ≠ none := h.g0.ex
theorem Grow.refl (s : Sub F H) : Grow c F H F H := ⟨Le.refl F, fun _ h => .inl h, fun _ _ e _ => e, fun _ h => h, s⟩
theorem Grow.trans (g : Grow c F H F' H') (h : Grow c F' H' F'' H'') : Grow c F H F'' H'' :=
  ⟨g.le.trans h.le, fun a e => (h.new a e).elim (g.new a) fun e' => .inr (by
      cases q : H a with
      | none => rfl
      | some o => exact absurd e' (g.ex a (by rw [q]; simp))), fun a o e n => h.keep a o (g.keep a o e n) n, fun a e => h.ex a (g.ex a e), h.sub⟩
theorem Grow.alloc {p : Addr} {o : HO} (s : Sub F H) (n : H p = none) : Grow c F H (upd F p o) (upd H p o) := by
  have nF := s.fresh n
  refine ⟨fun a u e => ?_, fun a e => ?_, fun a u e _ => ?_, fun a e => ?_, fun a u e => ?_⟩
  · rw [upd_ne (ne_of_none e nF)]; exact e
  · by_cases h : a = p
    · subst h; exact .inr n
    · rw [upd_ne h] at e; exact .inl e
  · rw [upd_ne (ne_of_none e n)]; exact e
  · by_cases h : a = p
    · subst h; rw [upd_same]; simp
    · rw [upd_ne h]; exact e
  · by_cases h : a = p
    · subst h; rw [upd_same] at e; cases e; exact .inl upd_same
    · rw [upd_ne h] at e
      rcases s a u e with q | ⟨ob, q⟩
      · exact .inl (by rw [upd_ne h]; exact q)
      · exact .inr ⟨ob, by rw [upd_ne h]; exact q⟩
/-- a new object that is not frozen yet -/
theorem Grow.fresh {p : Addr} {o : HO} (s : Sub F H) (n : H p = none) : Grow c F H F (upd H p o) := by
  refine ⟨Le.refl F, fun a e => .inl e, fun a u e _ => ?_, fun a e => ?_, fun a u e => ?_⟩
  · rw [upd_ne (ne_of_none e n)]; exact e
  · by_cases h : a = p
    · subst h; rw [upd_same]; simp
    · rw [upd_ne h]; exact e
  · have hp : a ≠ p := fun q => by subst q; rw [s.fresh n] at e; cases e
    rcases s a u e with q | ⟨ob, q⟩
    · exact .inl (by rw [upd_ne hp]; exact q)
    · exact .inr ⟨ob, by rw [upd_ne hp]; exact q⟩
theorem Le.fz {p : Addr} {o : HO} (n : F p = none) : Le F (upd F p o) := fun a u e => by rw [upd_ne (ne_of_none e n)]; exact e
/-- what was made since H is frozen -/
theorem Grow.freeze {p : Addr} {o : HO} (g : Grow c F H F' H') (n : H p = none) (nF : F' p = none) (h : H' p = some o) : Grow c F H (upd F' p o) H' := by
  refine ⟨g.le.trans (Le.fz nF), fun a e => ?_, g.keep, g.ex, fun a u e => ?_⟩
  · by_cases h : a = p
    · subst h; exact .inr n
    · rw [upd_ne h] at e; exact g.new a e
  · by_cases q : a = p
    · subst q; rw [upd_same] at e; cases e; exact .inl h
    · rw [upd_ne q] at e; exact g.sub a u e
theorem Grow.nF (g : Grow c F H F' H') {a : Addr} (h : H a ≠ none) (n : F a = none) : F' a = none := by
  cases e : F' a with
  | none => rfl
  | some o =>
    rcases g.new a (by rw [e]; simp) with q | q
    · exact absurd n q
    · exact absurd q h
theorem SlOk.grow {s : Sl} {o : Option (Option V)} (h : SlOk K mg C F H s o) (g : Grow C.c F H F' H') : SlOk K mg C F' H' s o := by
  cases s with
  | un => trivial
  | d x => obtain ⟨v, e, r⟩ := h; exact ⟨v, e, r.mono g.le⟩
  | own xs => obtain ⟨a, vs, e, h1, h2, h3, h4, r⟩ := h; exact ⟨a, vs, e, g.keep _ _ h1 h3, g.nF (by rw [h1]; simp) h2, h3, h4, r.mono g.le⟩
  | odK xs => obtain ⟨a, vs, e, h1, h2, h3, h4, r⟩ := h; exact ⟨a, vs, e, g.keep _ _ h1 h3, g.nF (by rw [h1]; simp) h2, h3, h4, r.mono g.le⟩
  | odT xs => obtain ⟨a, vs, e, h1, h2, h3, h4, r⟩ := h; exact ⟨a, vs, e, g.keep _ _ h1 h3, g.nF (by rw [h1]; simp) h2, h3, h4, r.mono g.le⟩
  | cup => exact h
  | fn x => exact h
theorem EnvOk.grow (h : EnvOk K mg C F H σ ρ) (g : Grow C.c F H F' H') : EnvOk K mg C F' H' σ ρ :=
  ⟨h.len, h.g0.trans g, fun i s e => (h.sl i s e).grow g, h.sep⟩
theorem SlOk.owned {s : Sl} {a : Addr} (i : isOwn s = true) (h : SlOk K mg C F H s (some (some (.ref a)))) : H a ≠ none := by
  cases s with
  | own xs => obtain ⟨b, vs, e, h1, _⟩ := h; cases e; rw [h1]; simp
  | odK xs => obtain ⟨b, vs, e, h1, _⟩ := h; cases e; rw [h1]; simp
  | odT xs => obtain ⟨b, vs, e, h1, _⟩ := h; cases e; rw [h1]; simp
  | un => cases i
  | d x => cases i
  | cup => cases i
  | fn x => cases i
theorem EnvOk.owned (h : EnvOk K mg C F H σ ρ) {i : Nat} {a : Addr} (o : OwnAt ρ σ i a) : H a ≠ none := by
  obtain ⟨s, e, w, es⟩ := o
  have q := h.sl i s e
  rw [es] at q
  exact q.owned w
/-- weaker knowledge -/
inductive Wk : List Sl → List Sl → Prop
  | nil {ρ : List Sl} : Wk ρ []
  | keep {s : Sl} {ρ ρ' : List Sl} : Wk ρ ρ' → Wk (s :: ρ) (s :: ρ')
  | drop {s : Sl} {ρ ρ' : List Sl} : Wk ρ ρ' → Wk (s :: ρ) (.un :: ρ')
theorem Wk.refl : ∀ ρ : List Sl, Wk ρ ρ
  | [] => .nil
  | _ :: ρ => .keep (Wk.refl ρ)
theorem Wk.get : ∀ {ρ ρ' : List Sl} {i : Nat} {s : Sl}, Wk ρ ρ' → ρ'[i]? = some s → s = .un ∨ ρ[i]? = some s
  | _, _, _, _, .nil, e => by simp at e
  | _, _, 0, _, .keep _, e => .inr e
  | _, _, i + 1, _, .keep w, e => by simpa using Wk.get (i := i) w (by simpa using e)
  | _, _, 0, _, .drop _, e => .inl (by simpa using e.symm)
  | _, _, i + 1, _, .drop w, e => by simpa using Wk.get (i := i) w (by simpa using e)
theorem Wk.len : ∀ {ρ ρ' : List Sl}, Wk ρ ρ' → ρ'.length ≤ ρ.length
  | _, _, .nil => Nat.zero_le _
  | _, _, .keep w => Nat.succ_le_succ w.len
  | _, _, .drop w => Nat.succ_le_succ w.len
theorem EnvOk.wk (h : EnvOk K mg C F H σ ρ) (w : Wk ρ ρ') : EnvOk K mg C F H σ ρ' := by
  refine ⟨Nat.le_trans w.len h.len, h.g0, fun i s e => ?_, fun i j a h1 h2 => h.sep i j a ?_ ?_⟩
  · rcases w.get e with rfl | e'
    · trivial
    · exact h.sl i s e'
  · obtain ⟨s, e, o, es⟩ := h1
    rcases w.get e with rfl | e'
    · cases o
    · exact ⟨s, e', o, es⟩
  · obtain ⟨s, e, o, es⟩ := h2
    rcases w.get e with rfl | e'
    · cases o
    · exact ⟨s, e', o, es⟩
/-- a slot that takes new content -/
theorem EnvOk.setAny (h : EnvOk K mg C F H σ ρ) (i : Nat) (s : Sl) (o : Option V) (hs : SlOk K mg C F H s (some o)) (ho : isOwn s = true → ∀ a, o = some (.ref a) → ∀ j, OwnAt ρ σ j a → j = i) : EnvOk K mg C F H (σ.set i o) (ρ.set i s) := by
  have hl := h.len
  have key : ∀ (j : Nat) (a : Addr), OwnAt (ρ.set i s) (σ.set i o) j a → (j = i ∧ isOwn s = true ∧ o = some (.ref a)) ∨ (j ≠ i ∧ OwnAt ρ σ j a) := by
    rintro j a ⟨t, e1, e2, e3⟩
    by_cases hj : i = j
    · subst hj
      by_cases hi : i < ρ.length
      · rw [List.getElem?_set_self hi] at e1
        rw [List.getElem?_set_self (by omega)] at e3
        cases e1; cases e3
        exact .inl ⟨rfl, e2, rfl⟩
      · rw [List.getElem?_eq_none (by rw [List.length_set]; omega)] at e1; cases e1
    · rw [List.getElem?_set_ne hj] at e1 e3
      exact .inr ⟨fun e => hj e.symm, t, e1, e2, e3⟩
  refine ⟨by rw [List.length_set, List.length_set]; exact hl, h.g0, fun j t e => ?_, fun j k a h1 h2 => ?_⟩
  · by_cases hj : i = j
    · subst hj
      by_cases hi : i < ρ.length
      · rw [List.getElem?_set_self hi] at e
        rw [List.getElem?_set_self (by omega)]
        cases e; exact hs
      · rw [List.getElem?_eq_none (by rw [List.length_set]; omega)] at e; cases e
    · rw [List.getElem?_set_ne hj] at e ⊢
      exact h.sl j t e
  · rcases key j a h1 with ⟨rfl, w1, z1⟩ | ⟨n1, o1⟩ <;> rcases key k a h2 with ⟨rfl, w2, z2⟩ | ⟨n2, o2⟩
    · rfl
    · exact absurd (ho w1 a z1 k o2) n2
    · exact absurd (ho w2 a z2 j o1) n1
    · exact h.sep j k a o1 o2
theorem EnvOk.setD (h : EnvOk K mg C F H σ ρ) (i : Nat) {v : V} {x : PyData} (r : Rp K F v x) : EnvOk K mg C F H (σ.set i (some v)) (ρ.set i (.d x)) := h.setAny i _ _ ⟨v, rfl, r⟩ (fun z => nomatch z)
theorem EnvOk.setUn (h : EnvOk K mg C F H σ ρ) (i : Nat) (o : Option V) : EnvOk K mg C F H (σ.set i o) (ρ.set i .un) := h.setAny i _ _ trivial (fun z => nomatch z)
theorem EnvOk.setOwn (h : EnvOk K mg C F H σ ρ) (i : Nat) {a : Addr} {vs : List V} {xs : List PyData} (e1 : H a = some (.lst vs)) (e2 : F a = none) (e3 : C.c ≠ some a) (e4 : C.E a = none) (r : Rps K F vs xs) (nw : ∀ j, OwnAt ρ σ j a → j = i) :
    EnvOk K mg C F H (σ.set i (some (.ref a))) (ρ.set i (.own xs)) := h.setAny i _ _ ⟨a, vs, rfl, e1, e2, e3, e4, r⟩ (fun _ b e j o => by cases e; exact nw j o)
theorem Grow.updFresh {p : Addr} {o : HO} (g : Grow c F H F' H') (n : H p = none) (nF : F' p = none) : Grow c F H F' (upd H' p o) := by
  refine ⟨g.le, g.new, fun a u e k => ?_, fun a e => ?_, fun a u e => ?_⟩
  · rw [upd_ne (ne_of_none e n)]; exact g.keep a u e k
  · by_cases h : a = p
    · subst h; rw [upd_same]; simp
    · rw [upd_ne h]; exact g.ex a e
  · have hp : a ≠ p := fun q => by subst q; rw [nF] at e; cases e
    rcases g.sub a u e with q | ⟨ob, q⟩
    · exact .inl (by rw [upd_ne hp]; exact q)
    · exact .inr ⟨ob, by rw [upd_ne hp]; exact q⟩
theorem CupOk.upd {p : Addr} {o : HO} (q : CupOk K C F H cs) (n : C.c ≠ some p) : CupOk K C F (upd H p o) cs := by
  unfold CupOk at q ⊢
  match e : C.c, q with
  | none, q => exact q
  | some a, q =>
    obtain ⟨n1, vs, e1, r1⟩ := q
    have hne : a ≠ p := fun z => n (by rw [e, z])
    exact ⟨n1, vs, by rw [upd_ne hne]; exact e1, r1⟩
theorem CupOk.le (q : CupOk K C F H cs) (l : Le F F') (n : ∀ a, C.c = some a → F' a = none) : CupOk K C F' H cs := by
  unfold CupOk at q ⊢
  match e : C.c, q with
  | none, q => exact q
  | some a, q =>
    obtain ⟨n1, vs, e1, r1⟩ := q
    exact ⟨n a e, vs, e1, r1.mono l⟩
theorem CupOk.there (q : CupOk K C F H cs) {a : Addr} (e : C.c = some a) : H a ≠ none ∧ F a = none := by
  unfold CupOk at q
  rw [e] at q
  obtain ⟨n1, vs, e1, _⟩ := q
  exact ⟨by rw [e1]; simp, n1⟩
theorem CupOk.ne (q : CupOk K C F H cs) {p : Addr} (n : H p = none) : C.c ≠ some p := fun e => (q.there e).1 n
/-- freezing what is not the cup -/
theorem CupOk.fz {p : Addr} {o : HO} (q : CupOk K C F H cs) (nF : F p = none) (n : C.c ≠ some p) : CupOk K C (L2.upd F p o) H cs := q.le (Le.fz nF) fun a e => by
  have : a ≠ p := fun z => n (by rw [e, z])
  exact (upd_ne this).trans (q.there e).2
theorem Res.mono {α : Type} {r : Except Er (α × List PyData)} {k k' : α → List PyData → Hp → Hp → Prop} (h : Res K mg C F H r k)
    (hk : ∀ x cs F' H', Grow C.c F H F' H' → CupOk K C F' H' cs → k x cs F' H' → k' x cs F' H') : Res K mg C F H r k' := by
  match r, h with
  | .ok (x, cs), h => exact fun F' H' g q => hk x cs F' H' g q (h F' H' g q)
  | .error (.exc nm fld), h => exact h
/-- results of a block, against the def's entry; what is frozen at F stays so -/
def ResB {α : Type} (K : PySem.W.Frag) (mg : Str → Option Value) (C : Ct) (F : Hp) (r : Except Er (α × List PyData)) (k : α → List PyData → Hp → Hp → Prop) : Prop := match r with
  | .ok (x, cs) => ∀ F' H', Le F F' → Grow C.c C.F0 C.E F' H' → CupOk K C F' H' cs → k x cs F' H'
  | .error (.exc nm fld) => ∀ F' H' cl d σ, Le F F' → Grow C.c C.F0 C.E F' H' → EnvOk K mg C F' H' σ C.rx → ExR K mg F' H' nm fld cl d → C.W cl d σ H'
  | .error .stuck => False
theorem ResB.le {α : Type} {r : Except Er (α × List PyData)} {k : α → List PyData → Hp → Hp → Prop} (h : ResB K mg C F r k) (l : Le F F') : ResB K mg C F' r k := by
  match r, h with
  | .ok (x, cs), h => exact fun F1 H1 l1 g q => h F1 H1 (l.trans l1) g q
  | .error (.exc nm fld), h => exact fun F1 H1 cl d σ l1 => h F1 H1 cl d σ (l.trans l1)
theorem ResB.bind {α β : Type} {m : M α} {f : α → M β} {k : β → List PyData → Hp → Hp → Prop} (h : ResB K mg C F ((m >>= f) cs) k) (g : Grow C.c C.F0 C.E F H) :
    Res K mg C F H (m cs) fun x cs1 F1 _ => ResB K mg C F1 (f x cs1) k := by
  rw [M.bind_run] at h
  match e : m cs, h with
  | .ok (x, cs1), h =>
    have h : ResB K mg C F (f x cs1) k := h
    exact fun F1 H1 g1 q1 => h.le g1.le
  | .error (.exc nm fld), h => exact fun F' H' cl d σ g1 e1 x1 => h F' H' cl d σ g1.le (g.trans g1) e1 x1
theorem ResB.split {α β : Type} {m : M α} {f : α → M β} {k : β → List PyData → Hp → Hp → Prop} (h : ResB K mg C F ((m >>= f) cs) k) : ResB K mg C F (m cs) fun x cs1 F1 _ => ResB K mg C F1 (f x cs1) k := by
  rw [M.bind_run] at h
  match e : m cs, h with
  | .ok (x, cs1), h =>
    have h : ResB K mg C F (f x cs1) k := h
    exact fun F1 H1 l g1 q1 => h.le l
  | .error (.exc nm fld), h => exact h
theorem ResB.mono {α : Type} {r : Except Er (α × List PyData)} {k k' : α → List PyData → Hp → Hp → Prop} (h : ResB K mg C F r k)
    (hk : ∀ x cs F' H', Le F F' → Grow C.c C.F0 C.E F' H' → CupOk K C F' H' cs → k x cs F' H' → k' x cs F' H') : ResB K mg C F r k' := by
  match r, h with
  | .ok (x, cs), h => exact fun F' H' l g q => hk x cs F' H' l g q (h F' H' l g q)
  | .error (.exc nm fld), h => exact h
theorem ResB.pure {α : Type} {x : α} {k : α → List PyData → Hp → Hp → Prop} (h : ResB K mg C F ((pure x : M α) cs) k) (g : Grow C.c C.F0 C.E F H) (q : CupOk K C F H cs) : k x cs F H := h F H (Le.refl F) g q
/-- THE STEP -/
theorem Res.bind {α β : Type} {m : M α} {f : α → M β} {k : β → List PyData → Hp → Hp → Prop} (h : Res K mg C F H ((m >>= f) cs) k) :
    Res K mg C F H (m cs) fun x cs1 F1 H1 => Res K mg C F1 H1 (f x cs1) k := by
  rw [M.bind_run] at h
  match e : m cs, h with
  | .ok (x, cs1), h =>
    intro F1 H1 g1 q1
    have h : Res K mg C F H (f x cs1) k := h
    match e2 : f x cs1, h with
    | .ok (y, cs2), h => exact fun F2 H2 g2 q2 => h F2 H2 (g1.trans g2) q2
    | .error (.exc nm fld), h => exact fun F2 H2 cl d σ g2 e2 x2 => h F2 H2 cl d σ (g1.trans g2) e2 x2
  | .error (.exc nm fld), h => exact h
theorem Res.pure {α : Type} {x : α} {k : α → List PyData → Hp → Hp → Prop} (h : Res K mg C F H ((pure x : M α) cs) k) (s : Sub F H) (q : CupOk K C F H cs) : k x cs F H := h F H (Grow.refl s) q
theorem Res.noexc {α : Type} {m : M α} {k : α → List PyData → Hp → Hp → Prop} {W : WX} {rx : List Sl} (h : Res K mg C F H (noexc m cs) k) : Res K mg { C with W := W, rx := rx } F H (m cs) k := by
  unfold DL.noexc at h
  match e : m cs, h with
  | .ok (x, cs1), h => exact h
  | .error (.exc nm fld), h => exact h.elim
  | .error .stuck, h => exact h
theorem Res.chk {p : Prop} [Decidable p] {β : Type} {f : Unit → M β} {k : β → List PyData → Hp → Hp → Prop} (h : Res K mg C F H ((chk p >>= f) cs) k) : p ∧ Res K mg C F H (f () cs) k := by
  by_cases hp : p
  · refine ⟨hp, ?_⟩
    rw [chk_true hp] at h
    rw [pure_bind] at h
    exact h
  · have e : DL.chk p = stuck := if_neg hp
    rw [e, stuck_bind] at h
    exact h.elim
end
end DL
end
section
set_option Elab.async false
set_option linter.all false
set_option maxRecDepth 100000
set_option maxHeartbeats 4000000
set_option autoImplicit false
namespace DL
open PySem PySem.Spec PyProof.Rows L2

/-! ### the judgements -/
section
variable (K : PySem.W.Frag) (mg : Str → Option Value) (C : Ct)
def kE (Q : VK) : PyData → List PyData → Hp → Hp → Prop := fun d _ F' H' => ∀ v, Rp K F' v d → Q v H'
def kT (Q : Bool → Hp → Prop) : Bool → List PyData → Hp → Hp → Prop := fun b _ F' H' => Q b H'
def kO (H : Hp) (Q : VK) : List PyData → List PyData → Hp → Hp → Prop := fun xs _ F' H' => ∀ a vs, H a = none → H' a = some (.lst vs) → F' a = none → C.c ≠ some a → Rps K F' vs xs → Q (.ref a) H'
def tM (ρ : List Sl) (m : M PyData) : TE := fun σ H Q => ∃ F cs, EnvOk K mg C F H σ ρ ∧ CupOk K C F H cs ∧ Res K mg C F H (m cs) (kE K Q)
def tO (ρ : List Sl) (m : M (List PyData)) : TE := fun σ H Q => ∃ F cs, EnvOk K mg C F H σ ρ ∧ CupOk K C F H cs ∧ Res K mg C F H (m cs) (kO K C H Q)
def tTm (ρ : List Sl) (m : M Bool) : TT := fun σ H Q => ∃ F cs, EnvOk K mg C F H σ ρ ∧ CupOk K C F H cs ∧ Res K mg C F H (m cs) (kT Q)
def runs : List (M PyData) → M (List PyData)
  | [] => pure []
  | m :: ms => do let x ← m; let xs ← runs ms; pure (x :: xs)
def kA (n : Nat) (Q : List V → Hp → Prop) : List PyData → List PyData → Hp → Hp → Prop := fun ds _ F' H' => ∀ vs, ds.length = n → Rps K F' vs ds → Q vs H'
def tAm (ρ : List Sl) (ms : List (M PyData)) : TA := fun σ H Q => ∃ F cs, EnvOk K mg C F H σ ρ ∧ CupOk K C F H cs ∧ Res K mg C F H (runs ms cs) (kA K ms.length Q)
/-- an iterator gives the items -/
def ItOk (J : It) (F : Hp) (ds : List PyData) : Prop := ∀ (i : Nat) (F1 H1 : Hp), Le F F1 → Sub F1 H1 →
  (ds.length ≤ i → J.stop i H1) ∧ ∀ d, ds[i]? = some d → J.go i H1 ∧ ∀ x H2, J.yld i H1 x H2 → ∃ F2, (∀ c, Grow c F1 H1 F2 H2) ∧ Rp K F2 x d
def tIm (ρ : List Sl) (m : M (List PyData)) : TI := fun σ H R => ∃ F cs, EnvOk K mg C F H σ ρ ∧ CupOk K C F H cs ∧ Res K mg C F H (m cs) fun ds cs' F' H' => ∀ J, ItOk K J F' ds → ds.length ≤ sizeLine → R J H'
end
structure FE (X : Cx) (C : Ct) (ρ : List Sl) (e : Expr) (m : M PyData) : Prop where
  pe : PE X e (tM X.K X.mg C ρ m)
structure FO (X : Cx) (C : Ct) (ρ : List Sl) (e : Expr) (m : M (List PyData)) : Prop where
  pe : PE X e (tO X.K X.mg C ρ m)
structure FT (X : Cx) (C : Ct) (ρ : List Sl) (e : Expr) (m : M Bool) : Prop where
  pt : PT X e (tTm X.K X.mg C ρ m)
structure FA (X : Cx) (C : Ct) (ρ : List Sl) (es : List Expr) (ms : List (M PyData)) : Prop where
  pa : PA X es (tAm X.K X.mg C ρ ms)
structure FI (X : Cx) (C : Ct) (ρ : List Sl) (tg e : Expr) (m : M (List PyData)) : Prop where
  pi : PI X tg e (tIm X.K X.mg C ρ m)
theorem imE {X : Cx} {e : Expr} {t t' : TE} (h : PE X e t) (i : ∀ σ H Q, t' σ H Q → t σ H Q) : PE X e t' := ⟨fun pins s σ H Q I w => h.run pins s σ H Q I (i σ H Q w)⟩
theorem imT {X : Cx} {e : Expr} {t t' : TT} (h : PT X e t) (i : ∀ σ H Q, t' σ H Q → t σ H Q) : PT X e t' := ⟨fun pins s σ H Q I w => h.run pins s σ H Q I (i σ H Q w)⟩
theorem imW {X : Cx} {e : Expr} {t t' : TT} (h : PW X e t) (i : ∀ σ H Q, t' σ H Q → t σ H Q) : PW X e t' := ⟨fun wh pins s σ H Q I w => h.run wh pins s σ H Q I (i σ H Q w)⟩
theorem imA {X : Cx} {e : List Expr} {t t' : TA} (h : PA X e t) (i : ∀ σ H Q, t' σ H Q → t σ H Q) : PA X e t' := ⟨fun p pins s σ H Q I w => h.run p pins s σ H Q I (i σ H Q w)⟩
theorem imS {X : Cx} {e : Stmt} {t t' : TS} (h : PS X e t) (i : ∀ D σ H, t' D σ H → t D σ H) : PS X e t' := ⟨fun pins s σ H Q I w => h.run pins s σ H Q I (i Q σ H w)⟩
theorem imSs {X : Cx} {e : List Stmt} {t t' : TS} (h : PSs X e t) (i : ∀ D σ H, t' D σ H → t D σ H) : PSs X e t' := ⟨fun pins s σ H Q I w => h.run pins s σ H Q I (i Q σ H w)⟩
theorem imI {X : Cx} {tg e : Expr} {t t' : TI} (h : PI X tg e t) (i : ∀ σ H Q, t' σ H Q → t σ H Q) : PI X tg e t' := ⟨fun pins s σ H Q I w => h.run pins s σ H Q I (i σ H Q w)⟩

section
variable {K : PySem.W.Frag} {mg : Str → Option Value} {C : Ct} {F H : Hp} {σ : St} {ρ : List Sl} {cs : List PyData} {ma mb mc : M PyData} {ta tb : TE}
/-- then a further step by values -/
theorem tM.then1 {f : PyData → M PyData} {k : V → Hp → VK → Prop} {Q : VK} (h : tM K mg C ρ (do let x ← ma; f x) σ H Q)
    (hop : ∀ F H x dx cs, Sub F H → EnvOk K mg C F H σ ρ → CupOk K C F H cs → Rp K F x dx → Res K mg C F H (f dx cs) (kE K Q) → k x H Q) : tM K mg C ρ ma σ H fun x H1 => k x H1 Q := by
  obtain ⟨F, cs, e, q, h⟩ := h
  refine ⟨F, cs, e, q, (Res.bind h).mono fun dx cs1 F1 H1 g1 q1 h1 v rv => ?_⟩
  exact hop F1 H1 v dx cs1 g1.sub (e.grow g1) q1 rv h1
theorem tM.then2 {f : PyData → PyData → M PyData} {r : R2} {Q : VK} (h : tM K mg C ρ (do let x ← ma; let y ← mb; f x y) σ H Q)
    (hop : ∀ F H x y dx dy cs, Sub F H → CupOk K C F H cs → Rp K F x dx → Rp K F y dy → Res K mg C F H (f dx dy cs) (kE K Q) → r x y H Q) : tOp r (tM K mg C ρ ma) (tM K mg C ρ mb) σ H Q := by
  obtain ⟨F, cs, e, q, h⟩ := h
  refine ⟨F, cs, e, q, (Res.bind h).mono fun dx cs1 F1 H1 g1 q1 h1 v rv => ?_⟩
  refine ⟨F1, cs1, e.grow g1, q1, (Res.bind h1).mono fun dy cs2 F2 H2 g2 q2 h2 u ru => ?_⟩
  exact hop F2 H2 v u dx dy cs2 g2.sub q2 (rv.mono g2.le) ru h2
end

/-! ### operators on data -/
/-- what an operator's rule on values asks follows from what it does on data -/
def Op2 (K : PySem.W.Frag) (f : PyData → PyData → M PyData) (r : R2) : Prop := ∀ (mg : Str → Option Value) (C : Ct) (F H : Hp) (x y : V) (dx dy : PyData) (cs : List PyData) (Q : VK), Sub F H → CupOk K C F H cs → Rp K F x dx → Rp K F y dy →
  Res K mg C F H (f dx dy cs) (kE K Q) → r x y H Q
def Op1 (K : PySem.W.Frag) (f : PyData → M PyData) (r : V → Hp → VK → Prop) : Prop := ∀ (mg : Str → Option Value) (C : Ct) (F H : Hp) (x : V) (dx : PyData) (cs : List PyData) (Q : VK), Sub F H → CupOk K C F H cs → Rp K F x dx →
  Res K mg C F H (f dx cs) (kE K Q) → r x H Q
section
variable {X : Cx} {C : Ct} {ρ : List Sl} {a b c : Expr} {ma mb mc : M PyData} {pos : Pos}
theorem fe_op {op : Operator} {r : R2} {f : PyData → PyData → M PyData} (ho : OpR X (binaryOp op) r) (hf : Op2 X.K f r) (ha : FE X C ρ a ma) (hb : FE X C ρ b mb) : FE X C ρ (.BinOp a op b pos) (do let x ← ma; let y ← mb; f x y) :=
  ⟨imE (pe_op ho ha.pe hb.pe) fun σ H Q h => h.then2 fun F H x y dx dy cs s q rx ry h => hf _ _ F H x y dx dy cs Q s q rx ry h⟩
theorem fe_un {op : UnaryOp} {r : V → Hp → VK → Prop} {f : PyData → M PyData} (ho : UnR X (unaryOp op) r) (hf : Op1 X.K f r) (ha : FE X C ρ a ma) : FE X C ρ (.UnaryOp op a pos) (do let x ← ma; f x) :=
  ⟨imE (pe_un ho ha.pe) fun σ H Q h => h.then1 (k := r) fun F H x dx cs s _ q rx h => hf _ _ F H x dx cs Q s q rx h⟩
theorem fe_cmp {op : CmpOp} {r : R2} {f : PyData → PyData → M PyData} (ho : OpR X (compareOp op) r) (hf : Op2 X.K f r) (hm : behindInMarks op b = false) (ha : FE X C ρ a ma) (hb : FE X C ρ b mb) :
    FE X C ρ (.Compare a [op] [b] pos) (do let x ← ma; let y ← mb; f x y) :=
  ⟨imE (pe_cmpR ho ha.pe hb.pe hm) fun σ H Q h => h.then2 fun F H x y dx dy cs s q rx ry h => hf _ _ F H x y dx dy cs Q s q rx ry h⟩
/-- a comparison as a test -/
def asB : PyData → M Bool
  | .bool b => pure b
  | _ => stuck
theorem asB_res {K : PySem.W.Frag} {mg : Str → Option Value} {F H : Hp} {d : PyData} {v : V} {cs : List PyData} {Q : Bool → Hp → Prop} (rv : Rp K F v d) (s : Sub F H) (q : CupOk K C F H cs) (h : Res K mg C F H (asB d cs) (kT Q)) : ∃ b, v = .bl b ∧ Q b H := by
  cases rv with
  | bl b => exact ⟨b, rfl, h F H (Grow.refl s) q⟩
  | non => exact h.elim
  | int _ => exact h.elim
  | str _ => exact h.elim
  | lst _ _ => exact h.elim
  | tup _ _ => exact h.elim
  | dK _ _ => exact h.elim
  | dT _ _ => exact h.elim
theorem ft_cmp {op : CmpOp} {r : R2} {f : PyData → PyData → M PyData} (ho : OpR X (compareOp op) r) (hf : Op2 X.K f r) (hm : behindInMarks op b = false) (ha : FE X C ρ a ma) (hb : FE X C ρ b mb) :
    FT X C ρ (.Compare a [op] [b] pos) (do let x ← ma; let y ← mb; let z ← f x y; asB z) := by
  refine ⟨imT (pt_cmpR ho ha.pe hb.pe hm) fun σ H Q h => ?_⟩
  obtain ⟨F, cs, e, q, h⟩ := h
  refine ⟨F, cs, e, q, (Res.bind h).mono fun dx cs1 F1 H1 g1 q1 h1 v rv => ?_⟩
  refine ⟨F1, cs1, e.grow g1, q1, (Res.bind h1).mono fun dy cs2 F2 H2 g2 q2 h2 u ru => ?_⟩
  refine hf _ _ F2 H2 v u dx dy cs2 _ g2.sub q2 (rv.mono g2.le) ru ((Res.bind h2).mono fun dz cs3 F3 H3 g3 q3 h3 w rw' => ?_)
  exact asB_res rw' g3.sub q3 h3
/-- an expression whose value is a bool -/
theorem ft_val {e : Expr} {m : M PyData} (h : FE X C ρ e m) (he : ∀ whole, isTrue e X.env whole = (do let v ← whole; standAt e.pos; holding [v] (truthy v)) := by intro _; rfl) : FT X C ρ e (do let z ← m; asB z) := by
  refine ⟨imT (pt_val h.pe he) fun σ H Q h => ?_⟩
  obtain ⟨F, cs, e, q, h⟩ := h
  exact ⟨F, cs, e, q, (Res.bind h).mono fun dx cs1 F1 H1 g1 q1 h1 v rv => asB_res rv g1.sub q1 h1⟩
theorem ft_not {m : M Bool} (h : FT X C ρ a m) : FT X C ρ (.UnaryOp .Not a pos) (do let b ← m; pure (!b)) := by
  refine ⟨imT (pt_not h.pt) fun σ H Q h => ?_⟩
  obtain ⟨F, cs, e, q, h⟩ := h
  exact ⟨F, cs, e, q, (Res.bind h).mono fun b cs1 F1 H1 g1 q1 h1 => Res.pure (mg := X.mg) h1 g1.sub q1⟩
/-- and, or as tests: the last one is ft_last -/
structure FW (X : Cx) (C : Ct) (ρ : List Sl) (e : Expr) (m : M Bool) : Prop where
  pw : PW X e (tTm X.K X.mg C ρ m)
theorem FW.ft {e : Expr} {m : M Bool} (h : FW X C ρ e m) : FT X C ρ e m := ⟨h.pw.pt⟩
theorem fw_and1 {m : M Bool} (h : FT X C ρ a m) : FW X C ρ (.BoolOp .And [a] pos) m := ⟨pw_and1 h.pt⟩
theorem fw_or1 {m : M Bool} (h : FT X C ρ a m) : FW X C ρ (.BoolOp .Or [a] pos) m := ⟨pw_or1 h.pt⟩
theorem fw_and {rest : List Expr} {m n : M Bool} (ha : FT X C ρ a m) (hb : FW X C ρ (.BoolOp .And (b :: rest) pos) n) : FW X C ρ (.BoolOp .And (a :: b :: rest) pos) (do let t ← m; if t = true then n else pure false) := by
  refine ⟨imW (pw_and ha.pt hb.pw) fun σ H Q h => ?_⟩
  obtain ⟨F, cs, e, q, h⟩ := h
  refine ⟨F, cs, e, q, (Res.bind h).mono fun t cs1 F1 H1 g1 q1 h1 => ?_⟩
  cases t with
  | true => exact iteT (B := Q false H1) ⟨F1, cs1, e.grow g1, q1, h1⟩
  | false => exact iteF (A := tTm X.K X.mg C ρ n σ H1 Q) (Res.pure (mg := X.mg) h1 g1.sub q1)
theorem fw_or {rest : List Expr} {m n : M Bool} (ha : FT X C ρ a m) (hb : FW X C ρ (.BoolOp .Or (b :: rest) pos) n) : FW X C ρ (.BoolOp .Or (a :: b :: rest) pos) (do let t ← m; if t = true then pure true else n) := by
  refine ⟨imW (pw_or ha.pt hb.pw) fun σ H Q h => ?_⟩
  obtain ⟨F, cs, e, q, h⟩ := h
  refine ⟨F, cs, e, q, (Res.bind h).mono fun t cs1 F1 H1 g1 q1 h1 => ?_⟩
  cases t with
  | true => exact iteT (B := tTm X.K X.mg C ρ n σ H1 Q) (Res.pure (mg := X.mg) h1 g1.sub q1)
  | false => exact iteF (A := Q true H1) ⟨F1, cs1, e.grow g1, q1, h1⟩
/-- .. as values: all but the last are bools -/
theorem fe_one {op : BoolOp} {m : M PyData} (h : FE X C ρ a m) : FE X C ρ (.BoolOp op [a] pos) m := ⟨pe_one h.pe⟩
theorem fe_and {rest : List Expr} {m n : M PyData} (ha : FE X C ρ a m) (hb : FE X C ρ (.BoolOp .And (b :: rest) pos) n) : FE X C ρ (.BoolOp .And (a :: b :: rest) pos) (do let z ← m; let t ← asB z; if t = true then n else pure (.bool false)) := by
  refine ⟨imE (pe_and ha.pe hb.pe) fun σ H Q h => ?_⟩
  obtain ⟨F, cs, e, q, h⟩ := h
  refine ⟨F, cs, e, q, (Res.bind h).mono fun d cs1 F1 H1 g1 q1 h1 v rv => ?_⟩
  have h2 := Res.bind h1
  cases rv with
  | bl t =>
    refine ⟨t, rfl, ?_⟩
    have h3 := h2 F1 H1 (Grow.refl g1.sub) q1
    cases t with
    | true => exact iteT ⟨F1, cs1, e.grow g1, q1, h3⟩
    | false => exact iteF (Res.pure h3 g1.sub q1 _ (.bl false))
  | _ => exact h2.elim
theorem fe_or {rest : List Expr} {m n : M PyData} (ha : FE X C ρ a m) (hb : FE X C ρ (.BoolOp .Or (b :: rest) pos) n) : FE X C ρ (.BoolOp .Or (a :: b :: rest) pos) (do let z ← m; let t ← asB z; if t = true then pure (.bool true) else n) := by
  refine ⟨imE (pe_or ha.pe hb.pe) fun σ H Q h => ?_⟩
  obtain ⟨F, cs, e, q, h⟩ := h
  refine ⟨F, cs, e, q, (Res.bind h).mono fun d cs1 F1 H1 g1 q1 h1 v rv => ?_⟩
  have h2 := Res.bind h1
  cases rv with
  | bl t =>
    refine ⟨t, rfl, ?_⟩
    have h3 := h2 F1 H1 (Grow.refl g1.sub) q1
    cases t with
    | true => exact iteT (Res.pure h3 g1.sub q1 _ (.bl true))
    | false => exact iteF ⟨F1, cs1, e.grow g1, q1, h3⟩
  | _ => exact h2.elim
theorem fe_not {m : M PyData} (ha : FE X C ρ a m) : FE X C ρ (.UnaryOp .Not a pos) (do let z ← m; let t ← asB z; pure (.bool (!t))) := by
  refine ⟨imE (pe_not ha.pe) fun σ H Q h => ?_⟩
  obtain ⟨F, cs, e, q, h⟩ := h
  refine ⟨F, cs, e, q, (Res.bind h).mono fun d cs1 F1 H1 g1 q1 h1 v rv => ?_⟩
  have h2 := Res.bind h1
  cases rv with
  | bl t => exact ⟨t, rfl, Res.pure (h2 F1 H1 (Grow.refl g1.sub) q1) g1.sub q1 _ (.bl _)⟩
  | _ => exact h2.elim
theorem fe_ifExp {t : M Bool} (hc : FT X C ρ c t) (ha : FE X C ρ a ma) (hb : FE X C ρ b mb) : FE X C ρ (.IfExp c a b pos) (do let z ← t; if z = true then ma else mb) := by
  refine ⟨imE (pe_ifExp hc.pt ha.pe hb.pe) fun σ H Q h => ?_⟩
  obtain ⟨F, cs, e, q, h⟩ := h
  refine ⟨F, cs, e, q, (Res.bind h).mono fun t cs1 F1 H1 g1 q1 h1 => ?_⟩
  cases t with
  | true => exact iteT (B := tM X.K X.mg C ρ mb σ H1 Q) ⟨F1, cs1, e.grow g1, q1, h1⟩
  | false => exact iteF (A := tM X.K X.mg C ρ ma σ H1 Q) ⟨F1, cs1, e.grow g1, q1, h1⟩
/-- a < b < c -/
theorem fe_chain {op op' : CmpOp} {r r' : R2} {f f' : PyData → PyData → M PyData} (ho : OpR X (compareOp op) r) (ho' : OpR X (compareOp op') r') (hf : Op2 X.K f r) (hf' : Op2 X.K f' r') (ha : FE X C ρ a ma) (hb : FE X C ρ b mb) (hc : FE X C ρ c mc)
    (hm : lastMarks [op, op'] [b, c] = false := by with_unfolding_all rfl) :
    FE X C ρ (.Compare a [op, op'] [b, c] pos) (do let x ← ma; let y ← mb; let z ← f x y; let t ← asB z; if t = true then (do let w ← mc; f' y w) else pure (.bool false)) := by
  refine ⟨imE (pe_chain ho ho' ha.pe hb.pe hc.pe hm) fun σ H Q h => ?_⟩
  obtain ⟨F, cs, e, q, h⟩ := h
  refine ⟨F, cs, e, q, (Res.bind h).mono fun dx cs1 F1 H1 g1 q1 h1 v rv => ?_⟩
  refine ⟨F1, cs1, e.grow g1, q1, (Res.bind h1).mono fun dy cs2 F2 H2 g2 q2 h2 u ru => ?_⟩
  refine hf _ _ F2 H2 v u dx dy cs2 _ g2.sub q2 (rv.mono g2.le) ru ((Res.bind h2).mono fun dz cs3 F3 H3 g3 q3 h3 w rw' => ?_)
  have h4 := Res.bind h3
  cases rw' with
  | bl t =>
    refine ⟨t, rfl, ?_⟩
    have h5 := h4 F3 H3 (Grow.refl g3.sub) q3
    cases t with
    | true =>
      refine iteT ⟨F3, cs3, (e.grow (g1.trans (g2.trans g3))), q3, (Res.bind h5).mono fun dw cs4 F4 H4 g4 q4 h6 w rw => ?_⟩
      exact hf' _ _ F4 H4 u w dy dw cs4 _ g4.sub q4 (ru.mono (g3.le.trans g4.le)) rw h6
    | false => exact iteF (Res.pure h5 g3.sub q3 _ (.bl false))
  | _ => exact h4.elim
end
end DL
end
section
set_option Elab.async false
set_option linter.all false
set_option maxRecDepth 100000
set_option maxHeartbeats 4000000
set_option autoImplicit false
namespace DL
open PySem PySem.Spec PyProof.Rows L2

/-! ### + -/
def rCatL (K : PySem.W.Frag) : R2 := fun x y H Q => ∃ l b xs zs, x = .ref l ∧ y = .ref b ∧ SqL K H l xs ∧ SqL K H b zs ∧ xs.length + zs.length ≤ sizeLine ∧ ∀ p, H p = none → Q (.ref p) (upd H p (.lst (xs ++ zs)))
theorem op_catL {X : Cx} : OpR X (binaryOp .Add) (rCatL X.K) := by
  intro pins s σ H x y v u Q I rx ry h
  obtain ⟨l, b, xs, zs, rfl, rfl, hH, hB, hz, q⟩ := h
  cases rx
  cases ry
  obtain ⟨its, r, p1, _⟩ := I.list hH
  obtain ⟨its2, r2, p2, _⟩ := I.list hB
  obtain ⟨⟨cls, dd, data, sl⟩, n, ho, hc, hdd, hd⟩ := p1
  obtain ⟨⟨cls2, dd2, data2, sl2⟩, n2, ho2, hc2, hdd2, hd2⟩ := p2
  simp only at hc hd hc2 hd2
  subst hc hd hc2 hd2
  have hl := r.length
  have hl2 := r2.length
  have e : its.toArray ++ its2.toArray = (its ++ its2).toArray := by simp
  refine concat_meets ⟨_, ho, rfl⟩ ⟨_, ho2, rfl⟩ noFill_list_add seq_list_add PySem.F.slot_list_add PySem.F.entry_list_add (PySem.F.args_list_add_2 _ _) (list_addW l b its.toArray its2.toArray n n2 dd dd2 sl sl2 (by rw [List.size_toArray, List.size_toArray]; omega)) ⟨ho, ho2, ?_⟩
  rw [e]
  exact ⟨.ref _, _, I.lnew (t' := s.toks) (r.append r2) (by rw [List.length_append]; omega), rfl, q _ I.fresh⟩
def rAddAll (K : PySem.W.Frag) : R2 := fun x y H Q => (∃ i j, x = .int i ∧ y = .int j ∧ Q (.int (i + j)) H) ∨ (∃ i j, x = .str i ∧ y = .str j ∧ i.length + j.length ≤ sizeLine ∧ Q (.str (i ++ j)) H) ∨ rCatA K x y H Q ∨ rCatL K x y H Q
theorem op_addAll {X : Cx} : OpR X (binaryOp .Add) (rAddAll X.K) := op_add.or (op_add_str.or (op_catA.or op_catL))
def padd : PyData → PyData → M PyData
  | .int i, .int j => pure (.int (i + j))
  | .str i, .str j => do chk (i.length + j.length ≤ sizeLine); pure (.str (i ++ j))
  | .tuple xs, .tuple ys => do chk (xs.length + ys.length ≤ sizeLine); pure (.tuple (xs ++ ys))
  | .list xs, .list ys => do chk (xs.length + ys.length ≤ sizeLine); pure (.list (xs ++ ys))
  | _, _ => stuck
section
variable {K : PySem.W.Frag} {mg : Str → Option Value} {C : Ct} {F H : Hp} {cs : List PyData} {Q : VK}
/-- a new frozen object -/
theorem kE.new {d : PyData} {o : HO} (h : Res K mg C F H ((pure d : M PyData) cs) (kE K Q)) (s : Sub F H) (q : CupOk K C F H cs) (r : ∀ p, H p = none → Rp K (upd F p o) (.ref p) d) : ∀ p, H p = none → Q (.ref p) (upd H p o) := fun p n => by
  have g : Grow C.c F H (upd F p o) (upd H p o) := Grow.alloc s n
  refine h _ _ g ?_ _ (r p n)
  unfold CupOk at q ⊢
  match e : C.c, q with
  | none, q => exact q
  | some a, q =>
    obtain ⟨n1, vs, e1, r1⟩ := q
    have hne : a ≠ p := fun z => by subst z; rw [n] at e1; cases e1
    exact ⟨by rw [upd_ne hne]; exact n1, vs, by rw [upd_ne hne]; exact e1, r1.mono g.le⟩
theorem kE.tup {ds : List PyData} {vs : List V} (h : Res K mg C F H ((pure (.tuple ds) : M PyData) cs) (kE K Q)) (s : Sub F H) (q : CupOk K C F H cs) (r : Rps K F vs ds) : ∀ p, H p = none → Q (.ref p) (upd H p (.tup vs)) :=
  kE.new h s q fun p n => .tup (.inl upd_same) (r.mono (Le.fz (s.fresh n)))
theorem kE.lst {ds : List PyData} {vs : List V} (h : Res K mg C F H ((pure (.list ds) : M PyData) cs) (kE K Q)) (s : Sub F H) (q : CupOk K C F H cs) (r : Rps K F vs ds) : ∀ p, H p = none → Q (.ref p) (upd H p (.lst vs)) :=
  kE.new h s q fun p n => .lst (.inl upd_same) (r.mono (Le.fz (s.fresh n)))
theorem kE.val {d : PyData} {v : V} (h : Res K mg C F H ((pure d : M PyData) cs) (kE K Q)) (s : Sub F H) (q : CupOk K C F H cs) (r : Rp K F v d) : Q v H := Res.pure h s q v r
end
theorem padd_ok (K : PySem.W.Frag) : Op2 K padd (rAddAll K) := by
  intro mg C F H x y dx dy cs Q s q rx ry h
  cases rx <;> cases ry <;> first
    | exact h.elim
    | exact .inl ⟨_, _, rfl, rfl, kE.val h s q (.int _)⟩
    | (obtain ⟨c, h⟩ := Res.chk h; exact .inr (.inl ⟨_, _, rfl, rfl, c, kE.val h s q (.str _)⟩))
    | (rename_i a xs ds f r b ys es f2 r2
       obtain ⟨c, h⟩ := Res.chk h
       refine .inr (.inr (.inl ⟨a, b, xs, ys, rfl, rfl, f.sq s, f2.sq s, by rw [r.length, r2.length]; exact c, fun e => ?_, fun _ e => ?_, fun _ _ => ?_⟩))
       · subst e; cases r; exact kE.val h s q (.tup f2 r2)
       · subst e; cases r2; rw [List.append_nil] at h; exact kE.val h s q (.tup f r)
       · exact kE.tup h s q (r.append r2))
    | (rename_i a xs ds f r b ys es f2 r2
       obtain ⟨c, h⟩ := Res.chk h
       exact .inr (.inr (.inr ⟨a, b, xs, ys, rfl, rfl, f.sq s, f2.sq s, by rw [r.length, r2.length]; exact c, kE.lst h s q (r.append r2)⟩)))

/-! ### other arithmetic -/
def psub : PyData → PyData → M PyData
  | .int i, .int j => pure (.int (i - j))
  | _, _ => stuck
theorem psub_ok (K : PySem.W.Frag) : Op2 K psub (rI0 fun i j => .int (i - j)) := by
  intro mg C F H x y dx dy cs Q s q rx ry h
  cases rx <;> cases ry <;> first
    | exact h.elim
    | exact ⟨_, _, rfl, rfl, kE.val h s q (.int _)⟩
def pmod : PyData → PyData → M PyData
  | .int i, .int j => do chk (0 < j); pure (.int (i % j))
  | _, _ => stuck
theorem pmod_ok (K : PySem.W.Frag) : Op2 K pmod (rI (fun _ j => 0 < j) fun i j => .int (i % j)) := by
  intro mg C F H x y dx dy cs Q s q rx ry h
  cases rx <;> cases ry <;> first
    | exact h.elim
    | (obtain ⟨c, h⟩ := Res.chk h; exact ⟨_, _, rfl, rfl, c, kE.val h s q (.int _)⟩)
def pfdiv : PyData → PyData → M PyData
  | .int i, .int j => do chk (0 < j ∧ j < 1073741824); pure (.int (i / j))
  | _, _ => stuck
theorem pfdiv_ok (K : PySem.W.Frag) : Op2 K pfdiv (rI CDiv fun i j => .int (i / j)) := by
  intro mg C F H x y dx dy cs Q s q rx ry h
  cases rx <;> cases ry <;> first
    | exact h.elim
    | (obtain ⟨c, h⟩ := Res.chk h; exact ⟨_, _, rfl, rfl, c, kE.val h s q (.int _)⟩)
def ppow : PyData → PyData → M PyData
  | .int i, .int j => do chk (0 ≤ j ∧ j ≤ 1000000 ∧ i.natAbs < 2 ^ 64); pure (.int (i ^ j.toNat))
  | _, _ => stuck
theorem ppow_ok (K : PySem.W.Frag) : Op2 K ppow (rI CPow fun i j => .int (i ^ j.toNat)) := by
  intro mg C F H x y dx dy cs Q s q rx ry h
  cases rx <;> cases ry <;> first
    | exact h.elim
    | (obtain ⟨c, h⟩ := Res.chk h; exact ⟨_, _, rfl, rfl, c, kE.val h s q (.int _)⟩)
def pneg : PyData → M PyData
  | .int i => pure (.int (-i))
  | _ => stuck
theorem pneg_ok (K : PySem.W.Frag) : Op1 K pneg (rU fun i => .int (-i)) := by
  intro mg C F H x dx cs Q s q rx h
  cases rx <;> first
    | exact h.elim
    | exact ⟨_, rfl, kE.val h s q (.int _)⟩

/-! ### == != -/
mutual
theorem Rp.dp {K : PySem.W.Frag} {F H : Hp} (s : Sub F H) : ∀ {v : V} {d : PyData}, Rp K F v d → d.plain = true → Dp K H v d
  | _, _, .non, _ => .non
  | _, _, .bl b, _ => .bl b
  | _, _, .int i, _ => .int i
  | _, _, .str x, _ => .str x
  | _, _, .lst f r, h => .lst (f.sq s) (Rps.dp s r (by simpa [PyData.plain] using h))
  | _, _, .tup f r, h => .tup (f.sq s) (Rps.dp s r (by simpa [PyData.plain] using h))
  | _, _, .dK _ _, h => by simp [PyData.plain] at h
  | _, _, .dT _ _, h => by simp [PyData.plain] at h
theorem Rps.dp {K : PySem.W.Frag} {F H : Hp} (s : Sub F H) : ∀ {vs : List V} {ds : List PyData}, Rps K F vs ds → PyData.plainAll ds = true → DpAll K H vs ds
  | _, _, .nil, _ => .nil
  | _, _, .cons a r, h => by
    rw [PyData.plainAll, Bool.and_eq_true] at h
    exact .cons (Rp.dp s a h.1) (Rps.dp s r h.2)
end
def eqOk (d e : PyData) : Bool := d.plain && e.plain && decide (min d.depth e.depth ≤ 64)
def rEqP (K : PySem.W.Frag) : R2 := fun x y H Q => ∃ d e, Dp K H x d ∧ Dp K H y e ∧ eqOk d e = true ∧ Q (.bl (PyData.eqv d e)) H
def rNeP (K : PySem.W.Frag) : R2 := fun x y H Q => ∃ d e, Dp K H x d ∧ Dp K H y e ∧ eqOk d e = true ∧ Q (.bl (!PyData.eqv d e)) H
theorem eqOk_iff {d e : PyData} (h : eqOk d e = true) : d.plain = true ∧ e.plain = true ∧ min d.depth e.depth ≤ 64 := by
  simp only [eqOk, Bool.and_eq_true, decide_eq_true_eq] at h
  exact ⟨h.1.1, h.1.2, h.2⟩
theorem op_eqP {X : Cx} (hu : X.A.units + 64 < cLine) : OpR X (compareOp .Eq) (rEqP X.K) := by
  intro pins s σ H x y v u Q I rx ry h
  obtain ⟨d, e, hd, he, c, q⟩ := h
  obtain ⟨c1, c2, c3⟩ := eqOk_iff c
  obtain ⟨as, r1⟩ := Dp.reads I d x v hd rx
  obtain ⟨bs, r2⟩ := Dp.reads I e y u he ry
  exact SeqAt.eq_plain r1 r2 c1 c2 (by omega) ⟨.bl _, H, I, rfl, q⟩
theorem op_neP {X : Cx} (hu : X.A.units + 64 < cLine) : OpR X (compareOp .NotEq) (rNeP X.K) := by
  intro pins s σ H x y v u Q I rx ry h
  obtain ⟨d, e, hd, he, c, q⟩ := h
  obtain ⟨c1, c2, c3⟩ := eqOk_iff c
  obtain ⟨as, r1⟩ := Dp.reads I d x v hd rx
  obtain ⟨bs, r2⟩ := Dp.reads I e y u he ry
  exact SeqAt.ne_plain r1 r2 c1 c2 (by omega) ⟨.bl _, H, I, rfl, q⟩
def peq (d e : PyData) : M PyData := do chk (eqOk d e = true); pure (.bool (PyData.eqv d e))
def pne (d e : PyData) : M PyData := do chk (eqOk d e = true); pure (.bool (!PyData.eqv d e))
theorem peq_ok (K : PySem.W.Frag) : Op2 K peq (rEqP K) := by
  intro mg C F H x y dx dy cs Q s q rx ry h
  obtain ⟨c, h⟩ := Res.chk h
  obtain ⟨c1, c2, _⟩ := eqOk_iff c
  exact ⟨dx, dy, rx.dp s c1, ry.dp s c2, c, kE.val h s q (.bl _)⟩
theorem pne_ok (K : PySem.W.Frag) : Op2 K pne (rNeP K) := by
  intro mg C F H x y dx dy cs Q s q rx ry h
  obtain ⟨c, h⟩ := Res.chk h
  obtain ⟨c1, c2, _⟩ := eqOk_iff c
  exact ⟨dx, dy, rx.dp s c1, ry.dp s c2, c, kE.val h s q (.bl _)⟩

/-! ### < <= > >= of ints -/
def pcmp (p : Int → Int → Bool) : PyData → PyData → M PyData
  | .int i, .int j => pure (.bool (p i j))
  | _, _ => stuck
theorem pcmp_ok (K : PySem.W.Frag) (p : Int → Int → Bool) : Op2 K (pcmp p) (rI0 fun i j => .bl (p i j)) := by
  intro mg C F H x y dx dy cs Q s q rx ry h
  cases rx <;> cases ry <;> first
    | exact h.elim
    | exact ⟨_, _, rfl, rfl, kE.val h s q (.bl _)⟩
abbrev plt := pcmp fun i j => decide (i < j)
abbrev ple := pcmp fun i j => decide (i ≤ j)
abbrev pgt := pcmp fun i j => decide (j < i)
abbrev pge := pcmp fun i j => decide (j ≤ i)

/-! ### in, not in -/
def inOk (d : PyData) (ds : List PyData) : Bool := d.plain && PyData.plainAll ds && decide (min (PyData.depthAll ds) d.depth ≤ 63)
def pinB (d e : PyData) : M Bool := match e with
  | .list ds => do chk (inOk d ds = true); pure (ds.any fun z => PyData.eqv z d)
  | .tuple ds => do chk (inOk d ds = true); pure (ds.any fun z => PyData.eqv z d)
  | .str z => match d with
    | .str ⟨#[c]⟩ => pure (decide (c ∈ z.cps.toList))
    | _ => stuck
  | _ => stuck
def pin (d e : PyData) : M PyData := do let b ← pinB d e; pure (.bool b)
def pnin (d e : PyData) : M PyData := do let b ← pinB d e; pure (.bool (!b))
def rInP (K : PySem.W.Frag) (neg : Bool) : R2 := fun x y H Q => (∃ d ds, Dp K H x d ∧ (Dp K H y (.list ds) ∨ Dp K H y (.tuple ds)) ∧ inOk d ds = true ∧ Q (.bl (if neg then !(ds.any fun z => PyData.eqv z d) else ds.any fun z => PyData.eqv z d)) H) ∨
  ∃ (c : Nat) (z : Str), x = .str ⟨#[c]⟩ ∧ y = .str z ∧ Q (.bl (if neg then !decide (c ∈ z.cps.toList) else decide (c ∈ z.cps.toList))) H
theorem inOk_iff {d : PyData} {ds : List PyData} (h : inOk d ds = true) : d.plain = true ∧ PyData.plainAll ds = true ∧ min (PyData.depthAll ds) d.depth ≤ 63 := by
  simp only [inOk, Bool.and_eq_true, decide_eq_true_eq] at h
  exact ⟨h.1.1, h.1.2, h.2⟩
theorem op_inP {X : Cx} (hu : X.A.units + 64 < cLine) : OpR X (compareOp .In) (rInP X.K false) := by
  intro pins s σ H x y v u Q I rx ry h
  rcases h with ⟨d, ds, hd, he, c, q⟩ | h
  · obtain ⟨c1, c2, c3⟩ := inOk_iff c
    obtain ⟨as, r1⟩ := Dp.reads I d x v hd rx
    rcases he with he | he
    · obtain ⟨bs, r2⟩ := Dp.reads I _ y u he ry
      exact SeqAt.in_list_data r2 r1 c2 c1 (by omega) ⟨.bl _, H, I, rfl, q⟩
    · obtain ⟨bs, r2⟩ := Dp.reads I _ y u he ry
      exact SeqAt.in_tuple_data r2 r1 c2 c1 (by omega) ⟨.bl _, H, I, rfl, q⟩
  · exact op_in_sign pins s σ H x y v u Q I rx ry h
theorem op_ninP {X : Cx} (hu : X.A.units + 64 < cLine) : OpR X (compareOp .NotIn) (rInP X.K true) := by
  intro pins s σ H x y v u Q I rx ry h
  rcases h with ⟨d, ds, hd, he, c, q⟩ | h
  · obtain ⟨c1, c2, c3⟩ := inOk_iff c
    obtain ⟨as, r1⟩ := Dp.reads I d x v hd rx
    rcases he with he | he
    · obtain ⟨bs, r2⟩ := Dp.reads I _ y u he ry
      exact SeqAt.notIn_list_data r2 r1 c2 c1 (by omega) ⟨.bl _, H, I, rfl, q⟩
    · obtain ⟨bs, r2⟩ := Dp.reads I _ y u he ry
      exact SeqAt.notIn_tuple_data r2 r1 c2 c1 (by omega) ⟨.bl _, H, I, rfl, q⟩
  · exact op_notIn_sign pins s σ H x y v u Q I rx ry h
theorem pinB_ok {K : PySem.W.Frag} {mg : Str → Option Value} {C : Ct} {F H : Hp} {x y : V} {dx dy : PyData} {cs : List PyData} {Q : VK} (neg : Bool) (s : Sub F H) (q : CupOk K C F H cs) (rx : Rp K F x dx) (ry : Rp K F y dy)
    (h : Res K mg C F H ((do let b ← pinB dx dy; pure (.bool (if neg then !b else b)) : M PyData) cs) (kE K Q)) : rInP K neg x y H Q := by
  cases ry with
  | lst f r =>
    have h1 := Res.bind h
    rename_i a xs ds
    obtain ⟨c, h1⟩ := Res.chk (f := fun _ => pure (ds.any fun z => PyData.eqv z dx)) h1
    obtain ⟨c1, c2, _⟩ := inOk_iff c
    exact .inl ⟨dx, ds, rx.dp s c1, .inl ((Rp.lst f r).dp s (by simpa [PyData.plain] using c2)), c, kE.val (Res.pure h1 s q) s q (.bl _)⟩
  | tup f r =>
    have h1 := Res.bind h
    rename_i a xs ds
    obtain ⟨c, h1⟩ := Res.chk (f := fun _ => pure (ds.any fun z => PyData.eqv z dx)) h1
    obtain ⟨c1, c2, _⟩ := inOk_iff c
    exact .inl ⟨dx, ds, rx.dp s c1, .inr ((Rp.tup f r).dp s (by simpa [PyData.plain] using c2)), c, kE.val (Res.pure h1 s q) s q (.bl _)⟩
  | str z =>
    cases rx with
    | str w =>
      obtain ⟨⟨l⟩⟩ := w
      match l with
      | [c] => exact .inr ⟨c, z, rfl, rfl, kE.val (Res.pure (Res.bind h) s q) s q (.bl _)⟩
      | [] => exact h.elim
      | _ :: _ :: _ => exact h.elim
    | _ => exact h.elim
  | _ => exact h.elim
theorem pin_ok (K : PySem.W.Frag) : Op2 K pin (rInP K false) := fun mg C F H x y dx dy cs Q s q rx ry h => pinB_ok false s q rx ry h
theorem pnin_ok (K : PySem.W.Frag) : Op2 K pnin (rInP K true) := fun mg C F H x y dx dy cs Q s q rx ry h => pinB_ok true s q rx ry h
end DL
end
section
set_option Elab.async false
set_option linter.all false
set_option maxRecDepth 100000
set_option maxHeartbeats 4000000
set_option autoImplicit false
namespace DL
open PySem PySem.Spec PyProof.Rows L2

section
variable {X : Cx} {C : Ct} {ρ : List Sl} {a b c e : Expr} {ma mb mc m : M PyData} {pos p : Pos}
/-! ### atoms -/
theorem fe_pure {K : PySem.W.Frag} {mg : Str → Option Value} {v : V} {d : PyData} {σ : St} {H : Hp} {Q : VK} (r : ∀ F, Rp K F v d) (h : tM K mg C ρ (pure d) σ H Q) : Q v H := by
  obtain ⟨F, cs, e, q, h⟩ := h
  exact kE.val h e.sub q (r F)
theorem fe_int {i : Int} {j : Nat} : FE X C ρ (.Constant (.int i) j pos) (pure (.int i)) := ⟨imE pe_int fun _ _ _ h => fe_pure (fun F => .int i) h⟩
theorem fe_bl {b : Bool} {j : Nat} : FE X C ρ (.Constant (.bool b) j pos) (pure (.bool b)) := ⟨imE pe_bl fun _ _ _ h => fe_pure (fun F => .bl b) h⟩
theorem fe_non {j : Nat} : FE X C ρ (.Constant .none j pos) (pure .none) := ⟨imE pe_non fun _ _ _ h => fe_pure (fun F => .non) h⟩
theorem fe_str {x : Str} {j : Nat} : FE X C ρ (.Constant (.str x) j pos) (pure (.str x)) := ⟨imE pe_str fun _ _ _ h => fe_pure (fun F => .str x) h⟩
theorem fe_name (i : Nat) {x : Str} {d : PyData} (hρ : ρ[i]? = some (.d d) := by rfl) (hN : X.N[i]? = some x := by rfl) (hv : Vis X.env.scope x := by first | exact Or.inl rfl | exact Or.inr (Or.inl rfl) | exact Or.inr (Or.inr rfl))
    (hd : (x == ("__debug__" : Str)) = false := by decide) (hcd : (x == ("__classdict__" : Str)) = false := by decide) : FE X C ρ (.Name x pos) (pure d) := by
  refine ⟨imE (pe_var hN hv hd hcd) fun σ H Q h => ?_⟩
  obtain ⟨F, cs, e, q, h⟩ := h
  obtain ⟨v, e1, r⟩ := e.sl i _ hρ
  exact ⟨v, e1, kE.val h e.sub q r⟩
/-- a module's constant -/
theorem fe_glob {x : Str} {u : Value} {v : V} {d : PyData} (hm : X.mg x = some u) (r : RelV v u) (rp : ∀ F, Rp X.K F v d) (hg : Gl X x := by rfl) (hd : (x == ("__debug__" : Str)) = false := by decide) : FE X C ρ (.Name x pos) (pure d) :=
  ⟨imE (pe_glob hg hm r hd) fun _ _ _ h => fe_pure rp h⟩

/-! ### a[i] -/
def pidx : PyData → PyData → M PyData
  | .list ds, .int i => match atI ds i with
    | some d => pure d
    | none => stuck
  | .tuple ds, .int i => match atI ds i with
    | some d => pure d
    | none => stuck
  | .str z, .int i => do chk (z.length ≤ sizeLine); match atI z.cps.toList i with
    | some c => pure (.str ⟨#[c]⟩)
    | none => stuck
  | _, _ => stuck
theorem Rps.atI {K : PySem.W.Frag} {F : Hp} {vs : List V} {ds : List PyData} {i : Int} {d : PyData} (r : Rps K F vs ds) (e : L2.atI ds i = some d) : ∃ v, L2.atI vs i = some v ∧ Rp K F v d := by
  unfold L2.atI at e ⊢
  rw [r.length]
  cases q : ixN ds.length i with
  | none => rw [q] at e; cases e
  | some j =>
    rw [q] at e
    exact r.get e
theorem pidx_ok (K : PySem.W.Frag) : Op2 K pidx (rIx K) := by
  intro mg C F H x y dx dy cs Q s q rx ry h
  cases ry with
  | int i =>
    cases rx with
    | lst f r =>
      rename_i a xs ds
      unfold pidx at h
      cases e : atI ds i with
      | none => simp only [e] at h; exact h.elim
      | some d =>
        simp only [e] at h
        obtain ⟨v, e1, rv⟩ := r.atI e
        exact .inl ⟨a, xs, i, v, rfl, rfl, f.sq s, e1, kE.val h s q rv⟩
    | tup f r =>
      rename_i a xs ds
      unfold pidx at h
      cases e : atI ds i with
      | none => simp only [e] at h; exact h.elim
      | some d =>
        simp only [e] at h
        obtain ⟨v, e1, rv⟩ := r.atI e
        exact .inr (.inl ⟨a, xs, i, v, rfl, rfl, f.sq s, e1, kE.val h s q rv⟩)
    | str z =>
      obtain ⟨hz, h⟩ := Res.chk h
      cases e : atI z.cps.toList i with
      | none => simp only [e] at h; exact h.elim
      | some c =>
        simp only [e] at h
        exact .inr (.inr ⟨z, i, c, rfl, rfl, hz, e, kE.val h s q (.str _)⟩)
    | _ => exact h.elim
  | _ => cases rx <;> exact h.elim
theorem fe_idx (ha : FE X C ρ a ma) (hb : FE X C ρ b mb) (hs : PlainIx b := by exact fun _ _ => rfl) : FE X C ρ (.Subscript a b pos) (do let x ← ma; let y ← mb; pidx x y) :=
  ⟨imE (pe_ix ix_seq ha.pe hb.pe hs) fun σ H Q h => h.then2 fun F H x y dx dy cs s q rx ry h => pidx_ok _ _ _ F H x y dx dy cs Q s q rx ry h⟩

/-! ### slices -/
def cutP {α : Type} (xs : List α) (lo hi : Option Int) : List α := (xs.drop (HT.sIx xs.length 0 lo)).take (HT.sIx xs.length xs.length hi - HT.sIx xs.length 0 lo)
def pslice : PyData → Option Int → Option Int → M PyData
  | .list ds, lo, hi => pure (.list (cutP ds lo hi))
  | .tuple ds, lo, hi => pure (.tuple (cutP ds lo hi))
  | .str z, lo, hi => do chk (z.length ≤ sizeLine); pure (.str ⟨(cutP z.cps.toList lo hi).toArray⟩)
  | _, _, _ => stuck
theorem Rps.cut {K : PySem.W.Frag} {F : Hp} {vs : List V} {ds : List PyData} (r : Rps K F vs ds) (lo hi : Option Int) : Rps K F (cutV vs lo hi) (cutP ds lo hi) := by
  unfold cutV cutP
  rw [r.length]
  exact (r.drop _).take _
def asI : PyData → M Int
  | .int i => pure i
  | _ => stuck
structure FP (X : Cx) (C : Ct) (ρ : List Sl) (e : Option Expr) (m : M (Option Int)) : Prop where
  po : PO X e (fun σ H Q => ∃ F cs, EnvOk X.K X.mg C F H σ ρ ∧ CupOk X.K C F H cs ∧ Res X.K X.mg C F H (m cs) fun o _ _ H' => Q o H')
theorem imO {X : Cx} {e : Option Expr} {t t' : TO} (h : PO X e t) (i : ∀ σ H Q, t' σ H Q → t σ H Q) : PO X e t' := ⟨fun pins s σ H Q I w => h.run pins s σ H Q I (i σ H Q w)⟩
theorem fp_none : FP X C ρ none (pure none) := ⟨imO po_none fun σ H Q ⟨F, cs, e, q, h⟩ => Res.pure (mg := X.mg) h e.sub q⟩
theorem fp_some (h : FE X C ρ e m) : FP X C ρ (some e) (do let x ← m; let i ← asI x; pure (some i)) := by
  refine ⟨imO (po_some h.pe) fun σ H Q h => ?_⟩
  obtain ⟨F, cs, e, q, h⟩ := h
  refine ⟨F, cs, e, q, (Res.bind h).mono fun d cs1 F1 H1 g1 q1 h1 v rv => ?_⟩
  cases rv with
  | int i => exact ⟨i, rfl, Res.pure (mg := X.mg) h1 g1.sub q1⟩
  | _ => exact h1.elim
def rSlAll (K : PySem.W.Frag) : V → Option Int → Option Int → Hp → VK → Prop := fun x lo hi H Q => rSlL K x lo hi H Q ∨ rSlA K x lo hi H Q ∨ rSlS x lo hi H Q
theorem fe_slice {lo hi : Option Expr} {ml mh : M (Option Int)} {p2 : Pos} (ha : FE X C ρ a ma) (hl : FP X C ρ lo ml) (hh : FP X C ρ hi mh) : FE X C ρ (.Subscript a (.Slice lo hi none p2) pos) (do let x ← ma; let l ← ml; let h ← mh; pslice x l h) := by
  refine ⟨imE (pe_slice (r := rSlAll X.K) (sl_list.or (sl_tupA.or sl_str)) ha.pe hl.po hh.po) fun σ H Q h => ?_⟩
  obtain ⟨F, cs, e, q, h⟩ := h
  refine ⟨F, cs, e, q, (Res.bind h).mono fun d cs1 F1 H1 g1 q1 h1 v rv => ?_⟩
  refine ⟨F1, cs1, e.grow g1, q1, (Res.bind h1).mono fun l cs2 F2 H2 g2 q2 h2 => ?_⟩
  refine ⟨F2, cs2, (e.grow g1).grow g2, q2, (Res.bind h2).mono fun h cs3 F3 H3 g3 q3 h3 => ?_⟩
  have rv3 := rv.mono (g2.le.trans g3.le)
  have s3 := g3.sub
  cases rv3 with
  | lst f r => exact .inl ⟨_, _, rfl, f.sq s3, kE.lst h3 s3 q3 (r.cut l h)⟩
  | tup f r =>
    rename_i t xs ds
    refine .inr (.inl ⟨_, _, rfl, f.sq s3, fun w => ?_, fun _ => kE.tup h3 s3 q3 (r.cut l h)⟩)
    refine kE.val h3 s3 q3 (.tup f ?_)
    have e1 : cutV xs l h = xs := by unfold cutV; rw [w.1, w.2]; simp
    have e2 := r.cut l h
    rw [e1] at e2
    exact e2
  | str z =>
    obtain ⟨hz, h3⟩ := Res.chk h3
    exact .inr (.inr ⟨z, rfl, hz, kE.val h3 s3 q3 (.str _)⟩)
  | _ => exact h3.elim

/-! ### argument lists, displays -/
theorem Grow.free {c : Option Addr} {F H F' H' : Hp} (g : Grow c F H F' H') {p : Addr} (n : H' p = none) : H p = none := by
  cases e : H p with
  | none => rfl
  | some o => exact absurd n (g.ex p (by rw [e]; simp))
theorem Res.alloc {K : PySem.W.Frag} {mg : Str → Option Value} {F H : Hp} {r : Except Er (List PyData × List PyData)} {Q : VK} (h : Res K mg C F H r (kO K C H Q)) :
    Res K mg C F H r fun xs _ F1 H1 => ∀ p vs, H1 p = none → Rps K F1 vs xs → Q (.ref p) (upd H1 p (.lst vs)) := by
  match r, h with
  | .ok (xs, cs), h => exact fun F1 H1 g1 q1 p vs n rs => h F1 (upd H1 p (.lst vs)) (g1.updFresh (g1.free n) (g1.sub.fresh n)) (q1.upd (q1.ne n)) p vs (g1.free n) upd_same (g1.sub.fresh n) (q1.ne n) rs
  | .error (.exc nm fld), h => exact h
theorem fa_nil : FA X C ρ [] [] := ⟨imA pa_nil fun σ H Q ⟨F, cs, e, q, h⟩ => Res.pure (mg := X.mg) h e.sub q [] rfl .nil⟩
theorem fa_cons {es : List Expr} {ms : List (M PyData)} (h1 : FE X C ρ e m) (h2 : FA X C ρ es ms) (hs : starEach (e :: es) X.env = (false, eval e X.env) :: starEach es X.env := by rfl) : FA X C ρ (e :: es) (m :: ms) := by
  refine ⟨imA (pa_cons h1.pe h2.pa hs) fun σ H Q h => ?_⟩
  obtain ⟨F, cs, e, q, h⟩ := h
  refine ⟨F, cs, e, q, (Res.bind h).mono fun d cs1 F1 H1 g1 q1 h1 v rv => ?_⟩
  refine ⟨F1, cs1, e.grow g1, q1, (Res.bind h1).mono fun ds cs2 F2 H2 g2 q2 h2 vs hl rs => ?_⟩
  exact Res.pure (mg := X.mg) h2 g2.sub q2 (v :: vs) (by simp [hl]) (.cons (rv.mono g2.le) rs)
theorem fe_tup {es : List Expr} {ms : List (M PyData)} {k : Nat} (h : FA X C ρ es ms) (hz : ms.length ≤ sizeLine := by decide) : FE X C ρ (.Tuple es k pos) (do let xs ← runs ms; pure (.tuple xs)) := by
  refine ⟨imE (pe_tup h.pa) fun σ H Q h => ?_⟩
  obtain ⟨F, cs, e, q, h⟩ := h
  refine ⟨F, cs, e, q, (Res.bind h).mono fun ds cs1 F1 H1 g1 q1 h1 vs hl rs => ⟨by rw [rs.length, hl]; exact hz, kE.tup h1 g1.sub q1 rs⟩⟩
theorem fo_lst {es : List Expr} {ms : List (M PyData)} (h : FA X C ρ es ms) (hz : ms.length ≤ sizeLine := by decide) : FO X C ρ (.List es pos) (runs ms) := by
  refine ⟨imE (pe_lst h.pa) fun σ H Q h => ?_⟩
  obtain ⟨F, cs, e, q, h⟩ := h
  exact ⟨F, cs, e, q, h.alloc.mono fun ds cs1 F1 H1 g1 q1 h1 vs hl rs => ⟨by rw [rs.length, hl]; exact hz, fun p n => h1 p vs n rs⟩⟩
/-- a list of its own, taken as data -/
theorem fe_of {m : M (List PyData)} (h : FO X C ρ e m) : FE X C ρ e (do let xs ← m; pure (.list xs)) := by
  refine ⟨imE h.pe fun σ H Q h => ?_⟩
  obtain ⟨F, cs, e, q, h⟩ := h
  refine ⟨F, cs, e, q, ?_⟩
  rw [M.bind_run] at h
  match e2 : m cs, h with
  | .ok (xs, cs1), h =>
    intro F1 H1 g1 q1 a vs nH e1 nF ne rs
    exact h (L2.upd F1 a (.lst vs)) H1 (g1.freeze nH nF e1) (q1.fz nF ne) _ (.lst (.inl upd_same) (rs.mono (Le.fz nF)))
  | .error (.exc nm fld), h => exact h
end
end DL
end
section
set_option Elab.async false
set_option linter.all false
set_option maxRecDepth 100000
set_option maxHeartbeats 4000000
set_option autoImplicit false
namespace DL
open PySem PySem.Spec PyProof.Rows L2

/-! ### built-in calls -/
section
variable {X : Cx} {C : Ct} {ρ : List Sl} {a b c e : Expr} {ma mb mc m : M PyData} {pos p : Pos} {x : Str}
theorem runs1 {f : List PyData → M PyData} : (do let d ← m; f [d]) = (do let ds ← runs [m]; f ds) := by simp [runs]
theorem runs2 {f : List PyData → M PyData} : (do let d ← ma; let e ← mb; f [d, e]) = (do let ds ← runs [ma, mb]; f ds) := by simp [runs]
def OpN (K : PySem.W.Frag) (f : List PyData → M PyData) (r : List V → Hp → VK → Prop) : Prop := ∀ (mg : Str → Option Value) (C : Ct) (F H : Hp) (vs : List V) (ds : List PyData) (cs : List PyData) (Q : VK), Sub F H → CupOk K C F H cs → Rps K F vs ds →
  Res K mg C F H (f ds cs) (kE K Q) → r vs H Q
theorem tA_then {K : PySem.W.Frag} {mg : Str → Option Value} {ms : List (M PyData)} {f : List PyData → M PyData} {k : List V → Hp → VK → Prop} {σ : St} {H : Hp} {Q : VK} (h : tM K mg C ρ (do let ds ← runs ms; f ds) σ H Q)
    (hop : ∀ F H vs ds cs, Sub F H → EnvOk K mg C F H σ ρ → CupOk K C F H cs → ds.length = ms.length → Rps K F vs ds → Res K mg C F H (f ds cs) (kE K Q) → k vs H Q) : tAm K mg C ρ ms σ H fun vs H1 => k vs H1 Q := by
  obtain ⟨F, cs, e, q, h⟩ := h
  exact ⟨F, cs, e, q, (Res.bind h).mono fun ds cs1 F1 H1 g1 q1 h1 vs hl rs => hop F1 H1 vs ds cs1 g1.sub (e.grow g1) q1 hl rs h1⟩
theorem fe_callB {id : String} {r : List V → Hp → VK → Prop} {f : List PyData → M PyData} {es : List Expr} {ms : List (M PyData)} (hc : CallR X (.builtin id) r) (hf : OpN X.K f r) (hm : X.mg x = none) (hv : bootBuiltins x = some (.builtin id)) (ha : FA X C ρ (e :: es) ms)
    (hg : Gl X x := by rfl) (hn : x ≠ "__name__" := by decide) (hdb : (x == ("__debug__" : Str)) = false := by decide)
    (he : starEach (e :: es) X.env = (false, eval e X.env) :: starEach es X.env := by rfl) (hpl : (backTo pos (starEach es X.env)).any (·.1) = false := by rfl) : FE X C ρ (.Call (.Name x p) (e :: es) [] pos) (do let ds ← runs ms; f ds) :=
  ⟨imE (pe_callB hc hg hm hv ha.pa hn hdb he hpl) fun σ H Q h => tA_then (k := r) h fun F H vs ds cs s _ q _ rs h => hf _ _ F H vs ds cs Q s q rs h⟩
theorem fe_callTy {T : String} {r : List V → Hp → VK → Prop} {f : List PyData → M PyData} {es : List Expr} {ms : List (M PyData)} (hc : CallR X (.type T) r) (hf : OpN X.K f r) (hm : X.mg x = none) (hv : bootBuiltins x = some (.type T)) (ha : FA X C ρ (e :: es) ms)
    (hg : Gl X x := by rfl) (hn : x ≠ "__name__" := by decide) (hdb : (x == ("__debug__" : Str)) = false := by decide)
    (he : starEach (e :: es) X.env = (false, eval e X.env) :: starEach es X.env := by rfl) (hpl : (backTo pos (starEach es X.env)).any (·.1) = false := by rfl) : FE X C ρ (.Call (.Name x p) (e :: es) [] pos) (do let ds ← runs ms; f ds) :=
  ⟨imE (pe_callTy hc hg hm hv ha.pa hn hdb he hpl) fun σ H Q h => tA_then (k := r) h fun F H vs ds cs s _ q _ rs h => hf _ _ F H vs ds cs Q s q rs h⟩
/-- functions of one, of two items as functions of the list -/
def f1 (f : PyData → M PyData) : List PyData → M PyData
  | [d] => f d
  | _ => stuck
def f2 (f : PyData → PyData → M PyData) : List PyData → M PyData
  | [d, e] => f d e
  | _ => stuck
theorem op1 {K : PySem.W.Frag} {f : PyData → M PyData} {r : List V → Hp → VK → Prop} (h : ∀ (mg : Str → Option Value) (C : Ct) (F H : Hp) (v : V) (d : PyData) (cs : List PyData) (Q : VK), Sub F H → CupOk K C F H cs → Rp K F v d → Res K mg C F H (f d cs) (kE K Q) → r [v] H Q) : OpN K (f1 f) r := by
  intro mg C F H vs ds cs Q s q rs w
  match rs, w with
  | .cons a .nil, w => exact h mg C F H _ _ cs Q s q a w
  | .nil, w => exact w.elim
  | .cons _ (.cons _ _), w => exact w.elim
theorem op2 {K : PySem.W.Frag} {f : PyData → PyData → M PyData} {r : List V → Hp → VK → Prop} (h : ∀ (mg : Str → Option Value) (C : Ct) (F H : Hp) (v u : V) (d e : PyData) (cs : List PyData) (Q : VK), Sub F H → CupOk K C F H cs → Rp K F v d → Rp K F u e → Res K mg C F H (f d e cs) (kE K Q) → r [v, u] H Q) : OpN K (f2 f) r := by
  intro mg C F H vs ds cs Q s q rs w
  match rs, w with
  | .cons a (.cons b .nil), w => exact h mg C F H _ _ _ _ cs Q s q a b w
  | .nil, w => exact w.elim
  | .cons _ .nil, w => exact w.elim
  | .cons _ (.cons _ (.cons _ _)), w => exact w.elim
theorem fe_callB1 {id : String} {r : List V → Hp → VK → Prop} {f : PyData → M PyData} (hc : CallR X (.builtin id) r) (hf : OpN X.K (f1 f) r) (hm : X.mg x = none) (hv : bootBuiltins x = some (.builtin id)) (ha : FE X C ρ a ma)
    (hg : Gl X x := by rfl) (hn : x ≠ "__name__" := by decide) (hdb : (x == ("__debug__" : Str)) = false := by decide)
    (hs : starEach [a] X.env = (false, eval a X.env) :: starEach [] X.env := by rfl) : FE X C ρ (.Call (.Name x p) [a] [] pos) (do let d ← ma; f d) := by
  have h := fe_callB (p := p) (pos := pos) hc hf hm hv (fa_cons ha fa_nil hs) hg hn hdb hs rfl
  rw [← runs1 (f := f1 f)] at h
  exact h
theorem fe_callTy1 {T : String} {r : List V → Hp → VK → Prop} {f : PyData → M PyData} (hc : CallR X (.type T) r) (hf : OpN X.K (f1 f) r) (hm : X.mg x = none) (hv : bootBuiltins x = some (.type T)) (ha : FE X C ρ a ma)
    (hg : Gl X x := by rfl) (hn : x ≠ "__name__" := by decide) (hdb : (x == ("__debug__" : Str)) = false := by decide)
    (hs : starEach [a] X.env = (false, eval a X.env) :: starEach [] X.env := by rfl) : FE X C ρ (.Call (.Name x p) [a] [] pos) (do let d ← ma; f d) := by
  have h := fe_callTy (p := p) (pos := pos) hc hf hm hv (fa_cons ha fa_nil hs) hg hn hdb hs rfl
  rw [← runs1 (f := f1 f)] at h
  exact h
theorem fe_callB2 {id : String} {r : List V → Hp → VK → Prop} {f : PyData → PyData → M PyData} (hc : CallR X (.builtin id) r) (hf : OpN X.K (f2 f) r) (hm : X.mg x = none) (hv : bootBuiltins x = some (.builtin id)) (ha : FE X C ρ a ma) (hb : FE X C ρ b mb)
    (hg : Gl X x := by rfl) (hn : x ≠ "__name__" := by decide) (hdb : (x == ("__debug__" : Str)) = false := by decide)
    (hs : starEach [a, b] X.env = (false, eval a X.env) :: starEach [b] X.env := by rfl) (hs2 : starEach [b] X.env = (false, eval b X.env) :: starEach [] X.env := by rfl)
    (hpl : (backTo pos (starEach [b] X.env)).any (·.1) = false := by rfl) : FE X C ρ (.Call (.Name x p) [a, b] [] pos) (do let d ← ma; let e ← mb; f d e) := by
  have h := fe_callB (p := p) (pos := pos) hc hf hm hv (fa_cons ha (fa_cons hb fa_nil hs2) hs) hg hn hdb hs hpl
  rw [← runs2 (f := f2 f)] at h
  exact h

/-! len -/
def plen : PyData → M PyData
  | .list ds => pure (.int ds.length)
  | .tuple ds => pure (.int ds.length)
  | .str z => do chk (z.length ≤ sizeLine); pure (.int z.length)
  | _ => stuck
theorem fe_len (hm : X.mg "len" = none) (ha : FE X C ρ a ma) (hg : Gl X "len" := by rfl) (hs : starEach [a] X.env = (false, eval a X.env) :: starEach [] X.env := by rfl) : FE X C ρ (.Call (.Name "len" p) [a] [] pos) (do let d ← ma; plen d) := by
  refine fe_callB1 call_len (op1 fun mg C F H v d cs Q s q r h => ?_) hm PySem.boot_len ha hg (by decide) (by decide) hs
  cases r with
  | lst f r => exact ⟨_, _, rfl, .inl ⟨_, f.sq s, r.length.symm⟩, kE.val h s q (.int _)⟩
  | tup f r => exact ⟨_, _, rfl, .inr ⟨_, f.sq s, r.length.symm⟩, kE.val h s q (.int _)⟩
  | str z =>
    obtain ⟨hz, h⟩ := Res.chk h
    exact ⟨_, _, rfl, ⟨hz, rfl⟩, kE.val h s q (.int _)⟩
  | _ => exact h.elim
/-! tuple(xs), list(xs) -/
def ptuple : PyData → M PyData
  | .list ds => pure (.tuple ds)
  | .tuple ds => pure (.tuple ds)
  | _ => stuck
theorem fe_tuple (hm : X.mg "tuple" = none) (ha : FE X C ρ a ma) (hg : Gl X "tuple" := by rfl) (hs : starEach [a] X.env = (false, eval a X.env) :: starEach [] X.env := by rfl) : FE X C ρ (.Call (.Name "tuple" p) [a] [] pos) (do let d ← ma; ptuple d) := by
  refine fe_callTy1 call_tuple_of (op1 fun mg C F H v d cs Q s q r h => ?_) hm (by decide +kernel) ha hg (by decide) (by decide) hs
  cases r with
  | lst f r => exact ⟨_, _, rfl, .inl ⟨f.sq s, kE.tup h s q r⟩⟩
  | tup f r => exact ⟨_, _, rfl, .inr ⟨f.sq s, kE.val h s q (.tup f r)⟩⟩
  | _ => exact h.elim
def seqOf : PyData → M (List PyData)
  | .list ds => pure ds
  | .tuple ds => pure ds
  | _ => stuck
theorem fo_list (hm : X.mg "list" = none) (ha : FE X C ρ a ma) (hg : Gl X "list" := by rfl) (hs : starEach [a] X.env = (false, eval a X.env) :: starEach [] X.env := by rfl) : FO X C ρ (.Call (.Name "list" p) [a] [] pos) (do let d ← ma; seqOf d) := by
  have pa : PA X [a] (tCons (tM X.K X.mg C ρ ma) tNil) := pa_cons ha.pe pa_nil hs
  refine ⟨imE (pe_callTy call_list_of hg hm (by decide +kernel) pa (by decide) (by decide) hs rfl) fun σ H Q h => ?_⟩
  obtain ⟨F, cs, e, q, h⟩ := h
  refine ⟨F, cs, e, q, (Res.bind h.alloc).mono fun d cs1 F1 H1 g1 q1 h1 v rv => ?_⟩
  cases rv with
  | lst f r => exact ⟨_, _, rfl, .inl (f.sq g1.sub), fun l n => Res.pure (mg := X.mg) h1 g1.sub q1 l _ n r⟩
  | tup f r => exact ⟨_, _, rfl, .inr (f.sq g1.sub), fun l n => Res.pure (mg := X.mg) h1 g1.sub q1 l _ n r⟩
  | _ => exact h1.elim
/-! int(n), abs(n), min, max of two -/
def pint : PyData → M PyData
  | .int i => pure (.int i)
  | .bool b => pure (.int (if b then 1 else 0))
  | _ => stuck
theorem fe_intOf (hm : X.mg "int" = none) (ha : FE X C ρ a ma) (hg : Gl X "int" := by rfl) (hs : starEach [a] X.env = (false, eval a X.env) :: starEach [] X.env := by rfl) : FE X C ρ (.Call (.Name "int" p) [a] [] pos) (do let d ← ma; pint d) := by
  refine fe_callTy1 call_int1 (op1 fun mg C F H v d cs Q s q r h => ?_) hm (by decide +kernel) ha hg (by decide) (by decide) hs
  cases r with
  | int i => exact .inl ⟨_, rfl, kE.val h s q (.int _)⟩
  | bl b => exact .inr ⟨_, rfl, kE.val h s q (.int _)⟩
  | _ => exact h.elim
def pabs : PyData → M PyData
  | .int i => pure (.int (if i < 0 then -i else i))
  | _ => stuck
theorem fe_abs (hm : X.mg "abs" = none) (ha : FE X C ρ a ma) (hg : Gl X "abs" := by rfl) (hs : starEach [a] X.env = (false, eval a X.env) :: starEach [] X.env := by rfl) : FE X C ρ (.Call (.Name "abs" p) [a] [] pos) (do let d ← ma; pabs d) := by
  refine fe_callB1 call_abs (op1 fun mg C F H v d cs Q s q r h => ?_) hm (by decide +kernel) ha hg (by decide) (by decide) hs
  cases r with
  | int i => exact ⟨_, rfl, kE.val h s q (.int _)⟩
  | _ => exact h.elim
def pmin2 : PyData → PyData → M PyData
  | .int i, .int j => pure (.int (if j < i then j else i))
  | _, _ => stuck
def pmax2 : PyData → PyData → M PyData
  | .int i, .int j => pure (.int (if j > i then j else i))
  | _, _ => stuck
theorem fe_min2 (hc : X.calm = true) (hm : X.mg "min" = none) (ha : FE X C ρ a ma) (hb : FE X C ρ b mb) (hg : Gl X "min" := by rfl) (hs : starEach [a, b] X.env = (false, eval a X.env) :: starEach [b] X.env := by rfl) (hs2 : starEach [b] X.env = (false, eval b X.env) :: starEach [] X.env := by rfl)
    (hpl : (backTo pos (starEach [b] X.env)).any (·.1) = false := by rfl) : FE X C ρ (.Call (.Name "min" p) [a, b] [] pos) (do let d ← ma; let e ← mb; pmin2 d e) := by
  refine fe_callB2 (call_min2 hc) (op2 fun mg C F H v u d e cs Q s q r r2 h => ?_) hm (by decide +kernel) ha hb hg (by decide) (by decide) hs hs2 hpl
  cases r with
  | int i => cases r2 with
    | int j => exact ⟨_, _, rfl, kE.val h s q (.int _)⟩
    | _ => exact h.elim
  | _ => exact h.elim
theorem fe_max2 (hc : X.calm = true) (hm : X.mg "max" = none) (ha : FE X C ρ a ma) (hb : FE X C ρ b mb) (hg : Gl X "max" := by rfl) (hs : starEach [a, b] X.env = (false, eval a X.env) :: starEach [b] X.env := by rfl) (hs2 : starEach [b] X.env = (false, eval b X.env) :: starEach [] X.env := by rfl)
    (hpl : (backTo pos (starEach [b] X.env)).any (·.1) = false := by rfl) : FE X C ρ (.Call (.Name "max" p) [a, b] [] pos) (do let d ← ma; let e ← mb; pmax2 d e) := by
  refine fe_callB2 (call_max2 hc) (op2 fun mg C F H v u d e cs Q s q r r2 h => ?_) hm (by decide +kernel) ha hb hg (by decide) (by decide) hs hs2 hpl
  cases r with
  | int i => cases r2 with
    | int j => exact ⟨_, _, rfl, kE.val h s q (.int _)⟩
    | _ => exact h.elim
  | _ => exact h.elim
/-! all, any, sum of a list -/
def boolsOf : List PyData → Option (List Bool)
  | [] => some []
  | .bool b :: ds => (boolsOf ds).map (b :: ·)
  | _ :: _ => none
def intsOf : List PyData → Option (List Int)
  | [] => some []
  | .int b :: ds => (intsOf ds).map (b :: ·)
  | _ :: _ => none
def strsOf : List PyData → Option (List Str)
  | [] => some []
  | .str b :: ds => (strsOf ds).map (b :: ·)
  | _ :: _ => none
@[simp] theorem boolsOf_map (bs : List Bool) : boolsOf (bs.map .bool) = some bs := by
  induction bs with
  | nil => rfl
  | cons b bs ih => simp [boolsOf, ih]
@[simp] theorem intsOf_map (bs : List Int) : intsOf (bs.map .int) = some bs := by
  induction bs with
  | nil => rfl
  | cons b bs ih => simp [intsOf, ih]
@[simp] theorem strsOf_map (bs : List Str) : strsOf (bs.map .str) = some bs := by
  induction bs with
  | nil => rfl
  | cons b bs ih => simp [strsOf, ih]
theorem Rps.bools {K : PySem.W.Frag} {F : Hp} : ∀ {vs : List V} {ds : List PyData} {bs : List Bool}, Rps K F vs ds → boolsOf ds = some bs → vs = bs.map V.bl
  | _, _, _, .nil, e => by cases e; rfl
  | _, _, _, .cons a r, e => by
    cases a with
    | bl b =>
      simp only [boolsOf, Option.map_eq_some_iff] at e
      obtain ⟨bs, e, rfl⟩ := e
      rw [Rps.bools r e]
      rfl
    | _ => cases e
theorem Rps.intsOf {K : PySem.W.Frag} {F : Hp} : ∀ {vs : List V} {ds : List PyData} {bs : List Int}, Rps K F vs ds → DL.intsOf ds = some bs → vs = bs.map V.int
  | _, _, _, .nil, e => by cases e; rfl
  | _, _, _, .cons a r, e => by
    cases a with
    | int b =>
      simp only [DL.intsOf, Option.map_eq_some_iff] at e
      obtain ⟨bs, e, rfl⟩ := e
      rw [Rps.intsOf r e]
      rfl
    | _ => cases e
theorem Rps.strsOf {K : PySem.W.Frag} {F : Hp} : ∀ {vs : List V} {ds : List PyData} {bs : List Str}, Rps K F vs ds → DL.strsOf ds = some bs → vs = bs.map V.str
  | _, _, _, .nil, e => by cases e; rfl
  | _, _, _, .cons a r, e => by
    cases a with
    | str b =>
      simp only [DL.strsOf, Option.map_eq_some_iff] at e
      obtain ⟨bs, e, rfl⟩ := e
      rw [Rps.strsOf r e]
      rfl
    | _ => cases e
def optM {α : Type} : Option α → M α
  | some x => pure x
  | none => stuck
@[simp] theorem optM_some {α : Type} (x : α) : optM (some x) = pure x := rfl
theorem Res.opt {K : PySem.W.Frag} {mg : Str → Option Value} {F H : Hp} {cs : List PyData} {α β : Type} {o : Option α} {f : α → M β} {k : β → List PyData → Hp → Hp → Prop} (h : Res K mg C F H ((optM o >>= f) cs) k) : ∃ x, o = some x ∧ Res K mg C F H (f x cs) k := by
  cases o with
  | none => exact h.elim
  | some x => exact ⟨x, rfl, h⟩
def pall : PyData → M PyData
  | .list ds => do let bs ← optM (boolsOf ds); pure (.bool (bs.all id))
  | _ => stuck
def pany : PyData → M PyData
  | .list ds => do let bs ← optM (boolsOf ds); pure (.bool (bs.any id))
  | _ => stuck
def psum : PyData → M PyData
  | .list ds => do let bs ← optM (intsOf ds); pure (.int bs.sum)
  | _ => stuck
theorem fe_all (hc : X.calm = true) (hm : X.mg "all" = none) (ha : FE X C ρ a ma) (hg : Gl X "all" := by rfl) (hs : starEach [a] X.env = (false, eval a X.env) :: starEach [] X.env := by rfl) : FE X C ρ (.Call (.Name "all" p) [a] [] pos) (do let d ← ma; pall d) := by
  refine fe_callB1 (cr_all hc) (op1 fun mg C F H v d cs Q s q r h => ?_) hm (by decide +kernel) ha hg (by decide) (by decide) hs
  cases r with
  | lst f r =>
    obtain ⟨bs, e, h⟩ := Res.opt h
    have f' := f.sq s
    rw [r.bools e] at f'
    exact ⟨_, bs, rfl, f', kE.val h s q (.bl _)⟩
  | _ => exact h.elim
theorem fe_any (hc : X.calm = true) (hm : X.mg "any" = none) (ha : FE X C ρ a ma) (hg : Gl X "any" := by rfl) (hs : starEach [a] X.env = (false, eval a X.env) :: starEach [] X.env := by rfl) : FE X C ρ (.Call (.Name "any" p) [a] [] pos) (do let d ← ma; pany d) := by
  refine fe_callB1 (cr_any hc) (op1 fun mg C F H v d cs Q s q r h => ?_) hm (by decide +kernel) ha hg (by decide) (by decide) hs
  cases r with
  | lst f r =>
    obtain ⟨bs, e, h⟩ := Res.opt h
    have f' := f.sq s
    rw [r.bools e] at f'
    exact ⟨_, bs, rfl, f', kE.val h s q (.bl _)⟩
  | _ => exact h.elim
theorem fe_sum (hc : X.calm = true) (hm : X.mg "sum" = none) (ha : FE X C ρ a ma) (hg : Gl X "sum" := by rfl) (hs : starEach [a] X.env = (false, eval a X.env) :: starEach [] X.env := by rfl) : FE X C ρ (.Call (.Name "sum" p) [a] [] pos) (do let d ← ma; psum d) := by
  refine fe_callB1 (cr_sum hc) (op1 fun mg C F H v d cs Q s q r h => ?_) hm (by decide +kernel) ha hg (by decide) (by decide) hs
  cases r with
  | lst f r =>
    obtain ⟨bs, e, h⟩ := Res.opt h
    have f' := f.sq s
    rw [r.intsOf e] at f'
    exact ⟨_, bs, rfl, f', kE.val h s q (.int _)⟩
  | _ => exact h.elim
/-! isinstance(x, T) -/
def tyName : PyData → String
  | .none => "NoneType"
  | .bool _ => "bool"
  | .int _ => "int"
  | .str _ => "str"
  | .list _ => "list"
  | .tuple _ => "tuple"
  | .dict _ => "dict"
def isT (T : String) (d : PyData) : Bool := (kitB (tyName d) T).getD false
def pisT (T : String) : PyData → M PyData
  | .dict _ => stuck
  | d => pure (.bool (isT T d))
theorem SqL.kTy {K : PySem.W.Frag} {H : Hp} {a : Addr} {xs : List V} (h : SqL K H a xs) : TyX K H (.ref a) (.type "list") := by
  rcases h with (h | ⟨o, h⟩) | ⟨o, its, n, h1, h2, _⟩
  · exact .base (.lst h)
  · exact .base (.frz h)
  · exact .kList h1 h2
theorem SqT.kTy {K : PySem.W.Frag} {H : Hp} {a : Addr} {xs : List V} (h : SqT K H a xs) : TyX K H (.ref a) (.type "tuple") := by
  rcases h with (h | ⟨o, h⟩) | ⟨o, its, n, h1, h2, _⟩
  · exact .base (.tup h)
  · exact .fTuple h
  · exact .kTuple h1 h2
theorem Rp.ty {K : PySem.W.Frag} {F H : Hp} {v : V} {d : PyData} (r : Rp K F v d) (s : Sub F H) (n : ∀ kvs, d ≠ .dict kvs) : TyX K H v (.type (tyName d)) := by
  cases r with
  | non => exact .base .non
  | bl b => exact .base (.bl b)
  | int i => exact .base (.int i)
  | str z => exact .base (.str z)
  | lst f r => exact SqL.kTy (f.sq s)
  | tup f r => exact SqT.kTy (f.sq s)
  | dK f r => exact absurd rfl (n _)
  | dT f r => exact absurd rfl (n _)
theorem kit7 {T n : String} (hT : T = "int" ∨ T = "bool" ∨ T = "str" ∨ T = "tuple" ∨ T = "list" ∨ T = "dict") (hn : n = "NoneType" ∨ n = "bool" ∨ n = "int" ∨ n = "str" ∨ n = "list" ∨ n = "tuple" ∨ n = "dict") : kitB n T = some ((kitB n T).getD false) := by
  rcases hT with rfl | rfl | rfl | rfl | rfl | rfl <;> rcases hn with rfl | rfl | rfl | rfl | rfl | rfl | rfl <;> decide +kernel
theorem isT_ok {T : String} (hT : T = "int" ∨ T = "bool" ∨ T = "str" ∨ T = "tuple" ∨ T = "list" ∨ T = "dict") (d : PyData) : kitB (tyName d) T = some (isT T d) := kit7 hT (by cases d <;> simp [tyName])
@[simp] theorem isT_int_nonetype : isT "int" .none = false := by show (kitB "NoneType" "int").getD false = false; decide +kernel
@[simp] theorem isT_int_bool (b : Bool) : isT "int" (.bool b) = true := by show (kitB "bool" "int").getD false = true; decide +kernel
@[simp] theorem isT_int_int (i : Int) : isT "int" (.int i) = true := by show (kitB "int" "int").getD false = true; decide +kernel
@[simp] theorem isT_int_str (x : Str) : isT "int" (.str x) = false := by show (kitB "str" "int").getD false = false; decide +kernel
@[simp] theorem isT_int_list (xs : List PyData) : isT "int" (.list xs) = false := by show (kitB "list" "int").getD false = false; decide +kernel
@[simp] theorem isT_int_tuple (xs : List PyData) : isT "int" (.tuple xs) = false := by show (kitB "tuple" "int").getD false = false; decide +kernel
@[simp] theorem isT_bool_nonetype : isT "bool" .none = false := by show (kitB "NoneType" "bool").getD false = false; decide +kernel
@[simp] theorem isT_bool_bool (b : Bool) : isT "bool" (.bool b) = true := by show (kitB "bool" "bool").getD false = true; decide +kernel
@[simp] theorem isT_bool_int (i : Int) : isT "bool" (.int i) = false := by show (kitB "int" "bool").getD false = false; decide +kernel
@[simp] theorem isT_bool_str (x : Str) : isT "bool" (.str x) = false := by show (kitB "str" "bool").getD false = false; decide +kernel
@[simp] theorem isT_bool_list (xs : List PyData) : isT "bool" (.list xs) = false := by show (kitB "list" "bool").getD false = false; decide +kernel
@[simp] theorem isT_bool_tuple (xs : List PyData) : isT "bool" (.tuple xs) = false := by show (kitB "tuple" "bool").getD false = false; decide +kernel
@[simp] theorem isT_str_nonetype : isT "str" .none = false := by show (kitB "NoneType" "str").getD false = false; decide +kernel
@[simp] theorem isT_str_bool (b : Bool) : isT "str" (.bool b) = false := by show (kitB "bool" "str").getD false = false; decide +kernel
@[simp] theorem isT_str_int (i : Int) : isT "str" (.int i) = false := by show (kitB "int" "str").getD false = false; decide +kernel
@[simp] theorem isT_str_str (x : Str) : isT "str" (.str x) = true := by show (kitB "str" "str").getD false = true; decide +kernel
@[simp] theorem isT_str_list (xs : List PyData) : isT "str" (.list xs) = false := by show (kitB "list" "str").getD false = false; decide +kernel
@[simp] theorem isT_str_tuple (xs : List PyData) : isT "str" (.tuple xs) = false := by show (kitB "tuple" "str").getD false = false; decide +kernel
@[simp] theorem isT_tuple_nonetype : isT "tuple" .none = false := by show (kitB "NoneType" "tuple").getD false = false; decide +kernel
@[simp] theorem isT_tuple_bool (b : Bool) : isT "tuple" (.bool b) = false := by show (kitB "bool" "tuple").getD false = false; decide +kernel
@[simp] theorem isT_tuple_int (i : Int) : isT "tuple" (.int i) = false := by show (kitB "int" "tuple").getD false = false; decide +kernel
@[simp] theorem isT_tuple_str (x : Str) : isT "tuple" (.str x) = false := by show (kitB "str" "tuple").getD false = false; decide +kernel
@[simp] theorem isT_tuple_list (xs : List PyData) : isT "tuple" (.list xs) = false := by show (kitB "list" "tuple").getD false = false; decide +kernel
@[simp] theorem isT_tuple_tuple (xs : List PyData) : isT "tuple" (.tuple xs) = true := by show (kitB "tuple" "tuple").getD false = true; decide +kernel
@[simp] theorem isT_list_nonetype : isT "list" .none = false := by show (kitB "NoneType" "list").getD false = false; decide +kernel
@[simp] theorem isT_list_bool (b : Bool) : isT "list" (.bool b) = false := by show (kitB "bool" "list").getD false = false; decide +kernel
@[simp] theorem isT_list_int (i : Int) : isT "list" (.int i) = false := by show (kitB "int" "list").getD false = false; decide +kernel
@[simp] theorem isT_list_str (x : Str) : isT "list" (.str x) = false := by show (kitB "str" "list").getD false = false; decide +kernel
@[simp] theorem isT_list_list (xs : List PyData) : isT "list" (.list xs) = true := by show (kitB "list" "list").getD false = true; decide +kernel
@[simp] theorem isT_list_tuple (xs : List PyData) : isT "list" (.tuple xs) = false := by show (kitB "tuple" "list").getD false = false; decide +kernel
theorem fe_isinst (T : String) (hT : T = "int" ∨ T = "bool" ∨ T = "str" ∨ T = "tuple" ∨ T = "list" ∨ T = "dict") {x : Str} {p2 : Pos} (hm : X.mg "isinstance" = none) (hx : X.mg x = none) (hv : bootBuiltins x = some (.type T)) (ha : FE X C ρ a ma)
    (hg : Gl X "isinstance" := by rfl) (hgx : Gl X x := by rfl) (hs : starEach [a, .Name x p2] X.env = (false, eval a X.env) :: starEach [.Name x p2] X.env := by rfl) (hs2 : starEach [.Name x p2] X.env = (false, eval (.Name x p2) X.env) :: starEach [] X.env := by rfl)
    (hpl : (backTo pos (starEach [.Name x p2] X.env)).any (·.1) = false := by rfl) (hn : x ≠ "__name__" := by decide) (hdb : (x == ("__debug__" : Str)) = false := by decide) : FE X C ρ (.Call (.Name "isinstance" p) [a, .Name x p2] [] pos) (do let d ← ma; pisT T d) := by
  have pa : PA X [a, .Name x p2] (tCons (tM X.K X.mg C ρ ma) (tCons (tC (.ty T)) tNil)) := pa_cons ha.pe (pa_cons (pe_bltn hgx hx hv rfl hn hdb) pa_nil hs2) hs
  refine ⟨imE (pe_callB call_isi hg hm (by decide +kernel) pa (by decide) (by decide) hs hpl) fun σ H Q h => ?_⟩
  refine h.then1 (k := fun v H1 Q => rIsi X.K [v, .ty T] H1 Q) fun F H v d cs s _ q r h => ?_
  have nd : ∀ kvs, d ≠ .dict kvs := fun kvs e => by subst e; exact h.elim
  refine ⟨v, .ty T, _, _, isT T d, rfl, .ty T, r.ty s nd, kit_ty (isT_ok hT d), ?_⟩
  refine kE.val (mg := X.mg) (d := .bool (isT T d)) ?_ s q (.bl _)
  cases d with
  | dict kvs => exact absurd rfl (nd kvs)
  | _ => exact h
end
end DL
end
section
set_option Elab.async false
set_option linter.all false
set_option maxRecDepth 100000
set_option maxHeartbeats 4000000
set_option autoImplicit false
namespace DL
open PySem PySem.Spec PyProof.Rows L2

/-! ### methods of texts -/
section
variable {X : Cx} {C : Ct} {ρ : List Sl} {a b c e o : Expr} {ma mb mc m mo : M PyData} {pos p apos : Pos} {x : Str}
def asS : PyData → M Str
  | .str z => pure z
  | _ => stuck
/-- a method of texts with one argument -/
theorem fe_strM {name : Str} {id : String} {r : V → List V → Hp → VK → Prop} {f : Str → PyData → M PyData} (slot : Slot "str" name id) (ty : typeOf (.builtin id) = pure (.type "method_descriptor")) (rule : MtR X id r)
    (hf : ∀ (C : Ct) (F H : Hp) (z : Str) (y : V) (dy : PyData) (cs : List PyData) (Q : VK), Sub F H → CupOk X.K C F H cs → Rp X.K F y dy → Res X.K X.mg C F H (f z dy cs) (kE X.K Q) → r (.str z) [y] H Q) (ho : FE X C ρ o mo) (he : FE X C ρ e m)
    (hs : starEach [e] X.env = [(false, eval e X.env)] := by rfl) (hbase : attributeBase o name X.env (eval o X.env) = eval o X.env := by rfl) (hline : (apos.endLine == pos.line) = true := by rfl) :
    FE X C ρ (.Call (.Attribute o name apos) [e] [] pos) (do let x ← mo; let z ← asS x; let y ← m; f z y) := by
  refine ⟨imE (pe_m1 slot ty rule ho.pe he.pe hs hbase hline) fun σ H Q h => ?_⟩
  obtain ⟨F, cs, e, q, h⟩ := h
  refine ⟨F, cs, e, q, (Res.bind h).mono fun dx cs1 F1 H1 g1 q1 h1 v rv => ?_⟩
  cases rv with
  | str z =>
    refine ⟨⟨z, rfl⟩, F1, cs1, e.grow g1, q1, (Res.bind (show Res X.K X.mg C F1 H1 ((m >>= fun y => f z y) cs1) (kE X.K Q) from h1)).mono fun dy cs2 F2 H2 g2 q2 h2 u ru => ?_⟩
    exact hf _ F2 H2 z u dy cs2 Q g2.sub q2 ru h2
  | _ => exact h1.elim
def pjoin (z : Str) : PyData → M PyData
  | .list ds => do let ys ← optM (strsOf ds); chk ((ys.map (·.length)).sum + ys.length * z.length ≤ 16777216); pure (.str (Txt.join z ys))
  | .tuple ds => do let ys ← optM (strsOf ds); chk ((ys.map (·.length)).sum + ys.length * z.length ≤ 16777216); pure (.str (Txt.join z ys))
  | _ => stuck
theorem fe_join (ho : FE X C ρ o mo) (he : FE X C ρ e m) (hs : starEach [e] X.env = [(false, eval e X.env)] := by rfl) (hbase : attributeBase o "join" X.env (eval o X.env) = eval o X.env := by rfl) (hline : (apos.endLine == pos.line) = true := by rfl) :
    FE X C ρ (.Call (.Attribute o "join" apos) [e] [] pos) (do let x ← mo; let z ← asS x; let y ← m; pjoin z y) := by
  refine fe_strM F.slot_str_join F.type_str_join mt_join (fun C F H z y dy cs Q s q ry h => ?_) ho he hs hbase hline
  cases ry with
  | lst f r =>
    obtain ⟨ys, e, h⟩ := Res.opt h
    obtain ⟨c, h⟩ := Res.chk h
    have f' := f.sq s
    rw [r.strsOf e] at f'
    exact ⟨z, _, ys, rfl, rfl, .inl f', c, kE.val h s q (.str _)⟩
  | tup f r =>
    obtain ⟨ys, e, h⟩ := Res.opt h
    obtain ⟨c, h⟩ := Res.chk h
    have f' := f.sq s
    rw [r.strsOf e] at f'
    exact ⟨z, _, ys, rfl, rfl, .inr f', c, kE.val h s q (.str _)⟩
  | _ => exact h.elim
def pcountS (z : Str) : PyData → M PyData
  | .str y => pure (.int (Txt.count z y))
  | _ => stuck
theorem fe_countS (ho : FE X C ρ o mo) (he : FE X C ρ e m) (hs : starEach [e] X.env = [(false, eval e X.env)] := by rfl) (hbase : attributeBase o "count" X.env (eval o X.env) = eval o X.env := by rfl) (hline : (apos.endLine == pos.line) = true := by rfl) :
    FE X C ρ (.Call (.Attribute o "count" apos) [e] [] pos) (do let x ← mo; let z ← asS x; let y ← m; pcountS z y) := by
  refine fe_strM PySem.F.slot_str_count PySem.F.type_str_count mt_count (fun C F H z y dy cs Q s q ry h => ?_) ho he hs hbase hline
  cases ry with
  | str y => exact ⟨z, y, rfl, rfl, kE.val h s q (.int _)⟩
  | _ => exact h.elim
def pindexS (z : Str) : PyData → M PyData
  | .str y => do let k ← optM (Txt.index0 z y); pure (.int (k : Nat))
  | _ => stuck
/-- s.index(t), found -/
theorem mt_indexF : MtR X "str.index" (fun x xs H Q => ∃ (a b : Str) (k : Nat), x = .str a ∧ xs = [.str b] ∧ Txt.index0 a b = some k ∧ Q (.int (k : Nat)) H) := by
  intro pins s σ H x xs v us Q I rx rs h
  obtain ⟨a, b, k, rfl, rfl, e, w⟩ := h
  obtain ⟨t, rfl⟩ := rx
  cases rs with
  | cons r1 rs =>
    cases rs
    obtain ⟨u, rfl⟩ := r1
    cases q : Builtin.Str.occurrences a b 0 a.length 1 with
    | nil => unfold Txt.index0 at e; rw [q] at e; cases e
    | cons k' rest =>
      have e' : k' = k := by unfold Txt.index0 at e; rw [q] at e; exact Option.some.inj e
      subst e'
      exact call_gives PySem.F.slot_str_index (typeIs_str _ _ _) PySem.F.entry_str_index (PySem.F.args_str_index_2 _ _) (gives_str_index a b t u k' rest q) ⟨.int (k' : Nat), H, I.tok _, ⟨_, rfl⟩, w⟩
theorem fe_indexS (ho : FE X C ρ o mo) (he : FE X C ρ e m) (hs : starEach [e] X.env = [(false, eval e X.env)] := by rfl) (hbase : attributeBase o "index" X.env (eval o X.env) = eval o X.env := by rfl) (hline : (apos.endLine == pos.line) = true := by rfl) :
    FE X C ρ (.Call (.Attribute o "index" apos) [e] [] pos) (do let x ← mo; let z ← asS x; let y ← m; pindexS z y) := by
  refine fe_strM PySem.F.slot_str_index PySem.F.type_str_index mt_indexF (fun C F H z y dy cs Q s q ry h => ?_) ho he hs hbase hline
  cases ry with
  | str y =>
    obtain ⟨k, e, h⟩ := Res.opt h
    exact ⟨z, y, k, rfl, rfl, e, kE.val h s q (.int _)⟩
  | _ => exact h.elim

/-! ### T.index(x), T a tuple of texts that stands in the module -/
def pindexK (ys : List Str) : PyData → M PyData
  | .str z => if z ∈ ys then pure (.int (ys.idxOf z : Nat)) else stuck
  | _ => stuck
theorem fe_indexK {ys : List Str} {t : Addr} {p2 : Pos} (hm : X.mg x = some (.ref t)) (hk : ∃ o, X.K.lookup t = some o ∧ o.cls = .type "tuple" ∧ o.dict = none) (hq : SqT X.K (fun _ => none) t (ys.map V.str)) (he : FE X C ρ e m)
    (hg : Gl X x := by rfl) (hd : (x == ("__debug__" : Str)) = false := by decide) (hbase : attributeBase (.Name x p2) "index" X.env (eval (.Name x p2) X.env) = eval (.Name x p2) X.env := by rfl)
    (hfew : ((backTo pos (starEach [e] X.env)).all (fun x => !x.1) && (backToKw pos (keywordEach [] X.env)).all (fun x => x.1.isSome)
      && decide ([e].length + ([] : List Keyword).length + (if ([] : List Keyword).isEmpty then 0 else 1) < 30)) = true := by rfl)
    (hline : (apos.endLine == pos.line) = true := by rfl) (hs : starEach [e] X.env = (false, eval e X.env) :: starEach [] X.env := by rfl) (hplain : (backTo pos (starEach [] X.env)).any (·.1) = false := by rfl) :
    FE X C ρ (.Call (.Attribute (.Name x p2) "index" apos) [e] [] pos) (do let d ← m; pindexK ys d) := by
  have po : PE X (.Name x p2) (tC (.ref t)) := pe_glob hg hm rfl hd
  have pa : PA X [e] (tCons (tM X.K X.mg C ρ m) tNil) := pa_cons he.pe pa_nil hs
  refine ⟨imE (pe_bm PySem.F.plainAttrs_tuple PySem.F.slot_tuple_index PySem.F.type_tuple_index mt_tup_index po pa hbase hfew hline hs hplain) fun σ H Q h => ?_⟩
  refine ⟨.inr (.inl ⟨rfl, hk⟩), ?_⟩
  refine h.then1 (k := fun v H1 Q => ∃ p, ∃ ys : List Str, ∃ z j, V.ref t = .ref p ∧ [v] = [.str z] ∧ SqT X.K H1 p (ys.map V.str) ∧ ys[j]? = some z ∧ (∀ m, m < j → ys[m]? ≠ some z) ∧ Q (.int (j : Nat)) H1) fun F H v d cs s _ q r h => ?_
  cases r with
  | str z =>
    unfold pindexK at h
    by_cases hz : z ∈ ys
    · simp only [hz, if_true] at h
      have hj : ys.idxOf z < ys.length := List.idxOf_lt_length_iff.mpr hz
      refine ⟨t, ys, z, ys.idxOf z, rfl, rfl, SqT.up hq, ?_, fun k hk' e => ?_, kE.val h s q (.int _)⟩
      · rw [List.getElem?_eq_getElem hj, List.getElem_idxOf hj]
      · obtain ⟨h1, h2⟩ := List.getElem?_eq_some_iff.mp e
        exact absurd h2 (SeqAt.lt_idxOf_ne hk' h1)
    · simp only [hz, if_false] at h
      exact h.elim
  | _ => exact h.elim
end

/-! ### iteration -/
theorem ItOk.list {K : PySem.W.Frag} {F : Hp} {a : Addr} {xs : List V} {ds : List PyData} (f : FzL K F a xs) (r : Rps K F xs ds) : ItOk K (Itl K a) F ds := by
  intro i F1 H1 l s
  have q := (f.mono l).sq s
  refine ⟨fun h => ⟨xs, q, by rw [r.length]; exact h⟩, fun d e => ?_⟩
  obtain ⟨v, e1, rv⟩ := r.get e
  refine ⟨⟨xs, v, q, e1⟩, fun x H2 y => ?_⟩
  obtain ⟨rfl, y⟩ := y
  have e2 := y xs q
  rw [e1] at e2; cases e2
  exact ⟨F1, fun c => Grow.refl s, rv.mono l⟩
theorem ItOk.tup {K : PySem.W.Frag} {F : Hp} {a : Addr} {xs : List V} {ds : List PyData} (f : FzT K F a xs) (r : Rps K F xs ds) : ItOk K (Itt K a) F ds := by
  intro i F1 H1 l s
  have q := (f.mono l).sq s
  refine ⟨fun h => ⟨xs, q, by rw [r.length]; exact h⟩, fun d e => ?_⟩
  obtain ⟨v, e1, rv⟩ := r.get e
  refine ⟨⟨xs, v, q, e1⟩, fun x H2 y => ?_⟩
  obtain ⟨rfl, y⟩ := y
  have e2 := y xs q
  rw [e1] at e2; cases e2
  exact ⟨F1, fun c => Grow.refl s, rv.mono l⟩
def charsD (z : Str) : List PyData := z.cps.toList.map fun c => .str ⟨#[c]⟩
theorem ItOk.str {K : PySem.W.Frag} {F : Hp} (z : Str) : ItOk K (Its z) F (charsD z) := by
  intro i F1 H1 l s
  have hl : (charsD z).length = z.cps.size := by simp [charsD]
  refine ⟨fun h => by rw [hl] at h; exact h, fun d e => ?_⟩
  simp only [charsD, List.getElem?_map, Option.map_eq_some_iff] at e
  obtain ⟨c, e, rfl⟩ := e
  have e' : z.cps[i]? = some c := by simpa using e
  refine ⟨(Array.getElem?_eq_some_iff.mp e').1, fun x H2 y => ?_⟩
  obtain ⟨rfl, c', e2, rfl⟩ := y
  rw [e'] at e2; cases e2
  exact ⟨F1, fun _ => Grow.refl s, .str _⟩
def rangeD (a b : Int) : List PyData := (List.range (b - a).toNat).map fun k : Nat => .int (a + (k : Int))
theorem rangeD_length (a b : Int) : (rangeD a b).length = (b - a).toNat := by simp [rangeD]
theorem ItOk.range {K : PySem.W.Frag} {F : Hp} (a b : Int) : ItOk K (Itr a (b - a).toNat) F (rangeD a b) := by
  intro i F1 H1 l s
  refine ⟨fun h => by rw [rangeD_length] at h; exact h, fun d e => ?_⟩
  have hi : i < (b - a).toNat := by
    have := (List.getElem?_eq_some_iff.mp e).1
    rw [rangeD_length] at this; exact this
  have e' : d = .int (a + (i : Int)) := by
    simp only [rangeD, List.getElem?_map] at e
    rw [List.getElem?_range hi] at e
    cases e; rfl
  subst e'
  refine ⟨hi, fun x H2 y => ?_⟩
  obtain ⟨rfl, rfl⟩ := y
  exact ⟨F1, fun _ => Grow.refl s, .int _⟩
section
variable {X : Cx} {C : Ct} {ρ : List Sl} {tg a b c e o : Expr} {ma mb mc m mo : M PyData} {pos p apos : Pos} {x : Str}
/-- what may be walked: a list, a tuple, a text -/
def iAny (K : PySem.W.Frag) (te : TE) : TI := fun σ H R => te σ H fun x H1 => (∃ a xs, x = .ref a ∧ SqL K H1 a xs ∧ (xs.length ≤ sizeLine → R (Itl K a) H1)) ∨ (∃ a xs, x = .ref a ∧ SqT K H1 a xs ∧ (xs.length ≤ sizeLine → R (Itt K a) H1)) ∨ ∃ z, x = .str z ∧ R (Its z) H1
theorem pi_any {te : TE} (he : PE X e te) : PI X tg e (iAny X.K te) := by
  refine ⟨fun pins s σ H R I h => ?_⟩
  refine thn (he.run pins s σ H _ I h) fun v s1 ⟨x, H1, I1, r1, q1⟩ => ?_
  rcases q1 with ⟨a, xs, rfl, hq, q⟩ | ⟨a, xs, rfl, hq, q⟩ | ⟨z, rfl, q⟩
  · cases r1
    obtain ⟨its, rv, p, hz⟩ := I1.list hq
    refine wpAny_pyIter_list p.isList ?_
    refine ⟨s1.heap.objs.size, [s1.heap.objs.size], _, _, H1, rfl, I1.kept (t' := s1.toks) fun b o e => Heap.get?_push_of_some _ e, turn_list a _, ⟨_, Heap.get?_push_size _ rfl, rfl, rfl⟩, fun b hb => ?_, q hz⟩
    have e : b = s1.heap.objs.size := by simpa using hb
    subst e
    exact I1.fpOk (Nat.le_refl _) (I1.hok.fresh (Nat.le_refl _))
  · cases r1
    obtain ⟨its, rv, p, hz⟩ := I1.tuple hq
    refine wpAny_pyIter_tuple (show s1.heap.IsTuple a its.toArray from p) ?_
    refine ⟨s1.heap.objs.size, [s1.heap.objs.size], _, _, H1, rfl, I1.kept (t' := s1.toks) fun b o e => Heap.get?_push_of_some _ e, turn_tuple a _, ⟨_, Heap.get?_push_size _ rfl, rfl, rfl⟩, fun b hb => ?_, q hz⟩
    have e : b = s1.heap.objs.size := by simpa using hb
    subst e
    exact I1.fpOk (Nat.le_refl _) (I1.hok.fresh (Nat.le_refl _))
  · obtain ⟨t, rfl⟩ := r1
    cases ha : z.cps.all (· < 128)
    · exact wpAny_pyIter_wide ha (pi_one (tk := s1.toks) I1 _ (turn_str _ z t "str_iterator" (.inr rfl)) ⟨_, Heap.get?_push_size _ rfl, rfl, rfl⟩ q)
    · exact wpAny_pyIter_ascii ha (pi_one (tk := s1.toks) I1 _ (turn_str _ z t "str_ascii_iterator" (.inl rfl)) ⟨_, Heap.get?_push_size _ rfl, rfl, rfl⟩ q)
def pitems : PyData → M (List PyData)
  | .list ds => pure ds
  | .tuple ds => pure ds
  | .str z => do chk (z.length ≤ sizeLine); pure (charsD z)
  | _ => stuck
theorem fi_any (he : FE X C ρ e m) : FI X C ρ tg e (do let d ← m; pitems d) := by
  refine ⟨imI (pi_any he.pe) fun σ H R h => ?_⟩
  obtain ⟨F, cs, e, q, h⟩ := h
  refine ⟨F, cs, e, q, (Res.bind h).mono fun d cs1 F1 H1 g1 q1 h1 v rv => ?_⟩
  cases rv with
  | lst f r => exact .inl ⟨_, _, rfl, f.sq g1.sub, fun hz => Res.pure (mg := X.mg) h1 g1.sub q1 _ (.list f r) (by rw [← r.length]; exact hz)⟩
  | tup f r => exact .inr (.inl ⟨_, _, rfl, f.sq g1.sub, fun hz => Res.pure (mg := X.mg) h1 g1.sub q1 _ (.tup f r) (by rw [← r.length]; exact hz)⟩)
  | str z =>
    obtain ⟨hz, h1⟩ := Res.chk h1
    exact .inr (.inr ⟨z, rfl, Res.pure (mg := X.mg) h1 g1.sub q1 _ (.str z) (by simp only [charsD, List.length_map, Array.length_toList]; exact hz)⟩)
  | _ => exact h1.elim
theorem fi_range1 (hm : X.mg "range" = none) (ha : FE X C ρ a ma) (hg : Gl X "range" := by rfl) (hs : starEach [a] X.env = [(false, eval a X.env)] := by rfl) :
    FI X C ρ tg (.Call (.Name "range" p) [a] [] pos) (do let d ← ma; let n ← asI d; chk (-(2 ^ 62) ≤ n ∧ n ≤ 16777216); pure (rangeD 0 n)) := by
  have pa : PA X [a] (tCons (tM X.K X.mg C ρ ma) tNil) := pa_cons ha.pe pa_nil hs
  refine ⟨imI (pi_range1 hg hm pa hs) fun σ H R h => ?_⟩
  obtain ⟨F, cs, e, q, h⟩ := h
  refine ⟨F, cs, e, q, (Res.bind h).mono fun d cs1 F1 H1 g1 q1 h1 v rv => ?_⟩
  cases rv with
  | int n =>
    have h2 : Res X.K X.mg C F1 H1 ((do chk (-(2 ^ 62) ≤ n ∧ n ≤ 16777216); pure (rangeD 0 n) : M (List PyData)) cs1) _ := h1
    obtain ⟨c, h2⟩ := Res.chk h2
    refine ⟨n, rfl, c.1, by omega, ?_⟩
    have h3 := Res.pure (mg := X.mg) h2 g1.sub q1 (Itr 0 n.toNat) (by have := ItOk.range (K := X.K) (F := F1) 0 n; simpa using this) (by rw [rangeD_length]; rw [sizeLine_eq]; omega)
    exact h3
  | _ => exact h1.elim
theorem fi_range2 (hm : X.mg "range" = none) (ha : FE X C ρ a ma) (hb : FE X C ρ b mb) (hg : Gl X "range" := by rfl) (hs : starEach [a, b] X.env = [(false, eval a X.env), (false, eval b X.env)] := by rfl) (hs2 : starEach [b] X.env = [(false, eval b X.env)] := by rfl) :
    FI X C ρ tg (.Call (.Name "range" p) [a, b] [] pos) (do let d ← ma; let e ← mb; let i ← asI d; let j ← asI e; chk (-(2 ^ 61) ≤ i ∧ i < 2 ^ 61 ∧ -(2 ^ 61) ≤ j ∧ j < 2 ^ 61 ∧ j - i ≤ 16777216); pure (rangeD i j)) := by
  have pa : PA X [a, b] (tCons (tM X.K X.mg C ρ ma) (tCons (tM X.K X.mg C ρ mb) tNil)) := pa_cons ha.pe (pa_cons hb.pe pa_nil hs2) (by rw [hs, hs2])
  refine ⟨imI (pi_range2 hg hm pa hs hs2) fun σ H R h => ?_⟩
  obtain ⟨F, cs, e, q, h⟩ := h
  refine ⟨F, cs, e, q, (Res.bind h).mono fun d cs1 F1 H1 g1 q1 h1 v rv => ?_⟩
  refine ⟨F1, cs1, e.grow g1, q1, (Res.bind h1).mono fun d2 cs2 F2 H2 g2 q2 h2 u ru => ?_⟩
  cases rv with
  | int i =>
    cases ru with
    | int j =>
      have h3 : Res X.K X.mg C F2 H2 ((do chk (-(2 ^ 61) ≤ i ∧ i < 2 ^ 61 ∧ -(2 ^ 61) ≤ j ∧ j < 2 ^ 61 ∧ j - i ≤ 16777216); pure (rangeD i j) : M (List PyData)) cs2) _ := h2
      obtain ⟨c, h3⟩ := Res.chk h3
      exact ⟨i, j, rfl, by omega, Res.pure (mg := X.mg) h3 g2.sub q2 (Itr i (j - i).toNat) (ItOk.range i j) (by rw [rangeD_length]; rw [sizeLine_eq]; omega)⟩
    | _ => exact h2.elim
  | _ => exact h2.elim
end
end DL
end
section
set_option Elab.async false
set_option linter.all false
set_option maxRecDepth 100000
set_option maxHeartbeats 4000000
set_option autoImplicit false
namespace DL
open PySem PySem.Spec PyProof.Rows L2

/-! ### targets -/
/-- a target: what it unpacks, what it makes of what is known of the slots, which slots it writes -/
def FG' (X : Cx) {τ : Type} (u : PyData → M τ) (st : τ → List Sl → List Sl) (vs : List Nat) (g : TG) : Prop :=
  ∀ (mg : Str → Option Value) (C : Ct) (F H : Hp) (σ : St) (ρ : List Sl) (x : V) (d : PyData) (cs : List PyData) (Q : St → Hp → Prop), EnvOk X.K mg C F H σ ρ → CupOk X.K C F H cs → Rp X.K F x d →
    Res X.K mg C F H (u d cs) (fun t cs' F' H' => ∀ σ', EnvOk X.K mg C F' H' σ' (st t ρ) → wipe σ' vs = wipe σ vs → Q σ' H') → g x σ H Q
structure FG (X : Cx) {τ : Type} (tg : Expr) (u : PyData → M τ) (st : τ → List Sl → List Sl) (vs : List Nat) (g : TG) : Prop where
  pg : PG X tg g
  ok : FG' X u st vs g
theorem wipe_set {σ : St} {i : Nat} {o : Option V} : ∀ {vs : List Nat}, i ∈ vs → wipe (σ.set i o) vs = wipe σ vs
  | v :: vs, h => by
    unfold wipe
    by_cases e : i ∈ vs
    · rw [wipe_set e]
    · have e' : i = v := by simpa [e] using h
      subst e'
      have w : ∀ vs : List Nat, i ∉ vs → wipe (σ.set i o) vs = (wipe σ vs).set i o := by
        intro vs
        induction vs with
        | nil => intro _; rfl
        | cons w r ih =>
          intro hn
          have hne : w ≠ i := fun z => hn (by simp [z])
          unfold wipe
          rw [ih (fun z => hn (by simp [z])), List.set_comm _ _ hne]
      rw [w vs e, List.set_set]
theorem fg_name {X : Cx} {x : Str} {pos : Pos} (i : Nat) (hN : X.N.Nodup) (hi : X.N[i]? = some x := by rfl) (hx : Loc X.env.scope x := by first | exact Or.inl rfl | exact Or.inr rfl)
    (hf : X.fn x = true ∨ X.env.scope.names.lookup x = some .local := by first | exact Or.inl rfl | exact Or.inr rfl) : FG X (.Name x pos) (fun d => pure d) (fun d ρ => ρ.set i (.d d)) [i] (gName i) :=
  ⟨pg_name hN hi hx hf, fun mg C F H σ ρ v d cs Q e q r h => Res.pure (mg := mg) h e.sub q _ (e.setD i r) (wipe_set (by simp))⟩
def unp2 : PyData → M (PyData × PyData)
  | .tuple [a, b] => pure (a, b)
  | _ => stuck
def unp3 : PyData → M (PyData × PyData × PyData)
  | .tuple [a, b, c] => pure (a, b, c)
  | _ => stuck
theorem pgt2 {X : Cx} {x y : Str} {px py pos : Pos} {k : Nat} (i j : Nat) (hc : X.calm = true) (hN : X.N.Nodup) (hi : X.N[i]? = some x) (hj : X.N[j]? = some y) (hx : Loc X.env.scope x) (hy : Loc X.env.scope y)
    (hfx : X.fn x = true ∨ X.env.scope.names.lookup x = some .local) (hfy : X.fn y = true ∨ X.env.scope.names.lookup y = some .local) :
    PG X (.Tuple [.Name x px, .Name y py] k pos) (gTup X.K 2 (gCons (gName i) (gCons (gName j) gNil))) := by
  have h2 : PGs X [.Name y py] (gCons (gName j) gNil) := pgs_cons (pg_name hN hj hy hfy) pgs_nil
  have h1 : PGs X [.Name x px, .Name y py] (gCons (gName i) (gCons (gName j) gNil)) := pgs_cons (pg_name hN hi hx hfx) h2
  exact pg_tup hc h1 rfl rfl
theorem pgt3 {X : Cx} {x y z : Str} {px py pz pos : Pos} {k : Nat} (i j l : Nat) (hc : X.calm = true) (hN : X.N.Nodup) (hi : X.N[i]? = some x) (hj : X.N[j]? = some y) (hl : X.N[l]? = some z) (hx : Loc X.env.scope x) (hy : Loc X.env.scope y) (hz : Loc X.env.scope z)
    (hfx : X.fn x = true ∨ X.env.scope.names.lookup x = some .local) (hfy : X.fn y = true ∨ X.env.scope.names.lookup y = some .local) (hfz : X.fn z = true ∨ X.env.scope.names.lookup z = some .local) :
    PG X (.Tuple [.Name x px, .Name y py, .Name z pz] k pos) (gTup X.K 3 (gCons (gName i) (gCons (gName j) (gCons (gName l) gNil)))) := by
  have h3 : PGs X [.Name z pz] (gCons (gName l) gNil) := pgs_cons (pg_name hN hl hz hfz) pgs_nil
  have h2 : PGs X [.Name y py, .Name z pz] (gCons (gName j) (gCons (gName l) gNil)) := pgs_cons (pg_name hN hj hy hfy) h3
  have h1 : PGs X [.Name x px, .Name y py, .Name z pz] (gCons (gName i) (gCons (gName j) (gCons (gName l) gNil))) := pgs_cons (pg_name hN hi hx hfx) h2
  exact pg_tup hc h1 rfl rfl
theorem fg_tup2 {X : Cx} {x y : Str} {px py pos : Pos} {k : Nat} (i j : Nat) (hc : X.calm = true) (hN : X.N.Nodup) (hi : X.N[i]? = some x := by rfl) (hj : X.N[j]? = some y := by rfl) (hx : Loc X.env.scope x := by first | exact Or.inl rfl | exact Or.inr rfl) (hy : Loc X.env.scope y := by first | exact Or.inl rfl | exact Or.inr rfl)
    (hfx : X.fn x = true ∨ X.env.scope.names.lookup x = some .local := by first | exact Or.inl rfl | exact Or.inr rfl) (hfy : X.fn y = true ∨ X.env.scope.names.lookup y = some .local := by first | exact Or.inl rfl | exact Or.inr rfl) :
    FG X (.Tuple [.Name x px, .Name y py] k pos) unp2 (fun p ρ => (ρ.set i (.d p.1)).set j (.d p.2)) [i, j] (gTup X.K 2 (gCons (gName i) (gCons (gName j) gNil))) := by
  refine ⟨pgt2 i j hc hN hi hj hx hy hfx hfy, fun mg C F H σ ρ v d cs Q e q r h => ?_⟩
  cases r with
  | tup f r =>
    cases r with
    | nil => exact h.elim
    | cons a r =>
      cases r with
      | nil => exact h.elim
      | cons b r =>
        cases r with
        | cons _ _ => exact h.elim
        | nil =>
          refine ⟨_, _, rfl, f.sq e.sub, rfl, _, _, rfl, _, _, rfl, rfl, ?_⟩
          have h2 := Res.pure (mg := mg) (x := (_, _)) h e.sub q
          refine h2 _ ((e.setD i a).setD j b) ?_
          rw [wipe_set (by simp), wipe_set (by simp)]
  | _ => exact h.elim
theorem fg_tup3 {X : Cx} {x y z : Str} {px py pz pos : Pos} {k : Nat} (i j l : Nat) (hc : X.calm = true) (hN : X.N.Nodup) (hi : X.N[i]? = some x := by rfl) (hj : X.N[j]? = some y := by rfl) (hl : X.N[l]? = some z := by rfl) (hx : Loc X.env.scope x := by first | exact Or.inl rfl | exact Or.inr rfl) (hy : Loc X.env.scope y := by first | exact Or.inl rfl | exact Or.inr rfl) (hz : Loc X.env.scope z := by first | exact Or.inl rfl | exact Or.inr rfl)
    (hfx : X.fn x = true ∨ X.env.scope.names.lookup x = some .local := by first | exact Or.inl rfl | exact Or.inr rfl) (hfy : X.fn y = true ∨ X.env.scope.names.lookup y = some .local := by first | exact Or.inl rfl | exact Or.inr rfl) (hfz : X.fn z = true ∨ X.env.scope.names.lookup z = some .local := by first | exact Or.inl rfl | exact Or.inr rfl) :
    FG X (.Tuple [.Name x px, .Name y py, .Name z pz] k pos) unp3 (fun p ρ => ((ρ.set i (.d p.1)).set j (.d p.2.1)).set l (.d p.2.2)) [i, j, l] (gTup X.K 3 (gCons (gName i) (gCons (gName j) (gCons (gName l) gNil)))) := by
  refine ⟨pgt3 i j l hc hN hi hj hl hx hy hz hfx hfy hfz, fun mg C F H σ ρ v d cs Q e q r h => ?_⟩
  cases r with
  | tup f r =>
    cases r with
    | nil => exact h.elim
    | cons a r =>
      cases r with
      | nil => exact h.elim
      | cons b r =>
        cases r with
        | nil => exact h.elim
        | cons c r =>
          cases r with
          | cons _ _ => exact h.elim
          | nil =>
            refine ⟨_, _, rfl, f.sq e.sub, rfl, _, _, rfl, _, _, rfl, _, _, rfl, rfl, ?_⟩
            have h2 := Res.pure (mg := mg) (x := (_, _, _)) h e.sub q
            refine h2 _ (((e.setD i a).setD j b).setD l c) ?_
            rw [wipe_set (by simp), wipe_set (by simp), wipe_set (by simp)]
  | _ => exact h.elim

/-! ### comprehensions -/
structure FTs (X : Cx) (C : Ct) (ρ : List Sl) (ifs : List Expr) (m : M Bool) : Prop where
  pt : PTs X ifs (tTm X.K X.mg C ρ m)
theorem fts_nil {X : Cx} {C : Ct} {ρ : List Sl} : FTs X C ρ [] (pure true) := ⟨⟨fun pins s σ H Q I ⟨F, cs, e, q, h⟩ => pts_nil.run pins s σ H Q I (Res.pure (mg := X.mg) h e.sub q)⟩⟩
theorem fts_one {X : Cx} {C : Ct} {ρ : List Sl} {c : Expr} {m : M Bool} (h : FT X C ρ c m) : FTs X C ρ [c] m := ⟨pts_one h.pt⟩
def lcM {τ : Type} (u : PyData → M τ) (t : τ → M Bool) (f : τ → M PyData) : List PyData → M (List PyData)
  | [] => pure []
  | d :: ds => do
    let x ← noexc (u d)
    let b ← noexc (t x)
    if b = true then (do let y ← noexc (f x); let ys ← lcM u t f ds; pure (y :: ys)) else lcM u t f ds
def wipeR (ρ : List Sl) : List Nat → List Sl
  | [] => ρ
  | v :: vs => (wipeR ρ vs).set v .un
abbrev Ct.blk (C : Ct) : Ct := { C with W := fun _ _ _ _ => False, rx := [] }
section
variable {K : PySem.W.Frag} {mg : Str → Option Value} {C : Ct} {F H : Hp} {σ : St} {ρ : List Sl}
theorem EnvOk.wipe (h : EnvOk K mg C F H σ ρ) : ∀ vs : List Nat, EnvOk K mg C F H (L2.wipe σ vs) (wipeR ρ vs)
  | [] => h
  | v :: vs => (EnvOk.wipe h vs).setUn v none
theorem EnvOk.ct (h : EnvOk K mg C F H σ ρ) : EnvOk K mg C.blk F H σ ρ := ⟨h.len, h.g0, fun i s e => by
  have := h.sl i s e
  cases s <;> exact this, h.sep⟩
end
/-- results that are never raised -/
def ResN {α : Type} (K : PySem.W.Frag) (C : Ct) (F H : Hp) (r : Except Er (α × List PyData)) (k : α → List PyData → Hp → Hp → Prop) : Prop := match r with
  | .ok (x, cs) => ∀ F' H', Grow C.c F H F' H' → CupOk K C F' H' cs → k x cs F' H'
  | .error _ => False
section
variable {K : PySem.W.Frag} {mg : Str → Option Value} {C : Ct} {F H F' H' : Hp} {cs : List PyData} {α β : Type}
theorem ResN.bind {m : M α} {f : α → M β} {k : β → List PyData → Hp → Hp → Prop} (h : ResN K C F H ((noexc m >>= f) cs) k) : Res K mg C.blk F H (m cs) fun x cs1 F1 H1 => ResN K C F1 H1 (f x cs1) k := by
  rw [M.bind_run] at h
  unfold noexc at h
  match e : m cs, h with
  | .ok (x, cs1), h =>
    intro F1 H1 g1 q1
    have h : ResN K C F H (f x cs1) k := h
    match e2 : f x cs1, h with
    | .ok (y, cs2), h => exact fun F2 H2 g2 q2 => h F2 H2 (Grow.trans g1 g2) q2
    | .error _, h => exact h.elim
  | .error (.exc nm fld), h => exact h.elim
  | .error .stuck, h => exact h.elim
theorem ResN.grow {r : Except Er (α × List PyData)} {k : α → List PyData → Hp → Hp → Prop} (h : ResN K C F H r k) (g : Grow C.c F H F' H') : ResN K C F' H' r k := by
  match r, h with
  | .ok (x, cs), h => exact fun F2 H2 g2 q2 => h F2 H2 (g.trans g2) q2
  | .error _, h => exact h.elim
theorem ResN.cons {y : PyData} {m : M (List PyData)} {k : List PyData → List PyData → Hp → Hp → Prop} (h : ResN K C F H ((m >>= fun ys => pure (y :: ys)) cs) k) : ResN K C F H (m cs) fun ys cs' F' H' => k (y :: ys) cs' F' H' := by
  rw [M.bind_run] at h
  match e : m cs, h with
  | .ok (x, cs1), h => exact h
  | .error _, h => exact h.elim
theorem CupOk.grow0 (q : CupOk K C F H cs) (g : Grow none F H F' H') : CupOk K C F' H' cs := by
  unfold CupOk at q ⊢
  match e : C.c, q with
  | none, q => exact q
  | some a, q =>
    obtain ⟨n1, vs, e1, r1⟩ := q
    exact ⟨g.nF (by rw [e1]; simp) n1, vs, g.keep _ _ e1 (by simp), r1.mono g.le⟩
theorem upd_id {p : Addr} {o : HO} (e : H p = some o) : upd H p o = H := by
  funext a
  by_cases h : a = p
  · subst h; rw [upd_same, e]
  · rw [upd_ne h]
/-- the content of an object that is not frozen and not the cup is forgotten -/
theorem Grow.swap {p : Addr} {o o' : HO} (g : Grow C.c F (upd H p o) F' H') (nF : F p = none) (hp : H p ≠ none) (e : H p = some o') : Grow C.c F H F' (upd H' p o') := by
  have nF' : F' p = none := g.nF (by rw [upd_same]; simp) nF
  refine ⟨g.le, fun a x => ?_, fun a u x n => ?_, fun a x => ?_, fun a u x => ?_⟩
  · rcases g.new a x with z | z
    · exact .inl z
    · by_cases h : a = p
      · subst h; rw [upd_same] at z; cases z
      · rw [upd_ne h] at z; exact .inr z
  · by_cases h : a = p
    · subst h; rw [upd_same, ← e, x]
    · rw [upd_ne h]; exact g.keep a u (by rw [upd_ne h]; exact x) n
  · by_cases h : a = p
    · subst h; rw [upd_same]; simp
    · rw [upd_ne h]; exact g.ex a (by rw [upd_ne h]; exact x)
  · have h : a ≠ p := fun z => by subst z; rw [nF'] at x; cases x
    rcases g.sub a u x with z | ⟨ob, z⟩
    · exact .inl (by rw [upd_ne h]; exact z)
    · exact .inr ⟨ob, by rw [upd_ne h]; exact z⟩
end
/-- m raises nothing -/
def NE {α : Type} (m : M α) : Prop := ∀ (cs : List PyData) (nm : Str) (x : Option (Str × PyData)), m cs ≠ .error (.exc nm x)
theorem NE.pure {α : Type} (x : α) : NE (pure x : M α) := fun cs nm y h => by cases h
theorem NE.noexc {α : Type} (m : M α) : NE (DL.noexc m) := fun cs nm x h => by
  unfold DL.noexc at h
  split at h
  · cases h
  · rename_i hh; exact hh _ _ h
theorem NE.bind {α β : Type} {m : M α} {f : α → M β} (h : NE m) (g : ∀ x, NE (f x)) : NE (m >>= f) := fun cs nm x e => by
  rw [M.bind_run] at e
  match e1 : m cs, e with
  | .ok (y, cs1), e => exact g y cs1 nm x e
  | .error er, e =>
    have e' : (Except.error er : Except Er (β × List PyData)) = .error (.exc nm x) := e
    injection e' with e'
    subst e'
    exact h cs nm x e1
theorem lcM_ne {τ : Type} (u : PyData → M τ) (t : τ → M Bool) (f : τ → M PyData) : ∀ (ds : List PyData), NE (lcM u t f ds)
  | [] => NE.pure _
  | d :: ds => by
    unfold lcM
    refine (NE.noexc _).bind fun x => (NE.noexc _).bind fun b => ?_
    split
    · exact (NE.noexc _).bind fun y => (lcM_ne u t f ds).bind fun ys => NE.pure _
    · exact lcM_ne u t f ds
theorem wipe_sub (σ : St) (vs : List Nat) : ∀ ws : List Nat, (∀ i ∈ ws, i ∈ vs) → wipe (wipe σ ws) vs = wipe σ vs
  | [], _ => rfl
  | w :: ws, h => by
    show wipe ((wipe σ ws).set w none) vs = _
    rw [wipe_set (h w (by simp)), wipe_sub σ vs ws fun i hi => h i (by simp [hi])]
section
variable {X : Cx} {C : Ct} {ρ : List Sl} {elt tg iter : Expr} {ifs : List Expr} {scope : Scope} {own : List (Str × Nat)} {pos : Pos} {τ : Type} {mi : M (List PyData)} {u : PyData → M τ} {st : τ → List Sl → List Sl} {mt : τ → M Bool} {me : τ → M PyData}
theorem lc_walk {K : PySem.W.Frag} {mg : Str → Option Value} {g : TG} {tt : TT} {te : TE} {vs : List Nat} {J : It} {F H : Hp} {σ : St} {cs : List PyData} {Q : VK} {ds : List PyData}
    (e : EnvOk K mg C F H σ ρ) (q : CupOk K C F H cs) (hJ : ItOk K J F ds) (hz : ds.length ≤ sizeLine)
    (h : Res K mg C F H (lcM u mt me ds cs) (kO K C H Q))
    (hg : ∀ (F H : Hp) (σ : St) (ρ : List Sl) (x : V) (d : PyData) (cs : List PyData) (Q : St → Hp → Prop), EnvOk K mg C.blk F H σ ρ → CupOk K C.blk F H cs → Rp K F x d →
      Res K mg C.blk F H (u d cs) (fun t cs' F' H' => ∀ σ', EnvOk K mg C.blk F' H' σ' (st t ρ) → L2.wipe σ' vs = L2.wipe σ vs → Q σ' H') → g x σ H Q)
    (ht : ∀ t σ H Q, tTm K mg C.blk (st t (wipeR ρ vs)) (mt t) σ H Q → tt σ H Q)
    (he : ∀ t σ H Q, tM K mg C.blk (st t (wipeR ρ vs)) (me t) σ H Q → te σ H Q) : ∀ D, H D = none →
    ∃ W : Nat → Nat → Hp → Prop, (∃ m, W 0 m (upd H D (.lst []))) ∧ ∀ i m H, W i m H →
  (J.stop i H ∧ Q (.ref D) H) ∨ (J.go i H ∧ ∃ Nx : Hp → Prop, (∀ H', Nx H' → ∃ m', m' < m ∧ W (i + 1) m' H') ∧ ∀ x H', J.yld i H x H' → g x (L2.wipe σ vs) H' fun σ2 H2 => L2.wipe σ2 vs = L2.wipe σ vs ∧ tt σ2 H2 fun b H3 =>
    if b = true then te σ2 H3 fun y H4 => ∃ acc, H4 D = some (.lst acc) ∧ acc.length < sizeLine ∧ Nx (upd H4 D (.lst (acc ++ [y]))) else Nx H3) := by
  intro D nD
  have cD : C.c ≠ some D := q.ne nD
  have FD : F D = none := e.sub.fresh nD
  have hN : ResN K C F H (lcM u mt me ds cs) fun ys _ F'' H'' => F'' D = none → ∀ vs, Rps K F'' vs ys → Q (.ref D) (upd H'' D (.lst vs)) := by
    match e1 : lcM u mt me ds cs, h with
    | .ok (ys, cs1), h =>
      intro F1 H1 g1 q1 n1 vs rs
      exact h F1 (upd H1 D (.lst vs)) (g1.updFresh nD n1) (q1.upd cD) D vs nD upd_same n1 cD rs
    | .error (.exc nm x), h => exact absurd e1 (lcM_ne u mt me ds cs nm x)
  refine ⟨fun i m Hc => m = ds.length - i ∧ i ≤ ds.length ∧ ∃ F' cs' acc vacc, Grow C.c F H F' Hc ∧ CupOk K C F' Hc cs' ∧ Hc D = some (.lst vacc) ∧ F' D = none ∧ Rps K F' vacc acc ∧ vacc.length ≤ i ∧
    ResN K C F' Hc (lcM u mt me (ds.drop i) cs') (fun ys _ F'' H'' => F'' D = none → ∀ vs, Rps K F'' vs (acc ++ ys) → Q (.ref D) (upd H'' D (.lst vs))), ⟨ds.length, by simp, Nat.zero_le _, F, cs, [], [], Grow.fresh e.sub nD, q.upd cD, upd_same, FD, .nil, Nat.zero_le _, ?_⟩, ?_⟩
  · match lcM u mt me ds cs, hN with
    | .ok (ys, cs1), hN =>
      intro F1 H1 g1 q1 n1 vs rs
      have g0 : Grow C.c F H F1 H1 := (Grow.fresh e.sub nD).trans g1
      exact hN F1 H1 g0 q1 n1 vs rs
    | .error _, hN => exact hN.elim
  · rintro i m Hc ⟨rfl, hi, F', cs', acc, vacc, gc, qc, eD, nF', rs, hl, hr⟩
    have ec := e.grow gc
    by_cases hlt : i < ds.length
    · have ed : ds[i]? = some ds[i] := List.getElem?_eq_getElem hlt
      obtain ⟨go, yl⟩ := (hJ i F' Hc gc.le gc.sub).2 _ ed
      refine .inr ⟨go, fun H' => (fun i m Hc => m = ds.length - i ∧ i ≤ ds.length ∧ ∃ F' cs' acc vacc, Grow C.c F H F' Hc ∧ CupOk K C F' Hc cs' ∧ Hc D = some (.lst vacc) ∧ F' D = none ∧ Rps K F' vacc acc ∧ vacc.length ≤ i ∧
    ResN K C F' Hc (lcM u mt me (ds.drop i) cs') (fun ys _ F'' H'' => F'' D = none → ∀ vs, Rps K F'' vs (acc ++ ys) → Q (.ref D) (upd H'' D (.lst vs)))) (i + 1) (ds.length - (i + 1)) H', fun H' w => ⟨ds.length - (i + 1), by omega, w⟩, fun x Hy y => ?_⟩
      obtain ⟨F2, g2, rx⟩ := yl x Hy y
      have q2 : CupOk K C F2 Hy cs' := qc.grow0 (g2 none)
      have gy : Grow C.c F H F2 Hy := gc.trans (g2 C.c)
      have hr2 := hr.grow (g2 C.c)
      rw [List.drop_eq_getElem_cons hlt] at hr2
      unfold lcM at hr2
      have hu := hr2.bind (mg := mg)
      refine hg F2 Hy (L2.wipe σ vs) (wipeR ρ vs) x ds[i] cs' _ ((e.grow gy).wipe vs).ct q2 rx (hu.mono fun t cs3 F3 H3 g3 q3 h3 σ' e3 wp => ?_)
      refine ⟨by rw [wp, wipe_sub σ vs vs fun _ h => h], ht t σ' H3 _ ⟨F3, cs3, e3, q3, (h3.bind (mg := mg)).mono fun b cs4 F4 H4 g4 q4 h4 => ?_⟩⟩
      have g3' : Grow C.c F2 Hy F3 H3 := g3
      have g4' : Grow C.c F3 H3 F4 H4 := g4
      have gA : Grow C.c F' Hc F4 H4 := (g2 C.c).trans (g3'.trans g4')
      cases b with
      | false =>
        refine ⟨rfl, by omega, F4, cs4, acc, vacc, gc.trans gA, q4, gA.keep _ _ eD cD, gA.nF (by rw [eD]; simp) nF', rs.mono gA.le, by omega, h4⟩
      | true =>
        refine he t σ' H4 _ ⟨F4, cs4, e3.grow g4', q4, ?_⟩
        have h4' : ResN K C F4 H4 ((do let y ← noexc (me t); let ys ← lcM u mt me (ds.drop (i + 1)); pure (y :: ys) : M (List PyData)) cs4) _ := h4
        refine (h4'.bind (mg := mg)).mono fun dy cs5 F5 H5 g5 q5 h5 v rv => ?_
        have g5' : Grow C.c F4 H4 F5 H5 := g5
        have gB : Grow C.c F' Hc F5 H5 := gA.trans g5'
        have e5 : H5 D = some (.lst vacc) := gB.keep _ _ eD cD
        have n5 : F5 D = none := gB.nF (by rw [eD]; simp) nF'
        have g0 : Grow C.c F H F5 H5 := gc.trans gB
        refine ⟨vacc, e5, by omega, rfl, by omega, F5, cs5, acc ++ [dy], vacc ++ [v], g0.updFresh nD n5, q5.upd cD, upd_same, n5, (rs.mono gB.le).append (.one rv), by rw [List.length_append]; simp; omega, ?_⟩
        have h6 := h5.cons
        match lcM u mt me (ds.drop (i + 1)) cs5, h6 with
        | .ok (ys, cs6), h6 =>
          intro F7 H7 g7 q7 n7 vs7 r7
          have z := h6 F7 (upd H7 D (.lst vacc)) (g7.swap n5 (by rw [e5]; simp) e5) (q7.upd cD) n7 vs7 (by rw [List.append_assoc] at r7; exact r7)
          rw [upd_upd] at z
          exact z
        | .error _, h6 => exact h6.elim
    · have hi' : i = ds.length := by omega
      subst hi'
      refine .inl ⟨(hJ _ F' Hc gc.le gc.sub).1 (Nat.le_refl _), ?_⟩
      rw [List.drop_length] at hr
      have z := hr F' Hc (Grow.refl gc.sub) qc nF' vacc (by rw [List.append_nil]; exact rs)
      rw [upd_id eD] at z
      exact z
/-- what the reading of a comprehension asks -/
theorem lc_read {g : TG} {vs : List Nat} (hg : FG' X u st vs g) (σ : St) (H : Hp) (Q : VK) (h : tO X.K X.mg C ρ (do let ds ← mi; lcM u mt me ds) σ H Q) :
    tLc (tIm X.K X.mg C ρ mi) g (fun σ H Q => ∃ t, tTm X.K X.mg C.blk (st t (wipeR ρ vs)) (mt t) σ H Q) (fun σ H Q => ∃ t, tM X.K X.mg C.blk (st t (wipeR ρ vs)) (me t) σ H Q) vs σ H Q := by
  obtain ⟨F, cs, e, q, h⟩ := h
  rw [show ((do let ds ← mi; lcM u mt me ds : M (List PyData)) cs) = _ from M.bind_run _ _ _] at h
  refine ⟨F, cs, e, q, ?_⟩
  match e1 : mi cs, h with
  | .ok (ds, cs1), h =>
    intro F1 H1 g1 q1 J hJ hz
    have h : Res X.K X.mg C F H (lcM u mt me ds cs1) (kO X.K C H Q) := h
    have h' : Res X.K X.mg C F1 H1 (lcM u mt me ds cs1) (kO X.K C H1 Q) := by
      match e2 : lcM u mt me ds cs1, h with
      | .ok (ys, cs2), h => exact fun F2 H2 g2 q2 a vs n1 => h F2 H2 (g1.trans g2) q2 a vs (g1.free n1)
      | .error (.exc nm x), h => exact absurd e2 (lcM_ne u mt me ds cs1 nm x)
    exact lc_walk (tt := fun σ H Q => ∃ t, tTm X.K X.mg C.blk (st t (wipeR ρ vs)) (mt t) σ H Q) (te := fun σ H Q => ∃ t, tM X.K X.mg C.blk (st t (wipeR ρ vs)) (me t) σ H Q) (e.grow g1) q1 hJ hz h' (fun F H σ ρ x d cs Q e q r w => hg X.mg C.blk F H σ ρ x d cs Q e q r w) (fun t σ H Q w => ⟨t, w⟩) (fun t σ H Q w => ⟨t, w⟩)
  | .error (.exc nm x), h => exact h
/-- [elt for tg in iter if ..] -/
theorem fo_lc {g : TG} (hc : X.calm = true) (hN : X.N.Nodup) (hi : FI X C ρ tg iter mi) (ok : BlkOk X.N X.env.scope scope own)
    (hg : ∀ (s : Shared) (H : Hp) (Ca : Addr) (cl : List (Str × Addr)) (fp : List Addr), FG (X.blk s H scope (compEnvC scope cl Ca X.env) fp) tg u st (own.map (·.2)) g)
    (ht : ∀ (t : τ) (s : Shared) (H : Hp) (Ca : Addr) (cl : List (Str × Addr)) (fp : List Addr), FTs (X.blk s H scope (compEnvC scope cl Ca X.env) fp) C.blk (st t (wipeR ρ (own.map (·.2)))) ifs (mt t))
    (he : ∀ (t : τ) (s : Shared) (H : Hp) (Ca : Addr) (cl : List (Str × Addr)) (fp : List Addr), FE (X.blk s H scope (compEnvC scope cl Ca X.env) fp) C.blk (st t (wipeR ρ (own.map (·.2)))) elt (me t))
    (hs : ∀ x, foldedSetIterable iter X.env x = pure x := by intro _; rfl) :
    FO X C ρ (.ListComp elt [⟨tg, iter, ifs, 0⟩] scope pos) (do let ds ← mi; lcM u mt me ds) :=
  ⟨imE (pe_lc hc hN hi.pi ok (fun s H Ca cl fp => (hg s H Ca cl fp).pg) (fun s H Ca cl fp => ⟨fun pins s' σ H' Q I ⟨t, w⟩ => (ht t s H Ca cl fp).pt.run pins s' σ H' Q I w⟩)
    (fun s H Ca cl fp => ⟨fun pins s' σ H' Q I ⟨t, w⟩ => (he t s H Ca cl fp).pe.run pins s' σ H' Q I w⟩) hs) (lc_read (X := X) (hg ({} : Shared) (fun _ => none) 0 [] []).ok)⟩
end
end DL
end
section
set_option Elab.async false
set_option linter.all false
set_option maxRecDepth 100000
set_option maxHeartbeats 4000000
set_option autoImplicit false
namespace DL
open PySem PySem.Spec PyProof.Rows L2

/-! ### blocks -/
inductive Fl (τ β : Type) where
  | nx (t : τ) | bk (b : β) | ct (b : β) | rt (d : PyData)
section
variable (K : PySem.W.Frag) (mg : Str → Option Value) (C : Ct) {τ β : Type}
def kR (rk : Bool) (D : Ends) (F' H' : Hp) (d : PyData) : Prop :=
  if rk = true then ∀ xs a vs, d = .list xs → C.E a = none → H' a = some (.lst vs) → F' a = none → C.c ≠ some a → Rps K F' vs xs → D.rt (.ref a) H' else ∀ v, Rp K F' v d → D.rt v H'
def kB (emb : τ → List Sl) (embL : β → List Sl) (rk : Bool) (D : Ends) : Fl τ β → List PyData → Hp → Hp → Prop := fun fl _ F' H' => match fl with
  | .nx t => ∀ σ', EnvOk K mg C F' H' σ' (emb t) → D.nx σ' H'
  | .bk t => ∀ σ', EnvOk K mg C F' H' σ' (embL t) → D.bk σ' H'
  | .ct t => ∀ σ', EnvOk K mg C F' H' σ' (embL t) → D.ct σ' H'
  | .rt d => kR K C rk D F' H' d
def tBl (ρ : List Sl) (emb : τ → List Sl) (embL : β → List Sl) (rk : Bool) (m : M (Fl τ β)) : TS := fun D σ H => ∃ F cs, EnvOk K mg C F H σ ρ ∧ CupOk K C F H cs ∧ ResB K mg C F (m cs) (kB K mg C emb embL rk D)
end
structure FB (X : Cx) (C : Ct) {τ β : Type} (ρ : List Sl) (emb : τ → List Sl) (embL : β → List Sl) (rk : Bool) (st : List Stmt) (m : M (Fl τ β)) : Prop where
  ps : PSs X st (tBl X.K X.mg C ρ emb embL rk m)
/-- on behind a part that may end otherwise -/
def thenF {τ τ' β : Type} (m : M (Fl τ β)) (k : τ → M (Fl τ' β)) : M (Fl τ' β) := do
  match ← m with
  | .nx t => k t
  | .bk b => pure (.bk b)
  | .ct b => pure (.ct b)
  | .rt d => pure (.rt d)
def castF {τ β : Type} (m : M (Fl Empty β)) : M (Fl τ β) := do
  match ← m with
  | .bk b => pure (.bk b)
  | .ct b => pure (.ct b)
  | .rt d => pure (.rt d)
section
variable {X : Cx} {C : Ct} {ρ : List Sl} {τ τ' β : Type} {emb : τ → List Sl} {emb' : τ' → List Sl} {embL : β → List Sl} {rk : Bool} {rest : List Stmt} {s : Stmt} {e c : Expr} {m : M PyData} {pos p' : Pos} {x : Str}
theorem fb_nil (t : τ) (w : Wk ρ (emb t)) : FB X C ρ emb embL rk [] (pure (.nx t)) :=
  ⟨imSs pss_nil fun D σ H ⟨F, cs, e, q, h⟩ => ResB.pure h e.g0 q σ (e.wk w)⟩
/-- the next statement by values: it reads e and goes on -/
theorem fb_step {α : Type} {ma : M α} {k : α → M (Fl τ β)} {t : TS} (h1 : PS X s t)
    (hr : ∀ D σ H, tBl X.K X.mg C ρ emb embL rk (do let a ← ma; k a) D σ H → t { D with nx := fun σ' H' => ∃ a ρ', PSs X rest (tBl X.K X.mg C ρ' emb embL rk (k a)) ∧ tBl X.K X.mg C ρ' emb embL rk (k a) D σ' H' } σ H) :
    FB X C ρ emb embL rk (s :: rest) (do let a ← ma; k a) := by
  refine ⟨⟨fun pins s' σ H D I h => ?_⟩⟩
  refine wpAny_execs_cons (thn (h1.run pins s' σ H _ I (hr D σ H h)) fun f s1 q => ?_)
  cases f with
  | next =>
    obtain ⟨σ', H', I', a, ρ', hp, q⟩ := q
    exact hp.run pins s1 σ' H' D I' q
  | ret v => exact q
  | brk => exact q
  | cont => exact q
theorem fb_set (i : Nat) {k : PyData → M (Fl τ β)} (hN : X.N.Nodup) (he : FE X C ρ e m) (hk : ∀ d, FB X C (ρ.set i (.d d)) emb embL rk rest (k d)) (hi : X.N[i]? = some x := by rfl) (hx : Loc X.env.scope x := by first | exact Or.inl rfl | exact Or.inr rfl)
    (hs : swapsWith e (some (.Name x p')) pos.line X.env = pure false := by rfl) (hf : X.fn x = true ∨ X.env.scope.names.lookup x = some .local := by first | exact Or.inl rfl | exact Or.inr rfl) :
    FB X C ρ emb embL rk (.Assign [.Name x p'] e pos :: rest) (do let d ← m; k d) := by
  refine fb_step (ps_set hN hi hx he.pe hs hf) fun D σ H h => ?_
  obtain ⟨F, cs, e, q, h⟩ := h
  refine ⟨F, cs, e, q, (h.bind e.g0).mono fun d cs1 F1 H1 g1 q1 h1 v rv => ?_⟩
  exact ⟨d, ρ.set i (.d d), (hk d).ps, F1, cs1, (e.grow g1).setD i rv, q1, h1⟩
theorem EnvOk.newOwn {K : PySem.W.Frag} {mg : Str → Option Value} {F H F1 H1 : Hp} {σ : St} (e : EnvOk K mg C F H σ ρ) (g : Grow C.c F H F1 H1) (i : Nat) {a : Addr} {vs : List V} {xs : List PyData} (n : H a = none) (e1 : H1 a = some (.lst vs)) (e2 : F1 a = none) (e3 : C.c ≠ some a) (r : Rps K F1 vs xs) :
    EnvOk K mg C F1 H1 (σ.set i (some (.ref a))) (ρ.set i (.own xs)) := by
  refine (e.grow g).setOwn i e1 e2 e3 ?_ r fun j o => absurd n (e.owned o)
  cases q : C.E a with
  | none => rfl
  | some o => exact absurd n (e.ent a (by rw [q]; simp))
theorem fb_setO (i : Nat) {mo : M (List PyData)} {k : List PyData → M (Fl τ β)} (hN : X.N.Nodup) (he : FO X C ρ e mo) (hk : ∀ xs, FB X C (ρ.set i (.own xs)) emb embL rk rest (k xs)) (hi : X.N[i]? = some x := by rfl) (hx : Loc X.env.scope x := by first | exact Or.inl rfl | exact Or.inr rfl)
    (hs : swapsWith e (some (.Name x p')) pos.line X.env = pure false := by rfl) (hf : X.fn x = true ∨ X.env.scope.names.lookup x = some .local := by first | exact Or.inl rfl | exact Or.inr rfl) :
    FB X C ρ emb embL rk (.Assign [.Name x p'] e pos :: rest) (do let xs ← mo; k xs) := by
  refine fb_step (ps_set hN hi hx he.pe hs hf) fun D σ H h => ?_
  obtain ⟨F, cs, e, q, h⟩ := h
  refine ⟨F, cs, e, q, (h.bind e.g0).mono fun xs cs1 F1 H1 g1 q1 h1 a vs n e1 e2 e3 r => ?_⟩
  exact ⟨xs, ρ.set i (.own xs), (hk xs).ps, F1, cs1, e.newOwn g1 i n e1 e2 e3 r, q1, h1⟩
/-- name = [elt for ..] on one line -/
theorem fb_setLc (i : Nat) {elt tg iter : Expr} {ifs : List Expr} {scope : Scope} {own : List (Str × Nat)} {spos : Pos} {υ : Type} {mi : M (List PyData)} {u : PyData → M υ} {st : υ → List Sl → List Sl} {mt : υ → M Bool} {me : υ → M PyData} {g : TG} {k : List PyData → M (Fl τ β)}
    (hc : X.calm = true) (hN : X.N.Nodup) (hi : FI X C ρ tg iter mi) (ok : BlkOk X.N X.env.scope scope own)
    (hg : ∀ (s : Shared) (H : Hp) (Ca : Addr) (cl : List (Str × Addr)) (fp : List Addr), FG (X.blk s H scope (compEnvC scope cl Ca X.env) fp) tg u st (own.map (·.2)) g)
    (ht : ∀ (t : υ) (s : Shared) (H : Hp) (Ca : Addr) (cl : List (Str × Addr)) (fp : List Addr), FTs (X.blk s H scope (compEnvC scope cl Ca X.env) fp) C.blk (st t (wipeR ρ (own.map (·.2)))) ifs (mt t))
    (he : ∀ (t : υ) (s : Shared) (H : Hp) (Ca : Addr) (cl : List (Str × Addr)) (fp : List Addr), FE (X.blk s H scope (compEnvC scope cl Ca X.env) fp) C.blk (st t (wipeR ρ (own.map (·.2)))) elt (me t))
    (hk : ∀ xs, FB X C (ρ.set i (.own xs)) emb embL rk rest (k xs)) (hy : X.N[i]? = some x := by rfl) (hyl : X.env.scope.names.lookup x = some .local := by rfl)
    (hsw : swapsWith (.ListComp elt [⟨tg, iter, ifs, 0⟩] scope pos) (some (.Name x p')) spos.line X.env = pure true := by exact sw_true rfl rfl rfl (by decide +kernel))
    (hs : ∀ x, foldedSetIterable iter X.env x = pure x := by intro _; rfl) :
    FB X C ρ emb embL rk (.Assign [.Name x p'] (.ListComp elt [⟨tg, iter, ifs, 0⟩] scope pos) spos :: rest) (do let xs ← (do let ds ← mi; lcM u mt me ds); k xs) := by
  have p1 := ps_setLc (spos := spos) hc hN hy hyl hsw hi.pi ok (fun s H Ca cl fp => (hg s H Ca cl fp).pg) (tt := fun σ H Q => ∃ t, tTm X.K X.mg C.blk (st t (wipeR ρ (own.map (·.2)))) (mt t) σ H Q) (te := fun σ H Q => ∃ t, tM X.K X.mg C.blk (st t (wipeR ρ (own.map (·.2)))) (me t) σ H Q)
    (fun s H Ca cl fp => ⟨fun pins s' σ H' Q I ⟨t, w⟩ => (ht t s H Ca cl fp).pt.run pins s' σ H' Q I w⟩) (fun s H Ca cl fp => ⟨fun pins s' σ H' Q I ⟨t, w⟩ => (he t s H Ca cl fp).pe.run pins s' σ H' Q I w⟩) hs
  refine fb_step p1 fun D σ H h => ?_
  refine lc_read (X := X) (hg ({} : Shared) (fun _ => none) 0 [] []).ok σ H _ ?_
  obtain ⟨F, cs, e, q, h⟩ := h
  refine ⟨F, cs, e, q, (h.bind e.g0).mono fun xs cs1 F1 H1 g1 q1 h1 a vs n e1 e2 e3 r => ?_⟩
  exact ⟨xs, ρ.set i (.own xs), (hk xs).ps, F1, cs1, e.newOwn g1 i n e1 e2 e3 r, q1, h1⟩
/-- an expression for its effect -/
theorem fb_expr {k : PyData → M (Fl τ β)} (he : FE X C ρ e m) (hk : ∀ d, FB X C ρ emb embL rk rest (k d)) (hs : swapsWith e none pos.line X.env = pure false := by rfl) : FB X C ρ emb embL rk (.Expr e pos :: rest) (do let d ← m; k d) := by
  refine fb_step (ps_expr he.pe hs) fun D σ H h => ?_
  obtain ⟨F, cs, e, q, h⟩ := h
  exact ⟨F, cs, e, q, (h.bind e.g0).mono fun d cs1 F1 H1 g1 q1 h1 v rv => ⟨d, ρ, (hk d).ps, F1, cs1, e.grow g1, q1, h1⟩⟩
theorem fb_pass {mr : M (Fl τ β)} (hr : FB X C ρ emb embL rk rest mr) : FB X C ρ emb embL rk (.Pass pos :: rest) mr := ⟨imSs (pss_cons ps_pass hr.ps) fun D σ H h => h⟩
/-- an own list is frozen -/
theorem EnvOk.freeze {K : PySem.W.Frag} {mg : Str → Option Value} {F H : Hp} {σ : St} (e : EnvOk K mg C F H σ ρ) (i : Nat) {xs : List PyData} (hρ : ρ[i]? = some (.own xs)) :
    ∃ a vs, σ[i]? = some (some (.ref a)) ∧ H a = some (.lst vs) ∧ F a = none ∧ C.c ≠ some a ∧ Rps K F vs xs ∧ EnvOk K mg C (L2.upd F a (.lst vs)) H σ (ρ.set i (.d (.list xs))) := by
  obtain ⟨a, vs, e1, e2, e3, e4, e5, r⟩ := e.sl i _ hρ
  have nn : ∀ j b, j ≠ i → OwnAt ρ σ j b → b ≠ a := fun j b hj o z => hj (e.sep j i a (z ▸ o) ⟨_, hρ, rfl, e1⟩)
  have le : Le F (L2.upd F a (.lst vs)) := Le.fz e3
  refine ⟨a, vs, e1, e2, e3, e4, r, by rw [List.length_set]; exact e.len, e.g0.freeze e5 e3 e2, fun j s ej => ?_, fun j k b h1 h2 => ?_⟩
  · by_cases hj : i = j
    · subst hj
      rw [List.getElem?_set_self ((List.getElem?_eq_some_iff.mp hρ).1)] at ej
      cases ej
      exact ⟨_, e1, .lst (.inl upd_same) (r.mono le)⟩
    · rw [List.getElem?_set_ne hj] at ej
      have sj := e.sl j s ej
      have own : ∀ b, isOwn s = true → σ[j]? = some (some (.ref b)) → b ≠ a := fun b o ob => nn j b (fun z => hj z.symm) ⟨s, ej, o, ob⟩
      cases s with
      | un => trivial
      | d y => obtain ⟨v, z, rv⟩ := sj; exact ⟨v, z, rv.mono le⟩
      | own ys => obtain ⟨b, ws, z, z1, z2, z3, z4, rb⟩ := sj; exact ⟨b, ws, z, z1, by rw [upd_ne (own b rfl z)]; exact z2, z3, z4, rb.mono le⟩
      | odK ys => obtain ⟨b, ws, z, z1, z2, z3, z4, rb⟩ := sj; exact ⟨b, ws, z, z1, by rw [upd_ne (own b rfl z)]; exact z2, z3, z4, rb.mono le⟩
      | odT ys => obtain ⟨b, ws, z, z1, z2, z3, z4, rb⟩ := sj; exact ⟨b, ws, z, z1, by rw [upd_ne (own b rfl z)]; exact z2, z3, z4, rb.mono le⟩
      | cup => exact sj
      | fn y => exact sj
  · have key : ∀ j, OwnAt (ρ.set i (.d (.list xs))) σ j b → OwnAt ρ σ j b := by
      rintro j ⟨s, z1, z2, z3⟩
      by_cases hj : i = j
      · subst hj
        rw [List.getElem?_set_self ((List.getElem?_eq_some_iff.mp hρ).1)] at z1
        cases z1; cases z2
      · rw [List.getElem?_set_ne hj] at z1
        exact ⟨s, z1, z2, z3⟩
    exact e.sep j k b (key j h1) (key k h2)
theorem fb_frz (i : Nat) {xs : List PyData} {mr : M (Fl τ β)} {sts : List Stmt} (h : FB X C (ρ.set i (.d (.list xs))) emb embL rk sts mr) (hρ : ρ[i]? = some (.own xs) := by rfl) : FB X C ρ emb embL rk sts mr := by
  refine ⟨imSs h.ps fun D σ H h => ?_⟩
  obtain ⟨F, cs, e, q, h⟩ := h
  obtain ⟨a, vs, e1, e2, e3, e4, r, e'⟩ := e.freeze i hρ
  exact ⟨_, cs, e', q.fz e3 e4, h.le (Le.fz e3)⟩

/-! return -/
theorem fb_ret {τ β : Type} {emb : τ → List Sl} {embL : β → List Sl} (he : FE X C ρ e m) : FB X C ρ emb embL false (.Return (some e) pos :: rest) (do let d ← m; pure (.rt d)) := by
  refine ⟨imSs (pss_cons (ps_ret he.pe) pss_never) fun D σ H h => ?_⟩
  obtain ⟨F, cs, e, q, h⟩ := h
  refine ⟨F, cs, e, q, (h.bind e.g0).mono fun d cs1 F1 H1 g1 q1 h1 v rv => ?_⟩
  exact ResB.pure h1 (e.g0.trans g1) q1 v rv
theorem fb_retN {τ β : Type} {emb : τ → List Sl} {embL : β → List Sl} : FB X C ρ emb embL false (.Return none pos :: rest) (pure (.rt .none)) := by
  refine ⟨imSs (pss_cons ps_retN pss_never) fun D σ H h => ?_⟩
  obtain ⟨F, cs, e, q, h⟩ := h
  exact ResB.pure h e.g0 q .non .non
/-- an own list is handed back as one's own: a fresh one, a name -/
theorem fb_retO {τ β : Type} {emb : τ → List Sl} {embL : β → List Sl} {mo : M (List PyData)} (he : FO X C ρ e mo) : FB X C ρ emb embL true (.Return (some e) pos :: rest) (do let xs ← mo; pure (.rt (.list xs))) := by
  refine ⟨imSs (pss_cons (ps_ret he.pe) pss_never) fun D σ H h => ?_⟩
  obtain ⟨F, cs, e, q, h⟩ := h
  refine ⟨F, cs, e, q, (h.bind e.g0).mono fun xs cs1 F1 H1 g1 q1 h1 a vs n e1 e2 e3 r => ?_⟩
  refine ResB.pure h1 (e.g0.trans g1) q1 xs a vs rfl ?_ e1 e2 e3 r
  cases q : C.E a with
  | none => rfl
  | some o => exact absurd n (e.ent a (by rw [q]; simp))
theorem fb_retV {τ β : Type} {emb : τ → List Sl} {embL : β → List Sl} (i : Nat) {xs : List PyData} (hρ : ρ[i]? = some (.own xs) := by rfl) (hN : X.N[i]? = some x := by rfl) (hv : Vis X.env.scope x := by first | exact Or.inl rfl | exact Or.inr (Or.inl rfl) | exact Or.inr (Or.inr rfl))
    (hd : (x == ("__debug__" : Str)) = false := by decide) (hcd : (x == ("__classdict__" : Str)) = false := by decide) : FB X C ρ emb embL true (.Return (some (.Name x p')) pos :: rest) (pure (.rt (.list xs))) := by
  refine ⟨imSs (pss_cons (ps_ret (pe_var hN hv hd hcd)) pss_never) fun D σ H h => ?_⟩
  obtain ⟨F, cs, e, q, h⟩ := h
  obtain ⟨a, vs, e1, e2, e3, e4, e5, r⟩ := e.sl i _ hρ
  exact ⟨.ref a, e1, ResB.pure h e.g0 q xs a vs rfl e5 e2 e3 e4 r⟩

/-! if -/
theorem fb_if {A B : List Stmt} {mc : M Bool} {mA mB : M (Fl τ' β)} {k : τ' → M (Fl τ β)} (hc : FT X C ρ c mc) (hA : FB X C ρ emb' embL rk A mA) (hB : FB X C ρ emb' embL rk B mB) (hk : ∀ t, FB X C (emb' t) emb embL rk rest (k t)) :
    FB X C ρ emb embL rk (.If c A B pos :: rest) (thenF (do let b ← mc; if b = true then mA else mB) k) := by
  have hR : PSs X rest (fun D σ H => ∃ t, tBl X.K X.mg C (emb' t) emb embL rk (k t) D σ H) := ⟨fun pins s' σ H D I ⟨t, w⟩ => (hk t).ps.run pins s' σ H D I w⟩
  refine ⟨imSs (pss_cons (ps_if hc.pt hA.ps hB.ps) hR) fun D σ H h => ?_⟩
  obtain ⟨F, cs, e, q, h⟩ := h
  unfold thenF at h
  have h2 := h.split
  refine ⟨F, cs, e, q, (h2.bind e.g0).mono fun b cs1 F1 H1 g1 q1 h1 => ?_⟩
  have fin : ∀ {m : M (Fl τ' β)}, ResB X.K X.mg C F1 (m cs1) (fun fl cs1 F2 _ => ResB X.K X.mg C F2 ((match fl with | .nx t => k t | .bk b => pure (.bk b) | .ct b => pure (.ct b) | .rt d => pure (.rt d) : M (Fl τ β)) cs1) (kB X.K X.mg C emb embL rk D)) →
      tBl X.K X.mg C ρ emb' embL rk m { D with nx := fun σ H => ∃ t, tBl X.K X.mg C (emb' t) emb embL rk (k t) D σ H } σ H1 := fun {m} h3 => by
    refine ⟨F1, cs1, e.grow g1, q1, h3.mono fun fl cs2 F2 H2 l2 g2 q2 h4 => ?_⟩
    cases fl with
    | nx t => exact fun σ' e' => ⟨t, F2, cs2, e', q2, h4⟩
    | bk b => exact ResB.pure (mg := X.mg) h4 g2 q2
    | ct b => exact ResB.pure (mg := X.mg) h4 g2 q2
    | rt d => exact ResB.pure (mg := X.mg) h4 g2 q2
  cases b with
  | true => exact iteT (B := tBl X.K X.mg C ρ emb' embL rk mB { D with nx := fun σ H => ∃ t, tBl X.K X.mg C (emb' t) emb embL rk (k t) D σ H } σ H1) (fin h1)
  | false => exact iteF (A := tBl X.K X.mg C ρ emb' embL rk mA { D with nx := fun σ H => ∃ t, tBl X.K X.mg C (emb' t) emb embL rk (k t) D σ H } σ H1) (fin h1)
/-- if c: A, which never falls through -/
theorem fb_ifR {A : List Stmt} {emb0 : Empty → List Sl} {mc : M Bool} {mA : M (Fl Empty β)} {mr : M (Fl τ β)} (hc : FT X C ρ c mc) (hA : FB X C ρ emb0 embL rk A mA) (hr : FB X C ρ emb embL rk rest mr) :
    FB X C ρ emb embL rk (.If c A [] pos :: rest) (do let b ← mc; if b = true then castF mA else mr) := by
  have hR : PSs X rest (fun D σ H => tBl X.K X.mg C ρ emb embL rk mr D σ H) := hr.ps
  refine ⟨imSs (pss_cons (ps_if hc.pt hA.ps pss_nil) hR) fun D σ H h => ?_⟩
  obtain ⟨F, cs, e, q, h⟩ := h
  refine ⟨F, cs, e, q, (h.bind e.g0).mono fun b cs1 F1 H1 g1 q1 h1 => ?_⟩
  cases b with
  | true =>
    refine iteT (B := tNext { D with nx := fun σ H => tBl X.K X.mg C ρ emb embL rk mr D σ H } σ H1) ⟨F1, cs1, e.grow g1, q1, ?_⟩
    have h1 : ResB X.K X.mg C F1 (castF mA cs1) (kB X.K X.mg C emb embL rk D) := h1
    unfold castF at h1
    refine h1.split.mono fun fl cs2 F2 H2 l2 g2 q2 h4 => ?_
    cases fl with
    | nx t => exact nomatch t
    | bk b => exact ResB.pure (mg := X.mg) h4 g2 q2
    | ct b => exact ResB.pure (mg := X.mg) h4 g2 q2
    | rt d => exact ResB.pure (mg := X.mg) h4 g2 q2
  | false => exact iteF (A := tBl X.K X.mg C ρ emb0 embL rk mA { D with nx := fun σ H => tBl X.K X.mg C ρ emb embL rk mr D σ H } σ H1) ⟨F1, cs1, e.grow g1, q1, h1⟩
/-- if c: A else: B, neither falls through -/
theorem fb_ifRR {A B : List Stmt} {mc : M Bool} {mA mB : M (Fl τ β)} (hc : FT X C ρ c mc) (hA : FB X C ρ emb embL rk A mA) (hB : FB X C ρ emb embL rk B mB) :
    FB X C ρ emb embL rk [.If c A B pos] (do let b ← mc; if b = true then mA else mB) := by
  refine ⟨imSs (pss_one (ps_if hc.pt hA.ps hB.ps)) fun D σ H h => ?_⟩
  obtain ⟨F, cs, e, q, h⟩ := h
  refine ⟨F, cs, e, q, (h.bind e.g0).mono fun b cs1 F1 H1 g1 q1 h1 => ?_⟩
  cases b with
  | true => exact iteT (B := tBl X.K X.mg C ρ emb embL rk mB D σ H1) ⟨F1, cs1, e.grow g1, q1, h1⟩
  | false => exact iteF (A := tBl X.K X.mg C ρ emb embL rk mA D σ H1) ⟨F1, cs1, e.grow g1, q1, h1⟩

/-! for -/
def pFor {τ υ : Type} (u : PyData → M υ) (b : υ → τ → M (Fl τ τ)) : List PyData → τ → M (τ ⊕ PyData)
  | [], t => pure (.inl t)
  | d :: ds, t => do
    let x ← u d
    match ← b x t with
    | .nx t' => pFor u b ds t'
    | .ct t' => pFor u b ds t'
    | .bk t' => pure (.inl t')
    | .rt v => pure (.inr v)
def contL {τ τ' β : Type} (r : τ' ⊕ PyData) (k : τ' → M (Fl τ β)) : M (Fl τ β) := match r with
  | .inl t => k t
  | .inr d => pure (.rt d)
theorem CupOk.it {K : PySem.W.Frag} {F H F' H' : Hp} {cs : List PyData} (q : CupOk K C F H cs) (g : ∀ c, Grow c F H F' H') : CupOk K C F' H' cs := q.grow0 (g none)
theorem fb_for {υ : Type} {tg iter : Expr} {body : List Stmt} {mi : M (List PyData)} {u : PyData → M υ} {st : υ → List Sl → List Sl} {vs : List Nat} {g : TG} {e0 : τ' → List Sl} {mb : υ → τ' → M (Fl τ' τ')} {k : τ' → M (Fl τ β)} (t0 : τ')
    (hp : PassesOwn (model X.prog X.w) X.A X.env X.xe) (hc : X.calm = true) (hi : FI X C ρ tg iter mi) (hg : FG X tg u st vs g) (w0 : Wk ρ (e0 t0)) (hb : ∀ x t, FB X C (st x (e0 t)) e0 e0 rk body (mb x t)) (hk : ∀ t, FB X C (e0 t) emb embL rk rest (k t))
    (hs : ∀ x, foldedSetIterable iter X.env x = pure x := by intro _; rfl) :
    FB X C ρ emb embL rk (.For tg iter body [] pos :: rest) (do let ds ← mi; let r ← pFor u mb ds t0; contL r k) := by
  have hR : PSs X rest (fun D σ H => ∃ t, tBl X.K X.mg C (e0 t) emb embL rk (k t) D σ H) := ⟨fun pins s' σ H D I ⟨t, w⟩ => (hk t).ps.run pins s' σ H D I w⟩
  have hB : PSs X body (fun D σ H => ∃ x t, tBl X.K X.mg C (st x (e0 t)) e0 e0 rk (mb x t) D σ H) := ⟨fun pins s' σ H D I ⟨x, t, w⟩ => (hb x t).ps.run pins s' σ H D I w⟩
  refine ⟨imSs (pss_cons (ps_for hp hc hi.pi hg.pg hB hs) hR) fun D σ H h => ?_⟩
  obtain ⟨F, cs, e, q, h⟩ := h
  refine ⟨F, cs, e, q, (h.bind e.g0).mono fun ds cs1 F1 H1 g1 q1 h1 J hJ hz => ?_⟩
  refine ⟨fun i m σ Hc => m = ds.length - i ∧ i ≤ ds.length ∧ ∃ F' cs' t, Le F1 F' ∧ EnvOk X.K X.mg C F' Hc σ (e0 t) ∧ CupOk X.K C F' Hc cs' ∧ ResB X.K X.mg C F' ((do let r ← pFor u mb (ds.drop i) t; contL r k : M (Fl τ β)) cs') (kB X.K X.mg C emb embL rk D),
    ⟨ds.length, by simp, Nat.zero_le _, F1, cs1, t0, Le.refl _, (e.grow g1).wk w0, q1, h1⟩, ?_⟩
  rintro i m σ Hc ⟨rfl, hi', F', cs', t, le, ec, qc, hr⟩
  by_cases hlt : i < ds.length
  · have ed : ds[i]? = some ds[i] := List.getElem?_eq_getElem hlt
    obtain ⟨go, yl⟩ := (hJ i F' Hc le ec.sub).2 _ ed
    refine .inr ⟨go, fun σ' H' => ∃ F' cs' t, Le F1 F' ∧ EnvOk X.K X.mg C F' H' σ' (e0 t) ∧ CupOk X.K C F' H' cs' ∧ ResB X.K X.mg C F' ((do let r ← pFor u mb (ds.drop (i + 1)) t; contL r k : M (Fl τ β)) cs') (kB X.K X.mg C emb embL rk D),
      fun σ' H' w => ⟨ds.length - (i + 1), by omega, rfl, by omega, w⟩, fun x Hy y => ?_⟩
    obtain ⟨F2, g2, rx⟩ := yl x Hy y
    have q2 : CupOk X.K C F2 Hy cs' := qc.it g2
    have e2 := ec.grow (g2 C.c)
    rw [List.drop_eq_getElem_cons hlt] at hr
    unfold pFor at hr
    rw [bind_assoc] at hr
    have le2 : Le F1 F2 := le.trans (g2 C.c).le
    refine hg.ok X.mg C F2 Hy σ (e0 t) x ds[i] cs' _ e2 q2 rx (((hr.le (g2 C.c).le).bind e2.g0).mono fun xv cs3 F3 H3 g3 q3 h3 σ' e3 _ => ?_)
    rw [bind_assoc] at h3
    refine ⟨xv, t, F3, cs3, e3, q3, h3.split.mono fun fl cs4 F4 H4 l4 g4 q4 h4 => ?_⟩
    have le4 : Le F1 F4 := le2.trans (g3.le.trans l4)
    cases fl with
    | nx t' => exact fun σ4 e4 => ⟨F4, cs4, t', le4, e4, q4, h4⟩
    | ct t' => exact fun σ4 e4 => ⟨F4, cs4, t', le4, e4, q4, h4⟩
    | bk t' => exact fun σ4 e4 => ⟨t', F4, cs4, e4, q4, h4⟩
    | rt d => exact ResB.pure (mg := X.mg) h4 g4 q4
  · have hi2 : i = ds.length := by omega
    subst hi2
    refine .inl ⟨(hJ _ F' Hc le ec.sub).1 (Nat.le_refl _), ?_⟩
    rw [List.drop_length] at hr
    unfold pFor at hr
    rw [pure_bind] at hr
    exact ⟨t, F', cs', ec, qc, hr⟩
end
end DL
end
section
set_option Elab.async false
set_option linter.all false
set_option maxRecDepth 100000
set_option maxHeartbeats 4000000
set_option autoImplicit false
namespace DL
open PySem PySem.Spec PyProof.Rows L2

/-! ### while -/
def whileF {τ : Type} (c : τ → M Bool) (b : τ → M (Fl τ τ)) : Nat → τ → M (τ ⊕ PyData)
  | 0, _ => stuck
  | n + 1, t => do
    let z ← c t
    if z = true then (do
      match ← b t with
      | .nx t' => whileF c b n t'
      | .ct t' => whileF c b n t'
      | .bk t' => pure (.inl t')
      | .rt v => pure (.inr v))
    else pure (.inl t)
def isStuck {α : Type} : Except Er α → Prop
  | .error .stuck => True
  | _ => False
open Classical in
noncomputable def pWhile {τ : Type} (c : τ → M Bool) (b : τ → M (Fl τ τ)) (t : τ) : M (τ ⊕ PyData) := fun cs =>
  if h : ∃ n, ¬ isStuck (whileF c b n t cs) then whileF c b h.choose t cs else .error .stuck
/-- m is less defined than m' -/
def LeM {α : Type} (m m' : M α) : Prop := ∀ cs, ¬ isStuck (m cs) → m' cs = m cs
theorem LeM.refl {α : Type} (m : M α) : LeM m m := fun _ _ => rfl
theorem LeM.stuck {α : Type} (m : M α) : LeM DL.stuck m := fun _ h => absurd trivial h
theorem LeM.bind {α β : Type} {m m' : M α} {f f' : α → M β} (h : LeM m m') (g : ∀ x, LeM (f x) (f' x)) : LeM (m >>= f) (m' >>= f') := fun cs n => by
  rw [M.bind_run] at n ⊢
  rw [M.bind_run]
  have hm : ¬ isStuck (m cs) := fun z => n (by
    match e : m cs, z with
    | .error .stuck, _ => trivial)
  rw [h cs hm]
  match e : m cs, n with
  | .ok (x, cs1), n => exact g x cs1 n
  | .error er, n => rfl
theorem whileF_succ {τ : Type} (c : τ → M Bool) (b : τ → M (Fl τ τ)) : ∀ n t, LeM (whileF c b n t) (whileF c b (n + 1) t)
  | 0, t => LeM.stuck _
  | n + 1, t => by
    unfold whileF
    refine (LeM.refl _).bind fun z => ?_
    split
    · refine (LeM.refl _).bind fun fl => ?_
      cases fl with
      | nx t' => exact whileF_succ c b n t'
      | ct t' => exact whileF_succ c b n t'
      | bk t' => exact LeM.refl _
      | rt v => exact LeM.refl _
    · exact LeM.refl _
theorem LeM.trans {α : Type} {a b c : M α} (h : LeM a b) (g : LeM b c) : LeM a c := fun cs n => by
  have e := h cs n
  rw [g cs (by rw [e]; exact n), e]
theorem whileF_le {τ : Type} (c : τ → M Bool) (b : τ → M (Fl τ τ)) (t : τ) (n : Nat) : ∀ k, LeM (whileF c b n t) (whileF c b (n + k) t)
  | 0 => LeM.refl _
  | k + 1 => (whileF_le c b t n k).trans (whileF_succ c b (n + k) t)
theorem pWhile_of {τ : Type} {c : τ → M Bool} {b : τ → M (Fl τ τ)} {n : Nat} {t : τ} {cs : List PyData} (h : ¬ isStuck (whileF c b n t cs)) : pWhile c b t cs = whileF c b n t cs := by
  have ex : ∃ n, ¬ isStuck (whileF c b n t cs) := ⟨n, h⟩
  have e : pWhile c b t cs = whileF c b ex.choose t cs := by unfold pWhile; rw [dif_pos ex]
  rw [e]
  have h2 := ex.choose_spec
  rcases Nat.le_total n ex.choose with l | l
  · obtain ⟨k, hk⟩ := Nat.exists_eq_add_of_le l
    rw [hk]
    exact whileF_le c b t n k cs h
  · obtain ⟨k, hk⟩ := Nat.exists_eq_add_of_le l
    have z := whileF_le c b t ex.choose k cs h2
    rw [← hk] at z
    exact z.symm
theorem pWhile_some {τ : Type} {c : τ → M Bool} {b : τ → M (Fl τ τ)} {t : τ} {cs : List PyData} (h : ¬ isStuck (pWhile c b t cs)) : ∃ n, pWhile c b t cs = whileF c b n t cs := by
  unfold pWhile at h ⊢
  split
  · exact ⟨_, rfl⟩
  · rename_i hn
    rw [dif_neg hn] at h
    exact absurd trivial h
/-- one turn more -/
theorem pWhile_eq {τ : Type} (c : τ → M Bool) (b : τ → M (Fl τ τ)) (t : τ) : pWhile c b t = (do
    let z ← c t
    if z = true then (do
      match ← b t with
      | .nx t' => pWhile c b t'
      | .ct t' => pWhile c b t'
      | .bk t' => pure (.inl t')
      | .rt v => pure (.inr v))
    else pure (.inl t)) := by
  have up : ∀ n t, LeM (whileF c b n t) (pWhile c b t) := fun n t cs h => pWhile_of h
  funext cs
  by_cases h : isStuck (pWhile c b t cs)
  · by_cases h2 : isStuck ((do
      let z ← c t
      if z = true then (do
        match ← b t with
        | .nx t' => pWhile c b t'
        | .ct t' => pWhile c b t'
        | .bk t' => pure (.inl t')
        | .rt v => pure (.inr v))
      else pure (.inl t) : M (τ ⊕ PyData)) cs)
    · have s : ∀ {α : Type} {r : Except Er α}, isStuck r → r = .error .stuck := fun {α r} z => by
        match r, z with
        | .error .stuck, _ => rfl
      rw [s h, s h2]
    · exfalso
      -- the right side is reached by some whileF
      rw [M.bind_run] at h2
      match e1 : c t cs, h2 with
      | .error er, h2 =>
        have z : whileF c b 1 t cs = .error er := by unfold whileF; rw [M.bind_run, e1]
        have n1 : ¬ isStuck (whileF c b 1 t cs) := by rw [z]; exact h2
        rw [pWhile_of n1] at h
        exact n1 h
      | .ok (false, cs1), h2 =>
        have z : whileF c b 1 t cs = .ok (.inl t, cs1) := by unfold whileF; rw [M.bind_run, e1]; rfl
        have n1 : ¬ isStuck (whileF c b 1 t cs) := by rw [z]; exact fun q => q
        rw [pWhile_of n1] at h
        exact n1 h
      | .ok (true, cs1), h2 =>
        have h2 : ¬ isStuck ((b t >>= fun fl => (match fl with
          | .nx t' => pWhile c b t'
          | .ct t' => pWhile c b t'
          | .bk t' => pure (.inl t')
          | .rt v => pure (.inr v) : M (τ ⊕ PyData))) cs1) := h2
        have key : ∀ n, whileF c b (n + 1) t cs = (b t >>= fun fl => (match fl with
          | .nx t' => whileF c b n t'
          | .ct t' => whileF c b n t'
          | .bk t' => pure (.inl t')
          | .rt v => pure (.inr v) : M (τ ⊕ PyData))) cs1 := fun n => by
          conv => lhs; unfold whileF
          rw [M.bind_run, e1]
          rfl
        have done : ∀ n, ¬ isStuck (whileF c b n t cs) → False := fun n q => by rw [pWhile_of q] at h; exact q h
        rw [M.bind_run] at h2
        match e2 : b t cs1, h2 with
        | .error er, h2 => exact done 1 (by rw [key 0, M.bind_run, e2]; exact h2)
        | .ok (.nx t', cs2), h2 =>
          obtain ⟨n, hn⟩ := pWhile_some (c := c) (b := b) (t := t') (cs := cs2) h2
          exact done (n + 1) (by rw [key n, M.bind_run, e2]; show ¬ isStuck (whileF c b n t' cs2); rw [← hn]; exact h2)
        | .ok (.ct t', cs2), h2 =>
          obtain ⟨n, hn⟩ := pWhile_some (c := c) (b := b) (t := t') (cs := cs2) h2
          exact done (n + 1) (by rw [key n, M.bind_run, e2]; show ¬ isStuck (whileF c b n t' cs2); rw [← hn]; exact h2)
        | .ok (.bk t', cs2), h2 => exact done 1 (by rw [key 0, M.bind_run, e2]; exact h2)
        | .ok (.rt v, cs2), h2 => exact done 1 (by rw [key 0, M.bind_run, e2]; exact h2)
  · obtain ⟨n, hn⟩ := pWhile_some h
    rw [hn] at h
    rw [hn]
    cases n with
    | zero => exact absurd trivial h
    | succ n =>
      have le : LeM (whileF c b (n + 1) t) (do
        let z ← c t
        if z = true then (do
          match ← b t with
          | .nx t' => pWhile c b t'
          | .ct t' => pWhile c b t'
          | .bk t' => pure (.inl t')
          | .rt v => pure (.inr v))
        else pure (.inl t)) := by
        conv => lhs; unfold whileF
        refine (LeM.refl _).bind fun z => ?_
        split
        · refine (LeM.refl _).bind fun fl => ?_
          cases fl with
          | nx t' => exact up n t'
          | ct t' => exact up n t'
          | bk t' => exact LeM.refl _
          | rt v => exact LeM.refl _
        · exact LeM.refl _
      exact (le cs h).symm
section
variable {X : Cx} {C : Ct} {ρ : List Sl} {τ τ' β : Type} {emb : τ → List Sl} {emb' : τ' → List Sl} {embL : β → List Sl} {rk : Bool} {rest : List Stmt} {s : Stmt} {e c : Expr} {m : M PyData} {pos p' : Pos} {x : Str}
theorem fb_while {body : List Stmt} {e0 : τ' → List Sl} {mc : τ' → M Bool} {mb : τ' → M (Fl τ' τ')} {k : τ' → M (Fl τ β)} (t0 : τ')
    (hp : PassesOwn (model X.prog X.w) X.A X.env X.xe) (w0 : Wk ρ (e0 t0)) (hc : ∀ t, FT X C (e0 t) c (mc t)) (hb : ∀ t, FB X C (e0 t) e0 e0 rk body (mb t)) (hk : ∀ t, FB X C (e0 t) emb embL rk rest (k t)) :
    FB X C ρ emb embL rk (.While c body [] pos :: rest) (do let r ← pWhile mc mb t0; contL r k) := by
  have hR : PSs X rest (fun D σ H => ∃ t, tBl X.K X.mg C (e0 t) emb embL rk (k t) D σ H) := ⟨fun pins s' σ H D I ⟨t, w⟩ => (hk t).ps.run pins s' σ H D I w⟩
  have hB : PSs X body (fun D σ H => ∃ t, tBl X.K X.mg C (e0 t) e0 e0 rk (mb t) D σ H) := ⟨fun pins s' σ H D I ⟨t, w⟩ => (hb t).ps.run pins s' σ H D I w⟩
  have hC : PT X c (fun σ H Q => ∃ t, tTm X.K X.mg C (e0 t) (mc t) σ H Q) := ⟨fun pins s' σ H Q I ⟨t, w⟩ => (hc t).pt.run pins s' σ H Q I w⟩
  refine ⟨imSs (pss_cons (ps_while hp hC hB) hR) fun D σ H h => ?_⟩
  obtain ⟨F, cs, e, q, h⟩ := h
  have ns : ¬ isStuck (pWhile mc mb t0 cs) := fun z => by
    rw [M.bind_run] at h
    match e1 : pWhile mc mb t0 cs, z, h with
    | .error .stuck, _, h => exact h.elim
  obtain ⟨n, hn⟩ := pWhile_some ns
  have h0 : ResB X.K X.mg C F ((do let r ← whileF mc mb n t0; contL r k : M (Fl τ β)) cs) (kB X.K X.mg C emb embL rk D) := by
    rw [M.bind_run] at h ⊢
    rw [hn] at h
    exact h
  refine ⟨fun n σ H => ∃ F cs t, EnvOk X.K X.mg C F H σ (e0 t) ∧ CupOk X.K C F H cs ∧ ResB X.K X.mg C F ((do let r ← whileF mc mb n t; contL r k : M (Fl τ β)) cs) (kB X.K X.mg C emb embL rk D),
    ⟨n, F, cs, t0, e.wk w0, q, h0⟩, ?_⟩
  rintro n σ H ⟨F, cs, t, e, q, h⟩
  cases n with
  | zero =>
    have z : ((do let r ← whileF mc mb 0 t; contL r k : M (Fl τ β)) cs) = .error .stuck := by
      show ((stuck : M (τ' ⊕ PyData)) >>= fun r => contL r k) cs = _
      rw [stuck_bind]; rfl
    rw [z] at h
    exact h.elim
  | succ n =>
    unfold whileF at h
    rw [bind_assoc] at h
    refine ⟨t, F, cs, e, q, (h.bind e.g0).mono fun b cs1 F1 H1 g1 q1 h1 => ?_⟩
    have e1 := e.grow g1
    cases b with
    | false =>
      unfold kT
      dsimp only
      rw [if_neg Bool.false_ne_true]
      exact ⟨t, F1, cs1, e1, q1, h1⟩
    | true =>
      unfold kT
      dsimp only
      rw [if_pos rfl]
      have h1 : ResB X.K X.mg C F1 (((mb t >>= fun fl => (match fl with
        | .nx t' => whileF mc mb n t'
        | .ct t' => whileF mc mb n t'
        | .bk t' => pure (.inl t')
        | .rt v => pure (.inr v) : M (τ' ⊕ PyData))) >>= fun r => contL r k) cs1) (kB X.K X.mg C emb embL rk D) := h1
      rw [bind_assoc] at h1
      refine ⟨fun σ' H' => ∃ F cs t, EnvOk X.K X.mg C F H' σ' (e0 t) ∧ CupOk X.K C F H' cs ∧ ResB X.K X.mg C F ((do let r ← whileF mc mb n t; contL r k : M (Fl τ β)) cs) (kB X.K X.mg C emb embL rk D), fun σ' H' w => ⟨n, Nat.lt_succ_self n, w⟩, ?_⟩
      refine ⟨t, F1, cs1, e1, q1, h1.split.mono fun fl cs2 F2 H2 l2 g2 q2 h2 => ?_⟩
      cases fl with
      | nx t' => exact fun σ4 e4 => ⟨F2, cs2, t', e4, q2, h2⟩
      | ct t' => exact fun σ4 e4 => ⟨F2, cs2, t', e4, q2, h2⟩
      | bk t' => exact fun σ4 e4 => ⟨t', F2, cs2, e4, q2, h2⟩
      | rt d => exact ResB.pure (mg := X.mg) h2 g2 q2
end
end DL
end
section
set_option Elab.async false
set_option linter.all false
set_option maxRecDepth 100000
set_option maxHeartbeats 4000000
set_option autoImplicit false
namespace DL
open PySem PySem.Spec PyProof.Rows L2

section
variable {X : Cx} {C : Ct} {ρ : List Sl} {τ τ' β : Type} {emb : τ → List Sl} {emb' : τ' → List Sl} {embL : β → List Sl} {rk : Bool} {rest : List Stmt} {s : Stmt} {e c : Expr} {m : M PyData} {pos p' p2 apos : Pos} {x y : Str}
/-! ### an own list is changed -/
theorem EnvOk.write {K : PySem.W.Frag} {mg : Str → Option Value} {F H : Hp} {σ : St} (e : EnvOk K mg C F H σ ρ) (i : Nat) {xs ys : List PyData} {a : Addr} {us : List V} (hρ : ρ[i]? = some (.own xs)) (e1 : σ[i]? = some (some (.ref a))) (nF : F a = none) (nc : C.c ≠ some a) (nE : C.E a = none) (r : Rps K F us ys) :
    EnvOk K mg C F (L2.upd H a (.lst us)) σ (ρ.set i (.own ys)) := by
  have nn : ∀ j b, j ≠ i → OwnAt ρ σ j b → b ≠ a := fun j b hj o z => hj (e.sep j i a (z ▸ o) ⟨_, hρ, rfl, e1⟩)
  have hi := (List.getElem?_eq_some_iff.mp hρ).1
  refine ⟨by rw [List.length_set]; exact e.len, e.g0.updFresh nE nF, fun j s ej => ?_, fun j k b h1 h2 => ?_⟩
  · by_cases hj : i = j
    · subst hj
      rw [List.getElem?_set_self hi] at ej
      cases ej
      exact ⟨a, us, e1, upd_same, nF, nc, nE, r⟩
    · rw [List.getElem?_set_ne hj] at ej
      have sj := e.sl j s ej
      have own : ∀ b, isOwn s = true → σ[j]? = some (some (.ref b)) → b ≠ a := fun b o ob => nn j b (fun z => hj z.symm) ⟨s, ej, o, ob⟩
      cases s with
      | un => trivial
      | d y => exact sj
      | own ys => obtain ⟨b, ws, z, z1, z2⟩ := sj; exact ⟨b, ws, z, by rw [upd_ne (own b rfl z)]; exact z1, z2⟩
      | odK ys => obtain ⟨b, ws, z, z1, z2⟩ := sj; exact ⟨b, ws, z, by rw [upd_ne (own b rfl z)]; exact z1, z2⟩
      | odT ys => obtain ⟨b, ws, z, z1, z2⟩ := sj; exact ⟨b, ws, z, by rw [upd_ne (own b rfl z)]; exact z1, z2⟩
      | cup => exact sj
      | fn y => exact sj
  · have key : ∀ j, OwnAt (ρ.set i (.own ys)) σ j b → OwnAt ρ σ j b := by
      rintro j ⟨s, z1, z2, z3⟩
      by_cases hj : i = j
      · subst hj
        exact ⟨_, hρ, rfl, z3⟩
      · rw [List.getElem?_set_ne hj] at z1
        exact ⟨s, z1, z2, z3⟩
    exact e.sep j k b (key j h1) (key k h2)
theorem fb_chk {p : Prop} [Decidable p] {sts : List Stmt} {mr : M (Fl τ β)} (h : FB X C ρ emb embL rk sts mr) : FB X C ρ emb embL rk sts (do chk p; mr) := by
  refine ⟨imSs h.ps fun D σ H ⟨F, cs, e, q, w⟩ => ⟨F, cs, e, q, ?_⟩⟩
  by_cases hp : p
  · rw [chk_true hp, pure_bind] at w
    exact w
  · have ez : chk p = stuck := if_neg hp
    rw [ez, stuck_bind] at w
    exact w.elim
/-- x.append(e) -/
theorem fb_append (i : Nat) {xs : List PyData} {k : PyData → M (Fl τ β)} (he : FE X C ρ e m) (hk : ∀ d, FB X C (ρ.set i (.own (xs ++ [d]))) emb embL rk rest (k d)) (hρ : ρ[i]? = some (.own xs) := by rfl) (hN : X.N[i]? = some x := by rfl)
    (hv : Vis X.env.scope x := by first | exact Or.inl rfl | exact Or.inr (Or.inl rfl) | exact Or.inr (Or.inr rfl)) (hd : (x == ("__debug__" : Str)) = false := by decide) (hcd : (x == ("__classdict__" : Str)) = false := by decide)
    (hbase : attributeBase (.Name x p2) "append" X.env (eval (.Name x p2) X.env) = eval (.Name x p2) X.env := by rfl)
    (hfew : ((backTo p' (starEach [e] X.env)).all (fun x => !x.1) && (backToKw p' (keywordEach [] X.env)).all (fun x => x.1.isSome)
      && decide ([e].length + ([] : List Keyword).length + (if ([] : List Keyword).isEmpty then 0 else 1) < 30)) = true := by rfl)
    (hline : (apos.endLine == p'.line) = true := by rfl) (hs : starEach [e] X.env = (false, eval e X.env) :: starEach [] X.env := by rfl) (hplain : (backTo p' (starEach [] X.env)).any (·.1) = false := by rfl)
    (hsw : swapsWith (.Call (.Attribute (.Name x p2) "append" apos) [e] [] p') none pos.line X.env = pure false := by rfl) :
    FB X C ρ emb embL rk (.Expr (.Call (.Attribute (.Name x p2) "append" apos) [e] [] p') pos :: rest) (do let d ← m; chk (xs.length < sizeLine); k d) := by
  have pa : PA X [e] (tCons (tM X.K X.mg C ρ m) tNil) := pa_cons he.pe pa_nil hs
  refine fb_step (ps_expr (pe_bm PySem.F.plainAttrs_list PySem.F.slot_list_append PySem.F.type_list_append mt_append (pe_var hN hv hd hcd) pa hbase hfew hline hs hplain) hsw) fun D σ H h => ?_
  obtain ⟨F, cs, e, q, h⟩ := h
  obtain ⟨a, vs, e1, e2, e3, e4, e5, r⟩ := e.sl i _ hρ
  refine ⟨.ref a, e1, .inl ⟨rfl, vs, .inl (.inl e2)⟩, F, cs, e, q, (h.bind e.g0).mono fun d cs1 F1 H1 g1 q1 h1 v rv => ?_⟩
  have eg := e.grow g1
  obtain ⟨a', vs', z1, z2, z3, z4, z5, r'⟩ := eg.sl i _ hρ
  rw [e1] at z1; cases z1
  have hc : xs.length < sizeLine ∧ ResB X.K X.mg C F1 (k d cs1) (kB X.K X.mg C emb embL rk D) := by
    by_cases hp : xs.length < sizeLine
    · refine ⟨hp, ?_⟩
      rw [chk_true hp, pure_bind] at h1
      exact h1
    · have ez : chk (xs.length < sizeLine) = stuck := if_neg hp
      rw [ez, stuck_bind] at h1
      exact h1.elim
  refine ⟨a, vs', v, rfl, rfl, z2, by rw [r'.length]; exact hc.1, ?_⟩
  exact ⟨d, ρ.set i (.own (xs ++ [d])), (fb_chk (hk d)).ps, F1, cs1, eg.write i hρ e1 z3 z4 z5 (r'.append (.one rv)), q1.upd z4, h1⟩
/-- y = x.pop() -/
theorem fb_pop {py : Pos} (i j : Nat) {xs : List PyData} {k : PyData → M (Fl τ β)} (hij : i ≠ j) (hNd : X.N.Nodup) (hk : ∀ d, FB X C ((ρ.set i (.own xs.dropLast)).set j (.d d)) emb embL rk rest (k d)) (hρ : ρ[i]? = some (.own xs) := by rfl) (hN : X.N[i]? = some x := by rfl) (hNj : X.N[j]? = some y := by rfl)
    (hv : Vis X.env.scope x := by first | exact Or.inl rfl | exact Or.inr (Or.inl rfl) | exact Or.inr (Or.inr rfl)) (hd : (x == ("__debug__" : Str)) = false := by decide) (hcd : (x == ("__classdict__" : Str)) = false := by decide)
    (hy : Loc X.env.scope y := by first | exact Or.inl rfl | exact Or.inr rfl) (hf : X.fn y = true ∨ X.env.scope.names.lookup y = some .local := by first | exact Or.inl rfl | exact Or.inr rfl)
    (hbase : attributeBase (.Name x p2) "pop" X.env (eval (.Name x p2) X.env) = eval (.Name x p2) X.env := by rfl) (hline : (apos.endLine == p'.line) = true := by rfl)
    (hsw : swapsWith (.Call (.Attribute (.Name x p2) "pop" apos) [] [] p') (some (.Name y py)) pos.line X.env = pure false := by rfl) :
    FB X C ρ emb embL rk (.Assign [.Name y py] (.Call (.Attribute (.Name x p2) "pop" apos) [] [] p') pos :: rest) (do let d ← optM xs.getLast?; k d) := by
  refine fb_step (ps_set hNd hNj hy (pe_bm0 PySem.F.plainAttrs_list PySem.F.slot_list_pop PySem.F.type_list_pop (fun pins s σ H x xs v us Q I rx rxs h => mt_pop pins s σ H x xs v us Q I rx rxs h) (pe_var hN hv hd hcd) hbase hline) hsw hf) fun D σ H h => ?_
  obtain ⟨F, cs, e, q, h⟩ := h
  obtain ⟨a, vs, e1, e2, e3, e4, e5, r⟩ := e.sl i _ hρ
  cases hx : xs.getLast? with
  | none => rw [hx] at h; exact h.elim
  | some d =>
    rw [hx] at h
    have hl := r.length
    rw [List.getLast?_eq_getElem?] at hx
    obtain ⟨v, hv2, rv⟩ := r.get hx
    refine ⟨.ref a, e1, .inl ⟨rfl, vs, .inl (.inl e2)⟩, a, vs, v, rfl, rfl, e2, by rw [hl]; exact hv2, ?_⟩
    exact ⟨d, (ρ.set i (.own xs.dropLast)).set j (.d d), (hk d).ps, F, cs, (e.write i hρ e1 e3 e4 e5 r.dropLast).setD j rv, q.upd e4, h⟩
end
end DL
end
section
set_option Elab.async false
set_option linter.all false
set_option maxRecDepth 100000
set_option maxHeartbeats 4000000
set_option autoImplicit false
namespace DL
open PySem PySem.Spec PyProof.Rows L2

/-! ### a value that goes into a slot: frozen data or an object of one's own -/
section
variable (K : PySem.W.Frag) (mg : Str → Option Value) (C : Ct)
def SlNew (H F' H' : Hp) (s : Sl) (v : V) : Prop := SlOk K mg C F' H' s (some (some v)) ∧ (isOwn s = true → ∃ p, v = .ref p ∧ H p = none ∧ H' p ≠ none)
def tV {α : Type} (ρ : List Sl) (sl : α → Sl) (m : M α) : TE := fun σ H Q => ∃ F cs, EnvOk K mg C F H σ ρ ∧ CupOk K C F H cs ∧ Res K mg C F H (m cs) fun a _ F' H' => ∀ v, SlNew K mg C H F' H' (sl a) v → Q v H'
end
structure FV (X : Cx) (C : Ct) {α : Type} (ρ : List Sl) (e : Expr) (sl : α → Sl) (m : M α) : Prop where
  pe : PE X e (tV X.K X.mg C ρ sl m)
section
variable {K : PySem.W.Frag} {mg : Str → Option Value} {C : Ct} {F H F' H' F'' H'' : Hp} {σ : St} {ρ : List Sl}
theorem EnvOk.setNew (e : EnvOk K mg C F H σ ρ) (g : Grow C.c F H F' H') (i : Nat) {s : Sl} {v : V} (n : SlNew K mg C H F' H' s v) : EnvOk K mg C F' H' (σ.set i (some v)) (ρ.set i s) := by
  refine (e.grow g).setAny i s (some v) n.1 fun o a ea j oj => ?_
  obtain ⟨p, ep, np, _⟩ := n.2 o
  cases ep; cases ea
  exact absurd np (e.owned oj)
theorem SlNew.grow {s : Sl} {v : V} (n : SlNew K mg C H F' H' s v) (g : Grow C.c F' H' F'' H'') : SlNew K mg C H F'' H'' s v :=
  ⟨n.1.grow g, fun o => let ⟨p, e, h, h'⟩ := n.2 o; ⟨p, e, h, g.ex p h'⟩⟩
end
section
variable {X : Cx} {C : Ct} {ρ : List Sl} {τ τ' β α : Type} {emb : τ → List Sl} {emb' : τ' → List Sl} {embL : β → List Sl} {rk : Bool} {rest : List Stmt} {s : Stmt} {a b e c : Expr} {m ma mb : M PyData} {pos p' p2 apos : Pos} {x y z : Str}
theorem fv_d (h : FE X C ρ e m) : FV X C ρ e Sl.d m := by
  refine ⟨imE h.pe fun σ H Q ⟨F, cs, e, q, h⟩ => ⟨F, cs, e, q, h.mono fun d cs1 F1 H1 g1 q1 h1 v rv => h1 v ⟨⟨v, rfl, rv⟩, fun o => nomatch o⟩⟩⟩
theorem fv_o {mo : M (List PyData)} (h : FO X C ρ e mo) : FV X C ρ e Sl.own mo := by
  refine ⟨imE h.pe fun σ H Q ⟨F, cs, e, q, h⟩ => ⟨F, cs, e, q, h.mono fun d cs1 F1 H1 g1 q1 h1 a vs n e1 e2 e3 r => h1 (.ref a) ⟨⟨a, vs, rfl, e1, e2, e3, ?_, r⟩, fun _ => ⟨a, rfl, n, by rw [e1]; simp⟩⟩⟩⟩
  cases q : C.E a with
  | none => rfl
  | some o => exact absurd n (e.ent a (by rw [q]; simp))
theorem fb_setV (i : Nat) {sl : α → Sl} {mv : M α} {k : α → M (Fl τ β)} (hN : X.N.Nodup) (he : FV X C ρ e sl mv) (hk : ∀ a, FB X C (ρ.set i (sl a)) emb embL rk rest (k a)) (hi : X.N[i]? = some x := by rfl) (hx : Loc X.env.scope x := by first | exact Or.inl rfl | exact Or.inr rfl)
    (hs : swapsWith e (some (.Name x p')) pos.line X.env = pure false := by rfl) (hf : X.fn x = true ∨ X.env.scope.names.lookup x = some .local := by first | exact Or.inl rfl | exact Or.inr rfl) :
    FB X C ρ emb embL rk (.Assign [.Name x p'] e pos :: rest) (do let a ← mv; k a) := by
  refine fb_step (ps_set hN hi hx he.pe hs hf) fun D σ H h => ?_
  obtain ⟨F, cs, e, q, h⟩ := h
  exact ⟨F, cs, e, q, (h.bind e.g0).mono fun a cs1 F1 H1 g1 q1 h1 v n => ⟨a, _, (hk a).ps, F1, cs1, e.setNew g1 i n, q1, h1⟩⟩
theorem wk_set_of_ne {α : Type} (l : List α) {i j : Nat} (h : i ≠ j) (a b : α) : (l.set i a).set j b = (l.set j b).set i a := List.set_comm _ _ h
/-- the two values of a pair, one behind the other -/
theorem two_vals {K : PySem.W.Frag} {mg : Str → Option Value} {F H F1 H1 F2 H2 : Hp} {σ : St} (i j : Nat) (hij : i ≠ j) {s t : Sl} {v w : V} (e : EnvOk K mg C F H σ ρ) (g1 : Grow C.c F H F1 H1) (n1 : SlNew K mg C H F1 H1 s v) (g2 : Grow C.c F1 H1 F2 H2) (n2 : SlNew K mg C H1 F2 H2 t w) :
    EnvOk K mg C F2 H2 ((σ.set i (some v)).set j (some w)) ((ρ.set i s).set j t) := (e.setNew g1 i n1).setNew g2 j n2
theorem fb_par {px py pt : Pos} {kt k2 : Nat} {pt2 : Pos} (i j : Nat) {α' : Type} {sa : α → Sl} {sb : α' → Sl} {va : M α} {vb : M α'} {k : α → α' → M (Fl τ β)} (hc : X.calm = true) (hN : X.N.Nodup) (hij : i ≠ j) (ha : FV X C ρ a sa va) (hb : FV X C ρ b sb vb)
    (hk : ∀ p q, FB X C ((ρ.set i (sa p)).set j (sb q)) emb embL rk rest (k p q)) (hi : X.N[i]? = some x := by rfl) (hj : X.N[j]? = some y := by rfl)
    (hx : X.env.scope.names.lookup x = some .local := by rfl) (hy : X.env.scope.names.lookup y = some .local := by rfl)
    (hw : swappedStores [.Tuple [.Name x px, .Name y py] kt pt] (.Tuple [a, b] k2 pt2) X.env = pure (some [x, y]) := by rfl)
    (hs : swapsWithSole [.Tuple [.Name x px, .Name y py] kt pt] (.Tuple [a, b] k2 pt2) pos.line X.env = pure false := by rfl)
    (hs1 : starEach [a, b] X.env = (false, eval a X.env) :: starEach [b] X.env := by rfl) (hs2 : starEach [b] X.env = (false, eval b X.env) :: starEach [] X.env := by rfl) :
    FB X C ρ emb embL rk (.Assign [.Tuple [.Name x px, .Name y py] kt pt] (.Tuple [a, b] k2 pt2) pos :: rest) (do let p ← va; let q ← vb; k p q) := by
  have pa : PA X [a, b] (tCons (tV X.K X.mg C ρ sa va) (tCons (tV X.K X.mg C ρ sb vb) tNil)) := pa_cons ha.pe (pa_cons hb.pe pa_nil hs2) hs1
  have e2 : (do let p ← va; let q ← vb; k p q) = (do let pq ← (do let p ← va; let q ← vb; pure (p, q)); k pq.1 pq.2) := by simp
  rw [e2]
  refine fb_step (ps_par hc hN hi hj hij hx hy pa hw hs) fun D σ H h => ?_
  rw [← e2] at h
  obtain ⟨F, cs, e, q, h⟩ := h
  refine ⟨F, cs, e, q, (h.bind e.g0).mono fun p cs1 F1 H1 g1 q1 h1 v nv => ?_⟩
  refine ⟨F1, cs1, e.grow g1, q1, (h1.bind (e.grow g1).g0).mono fun p2 cs2 F2 H2 g2 q2 h2 w nw => ⟨v, w, rfl, ?_⟩⟩
  exact ⟨(p, p2), _, (hk p p2).ps, F2, cs2, two_vals i j hij e g1 nv g2 nw, q2, h2⟩
/-- .. where a name is captured by a comprehension: the tuple is made and unpacked -/
theorem fb_tup {px py pt : Pos} {kt k2 : Nat} {pt2 : Pos} (i j : Nat) {α' : Type} {sa : α → Sl} {sb : α' → Sl} {va : M α} {vb : M α'} {k : α → α' → M (Fl τ β)} (hc : X.calm = true) (hN : X.N.Nodup) (hij : i ≠ j) (ha : FV X C ρ a sa va) (hb : FV X C ρ b sb vb)
    (hk : ∀ p q, FB X C ((ρ.set i (sa p)).set j (sb q)) emb embL rk rest (k p q)) (hi : X.N[i]? = some x := by rfl) (hj : X.N[j]? = some y := by rfl)
    (hx : Loc X.env.scope x := by first | exact Or.inl rfl | exact Or.inr rfl) (hy : Loc X.env.scope y := by first | exact Or.inl rfl | exact Or.inr rfl)
    (hfx : X.fn x = true ∨ X.env.scope.names.lookup x = some .local := by first | exact Or.inl rfl | exact Or.inr rfl) (hfy : X.fn y = true ∨ X.env.scope.names.lookup y = some .local := by first | exact Or.inl rfl | exact Or.inr rfl)
    (hs : swapsWithSole [.Tuple [.Name x px, .Name y py] kt pt] (.Tuple [a, b] k2 pt2) pos.line X.env = pure false := by rfl) (hw : swappedStores [.Tuple [.Name x px, .Name y py] kt pt] (.Tuple [a, b] k2 pt2) X.env = pure none := by rfl)
    (h1 : (assignEach [.Tuple [.Name x px, .Name y py] kt pt] X.env).map (·.2) = [assign (.Tuple [.Name x px, .Name y py] kt pt) X.env] := by rfl)
    (hs1 : starEach [a, b] X.env = (false, eval a X.env) :: starEach [b] X.env := by rfl) (hs2 : starEach [b] X.env = (false, eval b X.env) :: starEach [] X.env := by rfl) :
    FB X C ρ emb embL rk (.Assign [.Tuple [.Name x px, .Name y py] kt pt] (.Tuple [a, b] k2 pt2) pos :: rest) (do let p ← va; let q ← vb; k p q) := by
  have pa : PA X [a, b] (tCons (tV X.K X.mg C ρ sa va) (tCons (tV X.K X.mg C ρ sb vb) tNil)) := pa_cons ha.pe (pa_cons hb.pe pa_nil hs2) hs1
  have e2 : (do let p ← va; let q ← vb; k p q) = (do let pq ← (do let p ← va; let q ← vb; pure (p, q)); k pq.1 pq.2) := by simp
  rw [e2]
  refine fb_step (ps_asg (pe_tup pa) (pgt2 i j hc hN hi hj hx hy hfx hfy) hs hw h1) fun D σ H h => ?_
  rw [← e2] at h
  obtain ⟨F, cs, e, q, h⟩ := h
  refine ⟨F, cs, e, q, (h.bind e.g0).mono fun p cs1 F1 H1 g1 q1 h1 v nv => ?_⟩
  refine ⟨F1, cs1, e.grow g1, q1, (h1.bind (e.grow g1).g0).mono fun p2 cs2 F2 H2 g2 q2 h2 w nw => ⟨by show 2 ≤ sizeLine; decide, fun T nT => ?_⟩⟩
  have gT : Grow C.c F2 H2 F2 (upd H2 T (.tup [v, w])) := Grow.fresh g2.sub nT
  have nv' := nv.grow g2
  refine ⟨T, [v, w], rfl, .inl (.inl upd_same), rfl, v, [w], rfl, w, [], rfl, rfl, ?_⟩
  exact ⟨(p, p2), _, (hk p p2).ps, F2, cs2, ((two_vals i j hij e g1 nv g2 nw).grow gT), q2.upd (q2.ne nT), h2⟩

/-! ### reading what is one's own -/
def scal : PyData → Bool
  | .none | .bool _ | .int _ | .str _ => true
  | _ => false
def peekM (m : M PyData) : M PyData := fun cs => match m [] with
  | .ok (d, _) => if scal d = true then .ok (d, cs) else .error .stuck
  | .error _ => .error .stuck
def peekB (m : M Bool) : M Bool := fun cs => match m [] with
  | .ok (b, _) => .ok (b, cs)
  | .error _ => .error .stuck
@[simp] theorem peekM_int (i : Int) : peekM (pure (.int i)) = pure (.int i) := rfl
@[simp] theorem peekM_bool (b : Bool) : peekM (pure (.bool b)) = pure (.bool b) := rfl
@[simp] theorem peekM_str (x : Str) : peekM (pure (.str x)) = pure (.str x) := rfl
@[simp] theorem peekM_none : peekM (pure .none) = pure .none := rfl
@[simp] theorem peekB_pure (b : Bool) : peekB (pure b) = pure b := rfl
def peekR (ρ : List Sl) : List Sl := ρ.map fun s => match s with
  | .own xs => .d (.list xs)
  | .odK kvs => .d (.dict kvs)
  | .odT kvs => .d (.dict kvs)
  | .d x => .d x
  | .fn x => .fn x
  | _ => .un
theorem Rp.scal {K : PySem.W.Frag} {F F' : Hp} {v : V} {d : PyData} (r : Rp K F v d) (s : DL.scal d = true) : Rp K F' v d := by
  cases r with
  | non => exact .non
  | bl b => exact .bl b
  | int i => exact .int i
  | str z => exact .str z
  | lst _ _ => cases s
  | tup _ _ => cases s
  | dK _ _ => cases s
  | dT _ _ => cases s
open Classical in
/-- what is frozen, and what the slots own -/
noncomputable def peekF (F H : Hp) (σ : St) (ρ : List Sl) : Hp := fun a => match F a with
  | some o => some o
  | none => if ∃ i, OwnAt ρ σ i a then H a else none
abbrev Ct.pk (F0 E : Hp) : Ct := ⟨fun _ _ _ _ => False, [], none, E, F0⟩
theorem EnvOk.peek {K : PySem.W.Frag} {mg : Str → Option Value} {F H : Hp} {σ : St} (e : EnvOk K mg C F H σ ρ) : Le F (peekF F H σ ρ) ∧ EnvOk K mg (Ct.pk (peekF F H σ ρ) H) (peekF F H σ ρ) H σ (peekR ρ) := by
  have le : Le F (peekF F H σ ρ) := fun a o h => by unfold peekF; rw [h]
  have sub : Sub (peekF F H σ ρ) H := fun a o h => by
    unfold peekF at h
    cases q : F a with
    | some u => rw [q] at h; cases h; exact e.sub a _ q
    | none =>
      rw [q] at h
      dsimp only at h
      split at h
      · exact .inl h
      · cases h
  have at' : ∀ i a o, OwnAt ρ σ i a → F a = none → H a = some o → peekF F H σ ρ a = some o := fun i a o w n h => by
    unfold peekF
    rw [n]
    dsimp only
    rw [if_pos ⟨i, w⟩]
    exact h
  refine ⟨le, by unfold peekR; rw [List.length_map]; exact e.len, Grow.refl sub, fun i s h => ?_, fun i j a h1 h2 => ?_⟩
  · unfold peekR at h
    rw [List.getElem?_map] at h
    cases q : ρ[i]? with
    | none => rw [q] at h; cases h
    | some t =>
      rw [q] at h
      have h : _ = s := Option.some.inj h
      have st := e.sl i t q
      cases t with
      | un => subst h; trivial
      | d x => subst h; obtain ⟨v, z, r⟩ := st; exact ⟨v, z, r.mono le⟩
      | own xs =>
        subst h
        obtain ⟨a, vs, z, z1, z2, z3, z4, r⟩ := st
        exact ⟨_, z, .lst (.inl (at' i a _ ⟨_, q, rfl, z⟩ z2 z1)) (r.mono le)⟩
      | odK xs =>
        subst h
        obtain ⟨a, vs, z, z1, z2, z3, z4, r⟩ := st
        exact ⟨_, z, .dK (at' i a _ ⟨_, q, rfl, z⟩ z2 z1) (r.mono le)⟩
      | odT xs =>
        subst h
        obtain ⟨a, vs, z, z1, z2, z3, z4, r⟩ := st
        exact ⟨_, z, .dT (at' i a _ ⟨_, q, rfl, z⟩ z2 z1) (r.mono le)⟩
      | cup => subst h; trivial
      | fn x => subst h; exact st
  · exfalso
    obtain ⟨s, z1, z2, z3⟩ := h1
    unfold peekR at z1
    rw [List.getElem?_map] at z1
    cases q : ρ[i]? with
    | none => rw [q] at z1; cases z1
    | some t => rw [q] at z1; have z1 : _ = s := Option.some.inj z1; subst z1; cases t <;> cases z2
theorem Grow.unpeek {c : Option Addr} {F F1 H F' H' : Hp} (s : Sub F H) (le : Le F F1) (g : Grow none F1 H F' H') : Grow c F H F H' :=
  ⟨Le.refl F, fun a h => .inl h, fun a o e _ => g.keep a o e (by simp), g.ex, fun a o e => g.sub a o (g.le a o (le a o e))⟩
theorem CupOk.unpeek {K : PySem.W.Frag} {F F1 H F' H' : Hp} {cs : List PyData} (q : CupOk K C F H cs) (g : Grow none F1 H F' H') : CupOk K C F H' cs := by
  unfold CupOk at q ⊢
  match e : C.c, q with
  | none, q => exact q
  | some a, q =>
    obtain ⟨n1, vs, e1, r1⟩ := q
    exact ⟨n1, vs, g.keep _ _ e1 (by simp), r1⟩
theorem fe_peek (h : ∀ F0 E, FE X (Ct.pk F0 E) (peekR ρ) e m) : FE X C ρ e (peekM m) := by
  refine ⟨⟨fun pins s σ H Q I w => ?_⟩⟩
  obtain ⟨F, cs, e, q, w⟩ := w
  obtain ⟨le, ep⟩ := e.peek
  refine (h _ H).pe.run pins s σ H Q I ⟨_, [], ep, rfl, ?_⟩
  unfold peekM at w
  match em : m [], w with
  | .ok (d, cs1), w =>
    intro F' H' g _ v rv
    by_cases sd : scal d = true
    · have w : Res X.K X.mg C F H ((if scal d = true then .ok (d, cs) else .error .stuck : Except Er (PyData × List PyData))) (kE X.K Q) := w
      rw [if_pos sd] at w
      exact w F H' (Grow.unpeek e.sub le g) (q.unpeek g) v (rv.scal sd)
    · have w : Res X.K X.mg C F H ((if scal d = true then .ok (d, cs) else .error .stuck : Except Er (PyData × List PyData))) (kE X.K Q) := w
      rw [if_neg sd] at w
      exact w.elim
  | .error _, w => exact w.elim
theorem ft_peek {mt : M Bool} (h : ∀ F0 E, FT X (Ct.pk F0 E) (peekR ρ) e mt) : FT X C ρ e (peekB mt) := by
  refine ⟨⟨fun pins s σ H Q I w => ?_⟩⟩
  obtain ⟨F, cs, e, q, w⟩ := w
  obtain ⟨le, ep⟩ := e.peek
  refine (h _ H).pt.run pins s σ H Q I ⟨_, [], ep, rfl, ?_⟩
  unfold peekB at w
  match em : mt [], w with
  | .ok (d, cs1), w => exact fun F' H' g _ => w F H' (Grow.unpeek e.sub le g) (q.unpeek g)
  | .error _, w => exact w.elim
end
end DL
end
section
set_option Elab.async false
set_option linter.all false
set_option maxRecDepth 100000
set_option maxHeartbeats 4000000
set_option autoImplicit false
namespace HT
open PySem PySem.Spec PyProof.Rows
section
variable {prog : Program} {w : World} {A : Around} {E : Value → Shared → Prop} {s : Shared}
theorem places_rev (n : Nat) : Builtin.Slice.slicePlaces ((n : Int) - 1) (-1) (-1) = n := by
  unfold Builtin.Slice.slicePlaces
  rw [if_neg (by decide)]
  have e : (- -1 : Int) = 1 := by decide
  rw [e, Int.ediv_one]
  split <;> omega
theorem fm_congr {α β : Type} {f g : α → Option β} : ∀ {l : List α}, (∀ m ∈ l, f m = g m) → l.filterMap f = l.filterMap g
  | [], _ => rfl
  | a :: l, h => by
    rw [List.filterMap_cons, List.filterMap_cons, h a (by simp), fm_congr fun m hm => h m (by simp [hm])]
theorem adjust_rev (n : Nat) : Builtin.Slice.sliceAdjust none none (-1) (n : Int) = ((n : Int) - 1, -1) := rfl
theorem sliceApplied_rev {sl : Addr} {vl vu vs : Value} {n : Nat} {Q : Int × Int × Nat → Shared → Prop} (hs : s.heap.IsSliceOf sl vl vu vs) (pl : IsPart vl none) (pu : IsPart vu none) (ps : IsPart vs (some (-1)))
    (h : Q ((n : Int) - 1, -1, n) s) : wpAny (model prog w) A (Builtin.Slice.sliceApplied (.ref sl) (pure (n : Int))) Q E s := by
  obtain ⟨os, hos, hcs, hds⟩ := id hs
  unfold Builtin.Slice.sliceApplied Builtin.Slice.sliceFields
  refine wpAny_bind (wpAny_bind (wpAny_field hos hds (x := vl) rfl (wpAny_bind (wpAny_field hos hds (x := vu) rfl (wpAny_bind (wpAny_field hos hds (x := vs) rfl (wpAny_pure ?_)))))))
  refine wpAny_bind (slicePart_ ps ?_)
  show wpAny _ _ (if ((-1 : Int) == 0) = true then _ else _) _ _ s
  rw [if_neg (by decide)]
  refine wpAny_bind (slicePart_ pl (wpAny_bind (slicePart_ pu (wpAny_bind (wpAny_pure ?_)))))
  show wpAny _ _ (match Builtin.Slice.sliceAdjust none none (-1) (n : Int) with | (lo, hi) => pure (lo, (-1 : Int), Builtin.Slice.slicePlaces lo hi (-1))) _ _ s
  rw [adjust_rev]
  show wpAny _ _ (pure ((n : Int) - 1, (-1 : Int), Builtin.Slice.slicePlaces ((n : Int) - 1) (-1) (-1))) _ _ s
  rw [places_rev]
  exact wpAny_pure h
theorem pick_rev (xs : Array Value) : ((List.range xs.size).filterMap fun (m : Nat) => xs[((((xs.size : Nat) : Int) - 1) + (m : Int) * (-1)).toNat]?) = xs.toList.reverse := by
  have e : ((List.range xs.size).filterMap fun (m : Nat) => xs[((((xs.size : Nat) : Int) - 1) + (m : Int) * (-1)).toNat]?) = ((List.range xs.size).map (fun k => xs.size - 1 - k)).filterMap (xs[·]?) := by
    rw [List.filterMap_map]
    refine fm_congr fun m hm => ?_
    have : m < xs.size := List.mem_range.mp hm
    show xs[_]? = xs[xs.size - 1 - m]?
    congr 1
    omega
  rw [e, PySem.W.krv_range, ← PySem.W.krv_all xs, List.filterMap_reverse, PySem.W.krv_all]
theorem getItem_tuple_rev {t sl : Addr} {items : Array Value} {vl vu vs : Value} {Q : Value → Shared → Prop} (ht : IsTup s.heap t items) (hs : s.heap.IsSliceOf sl vl vu vs) (pl : IsPart vl none) (pu : IsPart vu none) (ps : IsPart vs (some (-1)))
    (h : Q (.ref s.heap.objs.size) { s with heap := s.heap.push { cls := .type "tuple", data := .seq items.toList.reverse.toArray } })
    (hsz : items.size ≤ sizeLine) : wpAny (model prog w) A (getItem (.ref t) (.ref sl)) Q E s := by
  have htake : sizeOk (.seq items.toList.reverse.toArray) := by
    show items.toList.reverse.toArray.size ≤ sizeLine
    rw [List.size_toArray, List.length_reverse, Array.length_toList]
    exact hsz
  obtain ⟨os, hos, hcs, hds⟩ := id hs
  have hTs : s.TypeIs (.ref sl) "slice" := ⟨os, hos, hcs⟩
  unfold getItem
  try with_reducible refine wpAny_holding ?_
  first | refine wpAny_bind (wpAny_pure ?_) | skip
  refine wpAny_bind (wpAny_sequenceKey ht.typeIs (by decide) ?_)
  refine wpAny_bind (wpAny_callSpecial?_slot (name := Str.ofString "__getitem__") ht.typeIs PyProof.Rows.slot_tuple_getitem
    (wpAny_call_entry PyProof.Rows.slot_tuple_getitem ht.typeIs entry_tuple_getitem ?_ (args_tuple_getitem _ _)))
  show wpAny _ _ (Builtin.Tuple.tupleItemsOf (.ref t) >>= _) _ _ s
  refine wpAny_bind (tupleItemsOf_ ht ?_)
  refine wpAny_bind (wpAny_typeOf hTs ?_)
  rw [if_pos (by decide)]
  refine wpAny_bind (sliceApplied_rev hs pl pu ps ?_)
  have hno : ¬ (((((items.size : Nat) : Int) - 1) == 0 && (-1 : Int) == 1 && items.size == items.size) = true) := by
    intro q
    rw [Bool.and_eq_true, Bool.and_eq_true] at q
    exact absurd q.1.2 (by decide)
  show wpAny _ _ (if ((((items.size : Nat) : Int) - 1) == 0 && (-1 : Int) == 1 && items.size == items.size) = true then _ else _) _ _ s
  rw [if_neg hno, pick_rev]
  first
    | exact wpAny_bind (m := Builtin.Tuple.tupleExact _) (wpAny_newObj_type (wpAny_pure ⟨_, rfl, wpAny_pure h⟩) htake)
    | exact wpAny_bind (m := Builtin.Tuple.tupleExact _) (wpAny_newObj_type (wpAny_bind (wpAny_pure (wpAny_pure ⟨_, rfl, wpAny_pure h⟩))) htake)
    | exact wpAny_bind (wpAny_bind (m := Builtin.Tuple.tupleExact _) (wpAny_newObj_type (wpAny_pure (wpAny_pure ⟨_, rfl, wpAny_pure h⟩)) htake))
    | exact wpAny_bind (wpAny_bind (m := Builtin.Tuple.tupleExact _) (wpAny_newObj_type (wpAny_pure ⟨_, rfl, wpAny_pure h⟩) htake))
end
end HT
namespace DL
open PySem PySem.Spec PyProof.Rows L2
/-! ### t[::-1] -/
def tRevA (K : PySem.W.Frag) (te : TE) : TE := fun σ H Q => te σ H fun x H1 => ∃ a xs, x = .ref a ∧ ((SqL K H1 a xs ∧ ∀ p, H1 p = none → Q (.ref p) (upd H1 p (.lst xs.reverse))) ∨ (SqT K H1 a xs ∧ ∀ p, H1 p = none → Q (.ref p) (upd H1 p (.tup xs.reverse))))
theorem pe_revA {X : Cx} {e : Expr} {te : TE} {k : Nat} {p1 p2 p3 pos : Pos} (he : PE X e te) : PE X (.Subscript e (.Slice none none (some (.UnaryOp .USub (.Constant (.int 1) k p1) p2)) p3) pos) (tRevA X.K te) := by
  refine ⟨fun pins s σ H Q I h => ?_⟩
  refine Subscript_ (thn (he.run pins s σ H _ I h) fun v s1 ⟨x, H1, I1, r1, q1⟩ => ?_)
  obtain ⟨a, xs, ex, q1⟩ := q1
  subst ex
  cases r1
  have hst : PO X (some (.UnaryOp .USub (.Constant (.int 1) k p1) p2)) (tPart (tUn (rU fun i => .int (-i)) (tC (.int 1)))) := po_some (pe_un un_neg pe_int)
  refine wpAny_Slice (thn (po_none.run pins s1 σ H1 (fun o H2 => o = none ∧ H2 = H1) I1 ⟨rfl, rfl⟩) fun vl s2 ⟨l, H2, I2, pl, el, e2⟩ => ?_)
  subst el e2
  refine thn (po_none.run pins s2 σ H2 (fun o H3 => o = none ∧ H3 = H2) I2 ⟨rfl, rfl⟩) fun vu s3 ⟨u, H3, I3, pu, eu, e3⟩ => ?_
  subst eu e3
  refine thn (hst.run pins s3 σ H3 (fun o H4 => o = some (-1) ∧ H4 = H3) I3 ⟨1, rfl, -1, rfl, rfl, rfl⟩) fun vs s4 ⟨o, H4, I4, ps, eo, e4⟩ => ?_
  subst eo e4
  have I5 : Inv X pins σ H4 { s4 with heap := s4.heap.push { cls := .type "slice", data := .fields #[vl, vu, vs] } } := I4.kept (t' := s4.toks) fun b ob q => Heap.get?_push_of_some _ q
  rcases q1 with ⟨hx, q⟩ | ⟨hx, q⟩
  · obtain ⟨its, r, ht, hz⟩ := I5.list hx
    have hlen := r.length
    show wpAny (model X.prog X.w) X.A (subscriptTail e (.Slice none none (some (.UnaryOp .USub (.Constant (.int 1) k p1) p2)) p3) (.ref a) (.ref s4.heap.objs.size)) (EP X pins σ Q) X.xe { s4 with heap := s4.heap.push { cls := .type "slice", data := .fields #[vl, vu, vs] } }
    refine tail_any (ops := [.ref a, .ref s4.heap.objs.size]) ht.isList.typeIs (PySem.slot_list_getitem.lookup) ?_ (by with_unfolding_all rfl)
    refine wpAny_getItem_list_slice ht.isList (Heap.IsSliceOf.new _ vl vu vs) pl pu ps (by decide) ?_ (by rw [List.size_toArray]; omega)
    rw [PySem.W.krv_pick]
    refine ⟨.ref _, _, I5.laid (t' := s4.toks) (o := .lst xs.reverse) (fun b ob q => Heap.get?_push_of_some _ q) (Nat.le_refl _) ?_, rfl, q _ (I5.hok.fresh (Nat.le_refl _))⟩
    exact ⟨by rw [List.length_reverse]; exact hz, _, 0, r.reverse, Heap.get?_push_size _ rfl⟩
  · obtain ⟨its, r, ht, hz⟩ := I5.tuple hx
    have hlen := r.length
    show wpAny (model X.prog X.w) X.A (subscriptTail e (.Slice none none (some (.UnaryOp .USub (.Constant (.int 1) k p1) p2)) p3) (.ref a) (.ref s4.heap.objs.size)) (EP X pins σ Q) X.xe { s4 with heap := s4.heap.push { cls := .type "slice", data := .fields #[vl, vu, vs] } }
    refine tail_any (ops := [.ref a, .ref s4.heap.objs.size]) ht.typeIs PyProof.Rows.slot_tuple_getitem.lookup ?_ (by with_unfolding_all rfl)
    refine HT.getItem_tuple_rev ht (Heap.IsSliceOf.new _ vl vu vs) pl pu ps ?_ (by rw [List.size_toArray]; omega)
    refine ⟨.ref _, _, I5.laid (t' := s4.toks) (o := .tup xs.reverse) (fun b ob q => Heap.get?_push_of_some _ q) (Nat.le_refl _) ?_, rfl, q _ (I5.hok.fresh (Nat.le_refl _))⟩
    exact ⟨by rw [List.length_reverse]; exact hz, _, r.reverse, IsTup.new _ _⟩
def prev : PyData → M PyData
  | .list ds => pure (.list ds.reverse)
  | .tuple ds => pure (.tuple ds.reverse)
  | _ => stuck
section
variable {X : Cx} {C : Ct} {ρ : List Sl} {a b c e : Expr} {ma mb mc m : M PyData} {pos p : Pos}
theorem fe_rev {k : Nat} {p1 p2 p3 : Pos} (h : FE X C ρ e m) : FE X C ρ (.Subscript e (.Slice none none (some (.UnaryOp .USub (.Constant (.int 1) k p1) p2)) p3) pos) (do let x ← m; prev x) := by
  refine ⟨imE (pe_revA h.pe) fun σ H Q h => h.then1 (k := fun x H1 Q => ∃ a xs, x = .ref a ∧ ((SqL X.K H1 a xs ∧ ∀ p, H1 p = none → Q (.ref p) (upd H1 p (.lst xs.reverse))) ∨ (SqT X.K H1 a xs ∧ ∀ p, H1 p = none → Q (.ref p) (upd H1 p (.tup xs.reverse))))) fun F H x dx cs s _ q rx h => ?_⟩
  cases rx with
  | lst f r => exact ⟨_, _, rfl, .inl ⟨f.sq s, kE.lst h s q r.reverse⟩⟩
  | tup f r => exact ⟨_, _, rfl, .inr ⟨f.sq s, kE.tup h s q r.reverse⟩⟩
  | _ => exact h.elim
end
/-! ### * -/
theorem strRep_eq (x : Str) (n : Nat) : (List.replicate n x.cps).foldl (· ++ ·) #[] = (List.replicate n x.cps.toList).flatten.toArray := by
  have key : ∀ (n : Nat) (acc : Array Nat), (List.replicate n x.cps).foldl (· ++ ·) acc = acc ++ (List.replicate n x.cps.toList).flatten.toArray := by
    intro n
    induction n with
    | zero => intro acc; simp
    | succ n ih => intro acc; rw [List.replicate_succ, List.foldl_cons, ih, List.replicate_succ, List.flatten_cons, Array.append_assoc]; congr 1; apply Array.ext'; simp
  rw [key]; simp
def rRepS : R2 := fun x y H Q => ∃ i k, x = .str i ∧ y = .int k ∧ 2 ≤ k ∧ k ≤ 1000000000 ∧ 0 < i.length ∧ i.length * k.toNat ≤ sizeLine ∧ Q (.str ⟨(List.replicate k.toNat i.cps.toList).flatten.toArray⟩) H
theorem op_repS {X : Cx} : OpR X (binaryOp .Mult) rRepS := by
  intro pins s σ H x y v u Q I rx ry h
  obtain ⟨i, k, rfl, rfl, h1, h2, h3, hb, q⟩ := h
  obtain ⟨t, rfl⟩ := rx
  obtain ⟨t', rfl⟩ := ry
  have hz : (k == 1 || i.length == 0) = false := by
    rw [beq_eq_false_iff_ne.mpr (by omega), beq_eq_false_iff_ne.mpr (by omega)]; rfl
  have hi : (i.length : Int) * k ≤ 16777216 := by
    rw [sizeLine_eq] at hb
    have : ((i.length * k.toNat : Nat) : Int) ≤ 16777216 := by omega
    rw [Int.natCast_mul, Int.toNat_of_nonneg (by omega)] at this
    exact this
  refine P.mul_str ?_ (fun _ _ => ?_) (fun _ _ => ?_) ?_
  · rw [decide_eq_false (by omega), decide_eq_false (by omega)]; rfl
  · have h5 : (i.length : Int) ≤ (2 ^ 63 - 1) / k := by
      refine (Int.le_ediv_iff_mul_le (by omega)).mpr ?_
      omega
    omega
  · show decide (i.length * k.toNat > sizeLine) = false
    exact decide_eq_false (by omega)
  · rw [if_neg (by omega), hz, if_neg Bool.false_ne_true, strRep_eq]
    refine ⟨?_, .str _, H, I.tok _, ⟨_, rfl⟩, q⟩
    show (List.replicate k.toNat i.cps.toList).flatten.toArray.size ≤ sizeLine
    rw [List.size_toArray, PyProof.Rows.lm_len_rep_flat, Array.length_toList]
    have : i.cps.size = i.length := rfl
    rw [this, Nat.mul_comm]
    exact hb
theorem tuple_mulW1 (l : Addr) (items : Array Value) (n : Nat) (dd : Option Addr) (sl : Array (Option Value)) (u : Tok) :
    Meets (Builtin.«tuple.__mul__» ⟨[.ref l, .int 1 u], []⟩) (fun _ R s => s.heap.get? l = some { cls := .type "tuple", dict := dd, data := .seq items n, slots := sl } ∧
      R (.ok (.ret (Value.ref l))) s) :=
  .of_wp fun prog w A R s h => by
    obtain ⟨hp, g, d, tk, os⟩ := s
    obtain ⟨hl, h⟩ := h
    have f1 := AutoSeq1.idx_int
    have c1 : (items.isEmpty || (1 : Int) == 1) = true := by rw [Bool.or_eq_true]; exact .inr rfl
    wp_walk using wpAny_loadPart' hl
    repeat (first
      | (refine wpAny_ite_false (decide_eq_false (by decide)) ?_; wp_walk using wpAny_loadPart' hl)
      | (refine wpAny_ite_true (decide_eq_true c1) ?_; wp_walk using wpAny_loadPart' hl))
    exact ⟨_, rfl, h⟩
def rRepT1 (K : PySem.W.Frag) : R2 := fun x y H Q => ∃ l xs, x = .ref l ∧ y = .int 1 ∧ SqT K H l xs ∧ Q (.ref l) H
theorem op_repT1 {X : Cx} : OpR X (binaryOp .Mult) (rRepT1 X.K) := by
  intro pins s σ H x y v u Q I rx ry h
  obtain ⟨l, xs, rfl, rfl, hT, q⟩ := h
  cases rx
  obtain ⟨t, rfl⟩ := ry
  obtain ⟨its, r, ⟨⟨cls, dd, data, sl⟩, ho, hc, n, hd⟩, hs⟩ := I.tuple hT
  simp only at hc hd
  subst hc hd
  exact wpAny_binaryOp_repeat_ref (T := "tuple") (U := "int") (by decide) ⟨_, ho, rfl⟩ (fun s' => typeIs_int s' 1 t) noFill_tuple_mul F.fills_int_mul F.slot_int_rmul repeat_tuple F.slot_int_index.lookup
    (call_meets F.slot_int_rmul (typeIs_int s 1 t) F.entry_int_rmul (F.args_int_rmul_2 _ _) (int_rmul_tuple 1 t l its.toArray n dd sl)
      ⟨ho, rfl, ⟨_, ho, rfl⟩, call_meets F.slot_tuple_mul ⟨_, ho, rfl⟩ F.entry_tuple_mul (F.args_tuple_mul_2 _ _) (tuple_mulW1 l its.toArray n dd sl t) ⟨ho, .ref l, H, I, rfl, q⟩⟩)
def rMulAll (K : PySem.W.Frag) : R2 := fun x y H Q => rI CMul (fun i j => .int (i * j)) x y H Q ∨ rRepT K x y H Q ∨ rRepT1 K x y H Q ∨ rRepS x y H Q
theorem op_mulAll {X : Cx} : OpR X (binaryOp .Mult) (rMulAll X.K) := op_mul.or (op_repT.or (op_repT1.or op_repS))
instance (i j : Int) : Decidable (CMul i j) := by unfold CMul; infer_instance
def pmul : PyData → PyData → M PyData
  | .int i, .int j => do chk (CMul i j); pure (.int (i * j))
  | .tuple xs, .int k => if k = 1 then pure (.tuple xs) else do chk (xs ≠ [] ∧ 2 ≤ k ∧ k ≤ 1000 ∧ xs.length ≤ 1000); pure (.tuple (List.replicate k.toNat xs).flatten)
  | .str i, .int k => do chk (2 ≤ k ∧ k ≤ 1000000000 ∧ 0 < i.length ∧ i.length * k.toNat ≤ sizeLine); pure (.str ⟨(List.replicate k.toNat i.cps.toList).flatten.toArray⟩)
  | _, _ => stuck
theorem Rps.rep {K : PySem.W.Frag} {F : Hp} {vs : List V} {ds : List PyData} (r : Rps K F vs ds) : ∀ n : Nat, Rps K F (List.replicate n vs).flatten (List.replicate n ds).flatten
  | 0 => .nil
  | n + 1 => by rw [List.replicate_succ, List.replicate_succ, List.flatten_cons, List.flatten_cons]; exact r.append (r.rep n)
theorem pmul_ok (K : PySem.W.Frag) : Op2 K pmul (rMulAll K) := by
  intro mg C F H x y dx dy cs Q s q rx ry h
  cases ry with
  | int k =>
    cases rx with
    | int i => obtain ⟨c, h⟩ := Res.chk h; exact .inl ⟨_, _, rfl, rfl, c, kE.val h s q (.int _)⟩
    | str i => obtain ⟨c, h⟩ := Res.chk h; exact .inr (.inr (.inr ⟨_, _, rfl, rfl, c.1, c.2.1, c.2.2.1, c.2.2.2, kE.val h s q (.str _)⟩))
    | tup f r =>
      unfold pmul at h
      dsimp only at h
      by_cases e : k = 1
      · rw [if_pos e] at h
        subst e
        exact .inr (.inr (.inl ⟨_, _, rfl, rfl, f.sq s, kE.val h s q (.tup f r)⟩))
      · rw [if_neg e] at h
        obtain ⟨c, h⟩ := Res.chk h
        refine .inr (.inl ⟨_, _, _, rfl, rfl, f.sq s, fun z => c.1 (by subst z; cases r; rfl), c.2.1, c.2.2.1, by rw [r.length]; exact c.2.2.2, kE.tup h s q (r.rep _)⟩)
    | _ => exact h.elim
  | _ => cases rx <;> exact h.elim

/-! ### is None, is True -/
def pisN : PyData → PyData → M PyData
  | .none, .none => pure (.bool true)
  | _, .none => pure (.bool false)
  | _, _ => stuck
theorem pisN_ok (K : PySem.W.Frag) : Op2 K pisN (fun x y H Q => y = .non ∧ Q (.bl (decide (x = .non))) H) := by
  intro mg C F H x y dx dy cs Q s q rx ry h
  cases ry with
  | non => cases rx <;> exact ⟨rfl, kE.val h s q (.bl _)⟩
  | _ => cases rx <;> exact h.elim
def pnotN : PyData → PyData → M PyData
  | .none, .none => pure (.bool false)
  | _, .none => pure (.bool true)
  | _, _ => stuck
theorem pnotN_ok (K : PySem.W.Frag) : Op2 K pnotN (fun x y H Q => y = .non ∧ Q (.bl (!decide (x = .non))) H) := by
  intro mg C F H x y dx dy cs Q s q rx ry h
  cases ry with
  | non => cases rx <;> exact ⟨rfl, kE.val h s q (.bl _)⟩
  | _ => cases rx <;> exact h.elim
end DL
end
section
set_option Elab.async false
set_option linter.all false
set_option maxRecDepth 100000
set_option maxHeartbeats 4000000
set_option autoImplicit false
namespace DL
open PySem PySem.Spec PyProof.Rows L2
/-! ### calls of the text's own defs -/
def kV (rk : Bool) (K : PySem.W.Frag) (c : Option Addr) (H : Hp) (Q : VK) : PyData → List PyData → Hp → Hp → Prop := fun d _ F' H' =>
  if rk = true then ∀ xs a vs, d = .list xs → H a = none → H' a = some (.lst vs) → F' a = none → c ≠ some a → Rps K F' vs xs → Q (.ref a) H' else ∀ v, Rp K F' v d → Q v H'
def cupV : Option Addr → List V
  | none => []
  | some a => [.ref a]
/-- what a def promises: cup: its first argument is the cup; rk: what it gives back is a list of the caller's own; n further arguments; g: what it computes -/
def spD (K : PySem.W.Frag) (mg : Str → Option Value) (cup rk : Bool) (n : Nat) (g : List PyData → M PyData) : Sp := fun vs H Q E => ∃ (c : Option Addr) (ws : List V) (ds : List PyData) (F : Hp) (cs : List PyData),
  vs = cupV c ++ ws ∧ c.isSome = cup ∧ ds.length = n ∧ Sub F H ∧ Rps K F ws ds ∧ CupOk K ⟨fun cl d _ H' => E cl d H', [], c, H, F⟩ F H cs ∧ Res K mg ⟨fun cl d _ H' => E cl d H', [], c, H, F⟩ F H (g ds cs) (kV rk K c H Q)
def finish (m : M (Fl Unit Empty)) : M PyData := do
  match ← m with
  | .nx _ => pure .none
  | .rt d => pure d
def slots0 (cup : Bool) (ds : List PyData) (un : Nat) : List Sl := (if cup = true then [Sl.cup] else []) ++ (ds.map Sl.d ++ List.replicate un Sl.un)
section
variable {P : Program} {w : World} {K : PySem.W.Frag} {mg : Str → Option Value} {base : Heap}
theorem start_env {C : Ct} {F H : Hp} {N : List Str} {ws : List V} {ds : List PyData} {un : Nat} (cup : Bool) (hc : C.c.isSome = cup) (hN : N.length = (cupV C.c ++ ws).length + un) (r : Rps K F ws ds) (g0 : Grow C.c C.F0 C.E F H) :
    EnvOk K mg C F H (L2.start N (cupV C.c ++ ws)) (slots0 cup ds un) := by
  have hr := r.length
  have hno : ∀ (i : Nat) (s : Sl), (slots0 cup ds un)[i]? = some s → isOwn s = true → False := by
    intro i s e o
    have hm := List.mem_of_getElem? e
    unfold slots0 at hm
    rw [List.mem_append, List.mem_append] at hm
    rcases hm with hm | hm | hm
    · cases cup
      · simp at hm
      · simp at hm; subst hm; cases o
    · obtain ⟨d, _, rfl⟩ := List.mem_map.mp hm; cases o
    · have := List.eq_of_mem_replicate hm; subst this; cases o
  refine ⟨?_, g0, fun i s e => ?_, fun i j a ⟨s, e, o, _⟩ _ => (hno i s e o).elim⟩
  · unfold slots0 L2.start
    rw [List.length_append, List.length_append, List.length_append, List.length_map, List.length_map, List.length_replicate, List.length_replicate, ← hr, hN]
    cases hcc : C.c with
    | none => rw [hcc] at hc; subst hc; simp [cupV]; try omega
    | some a => rw [hcc] at hc; subst hc; simp [cupV]; try omega
  · have key : ∀ (pre : List V) (ρp : List Sl) , ρp.length = pre.length → (∀ (i : Nat) (s : Sl), ρp[i]? = some s → SlOk K mg C F H s (some (pre[i]?))) → ∀ (i : Nat) (s : Sl), (ρp ++ (ds.map Sl.d ++ List.replicate un Sl.un))[i]? = some s →
        SlOk K mg C F H s ((pre ++ ws).map some ++ List.replicate un none)[i]? := by
      intro pre ρp hl hp i s e
      by_cases h1 : i < ρp.length
      · rw [List.getElem?_append_left h1] at e
        have := hp i s e
        rw [List.getElem?_append_left (by rw [List.length_map, List.length_append]; omega), List.getElem?_map, List.getElem?_append_left (by omega)]
        have hz : i < pre.length := by omega
        rw [List.getElem?_eq_getElem hz] at this ⊢
        exact this
      · rw [List.getElem?_append_right (by omega)] at e
        by_cases h2 : i - ρp.length < ds.length
        · rw [List.getElem?_append_left (by rw [List.length_map]; exact h2), List.getElem?_map] at e
          rw [List.getElem?_append_left (by rw [List.length_map, List.length_append]; omega), List.getElem?_map, List.getElem?_append_right (by omega)]
          rw [List.getElem?_eq_getElem h2] at e
          cases e
          obtain ⟨v, e1, rv⟩ := r.get (List.getElem?_eq_getElem h2)
          rw [← hl, e1]
          exact ⟨v, rfl, rv⟩
        · rw [List.getElem?_append_right (by rw [List.length_map]; omega)] at e
          have := List.eq_of_mem_replicate (List.mem_of_getElem? e)
          subst this
          trivial
    unfold slots0 at e
    have hst : L2.start N (cupV C.c ++ ws) = (cupV C.c ++ ws).map some ++ List.replicate un none := by
      unfold L2.start
      congr 2
      omega
    rw [hst]
    refine key (cupV C.c) _ ?_ ?_ i s e
    · cases hcc : C.c with
      | none => rw [hcc] at hc; subst hc; rfl
      | some a => rw [hcc] at hc; subst hc; rfl
    · intro i s e
      cases hcc : C.c with
      | none => rw [hcc] at hc; subst hc; simp at e
      | some a =>
        rw [hcc] at hc; subst hc
        match i, e with
        | 0, e => simp at e; subst e; exact ⟨a, hcc, rfl⟩
        | i + 1, e => simp at e
abbrev cxD (P : Program) (w : World) (K : PySem.W.Frag) (mg : Str → Option Value) (base : Heap) (N : List Str) (qual : Str) (scope : Scope) (f : Addr) (cd : Value) (A : Around) (outer : List Env) (s : Shared) (H : Hp) (E : XK) : Cx := cxOf (L2.CX P w) P w K mg base N qual scope f cd A outer s H E
/-- THE RULE for a def -/
theorem fn_d {x qual : Str} {st : Stmt} {f : Addr} {fd : FuncData} {N ps : List Str} {k n un : Nat} {cup rk : Bool} {g : List PyData → M PyData} (F : Fun K x qual st f fd) (S : FnScope N ps (defScope st))
    (hp : ps.length = (if cup = true then 1 else 0) + n) (hu : N.length = ps.length + un)
    (hb : ∀ (cdv : Value) (A : Around) (outer : List Env) (s : Shared) (H : Hp) (E : XK) (C : Ct) (ds : List PyData), Room k (A.deeper (envOfC qual (defScope st) s.heap.objs.size f cdv)) →
      Takes (cxD P w K mg base N qual (defScope st) f cdv A outer s H E) C.W → PassesOwn (model P w) (cxD P w K mg base N qual (defScope st) f cdv A outer s H E).A (cxD P w K mg base N qual (defScope st) f cdv A outer s H E).env (cxD P w K mg base N qual (defScope st) f cdv A outer s H E).xe → C.rx = [] → C.c.isSome = cup → ds.length = n →
      ∃ m : M (Fl Unit Empty), (∀ cs, g ds cs = finish m cs) ∧ FB (cxD P w K mg base N qual (defScope st) f cdv A outer s H E) C (slots0 cup ds un) (fun _ : Unit => []) (fun b : Empty => nomatch b) rk (defBody st) m)
    (hrk : rk = true → ∀ ds cs cs', ds.length = n → g ds cs ≠ .ok (.none, cs')) :
    FnOk P w K mg base (L2.CX P w) (k + 1) f fd ps (spD K mg cup rk n g) := by
  have len : ∀ vs H Q E, spD K mg cup rk n g vs H Q E → vs.length = ps.length := by
    rintro vs H Q E ⟨c, ws, ds, F0, cs, rfl, hc, hd, s, r, q, h⟩
    have hr := r.length
    rw [List.length_append, hp, hr, hd]
    cases c with
    | none => subst hc; rfl
    | some a => subst hc; rfl
  refine F.okX S len fun cdv A outer s H vs Q E hr h => ?_
  have hlen := len vs H Q E h
  obtain ⟨c, ws, ds, F0, cs, rfl, hc, hd, su, r, q, h⟩ := h
  obtain ⟨m, hm, fb⟩ := hb cdv A outer s H E ⟨fun cl d _ H' => E cl d H', [], c, H, F0⟩ ds hr (takes_of rfl rfl rfl rfl) (passes_of rfl) rfl hc hd
  refine ⟨_, fb.ps, F0, cs, start_env cup hc (by rw [hlen]; exact hu) r (Grow.refl su), q, ?_⟩
  rw [hm] at h
  have hne := fun z => hrk z ds cs
  simp only [hm] at hne
  unfold finish at h hne
  rw [M.bind_run] at h
  simp only [M.bind_run] at hne
  match e : m cs, h with
  | .ok (fl, cs1), h =>
    intro F' H' le g1 q1
    cases fl with
    | nx t =>
      have h2 := h F' H' g1 q1
      intro σ' e'
      cases rk with
      | false => exact h2 .non .non
      | true => exact absurd (by rw [e]; rfl) (hne rfl cs1 hd)
    | rt d =>
      have h2 := h F' H' g1 q1
      cases rk with
      | false => exact h2
      | true => exact h2
    | bk b => exact nomatch b
    | ct b => exact nomatch b
  | .error (.exc nm fld), h => exact fun F' H' cl d σ le g1 e1 x1 => h F' H' cl d σ g1 e1 x1
end
section
variable {X : Cx} {C : Ct} {ρ : List Sl} {e e0 : Expr} {es : List Expr} {m m0 : M PyData} {ms : List (M PyData)} {pos p p0 : Pos} {x y : Str} {k n : Nat} {f : Addr} {fd : FuncData} {ps : List Str} {g : List PyData → M PyData}
theorem Grow.of0 {c : Option Addr} {F H F' H' : Hp} (g : Grow none F H F' H') : Grow c F H F' H' := ⟨g.le, g.new, fun a o e _ => g.keep a o e (by simp), g.ex, g.sub⟩
theorem EnvOk.rx {K : PySem.W.Frag} {mg : Str → Option Value} {F H F' H' : Hp} {σ : St} (e : EnvOk K mg C F H σ ρ) (w : Wk ρ C.rx) (g : Grow C.c F H F' H') : EnvOk K mg C F' H' σ C.rx := (e.grow g).wk w
/-- a call without the cup: what is handed back is data -/
theorem fe_call (F : FnOk X.prog X.w X.K X.mg X.base (L2.CX X.prog X.w) k f fd ps (spD X.K X.mg false false n g)) (hr : Room k X.A) (hm : X.mg x = some (.ref f)) (hk : PySem.W.keepIn X.K (.ref f) = true) (hb : Binds X.K fd ps [])
    (tk : Takes X C.W) (wk : Wk ρ C.rx) (ha : FA X C ρ (e :: es) ms) (hn : ms.length = n := by rfl) (hg : Gl X x := by rfl) (hdb : (x == ("__debug__" : Str)) = false := by decide)
    (he : starEach (e :: es) X.env = (false, eval e X.env) :: starEach es X.env := by rfl) (hpl : (backTo pos (starEach es X.env)).any (·.1) = false := by rfl) :
    FE X C ρ (.Call (.Name x p) (e :: es) [] pos) (do let ds ← runs ms; liftP (g ds)) := by
  refine ⟨imE (pe_callS (E := WE C.W) F hr hg hm hk hb (passAt tk) ha.pa hdb he hpl) fun σ H Q h => ?_⟩
  obtain ⟨F0, cs, ev, q, h⟩ := h
  refine ⟨F0, cs, ev, q, (Res.bind h).mono fun ds cs1 F1 H1 g1 q1 h1 vs hl rs => ⟨none, vs, ds, F1, [], rfl, rfl, hl.trans hn, g1.sub, rs, rfl, ?_⟩⟩
  unfold liftP at h1
  match e1 : g ds [], h1 with
  | .ok (d, cs2), h1 => exact fun F' H' g2 _ v rv => h1 F' H' g2.of0 (q1.grow0 g2) v rv
  | .error (.exc nm fld), h1 => exact fun F' H' cl d σ' g2 _ x1 => h1 F' H' cl d σ g2.of0 (((ev.grow g1).grow g2.of0).wk wk) x1
def asL : PyData → M (List PyData)
  | .list xs => pure xs
  | _ => stuck
theorem fo_call (F : FnOk X.prog X.w X.K X.mg X.base (L2.CX X.prog X.w) k f fd ps (spD X.K X.mg false true n g)) (hr : Room k X.A) (hm : X.mg x = some (.ref f)) (hk : PySem.W.keepIn X.K (.ref f) = true) (hb : Binds X.K fd ps [])
    (tk : Takes X C.W) (wk : Wk ρ C.rx) (ha : FA X C ρ (e :: es) ms) (hn : ms.length = n := by rfl) (hg : Gl X x := by rfl) (hdb : (x == ("__debug__" : Str)) = false := by decide)
    (he : starEach (e :: es) X.env = (false, eval e X.env) :: starEach es X.env := by rfl) (hpl : (backTo pos (starEach es X.env)).any (·.1) = false := by rfl) :
    FO X C ρ (.Call (.Name x p) (e :: es) [] pos) (do let ds ← runs ms; let d ← liftP (g ds); asL d) := by
  refine ⟨imE (pe_callS (E := WE C.W) F hr hg hm hk hb (passAt tk) ha.pa hdb he hpl) fun σ H Q h => ?_⟩
  obtain ⟨F0, cs, ev, q, h⟩ := h
  refine ⟨F0, cs, ev, q, (Res.bind h).mono fun ds cs1 F1 H1 g1 q1 h1 vs hl rs => ⟨none, vs, ds, F1, [], rfl, rfl, hl.trans hn, g1.sub, rs, rfl, ?_⟩⟩
  have h1 : Res X.K X.mg C F1 H1 ((liftP (g ds) >>= asL) cs1) (kO X.K C H Q) := h1
  rw [M.bind_run] at h1
  unfold liftP at h1
  match e1 : g ds [], h1 with
  | .ok (.list xs, cs2), h1 =>
    intro F' H' g2 _ xs' a vs' e2 nH e3 nF nc r
    cases e2
    have h1 : Res X.K X.mg C F1 H1 ((pure xs : M (List PyData)) cs1) (kO X.K C H Q) := h1
    have q2 := q1.grow0 g2
    refine h1 F' H' g2.of0 q2 a vs' (g1.free nH) e3 nF ?_ r
    exact q1.ne nH
  | .ok (.none, cs2), h1 => exact h1.elim
  | .ok (.bool _, cs2), h1 => exact h1.elim
  | .ok (.int _, cs2), h1 => exact h1.elim
  | .ok (.str _, cs2), h1 => exact h1.elim
  | .ok (.tuple _, cs2), h1 => exact h1.elim
  | .ok (.dict _, cs2), h1 => exact h1.elim
  | .error (.exc nm fld), h1 => exact fun F' H' cl d σ' g2 _ x1 => h1 F' H' cl d σ g2.of0 (((ev.grow g1).grow g2.of0).wk wk) x1
/-- the cup as the first argument -/
theorem fa_cup (i : Nat) (hN : X.N[i]? = some y) (hv : Vis X.env.scope y) (hd : (y == ("__debug__" : Str)) = false) (hcd : (y == ("__classdict__" : Str)) = false)
    (ha : FA X C ρ es ms) (he : starEach (.Name y p0 :: es) X.env = (false, eval (.Name y p0) X.env) :: starEach es X.env) : PA X (.Name y p0 :: es) (tCons (tVar i) (tAm X.K X.mg C ρ ms)) := pa_cons (pe_var hN hv hd hcd) ha.pa he
theorem fe_callC (i : Nat) (F : FnOk X.prog X.w X.K X.mg X.base (L2.CX X.prog X.w) k f fd ps (spD X.K X.mg true false n g)) (hr : Room k X.A) (hm : X.mg x = some (.ref f)) (hk : PySem.W.keepIn X.K (.ref f) = true) (hb : Binds X.K fd ps [])
    (tk : Takes X C.W) (wk : Wk ρ C.rx) (ha : FA X C ρ es ms) (hρ : ρ[i]? = some .cup := by rfl) (hn : ms.length = n := by rfl) (hN : X.N[i]? = some y := by rfl) (hv : Vis X.env.scope y := by first | exact Or.inl rfl | exact Or.inr (Or.inl rfl) | exact Or.inr (Or.inr rfl))
    (hd : (y == ("__debug__" : Str)) = false := by decide) (hcd : (y == ("__classdict__" : Str)) = false := by decide) (hg : Gl X x := by rfl) (hdb : (x == ("__debug__" : Str)) = false := by decide)
    (he : starEach (.Name y p0 :: es) X.env = (false, eval (.Name y p0) X.env) :: starEach es X.env := by rfl) (hpl : (backTo pos (starEach es X.env)).any (·.1) = false := by rfl) :
    FE X C ρ (.Call (.Name x p) (.Name y p0 :: es) [] pos) (do let ds ← runs ms; g ds) := by
  refine ⟨imE (pe_callS (E := WE C.W) F hr hg hm hk hb (passAt tk) (fa_cup i hN hv hd hcd ha he) hdb he hpl) fun σ H Q h => ?_⟩
  obtain ⟨F0, cs, ev, q, h⟩ := h
  obtain ⟨a, ea, es'⟩ := ev.sl i _ hρ
  refine ⟨.ref a, es', F0, cs, ev, q, (Res.bind h).mono fun ds cs1 F1 H1 g1 q1 h1 vs hl rs => ⟨some a, vs, ds, F1, cs1, rfl, rfl, hl.trans hn, g1.sub, rs, ?_, ?_⟩⟩
  · unfold CupOk at q1 ⊢; rw [ea] at q1; exact q1
  · match e1 : g ds cs1, h1 with
    | .ok (d, cs2), h1 =>
      intro F' H' g2 q2 v rv
      refine h1 F' H' (by rw [ea]; exact g2) ?_ v rv
      unfold CupOk at q2 ⊢; rw [ea]; exact q2
    | .error (.exc nm fld), h1 =>
      intro F' H' cl d σ' g2 _ x1
      have g3 : Grow C.c F1 H1 F' H' := by rw [ea]; exact g2
      exact h1 F' H' cl d σ g3 (((ev.grow g1).grow g3).wk wk) x1
/-- cup[e] -/
def cupIx (d : PyData) : M PyData := fun cs => match d with
  | .int i => match atI cs i with
    | some x => .ok (x, cs)
    | none => .error .stuck
  | _ => .error .stuck
theorem fe_cupget (i : Nat) {idx : Expr} (hb : FE X C ρ idx m) (hρ : ρ[i]? = some .cup := by rfl) (hN : X.N[i]? = some y := by rfl) (hv : Vis X.env.scope y := by first | exact Or.inl rfl | exact Or.inr (Or.inl rfl) | exact Or.inr (Or.inr rfl))
    (hd : (y == ("__debug__" : Str)) = false := by decide) (hcd : (y == ("__classdict__" : Str)) = false := by decide) (hs : PlainIx idx := by exact fun _ _ => rfl) :
    FE X C ρ (.Subscript (.Name y p) idx pos) (do let d ← m; cupIx d) := by
  refine ⟨imE (pe_ix ix_seq (pe_var hN hv hd hcd) hb.pe hs) fun σ H Q h => ?_⟩
  obtain ⟨F0, cs, ev, q, h⟩ := h
  obtain ⟨a, ea, es'⟩ := ev.sl i _ hρ
  refine ⟨.ref a, es', F0, cs, ev, q, (Res.bind h).mono fun d cs1 F1 H1 g1 q1 h1 v rv => ?_⟩
  unfold cupIx at h1
  cases rv with
  | int j =>
    dsimp only at h1
    have q1' := q1
    unfold CupOk at q1
    rw [ea] at q1
    obtain ⟨nF, vs, e1, rs⟩ := q1
    cases e : atI cs1 j with
    | none => rw [e] at h1; exact h1.elim
    | some x =>
      rw [e] at h1
      obtain ⟨u, e2, ru⟩ := rs.atI e
      exact .inl ⟨a, vs, j, u, rfl, rfl, .inl (.inl e1), e2, h1 F1 H1 (Grow.refl g1.sub) q1' u ru⟩
  | _ => exact h1.elim
end
end DL
end
section
set_option Elab.async false
set_option linter.all false
set_option maxRecDepth 100000
set_option maxHeartbeats 4000000
set_option autoImplicit false
namespace DL
open PySem PySem.Spec PyProof.Rows L2
def cupSet (y d : PyData) : M Unit := fun cs => match y with
  | .int i => match ixN cs.length i with
    | some j => .ok ((), cs.set j d)
    | none => .error .stuck
  | _ => .error .stuck
/-- the rest of a def that makes its own cup -/
def withCup {α : Type} (xs : List PyData) (m : M α) : M α := fun cs => match m xs with
  | .ok (x, _) => .ok (x, cs)
  | .error e => .error e
theorem Grow.cupset {F H : Hp} {a : Addr} {o : HO} (s : Sub F H) (n : F a = none) : Grow (some a) F H F (upd H a o) := by
  refine ⟨Le.refl F, fun b e => .inl e, fun b u e k => ?_, fun b e => ?_, fun b u e => ?_⟩
  · rw [upd_ne (fun z => k (by rw [z]))]; exact e
  · by_cases h : b = a
    · subst h; rw [upd_same]; simp
    · rw [upd_ne h]; exact e
  · have hb : b ≠ a := fun z => by subst z; rw [n] at e; cases e
    rcases s b u e with q | ⟨ob, q⟩
    · exact .inl (by rw [upd_ne hb]; exact q)
    · exact .inr ⟨ob, by rw [upd_ne hb]; exact q⟩
section
variable {X : Cx} {C : Ct} {ρ : List Sl} {τ τ' β α : Type} {emb : τ → List Sl} {emb' : τ' → List Sl} {embL : β → List Sl} {rk : Bool} {rest : List Stmt} {sts : List Stmt} {s : Stmt} {a b e c idx : Expr} {m ma mb mi : M PyData} {pos p' p2 apos tpos : Pos} {x y z : Str}
/-- what is not reached needs no walk -/
theorem fb_stuck : FB X C ρ emb embL rk sts (stuck : M (Fl τ β)) := ⟨⟨fun pins s' σ H D I ⟨F, cs, e, q, h⟩ => h.elim⟩⟩
theorem fe_stuck : FE X C ρ e stuck := ⟨⟨fun pins s' σ H D I ⟨F, cs, e, q, h⟩ => h.elim⟩⟩
theorem ft_stuck : FT X C ρ e stuck := ⟨⟨fun pins s' σ H D I ⟨F, cs, e, q, h⟩ => h.elim⟩⟩
/-- cup[idx] = e -/
theorem fb_cupset (i : Nat) {k : M (Fl τ β)} (he : FE X C ρ e m) (hi : FE X C ρ idx mi) (hk : FB X C ρ emb embL rk rest k) (hρ : ρ[i]? = some .cup := by rfl) (hN : X.N[i]? = some y := by rfl) (hv : Vis X.env.scope y := by first | exact Or.inl rfl | exact Or.inr (Or.inl rfl) | exact Or.inr (Or.inr rfl))
    (hd : (y == ("__debug__" : Str)) = false := by decide) (hcd : (y == ("__classdict__" : Str)) = false := by decide)
    (ha : ∀ v, assign (.Subscript (.Name y p') idx tpos) X.env v = (do
      let ov ← holding [v] (eval (.Name y p') X.env)
      let iv ← holding [v, ov] (eval idx X.env)
      standAt tpos
      holding [v, ov, iv] (setItem ov iv v)
      release [v, ov, iv] []) := by intro _; rfl)
    (hs : swapsWithSole [.Subscript (.Name y p') idx tpos] e pos.line X.env = pure false := by rfl) (hw : swappedStores [.Subscript (.Name y p') idx tpos] e X.env = pure none := by rfl)
    (h1 : (assignEach [.Subscript (.Name y p') idx tpos] X.env).map (·.2) = [assign (.Subscript (.Name y p') idx tpos) X.env] := by rfl) :
    FB X C ρ emb embL rk (.Assign [.Subscript (.Name y p') idx tpos] e pos :: rest) (do let d ← m; let j ← mi; cupSet j d; k) := by
  have e2 : (do let d ← m; let j ← mi; cupSet j d; k) = (do let u ← (do let d ← m; let j ← mi; cupSet j d); k) := by simp
  rw [e2]
  refine fb_step (ps_asg he.pe (pg_sub (pe_var hN hv hd hcd) hi.pe set_list ha) hs hw h1) fun D σ H h => ?_
  rw [← e2] at h
  obtain ⟨F, cs, ev, q, h⟩ := h
  obtain ⟨a, ea, es⟩ := ev.sl i _ hρ
  refine ⟨F, cs, ev, q, (h.bind ev.g0).mono fun d cs1 F1 H1 g1 q1 h1 v rv => ?_⟩
  refine ⟨.ref a, es, F1, cs1, ev.grow g1, q1, (h1.bind (ev.grow g1).g0).mono fun j cs2 F2 H2 g2 q2 h2 w rw' => ?_⟩
  have ev2 := (ev.grow g1).grow g2
  have rv2 := rv.mono g2.le
  rw [show ((do cupSet j d; k : M (Fl τ β)) cs2) = _ from M.bind_run _ _ _] at h2
  unfold cupSet at h2
  cases rw' with
  | int z =>
    dsimp only at h2
    have q2' := q2
    unfold CupOk at q2
    rw [ea] at q2
    obtain ⟨nF, vs, e1, rs⟩ := q2
    cases ei : ixN cs2.length z with
    | none => rw [ei] at h2; exact h2.elim
    | some l =>
      rw [ei] at h2
      refine ⟨a, vs, z, l, rfl, rfl, e1, by rw [rs.length]; exact ei, ?_⟩
      have gs : Grow C.c F2 H2 F2 (upd H2 a (.lst (vs.set l v))) := by rw [ea]; exact Grow.cupset g2.sub nF
      refine ⟨(), ρ, hk.ps, F2, cs2.set l d, ev2.grow gs, ?_, h2⟩
      unfold CupOk
      rw [ea]
      exact ⟨nF, _, upd_same, rs.set rv2 l⟩
  | _ => exact h2.elim
/-- name = e makes the cup -/
theorem fb_newcup (i : Nat) {mo : M (List PyData)} {emb : τ → List Sl} {embL : Empty → List Sl} {k : List PyData → M (Fl τ Empty)} (hemb : ∀ t, emb t = []) (hc : C.c = none) (hx0 : C.rx = []) (hnc : ∀ j : Nat, ρ[j]? ≠ some Sl.cup) (hN : X.N.Nodup) (he : FO X C ρ e mo)
    (hk : ∀ (a : Addr) (xs : List PyData), FB X { C with c := some a } (ρ.set i .cup) emb embL false rest (k xs)) (hi : X.N[i]? = some x := by rfl) (hx : Loc X.env.scope x := by first | exact Or.inl rfl | exact Or.inr rfl)
    (hs : swapsWith e (some (.Name x p')) pos.line X.env = pure false := by rfl) (hf : X.fn x = true ∨ X.env.scope.names.lookup x = some .local := by first | exact Or.inl rfl | exact Or.inr rfl) :
    FB X C ρ emb embL false (.Assign [.Name x p'] e pos :: rest) (do let xs ← mo; withCup xs (k xs)) := by
  have hR : PSs X rest (fun D σ H => ∃ (a : Addr) (xs : List PyData), tBl X.K X.mg { C with c := some a } (ρ.set i .cup) emb embL false (k xs) D σ H) := ⟨fun pins s' σ H D I ⟨a, xs, w⟩ => (hk a xs).ps.run pins s' σ H D I w⟩
  refine ⟨imSs (pss_cons (ps_set hN hi hx he.pe hs hf) hR) fun D σ H h => ?_⟩
  obtain ⟨F, cs, ev, q, h⟩ := h
  refine ⟨F, cs, ev, q, (h.bind ev.g0).mono fun xs cs1 F1 H1 g1 q1 h1 a vs n e1 e2 e3 r => ?_⟩
  have ev1 := ev.grow g1
  have nE : C.E a = none := by
    cases z : C.E a with
    | none => rfl
    | some o => exact absurd n (ev.ent a (by rw [z]; simp))
  have gI : ∀ {F' H' : Hp}, Grow (some a) C.F0 C.E F' H' → Grow C.c C.F0 C.E F' H' := fun g => by
    rw [hc]
    exact ⟨g.le, g.new, fun b o z _ => g.keep b o z (fun w => by cases w; rw [nE] at z; cases z), g.ex, g.sub⟩
  have gO : Grow (some a) C.F0 C.E F1 H1 := by
    have g := ev1.g0
    rw [hc] at g
    exact ⟨g.le, g.new, fun b o z _ => g.keep b o z (by simp), g.ex, g.sub⟩
  have noA : ∀ j b, OwnAt ρ σ j b → b ≠ a := fun j b o z => absurd n (z ▸ ev.owned o)
  refine ⟨a, xs, F1, xs, ⟨by rw [List.length_set, List.length_set]; exact ev.len, gO, fun j t ej => ?_, fun j k b h1 h2 => ?_⟩, ⟨e2, vs, e1, r⟩, ?_⟩
  · by_cases hj : i = j
    · subst hj
      have hi' : i < ρ.length := by
        have := (List.getElem?_eq_some_iff.mp ej).1
        rw [List.length_set] at this; exact this
      rw [List.getElem?_set_self hi'] at ej
      have hl := ev.len
      rw [List.getElem?_set_self (by omega)]
      cases ej
      exact ⟨a, rfl, rfl⟩
    · rw [List.getElem?_set_ne hj] at ej ⊢
      have sj := ev1.sl j t ej
      cases t with
      | un => trivial
      | d x => exact sj
      | own ys => obtain ⟨b, ws, z, z1, z2, z3, z4, z5⟩ := sj; exact ⟨b, ws, z, z1, z2, fun w => noA j b ⟨_, ej, rfl, z⟩ (by cases w; rfl), z4, z5⟩
      | odK ys => obtain ⟨b, ws, z, z1, z2, z3, z4, z5⟩ := sj; exact ⟨b, ws, z, z1, z2, fun w => noA j b ⟨_, ej, rfl, z⟩ (by cases w; rfl), z4, z5⟩
      | odT ys => obtain ⟨b, ws, z, z1, z2, z3, z4, z5⟩ := sj; exact ⟨b, ws, z, z1, z2, fun w => noA j b ⟨_, ej, rfl, z⟩ (by cases w; rfl), z4, z5⟩
      | cup => exact absurd ej (hnc j)
      | fn x => exact sj
  · have key : ∀ j, OwnAt (ρ.set i .cup) (σ.set i (some (.ref a))) j b → OwnAt ρ σ j b := by
      rintro j ⟨t, z1, z2, z3⟩
      by_cases hj : i = j
      · subst hj
        have hi' : i < ρ.length := by
          have := (List.getElem?_eq_some_iff.mp z1).1
          rw [List.length_set] at this; exact this
        rw [List.getElem?_set_self hi'] at z1
        cases z1; cases z2
      · rw [List.getElem?_set_ne hj] at z1 z3
        exact ⟨t, z1, z2, z3⟩
    exact ev.sep j k b (key j h1) (key k h2)
  · unfold withCup at h1
    match e4 : k xs xs, h1 with
    | .ok (fl, cs2), h1 =>
      have h1 : ResB X.K X.mg C F1 (.ok (fl, cs1)) _ := h1
      intro F' H' le g2 q2
      have cs1e : CupOk X.K C F' H' cs1 := by
        unfold CupOk at q1 ⊢
        rw [hc] at q1 ⊢
        exact q1
      have h2 := h1 F' H' le (gI g2) cs1e
      cases fl with
      | nx t =>
        have h3 : ∀ σ', EnvOk X.K X.mg C F' H' σ' (emb t) → D.nx σ' H' := h2
        intro σ' e'
        refine h3 σ' ?_
        rw [hemb t]
        exact ⟨Nat.zero_le _, gI g2, fun j t ej => by simp at ej, fun j k b ⟨t, ej, _⟩ _ => by simp at ej⟩
      | bk t => exact nomatch t
      | ct t => exact nomatch t
      | rt d => exact h2
    | .error (.exc nm fld), h1 =>
      intro F' H' cl d σ' le g2 e2 x1
      refine h1 F' H' cl d σ' le (gI g2) ?_ x1
      have hrx : ({ C with c := some a } : Ct).rx = [] := hx0
      rw [hx0]
      exact ⟨Nat.zero_le _, gI g2, fun j t ej => by simp at ej, fun j k b ⟨t, ej, _⟩ _ => by simp at ej⟩
end
end DL
end
section
set_option Elab.async false
set_option linter.all false
set_option maxRecDepth 100000
set_option maxHeartbeats 4000000
set_option autoImplicit false
namespace DL
open PySem PySem.Spec PyProof.Rows L2 RZ
section
variable {X : Cx} {C : Ct} {ρ : List Sl} {τ τ' β α : Type} {emb : τ → List Sl} {embL : β → List Sl} {rk : Bool} {rest : List Stmt} {tg a b c e : Expr} {ma mb mc m : M PyData} {pos p p' apos : Pos} {x y : Str}
/-! ### + of two lists, as a list of one's own -/
theorem fo_add (ha : FE X C ρ a ma) (hb : FE X C ρ b mb) : FO X C ρ (.BinOp a .Add b pos) (do let x ← ma; let y ← mb; let z ← padd x y; asL z) := by
  refine ⟨imE (pe_op op_catL ha.pe hb.pe) fun σ H Q h => ?_⟩
  obtain ⟨F, cs, ev, q, h⟩ := h
  refine ⟨F, cs, ev, q, (Res.bind h).mono fun dx cs1 F1 H1 g1 q1 h1 v rv => ?_⟩
  refine ⟨F1, cs1, ev.grow g1, q1, (Res.bind h1).mono fun dy cs2 F2 H2 g2 q2 h2 u ru => ?_⟩
  have rv2 := rv.mono g2.le
  have h2 : Res X.K X.mg C F2 H2 ((padd dx dy >>= asL) cs2) (kO X.K C H Q) := h2
  cases rv2 with
  | @lst l xs ds f r =>
    cases ru with
    | @lst l2 ys es f2 r2 =>
      unfold padd at h2
      rw [bind_assoc] at h2
      obtain ⟨c, h3⟩ := Res.chk h2
      have h3 : Res X.K X.mg C F2 H2 ((pure (ds ++ es) : M (List PyData)) cs2) (kO X.K C H Q) := h3
      refine ⟨_, _, xs, ys, rfl, rfl, f.sq g2.sub, f2.sq g2.sub, by rw [r.length, r2.length]; exact c, fun p n => ?_⟩
      have nH : H p = none := g1.free (g2.free n)
      exact h3 F2 (upd H2 p (.lst (xs ++ ys))) (Grow.fresh g2.sub n) (q2.upd (q2.ne n)) p (xs ++ ys) nH upd_same (g2.sub.fresh n) (q2.ne n) (r.append r2)
    | _ => exact h2.elim
  | tup f r =>
    cases ru with
    | tup f2 r2 =>
      unfold padd at h2
      rw [bind_assoc] at h2
      obtain ⟨c, h3⟩ := Res.chk h2
      have h4 : False := h3
      exact h4.elim
    | _ => exact h2.elim
  | str f =>
    cases ru with
    | str f2 =>
      unfold padd at h2
      rw [bind_assoc] at h2
      obtain ⟨c, h3⟩ := Res.chk h2
      have h4 : False := h3
      exact h4.elim
    | _ => exact h2.elim
  | int f =>
    cases ru with
    | int f2 =>
      have h4 : False := h2
      exact h4.elim
    | _ => exact h2.elim
  | _ => cases ru <;> exact h2.elim

/-! ### zip -/
def zipD (ds es : List PyData) : List PyData := (ds.zip es).map fun p => .tuple [p.1, p.2]
theorem zipD_length (ds es : List PyData) : (zipD ds es).length = min ds.length es.length := by unfold zipD; rw [List.length_map, List.length_zip]
theorem zipD_get {ds es : List PyData} {i : Nat} {d : PyData} (h : (zipD ds es)[i]? = some d) : ∃ a b, ds[i]? = some a ∧ es[i]? = some b ∧ d = .tuple [a, b] := by
  unfold zipD at h
  rw [List.getElem?_map, Option.map_eq_some_iff] at h
  obtain ⟨⟨a, b⟩, h1, rfl⟩ := h
  rw [List.getElem?_zip_eq_some] at h1
  exact ⟨a, b, h1.1, h1.2, rfl⟩
theorem ItOk.zipL {K : PySem.W.Frag} {F : Hp} {l1 l2 : Addr} {xs ys : List V} {ds es : List PyData} (f1 : FzL K F l1 xs) (f2 : FzL K F l2 ys) (r1 : Rps K F xs ds) (r2 : Rps K F ys es) : ItOk K (Itz K l1 l2) F (zipD ds es) := by
  intro i F1 H1 l s
  have q1 := (f1.mono l).sq s
  have q2 := (f2.mono l).sq s
  refine ⟨fun h => ⟨xs, ys, q1, q2, by rw [zipD_length] at h; rw [r1.length, r2.length]; omega⟩, fun d e => ?_⟩
  obtain ⟨a, b, ea, eb, rfl⟩ := zipD_get e
  obtain ⟨v, e1, rv⟩ := r1.get ea
  obtain ⟨w, e2, rw'⟩ := r2.get eb
  refine ⟨⟨xs, ys, v, w, q1, q2, e1, e2⟩, fun x H2 yy => ?_⟩
  obtain ⟨T, x', y', rfl, nT, rfl, h1, h2⟩ := yy
  have z1 := h1 xs q1
  have z2 := h2 ys q2
  rw [e1] at z1; cases z1
  rw [e2] at z2; cases z2
  exact ⟨upd F1 T (.tup [v, w]), fun c => Grow.alloc s nT, .tup (.inl upd_same) (.cons (rv.mono (l.trans (Le.fz (s.fresh nT)))) (.cons (rw'.mono (l.trans (Le.fz (s.fresh nT)))) .nil))⟩
theorem ItOk.zipT {K : PySem.W.Frag} {F : Hp} {l1 l2 : Addr} {xs ys : List V} {ds es : List PyData} (f1 : FzT K F l1 xs) (f2 : FzT K F l2 ys) (r1 : Rps K F xs ds) (r2 : Rps K F ys es) : ItOk K (ItzT K l1 l2) F (zipD ds es) := by
  intro i F1 H1 l s
  have q1 := (f1.mono l).sq s
  have q2 := (f2.mono l).sq s
  refine ⟨fun h => ⟨xs, ys, q1, q2, by rw [zipD_length] at h; rw [r1.length, r2.length]; omega⟩, fun d e => ?_⟩
  obtain ⟨a, b, ea, eb, rfl⟩ := zipD_get e
  obtain ⟨v, e1, rv⟩ := r1.get ea
  obtain ⟨w, e2, rw'⟩ := r2.get eb
  refine ⟨⟨xs, ys, v, w, q1, q2, e1, e2⟩, fun x H2 yy => ?_⟩
  obtain ⟨T, x', y', rfl, nT, rfl, h1, h2⟩ := yy
  have z1 := h1 xs q1
  have z2 := h2 ys q2
  rw [e1] at z1; cases z1
  rw [e2] at z2; cases z2
  exact ⟨upd F1 T (.tup [v, w]), fun c => Grow.alloc s nT, .tup (.inl upd_same) (.cons (rv.mono (l.trans (Le.fz (s.fresh nT)))) (.cons (rw'.mono (l.trans (Le.fz (s.fresh nT)))) .nil))⟩
def pzip : PyData → PyData → M (List PyData)
  | .list ds, .list es => do chk (ds.length ≤ sizeLine); pure (zipD ds es)
  | .tuple ds, .tuple es => do chk (ds.length ≤ sizeLine); pure (zipD ds es)
  | _, _ => stuck
theorem fi_zip {p pos tpos : Pos} {elts : List Expr} {kk : Nat} (hm : X.mg "zip" = none) (ha : FE X C ρ a ma) (hb : FE X C ρ b mb) (hg : Gl X "zip" := by rfl) (hs : starEach [a, b] X.env = (false, eval a X.env) :: starEach [b] X.env := by rfl) (hs2 : starEach [b] X.env = (false, eval b X.env) :: starEach [] X.env := by rfl) (hpl : (backTo pos (starEach [b] X.env)).any (·.1) = false := by rfl) :
    FI X C ρ (.Tuple elts kk tpos) (.Call (.Name "zip" p) [a, b] [] pos) (do let x ← ma; let y ← mb; pzip x y) := by
  have pa : PA X [a, b] (tCons (tM X.K X.mg C ρ ma) (tCons (tM X.K X.mg C ρ mb) tNil)) := pa_cons ha.pe (pa_cons hb.pe pa_nil hs2) hs
  refine ⟨imI (pi_zipA hg hm pa hs hpl) fun σ H R h => ?_⟩
  obtain ⟨F, cs, ev, q, h⟩ := h
  refine ⟨F, cs, ev, q, (Res.bind h).mono fun dx cs1 F1 H1 g1 q1 h1 v rv => ?_⟩
  refine ⟨F1, cs1, ev.grow g1, q1, (Res.bind h1).mono fun dy cs2 F2 H2 g2 q2 h2 u ru => ?_⟩
  have rv2 := rv.mono g2.le
  cases rv2 with
  | @lst l xs ds f r =>
    cases ru with
    | @lst l2 ys es f2 r2 =>
      obtain ⟨hz, h3⟩ := Res.chk h2
      have hl : (zipD ds es).length ≤ sizeLine := by rw [zipD_length]; omega
      exact ⟨_, _, xs, ys, rfl, .inl ⟨f.sq g2.sub, f2.sq g2.sub, Res.pure (mg := X.mg) h3 g2.sub q2 _ (.zipL f f2 r r2) hl⟩⟩
    | _ => exact h2.elim
  | @tup l xs ds f r =>
    cases ru with
    | @tup l2 ys es f2 r2 =>
      obtain ⟨hz, h3⟩ := Res.chk h2
      have hl : (zipD ds es).length ≤ sizeLine := by rw [zipD_length]; omega
      exact ⟨_, _, xs, ys, rfl, .inr ⟨f.sq g2.sub, f2.sq g2.sub, Res.pure (mg := X.mg) h3 g2.sub q2 _ (.zipT f f2 r r2) hl⟩⟩
    | _ => exact h2.elim
  | _ => cases ru <;> exact h2.elim
/-! ### list(range(..)) -/
theorem rgV_rp {K : PySem.W.Frag} {F : Hp} (a b : Int) : Rps K F (rgV a b) (rangeD a b) := by
  unfold rgV rangeD
  generalize List.range (b - a).toNat = l
  induction l with
  | nil => exact .nil
  | cons i l ih => exact .cons (.int _) ih
theorem fo_listRg {p2 pos2 : Pos} (hc : X.calm = true) (hl : X.mg "list" = none) (hm : X.mg "range" = none) (ha : FE X C ρ a ma) (hg : Gl X "list" := by rfl) (hg2 : Gl X "range" := by rfl)
    (na : starEach [a] X.env = (false, eval a X.env) :: starEach [] X.env := by rfl) (na2 : starEach [.Call (.Name "range" p) [a] [] pos] X.env = (false, eval (.Call (.Name "range" p) [a] [] pos) X.env) :: starEach [] X.env := by rfl) :
    FO X C ρ (.Call (.Name "list" p2) [.Call (.Name "range" p) [a] [] pos] [] pos2) (do let d ← ma; let n ← asI d; chk (0 ≤ n ∧ n ≤ 16777216); pure (rangeD 0 n)) := by
  refine ⟨imE (pe_listRg hc hg hl (prg_1 hg2 hm ha.pe na) na2) fun σ H Q h => ?_⟩
  obtain ⟨F, cs, ev, q, h⟩ := h
  refine ⟨F, cs, ev, q, (Res.bind h).mono fun d cs1 F1 H1 g1 q1 h1 v rv => ?_⟩
  cases rv with
  | int n =>
    have h2 : Res X.K X.mg C F1 H1 ((do chk (0 ≤ n ∧ n ≤ 16777216); pure (rangeD 0 n) : M (List PyData)) cs1) (kO X.K C H Q) := h1
    obtain ⟨hz, h3⟩ := Res.chk h2
    refine ⟨n, rfl, RgOk.of_le (by decide) hz.2 (by decide) hz.1, fun p n' => ?_⟩
    exact h3 F1 _ (Grow.fresh g1.sub n') (q1.upd (q1.ne n')) p _ (g1.free n') upd_same (g1.sub.fresh n') (q1.ne n') (rgV_rp 0 n)
  | _ => exact h1.elim
end
end DL
end
section
set_option Elab.async false
set_option linter.all false
set_option maxRecDepth 100000
set_option maxHeartbeats 4000000
set_option autoImplicit false
namespace DL
open PySem PySem.Spec PyProof.Rows L2 RZ
/-! ### [elt for tg in iter if .. for tg1 in iter1 if ..] -/
def lc2M {τ τ1 : Type} (u : PyData → M τ) (t : τ → M Bool) (i1 : τ → M (List PyData)) (u1 : PyData → M τ1) (t1 : τ → τ1 → M Bool) (f : τ → τ1 → M PyData) : List PyData → M (List PyData)
  | [] => pure []
  | d :: ds => do
    let x ← noexc (u d)
    let b ← noexc (t x)
    if b = true then (do
      let ds1 ← noexc (i1 x)
      let _ ← noexc (chk (ds1.length ≤ 4096))
      let ys ← lcM u1 (t1 x) (f x) ds1
      let zs ← lc2M u t i1 u1 t1 f ds
      pure (ys ++ zs)) else lc2M u t i1 u1 t1 f ds
section
variable {K : PySem.W.Frag} {mg : Str → Option Value} {C : Ct} {F H F' H' : Hp} {cs : List PyData} {α β : Type}
theorem ResN.map {m : M α} {h : α → β} {k : β → List PyData → Hp → Hp → Prop} (w : ResN K C F H ((m >>= fun x => pure (h x)) cs) k) : ResN K C F H (m cs) fun x cs' F' H' => k (h x) cs' F' H' := by
  rw [M.bind_run] at w
  match e : m cs, w with
  | .ok (x, cs1), w => exact w
  | .error _, w => exact w.elim
theorem ResN.chk {p : Prop} [Decidable p] {f : Unit → M β} {k : β → List PyData → Hp → Hp → Prop} (h : ResN K C F H ((noexc (DL.chk p) >>= f) cs) k) : p ∧ ResN K C F H (f () cs) k := by
  by_cases hp : p
  · refine ⟨hp, ?_⟩
    rw [chk_true hp] at h
    exact h
  · have e : DL.chk p = stuck := if_neg hp
    rw [e] at h
    have z : False := h
    exact z.elim
theorem ResN.swapD {D : Addr} {vacc vacc' : List V} {r : Except Er (α × List PyData)} {hh : α → List PyData} {Q : VK} (w : ResN K C F H r (fun ys _ F'' H'' => F'' D = none → ∀ vs, Rps K F'' vs (hh ys) → Q (.ref D) (upd H'' D (.lst vs))))
    (e : H D = some (.lst vacc)) (n : F D = none) (cD : C.c ≠ some D) : ResN K C F (upd H D (.lst vacc')) r (fun ys _ F'' H'' => F'' D = none → ∀ vs, Rps K F'' vs (hh ys) → Q (.ref D) (upd H'' D (.lst vs))) := by
  match r, w with
  | .ok (ys, cs6), w =>
    intro F7 H7 g7 q7 n7 vs7 r7
    have z := w F7 (upd H7 D (.lst vacc)) (g7.swap n (by rw [e]; simp) e) (q7.upd cD) n7 vs7 r7
    rw [upd_upd] at z
    exact z
  | .error _, w => exact w.elim
end
theorem lcM_cons {τ : Type} {β : Type} (u : PyData → M τ) (t : τ → M Bool) (f : τ → M PyData) (d : PyData) (ds : List PyData) (G : List PyData → M β) : (lcM u t f (d :: ds) >>= G) = (do
    let x ← noexc (u d)
    let b ← noexc (t x)
    if b = true then (do let y ← noexc (f x); lcM u t f ds >>= fun ys => G (y :: ys)) else lcM u t f ds >>= G) := by
  show ((do
    let x ← noexc (u d)
    let b ← noexc (t x)
    if b = true then (do let y ← noexc (f x); let ys ← lcM u t f ds; pure (y :: ys)) else lcM u t f ds) >>= G) = _
  rw [bind_assoc]
  congr 1; funext x
  rw [bind_assoc]
  congr 1; funext b
  split
  · rw [bind_assoc]
    congr 1; funext y
    rw [bind_assoc]
    congr 1
  · rfl
def NoOwn (ρ : List Sl) : Prop := ∀ s ∈ ρ, isOwn s = false
theorem NoOwn.set {ρ : List Sl} (h : NoOwn ρ) (i : Nat) {s : Sl} (hs : isOwn s = false) : NoOwn (ρ.set i s) := fun t ht => (List.mem_or_eq_of_mem_set ht).elim (h t) fun e => by rw [e]; exact hs
theorem NoOwn.wipe {ρ : List Sl} (h : NoOwn ρ) : ∀ vs : List Nat, NoOwn (wipeR ρ vs)
  | [] => h
  | v :: vs => (NoOwn.wipe h vs).set v rfl
theorem EnvOk.updNo {K : PySem.W.Frag} {mg : Str → Option Value} {C : Ct} {F H : Hp} {σ : St} {ρ : List Sl} {D : Addr} {o : HO} (e : EnvOk K mg C F H σ ρ) (no : NoOwn ρ) (nE : C.E D = none) (nF : F D = none) : EnvOk K mg C F (upd H D o) σ ρ := by
  refine ⟨e.len, e.g0.updFresh nE nF, fun i s ei => ?_, e.sep⟩
  have si := e.sl i s ei
  have hn := no s (List.mem_of_getElem? ei)
  cases s with
  | un => trivial
  | d y => exact si
  | own ys => cases hn
  | odK ys => cases hn
  | odT ys => cases hn
  | cup => exact si
  | fn y => exact si
theorem lc2M_ne {τ τ1 : Type} (u : PyData → M τ) (t : τ → M Bool) (i1 : τ → M (List PyData)) (u1 : PyData → M τ1) (t1 : τ → τ1 → M Bool) (f : τ → τ1 → M PyData) : ∀ (ds : List PyData), NE (lc2M u t i1 u1 t1 f ds)
  | [] => NE.pure _
  | d :: ds => by
    unfold lc2M
    refine (NE.noexc _).bind fun x => (NE.noexc _).bind fun b => ?_
    split
    · exact (NE.noexc _).bind fun y => (NE.noexc _).bind fun _ => (lcM_ne _ _ _ _).bind fun ys => (lc2M_ne u t i1 u1 t1 f ds).bind fun zs => NE.pure _
    · exact lc2M_ne u t i1 u1 t1 f ds
section
variable {X : Cx} {C : Ct} {ρ : List Sl} {elt tg iter tg1 iter1 : Expr} {ifs ifs1 : List Expr} {scope : Scope} {own : List (Str × Nat)} {pos : Pos} {τ τ1 : Type} {mi : M (List PyData)} {u : PyData → M τ} {st : τ → List Sl → List Sl} {mt : τ → M Bool} {i1 : τ → M (List PyData)} {u1 : PyData → M τ1} {st1 : τ1 → List Sl → List Sl} {mt1 : τ → τ1 → M Bool} {me : τ → τ1 → M PyData}
theorem lc2_walk {K : PySem.W.Frag} {mg : Str → Option Value} {g g1 : TG} {tt tt1 : TT} {wi1 : TI} {te : TE} {vs vs1 : List Nat} {J : It} {F H : Hp} {σ : St} {cs : List PyData} {Q : VK} {ds : List PyData}
    (e : EnvOk K mg C F H σ ρ) (q : CupOk K C F H cs) (hJ : ItOk K J F ds) (hz : ds.length ≤ 4096)
    (h : Res K mg C F H (lc2M u mt i1 u1 mt1 me ds cs) (kO K C H Q))
    (hg : ∀ (F H : Hp) (σ : St) (ρ : List Sl) (x : V) (d : PyData) (cs : List PyData) (Q : St → Hp → Prop), EnvOk K mg C.blk F H σ ρ → CupOk K C.blk F H cs → Rp K F x d →
      Res K mg C.blk F H (u d cs) (fun t cs' F' H' => ∀ σ', EnvOk K mg C.blk F' H' σ' (st t ρ) → L2.wipe σ' vs = L2.wipe σ vs → Q σ' H') → g x σ H Q)
    (hg1 : ∀ (F H : Hp) (σ : St) (ρ : List Sl) (x : V) (d : PyData) (cs : List PyData) (Q : St → Hp → Prop), EnvOk K mg C.blk F H σ ρ → CupOk K C.blk F H cs → Rp K F x d →
      Res K mg C.blk F H (u1 d cs) (fun t cs' F' H' => ∀ σ', EnvOk K mg C.blk F' H' σ' (st1 t ρ) → L2.wipe σ' vs1 = L2.wipe σ vs1 → Q σ' H') → g1 x σ H Q)
    (hno : NoOwn ρ) (hst : ∀ t ρ, NoOwn ρ → NoOwn (st t ρ)) (ht : ∀ t σ H Q, tTm K mg C.blk (st t (wipeR ρ vs)) (mt t) σ H Q → tt σ H Q)
    (hi1 : ∀ t σ H Q, tIm K mg C.blk (st t (wipeR ρ vs)) (i1 t) σ H Q → wi1 σ H Q)
    (ht1 : ∀ t t1 σ H Q, tTm K mg C.blk (st1 t1 (wipeR (st t (wipeR ρ vs)) vs1)) (mt1 t t1) σ H Q → tt1 σ H Q)
    (he : ∀ t t1 σ H Q, tM K mg C.blk (st1 t1 (wipeR (st t (wipeR ρ vs)) vs1)) (me t t1) σ H Q → te σ H Q) : ∀ D, H D = none →
    ∃ W : Nat → Nat → Hp → Prop, (∃ m, W 0 m (upd H D (.lst []))) ∧ ∀ i m H, W i m H →
  (J.stop i H ∧ Q (.ref D) H) ∨ (J.go i H ∧ ∃ Nx : Hp → Prop, (∀ H', Nx H' → ∃ m', m' < m ∧ W (i + 1) m' H') ∧ ∀ x H', J.yld i H x H' → g x (L2.wipe σ vs) H' fun σ2 H2 => L2.wipe σ2 vs = L2.wipe σ vs ∧ tt σ2 H2 fun b H3 =>
    if b = true then wi1 σ2 H3 fun J1 H4 => ∃ W1 : Nat → Nat → Hp → Prop, (∃ m, W1 0 m H4) ∧ ∀ j k H, W1 j k H →
      (J1.stop j H ∧ Nx H) ∨ (J1.go j H ∧ ∃ Nx1 : Hp → Prop, (∀ H', Nx1 H' → ∃ k', k' < k ∧ W1 (j + 1) k' H') ∧ ∀ x H', J1.yld j H x H' → g1 x (L2.wipe σ2 vs1) H' fun σ3 H5 => L2.wipe σ3 vs1 = L2.wipe σ2 vs1 ∧ tt1 σ3 H5 fun b H6 =>
        if b = true then te σ3 H6 fun y H7 => ∃ acc, H7 D = some (.lst acc) ∧ acc.length < sizeLine ∧ Nx1 (upd H7 D (.lst (acc ++ [y]))) else Nx1 H6)
    else Nx H3) := by
  intro D nD
  have cD : C.c ≠ some D := q.ne nD
  have FD : F D = none := e.sub.fresh nD
  have hN : ResN K C F H (lc2M u mt i1 u1 mt1 me ds cs) fun ys _ F'' H'' => F'' D = none → ∀ vs, Rps K F'' vs ([] ++ ys) → Q (.ref D) (upd H'' D (.lst vs)) := by
    match e1 : lc2M u mt i1 u1 mt1 me ds cs, h with
    | .ok (ys, cs1), h =>
      intro F1 H1 g1 q1 n1 vs rs
      exact h F1 (upd H1 D (.lst vs)) (g1.updFresh nD n1) (q1.upd cD) D vs nD upd_same n1 cD rs
    | .error (.exc nm x), h => exact absurd e1 (lc2M_ne u mt i1 u1 mt1 me ds cs nm x)
  let W : Nat → Nat → Hp → Prop := fun i m Hc => m = ds.length - i ∧ i ≤ ds.length ∧ ∃ F' cs' acc vacc, Grow C.c F H F' Hc ∧ CupOk K C F' Hc cs' ∧ Hc D = some (.lst vacc) ∧ F' D = none ∧ Rps K F' vacc acc ∧ vacc.length ≤ i * 4096 ∧
    ResN K C F' Hc (lc2M u mt i1 u1 mt1 me (ds.drop i) cs') (fun ys _ F'' H'' => F'' D = none → ∀ vs, Rps K F'' vs (acc ++ ys) → Q (.ref D) (upd H'' D (.lst vs)))
  refine ⟨W, ⟨ds.length, by simp, Nat.zero_le _, F, cs, [], [], Grow.fresh e.sub nD, q.upd cD, upd_same, FD, .nil, Nat.zero_le _, ?_⟩, ?_⟩
  · match lc2M u mt i1 u1 mt1 me ds cs, hN with
    | .ok (ys, cs1), hN =>
      intro F1 H1 g1 q1 n1 vs rs
      have g0 : Grow C.c F H F1 H1 := (Grow.fresh e.sub nD).trans g1
      exact hN F1 H1 g0 q1 n1 vs rs
    | .error _, hN => exact hN.elim
  · rintro i m Hc ⟨rfl, hi, F', cs', acc, vacc, gc, qc, eD, nF', rs, hl, hr⟩
    have ec := e.grow gc
    by_cases hlt : i < ds.length
    · have ed : ds[i]? = some ds[i] := List.getElem?_eq_getElem hlt
      obtain ⟨go, yl⟩ := (hJ i F' Hc gc.le gc.sub).2 _ ed
      refine .inr ⟨go, fun H' => W (i + 1) (ds.length - (i + 1)) H', fun H' w => ⟨ds.length - (i + 1), by omega, w⟩, fun x Hy y => ?_⟩
      obtain ⟨F2, g2, rx⟩ := yl x Hy y
      have q2 : CupOk K C F2 Hy cs' := qc.grow0 (g2 none)
      have gy : Grow C.c F H F2 Hy := gc.trans (g2 C.c)
      have hr2 := hr.grow (g2 C.c)
      rw [List.drop_eq_getElem_cons hlt] at hr2
      unfold lc2M at hr2
      have hu := hr2.bind (mg := mg)
      refine hg F2 Hy (L2.wipe σ vs) (wipeR ρ vs) x ds[i] cs' _ ((e.grow gy).wipe vs).ct q2 rx (hu.mono fun t cs3 F3 H3 g3 q3 h3 σ' e3 wp => ?_)
      refine ⟨by rw [wp, wipe_sub σ vs vs fun _ h => h], ht t σ' H3 _ ⟨F3, cs3, e3, q3, (h3.bind (mg := mg)).mono fun b cs4 F4 H4 g4 q4 h4 => ?_⟩⟩
      have g3' : Grow C.c F2 Hy F3 H3 := g3
      have g4' : Grow C.c F3 H3 F4 H4 := g4
      have gA : Grow C.c F' Hc F4 H4 := (g2 C.c).trans (g3'.trans g4')
      cases b with
      | false =>
        refine ⟨rfl, by omega, F4, cs4, acc, vacc, gc.trans gA, q4, gA.keep _ _ eD cD, gA.nF (by rw [eD]; simp) nF', rs.mono gA.le, by omega, h4⟩
      | true =>
        refine hi1 t σ' H4 _ ⟨F4, cs4, e3.grow g4', q4, ?_⟩
        have h4' : ResN K C F4 H4 ((do
          let ds1 ← noexc (i1 t)
          let _ ← noexc (chk (ds1.length ≤ 4096))
          let ys ← lcM u1 (mt1 t) (me t) ds1
          let zs ← lc2M u mt i1 u1 mt1 me (ds.drop (i + 1))
          pure (ys ++ zs) : M (List PyData)) cs4) _ := h4
        refine (h4'.bind (mg := mg)).mono fun ds1 cs5 F5 H5 g5 q5 h5 J1 hJ1 hz0 => ?_
        obtain ⟨hz1, h5⟩ := h5.chk
        have g5' : Grow C.c F4 H4 F5 H5 := g5
        have gB : Grow C.c F' Hc F5 H5 := gA.trans g5'
        have e5 : EnvOk K mg C.blk F5 H5 σ' (st t (wipeR ρ vs)) := (e3.grow g4').grow g5'
        have eD5 : H5 D = some (.lst vacc) := gB.keep _ _ eD cD
        have n5 : F5 D = none := gB.nF (by rw [eD]; simp) nF'
        have g05 : Grow C.c F H F5 H5 := gc.trans gB
        let W1 : Nat → Nat → Hp → Prop := fun j k Hk => k = ds1.length - j ∧ j ≤ ds1.length ∧ ∃ F' cs' accI vaccI, Grow C.c F H F' Hk ∧ Grow C.c F5 (upd H5 D (.lst vaccI)) F' Hk ∧ CupOk K C F' Hk cs' ∧ Hk D = some (.lst vaccI) ∧ F' D = none ∧ Rps K F' vaccI (acc ++ accI) ∧ vaccI.length ≤ i * 4096 + j ∧
          ResN K C F' Hk ((lcM u1 (mt1 t) (me t) (ds1.drop j) >>= fun ys => (do let zs ← lc2M u mt i1 u1 mt1 me (ds.drop (i + 1)); pure ((accI ++ ys) ++ zs) : M (List PyData))) cs')
            (fun ys _ F'' H'' => F'' D = none → ∀ vs, Rps K F'' vs (acc ++ ys) → Q (.ref D) (upd H'' D (.lst vs)))
        refine ⟨W1, ⟨ds1.length, by simp, Nat.zero_le _, F5, cs5, [], vacc, g05, by rw [upd_id eD5]; exact Grow.refl g5.sub, q5, eD5, n5, by rw [List.append_nil]; exact rs.mono gB.le, by omega, by simpa using h5⟩, ?_⟩
        rintro j k Hk ⟨rfl, hj, Fk, csk, accI, vaccI, gk, gk5, qk, eDk, nk, rk, hlk, hrk⟩
        by_cases hlt1 : j < ds1.length
        · have ed1 : ds1[j]? = some ds1[j] := List.getElem?_eq_getElem hlt1
          obtain ⟨go1, yl1⟩ := (hJ1 j Fk Hk gk5.le gk.sub).2 _ ed1
          refine .inr ⟨go1, fun H' => W1 (j + 1) (ds1.length - (j + 1)) H', fun H' w => ⟨ds1.length - (j + 1), by omega, w⟩, fun x1 Hy1 y1 => ?_⟩
          obtain ⟨F6, g6, rx1⟩ := yl1 x1 Hy1 y1
          have q6 : CupOk K C F6 Hy1 csk := qk.grow0 (g6 none)
          have hr6 := hrk.grow (g6 C.c)
          rw [List.drop_eq_getElem_cons hlt1, lcM_cons] at hr6
          have e6 : EnvOk K mg C.blk F6 Hy1 (L2.wipe σ' vs1) (wipeR (st t (wipeR ρ vs)) vs1) := by
            have nE : C.blk.E D = none := by
              show C.E D = none
              cases zz : C.E D with
              | none => rfl
              | some o => exact absurd nD (e.ent D (by rw [zz]; simp))
            exact (((e5.updNo (hst t _ (hno.wipe vs)) nE n5).grow gk5).grow (g6 C.c)).wipe vs1
          have hu6 := hr6.bind (mg := mg)
          refine hg1 F6 Hy1 (L2.wipe σ' vs1) (wipeR (st t (wipeR ρ vs)) vs1) x1 ds1[j] csk _ e6 q6 rx1 (hu6.mono fun t1 cs7 F7 H7 g7 q7 h7 σ7 e7 wp7 => ?_)
          refine ⟨by rw [wp7, wipe_sub σ' vs1 vs1 fun _ h => h], ht1 t t1 σ7 H7 _ ⟨F7, cs7, e7, q7, (h7.bind (mg := mg)).mono fun b1 cs8 F8 H8 g8 q8 h8 => ?_⟩⟩
          have g7' : Grow C.c F6 Hy1 F7 H7 := g7
          have g8' : Grow C.c F7 H7 F8 H8 := g8
          have gK : Grow C.c Fk Hk F8 H8 := (g6 C.c).trans (g7'.trans g8')
          cases b1 with
          | false =>
            exact ⟨rfl, by omega, F8, cs8, accI, vaccI, gk.trans gK, gk5.trans gK, q8, gK.keep _ _ eDk cD, gK.nF (by rw [eDk]; simp) nk, rk.mono gK.le, by omega, h8⟩
          | true =>
            refine he t t1 σ7 H8 _ ⟨F8, cs8, e7.grow g8', q8, ?_⟩
            have h8' : ResN K C F8 H8 ((do
              let y ← noexc (me t t1)
              lcM u1 (mt1 t) (me t) (ds1.drop (j + 1)) >>= fun ys => (do let zs ← lc2M u mt i1 u1 mt1 me (ds.drop (i + 1)); pure ((accI ++ (y :: ys)) ++ zs) : M (List PyData))) cs8) _ := h8
            refine (h8'.bind (mg := mg)).mono fun dy cs9 F9 H9 g9 q9 h9 v rv => ?_
            have g9' : Grow C.c F8 H8 F9 H9 := g9
            have gL : Grow C.c Fk Hk F9 H9 := gK.trans g9'
            have e9 : H9 D = some (.lst vaccI) := gL.keep _ _ eDk cD
            have n9 : F9 D = none := gL.nF (by rw [eDk]; simp) nk
            have g0 : Grow C.c F H F9 H9 := gk.trans gL
            have b1' : i * 4096 + j < sizeLine := by
              rw [sizeLine_eq]
              have : i * 4096 ≤ 4095 * 4096 := Nat.mul_le_mul_right _ (by omega)
              omega
            refine ⟨vaccI, e9, by omega, rfl, by omega, F9, cs9, accI ++ [dy], vaccI ++ [v], g0.updFresh nD n9, ?_, q9.upd cD, upd_same, n9, ?_, by rw [List.length_append]; simp; omega, ?_⟩
            · have gM := gk5.trans gL
              have gM2 : Grow C.c F5 (upd H5 D (.lst (vaccI ++ [v]))) F9 (upd H9 D (.lst (vaccI ++ [v]))) := by
                have hp : upd H5 D (.lst (vaccI ++ [v])) D ≠ none := by rw [upd_same]; simp
                have gM3 : Grow C.c F5 (upd (upd H5 D (.lst (vaccI ++ [v]))) D (.lst vaccI)) F9 H9 := by rw [upd_upd]; exact gM
                exact gM3.swap n5 hp upd_same
              exact gM2
            · have := (rk.mono gL.le).append (.one rv)
              rw [List.append_assoc] at this
              exact this
            · have h10 : ResN K C F9 H9 ((lcM u1 (mt1 t) (me t) (ds1.drop (j + 1)) >>= fun ys => (do let zs ← lc2M u mt i1 u1 mt1 me (ds.drop (i + 1)); pure (((accI ++ [dy]) ++ ys) ++ zs) : M (List PyData))) cs9) (fun ys _ F'' H'' => F'' D = none → ∀ vs, Rps K F'' vs (acc ++ ys) → Q (.ref D) (upd H'' D (.lst vs))) := by
                have e10 : (fun ys : List PyData => (do let zs ← lc2M u mt i1 u1 mt1 me (ds.drop (i + 1)); pure ((accI ++ (dy :: ys)) ++ zs) : M (List PyData))) = fun ys => (do let zs ← lc2M u mt i1 u1 mt1 me (ds.drop (i + 1)); pure (((accI ++ [dy]) ++ ys) ++ zs)) := by
                  funext ys
                  simp
                rw [← e10]
                exact h9
              exact h10.swapD e9 n9 cD
        · have hj' : j = ds1.length := by omega
          subst hj'
          refine .inl ⟨(hJ1 _ Fk Hk gk5.le gk.sub).1 (Nat.le_refl _), ?_⟩
          rw [List.drop_length] at hrk
          have hrk2 : ResN K C Fk Hk ((do let zs ← lc2M u mt i1 u1 mt1 me (ds.drop (i + 1)); pure ((accI ++ []) ++ zs) : M (List PyData)) csk) _ := hrk
          have h11 := hrk2.map
          refine ⟨rfl, by omega, Fk, csk, acc ++ accI, vaccI, gk, qk, eDk, nk, rk, by omega, ?_⟩
          have e11 : (fun (ys : List PyData) (_ : List PyData) (F'' H'' : Hp) => F'' D = none → ∀ vs, Rps K F'' vs (acc ++ ((accI ++ []) ++ ys)) → Q (.ref D) (upd H'' D (.lst vs))) = fun ys _ F'' H'' => F'' D = none → ∀ vs, Rps K F'' vs ((acc ++ accI) ++ ys) → Q (.ref D) (upd H'' D (.lst vs)) := by
            simp
          rw [← e11]
          exact h11
    · have hi' : i = ds.length := by omega
      subst hi'
      refine .inl ⟨(hJ _ F' Hc gc.le gc.sub).1 (Nat.le_refl _), ?_⟩
      rw [List.drop_length] at hr
      have z := hr F' Hc (Grow.refl gc.sub) qc nF' vacc (by rw [List.append_nil]; exact rs)
      rw [upd_id eD] at z
      exact z
theorem fo_lc2 {g g1 : TG} {vs1 : List Nat} (hc : X.calm = true) (hN : X.N.Nodup) (hi : FI X C ρ tg iter mi) (ok : BlkOk X.N X.env.scope scope own) (hv : ∀ i ∈ vs1, i ∈ own.map (·.2)) (hno : NoOwn ρ) (hst : ∀ t ρ, NoOwn ρ → NoOwn (st t ρ))
    (hg : ∀ (s : Shared) (H : Hp) (Ca : Addr) (cl : List (Str × Addr)) (fp : List Addr), FG (X.blk s H scope (compEnvC scope cl Ca X.env) fp) tg u st (own.map (·.2)) g)
    (ht : ∀ (t : τ) (s : Shared) (H : Hp) (Ca : Addr) (cl : List (Str × Addr)) (fp : List Addr), FTs (X.blk s H scope (compEnvC scope cl Ca X.env) fp) C.blk (st t (wipeR ρ (own.map (·.2)))) ifs (mt t))
    (hi1 : ∀ (t : τ) (s : Shared) (H : Hp) (Ca : Addr) (cl : List (Str × Addr)) (fp : List Addr), FI (X.blk s H scope (compEnvC scope cl Ca X.env) fp) C.blk (st t (wipeR ρ (own.map (·.2)))) tg1 iter1 (i1 t))
    (hg1 : ∀ (s : Shared) (H : Hp) (Ca : Addr) (cl : List (Str × Addr)) (fp : List Addr), FG (X.blk s H scope (compEnvC scope cl Ca X.env) fp) tg1 u1 st1 vs1 g1)
    (ht1 : ∀ (t : τ) (t1 : τ1) (s : Shared) (H : Hp) (Ca : Addr) (cl : List (Str × Addr)) (fp : List Addr), FTs (X.blk s H scope (compEnvC scope cl Ca X.env) fp) C.blk (st1 t1 (wipeR (st t (wipeR ρ (own.map (·.2)))) vs1)) ifs1 (mt1 t t1))
    (he : ∀ (t : τ) (t1 : τ1) (s : Shared) (H : Hp) (Ca : Addr) (cl : List (Str × Addr)) (fp : List Addr), FE (X.blk s H scope (compEnvC scope cl Ca X.env) fp) C.blk (st1 t1 (wipeR (st t (wipeR ρ (own.map (·.2)))) vs1)) elt (me t t1))
    (hs : ∀ x, foldedSetIterable iter X.env x = pure x := by intro _; rfl) (hs1 : ∀ env x, foldedSetIterable iter1 env x = pure x := by intro _ _; rfl) :
    FO X C ρ (.ListComp elt [⟨tg, iter, ifs, 0⟩, ⟨tg1, iter1, ifs1, 0⟩] scope pos) (do let ds ← mi; let _ ← noexc (chk (ds.length ≤ 4096)); lc2M u mt i1 u1 mt1 me ds) := by
  refine ⟨imE (pe_lc2 (wi := tIm X.K X.mg C ρ mi) (g := g) (tt := fun σ H Q => ∃ t, tTm X.K X.mg C.blk (st t (wipeR ρ (own.map (·.2)))) (mt t) σ H Q) (wi1 := fun σ H R => ∃ t, tIm X.K X.mg C.blk (st t (wipeR ρ (own.map (·.2)))) (i1 t) σ H R) (g1 := g1)
      (tt1 := fun σ H Q => ∃ t t1, tTm X.K X.mg C.blk (st1 t1 (wipeR (st t (wipeR ρ (own.map (·.2)))) vs1)) (mt1 t t1) σ H Q) (te := fun σ H Q => ∃ t t1, tM X.K X.mg C.blk (st1 t1 (wipeR (st t (wipeR ρ (own.map (·.2)))) vs1)) (me t t1) σ H Q)
      hc hN hi.pi ok hv (fun s H Ca cl fp => (hg s H Ca cl fp).pg) (fun s H Ca cl fp => ⟨fun pins s' σ H' Q I ⟨t, w⟩ => (ht t s H Ca cl fp).pt.run pins s' σ H' Q I w⟩)
      (fun s H Ca cl fp => ⟨fun pins s' σ H' Q I ⟨t, w⟩ => (hi1 t s H Ca cl fp).pi.run pins s' σ H' Q I w⟩) (fun s H Ca cl fp => (hg1 s H Ca cl fp).pg) (fun s H Ca cl fp => ⟨fun pins s' σ H' Q I ⟨t, t1, w⟩ => (ht1 t t1 s H Ca cl fp).pt.run pins s' σ H' Q I w⟩)
      (fun s H Ca cl fp => ⟨fun pins s' σ H' Q I ⟨t, t1, w⟩ => (he t t1 s H Ca cl fp).pe.run pins s' σ H' Q I w⟩) hs hs1) fun σ H Q h => ?_⟩
  obtain ⟨F, cs, e, q, h⟩ := h
  rw [show ((do let ds ← mi; let _ ← noexc (chk (ds.length ≤ 4096)); lc2M u mt i1 u1 mt1 me ds : M (List PyData)) cs) = _ from M.bind_run _ _ _] at h
  refine ⟨F, cs, e, q, ?_⟩
  match e1 : mi cs, h with
  | .ok (ds, cs1), h =>
    intro F1 H1 g0 q1 J hJ hz
    have h : Res X.K X.mg C F H ((noexc (chk (ds.length ≤ 4096)) >>= fun _ => lc2M u mt i1 u1 mt1 me ds) cs1) (kO X.K C H Q) := h
    by_cases hp : ds.length ≤ 4096
    · rw [chk_true hp] at h
      have h : Res X.K X.mg C F H (lc2M u mt i1 u1 mt1 me ds cs1) (kO X.K C H Q) := h
      have h' : Res X.K X.mg C F1 H1 (lc2M u mt i1 u1 mt1 me ds cs1) (kO X.K C H1 Q) := by
        match e2 : lc2M u mt i1 u1 mt1 me ds cs1, h with
        | .ok (ys, cs2), h => exact fun F2 H2 g2 q2 a vs n1 => h F2 H2 (g0.trans g2) q2 a vs (g0.free n1)
        | .error (.exc nm x), h => exact absurd e2 (lc2M_ne u mt i1 u1 mt1 me ds cs1 nm x)
      exact lc2_walk (st := st) (st1 := st1) (tt := fun σ H Q => ∃ t, tTm X.K X.mg C.blk (st t (wipeR ρ (own.map (·.2)))) (mt t) σ H Q) (wi1 := fun σ H R => ∃ t, tIm X.K X.mg C.blk (st t (wipeR ρ (own.map (·.2)))) (i1 t) σ H R)
        (tt1 := fun σ H Q => ∃ t t1, tTm X.K X.mg C.blk (st1 t1 (wipeR (st t (wipeR ρ (own.map (·.2)))) vs1)) (mt1 t t1) σ H Q) (te := fun σ H Q => ∃ t t1, tM X.K X.mg C.blk (st1 t1 (wipeR (st t (wipeR ρ (own.map (·.2)))) vs1)) (me t t1) σ H Q) (e.grow g0) q1 hJ hp h' (fun F H σ ρ x d cs Q e q r w => (hg ({} : Shared) (fun _ => none) 0 [] []).ok X.mg C.blk F H σ ρ x d cs Q e q r w) (fun F H σ ρ x d cs Q e q r w => (hg1 ({} : Shared) (fun _ => none) 0 [] []).ok X.mg C.blk F H σ ρ x d cs Q e q r w)
        hno hst (fun t σ H Q w => ⟨t, w⟩) (fun t σ H Q w => ⟨t, w⟩) (fun t t1 σ H Q w => ⟨t, t1, w⟩) (fun t t1 σ H Q w => ⟨t, t1, w⟩)
    · have ez : chk (ds.length ≤ 4096) = stuck := if_neg hp
      rw [ez] at h
      have hf : False := h
      exact hf.elim
  | .error (.exc nm x), h => exact h
end
end DL
end
section
set_option Elab.async false
set_option linter.all false
set_option maxRecDepth 100000
set_option maxHeartbeats 4000000
set_option autoImplicit false
namespace DL
open PySem PySem.Spec PyProof.Rows L2 RZ
section
variable {X : Cx} {C : Ct} {ρ : List Sl} {τ τ' β : Type} {emb : τ → List Sl} {emb' : τ' → List Sl} {embL : β → List Sl} {rk : Bool} {rest : List Stmt} {s : Stmt} {e c : Expr} {m : M PyData} {pos p1 p2 q1 q2 apos bpos : Pos} {x y z : Str}
/-- y, z = x.pop(), x.pop() -/
theorem fb_pop2 {px py pt pt2 : Pos} {kt k2 : Nat} (i j l : Nat) {xs : List PyData} {k : PyData → PyData → M (Fl τ β)} (hc : X.calm = true) (hij : i ≠ j) (hil : i ≠ l) (hjl : j ≠ l) (hNd : X.N.Nodup) (hk : ∀ d d2, FB X C (((ρ.set i (.own xs.dropLast.dropLast)).set j (.d d)).set l (.d d2)) emb embL rk rest (k d d2))
    (hρ : ρ[i]? = some (.own xs) := by rfl) (hN : X.N[i]? = some x := by rfl) (hNj : X.N[j]? = some y := by rfl) (hNl : X.N[l]? = some z := by rfl)
    (hv : Vis X.env.scope x := by first | exact Or.inl rfl | exact Or.inr (Or.inl rfl) | exact Or.inr (Or.inr rfl)) (hd : (x == ("__debug__" : Str)) = false := by decide) (hcd : (x == ("__classdict__" : Str)) = false := by decide)
    (hy : X.env.scope.names.lookup y = some .local := by rfl) (hz : X.env.scope.names.lookup z = some .local := by rfl)
    (hb1 : attributeBase (.Name x p2) "pop" X.env (eval (.Name x p2) X.env) = eval (.Name x p2) X.env := by rfl) (hl1 : (apos.endLine == p1.line) = true := by rfl)
    (hb2 : attributeBase (.Name x q2) "pop" X.env (eval (.Name x q2) X.env) = eval (.Name x q2) X.env := by rfl) (hl2 : (bpos.endLine == q1.line) = true := by rfl)
    (hw : swappedStores [.Tuple [.Name y px, .Name z py] kt pt] (.Tuple [.Call (.Attribute (.Name x p2) "pop" apos) [] [] p1, .Call (.Attribute (.Name x q2) "pop" bpos) [] [] q1] k2 pt2) X.env = pure (some [y, z]) := by rfl)
    (hs : swapsWithSole [.Tuple [.Name y px, .Name z py] kt pt] (.Tuple [.Call (.Attribute (.Name x p2) "pop" apos) [] [] p1, .Call (.Attribute (.Name x q2) "pop" bpos) [] [] q1] k2 pt2) pos.line X.env = pure false := by rfl)
    (hs1 : starEach [.Call (.Attribute (.Name x p2) "pop" apos) [] [] p1, .Call (.Attribute (.Name x q2) "pop" bpos) [] [] q1] X.env = (false, eval (.Call (.Attribute (.Name x p2) "pop" apos) [] [] p1) X.env) :: starEach [.Call (.Attribute (.Name x q2) "pop" bpos) [] [] q1] X.env := by rfl)
    (hs2 : starEach [.Call (.Attribute (.Name x q2) "pop" bpos) [] [] q1] X.env = (false, eval (.Call (.Attribute (.Name x q2) "pop" bpos) [] [] q1) X.env) :: starEach [] X.env := by rfl) :
    FB X C ρ emb embL rk (.Assign [.Tuple [.Name y px, .Name z py] kt pt] (.Tuple [.Call (.Attribute (.Name x p2) "pop" apos) [] [] p1, .Call (.Attribute (.Name x q2) "pop" bpos) [] [] q1] k2 pt2) pos :: rest) (do let d ← optM xs.getLast?; let d2 ← optM xs.dropLast.getLast?; k d d2) := by
  have pa := pa_cons (X := X) (pe_bm0 PySem.F.plainAttrs_list PySem.F.slot_list_pop PySem.F.type_list_pop (fun pins s σ H x xs v us Q I rx rxs h => mt_pop pins s σ H x xs v us Q I rx rxs h) (pe_var hN hv hd hcd) hb1 hl1)
    (pa_cons (pe_bm0 PySem.F.plainAttrs_list PySem.F.slot_list_pop PySem.F.type_list_pop (fun pins s σ H x xs v us Q I rx rxs h => mt_pop pins s σ H x xs v us Q I rx rxs h) (pe_var hN hv hd hcd) hb2 hl2) pa_nil hs2) hs1
  have e2 : (do let p ← optM xs.getLast?; let q ← optM xs.dropLast.getLast?; k p q) = (do let pq ← (do let p ← optM xs.getLast?; let q ← optM xs.dropLast.getLast?; pure (p, q)); k pq.1 pq.2) := by simp
  rw [e2]
  refine fb_step (ps_par hc hNd hNj hNl hjl hy hz pa hw hs) fun D σ H h => ?_
  rw [← e2] at h
  obtain ⟨F, cs, e, q, h⟩ := h
  obtain ⟨a, vs, e1, e2, e3, e4, e5, r⟩ := e.sl i _ hρ
  have hi : i < ρ.length := (List.getElem?_eq_some_iff.mp hρ).1
  cases hx : xs.getLast? with
  | none => rw [hx] at h; exact h.elim
  | some d =>
    rw [hx] at h
    cases hx2 : xs.dropLast.getLast? with
    | none => rw [hx2] at h; exact h.elim
    | some d2 =>
      rw [hx2] at h
      have hl := r.length
      have rl := r.dropLast
      have hl2 := rl.length
      rw [List.getLast?_eq_getElem?] at hx hx2
      obtain ⟨v, hv2, rv⟩ := r.get hx
      obtain ⟨w, hw2, rw'⟩ := rl.get hx2
      have ev2 : EnvOk X.K X.mg C F (L2.upd H a (.lst vs.dropLast)) σ (ρ.set i (.own xs.dropLast)) := e.write i hρ e1 e3 e4 e5 rl
      have ev3 := ev2.write i (List.getElem?_set_self hi) e1 e3 e4 e5 rl.dropLast
      rw [List.set_set] at ev3
      refine ⟨.ref a, e1, .inl ⟨rfl, vs, .inl (.inl e2)⟩, a, vs, v, rfl, rfl, e2, by rw [hl]; exact hv2, ?_⟩
      refine ⟨.ref a, e1, .inl ⟨rfl, vs.dropLast, .inl (.inl upd_same)⟩, a, vs.dropLast, w, rfl, rfl, upd_same, by rw [hl2]; exact hw2, v, w, rfl, ?_⟩
      exact ⟨(d, d2), _, (hk d d2).ps, F, cs, (ev3.setD j rv).setD l rw', (q.upd e4).upd e4, h⟩
end
end DL
end
section
set_option Elab.async false
set_option linter.all false
set_option maxRecDepth 100000
set_option maxHeartbeats 4000000
set_option autoImplicit false
namespace DL
open PySem PySem.Spec PyProof.Rows L2 RZ
/-! ### the words of a printed mirror -/
abbrev mOp (f : PyData → PyData → M PyData) (ma mb : M PyData) : M PyData := do let x ← ma; let y ← mb; f x y
abbrev mUn (f : PyData → M PyData) (ma : M PyData) : M PyData := do let x ← ma; f x
abbrev mChain (f f' : PyData → PyData → M PyData) (ma mb mc : M PyData) : M PyData := do let x ← ma; let y ← mb; let z ← f x y; let t ← asB z; if t = true then (do let w ← mc; f' y w) else pure (.bool false)
abbrev mAnd (m n : M PyData) : M PyData := do let z ← m; let t ← asB z; if t = true then n else pure (.bool false)
abbrev mOr (m n : M PyData) : M PyData := do let z ← m; let t ← asB z; if t = true then pure (.bool true) else n
abbrev mNot (m : M PyData) : M PyData := do let z ← m; let t ← asB z; pure (.bool (!t))
abbrev mIf (t : M Bool) (ma mb : M PyData) : M PyData := do let z ← t; if z = true then ma else mb
abbrev mSl (m : M PyData) (ml mh : M (Option Int)) : M PyData := do let x ← m; let l ← ml; let h ← mh; pslice x l h
abbrev pSome (m : M PyData) : M (Option Int) := do let x ← m; let i ← asI x; pure (some i)
abbrev mTup (ms : List (M PyData)) : M PyData := do let xs ← runs ms; pure (.tuple xs)
abbrev mLst (mo : M (List PyData)) : M PyData := do let xs ← mo; pure (.list xs)
abbrev mCall (g : List PyData → M PyData) (ms : List (M PyData)) : M PyData := do let ds ← runs ms; liftP (g ds)
abbrev mCallC (g : List PyData → M PyData) (ms : List (M PyData)) : M PyData := do let ds ← runs ms; g ds
abbrev oCall (g : List PyData → M PyData) (ms : List (M PyData)) : M (List PyData) := do let ds ← runs ms; let d ← liftP (g ds); asL d
abbrev mCup (m : M PyData) : M PyData := do let d ← m; cupIx d
abbrev mStr (f : Str → PyData → M PyData) (mo m : M PyData) : M PyData := do let x ← mo; let z ← asS x; let y ← m; f z y
abbrev mTwo (f : PyData → PyData → M PyData) (ma mb : M PyData) : M PyData := do let d ← ma; let e ← mb; f d e
abbrev tCmp (f : PyData → PyData → M PyData) (ma mb : M PyData) : M Bool := do let x ← ma; let y ← mb; let z ← f x y; asB z
abbrev tVal (m : M PyData) : M Bool := do let z ← m; asB z
abbrev tNo (m : M Bool) : M Bool := do let b ← m; pure (!b)
abbrev tAnd (m n : M Bool) : M Bool := do let t ← m; if t = true then n else pure false
abbrev tOr (m n : M Bool) : M Bool := do let t ← m; if t = true then pure true else n
abbrev iAll (m : M PyData) : M (List PyData) := do let d ← m; pitems d
abbrev iRange1 (m : M PyData) : M (List PyData) := do let d ← m; let n ← asI d; chk (-(2 ^ 62) ≤ n ∧ n ≤ 16777216); pure (rangeD 0 n)
abbrev iRange2 (ma mb : M PyData) : M (List PyData) := do let d ← ma; let e ← mb; let i ← asI d; let j ← asI e; chk (-(2 ^ 61) ≤ i ∧ i < 2 ^ 61 ∧ -(2 ^ 61) ≤ j ∧ j < 2 ^ 61 ∧ j - i ≤ 16777216); pure (rangeD i j)
abbrev iZip' (ma mb : M PyData) : M (List PyData) := do let x ← ma; let y ← mb; pzip x y
abbrev oLc {τ : Type} (mi : M (List PyData)) (u : PyData → M τ) (t : τ → M Bool) (f : τ → M PyData) : M (List PyData) := do let ds ← mi; lcM u t f ds
abbrev oLc2 {τ τ1 : Type} (mi : M (List PyData)) (u : PyData → M τ) (t : τ → M Bool) (i1 : τ → M (List PyData)) (u1 : PyData → M τ1) (t1 : τ → τ1 → M Bool) (f : τ → τ1 → M PyData) : M (List PyData) := do let ds ← mi; let _ ← noexc (chk (ds.length ≤ 4096)); lc2M u t i1 u1 t1 f ds
abbrev oListRg (m : M PyData) : M (List PyData) := do let d ← m; let n ← asI d; chk (0 ≤ n ∧ n ≤ 16777216); pure (rangeD 0 n)
abbrev oList (m : M PyData) : M (List PyData) := do let d ← m; seqOf d
abbrev oAdd (ma mb : M PyData) : M (List PyData) := do let x ← ma; let y ← mb; let z ← padd x y; asL z
section
variable {τ τ' υ β α : Type}
abbrev sRet (m : M PyData) : M (Fl τ β) := do let d ← m; pure (.rt d)
abbrev sRetO (mo : M (List PyData)) : M (Fl τ β) := do let xs ← mo; pure (.rt (.list xs))
abbrev sIfR (mc : M Bool) (mA : M (Fl Empty β)) (mr : M (Fl τ β)) : M (Fl τ β) := do let b ← mc; if b = true then castF mA else mr
abbrev sIfRR (mc : M Bool) (mA mB : M (Fl τ β)) : M (Fl τ β) := do let b ← mc; if b = true then mA else mB
abbrev sIf (mc : M Bool) (mA mB : M (Fl τ' β)) (k : τ' → M (Fl τ β)) : M (Fl τ β) := thenF (do let b ← mc; if b = true then mA else mB) k
abbrev sFor (mi : M (List PyData)) (u : PyData → M υ) (mb : υ → τ' → M (Fl τ' τ')) (t0 : τ') (k : τ' → M (Fl τ β)) : M (Fl τ β) := do let ds ← mi; let r ← pFor u mb ds t0; contL r k
noncomputable abbrev sWhile (mc : τ' → M Bool) (mb : τ' → M (Fl τ' τ')) (t0 : τ') (k : τ' → M (Fl τ β)) : M (Fl τ β) := do let r ← pWhile mc mb t0; contL r k
abbrev sCupSet (m mi : M PyData) (k : M (Fl τ β)) : M (Fl τ β) := do let d ← m; let j ← mi; cupSet j d; k
abbrev sApp (m : M PyData) (xs : List PyData) (k : PyData → M (Fl τ β)) : M (Fl τ β) := do let d ← m; chk (xs.length < sizeLine); k d
abbrev sPop (xs : List PyData) (k : PyData → M (Fl τ β)) : M (Fl τ β) := do let d ← optM xs.getLast?; k d
abbrev sPop2 (xs : List PyData) (k : PyData → PyData → M (Fl τ β)) : M (Fl τ β) := do let d ← optM xs.getLast?; let d2 ← optM xs.dropLast.getLast?; k d d2
abbrev sNewCup (mo : M (List PyData)) (k : List PyData → M (Fl τ Empty)) : M (Fl τ Empty) := do let xs ← mo; withCup xs (k xs)
abbrev sPar {α α' : Type} (va : M α) (vb : M α') (k : α → α' → M (Fl τ β)) : M (Fl τ β) := do let p ← va; let q ← vb; k p q
end
/-! ### what is known of a def -/
structure DefF (K : PySem.W.Frag) (mg : Str → Option Value) (x : Str) (st : Stmt) : Prop where
  ex : ∃ f fd, Fun K x x st f fd ∧ mg x = some (.ref f)
structure GlobF (K : PySem.W.Frag) (mg : Str → Option Value) (x : Str) (d : PyData) : Prop where
  ex : ∃ u v, mg x = some u ∧ RelV v u ∧ ∀ F, Rp K F v d
theorem GlobF.int {K : PySem.W.Frag} {mg : Str → Option Value} {x : Str} {i : Int} {t : Tok} (h : mg x = some (.int i t)) : GlobF K mg x (.int i) := ⟨_, .int i, h, ⟨t, rfl⟩, fun _ => .int i⟩
theorem GlobF.str {K : PySem.W.Frag} {mg : Str → Option Value} {x z : Str} {t : Tok} (h : mg x = some (.str z t)) : GlobF K mg x (.str z) := ⟨_, .str z, h, ⟨t, rfl⟩, fun _ => .str z⟩
/-- what is promised of the def x -/
structure Pr (P : Program) (w : World) (K : PySem.W.Frag) (mg : Str → Option Value) (base : Heap) (k : Nat) (x : Str) (ps : List Str) (sp : Sp) : Prop where
  ex : ∃ f fd, FnOk P w K mg base (L2.CX P w) k f fd ps sp ∧ mg x = some (.ref f) ∧ PySem.W.keepIn K (.ref f) = true ∧ Binds K fd ps [] ∧ (∃ oc od osl, K.lookup f = some ⟨oc, od, .func fd, osl⟩) ∧ ∀ us : List Value, us.length = ps.length → bindArgs fd ⟨us, []⟩ = pure (ps.zip us)
theorem fun_more {K : PySem.W.Frag} {x qual : Str} {st : Stmt} {f : Addr} {fd : FuncData} {ps : List Str} (F : Fun K x qual st f fd)
    (h : ∀ (kV doc pm : Value) (an : Option Addr) (cdv ct : Value) (us : List Value), us.length = ps.length → bindArgs (PySem.W.fnOf x qual (defArgs st) (defBody st) (defScope st) .none kV doc pm an cdv ct) ⟨us, []⟩ = pure (ps.zip us)) :
    (∃ oc od osl, K.lookup f = some ⟨oc, od, .func fd, osl⟩) ∧ ∀ us : List Value, us.length = ps.length → bindArgs fd ⟨us, []⟩ = pure (ps.zip us) := by
  obtain ⟨oc, od, kV, doc, pm, an, cdv, ct, osl, rfl, lk, hcd⟩ := F.ex
  exact ⟨⟨oc, od, osl, lk⟩, fun us hu => h kV doc pm an cdv ct us hu⟩
section
variable {P : Program} {w : World} {K : PySem.W.Frag} {mg : Str → Option Value} {base : Heap}
theorem pr_d {x : Str} {st : Stmt} {N ps : List Str} {k n un : Nat} {cup rk : Bool} {g : List PyData → M PyData} (D : DefF K mg x st) (S : FnScope N ps (defScope st))
    (hbind : ∀ (kV doc pm : Value) (an : Option Addr) (cdv ct : Value) (us : List Value), us.length = ps.length → bindArgs (PySem.W.fnOf x x (defArgs st) (defBody st) (defScope st) .none kV doc pm an cdv ct) ⟨us, []⟩ = pure (ps.zip us))
    (hp : ps.length = (if cup = true then 1 else 0) + n) (hu : N.length = ps.length + un)
    (hb : ∀ (f : Addr) (cdv : Value) (A : Around) (outer : List Env) (s : Shared) (H : Hp) (E : XK) (C : Ct) (ds : List PyData), Room k (A.deeper (envOfC x (defScope st) s.heap.objs.size f cdv)) →
      Takes (cxD P w K mg base N x (defScope st) f cdv A outer s H E) C.W → PassesOwn (model P w) (cxD P w K mg base N x (defScope st) f cdv A outer s H E).A (cxD P w K mg base N x (defScope st) f cdv A outer s H E).env (cxD P w K mg base N x (defScope st) f cdv A outer s H E).xe → C.rx = [] → C.c.isSome = cup → ds.length = n →
      ∃ m : M (Fl Unit Empty), (∀ cs, g ds cs = finish m cs) ∧ FB (cxD P w K mg base N x (defScope st) f cdv A outer s H E) C (slots0 cup ds un) (fun _ : Unit => []) (fun b : Empty => nomatch b) rk (defBody st) m)
    (hrk : rk = true → ∀ ds cs cs', ds.length = n → g ds cs ≠ .ok (.none, cs')) : Pr P w K mg base (k + 1) x ps (spD K mg cup rk n g) := by
  obtain ⟨f, fd, F, hm⟩ := D.ex
  exact ⟨f, fd, fn_d F S hp hu (hb f) hrk, hm, F.kp, F.binds hbind, fun_more F hbind⟩
/-- nothing is promised -/
theorem pr_stuck {x : Str} {st : Stmt} {ps : List Str} {k n : Nat} {cup rk : Bool} (D : DefF K mg x st)
    (hbind : ∀ (kV doc pm : Value) (an : Option Addr) (cdv ct : Value) (us : List Value), us.length = ps.length → bindArgs (PySem.W.fnOf x x (defArgs st) (defBody st) (defScope st) .none kV doc pm an cdv ct) ⟨us, []⟩ = pure (ps.zip us)) :
    Pr P w K mg base k x ps (spD K mg cup rk n fun _ => stuck) := by
  obtain ⟨f, fd, F, hm⟩ := D.ex
  have no : ∀ vs H Q E, ¬ spD K mg cup rk n (fun _ => stuck) vs H Q E := by
    rintro vs H Q E ⟨c, ws, ds, F0, cs, rfl, hc, hd, s, r, q, h⟩
    exact h
  exact ⟨f, fd, ⟨fun vs H Q E h => (no vs H Q E h).elim, fun A outer s H args us vs Q E _ _ _ _ h => (no vs H Q E h).elim⟩, hm, F.kp, F.binds hbind, fun_more F hbind⟩
theorem hu64 {k : Nat} {A : Around} (hr : Room k A) : A.units + 64 < cLine := by have := hr.un; omega
theorem hu65 {k : Nat} {A : Around} (hr : Room k A) : A.units + 65 < cLine := by have := hr.un; omega
end
section
variable {X : Cx} {C : Ct} {ρ : List Sl} {a b c e e0 : Expr} {es : List Expr} {ma mb mc m m0 : M PyData} {ms : List (M PyData)} {pos p p0 : Pos} {x y : Str} {k n : Nat} {ps : List Str} {g : List PyData → M PyData}
theorem fe_callP (h : Pr X.prog X.w X.K X.mg X.base k x ps (spD X.K X.mg false false n g)) (hr : Room k X.A) (tk : Takes X C.W) (wk : Wk ρ C.rx) (ha : FA X C ρ (e :: es) ms) (hn : ms.length = n := by rfl) (hg : Gl X x := by rfl) (hdb : (x == ("__debug__" : Str)) = false := by decide)
    (he : starEach (e :: es) X.env = (false, eval e X.env) :: starEach es X.env := by rfl) (hpl : (backTo pos (starEach es X.env)).any (·.1) = false := by rfl) :
    FE X C ρ (.Call (.Name x p) (e :: es) [] pos) (mCall g ms) := by
  obtain ⟨f, fd, F, hm, hk, hb, _⟩ := h.ex
  exact fe_call F hr hm hk hb tk wk ha hn hg hdb he hpl
theorem fo_callP (h : Pr X.prog X.w X.K X.mg X.base k x ps (spD X.K X.mg false true n g)) (hr : Room k X.A) (tk : Takes X C.W) (wk : Wk ρ C.rx) (ha : FA X C ρ (e :: es) ms) (hn : ms.length = n := by rfl) (hg : Gl X x := by rfl) (hdb : (x == ("__debug__" : Str)) = false := by decide)
    (he : starEach (e :: es) X.env = (false, eval e X.env) :: starEach es X.env := by rfl) (hpl : (backTo pos (starEach es X.env)).any (·.1) = false := by rfl) :
    FO X C ρ (.Call (.Name x p) (e :: es) [] pos) (oCall g ms) := by
  obtain ⟨f, fd, F, hm, hk, hb, _⟩ := h.ex
  exact fo_call F hr hm hk hb tk wk ha hn hg hdb he hpl
theorem fe_callPC (i : Nat) (h : Pr X.prog X.w X.K X.mg X.base k x ps (spD X.K X.mg true false n g)) (hr : Room k X.A) (tk : Takes X C.W) (wk : Wk ρ C.rx) (ha : FA X C ρ es ms) (hρ : ρ[i]? = some .cup := by rfl) (hn : ms.length = n := by rfl) (hN : X.N[i]? = some y := by rfl) (hv : Vis X.env.scope y := by first | exact Or.inl rfl | exact Or.inr (Or.inl rfl) | exact Or.inr (Or.inr rfl))
    (hd : (y == ("__debug__" : Str)) = false := by decide) (hcd : (y == ("__classdict__" : Str)) = false := by decide) (hg : Gl X x := by rfl) (hdb : (x == ("__debug__" : Str)) = false := by decide)
    (he : starEach (.Name y p0 :: es) X.env = (false, eval (.Name y p0) X.env) :: starEach es X.env := by rfl) (hpl : (backTo pos (starEach es X.env)).any (·.1) = false := by rfl) :
    FE X C ρ (.Call (.Name x p) (.Name y p0 :: es) [] pos) (mCallC g ms) := by
  obtain ⟨f, fd, F, hm, hk, hb, _⟩ := h.ex
  exact fe_callC i F hr hm hk hb tk wk ha hρ hn hN hv hd hcd hg hdb he hpl
theorem fe_globF {d : PyData} (G : GlobF X.K X.mg x d) (hg : Gl X x := by rfl) (hd : (x == ("__debug__" : Str)) = false := by decide) : FE X C ρ (.Name x pos) (pure d) := by
  obtain ⟨u, v, hm, r, rp⟩ := G.ex
  exact fe_glob hm r rp hg hd
/-- a < b < c as a test -/
theorem ft_chain {op op' : CmpOp} {r r' : R2} {f f' : PyData → PyData → M PyData} (ho : OpR X (compareOp op) r) (ho' : OpR X (compareOp op') r') (hf : Op2 X.K f r) (hf' : Op2 X.K f' r') (ha : FE X C ρ a ma) (hb : FE X C ρ b mb) (hc : FE X C ρ c mc)
    (hm : lastMarks [op, op'] [b, c] = false := by with_unfolding_all rfl) :
    FT X C ρ (.Compare a [op, op'] [b, c] pos) (tVal (mChain f f' ma mb mc)) := by
  refine ⟨imT (pt_chain ho ho' ha.pe hb.pe hc.pe hm) fun σ H Q0 h => ?_⟩
  show tChain r r' (tM X.K X.mg C ρ ma) (tM X.K X.mg C ρ mb) (tM X.K X.mg C ρ mc) σ H fun x H1 => ∃ b, x = .bl b ∧ Q0 b H1
  have h : tM X.K X.mg C ρ (mChain f f' ma mb mc) σ H fun x H1 => ∃ b, x = .bl b ∧ Q0 b H1 := by
    obtain ⟨F, cs, ev, q, h⟩ := h
    exact ⟨F, cs, ev, q, (Res.bind h).mono fun d cs1 F1 H1 g1 q1 h1 v rv => asB_res rv g1.sub q1 h1⟩
  revert h
  generalize (fun (x : V) (H1 : Hp) => ∃ b, x = .bl b ∧ Q0 b H1) = Q
  intro h
  obtain ⟨F, cs, e, q, h⟩ := h
  refine ⟨F, cs, e, q, (Res.bind h).mono fun dx cs1 F1 H1 g1 q1 h1 v rv => ?_⟩
  refine ⟨F1, cs1, e.grow g1, q1, (Res.bind h1).mono fun dy cs2 F2 H2 g2 q2 h2 u ru => ?_⟩
  refine hf _ _ F2 H2 v u dx dy cs2 _ g2.sub q2 (rv.mono g2.le) ru ((Res.bind h2).mono fun dz cs3 F3 H3 g3 q3 h3 w rw' => ?_)
  have h4 := Res.bind h3
  cases rw' with
  | bl t =>
    refine ⟨t, rfl, ?_⟩
    have h5 := h4 F3 H3 (Grow.refl g3.sub) q3
    cases t with
    | true =>
      refine iteT ⟨F3, cs3, (e.grow (g1.trans (g2.trans g3))), q3, (Res.bind h5).mono fun dw cs4 F4 H4 g4 q4 h6 w rw => ?_⟩
      exact hf' _ _ F4 H4 u w dy dw cs4 _ g4.sub q4 (ru.mono (g3.le.trans g4.le)) rw h6
    | false => exact iteF (Res.pure h5 g3.sub q3 _ (.bl false))
  | _ => exact h4.elim
end
abbrev ap1 (f : PyData → M PyData) : List PyData → M PyData | [a] => f a | _ => stuck
abbrev ap2 (f : PyData → PyData → M PyData) : List PyData → M PyData | [a, b] => f a b | _ => stuck
abbrev ap3 (f : PyData → PyData → PyData → M PyData) : List PyData → M PyData | [a, b, c] => f a b c | _ => stuck
abbrev ap4 (f : PyData → PyData → PyData → PyData → M PyData) : List PyData → M PyData | [a, b, c, d] => f a b c d | _ => stuck
abbrev ap5 (f : PyData → PyData → PyData → PyData → PyData → M PyData) : List PyData → M PyData | [a, b, c, d, e] => f a b c d e | _ => stuck
abbrev ap6 (f : PyData → PyData → PyData → PyData → PyData → PyData → M PyData) : List PyData → M PyData | [a, b, c, d, e, g] => f a b c d e g | _ => stuck
abbrev ap0 (f : M PyData) : List PyData → M PyData | [] => f | _ => stuck
end DL
end
section
set_option Elab.async false
set_option linter.all false
set_option maxRecDepth 100000
set_option maxHeartbeats 4000000
set_option autoImplicit false
namespace DL
open PySem PySem.Spec PyProof.Rows L2 RZ
/-! ### small words of the printed walks -/
theorem wk0 {ρ ρ' : List Sl} (h : ρ' = []) : Wk ρ ρ' := by subst h; exact .nil
theorem noOwn_of {ρ : List Sl} (h : ρ.all (fun s => !isOwn s) = true) : NoOwn ρ := fun s hs => by
  have := List.all_eq_true.mp h s hs
  simpa using this
def isCup : Sl → Bool
  | .cup => true
  | _ => false
theorem noCup_of {ρ : List Sl} (h : ρ.all (fun s => !isCup s) = true) : ∀ j : Nat, ρ[j]? ≠ some Sl.cup := fun j e => by
  have := List.all_eq_true.mp h _ (List.mem_of_getElem? e)
  simp [isCup] at this
/-- it ends with a list -/
def RtL (m : M (Fl Unit Empty)) : Prop := ∀ cs fl cs', m cs = .ok (fl, cs') → ∃ xs, fl = .rt (.list xs)
theorem RtL.bind {α : Type} {m : M α} {f : α → M (Fl Unit Empty)} (h : ∀ x, RtL (f x)) : RtL (m >>= f) := fun cs fl cs' e => by
  rw [M.bind_run] at e
  match e1 : m cs, e with
  | .ok (x, cs1), e => exact h x cs1 fl cs' e
theorem RtL.ret {xs : List PyData} : RtL (pure (.rt (.list xs))) := fun cs fl cs' e => by cases e; exact ⟨xs, rfl⟩
theorem hrk_of {m : M (Fl Unit Empty)} (h : RtL m) {cs cs' : List PyData} : finish m cs ≠ .ok (.none, cs') := fun e => by
  unfold finish at e
  rw [M.bind_run] at e
  match e1 : m cs, e with
  | .ok (fl, cs1), e =>
    obtain ⟨xs, rfl⟩ := h cs fl cs1 e1
    cases e
/-- a tuple of texts in the module -/
structure KTupF (K : PySem.W.Frag) (mg : Str → Option Value) (x : Str) (ys : List Str) : Prop where
  ex : ∃ t, mg x = some (.ref t) ∧ (∃ o, K.lookup t = some o ∧ o.cls = .type "tuple" ∧ o.dict = none) ∧ SqT K (fun _ => none) t (ys.map V.str)
theorem rps_strs {K : PySem.W.Frag} {F : Hp} : ∀ ys : List Str, Rps K F (ys.map V.str) (ys.map PyData.str)
  | [] => .nil
  | y :: ys => .cons (.str y) (rps_strs ys)
theorem KTupF.glob {K : PySem.W.Frag} {mg : Str → Option Value} {x : Str} {ys : List Str} (h : KTupF K mg x ys) : GlobF K mg x (.tuple (ys.map .str)) := by
  obtain ⟨t, hm, hk, hq⟩ := h.ex
  exact ⟨_, .ref t, hm, rfl, fun F => .tup (.inr hq) (rps_strs ys)⟩
theorem vals_strs : ∀ {ys : List Str} {its : List Value}, its.length = ys.length → (∀ (i : Nat) (y : Str), ys[i]? = some y → ∃ t, its[i]? = some (.str y t)) → Vals (ys.map V.str) its
  | [], [], _, _ => .nil
  | y :: ys, v :: its, h, g => by
    obtain ⟨t, e⟩ := g 0 y rfl
    cases e
    exact .cons ⟨t, rfl⟩ (vals_strs (by simpa using h) fun i z ez => g (i + 1) z ez)
section
variable {P : Program} {w : World} {K : PySem.W.Frag} {mg : Str → Option Value} {base : Heap}
theorem pr_stuckG {x : Str} {st : Stmt} {ps : List Str} {k n : Nat} {cup rk : Bool} {g : List PyData → M PyData} (D : DefF K mg x st)
    (hbind : ∀ (kV doc pm : Value) (an : Option Addr) (cdv ct : Value) (us : List Value), us.length = ps.length → bindArgs (PySem.W.fnOf x x (defArgs st) (defBody st) (defScope st) .none kV doc pm an cdv ct) ⟨us, []⟩ = pure (ps.zip us))
    (hg : ∀ ds : List PyData, ds.length = n → g ds = stuck) :
    Pr P w K mg base k x ps (spD K mg cup rk n g) := by
  obtain ⟨f, fd, F, hm⟩ := D.ex
  have no : ∀ vs H Q E, ¬ spD K mg cup rk n g vs H Q E := by
    rintro vs H Q E ⟨c, ws, ds, F0, cs, rfl, hc, hd, s, r, q, h⟩
    rw [hg ds hd] at h
    exact h
  exact ⟨f, fd, ⟨fun vs H Q E h => (no vs H Q E h).elim, fun A outer s H args us vs Q E _ _ _ _ h => (no vs H Q E h).elim⟩, hm, F.kp, F.binds hbind, fun_more F hbind⟩
end
section
variable {X : Cx} {C : Ct} {ρ : List Sl} {e : Expr} {m : M PyData} {pos p : Pos} {x : Str} {apos : Pos}
theorem fe_indexKF {ys : List Str} {p2 : Pos} (h : KTupF X.K X.mg x ys) (he : FE X C ρ e m)
    (hg : Gl X x := by rfl) (hd : (x == ("__debug__" : Str)) = false := by decide) (hbase : attributeBase (.Name x p2) "index" X.env (eval (.Name x p2) X.env) = eval (.Name x p2) X.env := by rfl)
    (hfew : ((backTo pos (starEach [e] X.env)).all (fun x => !x.1) && (backToKw pos (keywordEach [] X.env)).all (fun x => x.1.isSome)
      && decide ([e].length + ([] : List Keyword).length + (if ([] : List Keyword).isEmpty then 0 else 1) < 30)) = true := by rfl)
    (hline : (apos.endLine == pos.line) = true := by rfl) (hs : starEach [e] X.env = (false, eval e X.env) :: starEach [] X.env := by rfl) (hplain : (backTo pos (starEach [] X.env)).any (·.1) = false := by rfl) :
    FE X C ρ (.Call (.Attribute (.Name x p2) "index" apos) [e] [] pos) (mUn (pindexK ys) m) := by
  obtain ⟨t, hm, hk, hq⟩ := h.ex
  exact fe_indexK hm hk hq he hg hd hbase hfew hline hs hplain
end
end DL
end
section
set_option Elab.async false
set_option linter.all false
set_option maxRecDepth 100000
set_option maxHeartbeats 4000000
set_option autoImplicit false
namespace DL
open PySem PySem.Spec PyProof.Rows L2 RZ
theorem FG.wide {X : Cx} {τ : Type} {tg : Expr} {u : PyData → M τ} {st : τ → List Sl → List Sl} {vs vs' : List Nat} {g : TG} (h : FG X tg u st vs g) (sub : ∀ i ∈ vs, i ∈ vs') : FG X tg u st vs' g :=
  ⟨h.pg, fun mg C F H σ ρ x d cs Q e q r w => h.ok mg C F H σ ρ x d cs Q e q r (w.mono fun t cs' F' H' g' q' k σ' e' wp => k σ' e' (by
    have a := wipe_sub σ' vs' vs sub
    have b := wipe_sub σ vs' vs sub
    rw [← a, ← b, wp]))⟩
theorem fg_tup2' {X : Cx} {x y : Str} {px py pos : Pos} {k : Nat} (K : PySem.W.Frag) (hK : X.K = K) (i j : Nat) (hc : X.calm = true) (hN : X.N.Nodup) (hi : X.N[i]? = some x := by rfl) (hj : X.N[j]? = some y := by rfl) (hx : Loc X.env.scope x := by first | exact Or.inl rfl | exact Or.inr rfl) (hy : Loc X.env.scope y := by first | exact Or.inl rfl | exact Or.inr rfl)
    (hfx : X.fn x = true ∨ X.env.scope.names.lookup x = some .local := by first | exact Or.inl rfl | exact Or.inr rfl) (hfy : X.fn y = true ∨ X.env.scope.names.lookup y = some .local := by first | exact Or.inl rfl | exact Or.inr rfl) :
    FG X (.Tuple [.Name x px, .Name y py] k pos) unp2 (fun p ρ => (ρ.set i (.d p.1)).set j (.d p.2)) [i, j] (gTup K 2 (gCons (gName i) (gCons (gName j) gNil))) := by
  subst hK
  exact fg_tup2 i j hc hN hi hj hx hy hfx hfy
theorem fg_tup3' {X : Cx} {x y z : Str} {px py pz pos : Pos} {k : Nat} (K : PySem.W.Frag) (hK : X.K = K) (i j l : Nat) (hc : X.calm = true) (hN : X.N.Nodup) (hi : X.N[i]? = some x := by rfl) (hj : X.N[j]? = some y := by rfl) (hl : X.N[l]? = some z := by rfl) (hx : Loc X.env.scope x := by first | exact Or.inl rfl | exact Or.inr rfl) (hy : Loc X.env.scope y := by first | exact Or.inl rfl | exact Or.inr rfl) (hz : Loc X.env.scope z := by first | exact Or.inl rfl | exact Or.inr rfl)
    (hfx : X.fn x = true ∨ X.env.scope.names.lookup x = some .local := by first | exact Or.inl rfl | exact Or.inr rfl) (hfy : X.fn y = true ∨ X.env.scope.names.lookup y = some .local := by first | exact Or.inl rfl | exact Or.inr rfl) (hfz : X.fn z = true ∨ X.env.scope.names.lookup z = some .local := by first | exact Or.inl rfl | exact Or.inr rfl) :
    FG X (.Tuple [.Name x px, .Name y py, .Name z pz] k pos) unp3 (fun p ρ => ((ρ.set i (.d p.1)).set j (.d p.2.1)).set l (.d p.2.2)) [i, j, l] (gTup K 3 (gCons (gName i) (gCons (gName j) (gCons (gName l) gNil)))) := by
  subst hK
  exact fg_tup3 i j l hc hN hi hj hl hx hy hz hfx hfy hfz
abbrev sPar_3 {τ β α α' α'' : Type} (va : M α) (vb : M α') (vc : M α'') (k : α → α' → α'' → M (Fl τ β)) : M (Fl τ β) := do let p ← va; let q ← vb; let r ← vc; k p q r
section
variable {X : Cx} {C : Ct} {ρ : List Sl} {τ τ' β α α' α'' : Type} {emb : τ → List Sl} {emb' : τ' → List Sl} {embL : β → List Sl} {rk : Bool} {rest : List Stmt} {s : Stmt} {a b c : Expr} {m ma mb : M PyData} {pos p' p2 apos : Pos} {x y z : Str}
theorem fb_par_3 {px py pz pt : Pos} {kt k2 : Nat} {pt2 : Pos} {sa : α → Sl} {sb : α' → Sl} {sc : α'' → Sl} {va : M α} {vb : M α'} {vc : M α''} {k : α → α' → α'' → M (Fl τ β)} (i j l : Nat) (hc : X.calm = true) (hN : X.N.Nodup) (hij : i ≠ j) (hil : i ≠ l) (hjl : j ≠ l) (ha : FV X C ρ a sa va) (hb : FV X C ρ b sb vb) (hcc : FV X C ρ c sc vc)
    (hk : ∀ p q r, FB X C (((ρ.set i (sa p)).set j (sb q)).set l (sc r)) emb embL rk rest (k p q r)) (hi : X.N[i]? = some x := by rfl) (hj : X.N[j]? = some y := by rfl) (hl : X.N[l]? = some z := by rfl)
    (hx : X.env.scope.names.lookup x = some .local := by rfl) (hy : X.env.scope.names.lookup y = some .local := by rfl) (hz : X.env.scope.names.lookup z = some .local := by rfl)
    (hw : swappedStores [.Tuple [.Name x px, .Name y py, .Name z pz] kt pt] (.Tuple [a, b, c] k2 pt2) X.env = pure (some [x, y, z]) := by rfl)
    (hs : swapsWithSole [.Tuple [.Name x px, .Name y py, .Name z pz] kt pt] (.Tuple [a, b, c] k2 pt2) pos.line X.env = pure false := by rfl)
    (hs1 : starEach [a, b, c] X.env = (false, eval a X.env) :: starEach [b, c] X.env := by rfl) (hs2 : starEach [b, c] X.env = (false, eval b X.env) :: starEach [c] X.env := by rfl) (hs3 : starEach [c] X.env = (false, eval c X.env) :: starEach [] X.env := by rfl) :
    FB X C ρ emb embL rk (.Assign [.Tuple [.Name x px, .Name y py, .Name z pz] kt pt] (.Tuple [a, b, c] k2 pt2) pos :: rest) (sPar_3 va vb vc k) := by
  have pa : PA X [a, b, c] (tCons (tV X.K X.mg C ρ sa va) (tCons (tV X.K X.mg C ρ sb vb) (tCons (tV X.K X.mg C ρ sc vc) tNil))) := pa_cons ha.pe (pa_cons hb.pe (pa_cons hcc.pe pa_nil hs3) hs2) hs1
  have e2 : (sPar_3 va vb vc k) = (do let pq ← (do let p ← va; let q ← vb; let r ← vc; pure (p, q, r)); k pq.1 pq.2.1 pq.2.2) := by simp [sPar_3]
  rw [e2]
  refine fb_step (ps_par3 hc hN hi hj hl hij hil hjl hx hy hz pa hw hs) fun D σ H h => ?_
  rw [← e2] at h
  obtain ⟨F, cs, e, q, h⟩ := h
  refine ⟨F, cs, e, q, (h.bind e.g0).mono fun p cs1 F1 H1 g1 q1 h1 v nv => ?_⟩
  refine ⟨F1, cs1, e.grow g1, q1, (h1.bind (e.grow g1).g0).mono fun p2 cs2 F2 H2 g2 q2 h2 w nw => ?_⟩
  refine ⟨F2, cs2, (e.grow g1).grow g2, q2, (h2.bind ((e.grow g1).grow g2).g0).mono fun p3 cs3 F3 H3 g3 q3 h3 u nu => ⟨v, w, u, rfl, ?_⟩⟩
  exact ⟨(p, p2, p3), _, (hk p p2 p3).ps, F3, cs3, ((e.setNew g1 i nv).setNew g2 j nw).setNew g3 l nu, q3, h3⟩
theorem fb_tup_3 {px py pz pt : Pos} {kt k2 : Nat} {pt2 : Pos} {sa : α → Sl} {sb : α' → Sl} {sc : α'' → Sl} {va : M α} {vb : M α'} {vc : M α''} {k : α → α' → α'' → M (Fl τ β)} (i j l : Nat) (hc : X.calm = true) (hN : X.N.Nodup) (hij : i ≠ j) (hil : i ≠ l) (hjl : j ≠ l) (ha : FV X C ρ a sa va) (hb : FV X C ρ b sb vb) (hcc : FV X C ρ c sc vc)
    (hk : ∀ p q r, FB X C (((ρ.set i (sa p)).set j (sb q)).set l (sc r)) emb embL rk rest (k p q r)) (hi : X.N[i]? = some x := by rfl) (hj : X.N[j]? = some y := by rfl) (hl : X.N[l]? = some z := by rfl)
    (hx : Loc X.env.scope x := by first | exact Or.inl rfl | exact Or.inr rfl) (hy : Loc X.env.scope y := by first | exact Or.inl rfl | exact Or.inr rfl) (hz : Loc X.env.scope z := by first | exact Or.inl rfl | exact Or.inr rfl)
    (hfx : X.fn x = true ∨ X.env.scope.names.lookup x = some .local := by first | exact Or.inl rfl | exact Or.inr rfl) (hfy : X.fn y = true ∨ X.env.scope.names.lookup y = some .local := by first | exact Or.inl rfl | exact Or.inr rfl) (hfz : X.fn z = true ∨ X.env.scope.names.lookup z = some .local := by first | exact Or.inl rfl | exact Or.inr rfl)
    (hs : swapsWithSole [.Tuple [.Name x px, .Name y py, .Name z pz] kt pt] (.Tuple [a, b, c] k2 pt2) pos.line X.env = pure false := by rfl) (hw : swappedStores [.Tuple [.Name x px, .Name y py, .Name z pz] kt pt] (.Tuple [a, b, c] k2 pt2) X.env = pure none := by rfl)
    (h1 : (assignEach [.Tuple [.Name x px, .Name y py, .Name z pz] kt pt] X.env).map (·.2) = [assign (.Tuple [.Name x px, .Name y py, .Name z pz] kt pt) X.env] := by rfl)
    (hs1 : starEach [a, b, c] X.env = (false, eval a X.env) :: starEach [b, c] X.env := by rfl) (hs2 : starEach [b, c] X.env = (false, eval b X.env) :: starEach [c] X.env := by rfl) (hs3 : starEach [c] X.env = (false, eval c X.env) :: starEach [] X.env := by rfl) :
    FB X C ρ emb embL rk (.Assign [.Tuple [.Name x px, .Name y py, .Name z pz] kt pt] (.Tuple [a, b, c] k2 pt2) pos :: rest) (sPar_3 va vb vc k) := by
  have pa : PA X [a, b, c] (tCons (tV X.K X.mg C ρ sa va) (tCons (tV X.K X.mg C ρ sb vb) (tCons (tV X.K X.mg C ρ sc vc) tNil))) := pa_cons ha.pe (pa_cons hb.pe (pa_cons hcc.pe pa_nil hs3) hs2) hs1
  have e2 : (sPar_3 va vb vc k) = (do let pq ← (do let p ← va; let q ← vb; let r ← vc; pure (p, q, r)); k pq.1 pq.2.1 pq.2.2) := by simp [sPar_3]
  rw [e2]
  refine fb_step (ps_asg (pe_tup pa) (pgt3 i j l hc hN hi hj hl hx hy hz hfx hfy hfz) hs hw h1) fun D σ H h => ?_
  rw [← e2] at h
  obtain ⟨F, cs, e, q, h⟩ := h
  refine ⟨F, cs, e, q, (h.bind e.g0).mono fun p cs1 F1 H1 g1 q1 h1 v nv => ?_⟩
  refine ⟨F1, cs1, e.grow g1, q1, (h1.bind (e.grow g1).g0).mono fun p2 cs2 F2 H2 g2 q2 h2 w nw => ?_⟩
  refine ⟨F2, cs2, (e.grow g1).grow g2, q2, (h2.bind ((e.grow g1).grow g2).g0).mono fun p3 cs3 F3 H3 g3 q3 h3 u nu => ⟨by show 3 ≤ sizeLine; decide, fun T nT => ?_⟩⟩
  have gT : Grow C.c F3 H3 F3 (upd H3 T (.tup [v, w, u])) := Grow.fresh g3.sub nT
  refine ⟨T, [v, w, u], rfl, .inl (.inl upd_same), rfl, v, [w, u], rfl, w, [u], rfl, u, [], rfl, rfl, ?_⟩
  exact ⟨(p, p2, p3), _, (hk p p2 p3).ps, F3, cs3, (((e.setNew g1 i nv).setNew g2 j nw).setNew g3 l nu).grow gT, q3.upd (q3.ne nT), h3⟩
end
end DL
end
section
set_option Elab.async false
set_option linter.all false
set_option maxRecDepth 100000
set_option maxHeartbeats 4000000
set_option autoImplicit false
namespace DL
open PySem PySem.Spec PyProof.Rows L2 RZ
/-! ### the end of a law -/
def spL (K : PySem.W.Frag) (n : Nat) : Sp := fun vs H Q _ => ∃ (a : Addr) (ns : List Int), vs = [.ref a] ∧ SqL K H a (ns.map V.int) ∧ ns.length ≤ n ∧ ∀ H', Q (.bl true) H'
theorem spD_of {K : PySem.W.Frag} {mg : Str → Option Value} {n : Nat} {g : List PyData → M PyData} (hg : ∀ ns : List Int, ns.length ≤ n → g [.list (ns.map .int)] [] = .ok (.bool true, [])) (vs : List V) (H : Hp) (Q : VK) (E : XK) (h : spL K n vs H Q E) : spD K mg false false 1 g vs H Q E := by
  obtain ⟨a, ns, rfl, hS, hl, q⟩ := h
  have key : ∃ F : Hp, Sub F H ∧ FzL K F a (ns.map V.int) := by
    rcases hS with h | h
    · refine ⟨upd (fun _ => none) a (.lst (ns.map V.int)), fun b o e => ?_, .inl upd_same⟩
      by_cases hb : b = a
      · subst hb; rw [upd_same] at e; cases e; exact h
      · rw [upd_ne hb] at e; cases e
    · exact ⟨fun _ => none, (fun b o e => by cases e), .inr (.inr h)⟩
  obtain ⟨F, hs, hf⟩ := key
  refine ⟨none, [.ref a], [.list (ns.map .int)], F, [], rfl, rfl, rfl, hs, .one (.lst hf (Rps.ints ns)), rfl, ?_⟩
  rw [hg ns hl]
  intro F' H' g' q' v rv
  cases rv with
  | bl b => exact q H'
theorem end_law {l : PySem.W.OpenLaw} {n k : Nat} {q : Program} {loose : List Str} {XP : (Str → Option Value) → Heap → Prop} {YP : World → Heap → Prop} {d : DefRec} {K : Params → PySem.W.Frag} {st : Stmt} {g : List PyData → M PyData}
    (hn : l.most = some n) (hn2 : n ≤ sizeLine) (hdf : d.params.defaults = []) (hr : Room k callerA) (hdn : d.name = "law")
    (hY : ∀ (w : World) (h : Heap), YP w h → (K w.params).In h)
    (F : ∀ (w : World) (mg : Str → Option Value) (h : Heap), (K w.params).In h → h.Ns mainGlobals mg → ∀ base : Heap, (K w.params).In base → base.Ns mainGlobals mg → Pr l.prog w (K w.params) mg base k "law" ["script"] (spD (K w.params) mg false false 1 g))
    (D : ∀ (w : World) (mg : Str → Option Value) (h : Heap), (K w.params).In h → h.Ns mainGlobals mg → DefF (K w.params) mg "law" st)
    (hbind : ∀ (kV doc pm : Value) (an : Option Addr) (cdv ct : Value) (us : List Value), us.length = ["script"].length → bindArgs (PySem.W.fnOf "law" "law" (defArgs st) (defBody st) (defScope st) .none kV doc pm an cdv ct) ⟨us, []⟩ = pure ((["script"] : List Str).zip us))
    (hg : ∀ ns : List Int, ns.length ≤ n → g [.list (ns.map .int)] [] = .ok (.bool true, [])) :
    PySem.W.WalkO q loose XP YP l.row.toRowW d [] (fun f vs => PySem.call f vs) := by
  refine walk_of (l := l) (n := n) (k := k) (x := "script") (CX := fun w => L2.CX l.prog w) (sp := fun w => spL (K w.params) n) hn hn2 hdf hr hY (fun w mg fa h KX G hmg => ?_) (fun w H a ns hl _ hS => ⟨a, ns, rfl, hS, hl, fun _ => rfl⟩) (fun _ _ _ _ _ h => by
    obtain ⟨_, _, _, _, _, _, _, _, _, _, _, _, z⟩ := h
    exact z)
  rw [hdn] at hmg
  obtain ⟨f, fd, Fn, hm⟩ := (D w mg h KX G).ex
  rw [hmg] at hm; cases hm
  obtain ⟨⟨oc, od, osl, lk⟩, hb⟩ := fun_more (ps := ["script"]) Fn hbind
  refine ⟨fd, fun s u => .of_eq (hb [u] rfl), fun base KB GB => ?_⟩
  obtain ⟨f', fd', ok, hm', _, _, ⟨oc', od', osl', lk'⟩, _⟩ := (F w mg h KX G base KB GB).ex
  rw [hmg] at hm'; cases hm'
  rw [lk] at lk'; cases lk'
  exact ok.imp (spD_of hg)
/-! ### what the top has written -/
section
variable {K : PySem.W.Frag} {mg : Str → Option Value} {h : Heap}
theorem defF_mk {x : Str} {st : Stmt} {f : Addr} {oc : Value} {od an : Option Addr} {osl : Array (Option Value)} {kV doc pm cdv ct : Value} (X : K.In h) (G : h.Ns mainGlobals mg) (a : PySem.W.nsIn K mainGlobals x = some (some (.ref f)))
    (l : K.lookup f = some ⟨oc, od, .func (PySem.W.fnOf x x (defArgs st) (defBody st) (defScope st) .none kV doc pm an cdv ct), osl⟩) (c : PySem.W.codeIn K cdv x = true) (k : PySem.W.keepIn K (.ref f) = true) : DefF K mg x st :=
  ⟨f, _, fun_mk l c k, PySem.W.mg_of X G a⟩
theorem globI_mk {x : Str} {i : Int} {t : Tok} (X : K.In h) (G : h.Ns mainGlobals mg) (a : PySem.W.nsIn K mainGlobals x = some (some (.int i t))) : GlobF K mg x (.int i) := .int (PySem.W.mg_of X G a)
theorem globS_mk {x z : Str} {t : Tok} (X : K.In h) (G : h.Ns mainGlobals mg) (a : PySem.W.nsIn K mainGlobals x = some (some (.str z t))) : GlobF K mg x (.str z) := .str (PySem.W.mg_of X G a)
def isStrs : List Str → List Value → Bool
  | [], [] => true
  | y :: ys, .str z _ :: vs => (y == z) && isStrs ys vs
  | _, _ => false
theorem isStrs_vals : ∀ {ys : List Str} {its : List Value}, isStrs ys its = true → Vals (ys.map V.str) its
  | [], [], _ => .nil
  | y :: ys, .str z t :: vs, e => by
    unfold isStrs at e
    rw [Bool.and_eq_true] at e
    have e1 : y = z := eq_of_beq e.1
    subst e1
    exact .cons ⟨t, rfl⟩ (isStrs_vals e.2)
theorem ktup_mk {x : Str} {ys : List Str} {t : Addr} {its : Array Value} {n : Nat} {sl : Array (Option Value)} (X : K.In h) (G : h.Ns mainGlobals mg) (a : PySem.W.nsIn K mainGlobals x = some (some (.ref t))) (l : K.lookup t = some ⟨.type "tuple", none, .seq its n, sl⟩) (e : isStrs ys its.toList = true) (z : its.size ≤ sizeLine) : KTupF K mg x ys :=
  ⟨t, PySem.W.mg_of X G a, ⟨_, l, rfl, rfl⟩, .inr ⟨_, its, n, l, rfl, rfl, z, isStrs_vals e⟩⟩
end
end DL
end
section
set_option Elab.async false
set_option linter.all false
set_option maxRecDepth 100000
set_option maxHeartbeats 4000000
set_option autoImplicit false
namespace L76
open PySem PySem.Spec PyProof.Rows L2 RZ DL
def top (i : Nat) : Stmt := PySem.Challenge.pw_productstold_k76_whole_words_that_agree.main.body.getD i (.Pass ⟨0, 0, 0, 0⟩)
structure Top (K : PySem.W.Frag) (mg : Str → Option Value) : Prop where
  d__law_cup : DefF K mg "_law_cup" (top 51)
  d__law_sort : DefF K mg "_law_sort" (top 54)
  d__law_like : DefF K mg "_law_like" (top 55)
  d_is_word : DefF K mg "is_word" (top 15)
  d_is_letter_word : DefF K mg "is_letter_word" (top 44)
  d_is_tuple_of : DefF K mg "is_tuple_of" (top 14)
  d_is_integer : DefF K mg "is_integer" (top 12)
  d_is_whole : DefF K mg "is_whole" (top 13)
  d_are_things : DefF K mg "are_things" (top 16)
  d_fits_product : DefF K mg "fits_product" (top 17)
  d_need_product : DefF K mg "need_product" (top 18)
  d_need_letter_word : DefF K mg "need_letter_word" (top 37)
  d_need_word_pair : DefF K mg "need_word_pair" (top 38)
  d_word_worth_in : DefF K mg "word_worth_in" (top 40)
  d_word_worth : DefF K mg "word_worth" (top 45)
  d_things_in_pairs : DefF K mg "things_in_pairs" (top 41)
  d_row_of_word : DefF K mg "row_of_word" (top 42)
  d_word_row : DefF K mg "word_row" (top 46)
  d__law_roll : DefF K mg "_law_roll" (top 52)
  d__law_some : DefF K mg "_law_some" (top 53)
  d__law_word : DefF K mg "_law_word" (top 60)
  d_need_two_words : DefF K mg "need_two_words" (top 39)
  d_word_counter_in : DefF K mg "word_counter_in" (top 43)
  d_do_words_agree : DefF K mg "do_words_agree" (top 47)
  d_word_counter : DefF K mg "word_counter" (top 48)
  d_is_word_counter : DefF K mg "is_word_counter" (top 49)
  d__law_worth_of : DefF K mg "_law_worth_of" (top 58)
  d_is_letter : DefF K mg "is_letter" (top 19)
  d_letters_in : DefF K mg "letters_in" (top 20)
  d_fits_term : DefF K mg "fits_term" (top 21)
  d_need_term : DefF K mg "need_term" (top 22)
  d_worth_by : DefF K mg "worth_by" (top 26)
  d_steps_in : DefF K mg "steps_in" (top 25)
  d_worth_in : DefF K mg "worth_in" (top 27)
  d_term_worth : DefF K mg "term_worth" (top 32)
  d__law_row : DefF K mg "_law_row" (top 59)
  d_fits_rule : DefF K mg "fits_rule" (top 23)
  d_need_rule : DefF K mg "need_rule" (top 24)
  d_used_in : DefF K mg "used_in" (top 28)
  d_all_things : DefF K mg "all_things" (top 29)
  d_counter_in : DefF K mg "counter_in" (top 30)
  d_does_hold : DefF K mg "does_hold" (top 33)
  d__law_bent : DefF K mg "_law_bent" (top 57)
  d__law_term : DefF K mg "_law_term" (top 62)
  d__law_right : DefF K mg "_law_right" (top 63)
  d_turned_product : DefF K mg "turned_product" (top 31)
  d__law_product : DefF K mg "_law_product" (top 56)
  d__law_is_word : DefF K mg "_law_is_word" (top 61)
  d_law : DefF K mg "law" (top 64)
  z_abs : mg "abs" = none
  z_all : mg "all" = none
  z_bool : mg "bool" = none
  z_int : mg "int" = none
  z_isinstance : mg "isinstance" = none
  z_len : mg "len" = none
  z_list : mg "list" = none
  z_min : mg "min" = none
  z_range : mg "range" = none
  z_str : mg "str" = none
  z_tuple : mg "tuple" = none
  z_zip : mg "zip" = none
  g_LETTERS_basics : GlobF K mg "LETTERS_basics" (.tuple [(.str "a"), (.str "b"), (.str "c"), (.str "d")])
  g_LETTERS_leftwords : GlobF K mg "LETTERS_leftwords" (.str "ab")
  g_LONGEST : GlobF K mg "LONGEST" (.int 40)
  g_MOST : GlobF K mg "MOST" (.int 8)
  g_MOST_LETTERS : GlobF K mg "MOST_LETTERS" (.int 40)
  g_TIMES : GlobF K mg "TIMES" (.str "*")
  k_LETTERS_basics : KTupF K mg "LETTERS_basics" ["a", "b", "c", "d"]
section
variable {P : Program} {w : World} {K : PySem.W.Frag} {mg : Str → Option Value} {base : Heap}
/-! _law_cup -/
abbrev sD__law_cup : Stmt := top 51
theorem sc__law_cup : FnScope ["script", "cell"] ["script"] (defScope sD__law_cup) := ⟨rfl, rfl, rfl, by decide +kernel, rfl, by decide +kernel, by decide +kernel⟩
noncomputable def b__law_cup (d_script : PyData) : M (Fl Unit Empty) := ((mUn pabs (mOp pidx (mOp padd (mLst (oList (pure d_script))) (mLst (runs [(pure (.int 0))]))) (pure (.int 0)))) >>= fun x1 => (sRetO (runs [(mIf (tCmp pge (pure x1) (mOp ppow (pure (.int 10)) (pure (.int 18)))) (mOp pfdiv (pure x1) (pure (.int 73))) (pure (.int 0))), (mOp padd (mOp pmod (mUn pint (mOp padd (mOp pmul (pure x1) (pure (.int 283))) (pure (.int 3907)))) (pure (.int 2077503167))) (pure (.int 167)))])))
noncomputable def m__law_cup (d_script : PyData) : M PyData := finish (b__law_cup d_script)
theorem w__law_cup (T : Top K mg) {d_script : PyData} {f : Addr} {cdv : Value} {A : Around} {outer : List Env} {s : Shared} {H : Hp} {E : XK} {C : Ct} (hr : Room 0 (A.deeper (envOfC "_law_cup" (defScope sD__law_cup) s.heap.objs.size f cdv))) (tk : Takes (cxD P w K mg base ["script", "cell"] "_law_cup" (defScope sD__law_cup) f cdv A outer s H E) C.W) (po : PassesOwn (model P w) (cxD P w K mg base ["script", "cell"] "_law_cup" (defScope sD__law_cup) f cdv A outer s H E).A (cxD P w K mg base ["script", "cell"] "_law_cup" (defScope sD__law_cup) f cdv A outer s H E).env (cxD P w K mg base ["script", "cell"] "_law_cup" (defScope sD__law_cup) f cdv A outer s H E).xe) (hrx : C.rx = []) (hc0 : C.c.isSome = false) :
    FB (cxD P w K mg base ["script", "cell"] "_law_cup" (defScope sD__law_cup) f cdv A outer s H E) C (slots0 false [d_script] 1) (fun _ : Unit => []) (fun b : Empty => nomatch b) true (defBody sD__law_cup) (b__law_cup d_script) := by
  have S := sc__law_cup
  unfold b__law_cup
  exact (fb_set 1 S.nd (fe_abs T.z_abs (fe_idx (fe_op op_addAll (padd_ok _) (fe_of (fo_list T.z_list (fe_name 0))) (fe_of (fo_lst (fa_cons fe_int fa_nil) (by show 1 ≤ sizeLine; decide)))) fe_int)) fun x1 => (fb_retO (fo_lst (fa_cons (fe_ifExp (ft_cmp op_ge (pcmp_ok _ _) (nomark _) (fe_name 1) (fe_op op_pow (ppow_ok _) fe_int fe_int)) (fe_op op_fdiv (pfdiv_ok _) (fe_name 1) fe_int) fe_int) (fa_cons (fe_op op_addAll (padd_ok _) (fe_op op_mod (pmod_ok _) (fe_intOf T.z_int (fe_op op_addAll (padd_ok _) (fe_op op_mulAll (pmul_ok _) (fe_name 1) fe_int) fe_int)) fe_int) fe_int) fa_nil)) (by show 2 ≤ sizeLine; decide))))
theorem ok__law_cup (T : Top K mg) : Pr P w K mg base 1 "_law_cup" ["script"] (spD K mg false true 1 (ap1 m__law_cup)) := by
  have S := sc__law_cup
  exact pr_d (un := 1) T.d__law_cup S (fun _ _ _ _ _ _ us hl => match us, hl with | [_], _ => rfl) rfl rfl (fun f cdv A outer s H E C ds hr tk po hrx hc0 hd => by
    match ds, hd with
    | [d_script], _ => exact ⟨b__law_cup d_script, fun _ => rfl, w__law_cup T hr tk po hrx hc0⟩) (fun _ ds cs cs2 hd => match ds, hd with | [d_script], _ => hrk_of (by unfold b__law_cup; repeat (first | exact RtL.ret | refine RtL.bind fun _ => ?_)))
/-! _law_sort -/
abbrev sD__law_sort : Stmt := top 54
theorem sc__law_sort : FnScope ["value"] ["value"] (defScope sD__law_sort) := ⟨rfl, rfl, rfl, by decide +kernel, rfl, by decide +kernel, by decide +kernel⟩
noncomputable def b__law_sort (d_value : PyData) : M (Fl Unit Empty) := (sIfR (tOr (tCmp pisN (pure d_value) (pure .none)) (tVal (mUn (pisT "bool") (pure d_value)))) (sRet (mIf (tCmp pisN (pure d_value) (pure .none)) (pure (.int 0)) (pure (.int 1)))) (sIfR (tOr (tVal (mUn (pisT "int") (pure d_value))) (tVal (mUn (pisT "str") (pure d_value)))) (sRet (mIf (tVal (mUn (pisT "int") (pure d_value))) (pure (.int 2)) (pure (.int 3)))) (sRet (mIf (tVal (mUn (pisT "tuple") (pure d_value))) (pure (.int 4)) (mIf (tVal (mUn (pisT "list") (pure d_value))) (pure (.int 5)) (pure (.int 6)))))))
noncomputable def m__law_sort (d_value : PyData) : M PyData := finish (b__law_sort d_value)
theorem w__law_sort (T : Top K mg) {d_value : PyData} {f : Addr} {cdv : Value} {A : Around} {outer : List Env} {s : Shared} {H : Hp} {E : XK} {C : Ct} (hr : Room 0 (A.deeper (envOfC "_law_sort" (defScope sD__law_sort) s.heap.objs.size f cdv))) (tk : Takes (cxD P w K mg base ["value"] "_law_sort" (defScope sD__law_sort) f cdv A outer s H E) C.W) (po : PassesOwn (model P w) (cxD P w K mg base ["value"] "_law_sort" (defScope sD__law_sort) f cdv A outer s H E).A (cxD P w K mg base ["value"] "_law_sort" (defScope sD__law_sort) f cdv A outer s H E).env (cxD P w K mg base ["value"] "_law_sort" (defScope sD__law_sort) f cdv A outer s H E).xe) (hrx : C.rx = []) (hc0 : C.c.isSome = false) :
    FB (cxD P w K mg base ["value"] "_law_sort" (defScope sD__law_sort) f cdv A outer s H E) C (slots0 false [d_value] 0) (fun _ : Unit => []) (fun b : Empty => nomatch b) false (defBody sD__law_sort) (b__law_sort d_value) := by
  have S := sc__law_sort
  unfold b__law_sort
  exact (fb_ifR (emb0 := fun z : Empty => nomatch z) (FW.ft (fw_or (ft_cmp op_isN (pisN_ok _) (nomark _) (fe_name 0) fe_non) (fw_or1 (ft_val (fe_isinst "bool" (.inr (.inl rfl)) T.z_isinstance T.z_bool (by decide +kernel) (fe_name 0)))))) (fb_ret (fe_ifExp (ft_cmp op_isN (pisN_ok _) (nomark _) (fe_name 0) fe_non) fe_int fe_int)) (fb_ifR (emb0 := fun z : Empty => nomatch z) (FW.ft (fw_or (ft_val (fe_isinst "int" (.inl rfl) T.z_isinstance T.z_int (by decide +kernel) (fe_name 0))) (fw_or1 (ft_val (fe_isinst "str" (.inr (.inr (.inl rfl))) T.z_isinstance T.z_str (by decide +kernel) (fe_name 0)))))) (fb_ret (fe_ifExp (ft_val (fe_isinst "int" (.inl rfl) T.z_isinstance T.z_int (by decide +kernel) (fe_name 0))) fe_int fe_int)) (fb_ret (fe_ifExp (ft_val (fe_isinst "tuple" (.inr (.inr (.inr (.inl rfl)))) T.z_isinstance T.z_tuple (by decide +kernel) (fe_name 0))) fe_int (fe_ifExp (ft_val (fe_isinst "list" (.inr (.inr (.inr (.inr (.inl rfl))))) T.z_isinstance T.z_list (by decide +kernel) (fe_name 0))) fe_int fe_int)))))
theorem ok__law_sort (T : Top K mg) : Pr P w K mg base 1 "_law_sort" ["value"] (spD K mg false false 1 (ap1 m__law_sort)) := by
  have S := sc__law_sort
  exact pr_d (un := 0) T.d__law_sort S (fun _ _ _ _ _ _ us hl => match us, hl with | [_], _ => rfl) rfl rfl (fun f cdv A outer s H E C ds hr tk po hrx hc0 hd => by
    match ds, hd with
    | [d_value], _ => exact ⟨b__law_sort d_value, fun _ => rfl, w__law_sort T hr tk po hrx hc0⟩) (fun z => nomatch z)
/-! _law_like -/
abbrev sD__law_like : Stmt := top 55
theorem sc__law_like : FnScope ["one", "other", "sort", "first", "second"] ["one", "other"] (defScope sD__law_like) := ⟨rfl, rfl, rfl, by decide +kernel, rfl, by decide +kernel, by decide +kernel⟩
noncomputable def b__law_like (r : PyData → PyData → M PyData) (d_one : PyData) (d_other : PyData) : M (Fl Unit Empty) := ((mCall (ap1 m__law_sort) [(pure d_other)]) >>= fun x1 => (sIfR (tOr (tCmp pne (mCall (ap1 m__law_sort) [(pure d_one)]) (pure x1)) (tCmp peq (pure x1) (pure (.int 6)))) (sRet (pure (.bool false))) (sIfR (tCmp pin (pure x1) (mTup [(pure (.int 4)), (pure (.int 5))])) (sRet (mAnd (mOp peq (mUn plen (pure d_one)) (mUn plen (pure d_other))) (mOp peq (mLst (oLc (iZip' (pure d_one) (pure d_other)) unp2 (fun t2 => (tNo (tVal (mCall (ap2 r) [(pure t2.1), (pure t2.2)])))) (fun t2 => (pure (.int 1))))) (mLst (runs []))))) (sRet (mOp peq (pure d_one) (pure d_other))))))
noncomputable def m__law_like : Nat → PyData → PyData → M PyData
  | 0, _, _ => stuck
  | j + 1, d_one, d_other => finish (b__law_like (m__law_like j) d_one d_other)
theorem w__law_like (T : Top K mg) {j : Nat} {r : PyData → PyData → M PyData} (ih : Pr P w K mg base (2 + j) "_law_like" ["one", "other"] (spD K mg false false 2 (ap2 r))) {d_one : PyData} {d_other : PyData} {f : Addr} {cdv : Value} {A : Around} {outer : List Env} {s : Shared} {H : Hp} {E : XK} {C : Ct} (hr : Room (2 + j) (A.deeper (envOfC "_law_like" (defScope sD__law_like) s.heap.objs.size f cdv))) (tk : Takes (cxD P w K mg base ["one", "other", "sort", "first", "second"] "_law_like" (defScope sD__law_like) f cdv A outer s H E) C.W) (po : PassesOwn (model P w) (cxD P w K mg base ["one", "other", "sort", "first", "second"] "_law_like" (defScope sD__law_like) f cdv A outer s H E).A (cxD P w K mg base ["one", "other", "sort", "first", "second"] "_law_like" (defScope sD__law_like) f cdv A outer s H E).env (cxD P w K mg base ["one", "other", "sort", "first", "second"] "_law_like" (defScope sD__law_like) f cdv A outer s H E).xe) (hrx : C.rx = []) (hc0 : C.c.isSome = false) :
    FB (cxD P w K mg base ["one", "other", "sort", "first", "second"] "_law_like" (defScope sD__law_like) f cdv A outer s H E) C (slots0 false [d_one, d_other] 3) (fun _ : Unit => []) (fun b : Empty => nomatch b) false (defBody sD__law_like) (b__law_like r d_one d_other) := by
  have S := sc__law_like
  unfold b__law_like
  exact (fb_set 2 S.nd (fe_callP (ok__law_sort T) (hr.mono (by omega)) tk (wk0 hrx) (fa_cons (fe_name 1) fa_nil)) fun x1 => (fb_ifR (emb0 := fun z : Empty => nomatch z) (FW.ft (fw_or (ft_cmp (op_neP (hu64 hr)) (pne_ok _) (nomark _) (fe_callP (ok__law_sort T) (hr.mono (by omega)) tk (wk0 hrx) (fa_cons (fe_name 0) fa_nil)) (fe_name 2)) (fw_or1 (ft_cmp (op_eqP (hu64 hr)) (peq_ok _) (nomark _) (fe_name 2) fe_int)))) (fb_ret fe_bl) (fb_ifR (emb0 := fun z : Empty => nomatch z) (ft_cmp (op_inP (hu64 hr)) (pin_ok _) (by with_unfolding_all rfl) (fe_name 2) (fe_tup (fa_cons fe_int (fa_cons fe_int fa_nil)) (by show 2 ≤ sizeLine; decide))) (fb_ret (fe_and (fe_cmp (op_eqP (hu64 hr)) (peq_ok _) (nomark _) (fe_len T.z_len (fe_name 0)) (fe_len T.z_len (fe_name 1))) (fe_one (fe_cmp (op_eqP (hu64 hr)) (peq_ok _) (nomark _) (fe_of (fo_lc (own := [("first", 3), ("second", 4)]) rfl S.nd (fi_zip T.z_zip (fe_name 0) (fe_name 1)) (blkOk_by (by first | rfl | with_unfolding_all rfl)) (fun s0 H0 Ca cl fp => fg_tup2' K rfl 3 4 rfl S.nd) (fun t2 s0 H0 Ca cl fp => (fts_one (ft_not (ft_val (fe_callP ih (hr) takes0 .nil (fa_cons (fe_name 3) (fa_cons (fe_name 4) fa_nil))))))) (fun t2 s0 H0 Ca cl fp => fe_int))) (fe_of (fo_lst fa_nil (by show 0 ≤ sizeLine; decide))))))) (fb_ret (fe_cmp (op_eqP (hu64 hr)) (peq_ok _) (nomark _) (fe_name 0) (fe_name 1))))))
theorem ok__law_like (T : Top K mg) : ∀ j : Nat, Pr P w K mg base (2 + j) "_law_like" ["one", "other"] (spD K mg false false 2 (ap2 (m__law_like j)))
  | 0 => pr_stuckG T.d__law_like (fun _ _ _ _ _ _ us hl => match us, hl with | [_, _], _ => rfl) (fun ds hd => match ds, hd with | [_, _], _ => rfl)
  | j + 1 => by
    have S := sc__law_like
    have ih := ok__law_like T j
    exact pr_d (un := 3) T.d__law_like S (fun _ _ _ _ _ _ us hl => match us, hl with | [_, _], _ => rfl) rfl rfl (fun f cdv A outer s H E C ds hr tk po hrx hc0 hd => by
    match ds, hd with
    | [d_one, d_other], _ => exact ⟨b__law_like (m__law_like j) d_one d_other, fun _ => rfl, w__law_like T ih hr tk po hrx hc0⟩) (fun z => nomatch z)
/-! is_word -/
abbrev sD_is_word : Stmt := top 15
theorem sc_is_word : FnScope ["value", "signs", "low", "high", "sign"] ["value", "signs", "low", "high"] (defScope sD_is_word) := ⟨rfl, rfl, rfl, by decide +kernel, rfl, by decide +kernel, by decide +kernel⟩
noncomputable def b_is_word (d_value : PyData) (d_signs : PyData) (d_low : PyData) (d_high : PyData) : M (Fl Unit Empty) := (sRet (mAnd (mUn (pisT "str") (pure d_value)) (mAnd (mChain ple ple (pure d_low) (mUn plen (pure d_value)) (pure d_high)) (mUn pall (mLst (oLc (iAll (pure d_value)) (fun d => pure d) (fun t1 => (pure true)) (fun t1 => (mOp pin (pure t1) (pure d_signs)))))))))
noncomputable def m_is_word (d_value : PyData) (d_signs : PyData) (d_low : PyData) (d_high : PyData) : M PyData := finish (b_is_word d_value d_signs d_low d_high)
theorem w_is_word (T : Top K mg) {d_value : PyData} {d_signs : PyData} {d_low : PyData} {d_high : PyData} {f : Addr} {cdv : Value} {A : Around} {outer : List Env} {s : Shared} {H : Hp} {E : XK} {C : Ct} (hr : Room 0 (A.deeper (envOfC "is_word" (defScope sD_is_word) s.heap.objs.size f cdv))) (tk : Takes (cxD P w K mg base ["value", "signs", "low", "high", "sign"] "is_word" (defScope sD_is_word) f cdv A outer s H E) C.W) (po : PassesOwn (model P w) (cxD P w K mg base ["value", "signs", "low", "high", "sign"] "is_word" (defScope sD_is_word) f cdv A outer s H E).A (cxD P w K mg base ["value", "signs", "low", "high", "sign"] "is_word" (defScope sD_is_word) f cdv A outer s H E).env (cxD P w K mg base ["value", "signs", "low", "high", "sign"] "is_word" (defScope sD_is_word) f cdv A outer s H E).xe) (hrx : C.rx = []) (hc0 : C.c.isSome = false) :
    FB (cxD P w K mg base ["value", "signs", "low", "high", "sign"] "is_word" (defScope sD_is_word) f cdv A outer s H E) C (slots0 false [d_value, d_signs, d_low, d_high] 1) (fun _ : Unit => []) (fun b : Empty => nomatch b) false (defBody sD_is_word) (b_is_word d_value d_signs d_low d_high) := by
  have S := sc_is_word
  unfold b_is_word
  exact (fb_ret (fe_and (fe_isinst "str" (.inr (.inr (.inl rfl))) T.z_isinstance T.z_str (by decide +kernel) (fe_name 0)) (fe_and (fe_chain op_le op_le (pcmp_ok _ _) (pcmp_ok _ _) (fe_name 2) (fe_len T.z_len (fe_name 0)) (fe_name 3)) (fe_one (fe_all rfl T.z_all (fe_of (fo_lc (own := [("sign", 4)]) rfl S.nd (fi_any (fe_name 0)) (blkOk_by (by first | rfl | with_unfolding_all rfl)) (fun s0 H0 Ca cl fp => fg_name 4 S.nd) (fun t1 s0 H0 Ca cl fp => fts_nil) (fun t1 s0 H0 Ca cl fp => (fe_cmp (op_inP (hu64 hr)) (pin_ok _) (by with_unfolding_all rfl) (fe_name 4) (fe_name 1))))))))))
theorem ok_is_word (T : Top K mg) : Pr P w K mg base 1 "is_word" ["value", "signs", "low", "high"] (spD K mg false false 4 (ap4 m_is_word)) := by
  have S := sc_is_word
  exact pr_d (un := 1) T.d_is_word S (fun _ _ _ _ _ _ us hl => match us, hl with | [_, _, _, _], _ => rfl) rfl rfl (fun f cdv A outer s H E C ds hr tk po hrx hc0 hd => by
    match ds, hd with
    | [d_value, d_signs, d_low, d_high], _ => exact ⟨b_is_word d_value d_signs d_low d_high, fun _ => rfl, w_is_word T hr tk po hrx hc0⟩) (fun z => nomatch z)
/-! is_letter_word -/
abbrev sD_is_letter_word : Stmt := top 44
theorem sc_is_letter_word : FnScope ["value"] ["value"] (defScope sD_is_letter_word) := ⟨rfl, rfl, rfl, by decide +kernel, rfl, by decide +kernel, by decide +kernel⟩
noncomputable def b_is_letter_word (d_value : PyData) : M (Fl Unit Empty) := (sRet (mCall (ap4 m_is_word) [(pure d_value), (pure (.str "ab")), (pure (.int 1)), (pure (.int 40))]))
noncomputable def m_is_letter_word (d_value : PyData) : M PyData := finish (b_is_letter_word d_value)
theorem w_is_letter_word (T : Top K mg) {d_value : PyData} {f : Addr} {cdv : Value} {A : Around} {outer : List Env} {s : Shared} {H : Hp} {E : XK} {C : Ct} (hr : Room 1 (A.deeper (envOfC "is_letter_word" (defScope sD_is_letter_word) s.heap.objs.size f cdv))) (tk : Takes (cxD P w K mg base ["value"] "is_letter_word" (defScope sD_is_letter_word) f cdv A outer s H E) C.W) (po : PassesOwn (model P w) (cxD P w K mg base ["value"] "is_letter_word" (defScope sD_is_letter_word) f cdv A outer s H E).A (cxD P w K mg base ["value"] "is_letter_word" (defScope sD_is_letter_word) f cdv A outer s H E).env (cxD P w K mg base ["value"] "is_letter_word" (defScope sD_is_letter_word) f cdv A outer s H E).xe) (hrx : C.rx = []) (hc0 : C.c.isSome = false) :
    FB (cxD P w K mg base ["value"] "is_letter_word" (defScope sD_is_letter_word) f cdv A outer s H E) C (slots0 false [d_value] 0) (fun _ : Unit => []) (fun b : Empty => nomatch b) false (defBody sD_is_letter_word) (b_is_letter_word d_value) := by
  have S := sc_is_letter_word
  unfold b_is_letter_word
  exact (fb_ret (fe_callP (ok_is_word T) (hr.mono (by decide)) tk (wk0 hrx) (fa_cons (fe_name 0) (fa_cons (fe_globF T.g_LETTERS_leftwords) (fa_cons fe_int (fa_cons (fe_globF T.g_LONGEST) fa_nil))))))
theorem ok_is_letter_word (T : Top K mg) : Pr P w K mg base 2 "is_letter_word" ["value"] (spD K mg false false 1 (ap1 m_is_letter_word)) := by
  have S := sc_is_letter_word
  exact pr_d (un := 0) T.d_is_letter_word S (fun _ _ _ _ _ _ us hl => match us, hl with | [_], _ => rfl) rfl rfl (fun f cdv A outer s H E C ds hr tk po hrx hc0 hd => by
    match ds, hd with
    | [d_value], _ => exact ⟨b_is_letter_word d_value, fun _ => rfl, w_is_letter_word T hr tk po hrx hc0⟩) (fun z => nomatch z)
/-! is_tuple_of -/
abbrev sD_is_tuple_of : Stmt := top 14
theorem sc_is_tuple_of : FnScope ["value", "low", "high"] ["value", "low", "high"] (defScope sD_is_tuple_of) := ⟨rfl, rfl, rfl, by decide +kernel, rfl, by decide +kernel, by decide +kernel⟩
noncomputable def b_is_tuple_of (d_value : PyData) (d_low : PyData) (d_high : PyData) : M (Fl Unit Empty) := (sRet (mAnd (mUn (pisT "tuple") (pure d_value)) (mChain ple ple (pure d_low) (mUn plen (pure d_value)) (pure d_high))))
noncomputable def m_is_tuple_of (d_value : PyData) (d_low : PyData) (d_high : PyData) : M PyData := finish (b_is_tuple_of d_value d_low d_high)
theorem w_is_tuple_of (T : Top K mg) {d_value : PyData} {d_low : PyData} {d_high : PyData} {f : Addr} {cdv : Value} {A : Around} {outer : List Env} {s : Shared} {H : Hp} {E : XK} {C : Ct} (hr : Room 0 (A.deeper (envOfC "is_tuple_of" (defScope sD_is_tuple_of) s.heap.objs.size f cdv))) (tk : Takes (cxD P w K mg base ["value", "low", "high"] "is_tuple_of" (defScope sD_is_tuple_of) f cdv A outer s H E) C.W) (po : PassesOwn (model P w) (cxD P w K mg base ["value", "low", "high"] "is_tuple_of" (defScope sD_is_tuple_of) f cdv A outer s H E).A (cxD P w K mg base ["value", "low", "high"] "is_tuple_of" (defScope sD_is_tuple_of) f cdv A outer s H E).env (cxD P w K mg base ["value", "low", "high"] "is_tuple_of" (defScope sD_is_tuple_of) f cdv A outer s H E).xe) (hrx : C.rx = []) (hc0 : C.c.isSome = false) :
    FB (cxD P w K mg base ["value", "low", "high"] "is_tuple_of" (defScope sD_is_tuple_of) f cdv A outer s H E) C (slots0 false [d_value, d_low, d_high] 0) (fun _ : Unit => []) (fun b : Empty => nomatch b) false (defBody sD_is_tuple_of) (b_is_tuple_of d_value d_low d_high) := by
  have S := sc_is_tuple_of
  unfold b_is_tuple_of
  exact (fb_ret (fe_and (fe_isinst "tuple" (.inr (.inr (.inr (.inl rfl)))) T.z_isinstance T.z_tuple (by decide +kernel) (fe_name 0)) (fe_one (fe_chain op_le op_le (pcmp_ok _ _) (pcmp_ok _ _) (fe_name 1) (fe_len T.z_len (fe_name 0)) (fe_name 2)))))
theorem ok_is_tuple_of (T : Top K mg) : Pr P w K mg base 1 "is_tuple_of" ["value", "low", "high"] (spD K mg false false 3 (ap3 m_is_tuple_of)) := by
  have S := sc_is_tuple_of
  exact pr_d (un := 0) T.d_is_tuple_of S (fun _ _ _ _ _ _ us hl => match us, hl with | [_, _, _], _ => rfl) rfl rfl (fun f cdv A outer s H E C ds hr tk po hrx hc0 hd => by
    match ds, hd with
    | [d_value, d_low, d_high], _ => exact ⟨b_is_tuple_of d_value d_low d_high, fun _ => rfl, w_is_tuple_of T hr tk po hrx hc0⟩) (fun z => nomatch z)
/-! is_integer -/
abbrev sD_is_integer : Stmt := top 12
theorem sc_is_integer : FnScope ["value"] ["value"] (defScope sD_is_integer) := ⟨rfl, rfl, rfl, by decide +kernel, rfl, by decide +kernel, by decide +kernel⟩
noncomputable def b_is_integer (d_value : PyData) : M (Fl Unit Empty) := (sRet (mAnd (mUn (pisT "int") (pure d_value)) (mNot (mUn (pisT "bool") (pure d_value)))))
noncomputable def m_is_integer (d_value : PyData) : M PyData := finish (b_is_integer d_value)
theorem w_is_integer (T : Top K mg) {d_value : PyData} {f : Addr} {cdv : Value} {A : Around} {outer : List Env} {s : Shared} {H : Hp} {E : XK} {C : Ct} (hr : Room 0 (A.deeper (envOfC "is_integer" (defScope sD_is_integer) s.heap.objs.size f cdv))) (tk : Takes (cxD P w K mg base ["value"] "is_integer" (defScope sD_is_integer) f cdv A outer s H E) C.W) (po : PassesOwn (model P w) (cxD P w K mg base ["value"] "is_integer" (defScope sD_is_integer) f cdv A outer s H E).A (cxD P w K mg base ["value"] "is_integer" (defScope sD_is_integer) f cdv A outer s H E).env (cxD P w K mg base ["value"] "is_integer" (defScope sD_is_integer) f cdv A outer s H E).xe) (hrx : C.rx = []) (hc0 : C.c.isSome = false) :
    FB (cxD P w K mg base ["value"] "is_integer" (defScope sD_is_integer) f cdv A outer s H E) C (slots0 false [d_value] 0) (fun _ : Unit => []) (fun b : Empty => nomatch b) false (defBody sD_is_integer) (b_is_integer d_value) := by
  have S := sc_is_integer
  unfold b_is_integer
  exact (fb_ret (fe_and (fe_isinst "int" (.inl rfl) T.z_isinstance T.z_int (by decide +kernel) (fe_name 0)) (fe_one (fe_not (fe_isinst "bool" (.inr (.inl rfl)) T.z_isinstance T.z_bool (by decide +kernel) (fe_name 0))))))
theorem ok_is_integer (T : Top K mg) : Pr P w K mg base 1 "is_integer" ["value"] (spD K mg false false 1 (ap1 m_is_integer)) := by
  have S := sc_is_integer
  exact pr_d (un := 0) T.d_is_integer S (fun _ _ _ _ _ _ us hl => match us, hl with | [_], _ => rfl) rfl rfl (fun f cdv A outer s H E C ds hr tk po hrx hc0 hd => by
    match ds, hd with
    | [d_value], _ => exact ⟨b_is_integer d_value, fun _ => rfl, w_is_integer T hr tk po hrx hc0⟩) (fun z => nomatch z)
/-! is_whole -/
abbrev sD_is_whole : Stmt := top 13
theorem sc_is_whole : FnScope ["value", "low", "high"] ["value", "low", "high"] (defScope sD_is_whole) := ⟨rfl, rfl, rfl, by decide +kernel, rfl, by decide +kernel, by decide +kernel⟩
noncomputable def b_is_whole (d_value : PyData) (d_low : PyData) (d_high : PyData) : M (Fl Unit Empty) := (sRet (mAnd (mCall (ap1 m_is_integer) [(pure d_value)]) (mChain ple ple (pure d_low) (pure d_value) (pure d_high))))
noncomputable def m_is_whole (d_value : PyData) (d_low : PyData) (d_high : PyData) : M PyData := finish (b_is_whole d_value d_low d_high)
theorem w_is_whole (T : Top K mg) {d_value : PyData} {d_low : PyData} {d_high : PyData} {f : Addr} {cdv : Value} {A : Around} {outer : List Env} {s : Shared} {H : Hp} {E : XK} {C : Ct} (hr : Room 1 (A.deeper (envOfC "is_whole" (defScope sD_is_whole) s.heap.objs.size f cdv))) (tk : Takes (cxD P w K mg base ["value", "low", "high"] "is_whole" (defScope sD_is_whole) f cdv A outer s H E) C.W) (po : PassesOwn (model P w) (cxD P w K mg base ["value", "low", "high"] "is_whole" (defScope sD_is_whole) f cdv A outer s H E).A (cxD P w K mg base ["value", "low", "high"] "is_whole" (defScope sD_is_whole) f cdv A outer s H E).env (cxD P w K mg base ["value", "low", "high"] "is_whole" (defScope sD_is_whole) f cdv A outer s H E).xe) (hrx : C.rx = []) (hc0 : C.c.isSome = false) :
    FB (cxD P w K mg base ["value", "low", "high"] "is_whole" (defScope sD_is_whole) f cdv A outer s H E) C (slots0 false [d_value, d_low, d_high] 0) (fun _ : Unit => []) (fun b : Empty => nomatch b) false (defBody sD_is_whole) (b_is_whole d_value d_low d_high) := by
  have S := sc_is_whole
  unfold b_is_whole
  exact (fb_ret (fe_and (fe_callP (ok_is_integer T) (hr.mono (by decide)) tk (wk0 hrx) (fa_cons (fe_name 0) fa_nil)) (fe_one (fe_chain op_le op_le (pcmp_ok _ _) (pcmp_ok _ _) (fe_name 1) (fe_name 0) (fe_name 2)))))
theorem ok_is_whole (T : Top K mg) : Pr P w K mg base 2 "is_whole" ["value", "low", "high"] (spD K mg false false 3 (ap3 m_is_whole)) := by
  have S := sc_is_whole
  exact pr_d (un := 0) T.d_is_whole S (fun _ _ _ _ _ _ us hl => match us, hl with | [_, _, _], _ => rfl) rfl rfl (fun f cdv A outer s H E C ds hr tk po hrx hc0 hd => by
    match ds, hd with
    | [d_value, d_low, d_high], _ => exact ⟨b_is_whole d_value d_low d_high, fun _ => rfl, w_is_whole T hr tk po hrx hc0⟩) (fun z => nomatch z)
/-! are_things -/
abbrev sD_are_things : Stmt := top 16
theorem sc_are_things : FnScope ["many", "value", "low", "high", "thing"] ["many", "value", "low", "high"] (defScope sD_are_things) := ⟨rfl, rfl, rfl, by decide +kernel, rfl, by decide +kernel, by decide +kernel⟩
noncomputable def b_are_things (d_many : PyData) (d_value : PyData) (d_low : PyData) (d_high : PyData) : M (Fl Unit Empty) := (sRet (mAnd (mCall (ap3 m_is_tuple_of) [(pure d_value), (pure d_low), (pure d_high)]) (mUn pall (mLst (oLc (iAll (pure d_value)) (fun d => pure d) (fun t1 => (pure true)) (fun t1 => (mCall (ap3 m_is_whole) [(pure t1), (pure (.int 0)), (mOp psub (pure d_many) (pure (.int 1)))])))))))
noncomputable def m_are_things (d_many : PyData) (d_value : PyData) (d_low : PyData) (d_high : PyData) : M PyData := finish (b_are_things d_many d_value d_low d_high)
theorem w_are_things (T : Top K mg) {d_many : PyData} {d_value : PyData} {d_low : PyData} {d_high : PyData} {f : Addr} {cdv : Value} {A : Around} {outer : List Env} {s : Shared} {H : Hp} {E : XK} {C : Ct} (hr : Room 2 (A.deeper (envOfC "are_things" (defScope sD_are_things) s.heap.objs.size f cdv))) (tk : Takes (cxD P w K mg base ["many", "value", "low", "high", "thing"] "are_things" (defScope sD_are_things) f cdv A outer s H E) C.W) (po : PassesOwn (model P w) (cxD P w K mg base ["many", "value", "low", "high", "thing"] "are_things" (defScope sD_are_things) f cdv A outer s H E).A (cxD P w K mg base ["many", "value", "low", "high", "thing"] "are_things" (defScope sD_are_things) f cdv A outer s H E).env (cxD P w K mg base ["many", "value", "low", "high", "thing"] "are_things" (defScope sD_are_things) f cdv A outer s H E).xe) (hrx : C.rx = []) (hc0 : C.c.isSome = false) :
    FB (cxD P w K mg base ["many", "value", "low", "high", "thing"] "are_things" (defScope sD_are_things) f cdv A outer s H E) C (slots0 false [d_many, d_value, d_low, d_high] 1) (fun _ : Unit => []) (fun b : Empty => nomatch b) false (defBody sD_are_things) (b_are_things d_many d_value d_low d_high) := by
  have S := sc_are_things
  unfold b_are_things
  exact (fb_ret (fe_and (fe_callP (ok_is_tuple_of T) (hr.mono (by decide)) tk (wk0 hrx) (fa_cons (fe_name 1) (fa_cons (fe_name 2) (fa_cons (fe_name 3) fa_nil)))) (fe_one (fe_all rfl T.z_all (fe_of (fo_lc (own := [("thing", 4)]) rfl S.nd (fi_any (fe_name 1)) (blkOk_by (by first | rfl | with_unfolding_all rfl)) (fun s0 H0 Ca cl fp => fg_name 4 S.nd) (fun t1 s0 H0 Ca cl fp => fts_nil) (fun t1 s0 H0 Ca cl fp => (fe_callP (ok_is_whole T) (hr.mono (by decide)) takes0 .nil (fa_cons (fe_name 4) (fa_cons fe_int (fa_cons (fe_op op_sub (psub_ok _) (fe_name 0) fe_int) fa_nil)))))))))))
theorem ok_are_things (T : Top K mg) : Pr P w K mg base 3 "are_things" ["many", "value", "low", "high"] (spD K mg false false 4 (ap4 m_are_things)) := by
  have S := sc_are_things
  exact pr_d (un := 1) T.d_are_things S (fun _ _ _ _ _ _ us hl => match us, hl with | [_, _, _, _], _ => rfl) rfl rfl (fun f cdv A outer s H E C ds hr tk po hrx hc0 hd => by
    match ds, hd with
    | [d_many, d_value, d_low, d_high], _ => exact ⟨b_are_things d_many d_value d_low d_high, fun _ => rfl, w_are_things T hr tk po hrx hc0⟩) (fun z => nomatch z)
/-! fits_product -/
abbrev sD_fits_product : Stmt := top 17
theorem sc_fits_product : FnScope ["value", "line"] ["value"] (defScope sD_fits_product) := ⟨rfl, rfl, rfl, by decide +kernel, rfl, by decide +kernel, by decide +kernel⟩
noncomputable def b_fits_product (d_value : PyData) : M (Fl Unit Empty) := (sRet (mAnd (mCall (ap3 m_is_tuple_of) [(pure d_value), (pure (.int 1)), (pure (.int 8))]) (mUn pall (mLst (oLc (iAll (pure d_value)) (fun d => pure d) (fun t1 => (pure true)) (fun t1 => (mCall (ap4 m_are_things) [(mUn plen (pure d_value)), (pure t1), (mUn plen (pure d_value)), (mUn plen (pure d_value))])))))))
noncomputable def m_fits_product (d_value : PyData) : M PyData := finish (b_fits_product d_value)
theorem w_fits_product (T : Top K mg) {d_value : PyData} {f : Addr} {cdv : Value} {A : Around} {outer : List Env} {s : Shared} {H : Hp} {E : XK} {C : Ct} (hr : Room 3 (A.deeper (envOfC "fits_product" (defScope sD_fits_product) s.heap.objs.size f cdv))) (tk : Takes (cxD P w K mg base ["value", "line"] "fits_product" (defScope sD_fits_product) f cdv A outer s H E) C.W) (po : PassesOwn (model P w) (cxD P w K mg base ["value", "line"] "fits_product" (defScope sD_fits_product) f cdv A outer s H E).A (cxD P w K mg base ["value", "line"] "fits_product" (defScope sD_fits_product) f cdv A outer s H E).env (cxD P w K mg base ["value", "line"] "fits_product" (defScope sD_fits_product) f cdv A outer s H E).xe) (hrx : C.rx = []) (hc0 : C.c.isSome = false) :
    FB (cxD P w K mg base ["value", "line"] "fits_product" (defScope sD_fits_product) f cdv A outer s H E) C (slots0 false [d_value] 1) (fun _ : Unit => []) (fun b : Empty => nomatch b) false (defBody sD_fits_product) (b_fits_product d_value) := by
  have S := sc_fits_product
  unfold b_fits_product
  exact (fb_ret (fe_and (fe_callP (ok_is_tuple_of T) (hr.mono (by decide)) tk (wk0 hrx) (fa_cons (fe_name 0) (fa_cons fe_int (fa_cons (fe_globF T.g_MOST) fa_nil)))) (fe_one (fe_all rfl T.z_all (fe_of (fo_lc (own := [("line", 1)]) rfl S.nd (fi_any (fe_name 0)) (blkOk_by (by first | rfl | with_unfolding_all rfl)) (fun s0 H0 Ca cl fp => fg_name 1 S.nd) (fun t1 s0 H0 Ca cl fp => fts_nil) (fun t1 s0 H0 Ca cl fp => (fe_callP (ok_are_things T) (hr.mono (by decide)) takes0 .nil (fa_cons (fe_len T.z_len (fe_name 0)) (fa_cons (fe_name 1) (fa_cons (fe_len T.z_len (fe_name 0)) (fa_cons (fe_len T.z_len (fe_name 0)) fa_nil))))))))))))
theorem ok_fits_product (T : Top K mg) : Pr P w K mg base 4 "fits_product" ["value"] (spD K mg false false 1 (ap1 m_fits_product)) := by
  have S := sc_fits_product
  exact pr_d (un := 1) T.d_fits_product S (fun _ _ _ _ _ _ us hl => match us, hl with | [_], _ => rfl) rfl rfl (fun f cdv A outer s H E C ds hr tk po hrx hc0 hd => by
    match ds, hd with
    | [d_value], _ => exact ⟨b_fits_product d_value, fun _ => rfl, w_fits_product T hr tk po hrx hc0⟩) (fun z => nomatch z)
/-! need_product -/
abbrev sD_need_product : Stmt := top 18
theorem sc_need_product : FnScope ["value"] ["value"] (defScope sD_need_product) := ⟨rfl, rfl, rfl, by decide +kernel, rfl, by decide +kernel, by decide +kernel⟩
noncomputable def b_need_product (d_value : PyData) : M (Fl Unit Empty) := (sIfR (tNo (tVal (mCall (ap1 m_fits_product) [(pure d_value)]))) stuck (pure (.nx ())))
noncomputable def m_need_product (d_value : PyData) : M PyData := finish (b_need_product d_value)
theorem w_need_product (T : Top K mg) {d_value : PyData} {f : Addr} {cdv : Value} {A : Around} {outer : List Env} {s : Shared} {H : Hp} {E : XK} {C : Ct} (hr : Room 4 (A.deeper (envOfC "need_product" (defScope sD_need_product) s.heap.objs.size f cdv))) (tk : Takes (cxD P w K mg base ["value"] "need_product" (defScope sD_need_product) f cdv A outer s H E) C.W) (po : PassesOwn (model P w) (cxD P w K mg base ["value"] "need_product" (defScope sD_need_product) f cdv A outer s H E).A (cxD P w K mg base ["value"] "need_product" (defScope sD_need_product) f cdv A outer s H E).env (cxD P w K mg base ["value"] "need_product" (defScope sD_need_product) f cdv A outer s H E).xe) (hrx : C.rx = []) (hc0 : C.c.isSome = false) :
    FB (cxD P w K mg base ["value"] "need_product" (defScope sD_need_product) f cdv A outer s H E) C (slots0 false [d_value] 0) (fun _ : Unit => []) (fun b : Empty => nomatch b) false (defBody sD_need_product) (b_need_product d_value) := by
  have S := sc_need_product
  unfold b_need_product
  exact (fb_ifR (emb0 := fun z : Empty => nomatch z) (ft_not (ft_val (fe_callP (ok_fits_product T) (hr.mono (by decide)) tk (wk0 hrx) (fa_cons (fe_name 0) fa_nil)))) fb_stuck (fb_nil () .nil))
theorem ok_need_product (T : Top K mg) : Pr P w K mg base 5 "need_product" ["value"] (spD K mg false false 1 (ap1 m_need_product)) := by
  have S := sc_need_product
  exact pr_d (un := 0) T.d_need_product S (fun _ _ _ _ _ _ us hl => match us, hl with | [_], _ => rfl) rfl rfl (fun f cdv A outer s H E C ds hr tk po hrx hc0 hd => by
    match ds, hd with
    | [d_value], _ => exact ⟨b_need_product d_value, fun _ => rfl, w_need_product T hr tk po hrx hc0⟩) (fun z => nomatch z)
/-! need_letter_word -/
abbrev sD_need_letter_word : Stmt := top 37
theorem sc_need_letter_word : FnScope ["value"] ["value"] (defScope sD_need_letter_word) := ⟨rfl, rfl, rfl, by decide +kernel, rfl, by decide +kernel, by decide +kernel⟩
noncomputable def b_need_letter_word (d_value : PyData) : M (Fl Unit Empty) := (sIfR (tNo (tVal (mCall (ap4 m_is_word) [(pure d_value), (pure (.str "ab")), (pure (.int 1)), (pure (.int 40))]))) stuck (pure (.nx ())))
noncomputable def m_need_letter_word (d_value : PyData) : M PyData := finish (b_need_letter_word d_value)
theorem w_need_letter_word (T : Top K mg) {d_value : PyData} {f : Addr} {cdv : Value} {A : Around} {outer : List Env} {s : Shared} {H : Hp} {E : XK} {C : Ct} (hr : Room 1 (A.deeper (envOfC "need_letter_word" (defScope sD_need_letter_word) s.heap.objs.size f cdv))) (tk : Takes (cxD P w K mg base ["value"] "need_letter_word" (defScope sD_need_letter_word) f cdv A outer s H E) C.W) (po : PassesOwn (model P w) (cxD P w K mg base ["value"] "need_letter_word" (defScope sD_need_letter_word) f cdv A outer s H E).A (cxD P w K mg base ["value"] "need_letter_word" (defScope sD_need_letter_word) f cdv A outer s H E).env (cxD P w K mg base ["value"] "need_letter_word" (defScope sD_need_letter_word) f cdv A outer s H E).xe) (hrx : C.rx = []) (hc0 : C.c.isSome = false) :
    FB (cxD P w K mg base ["value"] "need_letter_word" (defScope sD_need_letter_word) f cdv A outer s H E) C (slots0 false [d_value] 0) (fun _ : Unit => []) (fun b : Empty => nomatch b) false (defBody sD_need_letter_word) (b_need_letter_word d_value) := by
  have S := sc_need_letter_word
  unfold b_need_letter_word
  exact (fb_ifR (emb0 := fun z : Empty => nomatch z) (ft_not (ft_val (fe_callP (ok_is_word T) (hr.mono (by decide)) tk (wk0 hrx) (fa_cons (fe_name 0) (fa_cons (fe_globF T.g_LETTERS_leftwords) (fa_cons fe_int (fa_cons (fe_globF T.g_LONGEST) fa_nil))))))) fb_stuck (fb_nil () .nil))
theorem ok_need_letter_word (T : Top K mg) : Pr P w K mg base 2 "need_letter_word" ["value"] (spD K mg false false 1 (ap1 m_need_letter_word)) := by
  have S := sc_need_letter_word
  exact pr_d (un := 0) T.d_need_letter_word S (fun _ _ _ _ _ _ us hl => match us, hl with | [_], _ => rfl) rfl rfl (fun f cdv A outer s H E C ds hr tk po hrx hc0 hd => by
    match ds, hd with
    | [d_value], _ => exact ⟨b_need_letter_word d_value, fun _ => rfl, w_need_letter_word T hr tk po hrx hc0⟩) (fun z => nomatch z)
/-! need_word_pair -/
abbrev sD_need_word_pair : Stmt := top 38
theorem sc_need_word_pair : FnScope ["product", "value"] ["product", "value"] (defScope sD_need_word_pair) := ⟨rfl, rfl, rfl, by decide +kernel, rfl, by decide +kernel, by decide +kernel⟩
noncomputable def b_need_word_pair (d_product : PyData) (d_value : PyData) : M (Fl Unit Empty) := (sIfR (tNo (tVal (mCall (ap4 m_are_things) [(mUn plen (pure d_product)), (pure d_value), (pure (.int 2)), (pure (.int 2))]))) stuck (pure (.nx ())))
noncomputable def m_need_word_pair (d_product : PyData) (d_value : PyData) : M PyData := finish (b_need_word_pair d_product d_value)
theorem w_need_word_pair (T : Top K mg) {d_product : PyData} {d_value : PyData} {f : Addr} {cdv : Value} {A : Around} {outer : List Env} {s : Shared} {H : Hp} {E : XK} {C : Ct} (hr : Room 3 (A.deeper (envOfC "need_word_pair" (defScope sD_need_word_pair) s.heap.objs.size f cdv))) (tk : Takes (cxD P w K mg base ["product", "value"] "need_word_pair" (defScope sD_need_word_pair) f cdv A outer s H E) C.W) (po : PassesOwn (model P w) (cxD P w K mg base ["product", "value"] "need_word_pair" (defScope sD_need_word_pair) f cdv A outer s H E).A (cxD P w K mg base ["product", "value"] "need_word_pair" (defScope sD_need_word_pair) f cdv A outer s H E).env (cxD P w K mg base ["product", "value"] "need_word_pair" (defScope sD_need_word_pair) f cdv A outer s H E).xe) (hrx : C.rx = []) (hc0 : C.c.isSome = false) :
    FB (cxD P w K mg base ["product", "value"] "need_word_pair" (defScope sD_need_word_pair) f cdv A outer s H E) C (slots0 false [d_product, d_value] 0) (fun _ : Unit => []) (fun b : Empty => nomatch b) false (defBody sD_need_word_pair) (b_need_word_pair d_product d_value) := by
  have S := sc_need_word_pair
  unfold b_need_word_pair
  exact (fb_ifR (emb0 := fun z : Empty => nomatch z) (ft_not (ft_val (fe_callP (ok_are_things T) (hr.mono (by decide)) tk (wk0 hrx) (fa_cons (fe_len T.z_len (fe_name 0)) (fa_cons (fe_name 1) (fa_cons fe_int (fa_cons fe_int fa_nil))))))) fb_stuck (fb_nil () .nil))
theorem ok_need_word_pair (T : Top K mg) : Pr P w K mg base 4 "need_word_pair" ["product", "value"] (spD K mg false false 2 (ap2 m_need_word_pair)) := by
  have S := sc_need_word_pair
  exact pr_d (un := 0) T.d_need_word_pair S (fun _ _ _ _ _ _ us hl => match us, hl with | [_, _], _ => rfl) rfl rfl (fun f cdv A outer s H E C ds hr tk po hrx hc0 hd => by
    match ds, hd with
    | [d_product, d_value], _ => exact ⟨b_need_word_pair d_product d_value, fun _ => rfl, w_need_word_pair T hr tk po hrx hc0⟩) (fun z => nomatch z)
/-! word_worth_in -/
abbrev sD_word_worth_in : Stmt := top 40
theorem sc_word_worth_in : FnScope ["product", "word", "pair", "found", "letter"] ["product", "word", "pair"] (defScope sD_word_worth_in) := ⟨rfl, rfl, rfl, by decide +kernel, rfl, by decide +kernel, by decide +kernel⟩
noncomputable def b_word_worth_in (d_product : PyData) (d_word : PyData) (d_pair : PyData) : M (Fl Unit Empty) := ((mOp pidx (pure d_pair) (mStr pindexS (pure (.str "ab")) (mOp pidx (pure d_word) (pure (.int 0))))) >>= fun x1 => (sFor (τ' := PyData) (iAll (mSl (pure d_word) (pSome (pure (.int 1))) (pure none))) (fun d => pure d) (fun x3 t2 => ((mOp pidx (mOp pidx (pure d_product) (pure t2)) (mOp pidx (pure d_pair) (mStr pindexS (pure (.str "ab")) (pure x3)))) >>= fun x4 => (pure (.nx x4)))) x1 fun t2 => (sRet (pure t2))))
noncomputable def m_word_worth_in (d_product : PyData) (d_word : PyData) (d_pair : PyData) : M PyData := finish (b_word_worth_in d_product d_word d_pair)
theorem w_word_worth_in (T : Top K mg) {d_product : PyData} {d_word : PyData} {d_pair : PyData} {f : Addr} {cdv : Value} {A : Around} {outer : List Env} {s : Shared} {H : Hp} {E : XK} {C : Ct} (hr : Room 0 (A.deeper (envOfC "word_worth_in" (defScope sD_word_worth_in) s.heap.objs.size f cdv))) (tk : Takes (cxD P w K mg base ["product", "word", "pair", "found", "letter"] "word_worth_in" (defScope sD_word_worth_in) f cdv A outer s H E) C.W) (po : PassesOwn (model P w) (cxD P w K mg base ["product", "word", "pair", "found", "letter"] "word_worth_in" (defScope sD_word_worth_in) f cdv A outer s H E).A (cxD P w K mg base ["product", "word", "pair", "found", "letter"] "word_worth_in" (defScope sD_word_worth_in) f cdv A outer s H E).env (cxD P w K mg base ["product", "word", "pair", "found", "letter"] "word_worth_in" (defScope sD_word_worth_in) f cdv A outer s H E).xe) (hrx : C.rx = []) (hc0 : C.c.isSome = false) :
    FB (cxD P w K mg base ["product", "word", "pair", "found", "letter"] "word_worth_in" (defScope sD_word_worth_in) f cdv A outer s H E) C (slots0 false [d_product, d_word, d_pair] 2) (fun _ : Unit => []) (fun b : Empty => nomatch b) false (defBody sD_word_worth_in) (b_word_worth_in d_product d_word d_pair) := by
  have S := sc_word_worth_in
  unfold b_word_worth_in
  exact (fb_set 3 S.nd (fe_idx (fe_name 2) (fe_indexS (fe_globF T.g_LETTERS_leftwords) (fe_idx (fe_name 1) fe_int))) fun x1 => (fb_for (e0 := fun t2 : PyData => [.d d_product, .d d_word, .d d_pair, .d t2, .un]) x1 po rfl (fi_any (fe_slice (fe_name 1) (fp_some fe_int) fp_none)) (fg_name 4 S.nd) (.keep (.keep (.keep (.keep (.drop .nil))))) (fun x3 t2 => (fb_set 3 S.nd (fe_idx (fe_idx (fe_name 0) (fe_name 3)) (fe_idx (fe_name 2) (fe_indexS (fe_globF T.g_LETTERS_leftwords) (fe_name 4)))) fun x4 => (fb_nil x4 (.keep (.keep (.keep (.keep (.drop .nil)))))))) fun t2 => (fb_ret (fe_name 3))))
theorem ok_word_worth_in (T : Top K mg) : Pr P w K mg base 1 "word_worth_in" ["product", "word", "pair"] (spD K mg false false 3 (ap3 m_word_worth_in)) := by
  have S := sc_word_worth_in
  exact pr_d (un := 2) T.d_word_worth_in S (fun _ _ _ _ _ _ us hl => match us, hl with | [_, _, _], _ => rfl) rfl rfl (fun f cdv A outer s H E C ds hr tk po hrx hc0 hd => by
    match ds, hd with
    | [d_product, d_word, d_pair], _ => exact ⟨b_word_worth_in d_product d_word d_pair, fun _ => rfl, w_word_worth_in T hr tk po hrx hc0⟩) (fun z => nomatch z)
/-! word_worth -/
abbrev sD_word_worth : Stmt := top 45
theorem sc_word_worth : FnScope ["product", "word", "pair"] ["product", "word", "pair"] (defScope sD_word_worth) := ⟨rfl, rfl, rfl, by decide +kernel, rfl, by decide +kernel, by decide +kernel⟩
noncomputable def b_word_worth (d_product : PyData) (d_word : PyData) (d_pair : PyData) : M (Fl Unit Empty) := ((mCall (ap1 m_need_product) [(pure d_product)]) >>= fun _u3 => ((mCall (ap1 m_need_letter_word) [(pure d_word)]) >>= fun _u2 => ((mCall (ap2 m_need_word_pair) [(pure d_product), (pure d_pair)]) >>= fun _u1 => (sRet (mCall (ap3 m_word_worth_in) [(pure d_product), (pure d_word), (pure d_pair)])))))
noncomputable def m_word_worth (d_product : PyData) (d_word : PyData) (d_pair : PyData) : M PyData := finish (b_word_worth d_product d_word d_pair)
theorem w_word_worth (T : Top K mg) {d_product : PyData} {d_word : PyData} {d_pair : PyData} {f : Addr} {cdv : Value} {A : Around} {outer : List Env} {s : Shared} {H : Hp} {E : XK} {C : Ct} (hr : Room 5 (A.deeper (envOfC "word_worth" (defScope sD_word_worth) s.heap.objs.size f cdv))) (tk : Takes (cxD P w K mg base ["product", "word", "pair"] "word_worth" (defScope sD_word_worth) f cdv A outer s H E) C.W) (po : PassesOwn (model P w) (cxD P w K mg base ["product", "word", "pair"] "word_worth" (defScope sD_word_worth) f cdv A outer s H E).A (cxD P w K mg base ["product", "word", "pair"] "word_worth" (defScope sD_word_worth) f cdv A outer s H E).env (cxD P w K mg base ["product", "word", "pair"] "word_worth" (defScope sD_word_worth) f cdv A outer s H E).xe) (hrx : C.rx = []) (hc0 : C.c.isSome = false) :
    FB (cxD P w K mg base ["product", "word", "pair"] "word_worth" (defScope sD_word_worth) f cdv A outer s H E) C (slots0 false [d_product, d_word, d_pair] 0) (fun _ : Unit => []) (fun b : Empty => nomatch b) false (defBody sD_word_worth) (b_word_worth d_product d_word d_pair) := by
  have S := sc_word_worth
  unfold b_word_worth
  exact (fb_expr (fe_callP (ok_need_product T) (hr.mono (by decide)) tk (wk0 hrx) (fa_cons (fe_name 0) fa_nil)) fun _u3 => (fb_expr (fe_callP (ok_need_letter_word T) (hr.mono (by decide)) tk (wk0 hrx) (fa_cons (fe_name 1) fa_nil)) fun _u2 => (fb_expr (fe_callP (ok_need_word_pair T) (hr.mono (by decide)) tk (wk0 hrx) (fa_cons (fe_name 0) (fa_cons (fe_name 2) fa_nil))) fun _u1 => (fb_ret (fe_callP (ok_word_worth_in T) (hr.mono (by decide)) tk (wk0 hrx) (fa_cons (fe_name 0) (fa_cons (fe_name 1) (fa_cons (fe_name 2) fa_nil))))))))
theorem ok_word_worth (T : Top K mg) : Pr P w K mg base 6 "word_worth" ["product", "word", "pair"] (spD K mg false false 3 (ap3 m_word_worth)) := by
  have S := sc_word_worth
  exact pr_d (un := 0) T.d_word_worth S (fun _ _ _ _ _ _ us hl => match us, hl with | [_, _, _], _ => rfl) rfl rfl (fun f cdv A outer s H E C ds hr tk po hrx hc0 hd => by
    match ds, hd with
    | [d_product, d_word, d_pair], _ => exact ⟨b_word_worth d_product d_word d_pair, fun _ => rfl, w_word_worth T hr tk po hrx hc0⟩) (fun z => nomatch z)
/-! things_in_pairs -/
abbrev sD_things_in_pairs : Stmt := top 41
theorem sc_things_in_pairs : FnScope ["many", "one", "other"] ["many"] (defScope sD_things_in_pairs) := ⟨rfl, rfl, rfl, by decide +kernel, rfl, by decide +kernel, by decide +kernel⟩
noncomputable def b_things_in_pairs (d_many : PyData) : M (Fl Unit Empty) := (sRet (mLst (oLc2 (iRange1 (pure d_many)) (fun d => pure d) (fun t1 => (pure true)) (fun t1 => (iRange1 (pure d_many))) (fun d => pure d) (fun t1 t2 => (pure true)) (fun t1 t2 => (mTup [(pure t1), (pure t2)])))))
noncomputable def m_things_in_pairs (d_many : PyData) : M PyData := finish (b_things_in_pairs d_many)
theorem w_things_in_pairs (T : Top K mg) {d_many : PyData} {f : Addr} {cdv : Value} {A : Around} {outer : List Env} {s : Shared} {H : Hp} {E : XK} {C : Ct} (hr : Room 0 (A.deeper (envOfC "things_in_pairs" (defScope sD_things_in_pairs) s.heap.objs.size f cdv))) (tk : Takes (cxD P w K mg base ["many", "one", "other"] "things_in_pairs" (defScope sD_things_in_pairs) f cdv A outer s H E) C.W) (po : PassesOwn (model P w) (cxD P w K mg base ["many", "one", "other"] "things_in_pairs" (defScope sD_things_in_pairs) f cdv A outer s H E).A (cxD P w K mg base ["many", "one", "other"] "things_in_pairs" (defScope sD_things_in_pairs) f cdv A outer s H E).env (cxD P w K mg base ["many", "one", "other"] "things_in_pairs" (defScope sD_things_in_pairs) f cdv A outer s H E).xe) (hrx : C.rx = []) (hc0 : C.c.isSome = false) :
    FB (cxD P w K mg base ["many", "one", "other"] "things_in_pairs" (defScope sD_things_in_pairs) f cdv A outer s H E) C (slots0 false [d_many] 2) (fun _ : Unit => []) (fun b : Empty => nomatch b) false (defBody sD_things_in_pairs) (b_things_in_pairs d_many) := by
  have S := sc_things_in_pairs
  unfold b_things_in_pairs
  exact (fb_ret (fe_of (fo_lc2 (own := [("one", 1), ("other", 2)]) (vs1 := [2]) rfl S.nd (fi_range1 T.z_range (fe_name 0)) (blkOk_by (by first | rfl | with_unfolding_all rfl)) (by decide) (noOwn_of rfl) (fun _ _ h => h.set 1 rfl) (fun s0 H0 Ca cl fp => FG.wide (fg_name 1 S.nd) (by decide)) (fun t1 s0 H0 Ca cl fp => fts_nil) (fun t1 s0 H0 Ca cl fp => (fi_range1 T.z_range (fe_name 0))) (fun s0 H0 Ca cl fp => fg_name 2 S.nd) (fun t1 t2 s0 H0 Ca cl fp => fts_nil) (fun t1 t2 s0 H0 Ca cl fp => (fe_tup (fa_cons (fe_name 1) (fa_cons (fe_name 2) fa_nil)) (by show 2 ≤ sizeLine; decide))))))
theorem ok_things_in_pairs (T : Top K mg) : Pr P w K mg base 1 "things_in_pairs" ["many"] (spD K mg false false 1 (ap1 m_things_in_pairs)) := by
  have S := sc_things_in_pairs
  exact pr_d (un := 2) T.d_things_in_pairs S (fun _ _ _ _ _ _ us hl => match us, hl with | [_], _ => rfl) rfl rfl (fun f cdv A outer s H E C ds hr tk po hrx hc0 hd => by
    match ds, hd with
    | [d_many], _ => exact ⟨b_things_in_pairs d_many, fun _ => rfl, w_things_in_pairs T hr tk po hrx hc0⟩) (fun z => nomatch z)
/-! row_of_word -/
abbrev sD_row_of_word : Stmt := top 42
theorem sc_row_of_word : FnScope ["product", "word", "pair"] ["product", "word"] (defScope sD_row_of_word) := ⟨rfl, rfl, rfl, by decide +kernel, rfl, by decide +kernel, by decide +kernel⟩
noncomputable def b_row_of_word (d_product : PyData) (d_word : PyData) : M (Fl Unit Empty) := (sRet (mUn ptuple (mLst (oLc (iAll (mCall (ap1 m_things_in_pairs) [(mUn plen (pure d_product))])) (fun d => pure d) (fun t1 => (pure true)) (fun t1 => (mCall (ap3 m_word_worth_in) [(pure d_product), (pure d_word), (pure t1)]))))))
noncomputable def m_row_of_word (d_product : PyData) (d_word : PyData) : M PyData := finish (b_row_of_word d_product d_word)
theorem w_row_of_word (T : Top K mg) {d_product : PyData} {d_word : PyData} {f : Addr} {cdv : Value} {A : Around} {outer : List Env} {s : Shared} {H : Hp} {E : XK} {C : Ct} (hr : Room 1 (A.deeper (envOfC "row_of_word" (defScope sD_row_of_word) s.heap.objs.size f cdv))) (tk : Takes (cxD P w K mg base ["product", "word", "pair"] "row_of_word" (defScope sD_row_of_word) f cdv A outer s H E) C.W) (po : PassesOwn (model P w) (cxD P w K mg base ["product", "word", "pair"] "row_of_word" (defScope sD_row_of_word) f cdv A outer s H E).A (cxD P w K mg base ["product", "word", "pair"] "row_of_word" (defScope sD_row_of_word) f cdv A outer s H E).env (cxD P w K mg base ["product", "word", "pair"] "row_of_word" (defScope sD_row_of_word) f cdv A outer s H E).xe) (hrx : C.rx = []) (hc0 : C.c.isSome = false) :
    FB (cxD P w K mg base ["product", "word", "pair"] "row_of_word" (defScope sD_row_of_word) f cdv A outer s H E) C (slots0 false [d_product, d_word] 1) (fun _ : Unit => []) (fun b : Empty => nomatch b) false (defBody sD_row_of_word) (b_row_of_word d_product d_word) := by
  have S := sc_row_of_word
  unfold b_row_of_word
  exact (fb_ret (fe_tuple T.z_tuple (fe_of (fo_lc (own := [("pair", 2)]) rfl S.nd (fi_any (fe_callP (ok_things_in_pairs T) (hr.mono (by decide)) tk (wk0 hrx) (fa_cons (fe_len T.z_len (fe_name 0)) fa_nil))) (blkOk_by (by first | rfl | with_unfolding_all rfl)) (fun s0 H0 Ca cl fp => fg_name 2 S.nd) (fun t1 s0 H0 Ca cl fp => fts_nil) (fun t1 s0 H0 Ca cl fp => (fe_callP (ok_word_worth_in T) (hr.mono (by decide)) takes0 .nil (fa_cons (fe_name 0) (fa_cons (fe_name 1) (fa_cons (fe_name 2) fa_nil)))))))))
theorem ok_row_of_word (T : Top K mg) : Pr P w K mg base 2 "row_of_word" ["product", "word"] (spD K mg false false 2 (ap2 m_row_of_word)) := by
  have S := sc_row_of_word
  exact pr_d (un := 1) T.d_row_of_word S (fun _ _ _ _ _ _ us hl => match us, hl with | [_, _], _ => rfl) rfl rfl (fun f cdv A outer s H E C ds hr tk po hrx hc0 hd => by
    match ds, hd with
    | [d_product, d_word], _ => exact ⟨b_row_of_word d_product d_word, fun _ => rfl, w_row_of_word T hr tk po hrx hc0⟩) (fun z => nomatch z)
/-! word_row -/
abbrev sD_word_row : Stmt := top 46
theorem sc_word_row : FnScope ["product", "word"] ["product", "word"] (defScope sD_word_row) := ⟨rfl, rfl, rfl, by decide +kernel, rfl, by decide +kernel, by decide +kernel⟩
noncomputable def b_word_row (d_product : PyData) (d_word : PyData) : M (Fl Unit Empty) := ((mCall (ap1 m_need_product) [(pure d_product)]) >>= fun _u2 => ((mCall (ap1 m_need_letter_word) [(pure d_word)]) >>= fun _u1 => (sRet (mCall (ap2 m_row_of_word) [(pure d_product), (pure d_word)]))))
noncomputable def m_word_row (d_product : PyData) (d_word : PyData) : M PyData := finish (b_word_row d_product d_word)
theorem w_word_row (T : Top K mg) {d_product : PyData} {d_word : PyData} {f : Addr} {cdv : Value} {A : Around} {outer : List Env} {s : Shared} {H : Hp} {E : XK} {C : Ct} (hr : Room 5 (A.deeper (envOfC "word_row" (defScope sD_word_row) s.heap.objs.size f cdv))) (tk : Takes (cxD P w K mg base ["product", "word"] "word_row" (defScope sD_word_row) f cdv A outer s H E) C.W) (po : PassesOwn (model P w) (cxD P w K mg base ["product", "word"] "word_row" (defScope sD_word_row) f cdv A outer s H E).A (cxD P w K mg base ["product", "word"] "word_row" (defScope sD_word_row) f cdv A outer s H E).env (cxD P w K mg base ["product", "word"] "word_row" (defScope sD_word_row) f cdv A outer s H E).xe) (hrx : C.rx = []) (hc0 : C.c.isSome = false) :
    FB (cxD P w K mg base ["product", "word"] "word_row" (defScope sD_word_row) f cdv A outer s H E) C (slots0 false [d_product, d_word] 0) (fun _ : Unit => []) (fun b : Empty => nomatch b) false (defBody sD_word_row) (b_word_row d_product d_word) := by
  have S := sc_word_row
  unfold b_word_row
  exact (fb_expr (fe_callP (ok_need_product T) (hr.mono (by decide)) tk (wk0 hrx) (fa_cons (fe_name 0) fa_nil)) fun _u2 => (fb_expr (fe_callP (ok_need_letter_word T) (hr.mono (by decide)) tk (wk0 hrx) (fa_cons (fe_name 1) fa_nil)) fun _u1 => (fb_ret (fe_callP (ok_row_of_word T) (hr.mono (by decide)) tk (wk0 hrx) (fa_cons (fe_name 0) (fa_cons (fe_name 1) fa_nil))))))
theorem ok_word_row (T : Top K mg) : Pr P w K mg base 6 "word_row" ["product", "word"] (spD K mg false false 2 (ap2 m_word_row)) := by
  have S := sc_word_row
  exact pr_d (un := 0) T.d_word_row S (fun _ _ _ _ _ _ us hl => match us, hl with | [_, _], _ => rfl) rfl rfl (fun f cdv A outer s H E C ds hr tk po hrx hc0 hd => by
    match ds, hd with
    | [d_product, d_word], _ => exact ⟨b_word_row d_product d_word, fun _ => rfl, w_word_row T hr tk po hrx hc0⟩) (fun z => nomatch z)
/-! _law_roll -/
abbrev sD__law_roll : Stmt := top 52
theorem sc__law_roll : FnScope ["cup", "many", "found", "deep"] ["cup", "many"] (defScope sD__law_roll) := ⟨rfl, rfl, rfl, by decide +kernel, rfl, by decide +kernel, by decide +kernel⟩
noncomputable def b__law_roll (d_many : PyData) : M (Fl Unit Empty) := (sIfR (tCmp pgt (mCup (pure (.int 0))) (pure (.int 0))) ((mOp pmod (mUn pint (mCup (pure (.int 0)))) (pure d_many)) >>= fun x1 => (sCupSet (mOp pfdiv (mCup (pure (.int 0))) (pure d_many)) (pure (.int 0)) (sRet (pure x1)))) (sCupSet (mOp pmod (mUn pint (mOp padd (mOp pmul (mCup (pure (.int 1))) (pure (.int 31051))) (pure (.int 7993)))) (pure (.int 2147483543))) (pure (.int 1)) ((mOp pmod (mUn pint (mOp pmul (mCup (pure (.int 1))) (mOp padd (mCup (pure (.int 1))) (pure (.int 229))))) (pure (.int 2147483587))) >>= fun x2 => (sRet (mOp pmod (mUn pint (mOp pfdiv (pure x2) (pure (.int 821)))) (pure d_many))))))
noncomputable def m__law_roll (d_many : PyData) : M PyData := finish (b__law_roll d_many)
theorem w__law_roll (T : Top K mg) {d_many : PyData} {f : Addr} {cdv : Value} {A : Around} {outer : List Env} {s : Shared} {H : Hp} {E : XK} {C : Ct} (hr : Room 0 (A.deeper (envOfC "_law_roll" (defScope sD__law_roll) s.heap.objs.size f cdv))) (tk : Takes (cxD P w K mg base ["cup", "many", "found", "deep"] "_law_roll" (defScope sD__law_roll) f cdv A outer s H E) C.W) (po : PassesOwn (model P w) (cxD P w K mg base ["cup", "many", "found", "deep"] "_law_roll" (defScope sD__law_roll) f cdv A outer s H E).A (cxD P w K mg base ["cup", "many", "found", "deep"] "_law_roll" (defScope sD__law_roll) f cdv A outer s H E).env (cxD P w K mg base ["cup", "many", "found", "deep"] "_law_roll" (defScope sD__law_roll) f cdv A outer s H E).xe) (hrx : C.rx = []) (hc0 : C.c.isSome = true) :
    FB (cxD P w K mg base ["cup", "many", "found", "deep"] "_law_roll" (defScope sD__law_roll) f cdv A outer s H E) C (slots0 true [d_many] 2) (fun _ : Unit => []) (fun b : Empty => nomatch b) false (defBody sD__law_roll) (b__law_roll d_many) := by
  have S := sc__law_roll
  unfold b__law_roll
  exact (fb_ifR (emb0 := fun z : Empty => nomatch z) (ft_cmp op_gt (pcmp_ok _ _) (nomark _) (fe_cupget 0 fe_int) fe_int) (fb_set 2 S.nd (fe_op op_mod (pmod_ok _) (fe_intOf T.z_int (fe_cupget 0 fe_int)) (fe_name 1)) fun x1 => (fb_cupset 0 (fe_op op_fdiv (pfdiv_ok _) (fe_cupget 0 fe_int) (fe_name 1)) fe_int (fb_ret (fe_name 2)))) (fb_cupset 0 (fe_op op_mod (pmod_ok _) (fe_intOf T.z_int (fe_op op_addAll (padd_ok _) (fe_op op_mulAll (pmul_ok _) (fe_cupget 0 fe_int) fe_int) fe_int)) fe_int) fe_int (fb_set 3 S.nd (fe_op op_mod (pmod_ok _) (fe_intOf T.z_int (fe_op op_mulAll (pmul_ok _) (fe_cupget 0 fe_int) (fe_op op_addAll (padd_ok _) (fe_cupget 0 fe_int) fe_int))) fe_int) fun x2 => (fb_ret (fe_op op_mod (pmod_ok _) (fe_intOf T.z_int (fe_op op_fdiv (pfdiv_ok _) (fe_name 3) fe_int)) (fe_name 1))))))
theorem ok__law_roll (T : Top K mg) : Pr P w K mg base 1 "_law_roll" ["cup", "many"] (spD K mg true false 1 (ap1 m__law_roll)) := by
  have S := sc__law_roll
  exact pr_d (un := 2) T.d__law_roll S (fun _ _ _ _ _ _ us hl => match us, hl with | [_, _], _ => rfl) rfl rfl (fun f cdv A outer s H E C ds hr tk po hrx hc0 hd => by
    match ds, hd with
    | [d_many], _ => exact ⟨b__law_roll d_many, fun _ => rfl, w__law_roll T hr tk po hrx hc0⟩) (fun z => nomatch z)
/-! _law_some -/
abbrev sD__law_some : Stmt := top 53
theorem sc__law_some : FnScope ["cup", "things"] ["cup", "things"] (defScope sD__law_some) := ⟨rfl, rfl, rfl, by decide +kernel, rfl, by decide +kernel, by decide +kernel⟩
noncomputable def b__law_some (d_things : PyData) : M (Fl Unit Empty) := (sRet (mOp pidx (pure d_things) (mCallC (ap1 m__law_roll) [(mUn plen (pure d_things))])))
noncomputable def m__law_some (d_things : PyData) : M PyData := finish (b__law_some d_things)
theorem w__law_some (T : Top K mg) {d_things : PyData} {f : Addr} {cdv : Value} {A : Around} {outer : List Env} {s : Shared} {H : Hp} {E : XK} {C : Ct} (hr : Room 1 (A.deeper (envOfC "_law_some" (defScope sD__law_some) s.heap.objs.size f cdv))) (tk : Takes (cxD P w K mg base ["cup", "things"] "_law_some" (defScope sD__law_some) f cdv A outer s H E) C.W) (po : PassesOwn (model P w) (cxD P w K mg base ["cup", "things"] "_law_some" (defScope sD__law_some) f cdv A outer s H E).A (cxD P w K mg base ["cup", "things"] "_law_some" (defScope sD__law_some) f cdv A outer s H E).env (cxD P w K mg base ["cup", "things"] "_law_some" (defScope sD__law_some) f cdv A outer s H E).xe) (hrx : C.rx = []) (hc0 : C.c.isSome = true) :
    FB (cxD P w K mg base ["cup", "things"] "_law_some" (defScope sD__law_some) f cdv A outer s H E) C (slots0 true [d_things] 0) (fun _ : Unit => []) (fun b : Empty => nomatch b) false (defBody sD__law_some) (b__law_some d_things) := by
  have S := sc__law_some
  unfold b__law_some
  exact (fb_ret (fe_idx (fe_name 1) (fe_callPC 0 (ok__law_roll T) (hr.mono (by decide)) tk (wk0 hrx) (fa_cons (fe_len T.z_len (fe_name 1)) fa_nil))))
theorem ok__law_some (T : Top K mg) : Pr P w K mg base 2 "_law_some" ["cup", "things"] (spD K mg true false 1 (ap1 m__law_some)) := by
  have S := sc__law_some
  exact pr_d (un := 0) T.d__law_some S (fun _ _ _ _ _ _ us hl => match us, hl with | [_, _], _ => rfl) rfl rfl (fun f cdv A outer s H E C ds hr tk po hrx hc0 hd => by
    match ds, hd with
    | [d_things], _ => exact ⟨b__law_some d_things, fun _ => rfl, w__law_some T hr tk po hrx hc0⟩) (fun z => nomatch z)
/-! _law_word -/
abbrev sD__law_word : Stmt := top 60
theorem sc__law_word : FnScope ["cup", "most", "turn"] ["cup", "most"] (defScope sD__law_word) := ⟨rfl, rfl, rfl, by decide +kernel, rfl, by decide +kernel, by decide +kernel⟩
noncomputable def b__law_word (d_most : PyData) : M (Fl Unit Empty) := (sRet (mStr pjoin (pure (.str "")) (mLst (oLc (iRange1 (mOp padd (pure (.int 1)) (mCallC (ap1 m__law_roll) [(pure d_most)]))) (fun d => pure d) (fun t1 => (pure true)) (fun t1 => (mCallC (ap1 m__law_some) [(pure (.str "ab"))]))))))
noncomputable def m__law_word (d_most : PyData) : M PyData := finish (b__law_word d_most)
theorem w__law_word (T : Top K mg) {d_most : PyData} {f : Addr} {cdv : Value} {A : Around} {outer : List Env} {s : Shared} {H : Hp} {E : XK} {C : Ct} (hr : Room 2 (A.deeper (envOfC "_law_word" (defScope sD__law_word) s.heap.objs.size f cdv))) (tk : Takes (cxD P w K mg base ["cup", "most", "turn"] "_law_word" (defScope sD__law_word) f cdv A outer s H E) C.W) (po : PassesOwn (model P w) (cxD P w K mg base ["cup", "most", "turn"] "_law_word" (defScope sD__law_word) f cdv A outer s H E).A (cxD P w K mg base ["cup", "most", "turn"] "_law_word" (defScope sD__law_word) f cdv A outer s H E).env (cxD P w K mg base ["cup", "most", "turn"] "_law_word" (defScope sD__law_word) f cdv A outer s H E).xe) (hrx : C.rx = []) (hc0 : C.c.isSome = true) :
    FB (cxD P w K mg base ["cup", "most", "turn"] "_law_word" (defScope sD__law_word) f cdv A outer s H E) C (slots0 true [d_most] 1) (fun _ : Unit => []) (fun b : Empty => nomatch b) false (defBody sD__law_word) (b__law_word d_most) := by
  have S := sc__law_word
  unfold b__law_word
  exact (fb_ret (fe_join fe_str (fe_of (fo_lc (own := [("turn", 2)]) rfl S.nd (fi_range1 T.z_range (fe_op op_addAll (padd_ok _) fe_int (fe_callPC 0 (ok__law_roll T) (hr.mono (by decide)) tk (wk0 hrx) (fa_cons (fe_name 1) fa_nil)))) (blkOk_by (by first | rfl | with_unfolding_all rfl)) (fun s0 H0 Ca cl fp => fg_name 2 S.nd) (fun t1 s0 H0 Ca cl fp => fts_nil) (fun t1 s0 H0 Ca cl fp => (fe_callPC 0 (ok__law_some T) (hr.mono (by decide)) takes0 .nil (fa_cons fe_str fa_nil)))))))
theorem ok__law_word (T : Top K mg) : Pr P w K mg base 3 "_law_word" ["cup", "most"] (spD K mg true false 1 (ap1 m__law_word)) := by
  have S := sc__law_word
  exact pr_d (un := 1) T.d__law_word S (fun _ _ _ _ _ _ us hl => match us, hl with | [_, _], _ => rfl) rfl rfl (fun f cdv A outer s H E C ds hr tk po hrx hc0 hd => by
    match ds, hd with
    | [d_most], _ => exact ⟨b__law_word d_most, fun _ => rfl, w__law_word T hr tk po hrx hc0⟩) (fun z => nomatch z)
/-! need_two_words -/
abbrev sD_need_two_words : Stmt := top 39
theorem sc_need_two_words : FnScope ["product", "word", "second"] ["product", "word", "second"] (defScope sD_need_two_words) := ⟨rfl, rfl, rfl, by decide +kernel, rfl, by decide +kernel, by decide +kernel⟩
noncomputable def b_need_two_words (d_product : PyData) (d_word : PyData) (d_second : PyData) : M (Fl Unit Empty) := ((mCall (ap1 m_need_product) [(pure d_product)]) >>= fun _u3 => ((mCall (ap1 m_need_letter_word) [(pure d_word)]) >>= fun _u2 => ((mCall (ap1 m_need_letter_word) [(pure d_second)]) >>= fun _u1 => (pure (.nx ())))))
noncomputable def m_need_two_words (d_product : PyData) (d_word : PyData) (d_second : PyData) : M PyData := finish (b_need_two_words d_product d_word d_second)
theorem w_need_two_words (T : Top K mg) {d_product : PyData} {d_word : PyData} {d_second : PyData} {f : Addr} {cdv : Value} {A : Around} {outer : List Env} {s : Shared} {H : Hp} {E : XK} {C : Ct} (hr : Room 5 (A.deeper (envOfC "need_two_words" (defScope sD_need_two_words) s.heap.objs.size f cdv))) (tk : Takes (cxD P w K mg base ["product", "word", "second"] "need_two_words" (defScope sD_need_two_words) f cdv A outer s H E) C.W) (po : PassesOwn (model P w) (cxD P w K mg base ["product", "word", "second"] "need_two_words" (defScope sD_need_two_words) f cdv A outer s H E).A (cxD P w K mg base ["product", "word", "second"] "need_two_words" (defScope sD_need_two_words) f cdv A outer s H E).env (cxD P w K mg base ["product", "word", "second"] "need_two_words" (defScope sD_need_two_words) f cdv A outer s H E).xe) (hrx : C.rx = []) (hc0 : C.c.isSome = false) :
    FB (cxD P w K mg base ["product", "word", "second"] "need_two_words" (defScope sD_need_two_words) f cdv A outer s H E) C (slots0 false [d_product, d_word, d_second] 0) (fun _ : Unit => []) (fun b : Empty => nomatch b) false (defBody sD_need_two_words) (b_need_two_words d_product d_word d_second) := by
  have S := sc_need_two_words
  unfold b_need_two_words
  exact (fb_expr (fe_callP (ok_need_product T) (hr.mono (by decide)) tk (wk0 hrx) (fa_cons (fe_name 0) fa_nil)) fun _u3 => (fb_expr (fe_callP (ok_need_letter_word T) (hr.mono (by decide)) tk (wk0 hrx) (fa_cons (fe_name 1) fa_nil)) fun _u2 => (fb_expr (fe_callP (ok_need_letter_word T) (hr.mono (by decide)) tk (wk0 hrx) (fa_cons (fe_name 2) fa_nil)) fun _u1 => (fb_nil () .nil))))
theorem ok_need_two_words (T : Top K mg) : Pr P w K mg base 6 "need_two_words" ["product", "word", "second"] (spD K mg false false 3 (ap3 m_need_two_words)) := by
  have S := sc_need_two_words
  exact pr_d (un := 0) T.d_need_two_words S (fun _ _ _ _ _ _ us hl => match us, hl with | [_, _, _], _ => rfl) rfl rfl (fun f cdv A outer s H E C ds hr tk po hrx hc0 hd => by
    match ds, hd with
    | [d_product, d_word, d_second], _ => exact ⟨b_need_two_words d_product d_word d_second, fun _ => rfl, w_need_two_words T hr tk po hrx hc0⟩) (fun z => nomatch z)
/-! word_counter_in -/
abbrev sD_word_counter_in : Stmt := top 43
theorem sc_word_counter_in : FnScope ["product", "word", "second", "pair"] ["product", "word", "second"] (defScope sD_word_counter_in) := ⟨rfl, rfl, rfl, by decide +kernel, rfl, by decide +kernel, by decide +kernel⟩
noncomputable def b_word_counter_in (d_product : PyData) (d_word : PyData) (d_second : PyData) : M (Fl Unit Empty) := (sFor (τ' := Unit) (iAll (mCall (ap1 m_things_in_pairs) [(mUn plen (pure d_product))])) (fun d => pure d) (fun x2 t1 => (sIfR (tCmp pne (mCall (ap3 m_word_worth_in) [(pure d_product), (pure d_word), (pure x2)]) (mCall (ap3 m_word_worth_in) [(pure d_product), (pure d_second), (pure x2)])) (sRet (pure x2)) (pure (.nx ())))) () fun t1 => (sRet (pure .none)))
noncomputable def m_word_counter_in (d_product : PyData) (d_word : PyData) (d_second : PyData) : M PyData := finish (b_word_counter_in d_product d_word d_second)
theorem w_word_counter_in (T : Top K mg) {d_product : PyData} {d_word : PyData} {d_second : PyData} {f : Addr} {cdv : Value} {A : Around} {outer : List Env} {s : Shared} {H : Hp} {E : XK} {C : Ct} (hr : Room 1 (A.deeper (envOfC "word_counter_in" (defScope sD_word_counter_in) s.heap.objs.size f cdv))) (tk : Takes (cxD P w K mg base ["product", "word", "second", "pair"] "word_counter_in" (defScope sD_word_counter_in) f cdv A outer s H E) C.W) (po : PassesOwn (model P w) (cxD P w K mg base ["product", "word", "second", "pair"] "word_counter_in" (defScope sD_word_counter_in) f cdv A outer s H E).A (cxD P w K mg base ["product", "word", "second", "pair"] "word_counter_in" (defScope sD_word_counter_in) f cdv A outer s H E).env (cxD P w K mg base ["product", "word", "second", "pair"] "word_counter_in" (defScope sD_word_counter_in) f cdv A outer s H E).xe) (hrx : C.rx = []) (hc0 : C.c.isSome = false) :
    FB (cxD P w K mg base ["product", "word", "second", "pair"] "word_counter_in" (defScope sD_word_counter_in) f cdv A outer s H E) C (slots0 false [d_product, d_word, d_second] 1) (fun _ : Unit => []) (fun b : Empty => nomatch b) false (defBody sD_word_counter_in) (b_word_counter_in d_product d_word d_second) := by
  have S := sc_word_counter_in
  unfold b_word_counter_in
  exact (fb_for (e0 := fun t1 : Unit => [.d d_product, .d d_word, .d d_second, .un]) () po rfl (fi_any (fe_callP (ok_things_in_pairs T) (hr.mono (by decide)) tk (wk0 hrx) (fa_cons (fe_len T.z_len (fe_name 0)) fa_nil))) (fg_name 3 S.nd) (.keep (.keep (.keep (.drop .nil)))) (fun x2 t1 => (fb_ifR (emb0 := fun z : Empty => nomatch z) (ft_cmp (op_neP (hu64 hr)) (pne_ok _) (nomark _) (fe_callP (ok_word_worth_in T) (hr.mono (by decide)) tk (wk0 hrx) (fa_cons (fe_name 0) (fa_cons (fe_name 1) (fa_cons (fe_name 3) fa_nil)))) (fe_callP (ok_word_worth_in T) (hr.mono (by decide)) tk (wk0 hrx) (fa_cons (fe_name 0) (fa_cons (fe_name 2) (fa_cons (fe_name 3) fa_nil))))) (fb_ret (fe_name 3)) (fb_nil () (.keep (.keep (.keep (.drop .nil))))))) fun t1 => (fb_ret fe_non))
theorem ok_word_counter_in (T : Top K mg) : Pr P w K mg base 2 "word_counter_in" ["product", "word", "second"] (spD K mg false false 3 (ap3 m_word_counter_in)) := by
  have S := sc_word_counter_in
  exact pr_d (un := 1) T.d_word_counter_in S (fun _ _ _ _ _ _ us hl => match us, hl with | [_, _, _], _ => rfl) rfl rfl (fun f cdv A outer s H E C ds hr tk po hrx hc0 hd => by
    match ds, hd with
    | [d_product, d_word, d_second], _ => exact ⟨b_word_counter_in d_product d_word d_second, fun _ => rfl, w_word_counter_in T hr tk po hrx hc0⟩) (fun z => nomatch z)
/-! do_words_agree -/
abbrev sD_do_words_agree : Stmt := top 47
theorem sc_do_words_agree : FnScope ["product", "word", "second"] ["product", "word", "second"] (defScope sD_do_words_agree) := ⟨rfl, rfl, rfl, by decide +kernel, rfl, by decide +kernel, by decide +kernel⟩
noncomputable def b_do_words_agree (d_product : PyData) (d_word : PyData) (d_second : PyData) : M (Fl Unit Empty) := ((mCall (ap3 m_need_two_words) [(pure d_product), (pure d_word), (pure d_second)]) >>= fun _u1 => (sRet (mOp pisN (mCall (ap3 m_word_counter_in) [(pure d_product), (pure d_word), (pure d_second)]) (pure .none))))
noncomputable def m_do_words_agree (d_product : PyData) (d_word : PyData) (d_second : PyData) : M PyData := finish (b_do_words_agree d_product d_word d_second)
theorem w_do_words_agree (T : Top K mg) {d_product : PyData} {d_word : PyData} {d_second : PyData} {f : Addr} {cdv : Value} {A : Around} {outer : List Env} {s : Shared} {H : Hp} {E : XK} {C : Ct} (hr : Room 6 (A.deeper (envOfC "do_words_agree" (defScope sD_do_words_agree) s.heap.objs.size f cdv))) (tk : Takes (cxD P w K mg base ["product", "word", "second"] "do_words_agree" (defScope sD_do_words_agree) f cdv A outer s H E) C.W) (po : PassesOwn (model P w) (cxD P w K mg base ["product", "word", "second"] "do_words_agree" (defScope sD_do_words_agree) f cdv A outer s H E).A (cxD P w K mg base ["product", "word", "second"] "do_words_agree" (defScope sD_do_words_agree) f cdv A outer s H E).env (cxD P w K mg base ["product", "word", "second"] "do_words_agree" (defScope sD_do_words_agree) f cdv A outer s H E).xe) (hrx : C.rx = []) (hc0 : C.c.isSome = false) :
    FB (cxD P w K mg base ["product", "word", "second"] "do_words_agree" (defScope sD_do_words_agree) f cdv A outer s H E) C (slots0 false [d_product, d_word, d_second] 0) (fun _ : Unit => []) (fun b : Empty => nomatch b) false (defBody sD_do_words_agree) (b_do_words_agree d_product d_word d_second) := by
  have S := sc_do_words_agree
  unfold b_do_words_agree
  exact (fb_expr (fe_callP (ok_need_two_words T) (hr.mono (by decide)) tk (wk0 hrx) (fa_cons (fe_name 0) (fa_cons (fe_name 1) (fa_cons (fe_name 2) fa_nil)))) fun _u1 => (fb_ret (fe_cmp op_isN (pisN_ok _) (nomark _) (fe_callP (ok_word_counter_in T) (hr.mono (by decide)) tk (wk0 hrx) (fa_cons (fe_name 0) (fa_cons (fe_name 1) (fa_cons (fe_name 2) fa_nil)))) fe_non)))
theorem ok_do_words_agree (T : Top K mg) : Pr P w K mg base 7 "do_words_agree" ["product", "word", "second"] (spD K mg false false 3 (ap3 m_do_words_agree)) := by
  have S := sc_do_words_agree
  exact pr_d (un := 0) T.d_do_words_agree S (fun _ _ _ _ _ _ us hl => match us, hl with | [_, _, _], _ => rfl) rfl rfl (fun f cdv A outer s H E C ds hr tk po hrx hc0 hd => by
    match ds, hd with
    | [d_product, d_word, d_second], _ => exact ⟨b_do_words_agree d_product d_word d_second, fun _ => rfl, w_do_words_agree T hr tk po hrx hc0⟩) (fun z => nomatch z)
/-! word_counter -/
abbrev sD_word_counter : Stmt := top 48
theorem sc_word_counter : FnScope ["product", "word", "second"] ["product", "word", "second"] (defScope sD_word_counter) := ⟨rfl, rfl, rfl, by decide +kernel, rfl, by decide +kernel, by decide +kernel⟩
noncomputable def b_word_counter (d_product : PyData) (d_word : PyData) (d_second : PyData) : M (Fl Unit Empty) := ((mCall (ap3 m_need_two_words) [(pure d_product), (pure d_word), (pure d_second)]) >>= fun _u1 => (sRet (mCall (ap3 m_word_counter_in) [(pure d_product), (pure d_word), (pure d_second)])))
noncomputable def m_word_counter (d_product : PyData) (d_word : PyData) (d_second : PyData) : M PyData := finish (b_word_counter d_product d_word d_second)
theorem w_word_counter (T : Top K mg) {d_product : PyData} {d_word : PyData} {d_second : PyData} {f : Addr} {cdv : Value} {A : Around} {outer : List Env} {s : Shared} {H : Hp} {E : XK} {C : Ct} (hr : Room 6 (A.deeper (envOfC "word_counter" (defScope sD_word_counter) s.heap.objs.size f cdv))) (tk : Takes (cxD P w K mg base ["product", "word", "second"] "word_counter" (defScope sD_word_counter) f cdv A outer s H E) C.W) (po : PassesOwn (model P w) (cxD P w K mg base ["product", "word", "second"] "word_counter" (defScope sD_word_counter) f cdv A outer s H E).A (cxD P w K mg base ["product", "word", "second"] "word_counter" (defScope sD_word_counter) f cdv A outer s H E).env (cxD P w K mg base ["product", "word", "second"] "word_counter" (defScope sD_word_counter) f cdv A outer s H E).xe) (hrx : C.rx = []) (hc0 : C.c.isSome = false) :
    FB (cxD P w K mg base ["product", "word", "second"] "word_counter" (defScope sD_word_counter) f cdv A outer s H E) C (slots0 false [d_product, d_word, d_second] 0) (fun _ : Unit => []) (fun b : Empty => nomatch b) false (defBody sD_word_counter) (b_word_counter d_product d_word d_second) := by
  have S := sc_word_counter
  unfold b_word_counter
  exact (fb_expr (fe_callP (ok_need_two_words T) (hr.mono (by decide)) tk (wk0 hrx) (fa_cons (fe_name 0) (fa_cons (fe_name 1) (fa_cons (fe_name 2) fa_nil)))) fun _u1 => (fb_ret (fe_callP (ok_word_counter_in T) (hr.mono (by decide)) tk (wk0 hrx) (fa_cons (fe_name 0) (fa_cons (fe_name 1) (fa_cons (fe_name 2) fa_nil))))))
theorem ok_word_counter (T : Top K mg) : Pr P w K mg base 7 "word_counter" ["product", "word", "second"] (spD K mg false false 3 (ap3 m_word_counter)) := by
  have S := sc_word_counter
  exact pr_d (un := 0) T.d_word_counter S (fun _ _ _ _ _ _ us hl => match us, hl with | [_, _, _], _ => rfl) rfl rfl (fun f cdv A outer s H E C ds hr tk po hrx hc0 hd => by
    match ds, hd with
    | [d_product, d_word, d_second], _ => exact ⟨b_word_counter d_product d_word d_second, fun _ => rfl, w_word_counter T hr tk po hrx hc0⟩) (fun z => nomatch z)
/-! is_word_counter -/
abbrev sD_is_word_counter : Stmt := top 49
theorem sc_is_word_counter : FnScope ["product", "word", "second", "value"] ["product", "word", "second", "value"] (defScope sD_is_word_counter) := ⟨rfl, rfl, rfl, by decide +kernel, rfl, by decide +kernel, by decide +kernel⟩
noncomputable def b_is_word_counter (d_product : PyData) (d_word : PyData) (d_second : PyData) (d_value : PyData) : M (Fl Unit Empty) := ((mCall (ap3 m_need_two_words) [(pure d_product), (pure d_word), (pure d_second)]) >>= fun _u1 => (sIfR (tNo (tVal (mCall (ap4 m_are_things) [(mUn plen (pure d_product)), (pure d_value), (pure (.int 2)), (pure (.int 2))]))) (sRet (pure (.bool false))) (sRet (mOp pne (mCall (ap3 m_word_worth_in) [(pure d_product), (pure d_word), (pure d_value)]) (mCall (ap3 m_word_worth_in) [(pure d_product), (pure d_second), (pure d_value)])))))
noncomputable def m_is_word_counter (d_product : PyData) (d_word : PyData) (d_second : PyData) (d_value : PyData) : M PyData := finish (b_is_word_counter d_product d_word d_second d_value)
theorem w_is_word_counter (T : Top K mg) {d_product : PyData} {d_word : PyData} {d_second : PyData} {d_value : PyData} {f : Addr} {cdv : Value} {A : Around} {outer : List Env} {s : Shared} {H : Hp} {E : XK} {C : Ct} (hr : Room 6 (A.deeper (envOfC "is_word_counter" (defScope sD_is_word_counter) s.heap.objs.size f cdv))) (tk : Takes (cxD P w K mg base ["product", "word", "second", "value"] "is_word_counter" (defScope sD_is_word_counter) f cdv A outer s H E) C.W) (po : PassesOwn (model P w) (cxD P w K mg base ["product", "word", "second", "value"] "is_word_counter" (defScope sD_is_word_counter) f cdv A outer s H E).A (cxD P w K mg base ["product", "word", "second", "value"] "is_word_counter" (defScope sD_is_word_counter) f cdv A outer s H E).env (cxD P w K mg base ["product", "word", "second", "value"] "is_word_counter" (defScope sD_is_word_counter) f cdv A outer s H E).xe) (hrx : C.rx = []) (hc0 : C.c.isSome = false) :
    FB (cxD P w K mg base ["product", "word", "second", "value"] "is_word_counter" (defScope sD_is_word_counter) f cdv A outer s H E) C (slots0 false [d_product, d_word, d_second, d_value] 0) (fun _ : Unit => []) (fun b : Empty => nomatch b) false (defBody sD_is_word_counter) (b_is_word_counter d_product d_word d_second d_value) := by
  have S := sc_is_word_counter
  unfold b_is_word_counter
  exact (fb_expr (fe_callP (ok_need_two_words T) (hr.mono (by decide)) tk (wk0 hrx) (fa_cons (fe_name 0) (fa_cons (fe_name 1) (fa_cons (fe_name 2) fa_nil)))) fun _u1 => (fb_ifR (emb0 := fun z : Empty => nomatch z) (ft_not (ft_val (fe_callP (ok_are_things T) (hr.mono (by decide)) tk (wk0 hrx) (fa_cons (fe_len T.z_len (fe_name 0)) (fa_cons (fe_name 3) (fa_cons fe_int (fa_cons fe_int fa_nil))))))) (fb_ret fe_bl) (fb_ret (fe_cmp (op_neP (hu64 hr)) (pne_ok _) (nomark _) (fe_callP (ok_word_worth_in T) (hr.mono (by decide)) tk (wk0 hrx) (fa_cons (fe_name 0) (fa_cons (fe_name 1) (fa_cons (fe_name 3) fa_nil)))) (fe_callP (ok_word_worth_in T) (hr.mono (by decide)) tk (wk0 hrx) (fa_cons (fe_name 0) (fa_cons (fe_name 2) (fa_cons (fe_name 3) fa_nil))))))))
theorem ok_is_word_counter (T : Top K mg) : Pr P w K mg base 7 "is_word_counter" ["product", "word", "second", "value"] (spD K mg false false 4 (ap4 m_is_word_counter)) := by
  have S := sc_is_word_counter
  exact pr_d (un := 0) T.d_is_word_counter S (fun _ _ _ _ _ _ us hl => match us, hl with | [_, _, _, _], _ => rfl) rfl rfl (fun f cdv A outer s H E C ds hr tk po hrx hc0 hd => by
    match ds, hd with
    | [d_product, d_word, d_second, d_value], _ => exact ⟨b_is_word_counter d_product d_word d_second d_value, fun _ => rfl, w_is_word_counter T hr tk po hrx hc0⟩) (fun z => nomatch z)
/-! _law_worth_of -/
abbrev sD__law_worth_of : Stmt := top 58
theorem sc__law_worth_of : FnScope ["product", "word", "one", "other", "found", "letter"] ["product", "word", "one", "other"] (defScope sD__law_worth_of) := ⟨rfl, rfl, rfl, by decide +kernel, rfl, by decide +kernel, by decide +kernel⟩
noncomputable def b__law_worth_of (d_product : PyData) (d_word : PyData) (d_one : PyData) (d_other : PyData) : M (Fl Unit Empty) := ((mIf (tCmp peq (mOp pidx (pure d_word) (pure (.int 0))) (pure (.str "a"))) (pure d_one) (pure d_other)) >>= fun x1 => (sFor (τ' := PyData) (iAll (mSl (pure d_word) (pSome (pure (.int 1))) (pure none))) (fun d => pure d) (fun x3 t2 => ((mOp pidx (mOp pidx (pure d_product) (pure t2)) (mIf (tCmp peq (pure x3) (pure (.str "a"))) (pure d_one) (pure d_other))) >>= fun x4 => (pure (.nx x4)))) x1 fun t2 => (sRet (pure t2))))
noncomputable def m__law_worth_of (d_product : PyData) (d_word : PyData) (d_one : PyData) (d_other : PyData) : M PyData := finish (b__law_worth_of d_product d_word d_one d_other)
theorem w__law_worth_of (T : Top K mg) {d_product : PyData} {d_word : PyData} {d_one : PyData} {d_other : PyData} {f : Addr} {cdv : Value} {A : Around} {outer : List Env} {s : Shared} {H : Hp} {E : XK} {C : Ct} (hr : Room 0 (A.deeper (envOfC "_law_worth_of" (defScope sD__law_worth_of) s.heap.objs.size f cdv))) (tk : Takes (cxD P w K mg base ["product", "word", "one", "other", "found", "letter"] "_law_worth_of" (defScope sD__law_worth_of) f cdv A outer s H E) C.W) (po : PassesOwn (model P w) (cxD P w K mg base ["product", "word", "one", "other", "found", "letter"] "_law_worth_of" (defScope sD__law_worth_of) f cdv A outer s H E).A (cxD P w K mg base ["product", "word", "one", "other", "found", "letter"] "_law_worth_of" (defScope sD__law_worth_of) f cdv A outer s H E).env (cxD P w K mg base ["product", "word", "one", "other", "found", "letter"] "_law_worth_of" (defScope sD__law_worth_of) f cdv A outer s H E).xe) (hrx : C.rx = []) (hc0 : C.c.isSome = false) :
    FB (cxD P w K mg base ["product", "word", "one", "other", "found", "letter"] "_law_worth_of" (defScope sD__law_worth_of) f cdv A outer s H E) C (slots0 false [d_product, d_word, d_one, d_other] 2) (fun _ : Unit => []) (fun b : Empty => nomatch b) false (defBody sD__law_worth_of) (b__law_worth_of d_product d_word d_one d_other) := by
  have S := sc__law_worth_of
  unfold b__law_worth_of
  exact (fb_set 4 S.nd (fe_ifExp (ft_cmp (op_eqP (hu64 hr)) (peq_ok _) (nomark _) (fe_idx (fe_name 1) fe_int) fe_str) (fe_name 2) (fe_name 3)) fun x1 => (fb_for (e0 := fun t2 : PyData => [.d d_product, .d d_word, .d d_one, .d d_other, .d t2, .un]) x1 po rfl (fi_any (fe_slice (fe_name 1) (fp_some fe_int) fp_none)) (fg_name 5 S.nd) (.keep (.keep (.keep (.keep (.keep (.drop .nil)))))) (fun x3 t2 => (fb_set 4 S.nd (fe_idx (fe_idx (fe_name 0) (fe_name 4)) (fe_ifExp (ft_cmp (op_eqP (hu64 hr)) (peq_ok _) (nomark _) (fe_name 5) fe_str) (fe_name 2) (fe_name 3))) fun x4 => (fb_nil x4 (.keep (.keep (.keep (.keep (.keep (.drop .nil))))))))) fun t2 => (fb_ret (fe_name 4))))
theorem ok__law_worth_of (T : Top K mg) : Pr P w K mg base 1 "_law_worth_of" ["product", "word", "one", "other"] (spD K mg false false 4 (ap4 m__law_worth_of)) := by
  have S := sc__law_worth_of
  exact pr_d (un := 2) T.d__law_worth_of S (fun _ _ _ _ _ _ us hl => match us, hl with | [_, _, _, _], _ => rfl) rfl rfl (fun f cdv A outer s H E C ds hr tk po hrx hc0 hd => by
    match ds, hd with
    | [d_product, d_word, d_one, d_other], _ => exact ⟨b__law_worth_of d_product d_word d_one d_other, fun _ => rfl, w__law_worth_of T hr tk po hrx hc0⟩) (fun z => nomatch z)
/-! is_letter -/
abbrev sD_is_letter : Stmt := top 19
theorem sc_is_letter : FnScope ["value"] ["value"] (defScope sD_is_letter) := ⟨rfl, rfl, rfl, by decide +kernel, rfl, by decide +kernel, by decide +kernel⟩
noncomputable def b_is_letter (d_value : PyData) : M (Fl Unit Empty) := (sRet (mAnd (mUn (pisT "str") (pure d_value)) (mOp pin (pure d_value) (pure (.tuple [(.str "a"), (.str "b"), (.str "c"), (.str "d")])))))
noncomputable def m_is_letter (d_value : PyData) : M PyData := finish (b_is_letter d_value)
theorem w_is_letter (T : Top K mg) {d_value : PyData} {f : Addr} {cdv : Value} {A : Around} {outer : List Env} {s : Shared} {H : Hp} {E : XK} {C : Ct} (hr : Room 0 (A.deeper (envOfC "is_letter" (defScope sD_is_letter) s.heap.objs.size f cdv))) (tk : Takes (cxD P w K mg base ["value"] "is_letter" (defScope sD_is_letter) f cdv A outer s H E) C.W) (po : PassesOwn (model P w) (cxD P w K mg base ["value"] "is_letter" (defScope sD_is_letter) f cdv A outer s H E).A (cxD P w K mg base ["value"] "is_letter" (defScope sD_is_letter) f cdv A outer s H E).env (cxD P w K mg base ["value"] "is_letter" (defScope sD_is_letter) f cdv A outer s H E).xe) (hrx : C.rx = []) (hc0 : C.c.isSome = false) :
    FB (cxD P w K mg base ["value"] "is_letter" (defScope sD_is_letter) f cdv A outer s H E) C (slots0 false [d_value] 0) (fun _ : Unit => []) (fun b : Empty => nomatch b) false (defBody sD_is_letter) (b_is_letter d_value) := by
  have S := sc_is_letter
  unfold b_is_letter
  exact (fb_ret (fe_and (fe_isinst "str" (.inr (.inr (.inl rfl))) T.z_isinstance T.z_str (by decide +kernel) (fe_name 0)) (fe_one (fe_cmp (op_inP (hu64 hr)) (pin_ok _) (by with_unfolding_all rfl) (fe_name 0) (fe_globF T.g_LETTERS_basics)))))
theorem ok_is_letter (T : Top K mg) : Pr P w K mg base 1 "is_letter" ["value"] (spD K mg false false 1 (ap1 m_is_letter)) := by
  have S := sc_is_letter
  exact pr_d (un := 0) T.d_is_letter S (fun _ _ _ _ _ _ us hl => match us, hl with | [_], _ => rfl) rfl rfl (fun f cdv A outer s H E C ds hr tk po hrx hc0 hd => by
    match ds, hd with
    | [d_value], _ => exact ⟨b_is_letter d_value, fun _ => rfl, w_is_letter T hr tk po hrx hc0⟩) (fun z => nomatch z)
/-! letters_in -/
abbrev sD_letters_in : Stmt := top 20
theorem sc_letters_in : FnScope ["value", "found", "todo", "part"] ["value"] (defScope sD_letters_in) := ⟨rfl, rfl, rfl, by decide +kernel, rfl, by decide +kernel, by decide +kernel⟩
noncomputable def b_letters_in (d_value : PyData) : M (Fl Unit Empty) := (sPar (runs []) (runs [(pure d_value)]) fun x1 x2 => (sWhile (τ' := List PyData × List PyData) (fun t3 => (peekB (tCmp pne (pure (.list t3.2)) (mLst (runs []))))) (fun t3 => (sPop t3.2 fun x5 => (sIf (τ' := List PyData × List PyData) (tVal (mCall (ap1 m_is_letter) [(pure x5)])) (sApp (pure x5) t3.1 fun x7 => (pure (.nx ((t3.1 ++ [x7]), t3.2.dropLast)))) (sIf (τ' := List PyData) (tAnd (tVal (mCall (ap3 m_is_tuple_of) [(pure x5), (pure (.int 3)), (pure (.int 3))])) (tAnd (tVal (mUn (pisT "str") (mOp pidx (pure x5) (pure (.int 0))))) (tCmp peq (mOp pidx (pure x5) (pure (.int 0))) (pure (.str "*"))))) ((oAdd (pure (.list t3.2.dropLast)) (mLst (runs [(mOp pidx (pure x5) (pure (.int 2))), (mOp pidx (pure x5) (pure (.int 1)))]))) >>= fun xs9 => (pure (.nx xs9))) (sRet (pure .none)) fun t8 => (pure (.nx (t3.1, t8)))) fun t6 => (sIfR (peekB (tCmp pgt (mOp padd (mUn plen (pure (.list t6.1))) (mUn plen (pure (.list t6.2)))) (pure (.int 40)))) (sRet (pure .none)) (pure (.nx (t6.1, t6.2))))))) (x1, x2) fun t3 => (sRet (pure (.list t3.1)))))
noncomputable def m_letters_in (d_value : PyData) : M PyData := finish (b_letters_in d_value)
theorem w_letters_in (T : Top K mg) {d_value : PyData} {f : Addr} {cdv : Value} {A : Around} {outer : List Env} {s : Shared} {H : Hp} {E : XK} {C : Ct} (hr : Room 1 (A.deeper (envOfC "letters_in" (defScope sD_letters_in) s.heap.objs.size f cdv))) (tk : Takes (cxD P w K mg base ["value", "found", "todo", "part"] "letters_in" (defScope sD_letters_in) f cdv A outer s H E) C.W) (po : PassesOwn (model P w) (cxD P w K mg base ["value", "found", "todo", "part"] "letters_in" (defScope sD_letters_in) f cdv A outer s H E).A (cxD P w K mg base ["value", "found", "todo", "part"] "letters_in" (defScope sD_letters_in) f cdv A outer s H E).env (cxD P w K mg base ["value", "found", "todo", "part"] "letters_in" (defScope sD_letters_in) f cdv A outer s H E).xe) (hrx : C.rx = []) (hc0 : C.c.isSome = false) :
    FB (cxD P w K mg base ["value", "found", "todo", "part"] "letters_in" (defScope sD_letters_in) f cdv A outer s H E) C (slots0 false [d_value] 3) (fun _ : Unit => []) (fun b : Empty => nomatch b) false (defBody sD_letters_in) (b_letters_in d_value) := by
  have S := sc_letters_in
  unfold b_letters_in
  exact (fb_par 1 2 rfl S.nd (by decide) (fv_o (fo_lst fa_nil (by show 0 ≤ sizeLine; decide))) (fv_o (fo_lst (fa_cons (fe_name 0) fa_nil) (by show 1 ≤ sizeLine; decide))) fun x1 x2 => (fb_while (e0 := fun t3 : List PyData × List PyData => [.d d_value, .own t3.1, .own t3.2, .un]) (x1, x2) po (.keep (.keep (.keep (.drop .nil)))) (fun t3 => (ft_peek fun F0 E0 => (ft_cmp (op_neP (hu64 hr)) (pne_ok _) (nomark _) (fe_name 2) (fe_of (fo_lst fa_nil (by show 0 ≤ sizeLine; decide)))))) (fun t3 => (fb_pop 2 3 (by decide) S.nd fun x5 => (fb_if (emb' := fun t6 : List PyData × List PyData => [.d d_value, .own t6.1, .own t6.2, .d x5]) (ft_val (fe_callP (ok_is_letter T) (hr.mono (by decide)) tk (wk0 hrx) (fa_cons (fe_name 3) fa_nil))) (fb_append 1 (fe_name 3) fun x7 => (fb_nil ((t3.1 ++ [x7]), t3.2.dropLast) (.keep (.keep (.keep (.keep .nil)))))) (fb_if (emb' := fun t8 : List PyData => [.d d_value, .own t3.1, .own t8, .d x5]) (FW.ft (fw_and (ft_val (fe_callP (ok_is_tuple_of T) (hr.mono (by decide)) tk (wk0 hrx) (fa_cons (fe_name 3) (fa_cons fe_int (fa_cons fe_int fa_nil))))) (fw_and (ft_val (fe_isinst "str" (.inr (.inr (.inl rfl))) T.z_isinstance T.z_str (by decide +kernel) (fe_idx (fe_name 3) fe_int))) (fw_and1 (ft_cmp (op_eqP (hu64 hr)) (peq_ok _) (nomark _) (fe_idx (fe_name 3) fe_int) (fe_globF T.g_TIMES)))))) (fb_frz 2 (fb_setO 2 S.nd (fo_add (fe_name 2) (fe_of (fo_lst (fa_cons (fe_idx (fe_name 3) fe_int) (fa_cons (fe_idx (fe_name 3) fe_int) fa_nil)) (by show 2 ≤ sizeLine; decide)))) fun xs9 => (fb_nil xs9 (.keep (.keep (.keep (.keep .nil))))))) (fb_ret fe_non) fun t8 => (fb_nil (t3.1, t8) (.keep (.keep (.keep (.keep .nil)))))) fun t6 => (fb_ifR (emb0 := fun z : Empty => nomatch z) (ft_peek fun F0 E0 => (ft_cmp op_gt (pcmp_ok _ _) (nomark _) (fe_op op_addAll (padd_ok _) (fe_len T.z_len (fe_name 1)) (fe_len T.z_len (fe_name 2))) (fe_globF T.g_MOST_LETTERS))) (fb_ret fe_non) (fb_nil (t6.1, t6.2) (.keep (.keep (.keep (.drop .nil))))))))) fun t3 => (fb_frz 1 (fb_ret (fe_name 1)))))
theorem ok_letters_in (T : Top K mg) : Pr P w K mg base 2 "letters_in" ["value"] (spD K mg false false 1 (ap1 m_letters_in)) := by
  have S := sc_letters_in
  exact pr_d (un := 3) T.d_letters_in S (fun _ _ _ _ _ _ us hl => match us, hl with | [_], _ => rfl) rfl rfl (fun f cdv A outer s H E C ds hr tk po hrx hc0 hd => by
    match ds, hd with
    | [d_value], _ => exact ⟨b_letters_in d_value, fun _ => rfl, w_letters_in T hr tk po hrx hc0⟩) (fun z => nomatch z)
/-! fits_term -/
abbrev sD_fits_term : Stmt := top 21
theorem sc_fits_term : FnScope ["value"] ["value"] (defScope sD_fits_term) := ⟨rfl, rfl, rfl, by decide +kernel, rfl, by decide +kernel, by decide +kernel⟩
noncomputable def b_fits_term (d_value : PyData) : M (Fl Unit Empty) := (sRet (mOp pnotN (mCall (ap1 m_letters_in) [(pure d_value)]) (pure .none)))
noncomputable def m_fits_term (d_value : PyData) : M PyData := finish (b_fits_term d_value)
theorem w_fits_term (T : Top K mg) {d_value : PyData} {f : Addr} {cdv : Value} {A : Around} {outer : List Env} {s : Shared} {H : Hp} {E : XK} {C : Ct} (hr : Room 2 (A.deeper (envOfC "fits_term" (defScope sD_fits_term) s.heap.objs.size f cdv))) (tk : Takes (cxD P w K mg base ["value"] "fits_term" (defScope sD_fits_term) f cdv A outer s H E) C.W) (po : PassesOwn (model P w) (cxD P w K mg base ["value"] "fits_term" (defScope sD_fits_term) f cdv A outer s H E).A (cxD P w K mg base ["value"] "fits_term" (defScope sD_fits_term) f cdv A outer s H E).env (cxD P w K mg base ["value"] "fits_term" (defScope sD_fits_term) f cdv A outer s H E).xe) (hrx : C.rx = []) (hc0 : C.c.isSome = false) :
    FB (cxD P w K mg base ["value"] "fits_term" (defScope sD_fits_term) f cdv A outer s H E) C (slots0 false [d_value] 0) (fun _ : Unit => []) (fun b : Empty => nomatch b) false (defBody sD_fits_term) (b_fits_term d_value) := by
  have S := sc_fits_term
  unfold b_fits_term
  exact (fb_ret (fe_cmp op_notN (pnotN_ok _) (nomark _) (fe_callP (ok_letters_in T) (hr.mono (by decide)) tk (wk0 hrx) (fa_cons (fe_name 0) fa_nil)) fe_non))
theorem ok_fits_term (T : Top K mg) : Pr P w K mg base 3 "fits_term" ["value"] (spD K mg false false 1 (ap1 m_fits_term)) := by
  have S := sc_fits_term
  exact pr_d (un := 0) T.d_fits_term S (fun _ _ _ _ _ _ us hl => match us, hl with | [_], _ => rfl) rfl rfl (fun f cdv A outer s H E C ds hr tk po hrx hc0 hd => by
    match ds, hd with
    | [d_value], _ => exact ⟨b_fits_term d_value, fun _ => rfl, w_fits_term T hr tk po hrx hc0⟩) (fun z => nomatch z)
/-! need_term -/
abbrev sD_need_term : Stmt := top 22
theorem sc_need_term : FnScope ["value"] ["value"] (defScope sD_need_term) := ⟨rfl, rfl, rfl, by decide +kernel, rfl, by decide +kernel, by decide +kernel⟩
noncomputable def b_need_term (d_value : PyData) : M (Fl Unit Empty) := (sIfR (tNo (tVal (mCall (ap1 m_fits_term) [(pure d_value)]))) stuck (pure (.nx ())))
noncomputable def m_need_term (d_value : PyData) : M PyData := finish (b_need_term d_value)
theorem w_need_term (T : Top K mg) {d_value : PyData} {f : Addr} {cdv : Value} {A : Around} {outer : List Env} {s : Shared} {H : Hp} {E : XK} {C : Ct} (hr : Room 3 (A.deeper (envOfC "need_term" (defScope sD_need_term) s.heap.objs.size f cdv))) (tk : Takes (cxD P w K mg base ["value"] "need_term" (defScope sD_need_term) f cdv A outer s H E) C.W) (po : PassesOwn (model P w) (cxD P w K mg base ["value"] "need_term" (defScope sD_need_term) f cdv A outer s H E).A (cxD P w K mg base ["value"] "need_term" (defScope sD_need_term) f cdv A outer s H E).env (cxD P w K mg base ["value"] "need_term" (defScope sD_need_term) f cdv A outer s H E).xe) (hrx : C.rx = []) (hc0 : C.c.isSome = false) :
    FB (cxD P w K mg base ["value"] "need_term" (defScope sD_need_term) f cdv A outer s H E) C (slots0 false [d_value] 0) (fun _ : Unit => []) (fun b : Empty => nomatch b) false (defBody sD_need_term) (b_need_term d_value) := by
  have S := sc_need_term
  unfold b_need_term
  exact (fb_ifR (emb0 := fun z : Empty => nomatch z) (ft_not (ft_val (fe_callP (ok_fits_term T) (hr.mono (by decide)) tk (wk0 hrx) (fa_cons (fe_name 0) fa_nil)))) fb_stuck (fb_nil () .nil))
theorem ok_need_term (T : Top K mg) : Pr P w K mg base 4 "need_term" ["value"] (spD K mg false false 1 (ap1 m_need_term)) := by
  have S := sc_need_term
  exact pr_d (un := 0) T.d_need_term S (fun _ _ _ _ _ _ us hl => match us, hl with | [_], _ => rfl) rfl rfl (fun f cdv A outer s H E C ds hr tk po hrx hc0 hd => by
    match ds, hd with
    | [d_value], _ => exact ⟨b_need_term d_value, fun _ => rfl, w_need_term T hr tk po hrx hc0⟩) (fun z => nomatch z)
/-! worth_by -/
abbrev sD_worth_by : Stmt := top 26
theorem sc_worth_by : FnScope ["product", "steps", "things", "made", "step", "right", "left"] ["product", "steps", "things"] (defScope sD_worth_by) := ⟨rfl, rfl, rfl, by decide +kernel, rfl, by decide +kernel, by decide +kernel⟩
noncomputable def b_worth_by (d_product : PyData) (d_steps : PyData) (d_things : PyData) : M (Fl Unit Empty) := ((runs []) >>= fun xs1 => (sFor (τ' := List PyData) (iAll (pure d_steps)) (fun d => pure d) (fun x3 t2 => (sIf (τ' := List PyData) (tCmp peq (pure x3) (pure (.str "*"))) (sPop2 t2 fun x5 x6 => (sApp (mOp pidx (mOp pidx (pure d_product) (pure x6)) (pure x5)) t2.dropLast.dropLast fun x7 => (pure (.nx (t2.dropLast.dropLast ++ [x7]))))) (sApp (mOp pidx (pure d_things) (mUn (pindexK ["a", "b", "c", "d"]) (pure x3))) t2 fun x8 => (pure (.nx (t2 ++ [x8])))) fun t4 => (pure (.nx t4)))) xs1 fun t2 => (sRet (peekM (mOp pidx (pure (.list t2)) (pure (.int 0)))))))
noncomputable def m_worth_by (d_product : PyData) (d_steps : PyData) (d_things : PyData) : M PyData := finish (b_worth_by d_product d_steps d_things)
theorem w_worth_by (T : Top K mg) {d_product : PyData} {d_steps : PyData} {d_things : PyData} {f : Addr} {cdv : Value} {A : Around} {outer : List Env} {s : Shared} {H : Hp} {E : XK} {C : Ct} (hr : Room 0 (A.deeper (envOfC "worth_by" (defScope sD_worth_by) s.heap.objs.size f cdv))) (tk : Takes (cxD P w K mg base ["product", "steps", "things", "made", "step", "right", "left"] "worth_by" (defScope sD_worth_by) f cdv A outer s H E) C.W) (po : PassesOwn (model P w) (cxD P w K mg base ["product", "steps", "things", "made", "step", "right", "left"] "worth_by" (defScope sD_worth_by) f cdv A outer s H E).A (cxD P w K mg base ["product", "steps", "things", "made", "step", "right", "left"] "worth_by" (defScope sD_worth_by) f cdv A outer s H E).env (cxD P w K mg base ["product", "steps", "things", "made", "step", "right", "left"] "worth_by" (defScope sD_worth_by) f cdv A outer s H E).xe) (hrx : C.rx = []) (hc0 : C.c.isSome = false) :
    FB (cxD P w K mg base ["product", "steps", "things", "made", "step", "right", "left"] "worth_by" (defScope sD_worth_by) f cdv A outer s H E) C (slots0 false [d_product, d_steps, d_things] 4) (fun _ : Unit => []) (fun b : Empty => nomatch b) false (defBody sD_worth_by) (b_worth_by d_product d_steps d_things) := by
  have S := sc_worth_by
  unfold b_worth_by
  exact (fb_setO 3 S.nd (fo_lst fa_nil (by show 0 ≤ sizeLine; decide)) fun xs1 => (fb_for (e0 := fun t2 : List PyData => [.d d_product, .d d_steps, .d d_things, .own t2, .un, .un, .un]) xs1 po rfl (fi_any (fe_name 1)) (fg_name 4 S.nd) (.keep (.keep (.keep (.keep (.drop (.drop (.drop .nil))))))) (fun x3 t2 => (fb_if (emb' := fun t4 : List PyData => [.d d_product, .d d_steps, .d d_things, .own t4, .d x3, .un, .un]) (ft_cmp (op_eqP (hu64 hr)) (peq_ok _) (nomark _) (fe_name 4) (fe_globF T.g_TIMES)) (fb_pop2 3 5 6 rfl (by decide) (by decide) (by decide) S.nd fun x5 x6 => (fb_append 3 (fe_idx (fe_idx (fe_name 0) (fe_name 6)) (fe_name 5)) fun x7 => (fb_nil (t2.dropLast.dropLast ++ [x7]) (.keep (.keep (.keep (.keep (.keep (.drop (.drop .nil)))))))))) (fb_append 3 (fe_idx (fe_name 2) (fe_indexKF T.k_LETTERS_basics (fe_name 4))) fun x8 => (fb_nil (t2 ++ [x8]) (.keep (.keep (.keep (.keep (.keep (.drop (.drop .nil))))))))) fun t4 => (fb_nil t4 (.keep (.keep (.keep (.keep (.drop (.drop (.drop .nil)))))))))) fun t2 => (fb_ret (fe_peek fun F0 E0 => (fe_idx (fe_name 3) fe_int)))))
theorem ok_worth_by (T : Top K mg) : Pr P w K mg base 1 "worth_by" ["product", "steps", "things"] (spD K mg false false 3 (ap3 m_worth_by)) := by
  have S := sc_worth_by
  exact pr_d (un := 4) T.d_worth_by S (fun _ _ _ _ _ _ us hl => match us, hl with | [_, _, _], _ => rfl) rfl rfl (fun f cdv A outer s H E C ds hr tk po hrx hc0 hd => by
    match ds, hd with
    | [d_product, d_steps, d_things], _ => exact ⟨b_worth_by d_product d_steps d_things, fun _ => rfl, w_worth_by T hr tk po hrx hc0⟩) (fun z => nomatch z)
/-! steps_in -/
abbrev sD_steps_in : Stmt := top 25
theorem sc_steps_in : FnScope ["term", "found", "todo", "part"] ["term"] (defScope sD_steps_in) := ⟨rfl, rfl, rfl, by decide +kernel, rfl, by decide +kernel, by decide +kernel⟩
noncomputable def b_steps_in (d_term : PyData) : M (Fl Unit Empty) := (sPar (runs []) (runs [(pure d_term)]) fun x1 x2 => (sWhile (τ' := List PyData × List PyData) (fun t3 => (peekB (tCmp pne (pure (.list t3.2)) (mLst (runs []))))) (fun t3 => (sPop t3.2 fun x5 => (sIf (τ' := List PyData × List PyData) (tOr (tCmp peq (pure x5) (pure (.str "*"))) (tVal (mCall (ap1 m_is_letter) [(pure x5)]))) (sApp (pure x5) t3.1 fun x7 => (pure (.nx ((t3.1 ++ [x7]), t3.2.dropLast)))) ((oAdd (pure (.list t3.2.dropLast)) (mLst (runs [(pure (.str "*")), (mOp pidx (pure x5) (pure (.int 2))), (mOp pidx (pure x5) (pure (.int 1)))]))) >>= fun xs8 => (pure (.nx (t3.1, xs8)))) fun t6 => (pure (.nx (t6.1, t6.2)))))) (x1, x2) fun t3 => (sRet (pure (.list t3.1)))))
noncomputable def m_steps_in (d_term : PyData) : M PyData := finish (b_steps_in d_term)
theorem w_steps_in (T : Top K mg) {d_term : PyData} {f : Addr} {cdv : Value} {A : Around} {outer : List Env} {s : Shared} {H : Hp} {E : XK} {C : Ct} (hr : Room 1 (A.deeper (envOfC "steps_in" (defScope sD_steps_in) s.heap.objs.size f cdv))) (tk : Takes (cxD P w K mg base ["term", "found", "todo", "part"] "steps_in" (defScope sD_steps_in) f cdv A outer s H E) C.W) (po : PassesOwn (model P w) (cxD P w K mg base ["term", "found", "todo", "part"] "steps_in" (defScope sD_steps_in) f cdv A outer s H E).A (cxD P w K mg base ["term", "found", "todo", "part"] "steps_in" (defScope sD_steps_in) f cdv A outer s H E).env (cxD P w K mg base ["term", "found", "todo", "part"] "steps_in" (defScope sD_steps_in) f cdv A outer s H E).xe) (hrx : C.rx = []) (hc0 : C.c.isSome = false) :
    FB (cxD P w K mg base ["term", "found", "todo", "part"] "steps_in" (defScope sD_steps_in) f cdv A outer s H E) C (slots0 false [d_term] 3) (fun _ : Unit => []) (fun b : Empty => nomatch b) false (defBody sD_steps_in) (b_steps_in d_term) := by
  have S := sc_steps_in
  unfold b_steps_in
  exact (fb_par 1 2 rfl S.nd (by decide) (fv_o (fo_lst fa_nil (by show 0 ≤ sizeLine; decide))) (fv_o (fo_lst (fa_cons (fe_name 0) fa_nil) (by show 1 ≤ sizeLine; decide))) fun x1 x2 => (fb_while (e0 := fun t3 : List PyData × List PyData => [.d d_term, .own t3.1, .own t3.2, .un]) (x1, x2) po (.keep (.keep (.keep (.drop .nil)))) (fun t3 => (ft_peek fun F0 E0 => (ft_cmp (op_neP (hu64 hr)) (pne_ok _) (nomark _) (fe_name 2) (fe_of (fo_lst fa_nil (by show 0 ≤ sizeLine; decide)))))) (fun t3 => (fb_pop 2 3 (by decide) S.nd fun x5 => (fb_if (emb' := fun t6 : List PyData × List PyData => [.d d_term, .own t6.1, .own t6.2, .d x5]) (FW.ft (fw_or (ft_cmp (op_eqP (hu64 hr)) (peq_ok _) (nomark _) (fe_name 3) (fe_globF T.g_TIMES)) (fw_or1 (ft_val (fe_callP (ok_is_letter T) (hr.mono (by decide)) tk (wk0 hrx) (fa_cons (fe_name 3) fa_nil)))))) (fb_append 1 (fe_name 3) fun x7 => (fb_nil ((t3.1 ++ [x7]), t3.2.dropLast) (.keep (.keep (.keep (.keep .nil)))))) (fb_frz 2 (fb_setO 2 S.nd (fo_add (fe_name 2) (fe_of (fo_lst (fa_cons (fe_globF T.g_TIMES) (fa_cons (fe_idx (fe_name 3) fe_int) (fa_cons (fe_idx (fe_name 3) fe_int) fa_nil))) (by show 3 ≤ sizeLine; decide)))) fun xs8 => (fb_nil (t3.1, xs8) (.keep (.keep (.keep (.keep .nil))))))) fun t6 => (fb_nil (t6.1, t6.2) (.keep (.keep (.keep (.drop .nil)))))))) fun t3 => (fb_frz 1 (fb_ret (fe_name 1)))))
theorem ok_steps_in (T : Top K mg) : Pr P w K mg base 2 "steps_in" ["term"] (spD K mg false false 1 (ap1 m_steps_in)) := by
  have S := sc_steps_in
  exact pr_d (un := 3) T.d_steps_in S (fun _ _ _ _ _ _ us hl => match us, hl with | [_], _ => rfl) rfl rfl (fun f cdv A outer s H E C ds hr tk po hrx hc0 hd => by
    match ds, hd with
    | [d_term], _ => exact ⟨b_steps_in d_term, fun _ => rfl, w_steps_in T hr tk po hrx hc0⟩) (fun z => nomatch z)
/-! worth_in -/
abbrev sD_worth_in : Stmt := top 27
theorem sc_worth_in : FnScope ["product", "term", "things"] ["product", "term", "things"] (defScope sD_worth_in) := ⟨rfl, rfl, rfl, by decide +kernel, rfl, by decide +kernel, by decide +kernel⟩
noncomputable def b_worth_in (d_product : PyData) (d_term : PyData) (d_things : PyData) : M (Fl Unit Empty) := (sRet (mCall (ap3 m_worth_by) [(pure d_product), (mCall (ap1 m_steps_in) [(pure d_term)]), (pure d_things)]))
noncomputable def m_worth_in (d_product : PyData) (d_term : PyData) (d_things : PyData) : M PyData := finish (b_worth_in d_product d_term d_things)
theorem w_worth_in (T : Top K mg) {d_product : PyData} {d_term : PyData} {d_things : PyData} {f : Addr} {cdv : Value} {A : Around} {outer : List Env} {s : Shared} {H : Hp} {E : XK} {C : Ct} (hr : Room 2 (A.deeper (envOfC "worth_in" (defScope sD_worth_in) s.heap.objs.size f cdv))) (tk : Takes (cxD P w K mg base ["product", "term", "things"] "worth_in" (defScope sD_worth_in) f cdv A outer s H E) C.W) (po : PassesOwn (model P w) (cxD P w K mg base ["product", "term", "things"] "worth_in" (defScope sD_worth_in) f cdv A outer s H E).A (cxD P w K mg base ["product", "term", "things"] "worth_in" (defScope sD_worth_in) f cdv A outer s H E).env (cxD P w K mg base ["product", "term", "things"] "worth_in" (defScope sD_worth_in) f cdv A outer s H E).xe) (hrx : C.rx = []) (hc0 : C.c.isSome = false) :
    FB (cxD P w K mg base ["product", "term", "things"] "worth_in" (defScope sD_worth_in) f cdv A outer s H E) C (slots0 false [d_product, d_term, d_things] 0) (fun _ : Unit => []) (fun b : Empty => nomatch b) false (defBody sD_worth_in) (b_worth_in d_product d_term d_things) := by
  have S := sc_worth_in
  unfold b_worth_in
  exact (fb_ret (fe_callP (ok_worth_by T) (hr.mono (by decide)) tk (wk0 hrx) (fa_cons (fe_name 0) (fa_cons (fe_callP (ok_steps_in T) (hr.mono (by decide)) tk (wk0 hrx) (fa_cons (fe_name 1) fa_nil)) (fa_cons (fe_name 2) fa_nil)))))
theorem ok_worth_in (T : Top K mg) : Pr P w K mg base 3 "worth_in" ["product", "term", "things"] (spD K mg false false 3 (ap3 m_worth_in)) := by
  have S := sc_worth_in
  exact pr_d (un := 0) T.d_worth_in S (fun _ _ _ _ _ _ us hl => match us, hl with | [_, _, _], _ => rfl) rfl rfl (fun f cdv A outer s H E C ds hr tk po hrx hc0 hd => by
    match ds, hd with
    | [d_product, d_term, d_things], _ => exact ⟨b_worth_in d_product d_term d_things, fun _ => rfl, w_worth_in T hr tk po hrx hc0⟩) (fun z => nomatch z)
/-! term_worth -/
abbrev sD_term_worth : Stmt := top 32
theorem sc_term_worth : FnScope ["product", "term", "things"] ["product", "term", "things"] (defScope sD_term_worth) := ⟨rfl, rfl, rfl, by decide +kernel, rfl, by decide +kernel, by decide +kernel⟩
noncomputable def b_term_worth (d_product : PyData) (d_term : PyData) (d_things : PyData) : M (Fl Unit Empty) := ((mCall (ap1 m_need_product) [(pure d_product)]) >>= fun _u2 => ((mCall (ap1 m_need_term) [(pure d_term)]) >>= fun _u1 => (sIfR (tNo (tVal (mCall (ap4 m_are_things) [(mUn plen (pure d_product)), (pure d_things), (mUn plen (pure (.tuple [(.str "a"), (.str "b"), (.str "c"), (.str "d")]))), (mUn plen (pure (.tuple [(.str "a"), (.str "b"), (.str "c"), (.str "d")])))]))) stuck (sRet (mCall (ap3 m_worth_in) [(pure d_product), (pure d_term), (pure d_things)])))))
noncomputable def m_term_worth (d_product : PyData) (d_term : PyData) (d_things : PyData) : M PyData := finish (b_term_worth d_product d_term d_things)
theorem w_term_worth (T : Top K mg) {d_product : PyData} {d_term : PyData} {d_things : PyData} {f : Addr} {cdv : Value} {A : Around} {outer : List Env} {s : Shared} {H : Hp} {E : XK} {C : Ct} (hr : Room 5 (A.deeper (envOfC "term_worth" (defScope sD_term_worth) s.heap.objs.size f cdv))) (tk : Takes (cxD P w K mg base ["product", "term", "things"] "term_worth" (defScope sD_term_worth) f cdv A outer s H E) C.W) (po : PassesOwn (model P w) (cxD P w K mg base ["product", "term", "things"] "term_worth" (defScope sD_term_worth) f cdv A outer s H E).A (cxD P w K mg base ["product", "term", "things"] "term_worth" (defScope sD_term_worth) f cdv A outer s H E).env (cxD P w K mg base ["product", "term", "things"] "term_worth" (defScope sD_term_worth) f cdv A outer s H E).xe) (hrx : C.rx = []) (hc0 : C.c.isSome = false) :
    FB (cxD P w K mg base ["product", "term", "things"] "term_worth" (defScope sD_term_worth) f cdv A outer s H E) C (slots0 false [d_product, d_term, d_things] 0) (fun _ : Unit => []) (fun b : Empty => nomatch b) false (defBody sD_term_worth) (b_term_worth d_product d_term d_things) := by
  have S := sc_term_worth
  unfold b_term_worth
  exact (fb_expr (fe_callP (ok_need_product T) (hr.mono (by decide)) tk (wk0 hrx) (fa_cons (fe_name 0) fa_nil)) fun _u2 => (fb_expr (fe_callP (ok_need_term T) (hr.mono (by decide)) tk (wk0 hrx) (fa_cons (fe_name 1) fa_nil)) fun _u1 => (fb_ifR (emb0 := fun z : Empty => nomatch z) (ft_not (ft_val (fe_callP (ok_are_things T) (hr.mono (by decide)) tk (wk0 hrx) (fa_cons (fe_len T.z_len (fe_name 0)) (fa_cons (fe_name 2) (fa_cons (fe_len T.z_len (fe_globF T.g_LETTERS_basics)) (fa_cons (fe_len T.z_len (fe_globF T.g_LETTERS_basics)) fa_nil))))))) fb_stuck (fb_ret (fe_callP (ok_worth_in T) (hr.mono (by decide)) tk (wk0 hrx) (fa_cons (fe_name 0) (fa_cons (fe_name 1) (fa_cons (fe_name 2) fa_nil))))))))
theorem ok_term_worth (T : Top K mg) : Pr P w K mg base 6 "term_worth" ["product", "term", "things"] (spD K mg false false 3 (ap3 m_term_worth)) := by
  have S := sc_term_worth
  exact pr_d (un := 0) T.d_term_worth S (fun _ _ _ _ _ _ us hl => match us, hl with | [_, _, _], _ => rfl) rfl rfl (fun f cdv A outer s H E C ds hr tk po hrx hc0 hd => by
    match ds, hd with
    | [d_product, d_term, d_things], _ => exact ⟨b_term_worth d_product d_term d_things, fun _ => rfl, w_term_worth T hr tk po hrx hc0⟩) (fun z => nomatch z)
/-! _law_row -/
abbrev sD__law_row : Stmt := top 59
theorem sc__law_row : FnScope ["product", "word", "found", "one", "other"] ["product", "word"] (defScope sD__law_row) := ⟨rfl, rfl, rfl, by decide +kernel, rfl, by decide +kernel, by decide +kernel⟩
noncomputable def b__law_row (d_product : PyData) (d_word : PyData) : M (Fl Unit Empty) := ((mLst (runs [])) >>= fun x1 => (sFor (τ' := PyData) (iRange1 (mUn plen (pure d_product))) (fun d => pure d) (fun x3 t2 => ((mOp padd (pure t2) (mLst (oLc (iRange1 (mUn plen (pure d_product))) (fun d => pure d) (fun t4 => (pure true)) (fun t4 => (mCall (ap4 m__law_worth_of) [(pure d_product), (pure d_word), (pure x3), (pure t4)]))))) >>= fun x5 => (pure (.nx x5)))) x1 fun t2 => (sRet (mUn ptuple (pure t2)))))
noncomputable def m__law_row (d_product : PyData) (d_word : PyData) : M PyData := finish (b__law_row d_product d_word)
theorem w__law_row (T : Top K mg) {d_product : PyData} {d_word : PyData} {f : Addr} {cdv : Value} {A : Around} {outer : List Env} {s : Shared} {H : Hp} {E : XK} {C : Ct} (hr : Room 1 (A.deeper (envOfC "_law_row" (defScope sD__law_row) s.heap.objs.size f cdv))) (tk : Takes (cxD P w K mg base ["product", "word", "found", "one", "other"] "_law_row" (defScope sD__law_row) f cdv A outer s H E) C.W) (po : PassesOwn (model P w) (cxD P w K mg base ["product", "word", "found", "one", "other"] "_law_row" (defScope sD__law_row) f cdv A outer s H E).A (cxD P w K mg base ["product", "word", "found", "one", "other"] "_law_row" (defScope sD__law_row) f cdv A outer s H E).env (cxD P w K mg base ["product", "word", "found", "one", "other"] "_law_row" (defScope sD__law_row) f cdv A outer s H E).xe) (hrx : C.rx = []) (hc0 : C.c.isSome = false) :
    FB (cxD P w K mg base ["product", "word", "found", "one", "other"] "_law_row" (defScope sD__law_row) f cdv A outer s H E) C (slots0 false [d_product, d_word] 3) (fun _ : Unit => []) (fun b : Empty => nomatch b) false (defBody sD__law_row) (b__law_row d_product d_word) := by
  have S := sc__law_row
  unfold b__law_row
  exact (fb_set 2 S.nd (fe_of (fo_lst fa_nil (by show 0 ≤ sizeLine; decide))) fun x1 => (fb_for (e0 := fun t2 : PyData => [.d d_product, .d d_word, .d t2, .un, .un]) x1 po rfl (fi_range1 T.z_range (fe_len T.z_len (fe_name 0))) (fg_name 3 S.nd) (.keep (.keep (.keep (.drop (.drop .nil))))) (fun x3 t2 => (fb_set 2 S.nd (fe_op op_addAll (padd_ok _) (fe_name 2) (fe_of (fo_lc (own := [("other", 4)]) rfl S.nd (fi_range1 T.z_range (fe_len T.z_len (fe_name 0))) (blkOk_by (by first | rfl | with_unfolding_all rfl)) (fun s0 H0 Ca cl fp => fg_name 4 S.nd) (fun t4 s0 H0 Ca cl fp => fts_nil) (fun t4 s0 H0 Ca cl fp => (fe_callP (ok__law_worth_of T) (hr.mono (by decide)) takes0 .nil (fa_cons (fe_name 0) (fa_cons (fe_name 1) (fa_cons (fe_name 3) (fa_cons (fe_name 4) fa_nil))))))))) fun x5 => (fb_nil x5 (.keep (.keep (.keep (.drop (.drop .nil)))))))) fun t2 => (fb_ret (fe_tuple T.z_tuple (fe_name 2)))))
theorem ok__law_row (T : Top K mg) : Pr P w K mg base 2 "_law_row" ["product", "word"] (spD K mg false false 2 (ap2 m__law_row)) := by
  have S := sc__law_row
  exact pr_d (un := 3) T.d__law_row S (fun _ _ _ _ _ _ us hl => match us, hl with | [_, _], _ => rfl) rfl rfl (fun f cdv A outer s H E C ds hr tk po hrx hc0 hd => by
    match ds, hd with
    | [d_product, d_word], _ => exact ⟨b__law_row d_product d_word, fun _ => rfl, w__law_row T hr tk po hrx hc0⟩) (fun z => nomatch z)
/-! fits_rule -/
abbrev sD_fits_rule : Stmt := top 23
theorem sc_fits_rule : FnScope ["value"] ["value"] (defScope sD_fits_rule) := ⟨rfl, rfl, rfl, by decide +kernel, rfl, by decide +kernel, by decide +kernel⟩
noncomputable def b_fits_rule (d_value : PyData) : M (Fl Unit Empty) := (sRet (mAnd (mCall (ap3 m_is_tuple_of) [(pure d_value), (pure (.int 2)), (pure (.int 2))]) (mAnd (mCall (ap1 m_fits_term) [(mOp pidx (pure d_value) (pure (.int 0)))]) (mCall (ap1 m_fits_term) [(mOp pidx (pure d_value) (pure (.int 1)))]))))
noncomputable def m_fits_rule (d_value : PyData) : M PyData := finish (b_fits_rule d_value)
theorem w_fits_rule (T : Top K mg) {d_value : PyData} {f : Addr} {cdv : Value} {A : Around} {outer : List Env} {s : Shared} {H : Hp} {E : XK} {C : Ct} (hr : Room 3 (A.deeper (envOfC "fits_rule" (defScope sD_fits_rule) s.heap.objs.size f cdv))) (tk : Takes (cxD P w K mg base ["value"] "fits_rule" (defScope sD_fits_rule) f cdv A outer s H E) C.W) (po : PassesOwn (model P w) (cxD P w K mg base ["value"] "fits_rule" (defScope sD_fits_rule) f cdv A outer s H E).A (cxD P w K mg base ["value"] "fits_rule" (defScope sD_fits_rule) f cdv A outer s H E).env (cxD P w K mg base ["value"] "fits_rule" (defScope sD_fits_rule) f cdv A outer s H E).xe) (hrx : C.rx = []) (hc0 : C.c.isSome = false) :
    FB (cxD P w K mg base ["value"] "fits_rule" (defScope sD_fits_rule) f cdv A outer s H E) C (slots0 false [d_value] 0) (fun _ : Unit => []) (fun b : Empty => nomatch b) false (defBody sD_fits_rule) (b_fits_rule d_value) := by
  have S := sc_fits_rule
  unfold b_fits_rule
  exact (fb_ret (fe_and (fe_callP (ok_is_tuple_of T) (hr.mono (by decide)) tk (wk0 hrx) (fa_cons (fe_name 0) (fa_cons fe_int (fa_cons fe_int fa_nil)))) (fe_and (fe_callP (ok_fits_term T) (hr.mono (by decide)) tk (wk0 hrx) (fa_cons (fe_idx (fe_name 0) fe_int) fa_nil)) (fe_one (fe_callP (ok_fits_term T) (hr.mono (by decide)) tk (wk0 hrx) (fa_cons (fe_idx (fe_name 0) fe_int) fa_nil))))))
theorem ok_fits_rule (T : Top K mg) : Pr P w K mg base 4 "fits_rule" ["value"] (spD K mg false false 1 (ap1 m_fits_rule)) := by
  have S := sc_fits_rule
  exact pr_d (un := 0) T.d_fits_rule S (fun _ _ _ _ _ _ us hl => match us, hl with | [_], _ => rfl) rfl rfl (fun f cdv A outer s H E C ds hr tk po hrx hc0 hd => by
    match ds, hd with
    | [d_value], _ => exact ⟨b_fits_rule d_value, fun _ => rfl, w_fits_rule T hr tk po hrx hc0⟩) (fun z => nomatch z)
/-! need_rule -/
abbrev sD_need_rule : Stmt := top 24
theorem sc_need_rule : FnScope ["value"] ["value"] (defScope sD_need_rule) := ⟨rfl, rfl, rfl, by decide +kernel, rfl, by decide +kernel, by decide +kernel⟩
noncomputable def b_need_rule (d_value : PyData) : M (Fl Unit Empty) := (sIfR (tNo (tVal (mCall (ap1 m_fits_rule) [(pure d_value)]))) stuck (pure (.nx ())))
noncomputable def m_need_rule (d_value : PyData) : M PyData := finish (b_need_rule d_value)
theorem w_need_rule (T : Top K mg) {d_value : PyData} {f : Addr} {cdv : Value} {A : Around} {outer : List Env} {s : Shared} {H : Hp} {E : XK} {C : Ct} (hr : Room 4 (A.deeper (envOfC "need_rule" (defScope sD_need_rule) s.heap.objs.size f cdv))) (tk : Takes (cxD P w K mg base ["value"] "need_rule" (defScope sD_need_rule) f cdv A outer s H E) C.W) (po : PassesOwn (model P w) (cxD P w K mg base ["value"] "need_rule" (defScope sD_need_rule) f cdv A outer s H E).A (cxD P w K mg base ["value"] "need_rule" (defScope sD_need_rule) f cdv A outer s H E).env (cxD P w K mg base ["value"] "need_rule" (defScope sD_need_rule) f cdv A outer s H E).xe) (hrx : C.rx = []) (hc0 : C.c.isSome = false) :
    FB (cxD P w K mg base ["value"] "need_rule" (defScope sD_need_rule) f cdv A outer s H E) C (slots0 false [d_value] 0) (fun _ : Unit => []) (fun b : Empty => nomatch b) false (defBody sD_need_rule) (b_need_rule d_value) := by
  have S := sc_need_rule
  unfold b_need_rule
  exact (fb_ifR (emb0 := fun z : Empty => nomatch z) (ft_not (ft_val (fe_callP (ok_fits_rule T) (hr.mono (by decide)) tk (wk0 hrx) (fa_cons (fe_name 0) fa_nil)))) fb_stuck (fb_nil () .nil))
theorem ok_need_rule (T : Top K mg) : Pr P w K mg base 5 "need_rule" ["value"] (spD K mg false false 1 (ap1 m_need_rule)) := by
  have S := sc_need_rule
  exact pr_d (un := 0) T.d_need_rule S (fun _ _ _ _ _ _ us hl => match us, hl with | [_], _ => rfl) rfl rfl (fun f cdv A outer s H E C ds hr tk po hrx hc0 hd => by
    match ds, hd with
    | [d_value], _ => exact ⟨b_need_rule d_value, fun _ => rfl, w_need_rule T hr tk po hrx hc0⟩) (fun z => nomatch z)
/-! used_in -/
abbrev sD_used_in : Stmt := top 28
theorem sc_used_in : FnScope ["rule", "letters", "letter"] ["rule"] (defScope sD_used_in) := ⟨rfl, rfl, rfl, by decide +kernel, rfl, by decide +kernel, by decide +kernel⟩
noncomputable def b_used_in (d_rule : PyData) : M (Fl Unit Empty) := ((mOp padd (mCall (ap1 m_letters_in) [(mOp pidx (pure d_rule) (pure (.int 0)))]) (mCall (ap1 m_letters_in) [(mOp pidx (pure d_rule) (pure (.int 1)))])) >>= fun x1 => (sRet (mLst (oLc (iAll (pure (.tuple [(.str "a"), (.str "b"), (.str "c"), (.str "d")]))) (fun d => pure d) (fun t2 => (pure true)) (fun t2 => (mOp pin (pure t2) (pure x1)))))))
noncomputable def m_used_in (d_rule : PyData) : M PyData := finish (b_used_in d_rule)
theorem w_used_in (T : Top K mg) {d_rule : PyData} {f : Addr} {cdv : Value} {A : Around} {outer : List Env} {s : Shared} {H : Hp} {E : XK} {C : Ct} (hr : Room 2 (A.deeper (envOfC "used_in" (defScope sD_used_in) s.heap.objs.size f cdv))) (tk : Takes (cxD P w K mg base ["rule", "letters", "letter"] "used_in" (defScope sD_used_in) f cdv A outer s H E) C.W) (po : PassesOwn (model P w) (cxD P w K mg base ["rule", "letters", "letter"] "used_in" (defScope sD_used_in) f cdv A outer s H E).A (cxD P w K mg base ["rule", "letters", "letter"] "used_in" (defScope sD_used_in) f cdv A outer s H E).env (cxD P w K mg base ["rule", "letters", "letter"] "used_in" (defScope sD_used_in) f cdv A outer s H E).xe) (hrx : C.rx = []) (hc0 : C.c.isSome = false) :
    FB (cxD P w K mg base ["rule", "letters", "letter"] "used_in" (defScope sD_used_in) f cdv A outer s H E) C (slots0 false [d_rule] 2) (fun _ : Unit => []) (fun b : Empty => nomatch b) false (defBody sD_used_in) (b_used_in d_rule) := by
  have S := sc_used_in
  unfold b_used_in
  exact (fb_set 1 S.nd (fe_op op_addAll (padd_ok _) (fe_callP (ok_letters_in T) (hr.mono (by decide)) tk (wk0 hrx) (fa_cons (fe_idx (fe_name 0) fe_int) fa_nil)) (fe_callP (ok_letters_in T) (hr.mono (by decide)) tk (wk0 hrx) (fa_cons (fe_idx (fe_name 0) fe_int) fa_nil))) fun x1 => (fb_ret (fe_of (fo_lc (own := [("letter", 2)]) rfl S.nd (fi_any (fe_globF T.g_LETTERS_basics)) (blkOk_by (by first | rfl | with_unfolding_all rfl)) (fun s0 H0 Ca cl fp => fg_name 2 S.nd) (fun t2 s0 H0 Ca cl fp => fts_nil) (fun t2 s0 H0 Ca cl fp => (fe_cmp (op_inP (hu64 hr)) (pin_ok _) (by with_unfolding_all rfl) (fe_name 2) (fe_name 1)))))))
theorem ok_used_in (T : Top K mg) : Pr P w K mg base 3 "used_in" ["rule"] (spD K mg false false 1 (ap1 m_used_in)) := by
  have S := sc_used_in
  exact pr_d (un := 2) T.d_used_in S (fun _ _ _ _ _ _ us hl => match us, hl with | [_], _ => rfl) rfl rfl (fun f cdv A outer s H E C ds hr tk po hrx hc0 hd => by
    match ds, hd with
    | [d_rule], _ => exact ⟨b_used_in d_rule, fun _ => rfl, w_used_in T hr tk po hrx hc0⟩) (fun z => nomatch z)
/-! all_things -/
abbrev sD_all_things : Stmt := top 29
theorem sc_all_things : FnScope ["product", "rule", "found", "is_used", "things", "longer", "some", "thing"] ["product", "rule"] (defScope sD_all_things) := ⟨rfl, rfl, rfl, by decide +kernel, rfl, by decide +kernel, by decide +kernel⟩
noncomputable def b_all_things (d_product : PyData) (d_rule : PyData) : M (Fl Unit Empty) := ((mLst (runs [(mTup [])])) >>= fun x1 => (sFor (τ' := PyData) (iAll (mCall (ap1 m_used_in) [(pure d_rule)])) (fun d => pure d) (fun x3 t2 => (sPar (mIf (tVal (pure x3)) (mLst (oListRg (mUn plen (pure d_product)))) (mLst (runs [(pure (.int 0))]))) (mLst (runs [])) fun x4 x5 => (sFor (τ' := PyData) (iAll (pure t2)) (fun d => pure d) (fun x7 t6 => ((mOp padd (pure t6) (mLst (oLc (iAll (pure x4)) (fun d => pure d) (fun t8 => (pure true)) (fun t8 => (mOp padd (pure x7) (mTup [(pure t8)])))))) >>= fun x9 => (pure (.nx x9)))) x5 fun t6 => ((pure t6) >>= fun x10 => (pure (.nx x10)))))) x1 fun t2 => (sRet (pure t2))))
noncomputable def m_all_things (d_product : PyData) (d_rule : PyData) : M PyData := finish (b_all_things d_product d_rule)
theorem w_all_things (T : Top K mg) {d_product : PyData} {d_rule : PyData} {f : Addr} {cdv : Value} {A : Around} {outer : List Env} {s : Shared} {H : Hp} {E : XK} {C : Ct} (hr : Room 3 (A.deeper (envOfC "all_things" (defScope sD_all_things) s.heap.objs.size f cdv))) (tk : Takes (cxD P w K mg base ["product", "rule", "found", "is_used", "things", "longer", "some", "thing"] "all_things" (defScope sD_all_things) f cdv A outer s H E) C.W) (po : PassesOwn (model P w) (cxD P w K mg base ["product", "rule", "found", "is_used", "things", "longer", "some", "thing"] "all_things" (defScope sD_all_things) f cdv A outer s H E).A (cxD P w K mg base ["product", "rule", "found", "is_used", "things", "longer", "some", "thing"] "all_things" (defScope sD_all_things) f cdv A outer s H E).env (cxD P w K mg base ["product", "rule", "found", "is_used", "things", "longer", "some", "thing"] "all_things" (defScope sD_all_things) f cdv A outer s H E).xe) (hrx : C.rx = []) (hc0 : C.c.isSome = false) :
    FB (cxD P w K mg base ["product", "rule", "found", "is_used", "things", "longer", "some", "thing"] "all_things" (defScope sD_all_things) f cdv A outer s H E) C (slots0 false [d_product, d_rule] 6) (fun _ : Unit => []) (fun b : Empty => nomatch b) false (defBody sD_all_things) (b_all_things d_product d_rule) := by
  have S := sc_all_things
  unfold b_all_things
  exact (fb_set 2 S.nd (fe_of (fo_lst (fa_cons (fe_tup fa_nil (by show 0 ≤ sizeLine; decide)) fa_nil) (by show 1 ≤ sizeLine; decide))) fun x1 => (fb_for (e0 := fun t2 : PyData => [.d d_product, .d d_rule, .d t2, .un, .un, .un, .un, .un]) x1 po rfl (fi_any (fe_callP (ok_used_in T) (hr.mono (by decide)) tk (wk0 hrx) (fa_cons (fe_name 1) fa_nil))) (fg_name 3 S.nd) (.keep (.keep (.keep (.drop (.drop (.drop (.drop (.drop .nil)))))))) (fun x3 t2 => (fb_par 4 5 rfl S.nd (by decide) (fv_d (fe_ifExp (ft_val (fe_name 3)) (fe_of (fo_listRg rfl T.z_list T.z_range (fe_len T.z_len (fe_name 0)))) (fe_of (fo_lst (fa_cons fe_int fa_nil) (by show 1 ≤ sizeLine; decide))))) (fv_d (fe_of (fo_lst fa_nil (by show 0 ≤ sizeLine; decide)))) fun x4 x5 => (fb_for (e0 := fun t6 : PyData => [.d d_product, .d d_rule, .d t2, .d x3, .d x4, .d t6, .un, .un]) x5 po rfl (fi_any (fe_name 2)) (fg_name 6 S.nd) (.keep (.keep (.keep (.keep (.keep (.keep (.drop (.drop .nil)))))))) (fun x7 t6 => (fb_set 5 S.nd (fe_op op_addAll (padd_ok _) (fe_name 5) (fe_of (fo_lc (own := [("thing", 7)]) rfl S.nd (fi_any (fe_name 4)) (blkOk_by (by first | rfl | with_unfolding_all rfl)) (fun s0 H0 Ca cl fp => fg_name 7 S.nd) (fun t8 s0 H0 Ca cl fp => fts_nil) (fun t8 s0 H0 Ca cl fp => (fe_op op_addAll (padd_ok _) (fe_name 6) (fe_tup (fa_cons (fe_name 7) fa_nil) (by show 1 ≤ sizeLine; decide))))))) fun x9 => (fb_nil x9 (.keep (.keep (.keep (.keep (.keep (.keep (.drop (.drop .nil))))))))))) fun t6 => (fb_set 2 S.nd (fe_name 5) fun x10 => (fb_nil x10 (.keep (.keep (.keep (.drop (.drop (.drop (.drop (.drop .nil))))))))))))) fun t2 => (fb_ret (fe_name 2))))
theorem ok_all_things (T : Top K mg) : Pr P w K mg base 4 "all_things" ["product", "rule"] (spD K mg false false 2 (ap2 m_all_things)) := by
  have S := sc_all_things
  exact pr_d (un := 6) T.d_all_things S (fun _ _ _ _ _ _ us hl => match us, hl with | [_, _], _ => rfl) rfl rfl (fun f cdv A outer s H E C ds hr tk po hrx hc0 hd => by
    match ds, hd with
    | [d_product, d_rule], _ => exact ⟨b_all_things d_product d_rule, fun _ => rfl, w_all_things T hr tk po hrx hc0⟩) (fun z => nomatch z)
/-! counter_in -/
abbrev sD_counter_in : Stmt := top 30
theorem sc_counter_in : FnScope ["product", "rule", "one", "other", "things"] ["product", "rule"] (defScope sD_counter_in) := ⟨rfl, rfl, rfl, by decide +kernel, rfl, by decide +kernel, by decide +kernel⟩
noncomputable def b_counter_in (d_product : PyData) (d_rule : PyData) : M (Fl Unit Empty) := (sPar (mCall (ap1 m_steps_in) [(mOp pidx (pure d_rule) (pure (.int 0)))]) (mCall (ap1 m_steps_in) [(mOp pidx (pure d_rule) (pure (.int 1)))]) fun x1 x2 => (sFor (τ' := Unit) (iAll (mCall (ap2 m_all_things) [(pure d_product), (pure d_rule)])) (fun d => pure d) (fun x4 t3 => (sIfR (tCmp pne (mCall (ap3 m_worth_by) [(pure d_product), (pure x1), (pure x4)]) (mCall (ap3 m_worth_by) [(pure d_product), (pure x2), (pure x4)])) (sRet (pure x4)) (pure (.nx ())))) () fun t3 => (sRet (pure .none))))
noncomputable def m_counter_in (d_product : PyData) (d_rule : PyData) : M PyData := finish (b_counter_in d_product d_rule)
theorem w_counter_in (T : Top K mg) {d_product : PyData} {d_rule : PyData} {f : Addr} {cdv : Value} {A : Around} {outer : List Env} {s : Shared} {H : Hp} {E : XK} {C : Ct} (hr : Room 4 (A.deeper (envOfC "counter_in" (defScope sD_counter_in) s.heap.objs.size f cdv))) (tk : Takes (cxD P w K mg base ["product", "rule", "one", "other", "things"] "counter_in" (defScope sD_counter_in) f cdv A outer s H E) C.W) (po : PassesOwn (model P w) (cxD P w K mg base ["product", "rule", "one", "other", "things"] "counter_in" (defScope sD_counter_in) f cdv A outer s H E).A (cxD P w K mg base ["product", "rule", "one", "other", "things"] "counter_in" (defScope sD_counter_in) f cdv A outer s H E).env (cxD P w K mg base ["product", "rule", "one", "other", "things"] "counter_in" (defScope sD_counter_in) f cdv A outer s H E).xe) (hrx : C.rx = []) (hc0 : C.c.isSome = false) :
    FB (cxD P w K mg base ["product", "rule", "one", "other", "things"] "counter_in" (defScope sD_counter_in) f cdv A outer s H E) C (slots0 false [d_product, d_rule] 3) (fun _ : Unit => []) (fun b : Empty => nomatch b) false (defBody sD_counter_in) (b_counter_in d_product d_rule) := by
  have S := sc_counter_in
  unfold b_counter_in
  exact (fb_par 2 3 rfl S.nd (by decide) (fv_d (fe_callP (ok_steps_in T) (hr.mono (by decide)) tk (wk0 hrx) (fa_cons (fe_idx (fe_name 1) fe_int) fa_nil))) (fv_d (fe_callP (ok_steps_in T) (hr.mono (by decide)) tk (wk0 hrx) (fa_cons (fe_idx (fe_name 1) fe_int) fa_nil))) fun x1 x2 => (fb_for (e0 := fun t3 : Unit => [.d d_product, .d d_rule, .d x1, .d x2, .un]) () po rfl (fi_any (fe_callP (ok_all_things T) (hr.mono (by decide)) tk (wk0 hrx) (fa_cons (fe_name 0) (fa_cons (fe_name 1) fa_nil)))) (fg_name 4 S.nd) (.keep (.keep (.keep (.keep (.drop .nil))))) (fun x4 t3 => (fb_ifR (emb0 := fun z : Empty => nomatch z) (ft_cmp (op_neP (hu64 hr)) (pne_ok _) (nomark _) (fe_callP (ok_worth_by T) (hr.mono (by decide)) tk (wk0 hrx) (fa_cons (fe_name 0) (fa_cons (fe_name 2) (fa_cons (fe_name 4) fa_nil)))) (fe_callP (ok_worth_by T) (hr.mono (by decide)) tk (wk0 hrx) (fa_cons (fe_name 0) (fa_cons (fe_name 3) (fa_cons (fe_name 4) fa_nil))))) (fb_ret (fe_name 4)) (fb_nil () (.keep (.keep (.keep (.keep (.drop .nil)))))))) fun t3 => (fb_ret fe_non)))
theorem ok_counter_in (T : Top K mg) : Pr P w K mg base 5 "counter_in" ["product", "rule"] (spD K mg false false 2 (ap2 m_counter_in)) := by
  have S := sc_counter_in
  exact pr_d (un := 3) T.d_counter_in S (fun _ _ _ _ _ _ us hl => match us, hl with | [_, _], _ => rfl) rfl rfl (fun f cdv A outer s H E C ds hr tk po hrx hc0 hd => by
    match ds, hd with
    | [d_product, d_rule], _ => exact ⟨b_counter_in d_product d_rule, fun _ => rfl, w_counter_in T hr tk po hrx hc0⟩) (fun z => nomatch z)
/-! does_hold -/
abbrev sD_does_hold : Stmt := top 33
theorem sc_does_hold : FnScope ["product", "rule"] ["product", "rule"] (defScope sD_does_hold) := ⟨rfl, rfl, rfl, by decide +kernel, rfl, by decide +kernel, by decide +kernel⟩
noncomputable def b_does_hold (d_product : PyData) (d_rule : PyData) : M (Fl Unit Empty) := ((mCall (ap1 m_need_product) [(pure d_product)]) >>= fun _u2 => ((mCall (ap1 m_need_rule) [(pure d_rule)]) >>= fun _u1 => (sRet (mOp pisN (mCall (ap2 m_counter_in) [(pure d_product), (pure d_rule)]) (pure .none)))))
noncomputable def m_does_hold (d_product : PyData) (d_rule : PyData) : M PyData := finish (b_does_hold d_product d_rule)
theorem w_does_hold (T : Top K mg) {d_product : PyData} {d_rule : PyData} {f : Addr} {cdv : Value} {A : Around} {outer : List Env} {s : Shared} {H : Hp} {E : XK} {C : Ct} (hr : Room 5 (A.deeper (envOfC "does_hold" (defScope sD_does_hold) s.heap.objs.size f cdv))) (tk : Takes (cxD P w K mg base ["product", "rule"] "does_hold" (defScope sD_does_hold) f cdv A outer s H E) C.W) (po : PassesOwn (model P w) (cxD P w K mg base ["product", "rule"] "does_hold" (defScope sD_does_hold) f cdv A outer s H E).A (cxD P w K mg base ["product", "rule"] "does_hold" (defScope sD_does_hold) f cdv A outer s H E).env (cxD P w K mg base ["product", "rule"] "does_hold" (defScope sD_does_hold) f cdv A outer s H E).xe) (hrx : C.rx = []) (hc0 : C.c.isSome = false) :
    FB (cxD P w K mg base ["product", "rule"] "does_hold" (defScope sD_does_hold) f cdv A outer s H E) C (slots0 false [d_product, d_rule] 0) (fun _ : Unit => []) (fun b : Empty => nomatch b) false (defBody sD_does_hold) (b_does_hold d_product d_rule) := by
  have S := sc_does_hold
  unfold b_does_hold
  exact (fb_expr (fe_callP (ok_need_product T) (hr.mono (by decide)) tk (wk0 hrx) (fa_cons (fe_name 0) fa_nil)) fun _u2 => (fb_expr (fe_callP (ok_need_rule T) (hr.mono (by decide)) tk (wk0 hrx) (fa_cons (fe_name 1) fa_nil)) fun _u1 => (fb_ret (fe_cmp op_isN (pisN_ok _) (nomark _) (fe_callP (ok_counter_in T) (hr.mono (by decide)) tk (wk0 hrx) (fa_cons (fe_name 0) (fa_cons (fe_name 1) fa_nil))) fe_non))))
theorem ok_does_hold (T : Top K mg) : Pr P w K mg base 6 "does_hold" ["product", "rule"] (spD K mg false false 2 (ap2 m_does_hold)) := by
  have S := sc_does_hold
  exact pr_d (un := 0) T.d_does_hold S (fun _ _ _ _ _ _ us hl => match us, hl with | [_, _], _ => rfl) rfl rfl (fun f cdv A outer s H E C ds hr tk po hrx hc0 hd => by
    match ds, hd with
    | [d_product, d_rule], _ => exact ⟨b_does_hold d_product d_rule, fun _ => rfl, w_does_hold T hr tk po hrx hc0⟩) (fun z => nomatch z)
/-! _law_bent -/
abbrev sD__law_bent : Stmt := top 57
theorem sc__law_bent : FnScope ["cup", "value", "some", "at", "way"] ["cup", "value"] (defScope sD__law_bent) := ⟨rfl, rfl, rfl, by decide +kernel, rfl, by decide +kernel, by decide +kernel⟩
noncomputable def b__law_bent (r : PyData → M PyData) (d_value : PyData) : M (Fl Unit Empty) := (sIfR (tOr (tNo (tVal (mUn (pisT "tuple") (pure d_value)))) (tOr (tCmp peq (pure d_value) (mTup [])) (tCmp peq (mCallC (ap1 m__law_roll) [(pure (.int 8))]) (pure (.int 0))))) ((mLst (runs [(pure .none), (pure (.bool true)), (pure (.bool false)), (pure (.int 0)), (pure (.int 1)), (pure (.int 2)), (pure (.int 5)), (mUn pneg (pure (.int 1))), (pure (.str "")), (pure (.str "a")), (pure (.str "ab")), (mTup [(pure (.int 0)), (pure (.int 1))]), (mTup []), (mLst (runs []))])) >>= fun x1 => (sIf (τ' := PyData) (tCmp peq (mCall (ap1 m__law_sort) [(pure d_value)]) (pure (.int 2))) ((mOp padd (pure x1) (mLst (runs [(mOp padd (pure d_value) (pure (.int 1))), (mOp padd (pure d_value) (pure (.int 1))), (mOp psub (pure d_value) (pure (.int 1)))]))) >>= fun x3 => (pure (.nx x3))) (pure (.nx x1)) fun t2 => (sRet (mCallC (ap1 m__law_some) [(pure t2)])))) (sPar (mCallC (ap1 m__law_roll) [(mUn plen (pure d_value))]) (mCallC (ap1 m__law_roll) [(pure (.int 12))]) fun x4 x5 => (sIfR (tCmp peq (pure x5) (pure (.int 0))) (sRet (mOp padd (mSl (pure d_value) (pure none) (pSome (pure x4))) (mSl (pure d_value) (pSome (mOp padd (pure x4) (pure (.int 1)))) (pure none)))) (sIfR (tCmp peq (pure x5) (pure (.int 1))) (sRet (mOp padd (mSl (pure d_value) (pure none) (pSome (mOp padd (pure x4) (pure (.int 1))))) (mSl (pure d_value) (pSome (pure x4)) (pure none)))) (sIfR (tCmp peq (pure x5) (pure (.int 2))) (sRet (mLst (oList (pure d_value)))) (sIfR (tCmp peq (pure x5) (pure (.int 3))) (sRet (mUn prev (pure d_value))) (sRet (mOp padd (mOp padd (mSl (pure d_value) (pure none) (pSome (pure x4))) (mTup [(mCallC (ap1 r) [(mOp pidx (pure d_value) (pure x4))])])) (mSl (pure d_value) (pSome (mOp padd (pure x4) (pure (.int 1)))) (pure none))))))))))
noncomputable def m__law_bent : Nat → PyData → M PyData
  | 0, _ => stuck
  | j + 1, d_value => finish (b__law_bent (m__law_bent j) d_value)
theorem w__law_bent (T : Top K mg) {j : Nat} {r : PyData → M PyData} (ih : Pr P w K mg base (3 + j) "_law_bent" ["cup", "value"] (spD K mg true false 1 (ap1 r))) {d_value : PyData} {f : Addr} {cdv : Value} {A : Around} {outer : List Env} {s : Shared} {H : Hp} {E : XK} {C : Ct} (hr : Room (3 + j) (A.deeper (envOfC "_law_bent" (defScope sD__law_bent) s.heap.objs.size f cdv))) (tk : Takes (cxD P w K mg base ["cup", "value", "some", "at", "way"] "_law_bent" (defScope sD__law_bent) f cdv A outer s H E) C.W) (po : PassesOwn (model P w) (cxD P w K mg base ["cup", "value", "some", "at", "way"] "_law_bent" (defScope sD__law_bent) f cdv A outer s H E).A (cxD P w K mg base ["cup", "value", "some", "at", "way"] "_law_bent" (defScope sD__law_bent) f cdv A outer s H E).env (cxD P w K mg base ["cup", "value", "some", "at", "way"] "_law_bent" (defScope sD__law_bent) f cdv A outer s H E).xe) (hrx : C.rx = []) (hc0 : C.c.isSome = true) :
    FB (cxD P w K mg base ["cup", "value", "some", "at", "way"] "_law_bent" (defScope sD__law_bent) f cdv A outer s H E) C (slots0 true [d_value] 3) (fun _ : Unit => []) (fun b : Empty => nomatch b) false (defBody sD__law_bent) (b__law_bent r d_value) := by
  have S := sc__law_bent
  unfold b__law_bent
  exact (fb_ifR (emb0 := fun z : Empty => nomatch z) (FW.ft (fw_or (ft_not (ft_val (fe_isinst "tuple" (.inr (.inr (.inr (.inl rfl)))) T.z_isinstance T.z_tuple (by decide +kernel) (fe_name 1)))) (fw_or (ft_cmp (op_eqP (hu64 hr)) (peq_ok _) (nomark _) (fe_name 1) (fe_tup fa_nil (by show 0 ≤ sizeLine; decide))) (fw_or1 (ft_cmp (op_eqP (hu64 hr)) (peq_ok _) (nomark _) (fe_callPC 0 (ok__law_roll T) (hr.mono (by omega)) tk (wk0 hrx) (fa_cons fe_int fa_nil)) fe_int))))) (fb_set 2 S.nd (fe_of (fo_lst (fa_cons fe_non (fa_cons fe_bl (fa_cons fe_bl (fa_cons fe_int (fa_cons fe_int (fa_cons fe_int (fa_cons fe_int (fa_cons (fe_un un_neg (pneg_ok _) fe_int) (fa_cons fe_str (fa_cons fe_str (fa_cons fe_str (fa_cons (fe_tup (fa_cons fe_int (fa_cons fe_int fa_nil)) (by show 2 ≤ sizeLine; decide)) (fa_cons (fe_tup fa_nil (by show 0 ≤ sizeLine; decide)) (fa_cons (fe_of (fo_lst fa_nil (by show 0 ≤ sizeLine; decide))) fa_nil)))))))))))))) (by show 14 ≤ sizeLine; decide))) fun x1 => (fb_if (emb' := fun t2 : PyData => [.cup, .d d_value, .d t2, .un, .un]) (ft_cmp (op_eqP (hu64 hr)) (peq_ok _) (nomark _) (fe_callP (ok__law_sort T) (hr.mono (by omega)) tk (wk0 hrx) (fa_cons (fe_name 1) fa_nil)) fe_int) (fb_set 2 S.nd (fe_op op_addAll (padd_ok _) (fe_name 2) (fe_of (fo_lst (fa_cons (fe_op op_addAll (padd_ok _) (fe_name 1) fe_int) (fa_cons (fe_op op_addAll (padd_ok _) (fe_name 1) fe_int) (fa_cons (fe_op op_sub (psub_ok _) (fe_name 1) fe_int) fa_nil))) (by show 3 ≤ sizeLine; decide)))) fun x3 => (fb_nil x3 (.keep (.keep (.keep (.drop (.drop .nil))))))) (fb_nil x1 (.keep (.keep (.keep (.drop (.drop .nil)))))) fun t2 => (fb_ret (fe_callPC 0 (ok__law_some T) (hr.mono (by omega)) tk (wk0 hrx) (fa_cons (fe_name 2) fa_nil))))) (fb_par 3 4 rfl S.nd (by decide) (fv_d (fe_callPC 0 (ok__law_roll T) (hr.mono (by omega)) tk (wk0 hrx) (fa_cons (fe_len T.z_len (fe_name 1)) fa_nil))) (fv_d (fe_callPC 0 (ok__law_roll T) (hr.mono (by omega)) tk (wk0 hrx) (fa_cons fe_int fa_nil))) fun x4 x5 => (fb_ifR (emb0 := fun z : Empty => nomatch z) (ft_cmp (op_eqP (hu64 hr)) (peq_ok _) (nomark _) (fe_name 4) fe_int) (fb_ret (fe_op op_addAll (padd_ok _) (fe_slice (fe_name 1) fp_none (fp_some (fe_name 3))) (fe_slice (fe_name 1) (fp_some (fe_op op_addAll (padd_ok _) (fe_name 3) fe_int)) fp_none))) (fb_ifR (emb0 := fun z : Empty => nomatch z) (ft_cmp (op_eqP (hu64 hr)) (peq_ok _) (nomark _) (fe_name 4) fe_int) (fb_ret (fe_op op_addAll (padd_ok _) (fe_slice (fe_name 1) fp_none (fp_some (fe_op op_addAll (padd_ok _) (fe_name 3) fe_int))) (fe_slice (fe_name 1) (fp_some (fe_name 3)) fp_none))) (fb_ifR (emb0 := fun z : Empty => nomatch z) (ft_cmp (op_eqP (hu64 hr)) (peq_ok _) (nomark _) (fe_name 4) fe_int) (fb_ret (fe_of (fo_list T.z_list (fe_name 1)))) (fb_ifR (emb0 := fun z : Empty => nomatch z) (ft_cmp (op_eqP (hu64 hr)) (peq_ok _) (nomark _) (fe_name 4) fe_int) (fb_ret (fe_rev (fe_name 1))) (fb_ret (fe_op op_addAll (padd_ok _) (fe_op op_addAll (padd_ok _) (fe_slice (fe_name 1) fp_none (fp_some (fe_name 3))) (fe_tup (fa_cons (fe_callPC 0 ih (hr) tk (wk0 hrx) (fa_cons (fe_idx (fe_name 1) (fe_name 3)) fa_nil)) fa_nil) (by show 1 ≤ sizeLine; decide))) (fe_slice (fe_name 1) (fp_some (fe_op op_addAll (padd_ok _) (fe_name 3) fe_int)) fp_none)))))))))
theorem ok__law_bent (T : Top K mg) : ∀ j : Nat, Pr P w K mg base (3 + j) "_law_bent" ["cup", "value"] (spD K mg true false 1 (ap1 (m__law_bent j)))
  | 0 => pr_stuckG T.d__law_bent (fun _ _ _ _ _ _ us hl => match us, hl with | [_, _], _ => rfl) (fun ds hd => match ds, hd with | [_], _ => rfl)
  | j + 1 => by
    have S := sc__law_bent
    have ih := ok__law_bent T j
    exact pr_d (un := 3) T.d__law_bent S (fun _ _ _ _ _ _ us hl => match us, hl with | [_, _], _ => rfl) rfl rfl (fun f cdv A outer s H E C ds hr tk po hrx hc0 hd => by
    match ds, hd with
    | [d_value], _ => exact ⟨b__law_bent (m__law_bent j) d_value, fun _ => rfl, w__law_bent T ih hr tk po hrx hc0⟩) (fun z => nomatch z)
/-! _law_term -/
abbrev sD__law_term : Stmt := top 62
theorem sc__law_term : FnScope ["word", "found", "letter"] ["word"] (defScope sD__law_term) := ⟨rfl, rfl, rfl, by decide +kernel, rfl, by decide +kernel, by decide +kernel⟩
noncomputable def b__law_term (d_word : PyData) : M (Fl Unit Empty) := ((mOp pidx (pure d_word) (pure (.int 0))) >>= fun x1 => (sFor (τ' := PyData) (iAll (mSl (pure d_word) (pSome (pure (.int 1))) (pure none))) (fun d => pure d) (fun x3 t2 => ((mTup [(pure (.str "*")), (pure t2), (pure x3)]) >>= fun x4 => (pure (.nx x4)))) x1 fun t2 => (sRet (pure t2))))
noncomputable def m__law_term (d_word : PyData) : M PyData := finish (b__law_term d_word)
theorem w__law_term (T : Top K mg) {d_word : PyData} {f : Addr} {cdv : Value} {A : Around} {outer : List Env} {s : Shared} {H : Hp} {E : XK} {C : Ct} (hr : Room 0 (A.deeper (envOfC "_law_term" (defScope sD__law_term) s.heap.objs.size f cdv))) (tk : Takes (cxD P w K mg base ["word", "found", "letter"] "_law_term" (defScope sD__law_term) f cdv A outer s H E) C.W) (po : PassesOwn (model P w) (cxD P w K mg base ["word", "found", "letter"] "_law_term" (defScope sD__law_term) f cdv A outer s H E).A (cxD P w K mg base ["word", "found", "letter"] "_law_term" (defScope sD__law_term) f cdv A outer s H E).env (cxD P w K mg base ["word", "found", "letter"] "_law_term" (defScope sD__law_term) f cdv A outer s H E).xe) (hrx : C.rx = []) (hc0 : C.c.isSome = false) :
    FB (cxD P w K mg base ["word", "found", "letter"] "_law_term" (defScope sD__law_term) f cdv A outer s H E) C (slots0 false [d_word] 2) (fun _ : Unit => []) (fun b : Empty => nomatch b) false (defBody sD__law_term) (b__law_term d_word) := by
  have S := sc__law_term
  unfold b__law_term
  exact (fb_set 1 S.nd (fe_idx (fe_name 0) fe_int) fun x1 => (fb_for (e0 := fun t2 : PyData => [.d d_word, .d t2, .un]) x1 po rfl (fi_any (fe_slice (fe_name 0) (fp_some fe_int) fp_none)) (fg_name 2 S.nd) (.keep (.keep (.drop .nil))) (fun x3 t2 => (fb_set 1 S.nd (fe_tup (fa_cons fe_str (fa_cons (fe_name 1) (fa_cons (fe_name 2) fa_nil))) (by show 3 ≤ sizeLine; decide)) fun x4 => (fb_nil x4 (.keep (.keep (.drop .nil)))))) fun t2 => (fb_ret (fe_name 1))))
theorem ok__law_term (T : Top K mg) : Pr P w K mg base 1 "_law_term" ["word"] (spD K mg false false 1 (ap1 m__law_term)) := by
  have S := sc__law_term
  exact pr_d (un := 2) T.d__law_term S (fun _ _ _ _ _ _ us hl => match us, hl with | [_], _ => rfl) rfl rfl (fun f cdv A outer s H E C ds hr tk po hrx hc0 hd => by
    match ds, hd with
    | [d_word], _ => exact ⟨b__law_term d_word, fun _ => rfl, w__law_term T hr tk po hrx hc0⟩) (fun z => nomatch z)
/-! _law_right -/
abbrev sD__law_right : Stmt := top 63
theorem sc__law_right : FnScope ["cup", "product", "many", "word", "second", "at", "one", "other", "due", "told", "first", "last", "places", "counter", "drawn", "values", "value", "good", "back", "letter", "thing"] ["cup", "product"] (defScope sD__law_right) := ⟨rfl, rfl, rfl, by decide +kernel, rfl, by decide +kernel, by decide +kernel⟩
noncomputable def b__law_right (d_product : PyData) : M (Fl Unit Empty) := (sPar (mUn plen (pure d_product)) (mCallC (ap1 m__law_word) [(pure (.int 12))]) fun x1 x2 => ((mCallC (ap1 m__law_some) [(mLst (runs [(mCallC (ap1 m__law_word) [(pure (.int 12))]), (mOp padd (pure x2) (mCallC (ap1 m__law_word) [(pure (.int 6))])), (mOp padd (mSl (pure x2) (pure none) (pSome (mUn pneg (pure (.int 1))))) (mCallC (ap1 m__law_some) [(pure (.str "ab"))]))]))]) >>= fun x3 => (sIf (τ' := PyData × PyData) (tCmp peq (mCallC (ap1 m__law_roll) [(pure (.int 3))]) (pure (.int 0))) ((mStr pjoin (pure (.str "")) (mLst (oLc (iRange1 (mOp padd (pure (.int 19)) (mCallC (ap1 m__law_roll) [(pure (.int 22))]))) (fun d => pure d) (fun t5 => (pure true)) (fun t5 => (mCallC (ap1 m__law_some) [(pure (.str "ab"))]))))) >>= fun x6 => ((mOp padd (pure (.int 18)) (mCallC (ap1 m__law_roll) [(mOp psub (mUn plen (pure x6)) (pure (.int 18)))])) >>= fun x7 => ((mOp padd (mOp padd (mSl (pure x6) (pure none) (pSome (pure x7))) (mIf (tCmp peq (mOp pidx (pure x6) (pure x7)) (pure (.str "a"))) (pure (.str "b")) (pure (.str "a")))) (mSl (pure x6) (pSome (mOp padd (pure x7) (pure (.int 1)))) (pure none))) >>= fun x8 => (pure (.nx (x6, x8)))))) (pure (.nx (x2, x3))) fun t4 => (sPar (mCallC (ap1 m__law_roll) [(pure x1)]) (mCallC (ap1 m__law_roll) [(pure x1)]) fun x9 x10 => ((mCall (ap4 m__law_worth_of) [(pure d_product), (pure t4.1), (pure x9), (pure x10)]) >>= fun x11 => ((mLst (runs [(mCall (ap3 m_word_worth) [(pure d_product), (pure t4.1), (mTup [(pure x9), (pure x10)])]), (mCall (ap3 m_term_worth) [(pure d_product), (mCall (ap1 m__law_term) [(pure t4.1)]), (mTup [(pure x9), (pure x10), (pure (.int 0)), (pure (.int 0))])]), (mCall (ap2 m_word_row) [(pure d_product), (pure t4.1)])])) >>= fun x12 => (sIfR (tNo (tVal (mCall (ap2 (m__law_like 12)) [(pure x12), (mLst (runs [(pure x11), (pure x11), (mCall (ap2 m__law_row) [(pure d_product), (pure t4.1)])]))]))) (sRet (pure (.bool false))) (sPar (mCall (ap2 m__law_row) [(pure d_product), (pure t4.1)]) (mCall (ap2 m__law_row) [(pure d_product), (pure t4.2)]) fun x13 x14 => ((oLc (iRange1 (mOp pmul (pure x1) (pure x1))) (fun d => pure d) (fun t15 => (tCmp pne (mOp pidx (pure x13) (pure t15)) (mOp pidx (pure x14) (pure t15)))) (fun t15 => (pure t15))) >>= fun xs16 => ((mIf (peekB (tCmp pne (pure (.list xs16)) (mLst (runs [])))) (mTup [(mUn pint (mOp pfdiv (peekM (mOp pidx (pure (.list xs16)) (pure (.int 0)))) (pure x1))), (mOp pmod (mUn pint (peekM (mOp pidx (pure (.list xs16)) (pure (.int 0))))) (pure x1))]) (pure .none)) >>= fun x17 => ((mLst (runs [(mCall (ap3 m_do_words_agree) [(pure d_product), (pure t4.1), (pure t4.2)]), (mCall (ap3 m_word_counter) [(pure d_product), (pure t4.1), (pure t4.2)]), (mCall (ap2 m_does_hold) [(pure d_product), (mTup [(mCall (ap1 m__law_term) [(pure t4.1)]), (mCall (ap1 m__law_term) [(pure t4.2)])])])])) >>= fun x18 => (sIfR (peekB (tNo (tVal (mCall (ap2 (m__law_like 12)) [(pure x18), (mLst (runs [(mOp peq (pure (.list xs16)) (mLst (runs []))), (pure x17), (mOp peq (pure (.list xs16)) (mLst (runs [])))]))])))) (sRet (pure (.bool false))) ((mTup [(mCallC (ap1 m__law_roll) [(pure x1)]), (mCallC (ap1 m__law_roll) [(pure x1)])]) >>= fun x19 => ((mLst (runs [(pure x17), (pure x19), (mUn prev (pure x19)), (mLst (oList (pure x19))), (mOp padd (pure x19) (mTup [(pure (.int 0))])), (mSl (pure x19) (pure none) (pSome (pure (.int 1)))), (mTup [(mOp pidx (pure x19) (pure (.int 0))), (pure x1)]), (mTup [(mUn pneg (pure (.int 1))), (pure (.int 0))]), (mTup [(pure (.bool true)), (pure (.int 0))]), (pure .none), (mTup []), (pure (.int 5)), (pure (.str "ab")), (mCallC (ap1 (m__law_bent 12)) [(pure x19)])])) >>= fun x20 => (sFor (τ' := Unit) (iAll (pure x20)) (fun d => pure d) (fun x22 t21 => ((mAnd (mUn (pisT "tuple") (pure x22)) (mAnd (mOp peq (mUn plen (pure x22)) (pure (.int 2))) (mOp peq (mLst (oLc (iAll (pure x22)) (fun d => pure d) (fun t23 => (tOr (tCmp pne (mCall (ap1 m__law_sort) [(pure t23)]) (pure (.int 2))) (tNo (tVal (mChain ple plt (pure (.int 0)) (pure t23) (pure x1)))))) (fun t23 => (pure t23)))) (mLst (runs []))))) >>= fun x24 => ((mAnd (pure x24) (mOp pne (mOp pidx (pure x13) (mOp padd (mOp pmul (mOp pidx (pure x22) (pure (.int 0))) (pure x1)) (mOp pidx (pure x22) (pure (.int 1))))) (mOp pidx (pure x14) (mOp padd (mOp pmul (mOp pidx (pure x22) (pure (.int 0))) (pure x1)) (mOp pidx (pure x22) (pure (.int 1))))))) >>= fun x25 => (sIfR (tNo (tVal (mCall (ap2 (m__law_like 12)) [(mCall (ap4 m_is_word_counter) [(pure d_product), (pure t4.1), (pure t4.2), (pure x22)]), (pure x25)]))) (sRet (pure (.bool false))) (pure (.nx ())))))) () fun t21 => ((mStr pjoin (pure (.str "")) (mLst (oLc (iAll (pure t4.1)) (fun d => pure d) (fun t26 => (pure true)) (fun t26 => (mIf (tCmp peq (pure t26) (pure (.str "a"))) (pure (.str "b")) (pure (.str "a"))))))) >>= fun x27 => (sRet (mCall (ap2 (m__law_like 12)) [(mCall (ap3 m_word_worth) [(pure d_product), (pure x27), (mTup [(pure x10), (pure x9)])]), (pure x11)]))))))))))))))))))
noncomputable def m__law_right (d_product : PyData) : M PyData := finish (b__law_right d_product)
theorem w__law_right (T : Top K mg) {d_product : PyData} {f : Addr} {cdv : Value} {A : Around} {outer : List Env} {s : Shared} {H : Hp} {E : XK} {C : Ct} (hr : Room 15 (A.deeper (envOfC "_law_right" (defScope sD__law_right) s.heap.objs.size f cdv))) (tk : Takes (cxD P w K mg base ["cup", "product", "many", "word", "second", "at", "one", "other", "due", "told", "first", "last", "places", "counter", "drawn", "values", "value", "good", "back", "letter", "thing"] "_law_right" (defScope sD__law_right) f cdv A outer s H E) C.W) (po : PassesOwn (model P w) (cxD P w K mg base ["cup", "product", "many", "word", "second", "at", "one", "other", "due", "told", "first", "last", "places", "counter", "drawn", "values", "value", "good", "back", "letter", "thing"] "_law_right" (defScope sD__law_right) f cdv A outer s H E).A (cxD P w K mg base ["cup", "product", "many", "word", "second", "at", "one", "other", "due", "told", "first", "last", "places", "counter", "drawn", "values", "value", "good", "back", "letter", "thing"] "_law_right" (defScope sD__law_right) f cdv A outer s H E).env (cxD P w K mg base ["cup", "product", "many", "word", "second", "at", "one", "other", "due", "told", "first", "last", "places", "counter", "drawn", "values", "value", "good", "back", "letter", "thing"] "_law_right" (defScope sD__law_right) f cdv A outer s H E).xe) (hrx : C.rx = []) (hc0 : C.c.isSome = true) :
    FB (cxD P w K mg base ["cup", "product", "many", "word", "second", "at", "one", "other", "due", "told", "first", "last", "places", "counter", "drawn", "values", "value", "good", "back", "letter", "thing"] "_law_right" (defScope sD__law_right) f cdv A outer s H E) C (slots0 true [d_product] 19) (fun _ : Unit => []) (fun b : Empty => nomatch b) false (defBody sD__law_right) (b__law_right d_product) := by
  have S := sc__law_right
  unfold b__law_right
  exact (fb_tup 2 3 rfl S.nd (by decide) (fv_d (fe_len T.z_len (fe_name 1))) (fv_d (fe_callPC 0 (ok__law_word T) (hr.mono (by decide)) tk (wk0 hrx) (fa_cons fe_int fa_nil))) fun x1 x2 => (fb_set 4 S.nd (fe_callPC 0 (ok__law_some T) (hr.mono (by decide)) tk (wk0 hrx) (fa_cons (fe_of (fo_lst (fa_cons (fe_callPC 0 (ok__law_word T) (hr.mono (by decide)) tk (wk0 hrx) (fa_cons fe_int fa_nil)) (fa_cons (fe_op op_addAll (padd_ok _) (fe_name 3) (fe_callPC 0 (ok__law_word T) (hr.mono (by decide)) tk (wk0 hrx) (fa_cons fe_int fa_nil))) (fa_cons (fe_op op_addAll (padd_ok _) (fe_slice (fe_name 3) fp_none (fp_some (fe_un un_neg (pneg_ok _) fe_int))) (fe_callPC 0 (ok__law_some T) (hr.mono (by decide)) tk (wk0 hrx) (fa_cons fe_str fa_nil))) fa_nil))) (by show 3 ≤ sizeLine; decide))) fa_nil)) fun x3 => (fb_if (emb' := fun t4 : PyData × PyData => [.cup, .d d_product, .d x1, .d t4.1, .d t4.2, .un, .un, .un, .un, .un, .un, .un, .un, .un, .un, .un, .un, .un, .un, .un, .un]) (ft_cmp (op_eqP (hu64 hr)) (peq_ok _) (nomark _) (fe_callPC 0 (ok__law_roll T) (hr.mono (by decide)) tk (wk0 hrx) (fa_cons fe_int fa_nil)) fe_int) (fb_set 3 S.nd (fe_join fe_str (fe_of (fo_lc (own := [("letter", 19)]) rfl S.nd (fi_range1 T.z_range (fe_op op_addAll (padd_ok _) fe_int (fe_callPC 0 (ok__law_roll T) (hr.mono (by decide)) tk (wk0 hrx) (fa_cons fe_int fa_nil)))) (blkOk_by (by first | rfl | with_unfolding_all rfl)) (fun s0 H0 Ca cl fp => fg_name 19 S.nd) (fun t5 s0 H0 Ca cl fp => fts_nil) (fun t5 s0 H0 Ca cl fp => (fe_callPC 0 (ok__law_some T) (hr.mono (by decide)) takes0 .nil (fa_cons fe_str fa_nil)))))) fun x6 => (fb_set 5 S.nd (fe_op op_addAll (padd_ok _) fe_int (fe_callPC 0 (ok__law_roll T) (hr.mono (by decide)) tk (wk0 hrx) (fa_cons (fe_op op_sub (psub_ok _) (fe_len T.z_len (fe_name 3)) fe_int) fa_nil))) fun x7 => (fb_set 4 S.nd (fe_op op_addAll (padd_ok _) (fe_op op_addAll (padd_ok _) (fe_slice (fe_name 3) fp_none (fp_some (fe_name 5))) (fe_ifExp (ft_cmp (op_eqP (hu64 hr)) (peq_ok _) (nomark _) (fe_idx (fe_name 3) (fe_name 5)) fe_str) fe_str fe_str)) (fe_slice (fe_name 3) (fp_some (fe_op op_addAll (padd_ok _) (fe_name 5) fe_int)) fp_none)) fun x8 => (fb_nil (x6, x8) (.keep (.keep (.keep (.keep (.keep (.drop (.drop (.drop (.drop (.drop (.drop (.drop (.drop (.drop (.drop (.drop (.drop (.drop (.drop (.drop (.drop .nil))))))))))))))))))))))))) (fb_nil (x2, x3) (.keep (.keep (.keep (.keep (.keep (.drop (.drop (.drop (.drop (.drop (.drop (.drop (.drop (.drop (.drop (.drop (.drop (.drop (.drop (.drop (.drop .nil)))))))))))))))))))))) fun t4 => (fb_par 6 7 rfl S.nd (by decide) (fv_d (fe_callPC 0 (ok__law_roll T) (hr.mono (by decide)) tk (wk0 hrx) (fa_cons (fe_name 2) fa_nil))) (fv_d (fe_callPC 0 (ok__law_roll T) (hr.mono (by decide)) tk (wk0 hrx) (fa_cons (fe_name 2) fa_nil))) fun x9 x10 => (fb_set 8 S.nd (fe_callP (ok__law_worth_of T) (hr.mono (by decide)) tk (wk0 hrx) (fa_cons (fe_name 1) (fa_cons (fe_name 3) (fa_cons (fe_name 6) (fa_cons (fe_name 7) fa_nil))))) fun x11 => (fb_set 9 S.nd (fe_of (fo_lst (fa_cons (fe_callP (ok_word_worth T) (hr.mono (by decide)) tk (wk0 hrx) (fa_cons (fe_name 1) (fa_cons (fe_name 3) (fa_cons (fe_tup (fa_cons (fe_name 6) (fa_cons (fe_name 7) fa_nil)) (by show 2 ≤ sizeLine; decide)) fa_nil)))) (fa_cons (fe_callP (ok_term_worth T) (hr.mono (by decide)) tk (wk0 hrx) (fa_cons (fe_name 1) (fa_cons (fe_callP (ok__law_term T) (hr.mono (by decide)) tk (wk0 hrx) (fa_cons (fe_name 3) fa_nil)) (fa_cons (fe_tup (fa_cons (fe_name 6) (fa_cons (fe_name 7) (fa_cons fe_int (fa_cons fe_int fa_nil)))) (by show 4 ≤ sizeLine; decide)) fa_nil)))) (fa_cons (fe_callP (ok_word_row T) (hr.mono (by decide)) tk (wk0 hrx) (fa_cons (fe_name 1) (fa_cons (fe_name 3) fa_nil))) fa_nil))) (by show 3 ≤ sizeLine; decide))) fun x12 => (fb_ifR (emb0 := fun z : Empty => nomatch z) (ft_not (ft_val (fe_callP (ok__law_like T 12) (hr.mono (by decide)) tk (wk0 hrx) (fa_cons (fe_name 9) (fa_cons (fe_of (fo_lst (fa_cons (fe_name 8) (fa_cons (fe_name 8) (fa_cons (fe_callP (ok__law_row T) (hr.mono (by decide)) tk (wk0 hrx) (fa_cons (fe_name 1) (fa_cons (fe_name 3) fa_nil))) fa_nil))) (by show 3 ≤ sizeLine; decide))) fa_nil))))) (fb_ret fe_bl) (fb_tup 10 11 rfl S.nd (by decide) (fv_d (fe_callP (ok__law_row T) (hr.mono (by decide)) tk (wk0 hrx) (fa_cons (fe_name 1) (fa_cons (fe_name 3) fa_nil)))) (fv_d (fe_callP (ok__law_row T) (hr.mono (by decide)) tk (wk0 hrx) (fa_cons (fe_name 1) (fa_cons (fe_name 4) fa_nil)))) fun x13 x14 => (fb_setLc 12 (own := [("at", 5)]) rfl S.nd (fi_range1 T.z_range (fe_op op_mulAll (pmul_ok _) (fe_name 2) (fe_name 2))) (blkOk_by (by first | rfl | with_unfolding_all rfl)) (fun s0 H0 Ca cl fp => fg_name 5 S.nd) (fun t15 s0 H0 Ca cl fp => (fts_one (ft_cmp (op_neP (hu64 hr)) (pne_ok _) (nomark _) (fe_idx (fe_name 10) (fe_name 5)) (fe_idx (fe_name 11) (fe_name 5))))) (fun t15 s0 H0 Ca cl fp => (fe_name 5)) fun xs16 => (fb_set 13 S.nd (fe_ifExp (ft_peek fun F0 E0 => (ft_cmp (op_neP (hu64 hr)) (pne_ok _) (nomark _) (fe_name 12) (fe_of (fo_lst fa_nil (by show 0 ≤ sizeLine; decide))))) (fe_tup (fa_cons (fe_intOf T.z_int (fe_op op_fdiv (pfdiv_ok _) (fe_peek fun F0 E0 => (fe_idx (fe_name 12) fe_int)) (fe_name 2))) (fa_cons (fe_op op_mod (pmod_ok _) (fe_intOf T.z_int (fe_peek fun F0 E0 => (fe_idx (fe_name 12) fe_int))) (fe_name 2)) fa_nil)) (by show 2 ≤ sizeLine; decide)) fe_non) fun x17 => (fb_set 9 S.nd (fe_of (fo_lst (fa_cons (fe_callP (ok_do_words_agree T) (hr.mono (by decide)) tk (wk0 hrx) (fa_cons (fe_name 1) (fa_cons (fe_name 3) (fa_cons (fe_name 4) fa_nil)))) (fa_cons (fe_callP (ok_word_counter T) (hr.mono (by decide)) tk (wk0 hrx) (fa_cons (fe_name 1) (fa_cons (fe_name 3) (fa_cons (fe_name 4) fa_nil)))) (fa_cons (fe_callP (ok_does_hold T) (hr.mono (by decide)) tk (wk0 hrx) (fa_cons (fe_name 1) (fa_cons (fe_tup (fa_cons (fe_callP (ok__law_term T) (hr.mono (by decide)) tk (wk0 hrx) (fa_cons (fe_name 3) fa_nil)) (fa_cons (fe_callP (ok__law_term T) (hr.mono (by decide)) tk (wk0 hrx) (fa_cons (fe_name 4) fa_nil)) fa_nil)) (by show 2 ≤ sizeLine; decide)) fa_nil))) fa_nil))) (by show 3 ≤ sizeLine; decide))) fun x18 => (fb_ifR (emb0 := fun z : Empty => nomatch z) (ft_peek fun F0 E0 => (ft_not (ft_val (fe_callP (ok__law_like T 12) (hr.mono (by decide)) takes0 .nil (fa_cons (fe_name 9) (fa_cons (fe_of (fo_lst (fa_cons (fe_cmp (op_eqP (hu64 hr)) (peq_ok _) (nomark _) (fe_name 12) (fe_of (fo_lst fa_nil (by show 0 ≤ sizeLine; decide)))) (fa_cons (fe_name 13) (fa_cons (fe_cmp (op_eqP (hu64 hr)) (peq_ok _) (nomark _) (fe_name 12) (fe_of (fo_lst fa_nil (by show 0 ≤ sizeLine; decide)))) fa_nil))) (by show 3 ≤ sizeLine; decide))) fa_nil)))))) (fb_ret fe_bl) (fb_set 14 S.nd (fe_tup (fa_cons (fe_callPC 0 (ok__law_roll T) (hr.mono (by decide)) tk (wk0 hrx) (fa_cons (fe_name 2) fa_nil)) (fa_cons (fe_callPC 0 (ok__law_roll T) (hr.mono (by decide)) tk (wk0 hrx) (fa_cons (fe_name 2) fa_nil)) fa_nil)) (by show 2 ≤ sizeLine; decide)) fun x19 => (fb_set 15 S.nd (fe_of (fo_lst (fa_cons (fe_name 13) (fa_cons (fe_name 14) (fa_cons (fe_rev (fe_name 14)) (fa_cons (fe_of (fo_list T.z_list (fe_name 14))) (fa_cons (fe_op op_addAll (padd_ok _) (fe_name 14) (fe_tup (fa_cons fe_int fa_nil) (by show 1 ≤ sizeLine; decide))) (fa_cons (fe_slice (fe_name 14) fp_none (fp_some fe_int)) (fa_cons (fe_tup (fa_cons (fe_idx (fe_name 14) fe_int) (fa_cons (fe_name 2) fa_nil)) (by show 2 ≤ sizeLine; decide)) (fa_cons (fe_tup (fa_cons (fe_un un_neg (pneg_ok _) fe_int) (fa_cons fe_int fa_nil)) (by show 2 ≤ sizeLine; decide)) (fa_cons (fe_tup (fa_cons fe_bl (fa_cons fe_int fa_nil)) (by show 2 ≤ sizeLine; decide)) (fa_cons fe_non (fa_cons (fe_tup fa_nil (by show 0 ≤ sizeLine; decide)) (fa_cons fe_int (fa_cons fe_str (fa_cons (fe_callPC 0 (ok__law_bent T 12) (hr.mono (by decide)) tk (wk0 hrx) (fa_cons (fe_name 14) fa_nil)) fa_nil)))))))))))))) (by show 14 ≤ sizeLine; decide))) fun x20 => (fb_for (e0 := fun t21 : Unit => [.cup, .d d_product, .d x1, .d t4.1, .d t4.2, .un, .d x9, .d x10, .d x11, .d x18, .d x13, .d x14, .own xs16, .d x17, .d x19, .d x20, .un, .un, .un, .un, .un]) () po rfl (fi_any (fe_name 15)) (fg_name 16 S.nd) (.keep (.keep (.keep (.keep (.keep (.drop (.keep (.keep (.keep (.keep (.keep (.keep (.keep (.keep (.keep (.keep (.drop (.drop (.drop (.drop (.drop .nil))))))))))))))))))))) (fun x22 t21 => (fb_set 17 S.nd (fe_and (fe_isinst "tuple" (.inr (.inr (.inr (.inl rfl)))) T.z_isinstance T.z_tuple (by decide +kernel) (fe_name 16)) (fe_and (fe_cmp (op_eqP (hu64 hr)) (peq_ok _) (nomark _) (fe_len T.z_len (fe_name 16)) fe_int) (fe_one (fe_cmp (op_eqP (hu64 hr)) (peq_ok _) (nomark _) (fe_of (fo_lc (own := [("thing", 20)]) rfl S.nd (fi_any (fe_name 16)) (blkOk_by (by first | rfl | with_unfolding_all rfl)) (fun s0 H0 Ca cl fp => fg_name 20 S.nd) (fun t23 s0 H0 Ca cl fp => (fts_one (FW.ft (fw_or (ft_cmp (op_neP (hu64 hr)) (pne_ok _) (nomark _) (fe_callP (ok__law_sort T) (hr.mono (by decide)) takes0 .nil (fa_cons (fe_name 20) fa_nil)) fe_int) (fw_or1 (ft_not (ft_chain op_le op_lt (pcmp_ok _ _) (pcmp_ok _ _) fe_int (fe_name 20) (fe_name 2)))))))) (fun t23 s0 H0 Ca cl fp => (fe_name 20)))) (fe_of (fo_lst fa_nil (by show 0 ≤ sizeLine; decide))))))) fun x24 => (fb_set 17 S.nd (fe_and (fe_name 17) (fe_one (fe_cmp (op_neP (hu64 hr)) (pne_ok _) (nomark _) (fe_idx (fe_name 10) (fe_op op_addAll (padd_ok _) (fe_op op_mulAll (pmul_ok _) (fe_idx (fe_name 16) fe_int) (fe_name 2)) (fe_idx (fe_name 16) fe_int))) (fe_idx (fe_name 11) (fe_op op_addAll (padd_ok _) (fe_op op_mulAll (pmul_ok _) (fe_idx (fe_name 16) fe_int) (fe_name 2)) (fe_idx (fe_name 16) fe_int)))))) fun x25 => (fb_ifR (emb0 := fun z : Empty => nomatch z) (ft_not (ft_val (fe_callP (ok__law_like T 12) (hr.mono (by decide)) tk (wk0 hrx) (fa_cons (fe_callP (ok_is_word_counter T) (hr.mono (by decide)) tk (wk0 hrx) (fa_cons (fe_name 1) (fa_cons (fe_name 3) (fa_cons (fe_name 4) (fa_cons (fe_name 16) fa_nil))))) (fa_cons (fe_name 17) fa_nil))))) (fb_ret fe_bl) (fb_nil () (.keep (.keep (.keep (.keep (.keep (.drop (.keep (.keep (.keep (.keep (.keep (.keep (.keep (.keep (.keep (.keep (.drop (.drop (.drop (.drop (.drop .nil)))))))))))))))))))))))))) fun t21 => (fb_set 18 S.nd (fe_join fe_str (fe_of (fo_lc (own := [("letter", 19)]) rfl S.nd (fi_any (fe_name 3)) (blkOk_by (by first | rfl | with_unfolding_all rfl)) (fun s0 H0 Ca cl fp => fg_name 19 S.nd) (fun t26 s0 H0 Ca cl fp => fts_nil) (fun t26 s0 H0 Ca cl fp => (fe_ifExp (ft_cmp (op_eqP (hu64 hr)) (peq_ok _) (nomark _) (fe_name 19) fe_str) fe_str fe_str))))) fun x27 => (fb_ret (fe_callP (ok__law_like T 12) (hr.mono (by decide)) tk (wk0 hrx) (fa_cons (fe_callP (ok_word_worth T) (hr.mono (by decide)) tk (wk0 hrx) (fa_cons (fe_name 1) (fa_cons (fe_name 18) (fa_cons (fe_tup (fa_cons (fe_name 7) (fa_cons (fe_name 6) fa_nil)) (by show 2 ≤ sizeLine; decide)) fa_nil)))) (fa_cons (fe_name 8) fa_nil))))))))))))))))))))
theorem ok__law_right (T : Top K mg) : Pr P w K mg base 16 "_law_right" ["cup", "product"] (spD K mg true false 1 (ap1 m__law_right)) := by
  have S := sc__law_right
  exact pr_d (un := 19) T.d__law_right S (fun _ _ _ _ _ _ us hl => match us, hl with | [_, _], _ => rfl) rfl rfl (fun f cdv A outer s H E C ds hr tk po hrx hc0 hd => by
    match ds, hd with
    | [d_product], _ => exact ⟨b__law_right d_product, fun _ => rfl, w__law_right T hr tk po hrx hc0⟩) (fun z => nomatch z)
/-! turned_product -/
abbrev sD_turned_product : Stmt := top 31
theorem sc_turned_product : FnScope ["product", "line", "thing"] ["product"] (defScope sD_turned_product) := ⟨rfl, rfl, rfl, by decide +kernel, rfl, by decide +kernel, by decide +kernel⟩
noncomputable def b_turned_product (d_product : PyData) : M (Fl Unit Empty) := ((mCall (ap1 m_need_product) [(pure d_product)]) >>= fun _u3 => (sRet (mUn ptuple (mLst (oLc (iRange1 (mUn plen (pure d_product))) (fun d => pure d) (fun t1 => (pure true)) (fun t1 => (mUn ptuple (mLst (oLc (iAll (pure d_product)) (fun d => pure d) (fun t2 => (pure true)) (fun t2 => (mOp pidx (pure t2) (pure t1))))))))))))
noncomputable def m_turned_product (d_product : PyData) : M PyData := finish (b_turned_product d_product)
theorem w_turned_product (T : Top K mg) {d_product : PyData} {f : Addr} {cdv : Value} {A : Around} {outer : List Env} {s : Shared} {H : Hp} {E : XK} {C : Ct} (hr : Room 5 (A.deeper (envOfC "turned_product" (defScope sD_turned_product) s.heap.objs.size f cdv))) (tk : Takes (cxD P w K mg base ["product", "line", "thing"] "turned_product" (defScope sD_turned_product) f cdv A outer s H E) C.W) (po : PassesOwn (model P w) (cxD P w K mg base ["product", "line", "thing"] "turned_product" (defScope sD_turned_product) f cdv A outer s H E).A (cxD P w K mg base ["product", "line", "thing"] "turned_product" (defScope sD_turned_product) f cdv A outer s H E).env (cxD P w K mg base ["product", "line", "thing"] "turned_product" (defScope sD_turned_product) f cdv A outer s H E).xe) (hrx : C.rx = []) (hc0 : C.c.isSome = false) :
    FB (cxD P w K mg base ["product", "line", "thing"] "turned_product" (defScope sD_turned_product) f cdv A outer s H E) C (slots0 false [d_product] 2) (fun _ : Unit => []) (fun b : Empty => nomatch b) false (defBody sD_turned_product) (b_turned_product d_product) := by
  have S := sc_turned_product
  unfold b_turned_product
  exact (fb_expr (fe_callP (ok_need_product T) (hr.mono (by decide)) tk (wk0 hrx) (fa_cons (fe_name 0) fa_nil)) fun _u3 => (fb_ret (fe_tuple T.z_tuple (fe_of (fo_lc (own := [("thing", 2)]) rfl S.nd (fi_range1 T.z_range (fe_len T.z_len (fe_name 0))) (blkOk_by (by first | rfl | with_unfolding_all rfl)) (fun s0 H0 Ca cl fp => fg_name 2 S.nd) (fun t1 s0 H0 Ca cl fp => fts_nil) (fun t1 s0 H0 Ca cl fp => (fe_tuple T.z_tuple (fe_of (fo_lc (own := [("line", 1)]) rfl S.nd (fi_any (fe_name 0)) (blkOk_by (by first | rfl | with_unfolding_all rfl)) (fun s0 H0 Ca cl fp => fg_name 1 S.nd) (fun t2 s0 H0 Ca cl fp => fts_nil) (fun t2 s0 H0 Ca cl fp => (fe_idx (fe_name 1) (fe_name 2))))))))))))
theorem ok_turned_product (T : Top K mg) : Pr P w K mg base 6 "turned_product" ["product"] (spD K mg false false 1 (ap1 m_turned_product)) := by
  have S := sc_turned_product
  exact pr_d (un := 2) T.d_turned_product S (fun _ _ _ _ _ _ us hl => match us, hl with | [_], _ => rfl) rfl rfl (fun f cdv A outer s H E C ds hr tk po hrx hc0 hd => by
    match ds, hd with
    | [d_product], _ => exact ⟨b_turned_product d_product, fun _ => rfl, w_turned_product T hr tk po hrx hc0⟩) (fun z => nomatch z)
/-! _law_product -/
abbrev sD__law_product : Stmt := top 56
theorem sc__law_product : FnScope ["cup", "most", "many", "way", "by", "to", "found", "one", "line", "other", "any_one", "told"] ["cup", "most"] (defScope sD__law_product) := ⟨rfl, rfl, rfl, by decide +kernel, rfl, by decide +kernel, by decide +kernel⟩
noncomputable def b__law_product (d_most : PyData) : M (Fl Unit Empty) := (sPar (mOp padd (pure (.int 1)) (mCallC (ap1 m__law_roll) [(pure d_most)])) (mCallC (ap1 m__law_roll) [(pure (.int 6))]) fun x1 x2 => (sPar_3 (mCallC (ap1 m__law_roll) [(pure x1)]) (mCallC (ap1 m__law_roll) [(pure x1)]) (runs []) fun x3 x4 x5 => (sFor (τ' := List PyData) (iRange1 (pure x1)) (fun d => pure d) (fun x7 t6 => ((runs []) >>= fun xs8 => (sFor (τ' := List PyData) (iRange1 (pure x1)) (fun d => pure d) (fun x10 t9 => ((mCallC (ap1 m__law_roll) [(pure x1)]) >>= fun x11 => ((mLst (runs [(pure x11), (mOp pmod (mUn pint (mOp padd (pure x7) (pure x10))) (pure x1)), (mOp pmod (mUn pint (mOp pmul (pure x7) (pure x10))) (pure x1)), (mTwo pmin2 (pure x7) (pure x10)), (mOp pmod (mUn pint (mOp padd (mOp pmul (pure x3) (pure x7)) (mOp pmul (pure x4) (pure x10)))) (pure x1)), (pure x7)])) >>= fun x12 => (sApp (mOp pidx (pure x12) (pure x2)) t9 fun x13 => (pure (.nx (t9 ++ [x13]))))))) xs8 fun t9 => (sApp (mUn ptuple (pure (.list t9))) t6 fun x14 => (pure (.nx (t6 ++ [x14]))))))) x5 fun t6 => (sRet (mUn ptuple (pure (.list t6)))))))
noncomputable def m__law_product (d_most : PyData) : M PyData := finish (b__law_product d_most)
theorem w__law_product (T : Top K mg) {d_most : PyData} {f : Addr} {cdv : Value} {A : Around} {outer : List Env} {s : Shared} {H : Hp} {E : XK} {C : Ct} (hr : Room 1 (A.deeper (envOfC "_law_product" (defScope sD__law_product) s.heap.objs.size f cdv))) (tk : Takes (cxD P w K mg base ["cup", "most", "many", "way", "by", "to", "found", "one", "line", "other", "any_one", "told"] "_law_product" (defScope sD__law_product) f cdv A outer s H E) C.W) (po : PassesOwn (model P w) (cxD P w K mg base ["cup", "most", "many", "way", "by", "to", "found", "one", "line", "other", "any_one", "told"] "_law_product" (defScope sD__law_product) f cdv A outer s H E).A (cxD P w K mg base ["cup", "most", "many", "way", "by", "to", "found", "one", "line", "other", "any_one", "told"] "_law_product" (defScope sD__law_product) f cdv A outer s H E).env (cxD P w K mg base ["cup", "most", "many", "way", "by", "to", "found", "one", "line", "other", "any_one", "told"] "_law_product" (defScope sD__law_product) f cdv A outer s H E).xe) (hrx : C.rx = []) (hc0 : C.c.isSome = true) :
    FB (cxD P w K mg base ["cup", "most", "many", "way", "by", "to", "found", "one", "line", "other", "any_one", "told"] "_law_product" (defScope sD__law_product) f cdv A outer s H E) C (slots0 true [d_most] 10) (fun _ : Unit => []) (fun b : Empty => nomatch b) false (defBody sD__law_product) (b__law_product d_most) := by
  have S := sc__law_product
  unfold b__law_product
  exact (fb_par 2 3 rfl S.nd (by decide) (fv_d (fe_op op_addAll (padd_ok _) fe_int (fe_callPC 0 (ok__law_roll T) (hr.mono (by decide)) tk (wk0 hrx) (fa_cons (fe_name 1) fa_nil)))) (fv_d (fe_callPC 0 (ok__law_roll T) (hr.mono (by decide)) tk (wk0 hrx) (fa_cons fe_int fa_nil))) fun x1 x2 => (fb_par_3 4 5 6 rfl S.nd (by decide) (by decide) (by decide) (fv_d (fe_callPC 0 (ok__law_roll T) (hr.mono (by decide)) tk (wk0 hrx) (fa_cons (fe_name 2) fa_nil))) (fv_d (fe_callPC 0 (ok__law_roll T) (hr.mono (by decide)) tk (wk0 hrx) (fa_cons (fe_name 2) fa_nil))) (fv_o (fo_lst fa_nil (by show 0 ≤ sizeLine; decide))) fun x3 x4 x5 => (fb_for (e0 := fun t6 : List PyData => [.cup, .d d_most, .d x1, .d x2, .d x3, .d x4, .own t6, .un, .un, .un, .un, .un]) x5 po rfl (fi_range1 T.z_range (fe_name 2)) (fg_name 7 S.nd) (.keep (.keep (.keep (.keep (.keep (.keep (.keep (.drop (.drop (.drop (.drop (.drop .nil)))))))))))) (fun x7 t6 => (fb_setO 8 S.nd (fo_lst fa_nil (by show 0 ≤ sizeLine; decide)) fun xs8 => (fb_for (e0 := fun t9 : List PyData => [.cup, .d d_most, .d x1, .d x2, .d x3, .d x4, .own t6, .d x7, .own t9, .un, .un, .un]) xs8 po rfl (fi_range1 T.z_range (fe_name 2)) (fg_name 9 S.nd) (.keep (.keep (.keep (.keep (.keep (.keep (.keep (.keep (.keep (.drop (.drop (.drop .nil)))))))))))) (fun x10 t9 => (fb_set 10 S.nd (fe_callPC 0 (ok__law_roll T) (hr.mono (by decide)) tk (wk0 hrx) (fa_cons (fe_name 2) fa_nil)) fun x11 => (fb_set 11 S.nd (fe_of (fo_lst (fa_cons (fe_name 10) (fa_cons (fe_op op_mod (pmod_ok _) (fe_intOf T.z_int (fe_op op_addAll (padd_ok _) (fe_name 7) (fe_name 9))) (fe_name 2)) (fa_cons (fe_op op_mod (pmod_ok _) (fe_intOf T.z_int (fe_op op_mulAll (pmul_ok _) (fe_name 7) (fe_name 9))) (fe_name 2)) (fa_cons (fe_min2 rfl T.z_min (fe_name 7) (fe_name 9)) (fa_cons (fe_op op_mod (pmod_ok _) (fe_intOf T.z_int (fe_op op_addAll (padd_ok _) (fe_op op_mulAll (pmul_ok _) (fe_name 4) (fe_name 7)) (fe_op op_mulAll (pmul_ok _) (fe_name 5) (fe_name 9)))) (fe_name 2)) (fa_cons (fe_name 7) fa_nil)))))) (by show 6 ≤ sizeLine; decide))) fun x12 => (fb_append 8 (fe_idx (fe_name 11) (fe_name 3)) fun x13 => (fb_nil (t9 ++ [x13]) (.keep (.keep (.keep (.keep (.keep (.keep (.keep (.keep (.keep (.drop (.drop (.drop .nil))))))))))))))))) fun t9 => (fb_frz 8 (fb_append 6 (fe_tuple T.z_tuple (fe_name 8)) fun x14 => (fb_nil (t6 ++ [x14]) (.keep (.keep (.keep (.keep (.keep (.keep (.keep (.drop (.drop (.drop (.drop (.drop .nil)))))))))))))))))) fun t6 => (fb_frz 6 (fb_ret (fe_tuple T.z_tuple (fe_name 6)))))))
theorem ok__law_product (T : Top K mg) : Pr P w K mg base 2 "_law_product" ["cup", "most"] (spD K mg true false 1 (ap1 m__law_product)) := by
  have S := sc__law_product
  exact pr_d (un := 10) T.d__law_product S (fun _ _ _ _ _ _ us hl => match us, hl with | [_, _], _ => rfl) rfl rfl (fun f cdv A outer s H E C ds hr tk po hrx hc0 hd => by
    match ds, hd with
    | [d_most], _ => exact ⟨b__law_product d_most, fun _ => rfl, w__law_product T hr tk po hrx hc0⟩) (fun z => nomatch z)
/-! _law_is_word -/
abbrev sD__law_is_word : Stmt := top 61
theorem sc__law_is_word : FnScope ["value", "letter"] ["value"] (defScope sD__law_is_word) := ⟨rfl, rfl, rfl, by decide +kernel, rfl, by decide +kernel, by decide +kernel⟩
noncomputable def b__law_is_word (d_value : PyData) : M (Fl Unit Empty) := (sRet (mAnd (mUn (pisT "str") (pure d_value)) (mAnd (mChain ple ple (pure (.int 1)) (mUn plen (pure d_value)) (pure (.int 40))) (mOp peq (mLst (oLc (iAll (pure d_value)) (fun d => pure d) (fun t1 => (tCmp pnin (pure t1) (pure (.str "ab")))) (fun t1 => (pure t1)))) (mLst (runs []))))))
noncomputable def m__law_is_word (d_value : PyData) : M PyData := finish (b__law_is_word d_value)
theorem w__law_is_word (T : Top K mg) {d_value : PyData} {f : Addr} {cdv : Value} {A : Around} {outer : List Env} {s : Shared} {H : Hp} {E : XK} {C : Ct} (hr : Room 0 (A.deeper (envOfC "_law_is_word" (defScope sD__law_is_word) s.heap.objs.size f cdv))) (tk : Takes (cxD P w K mg base ["value", "letter"] "_law_is_word" (defScope sD__law_is_word) f cdv A outer s H E) C.W) (po : PassesOwn (model P w) (cxD P w K mg base ["value", "letter"] "_law_is_word" (defScope sD__law_is_word) f cdv A outer s H E).A (cxD P w K mg base ["value", "letter"] "_law_is_word" (defScope sD__law_is_word) f cdv A outer s H E).env (cxD P w K mg base ["value", "letter"] "_law_is_word" (defScope sD__law_is_word) f cdv A outer s H E).xe) (hrx : C.rx = []) (hc0 : C.c.isSome = false) :
    FB (cxD P w K mg base ["value", "letter"] "_law_is_word" (defScope sD__law_is_word) f cdv A outer s H E) C (slots0 false [d_value] 1) (fun _ : Unit => []) (fun b : Empty => nomatch b) false (defBody sD__law_is_word) (b__law_is_word d_value) := by
  have S := sc__law_is_word
  unfold b__law_is_word
  exact (fb_ret (fe_and (fe_isinst "str" (.inr (.inr (.inl rfl))) T.z_isinstance T.z_str (by decide +kernel) (fe_name 0)) (fe_and (fe_chain op_le op_le (pcmp_ok _ _) (pcmp_ok _ _) fe_int (fe_len T.z_len (fe_name 0)) fe_int) (fe_one (fe_cmp (op_eqP (hu64 hr)) (peq_ok _) (nomark _) (fe_of (fo_lc (own := [("letter", 1)]) rfl S.nd (fi_any (fe_name 0)) (blkOk_by (by first | rfl | with_unfolding_all rfl)) (fun s0 H0 Ca cl fp => fg_name 1 S.nd) (fun t1 s0 H0 Ca cl fp => (fts_one (ft_cmp (op_ninP (hu64 hr)) (pnin_ok _) (by with_unfolding_all rfl) (fe_name 1) fe_str))) (fun t1 s0 H0 Ca cl fp => (fe_name 1)))) (fe_of (fo_lst fa_nil (by show 0 ≤ sizeLine; decide))))))))
theorem ok__law_is_word (T : Top K mg) : Pr P w K mg base 1 "_law_is_word" ["value"] (spD K mg false false 1 (ap1 m__law_is_word)) := by
  have S := sc__law_is_word
  exact pr_d (un := 1) T.d__law_is_word S (fun _ _ _ _ _ _ us hl => match us, hl with | [_], _ => rfl) rfl rfl (fun f cdv A outer s H E C ds hr tk po hrx hc0 hd => by
    match ds, hd with
    | [d_value], _ => exact ⟨b__law_is_word d_value, fun _ => rfl, w__law_is_word T hr tk po hrx hc0⟩) (fun z => nomatch z)
/-! law -/
abbrev sD_law : Stmt := top 64
theorem sc_law : FnScope ["script", "cup", "group", "left", "told", "most", "value", "many", "word", "rests", "first", "pair", "due", "other", "one"] ["script"] (defScope sD_law) := ⟨rfl, rfl, rfl, by decide +kernel, rfl, by decide +kernel, by decide +kernel⟩
noncomputable def b_law (d_script : PyData) : M (Fl Unit Empty) := (sNewCup (oCall (ap1 m__law_cup) [(pure d_script)]) fun cs1 => (sPar (mTup [(mTup [(pure (.int 0)), (pure (.int 1))]), (mTup [(pure (.int 1)), (pure (.int 0))])]) (mTup [(mTup [(pure (.int 0)), (pure (.int 0))]), (mTup [(pure (.int 1)), (pure (.int 1))])]) fun x3 x4 => ((mLst (runs [(mCall (ap1 m_is_letter_word) [(pure (.str "abba"))]), (mCall (ap1 m_is_letter_word) [(pure (.str ""))]), (mCall (ap3 m_word_worth) [(pure x3), (pure (.str "abb")), (mTup [(pure (.int 0)), (pure (.int 1))])]), (mCall (ap2 m_word_row) [(pure x3), (pure (.str "ab"))]), (mCall (ap2 m_word_row) [(pure x4), (pure (.str "ab"))])])) >>= fun x5 => ((mOp padd (pure x5) (mLst (runs [(mCall (ap3 m_do_words_agree) [(pure x4), (pure (.str "ab")), (pure (.str "abb"))]), (mCall (ap3 m_word_counter) [(pure x3), (pure (.str "a")), (pure (.str "b"))]), (mCall (ap3 m_word_counter) [(pure x3), (pure (.str "ab")), (pure (.str "ba"))])]))) >>= fun x6 => ((mOp padd (pure x6) (mLst (runs [(mCall (ap4 m_is_word_counter) [(pure x3), (pure (.str "a")), (pure (.str "aa")), (mTup [(pure (.int 1)), (pure (.int 0))])]), (mCall (ap4 m_is_word_counter) [(pure x3), (pure (.str "a")), (pure (.str "aa")), (mTup [(pure (.int 0)), (pure (.int 1))])])]))) >>= fun x7 => (sIfR (tNo (tVal (mCall (ap2 (m__law_like 12)) [(pure x7), (mLst (runs [(pure (.bool true)), (pure (.bool false)), (pure (.int 0)), (mTup [(pure (.int 0)), (pure (.int 1)), (pure (.int 1)), (pure (.int 0))]), (mTup [(pure (.int 0)), (pure (.int 0)), (pure (.int 1)), (pure (.int 1))]), (pure (.bool true)), (mTup [(pure (.int 0)), (pure (.int 1))]), (pure .none), (pure (.bool true)), (pure (.bool false))]))]))) (sRet (pure (.bool false))) (sFor (τ' := Unit) (iAll (mTup [(pure (.int 2)), (pure (.int 3)), (pure (.int 5)), (pure (.int 8))])) (fun d => pure d) (fun x9 t8 => (sIfR (tNo (tVal (mCallC (ap1 m__law_right) [(mCallC (ap1 m__law_product) [(pure x9)])]))) (sRet (pure (.bool false))) (pure (.nx ())))) () fun t8 => (sFor (τ' := Unit) (iAll (mLst (runs [(pure (.str "a")), (pure (.str "b")), (pure (.str "")), (pure (.str "abba")), (pure (.str "abc")), (pure (.str "A")), (pure (.str "a b")), (mOp pmul (pure (.str "ab")) (pure (.int 20))), (mOp padd (mOp pmul (pure (.str "ab")) (pure (.int 20))) (pure (.str "a"))), (pure .none), (pure (.int 5)), (mTup []), (mTup [(pure (.str "a"))]), (mLst (runs [(pure (.str "a"))])), (pure (.bool true)), (mCallC (ap1 m__law_word) [(pure (.int 40))])]))) (fun d => pure d) (fun x11 t10 => (sIfR (tNo (tVal (mCall (ap2 (m__law_like 12)) [(mCall (ap1 m_is_letter_word) [(pure x11)]), (mCall (ap1 m__law_is_word) [(pure x11)])]))) (sRet (pure (.bool false))) (pure (.nx ())))) () fun t10 => (sPar (mOp padd (pure (.int 1)) (mCallC (ap1 m__law_roll) [(pure (.int 8))])) (mCallC (ap1 m__law_word) [(pure (.int 40))]) fun x12 x13 => ((mUn ptuple (mLst (oLc (iRange1 (pure x12)) (fun d => pure d) (fun t14 => (pure true)) (fun t14 => (mUn ptuple (mLst (oLc (iRange1 (pure x12)) (fun d => pure d) (fun t15 => (pure true)) (fun t15 => (mOp pmod (mUn pint (mOp padd (pure t14) (pure t15))) (pure x12)))))))))) >>= fun x16 => ((mUn ptuple (mLst (oLc (iRange1 (pure x12)) (fun d => pure d) (fun t17 => (pure true)) (fun t17 => (mOp pmul (mTup [(pure t17)]) (pure x12)))))) >>= fun x18 => ((mTup [(mCallC (ap1 m__law_roll) [(pure x12)]), (mCallC (ap1 m__law_roll) [(pure x12)])]) >>= fun x19 => ((mOp pmod (mUn pint (mOp padd (mOp pmul (mStr pcountS (pure x13) (pure (.str "a"))) (mOp pidx (pure x19) (pure (.int 0)))) (mOp pmul (mStr pcountS (pure x13) (pure (.str "b"))) (mOp pidx (pure x19) (pure (.int 1)))))) (pure x12)) >>= fun x20 => ((mLst (runs [(mCall (ap3 m_word_worth) [(pure x16), (pure x13), (pure x19)]), (mCall (ap3 m_word_worth) [(pure x18), (pure x13), (pure x19)]), (mCall (ap3 m_word_worth) [(mCall (ap1 m_turned_product) [(pure x18)]), (pure x13), (pure x19)])])) >>= fun x21 => (sRet (mCall (ap2 (m__law_like 12)) [(pure x21), (mLst (runs [(pure x20), (mIf (tCmp peq (mOp pidx (pure x13) (pure (.int 0))) (pure (.str "a"))) (mOp pidx (pure x19) (pure (.int 0))) (mOp pidx (pure x19) (pure (.int 1)))), (mIf (tCmp peq (mOp pidx (pure x13) (mUn pneg (pure (.int 1)))) (pure (.str "a"))) (mOp pidx (pure x19) (pure (.int 0))) (mOp pidx (pure x19) (pure (.int 1))))]))]))))))))))))))))
noncomputable def m_law (d_script : PyData) : M PyData := finish (b_law d_script)
theorem w_law (T : Top K mg) {d_script : PyData} {f : Addr} {cdv : Value} {A : Around} {outer : List Env} {s : Shared} {H : Hp} {E : XK} {C : Ct} (hr : Room 16 (A.deeper (envOfC "law" (defScope sD_law) s.heap.objs.size f cdv))) (tk : Takes (cxD P w K mg base ["script", "cup", "group", "left", "told", "most", "value", "many", "word", "rests", "first", "pair", "due", "other", "one"] "law" (defScope sD_law) f cdv A outer s H E) C.W) (po : PassesOwn (model P w) (cxD P w K mg base ["script", "cup", "group", "left", "told", "most", "value", "many", "word", "rests", "first", "pair", "due", "other", "one"] "law" (defScope sD_law) f cdv A outer s H E).A (cxD P w K mg base ["script", "cup", "group", "left", "told", "most", "value", "many", "word", "rests", "first", "pair", "due", "other", "one"] "law" (defScope sD_law) f cdv A outer s H E).env (cxD P w K mg base ["script", "cup", "group", "left", "told", "most", "value", "many", "word", "rests", "first", "pair", "due", "other", "one"] "law" (defScope sD_law) f cdv A outer s H E).xe) (hrx : C.rx = []) (hc0 : C.c.isSome = false) :
    FB (cxD P w K mg base ["script", "cup", "group", "left", "told", "most", "value", "many", "word", "rests", "first", "pair", "due", "other", "one"] "law" (defScope sD_law) f cdv A outer s H E) C (slots0 false [d_script] 14) (fun _ : Unit => []) (fun b : Empty => nomatch b) false (defBody sD_law) (b_law d_script) := by
  have S := sc_law
  have hc0 := Option.isNone_iff_eq_none.mp (by simpa using hc0)
  unfold b_law
  exact (fb_newcup 1 (fun _ => rfl) hc0 hrx (noCup_of rfl) S.nd (fo_callP (ok__law_cup T) (hr.mono (by decide)) tk (wk0 hrx) (fa_cons (fe_name 0) fa_nil)) fun a2 cs1 => (fb_tup 2 3 rfl S.nd (by decide) (fv_d (fe_tup (fa_cons (fe_tup (fa_cons fe_int (fa_cons fe_int fa_nil)) (by show 2 ≤ sizeLine; decide)) (fa_cons (fe_tup (fa_cons fe_int (fa_cons fe_int fa_nil)) (by show 2 ≤ sizeLine; decide)) fa_nil)) (by show 2 ≤ sizeLine; decide))) (fv_d (fe_tup (fa_cons (fe_tup (fa_cons fe_int (fa_cons fe_int fa_nil)) (by show 2 ≤ sizeLine; decide)) (fa_cons (fe_tup (fa_cons fe_int (fa_cons fe_int fa_nil)) (by show 2 ≤ sizeLine; decide)) fa_nil)) (by show 2 ≤ sizeLine; decide))) fun x3 x4 => (fb_set 4 S.nd (fe_of (fo_lst (fa_cons (fe_callP (ok_is_letter_word T) (hr.mono (by decide)) tk (wk0 hrx) (fa_cons fe_str fa_nil)) (fa_cons (fe_callP (ok_is_letter_word T) (hr.mono (by decide)) tk (wk0 hrx) (fa_cons fe_str fa_nil)) (fa_cons (fe_callP (ok_word_worth T) (hr.mono (by decide)) tk (wk0 hrx) (fa_cons (fe_name 2) (fa_cons fe_str (fa_cons (fe_tup (fa_cons fe_int (fa_cons fe_int fa_nil)) (by show 2 ≤ sizeLine; decide)) fa_nil)))) (fa_cons (fe_callP (ok_word_row T) (hr.mono (by decide)) tk (wk0 hrx) (fa_cons (fe_name 2) (fa_cons fe_str fa_nil))) (fa_cons (fe_callP (ok_word_row T) (hr.mono (by decide)) tk (wk0 hrx) (fa_cons (fe_name 3) (fa_cons fe_str fa_nil))) fa_nil))))) (by show 5 ≤ sizeLine; decide))) fun x5 => (fb_set 4 S.nd (fe_op op_addAll (padd_ok _) (fe_name 4) (fe_of (fo_lst (fa_cons (fe_callP (ok_do_words_agree T) (hr.mono (by decide)) tk (wk0 hrx) (fa_cons (fe_name 3) (fa_cons fe_str (fa_cons fe_str fa_nil)))) (fa_cons (fe_callP (ok_word_counter T) (hr.mono (by decide)) tk (wk0 hrx) (fa_cons (fe_name 2) (fa_cons fe_str (fa_cons fe_str fa_nil)))) (fa_cons (fe_callP (ok_word_counter T) (hr.mono (by decide)) tk (wk0 hrx) (fa_cons (fe_name 2) (fa_cons fe_str (fa_cons fe_str fa_nil)))) fa_nil))) (by show 3 ≤ sizeLine; decide)))) fun x6 => (fb_set 4 S.nd (fe_op op_addAll (padd_ok _) (fe_name 4) (fe_of (fo_lst (fa_cons (fe_callP (ok_is_word_counter T) (hr.mono (by decide)) tk (wk0 hrx) (fa_cons (fe_name 2) (fa_cons fe_str (fa_cons fe_str (fa_cons (fe_tup (fa_cons fe_int (fa_cons fe_int fa_nil)) (by show 2 ≤ sizeLine; decide)) fa_nil))))) (fa_cons (fe_callP (ok_is_word_counter T) (hr.mono (by decide)) tk (wk0 hrx) (fa_cons (fe_name 2) (fa_cons fe_str (fa_cons fe_str (fa_cons (fe_tup (fa_cons fe_int (fa_cons fe_int fa_nil)) (by show 2 ≤ sizeLine; decide)) fa_nil))))) fa_nil)) (by show 2 ≤ sizeLine; decide)))) fun x7 => (fb_ifR (emb0 := fun z : Empty => nomatch z) (ft_not (ft_val (fe_callP (ok__law_like T 12) (hr.mono (by decide)) tk (wk0 hrx) (fa_cons (fe_name 4) (fa_cons (fe_of (fo_lst (fa_cons fe_bl (fa_cons fe_bl (fa_cons fe_int (fa_cons (fe_tup (fa_cons fe_int (fa_cons fe_int (fa_cons fe_int (fa_cons fe_int fa_nil)))) (by show 4 ≤ sizeLine; decide)) (fa_cons (fe_tup (fa_cons fe_int (fa_cons fe_int (fa_cons fe_int (fa_cons fe_int fa_nil)))) (by show 4 ≤ sizeLine; decide)) (fa_cons fe_bl (fa_cons (fe_tup (fa_cons fe_int (fa_cons fe_int fa_nil)) (by show 2 ≤ sizeLine; decide)) (fa_cons fe_non (fa_cons fe_bl (fa_cons fe_bl fa_nil)))))))))) (by show 10 ≤ sizeLine; decide))) fa_nil))))) (fb_ret fe_bl) (fb_for (e0 := fun t8 : Unit => [.d d_script, .cup, .d x3, .d x4, .d x7, .un, .un, .un, .un, .un, .un, .un, .un, .un, .un]) () po rfl (fi_any (fe_tup (fa_cons fe_int (fa_cons fe_int (fa_cons fe_int (fa_cons fe_int fa_nil)))) (by show 4 ≤ sizeLine; decide))) (fg_name 5 S.nd) (.keep (.keep (.keep (.keep (.keep (.drop (.drop (.drop (.drop (.drop (.drop (.drop (.drop (.drop (.drop .nil))))))))))))))) (fun x9 t8 => (fb_ifR (emb0 := fun z : Empty => nomatch z) (ft_not (ft_val (fe_callPC 1 (ok__law_right T) (hr.mono (by decide)) tk (wk0 hrx) (fa_cons (fe_callPC 1 (ok__law_product T) (hr.mono (by decide)) tk (wk0 hrx) (fa_cons (fe_name 5) fa_nil)) fa_nil)))) (fb_ret fe_bl) (fb_nil () (.keep (.keep (.keep (.keep (.keep (.drop (.drop (.drop (.drop (.drop (.drop (.drop (.drop (.drop (.drop .nil)))))))))))))))))) fun t8 => (fb_for (e0 := fun t10 : Unit => [.d d_script, .cup, .d x3, .d x4, .d x7, .un, .un, .un, .un, .un, .un, .un, .un, .un, .un]) () po rfl (fi_any (fe_of (fo_lst (fa_cons fe_str (fa_cons fe_str (fa_cons fe_str (fa_cons fe_str (fa_cons fe_str (fa_cons fe_str (fa_cons fe_str (fa_cons (fe_op op_mulAll (pmul_ok _) fe_str fe_int) (fa_cons (fe_op op_addAll (padd_ok _) (fe_op op_mulAll (pmul_ok _) fe_str fe_int) fe_str) (fa_cons fe_non (fa_cons fe_int (fa_cons (fe_tup fa_nil (by show 0 ≤ sizeLine; decide)) (fa_cons (fe_tup (fa_cons fe_str fa_nil) (by show 1 ≤ sizeLine; decide)) (fa_cons (fe_of (fo_lst (fa_cons fe_str fa_nil) (by show 1 ≤ sizeLine; decide))) (fa_cons fe_bl (fa_cons (fe_callPC 1 (ok__law_word T) (hr.mono (by decide)) tk (wk0 hrx) (fa_cons fe_int fa_nil)) fa_nil)))))))))))))))) (by show 16 ≤ sizeLine; decide)))) (fg_name 6 S.nd) (.keep (.keep (.keep (.keep (.keep (.drop (.drop (.drop (.drop (.drop (.drop (.drop (.drop (.drop (.drop .nil))))))))))))))) (fun x11 t10 => (fb_ifR (emb0 := fun z : Empty => nomatch z) (ft_not (ft_val (fe_callP (ok__law_like T 12) (hr.mono (by decide)) tk (wk0 hrx) (fa_cons (fe_callP (ok_is_letter_word T) (hr.mono (by decide)) tk (wk0 hrx) (fa_cons (fe_name 6) fa_nil)) (fa_cons (fe_callP (ok__law_is_word T) (hr.mono (by decide)) tk (wk0 hrx) (fa_cons (fe_name 6) fa_nil)) fa_nil))))) (fb_ret fe_bl) (fb_nil () (.keep (.keep (.keep (.keep (.keep (.drop (.drop (.drop (.drop (.drop (.drop (.drop (.drop (.drop (.drop .nil)))))))))))))))))) fun t10 => (fb_tup 7 8 rfl S.nd (by decide) (fv_d (fe_op op_addAll (padd_ok _) fe_int (fe_callPC 1 (ok__law_roll T) (hr.mono (by decide)) tk (wk0 hrx) (fa_cons fe_int fa_nil)))) (fv_d (fe_callPC 1 (ok__law_word T) (hr.mono (by decide)) tk (wk0 hrx) (fa_cons fe_int fa_nil))) fun x12 x13 => (fb_set 9 S.nd (fe_tuple T.z_tuple (fe_of (fo_lc (own := [("one", 14)]) rfl S.nd (fi_range1 T.z_range (fe_name 7)) (blkOk_by (by first | rfl | with_unfolding_all rfl)) (fun s0 H0 Ca cl fp => fg_name 14 S.nd) (fun t14 s0 H0 Ca cl fp => fts_nil) (fun t14 s0 H0 Ca cl fp => (fe_tuple T.z_tuple (fe_of (fo_lc (own := [("other", 13)]) rfl S.nd (fi_range1 T.z_range (fe_name 7)) (blkOk_by (by first | rfl | with_unfolding_all rfl)) (fun s0 H0 Ca cl fp => fg_name 13 S.nd) (fun t15 s0 H0 Ca cl fp => fts_nil) (fun t15 s0 H0 Ca cl fp => (fe_op op_mod (pmod_ok _) (fe_intOf T.z_int (fe_op op_addAll (padd_ok _) (fe_name 14) (fe_name 13))) (fe_name 7)))))))))) fun x16 => (fb_set 10 S.nd (fe_tuple T.z_tuple (fe_of (fo_lc (own := [("one", 14)]) rfl S.nd (fi_range1 T.z_range (fe_name 7)) (blkOk_by (by first | rfl | with_unfolding_all rfl)) (fun s0 H0 Ca cl fp => fg_name 14 S.nd) (fun t17 s0 H0 Ca cl fp => fts_nil) (fun t17 s0 H0 Ca cl fp => (fe_op op_mulAll (pmul_ok _) (fe_tup (fa_cons (fe_name 14) fa_nil) (by show 1 ≤ sizeLine; decide)) (fe_name 7)))))) fun x18 => (fb_set 11 S.nd (fe_tup (fa_cons (fe_callPC 1 (ok__law_roll T) (hr.mono (by decide)) tk (wk0 hrx) (fa_cons (fe_name 7) fa_nil)) (fa_cons (fe_callPC 1 (ok__law_roll T) (hr.mono (by decide)) tk (wk0 hrx) (fa_cons (fe_name 7) fa_nil)) fa_nil)) (by show 2 ≤ sizeLine; decide)) fun x19 => (fb_set 12 S.nd (fe_op op_mod (pmod_ok _) (fe_intOf T.z_int (fe_op op_addAll (padd_ok _) (fe_op op_mulAll (pmul_ok _) (fe_countS (fe_name 8) fe_str) (fe_idx (fe_name 11) fe_int)) (fe_op op_mulAll (pmul_ok _) (fe_countS (fe_name 8) fe_str) (fe_idx (fe_name 11) fe_int)))) (fe_name 7)) fun x20 => (fb_set 4 S.nd (fe_of (fo_lst (fa_cons (fe_callP (ok_word_worth T) (hr.mono (by decide)) tk (wk0 hrx) (fa_cons (fe_name 9) (fa_cons (fe_name 8) (fa_cons (fe_name 11) fa_nil)))) (fa_cons (fe_callP (ok_word_worth T) (hr.mono (by decide)) tk (wk0 hrx) (fa_cons (fe_name 10) (fa_cons (fe_name 8) (fa_cons (fe_name 11) fa_nil)))) (fa_cons (fe_callP (ok_word_worth T) (hr.mono (by decide)) tk (wk0 hrx) (fa_cons (fe_callP (ok_turned_product T) (hr.mono (by decide)) tk (wk0 hrx) (fa_cons (fe_name 10) fa_nil)) (fa_cons (fe_name 8) (fa_cons (fe_name 11) fa_nil)))) fa_nil))) (by show 3 ≤ sizeLine; decide))) fun x21 => (fb_ret (fe_callP (ok__law_like T 12) (hr.mono (by decide)) tk (wk0 hrx) (fa_cons (fe_name 4) (fa_cons (fe_of (fo_lst (fa_cons (fe_name 12) (fa_cons (fe_ifExp (ft_cmp (op_eqP (hu64 hr)) (peq_ok _) (nomark _) (fe_idx (fe_name 8) fe_int) fe_str) (fe_idx (fe_name 11) fe_int) (fe_idx (fe_name 11) fe_int)) (fa_cons (fe_ifExp (ft_cmp (op_eqP (hu64 hr)) (peq_ok _) (nomark _) (fe_idx (fe_name 8) (fe_un un_neg (pneg_ok _) fe_int)) fe_str) (fe_idx (fe_name 11) fe_int) (fe_idx (fe_name 11) fe_int)) fa_nil))) (by show 3 ≤ sizeLine; decide))) fa_nil))))))))))))))))))
theorem ok_law (T : Top K mg) : Pr P w K mg base 17 "law" ["script"] (spD K mg false false 1 (ap1 m_law)) := by
  have S := sc_law
  exact pr_d (un := 14) T.d_law S (fun _ _ _ _ _ _ us hl => match us, hl with | [_], _ => rfl) rfl rfl (fun f cdv A outer s H E C ds hr tk po hrx hc0 hd => by
    match ds, hd with
    | [d_script], _ => exact ⟨b_law d_script, fun _ => rfl, w_law T hr tk po hrx hc0⟩) (fun z => nomatch z)
theorem top_mk {h : Heap} (X : K.In h) (G : h.Ns mainGlobals mg) {f0 : Addr} {oc0 kv0 dc0 pm0 cd0 ct0 : Value} {od0 an0 : Option Addr} {sl0 : Array (Option Value)} {f1 : Addr} {oc1 kv1 dc1 pm1 cd1 ct1 : Value} {od1 an1 : Option Addr} {sl1 : Array (Option Value)} {f2 : Addr} {oc2 kv2 dc2 pm2 cd2 ct2 : Value} {od2 an2 : Option Addr} {sl2 : Array (Option Value)} {f3 : Addr} {oc3 kv3 dc3 pm3 cd3 ct3 : Value} {od3 an3 : Option Addr} {sl3 : Array (Option Value)} {f4 : Addr} {oc4 kv4 dc4 pm4 cd4 ct4 : Value} {od4 an4 : Option Addr} {sl4 : Array (Option Value)} {f5 : Addr} {oc5 kv5 dc5 pm5 cd5 ct5 : Value} {od5 an5 : Option Addr} {sl5 : Array (Option Value)} {f6 : Addr} {oc6 kv6 dc6 pm6 cd6 ct6 : Value} {od6 an6 : Option Addr} {sl6 : Array (Option Value)} {f7 : Addr} {oc7 kv7 dc7 pm7 cd7 ct7 : Value} {od7 an7 : Option Addr} {sl7 : Array (Option Value)} {f8 : Addr} {oc8 kv8 dc8 pm8 cd8 ct8 : Value} {od8 an8 : Option Addr} {sl8 : Array (Option Value)} {f9 : Addr} {oc9 kv9 dc9 pm9 cd9 ct9 : Value} {od9 an9 : Option Addr} {sl9 : Array (Option Value)} {f10 : Addr} {oc10 kv10 dc10 pm10 cd10 ct10 : Value} {od10 an10 : Option Addr} {sl10 : Array (Option Value)} {f11 : Addr} {oc11 kv11 dc11 pm11 cd11 ct11 : Value} {od11 an11 : Option Addr} {sl11 : Array (Option Value)} {f12 : Addr} {oc12 kv12 dc12 pm12 cd12 ct12 : Value} {od12 an12 : Option Addr} {sl12 : Array (Option Value)} {f13 : Addr} {oc13 kv13 dc13 pm13 cd13 ct13 : Value} {od13 an13 : Option Addr} {sl13 : Array (Option Value)} {f14 : Addr} {oc14 kv14 dc14 pm14 cd14 ct14 : Value} {od14 an14 : Option Addr} {sl14 : Array (Option Value)} {f15 : Addr} {oc15 kv15 dc15 pm15 cd15 ct15 : Value} {od15 an15 : Option Addr} {sl15 : Array (Option Value)} {f16 : Addr} {oc16 kv16 dc16 pm16 cd16 ct16 : Value} {od16 an16 : Option Addr} {sl16 : Array (Option Value)} {f17 : Addr} {oc17 kv17 dc17 pm17 cd17 ct17 : Value} {od17 an17 : Option Addr} {sl17 : Array (Option Value)} {f18 : Addr} {oc18 kv18 dc18 pm18 cd18 ct18 : Value} {od18 an18 : Option Addr} {sl18 : Array (Option Value)} {f19 : Addr} {oc19 kv19 dc19 pm19 cd19 ct19 : Value} {od19 an19 : Option Addr} {sl19 : Array (Option Value)} {f20 : Addr} {oc20 kv20 dc20 pm20 cd20 ct20 : Value} {od20 an20 : Option Addr} {sl20 : Array (Option Value)} {f21 : Addr} {oc21 kv21 dc21 pm21 cd21 ct21 : Value} {od21 an21 : Option Addr} {sl21 : Array (Option Value)} {f22 : Addr} {oc22 kv22 dc22 pm22 cd22 ct22 : Value} {od22 an22 : Option Addr} {sl22 : Array (Option Value)} {f23 : Addr} {oc23 kv23 dc23 pm23 cd23 ct23 : Value} {od23 an23 : Option Addr} {sl23 : Array (Option Value)} {f24 : Addr} {oc24 kv24 dc24 pm24 cd24 ct24 : Value} {od24 an24 : Option Addr} {sl24 : Array (Option Value)} {f25 : Addr} {oc25 kv25 dc25 pm25 cd25 ct25 : Value} {od25 an25 : Option Addr} {sl25 : Array (Option Value)} {f26 : Addr} {oc26 kv26 dc26 pm26 cd26 ct26 : Value} {od26 an26 : Option Addr} {sl26 : Array (Option Value)} {f27 : Addr} {oc27 kv27 dc27 pm27 cd27 ct27 : Value} {od27 an27 : Option Addr} {sl27 : Array (Option Value)} {f28 : Addr} {oc28 kv28 dc28 pm28 cd28 ct28 : Value} {od28 an28 : Option Addr} {sl28 : Array (Option Value)} {f29 : Addr} {oc29 kv29 dc29 pm29 cd29 ct29 : Value} {od29 an29 : Option Addr} {sl29 : Array (Option Value)} {f30 : Addr} {oc30 kv30 dc30 pm30 cd30 ct30 : Value} {od30 an30 : Option Addr} {sl30 : Array (Option Value)} {f31 : Addr} {oc31 kv31 dc31 pm31 cd31 ct31 : Value} {od31 an31 : Option Addr} {sl31 : Array (Option Value)} {f32 : Addr} {oc32 kv32 dc32 pm32 cd32 ct32 : Value} {od32 an32 : Option Addr} {sl32 : Array (Option Value)} {f33 : Addr} {oc33 kv33 dc33 pm33 cd33 ct33 : Value} {od33 an33 : Option Addr} {sl33 : Array (Option Value)} {f34 : Addr} {oc34 kv34 dc34 pm34 cd34 ct34 : Value} {od34 an34 : Option Addr} {sl34 : Array (Option Value)} {f35 : Addr} {oc35 kv35 dc35 pm35 cd35 ct35 : Value} {od35 an35 : Option Addr} {sl35 : Array (Option Value)} {f36 : Addr} {oc36 kv36 dc36 pm36 cd36 ct36 : Value} {od36 an36 : Option Addr} {sl36 : Array (Option Value)} {f37 : Addr} {oc37 kv37 dc37 pm37 cd37 ct37 : Value} {od37 an37 : Option Addr} {sl37 : Array (Option Value)} {f38 : Addr} {oc38 kv38 dc38 pm38 cd38 ct38 : Value} {od38 an38 : Option Addr} {sl38 : Array (Option Value)} {f39 : Addr} {oc39 kv39 dc39 pm39 cd39 ct39 : Value} {od39 an39 : Option Addr} {sl39 : Array (Option Value)} {f40 : Addr} {oc40 kv40 dc40 pm40 cd40 ct40 : Value} {od40 an40 : Option Addr} {sl40 : Array (Option Value)} {f41 : Addr} {oc41 kv41 dc41 pm41 cd41 ct41 : Value} {od41 an41 : Option Addr} {sl41 : Array (Option Value)} {f42 : Addr} {oc42 kv42 dc42 pm42 cd42 ct42 : Value} {od42 an42 : Option Addr} {sl42 : Array (Option Value)} {f43 : Addr} {oc43 kv43 dc43 pm43 cd43 ct43 : Value} {od43 an43 : Option Addr} {sl43 : Array (Option Value)} {f44 : Addr} {oc44 kv44 dc44 pm44 cd44 ct44 : Value} {od44 an44 : Option Addr} {sl44 : Array (Option Value)} {f45 : Addr} {oc45 kv45 dc45 pm45 cd45 ct45 : Value} {od45 an45 : Option Addr} {sl45 : Array (Option Value)} {f46 : Addr} {oc46 kv46 dc46 pm46 cd46 ct46 : Value} {od46 an46 : Option Addr} {sl46 : Array (Option Value)} {f47 : Addr} {oc47 kv47 dc47 pm47 cd47 ct47 : Value} {od47 an47 : Option Addr} {sl47 : Array (Option Value)} {f48 : Addr} {oc48 kv48 dc48 pm48 cd48 ct48 : Value} {od48 an48 : Option Addr} {sl48 : Array (Option Value)} {t_LETTERS_leftwords : Tok} {t_LONGEST : Tok} {t_MOST : Tok} {t_MOST_LETTERS : Tok} {t_TIMES : Tok} {t_LETTERS_basics : Addr} {n_LETTERS_basics : Nat} {s_LETTERS_basics : Array (Option Value)} {u_LETTERS_basics0 : Tok} {u_LETTERS_basics1 : Tok} {u_LETTERS_basics2 : Tok} {u_LETTERS_basics3 : Tok}
  (a0 : PySem.W.nsIn K mainGlobals "_law_cup" = some (some (.ref f0)))
  (l0 : K.lookup f0 = some ⟨oc0, od0, .func (PySem.W.fnOf "_law_cup" "_law_cup" (defArgs (top 51)) (defBody (top 51)) (defScope (top 51)) .none kv0 dc0 pm0 an0 cd0 ct0), sl0⟩)
  (c0 : PySem.W.codeIn K cd0 "_law_cup" = true)
  (k0 : PySem.W.keepIn K (.ref f0) = true)
  (a1 : PySem.W.nsIn K mainGlobals "_law_sort" = some (some (.ref f1)))
  (l1 : K.lookup f1 = some ⟨oc1, od1, .func (PySem.W.fnOf "_law_sort" "_law_sort" (defArgs (top 54)) (defBody (top 54)) (defScope (top 54)) .none kv1 dc1 pm1 an1 cd1 ct1), sl1⟩)
  (c1 : PySem.W.codeIn K cd1 "_law_sort" = true)
  (k1 : PySem.W.keepIn K (.ref f1) = true)
  (a2 : PySem.W.nsIn K mainGlobals "_law_like" = some (some (.ref f2)))
  (l2 : K.lookup f2 = some ⟨oc2, od2, .func (PySem.W.fnOf "_law_like" "_law_like" (defArgs (top 55)) (defBody (top 55)) (defScope (top 55)) .none kv2 dc2 pm2 an2 cd2 ct2), sl2⟩)
  (c2 : PySem.W.codeIn K cd2 "_law_like" = true)
  (k2 : PySem.W.keepIn K (.ref f2) = true)
  (a3 : PySem.W.nsIn K mainGlobals "is_word" = some (some (.ref f3)))
  (l3 : K.lookup f3 = some ⟨oc3, od3, .func (PySem.W.fnOf "is_word" "is_word" (defArgs (top 15)) (defBody (top 15)) (defScope (top 15)) .none kv3 dc3 pm3 an3 cd3 ct3), sl3⟩)
  (c3 : PySem.W.codeIn K cd3 "is_word" = true)
  (k3 : PySem.W.keepIn K (.ref f3) = true)
  (a4 : PySem.W.nsIn K mainGlobals "is_letter_word" = some (some (.ref f4)))
  (l4 : K.lookup f4 = some ⟨oc4, od4, .func (PySem.W.fnOf "is_letter_word" "is_letter_word" (defArgs (top 44)) (defBody (top 44)) (defScope (top 44)) .none kv4 dc4 pm4 an4 cd4 ct4), sl4⟩)
  (c4 : PySem.W.codeIn K cd4 "is_letter_word" = true)
  (k4 : PySem.W.keepIn K (.ref f4) = true)
  (a5 : PySem.W.nsIn K mainGlobals "is_tuple_of" = some (some (.ref f5)))
  (l5 : K.lookup f5 = some ⟨oc5, od5, .func (PySem.W.fnOf "is_tuple_of" "is_tuple_of" (defArgs (top 14)) (defBody (top 14)) (defScope (top 14)) .none kv5 dc5 pm5 an5 cd5 ct5), sl5⟩)
  (c5 : PySem.W.codeIn K cd5 "is_tuple_of" = true)
  (k5 : PySem.W.keepIn K (.ref f5) = true)
  (a6 : PySem.W.nsIn K mainGlobals "is_integer" = some (some (.ref f6)))
  (l6 : K.lookup f6 = some ⟨oc6, od6, .func (PySem.W.fnOf "is_integer" "is_integer" (defArgs (top 12)) (defBody (top 12)) (defScope (top 12)) .none kv6 dc6 pm6 an6 cd6 ct6), sl6⟩)
  (c6 : PySem.W.codeIn K cd6 "is_integer" = true)
  (k6 : PySem.W.keepIn K (.ref f6) = true)
  (a7 : PySem.W.nsIn K mainGlobals "is_whole" = some (some (.ref f7)))
  (l7 : K.lookup f7 = some ⟨oc7, od7, .func (PySem.W.fnOf "is_whole" "is_whole" (defArgs (top 13)) (defBody (top 13)) (defScope (top 13)) .none kv7 dc7 pm7 an7 cd7 ct7), sl7⟩)
  (c7 : PySem.W.codeIn K cd7 "is_whole" = true)
  (k7 : PySem.W.keepIn K (.ref f7) = true)
  (a8 : PySem.W.nsIn K mainGlobals "are_things" = some (some (.ref f8)))
  (l8 : K.lookup f8 = some ⟨oc8, od8, .func (PySem.W.fnOf "are_things" "are_things" (defArgs (top 16)) (defBody (top 16)) (defScope (top 16)) .none kv8 dc8 pm8 an8 cd8 ct8), sl8⟩)
  (c8 : PySem.W.codeIn K cd8 "are_things" = true)
  (k8 : PySem.W.keepIn K (.ref f8) = true)
  (a9 : PySem.W.nsIn K mainGlobals "fits_product" = some (some (.ref f9)))
  (l9 : K.lookup f9 = some ⟨oc9, od9, .func (PySem.W.fnOf "fits_product" "fits_product" (defArgs (top 17)) (defBody (top 17)) (defScope (top 17)) .none kv9 dc9 pm9 an9 cd9 ct9), sl9⟩)
  (c9 : PySem.W.codeIn K cd9 "fits_product" = true)
  (k9 : PySem.W.keepIn K (.ref f9) = true)
  (a10 : PySem.W.nsIn K mainGlobals "need_product" = some (some (.ref f10)))
  (l10 : K.lookup f10 = some ⟨oc10, od10, .func (PySem.W.fnOf "need_product" "need_product" (defArgs (top 18)) (defBody (top 18)) (defScope (top 18)) .none kv10 dc10 pm10 an10 cd10 ct10), sl10⟩)
  (c10 : PySem.W.codeIn K cd10 "need_product" = true)
  (k10 : PySem.W.keepIn K (.ref f10) = true)
  (a11 : PySem.W.nsIn K mainGlobals "need_letter_word" = some (some (.ref f11)))
  (l11 : K.lookup f11 = some ⟨oc11, od11, .func (PySem.W.fnOf "need_letter_word" "need_letter_word" (defArgs (top 37)) (defBody (top 37)) (defScope (top 37)) .none kv11 dc11 pm11 an11 cd11 ct11), sl11⟩)
  (c11 : PySem.W.codeIn K cd11 "need_letter_word" = true)
  (k11 : PySem.W.keepIn K (.ref f11) = true)
  (a12 : PySem.W.nsIn K mainGlobals "need_word_pair" = some (some (.ref f12)))
  (l12 : K.lookup f12 = some ⟨oc12, od12, .func (PySem.W.fnOf "need_word_pair" "need_word_pair" (defArgs (top 38)) (defBody (top 38)) (defScope (top 38)) .none kv12 dc12 pm12 an12 cd12 ct12), sl12⟩)
  (c12 : PySem.W.codeIn K cd12 "need_word_pair" = true)
  (k12 : PySem.W.keepIn K (.ref f12) = true)
  (a13 : PySem.W.nsIn K mainGlobals "word_worth_in" = some (some (.ref f13)))
  (l13 : K.lookup f13 = some ⟨oc13, od13, .func (PySem.W.fnOf "word_worth_in" "word_worth_in" (defArgs (top 40)) (defBody (top 40)) (defScope (top 40)) .none kv13 dc13 pm13 an13 cd13 ct13), sl13⟩)
  (c13 : PySem.W.codeIn K cd13 "word_worth_in" = true)
  (k13 : PySem.W.keepIn K (.ref f13) = true)
  (a14 : PySem.W.nsIn K mainGlobals "word_worth" = some (some (.ref f14)))
  (l14 : K.lookup f14 = some ⟨oc14, od14, .func (PySem.W.fnOf "word_worth" "word_worth" (defArgs (top 45)) (defBody (top 45)) (defScope (top 45)) .none kv14 dc14 pm14 an14 cd14 ct14), sl14⟩)
  (c14 : PySem.W.codeIn K cd14 "word_worth" = true)
  (k14 : PySem.W.keepIn K (.ref f14) = true)
  (a15 : PySem.W.nsIn K mainGlobals "things_in_pairs" = some (some (.ref f15)))
  (l15 : K.lookup f15 = some ⟨oc15, od15, .func (PySem.W.fnOf "things_in_pairs" "things_in_pairs" (defArgs (top 41)) (defBody (top 41)) (defScope (top 41)) .none kv15 dc15 pm15 an15 cd15 ct15), sl15⟩)
  (c15 : PySem.W.codeIn K cd15 "things_in_pairs" = true)
  (k15 : PySem.W.keepIn K (.ref f15) = true)
  (a16 : PySem.W.nsIn K mainGlobals "row_of_word" = some (some (.ref f16)))
  (l16 : K.lookup f16 = some ⟨oc16, od16, .func (PySem.W.fnOf "row_of_word" "row_of_word" (defArgs (top 42)) (defBody (top 42)) (defScope (top 42)) .none kv16 dc16 pm16 an16 cd16 ct16), sl16⟩)
  (c16 : PySem.W.codeIn K cd16 "row_of_word" = true)
  (k16 : PySem.W.keepIn K (.ref f16) = true)
  (a17 : PySem.W.nsIn K mainGlobals "word_row" = some (some (.ref f17)))
  (l17 : K.lookup f17 = some ⟨oc17, od17, .func (PySem.W.fnOf "word_row" "word_row" (defArgs (top 46)) (defBody (top 46)) (defScope (top 46)) .none kv17 dc17 pm17 an17 cd17 ct17), sl17⟩)
  (c17 : PySem.W.codeIn K cd17 "word_row" = true)
  (k17 : PySem.W.keepIn K (.ref f17) = true)
  (a18 : PySem.W.nsIn K mainGlobals "_law_roll" = some (some (.ref f18)))
  (l18 : K.lookup f18 = some ⟨oc18, od18, .func (PySem.W.fnOf "_law_roll" "_law_roll" (defArgs (top 52)) (defBody (top 52)) (defScope (top 52)) .none kv18 dc18 pm18 an18 cd18 ct18), sl18⟩)
  (c18 : PySem.W.codeIn K cd18 "_law_roll" = true)
  (k18 : PySem.W.keepIn K (.ref f18) = true)
  (a19 : PySem.W.nsIn K mainGlobals "_law_some" = some (some (.ref f19)))
  (l19 : K.lookup f19 = some ⟨oc19, od19, .func (PySem.W.fnOf "_law_some" "_law_some" (defArgs (top 53)) (defBody (top 53)) (defScope (top 53)) .none kv19 dc19 pm19 an19 cd19 ct19), sl19⟩)
  (c19 : PySem.W.codeIn K cd19 "_law_some" = true)
  (k19 : PySem.W.keepIn K (.ref f19) = true)
  (a20 : PySem.W.nsIn K mainGlobals "_law_word" = some (some (.ref f20)))
  (l20 : K.lookup f20 = some ⟨oc20, od20, .func (PySem.W.fnOf "_law_word" "_law_word" (defArgs (top 60)) (defBody (top 60)) (defScope (top 60)) .none kv20 dc20 pm20 an20 cd20 ct20), sl20⟩)
  (c20 : PySem.W.codeIn K cd20 "_law_word" = true)
  (k20 : PySem.W.keepIn K (.ref f20) = true)
  (a21 : PySem.W.nsIn K mainGlobals "need_two_words" = some (some (.ref f21)))
  (l21 : K.lookup f21 = some ⟨oc21, od21, .func (PySem.W.fnOf "need_two_words" "need_two_words" (defArgs (top 39)) (defBody (top 39)) (defScope (top 39)) .none kv21 dc21 pm21 an21 cd21 ct21), sl21⟩)
  (c21 : PySem.W.codeIn K cd21 "need_two_words" = true)
  (k21 : PySem.W.keepIn K (.ref f21) = true)
  (a22 : PySem.W.nsIn K mainGlobals "word_counter_in" = some (some (.ref f22)))
  (l22 : K.lookup f22 = some ⟨oc22, od22, .func (PySem.W.fnOf "word_counter_in" "word_counter_in" (defArgs (top 43)) (defBody (top 43)) (defScope (top 43)) .none kv22 dc22 pm22 an22 cd22 ct22), sl22⟩)
  (c22 : PySem.W.codeIn K cd22 "word_counter_in" = true)
  (k22 : PySem.W.keepIn K (.ref f22) = true)
  (a23 : PySem.W.nsIn K mainGlobals "do_words_agree" = some (some (.ref f23)))
  (l23 : K.lookup f23 = some ⟨oc23, od23, .func (PySem.W.fnOf "do_words_agree" "do_words_agree" (defArgs (top 47)) (defBody (top 47)) (defScope (top 47)) .none kv23 dc23 pm23 an23 cd23 ct23), sl23⟩)
  (c23 : PySem.W.codeIn K cd23 "do_words_agree" = true)
  (k23 : PySem.W.keepIn K (.ref f23) = true)
  (a24 : PySem.W.nsIn K mainGlobals "word_counter" = some (some (.ref f24)))
  (l24 : K.lookup f24 = some ⟨oc24, od24, .func (PySem.W.fnOf "word_counter" "word_counter" (defArgs (top 48)) (defBody (top 48)) (defScope (top 48)) .none kv24 dc24 pm24 an24 cd24 ct24), sl24⟩)
  (c24 : PySem.W.codeIn K cd24 "word_counter" = true)
  (k24 : PySem.W.keepIn K (.ref f24) = true)
  (a25 : PySem.W.nsIn K mainGlobals "is_word_counter" = some (some (.ref f25)))
  (l25 : K.lookup f25 = some ⟨oc25, od25, .func (PySem.W.fnOf "is_word_counter" "is_word_counter" (defArgs (top 49)) (defBody (top 49)) (defScope (top 49)) .none kv25 dc25 pm25 an25 cd25 ct25), sl25⟩)
  (c25 : PySem.W.codeIn K cd25 "is_word_counter" = true)
  (k25 : PySem.W.keepIn K (.ref f25) = true)
  (a26 : PySem.W.nsIn K mainGlobals "_law_worth_of" = some (some (.ref f26)))
  (l26 : K.lookup f26 = some ⟨oc26, od26, .func (PySem.W.fnOf "_law_worth_of" "_law_worth_of" (defArgs (top 58)) (defBody (top 58)) (defScope (top 58)) .none kv26 dc26 pm26 an26 cd26 ct26), sl26⟩)
  (c26 : PySem.W.codeIn K cd26 "_law_worth_of" = true)
  (k26 : PySem.W.keepIn K (.ref f26) = true)
  (a27 : PySem.W.nsIn K mainGlobals "is_letter" = some (some (.ref f27)))
  (l27 : K.lookup f27 = some ⟨oc27, od27, .func (PySem.W.fnOf "is_letter" "is_letter" (defArgs (top 19)) (defBody (top 19)) (defScope (top 19)) .none kv27 dc27 pm27 an27 cd27 ct27), sl27⟩)
  (c27 : PySem.W.codeIn K cd27 "is_letter" = true)
  (k27 : PySem.W.keepIn K (.ref f27) = true)
  (a28 : PySem.W.nsIn K mainGlobals "letters_in" = some (some (.ref f28)))
  (l28 : K.lookup f28 = some ⟨oc28, od28, .func (PySem.W.fnOf "letters_in" "letters_in" (defArgs (top 20)) (defBody (top 20)) (defScope (top 20)) .none kv28 dc28 pm28 an28 cd28 ct28), sl28⟩)
  (c28 : PySem.W.codeIn K cd28 "letters_in" = true)
  (k28 : PySem.W.keepIn K (.ref f28) = true)
  (a29 : PySem.W.nsIn K mainGlobals "fits_term" = some (some (.ref f29)))
  (l29 : K.lookup f29 = some ⟨oc29, od29, .func (PySem.W.fnOf "fits_term" "fits_term" (defArgs (top 21)) (defBody (top 21)) (defScope (top 21)) .none kv29 dc29 pm29 an29 cd29 ct29), sl29⟩)
  (c29 : PySem.W.codeIn K cd29 "fits_term" = true)
  (k29 : PySem.W.keepIn K (.ref f29) = true)
  (a30 : PySem.W.nsIn K mainGlobals "need_term" = some (some (.ref f30)))
  (l30 : K.lookup f30 = some ⟨oc30, od30, .func (PySem.W.fnOf "need_term" "need_term" (defArgs (top 22)) (defBody (top 22)) (defScope (top 22)) .none kv30 dc30 pm30 an30 cd30 ct30), sl30⟩)
  (c30 : PySem.W.codeIn K cd30 "need_term" = true)
  (k30 : PySem.W.keepIn K (.ref f30) = true)
  (a31 : PySem.W.nsIn K mainGlobals "worth_by" = some (some (.ref f31)))
  (l31 : K.lookup f31 = some ⟨oc31, od31, .func (PySem.W.fnOf "worth_by" "worth_by" (defArgs (top 26)) (defBody (top 26)) (defScope (top 26)) .none kv31 dc31 pm31 an31 cd31 ct31), sl31⟩)
  (c31 : PySem.W.codeIn K cd31 "worth_by" = true)
  (k31 : PySem.W.keepIn K (.ref f31) = true)
  (a32 : PySem.W.nsIn K mainGlobals "steps_in" = some (some (.ref f32)))
  (l32 : K.lookup f32 = some ⟨oc32, od32, .func (PySem.W.fnOf "steps_in" "steps_in" (defArgs (top 25)) (defBody (top 25)) (defScope (top 25)) .none kv32 dc32 pm32 an32 cd32 ct32), sl32⟩)
  (c32 : PySem.W.codeIn K cd32 "steps_in" = true)
  (k32 : PySem.W.keepIn K (.ref f32) = true)
  (a33 : PySem.W.nsIn K mainGlobals "worth_in" = some (some (.ref f33)))
  (l33 : K.lookup f33 = some ⟨oc33, od33, .func (PySem.W.fnOf "worth_in" "worth_in" (defArgs (top 27)) (defBody (top 27)) (defScope (top 27)) .none kv33 dc33 pm33 an33 cd33 ct33), sl33⟩)
  (c33 : PySem.W.codeIn K cd33 "worth_in" = true)
  (k33 : PySem.W.keepIn K (.ref f33) = true)
  (a34 : PySem.W.nsIn K mainGlobals "term_worth" = some (some (.ref f34)))
  (l34 : K.lookup f34 = some ⟨oc34, od34, .func (PySem.W.fnOf "term_worth" "term_worth" (defArgs (top 32)) (defBody (top 32)) (defScope (top 32)) .none kv34 dc34 pm34 an34 cd34 ct34), sl34⟩)
  (c34 : PySem.W.codeIn K cd34 "term_worth" = true)
  (k34 : PySem.W.keepIn K (.ref f34) = true)
  (a35 : PySem.W.nsIn K mainGlobals "_law_row" = some (some (.ref f35)))
  (l35 : K.lookup f35 = some ⟨oc35, od35, .func (PySem.W.fnOf "_law_row" "_law_row" (defArgs (top 59)) (defBody (top 59)) (defScope (top 59)) .none kv35 dc35 pm35 an35 cd35 ct35), sl35⟩)
  (c35 : PySem.W.codeIn K cd35 "_law_row" = true)
  (k35 : PySem.W.keepIn K (.ref f35) = true)
  (a36 : PySem.W.nsIn K mainGlobals "fits_rule" = some (some (.ref f36)))
  (l36 : K.lookup f36 = some ⟨oc36, od36, .func (PySem.W.fnOf "fits_rule" "fits_rule" (defArgs (top 23)) (defBody (top 23)) (defScope (top 23)) .none kv36 dc36 pm36 an36 cd36 ct36), sl36⟩)
  (c36 : PySem.W.codeIn K cd36 "fits_rule" = true)
  (k36 : PySem.W.keepIn K (.ref f36) = true)
  (a37 : PySem.W.nsIn K mainGlobals "need_rule" = some (some (.ref f37)))
  (l37 : K.lookup f37 = some ⟨oc37, od37, .func (PySem.W.fnOf "need_rule" "need_rule" (defArgs (top 24)) (defBody (top 24)) (defScope (top 24)) .none kv37 dc37 pm37 an37 cd37 ct37), sl37⟩)
  (c37 : PySem.W.codeIn K cd37 "need_rule" = true)
  (k37 : PySem.W.keepIn K (.ref f37) = true)
  (a38 : PySem.W.nsIn K mainGlobals "used_in" = some (some (.ref f38)))
  (l38 : K.lookup f38 = some ⟨oc38, od38, .func (PySem.W.fnOf "used_in" "used_in" (defArgs (top 28)) (defBody (top 28)) (defScope (top 28)) .none kv38 dc38 pm38 an38 cd38 ct38), sl38⟩)
  (c38 : PySem.W.codeIn K cd38 "used_in" = true)
  (k38 : PySem.W.keepIn K (.ref f38) = true)
  (a39 : PySem.W.nsIn K mainGlobals "all_things" = some (some (.ref f39)))
  (l39 : K.lookup f39 = some ⟨oc39, od39, .func (PySem.W.fnOf "all_things" "all_things" (defArgs (top 29)) (defBody (top 29)) (defScope (top 29)) .none kv39 dc39 pm39 an39 cd39 ct39), sl39⟩)
  (c39 : PySem.W.codeIn K cd39 "all_things" = true)
  (k39 : PySem.W.keepIn K (.ref f39) = true)
  (a40 : PySem.W.nsIn K mainGlobals "counter_in" = some (some (.ref f40)))
  (l40 : K.lookup f40 = some ⟨oc40, od40, .func (PySem.W.fnOf "counter_in" "counter_in" (defArgs (top 30)) (defBody (top 30)) (defScope (top 30)) .none kv40 dc40 pm40 an40 cd40 ct40), sl40⟩)
  (c40 : PySem.W.codeIn K cd40 "counter_in" = true)
  (k40 : PySem.W.keepIn K (.ref f40) = true)
  (a41 : PySem.W.nsIn K mainGlobals "does_hold" = some (some (.ref f41)))
  (l41 : K.lookup f41 = some ⟨oc41, od41, .func (PySem.W.fnOf "does_hold" "does_hold" (defArgs (top 33)) (defBody (top 33)) (defScope (top 33)) .none kv41 dc41 pm41 an41 cd41 ct41), sl41⟩)
  (c41 : PySem.W.codeIn K cd41 "does_hold" = true)
  (k41 : PySem.W.keepIn K (.ref f41) = true)
  (a42 : PySem.W.nsIn K mainGlobals "_law_bent" = some (some (.ref f42)))
  (l42 : K.lookup f42 = some ⟨oc42, od42, .func (PySem.W.fnOf "_law_bent" "_law_bent" (defArgs (top 57)) (defBody (top 57)) (defScope (top 57)) .none kv42 dc42 pm42 an42 cd42 ct42), sl42⟩)
  (c42 : PySem.W.codeIn K cd42 "_law_bent" = true)
  (k42 : PySem.W.keepIn K (.ref f42) = true)
  (a43 : PySem.W.nsIn K mainGlobals "_law_term" = some (some (.ref f43)))
  (l43 : K.lookup f43 = some ⟨oc43, od43, .func (PySem.W.fnOf "_law_term" "_law_term" (defArgs (top 62)) (defBody (top 62)) (defScope (top 62)) .none kv43 dc43 pm43 an43 cd43 ct43), sl43⟩)
  (c43 : PySem.W.codeIn K cd43 "_law_term" = true)
  (k43 : PySem.W.keepIn K (.ref f43) = true)
  (a44 : PySem.W.nsIn K mainGlobals "_law_right" = some (some (.ref f44)))
  (l44 : K.lookup f44 = some ⟨oc44, od44, .func (PySem.W.fnOf "_law_right" "_law_right" (defArgs (top 63)) (defBody (top 63)) (defScope (top 63)) .none kv44 dc44 pm44 an44 cd44 ct44), sl44⟩)
  (c44 : PySem.W.codeIn K cd44 "_law_right" = true)
  (k44 : PySem.W.keepIn K (.ref f44) = true)
  (a45 : PySem.W.nsIn K mainGlobals "turned_product" = some (some (.ref f45)))
  (l45 : K.lookup f45 = some ⟨oc45, od45, .func (PySem.W.fnOf "turned_product" "turned_product" (defArgs (top 31)) (defBody (top 31)) (defScope (top 31)) .none kv45 dc45 pm45 an45 cd45 ct45), sl45⟩)
  (c45 : PySem.W.codeIn K cd45 "turned_product" = true)
  (k45 : PySem.W.keepIn K (.ref f45) = true)
  (a46 : PySem.W.nsIn K mainGlobals "_law_product" = some (some (.ref f46)))
  (l46 : K.lookup f46 = some ⟨oc46, od46, .func (PySem.W.fnOf "_law_product" "_law_product" (defArgs (top 56)) (defBody (top 56)) (defScope (top 56)) .none kv46 dc46 pm46 an46 cd46 ct46), sl46⟩)
  (c46 : PySem.W.codeIn K cd46 "_law_product" = true)
  (k46 : PySem.W.keepIn K (.ref f46) = true)
  (a47 : PySem.W.nsIn K mainGlobals "_law_is_word" = some (some (.ref f47)))
  (l47 : K.lookup f47 = some ⟨oc47, od47, .func (PySem.W.fnOf "_law_is_word" "_law_is_word" (defArgs (top 61)) (defBody (top 61)) (defScope (top 61)) .none kv47 dc47 pm47 an47 cd47 ct47), sl47⟩)
  (c47 : PySem.W.codeIn K cd47 "_law_is_word" = true)
  (k47 : PySem.W.keepIn K (.ref f47) = true)
  (a48 : PySem.W.nsIn K mainGlobals "law" = some (some (.ref f48)))
  (l48 : K.lookup f48 = some ⟨oc48, od48, .func (PySem.W.fnOf "law" "law" (defArgs (top 64)) (defBody (top 64)) (defScope (top 64)) .none kv48 dc48 pm48 an48 cd48 ct48), sl48⟩)
  (c48 : PySem.W.codeIn K cd48 "law" = true)
  (k48 : PySem.W.keepIn K (.ref f48) = true)
  (z_abs : PySem.W.nsIn K mainGlobals "abs" = some none)
  (z_all : PySem.W.nsIn K mainGlobals "all" = some none)
  (z_bool : PySem.W.nsIn K mainGlobals "bool" = some none)
  (z_int : PySem.W.nsIn K mainGlobals "int" = some none)
  (z_isinstance : PySem.W.nsIn K mainGlobals "isinstance" = some none)
  (z_len : PySem.W.nsIn K mainGlobals "len" = some none)
  (z_list : PySem.W.nsIn K mainGlobals "list" = some none)
  (z_min : PySem.W.nsIn K mainGlobals "min" = some none)
  (z_range : PySem.W.nsIn K mainGlobals "range" = some none)
  (z_str : PySem.W.nsIn K mainGlobals "str" = some none)
  (z_tuple : PySem.W.nsIn K mainGlobals "tuple" = some none)
  (z_zip : PySem.W.nsIn K mainGlobals "zip" = some none)
  (g_LETTERS_leftwords : PySem.W.nsIn K mainGlobals "LETTERS_leftwords" = some (some (.str "ab" t_LETTERS_leftwords)))
  (g_LONGEST : PySem.W.nsIn K mainGlobals "LONGEST" = some (some (.int 40 t_LONGEST)))
  (g_MOST : PySem.W.nsIn K mainGlobals "MOST" = some (some (.int 8 t_MOST)))
  (g_MOST_LETTERS : PySem.W.nsIn K mainGlobals "MOST_LETTERS" = some (some (.int 40 t_MOST_LETTERS)))
  (g_TIMES : PySem.W.nsIn K mainGlobals "TIMES" = some (some (.str "*" t_TIMES)))
  (a_LETTERS_basics : PySem.W.nsIn K mainGlobals "LETTERS_basics" = some (some (.ref t_LETTERS_basics)))
  (l_LETTERS_basics : K.lookup t_LETTERS_basics = some ⟨.type "tuple", none, .seq #[.str "a" u_LETTERS_basics0, .str "b" u_LETTERS_basics1, .str "c" u_LETTERS_basics2, .str "d" u_LETTERS_basics3] n_LETTERS_basics, s_LETTERS_basics⟩) : Top K mg :=
  ⟨defF_mk X G a0 l0 c0 k0,
   defF_mk X G a1 l1 c1 k1,
   defF_mk X G a2 l2 c2 k2,
   defF_mk X G a3 l3 c3 k3,
   defF_mk X G a4 l4 c4 k4,
   defF_mk X G a5 l5 c5 k5,
   defF_mk X G a6 l6 c6 k6,
   defF_mk X G a7 l7 c7 k7,
   defF_mk X G a8 l8 c8 k8,
   defF_mk X G a9 l9 c9 k9,
   defF_mk X G a10 l10 c10 k10,
   defF_mk X G a11 l11 c11 k11,
   defF_mk X G a12 l12 c12 k12,
   defF_mk X G a13 l13 c13 k13,
   defF_mk X G a14 l14 c14 k14,
   defF_mk X G a15 l15 c15 k15,
   defF_mk X G a16 l16 c16 k16,
   defF_mk X G a17 l17 c17 k17,
   defF_mk X G a18 l18 c18 k18,
   defF_mk X G a19 l19 c19 k19,
   defF_mk X G a20 l20 c20 k20,
   defF_mk X G a21 l21 c21 k21,
   defF_mk X G a22 l22 c22 k22,
   defF_mk X G a23 l23 c23 k23,
   defF_mk X G a24 l24 c24 k24,
   defF_mk X G a25 l25 c25 k25,
   defF_mk X G a26 l26 c26 k26,
   defF_mk X G a27 l27 c27 k27,
   defF_mk X G a28 l28 c28 k28,
   defF_mk X G a29 l29 c29 k29,
   defF_mk X G a30 l30 c30 k30,
   defF_mk X G a31 l31 c31 k31,
   defF_mk X G a32 l32 c32 k32,
   defF_mk X G a33 l33 c33 k33,
   defF_mk X G a34 l34 c34 k34,
   defF_mk X G a35 l35 c35 k35,
   defF_mk X G a36 l36 c36 k36,
   defF_mk X G a37 l37 c37 k37,
   defF_mk X G a38 l38 c38 k38,
   defF_mk X G a39 l39 c39 k39,
   defF_mk X G a40 l40 c40 k40,
   defF_mk X G a41 l41 c41 k41,
   defF_mk X G a42 l42 c42 k42,
   defF_mk X G a43 l43 c43 k43,
   defF_mk X G a44 l44 c44 k44,
   defF_mk X G a45 l45 c45 k45,
   defF_mk X G a46 l46 c46 k46,
   defF_mk X G a47 l47 c47 k47,
   defF_mk X G a48 l48 c48 k48,
   PySem.W.mg_none_of X G z_abs,
   PySem.W.mg_none_of X G z_all,
   PySem.W.mg_none_of X G z_bool,
   PySem.W.mg_none_of X G z_int,
   PySem.W.mg_none_of X G z_isinstance,
   PySem.W.mg_none_of X G z_len,
   PySem.W.mg_none_of X G z_list,
   PySem.W.mg_none_of X G z_min,
   PySem.W.mg_none_of X G z_range,
   PySem.W.mg_none_of X G z_str,
   PySem.W.mg_none_of X G z_tuple,
   PySem.W.mg_none_of X G z_zip,
   (ktup_mk (ys := ["a", "b", "c", "d"]) X G a_LETTERS_basics l_LETTERS_basics rfl (by show 4 ≤ sizeLine; decide)).glob,
   globS_mk X G g_LETTERS_leftwords,
   globI_mk X G g_LONGEST,
   globI_mk X G g_MOST,
   globI_mk X G g_MOST_LETTERS,
   globS_mk X G g_TIMES,
   ktup_mk (ys := ["a", "b", "c", "d"]) X G a_LETTERS_basics l_LETTERS_basics rfl (by show 4 ≤ sizeLine; decide)⟩
end
end L76
end
section
set_option Elab.async false
set_option linter.all false
set_option maxRecDepth 100000
set_option maxHeartbeats 4000000
set_option autoImplicit false
namespace DL
open PySem PySem.Spec
/-! ### what a mirror gives -/
def Tri {α : Type} (I : List PyData → Prop) (m : M α) (p : α → Prop) : Prop := ∀ cs, I cs → ∃ x cs', m cs = .ok (x, cs') ∧ I cs' ∧ p x
section
variable {α β τ υ : Type} {I : List PyData → Prop} {m : M α} {f : α → M β} {p p' : α → Prop} {q : β → Prop}
theorem Tri.pure {x : α} (h : p x) : Tri I (Pure.pure x) p := fun cs i => ⟨x, cs, rfl, i, h⟩
theorem Tri.of {x : α} (e : m = Pure.pure x) (h : p x) : Tri I m p := e ▸ Tri.pure h
theorem Tri.bind (h : Tri I m p) (g : ∀ x, p x → Tri I (f x) q) : Tri I (m >>= f) q := fun cs i => by
  obtain ⟨x, cs1, e, i1, hp⟩ := h cs i
  obtain ⟨y, cs2, e2, i2, hq⟩ := g x hp cs1 i1
  exact ⟨y, cs2, by rw [M.bind_run, e]; exact e2, i2, hq⟩
theorem Tri.mono (h : Tri I m p) (k : ∀ x, p x → p' x) : Tri I m p' := fun cs i => by
  obtain ⟨x, cs1, e, i1, hp⟩ := h cs i
  exact ⟨x, cs1, e, i1, k x hp⟩
theorem Tri.noexc (h : Tri I m p) : Tri I (DL.noexc m) p := fun cs i => by
  obtain ⟨x, cs1, e, i1, hp⟩ := h cs i
  exact ⟨x, cs1, by unfold DL.noexc; rw [e], i1, hp⟩
/-- a pure part ahead -/
theorem Tri.then {x : α} (e : m = Pure.pure x) (g : Tri I (f x) q) : Tri I (m >>= f) q := by rw [e, pure_bind]; exact g
theorem Tri.finish {m : M (Fl Unit Empty)} {p : PyData → Prop} (h : Tri I m fun fl => match fl with | .nx _ => p .none | .rt d => p d | .bk b => nomatch b | .ct b => nomatch b) : Tri I (DL.finish m) p := by
  unfold DL.finish
  refine h.bind fun fl hf => ?_
  cases fl with
  | nx _ => exact Tri.pure hf
  | rt d => exact Tri.pure hf
  | bk b => exact nomatch b
  | ct b => exact nomatch b
theorem Tri.lc {ds : List PyData} {f : PyData → M PyData} {py : PyData → Prop} (h : ∀ d ∈ ds, Tri I (f d) py) : Tri I (lcM (fun d => Pure.pure d) (fun _ => Pure.pure true) f ds) fun ys => ys.length = ds.length ∧ ∀ y ∈ ys, py y := by
  induction ds with
  | nil => exact Tri.pure ⟨rfl, fun y hy => by cases hy⟩
  | cons d ds ih =>
    unfold lcM
    rw [noexc_pure, pure_bind, noexc_pure, pure_bind, if_pos rfl]
    refine (h d (by simp)).noexc.bind fun y hy => (ih fun e he => h e (by simp [he])).bind fun ys hys => Tri.pure ⟨by simp [hys.1], fun z hz => ?_⟩
    rcases List.mem_cons.mp hz with rfl | hz
    · exact hy
    · exact hys.2 z hz
theorem Tri.for {u : PyData → M υ} {b : υ → τ → M (Fl τ τ)} (Inv : Nat → τ → Prop) : ∀ {ds : List PyData} {t0 : τ} (n : Nat), Inv n t0 → (∀ i d t, ds[i]? = some d → Inv (n + i) t → Tri I (u d >>= fun x => b x t) fun fl => ∃ t', (fl = .nx t' ∨ fl = .ct t') ∧ Inv (n + i + 1) t') →
    Tri I (pFor u b ds t0) fun r => ∃ t, r = .inl t ∧ Inv (n + ds.length) t
  | [], t0, n, h0, _ => Tri.pure ⟨t0, rfl, h0⟩
  | d :: ds, t0, n, h0, hs => by
    unfold pFor
    rw [← bind_assoc]
    refine (hs 0 d t0 rfl h0).bind fun fl ⟨t', hf, h1⟩ => ?_
    have ih := Tri.for (u := u) (b := b) Inv (ds := ds) (t0 := t') (n + 1) h1 fun i e t he hi => by
      have := hs (i + 1) e t (by simpa using he) (by rw [show n + (i + 1) = n + 1 + i by omega]; exact hi)
      rw [show n + (i + 1) + 1 = n + 1 + i + 1 by omega] at this
      exact this
    have e : n + 1 + ds.length = n + (d :: ds).length := by simp; omega
    rw [e] at ih
    rcases hf with rfl | rfl
    · exact ih
    · exact ih
end
/-! ### pure comprehensions and loops -/
section
variable {ι τ : Type}
theorem lcM_pure {u : PyData → M PyData} {t : PyData → M Bool} {f : PyData → M PyData} (e y : ι → PyData) (b : ι → Bool) : ∀ xs : List ι, (∀ i ∈ xs, u (e i) = pure (e i)) → (∀ i ∈ xs, t (e i) = pure (b i)) → (∀ i ∈ xs, b i = true → f (e i) = pure (y i)) → lcM u t f (xs.map e) = pure ((xs.filter b).map y)
  | [], _, _, _ => rfl
  | i :: xs, hu, ht, hf => by
    have ih := lcM_pure (u := u) (t := t) (f := f) e y b xs (fun j hj => hu j (by simp [hj])) (fun j hj => ht j (by simp [hj])) (fun j hj => hf j (by simp [hj]))
    rw [List.map_cons]
    unfold lcM
    rw [hu i (by simp), noexc_pure, pure_bind, ht i (by simp), noexc_pure, pure_bind]
    cases hb : b i with
    | true =>
      rw [if_pos rfl, hf i (by simp) hb, noexc_pure, pure_bind, ih, pure_bind, List.filter_cons, if_pos hb, List.map_cons]
    | false =>
      rw [if_neg (by simp), ih, List.filter_cons, if_neg (by simp [hb])]
/-- [f d for d in ds] -/
theorem lcM_map {f : PyData → M PyData} (e y : ι → PyData) (xs : List ι) (hf : ∀ i ∈ xs, f (e i) = pure (y i)) : lcM (fun d => pure d) (fun _ => pure true) f (xs.map e) = pure (xs.map y) := by
  rw [lcM_pure e y (fun _ => true) xs (fun _ _ => rfl) (fun _ _ => rfl) (fun i hi _ => hf i hi), List.filter_eq_self.mpr (by simp)]
/-- [e for e in ds if b] -/
theorem lcM_filter {t : PyData → M Bool} (e : ι → PyData) (b : ι → Bool) (xs : List ι) (ht : ∀ i ∈ xs, t (e i) = pure (b i)) : lcM (fun d => pure d) t (fun d => pure d) (xs.map e) = pure ((xs.filter b).map e) :=
  lcM_pure e e b xs (fun _ _ => rfl) ht fun _ _ _ => rfl
theorem pFor_pure {u : PyData → M PyData} {b : PyData → τ → M (Fl τ τ)} (e : ι → PyData) (st : ι → τ → τ) (R : τ → Prop) : ∀ (xs : List ι) (t0 : τ), R t0 → (∀ i ∈ xs, u (e i) = pure (e i)) → (∀ i ∈ xs, ∀ t, R t → b (e i) t = pure (.nx (st i t)) ∧ R (st i t)) → pFor u b (xs.map e) t0 = pure (.inl (xs.foldl (fun t i => st i t) t0))
  | [], _, _, _, _ => rfl
  | i :: xs, t0, r, hu, hb => by
    rw [List.map_cons]
    unfold pFor
    rw [hu i (by simp), pure_bind, (hb i (by simp) t0 r).1, pure_bind]
    exact pFor_pure e st R xs (st i t0) (hb i (by simp) t0 r).2 (fun j hj => hu j (by simp [hj])) fun j hj => hb j (by simp [hj])
/-- for i in ..: if b: return .. -/
theorem pFor_find {u : PyData → M PyData} {b : PyData → τ → M (Fl τ τ)} (e : ι → PyData) (c : ι → Bool) (y : ι → PyData) (t0 : τ) : ∀ (xs : List ι), (∀ i ∈ xs, u (e i) = pure (e i)) → (∀ i ∈ xs, b (e i) t0 = pure (if c i then .rt (y i) else .nx t0)) → pFor u b (xs.map e) t0 = pure (match xs.find? c with | some i => .inr (y i) | none => .inl t0)
  | [], _, _ => rfl
  | i :: xs, hu, hb => by
    rw [List.map_cons]
    unfold pFor
    rw [hu i (by simp), pure_bind, hb i (by simp), pure_bind, List.find?_cons]
    cases hc : c i with
    | true => rfl
    | false => exact pFor_find e c y t0 xs (fun j hj => hu j (by simp [hj])) fun j hj => hb j (by simp [hj])
theorem pFor_st {σ : Type} {b : PyData → τ → M (Fl τ τ)} (e : ι → PyData) (es : σ → τ) (st : σ → ι → σ) (R : Nat → σ → Prop) : ∀ (xs : List ι) (k : Nat) (s0 : σ), R k s0 → (∀ i ∈ xs, ∀ j s, j < k + xs.length → R j s → b (e i) (es s) = pure (.nx (es (st s i))) ∧ R (j + 1) (st s i)) → pFor (fun d => pure d) b (xs.map e) (es s0) = pure (.inl (es (xs.foldl st s0)))
  | [], _, _, _, _ => rfl
  | i :: xs, k, s0, r, hb => by
    rw [List.map_cons]
    unfold pFor
    obtain ⟨h1, h2⟩ := hb i (by simp) k s0 (by simp) r
    rw [pure_bind, h1, pure_bind]
    exact pFor_st e es st R xs (k + 1) (st s0 i) h2 fun j hj l s hl => hb j (by simp [hj]) l s (by simp; omega)
theorem foldl_flat {α : Type} (g : ι → List α) : ∀ (xs : List ι) (acc : List α), xs.foldl (fun acc i => acc ++ g i) acc = acc ++ xs.flatMap g
  | [], acc => by simp
  | i :: xs, acc => by rw [List.foldl_cons, foldl_flat g xs, List.flatMap_cons, List.append_assoc]
theorem lc2M_pairs {f : PyData → PyData → M PyData} (e : ι → PyData) (y : ι → ι → PyData) (ys : List ι) {i1 : PyData → M (List PyData)} (hl : ys.length ≤ 4096) (hi : ∀ d, i1 d = pure (ys.map e)) : ∀ (xs : List ι), (∀ i ∈ xs, ∀ j ∈ ys, f (e i) (e j) = pure (y i j)) →
    lc2M (fun d => pure d) (fun _ => pure true) i1 (fun d => pure d) (fun _ _ => pure true) f (xs.map e) = pure (xs.flatMap fun i => ys.map (y i))
  | [], _ => rfl
  | i :: xs, hf => by
    rw [List.map_cons]
    unfold lc2M
    rw [noexc_pure, pure_bind, noexc_pure, pure_bind, if_pos rfl, hi, noexc_pure, pure_bind, chk_true (by rw [List.length_map]; exact hl), noexc_pure, pure_bind,
      lcM_map e (y i) ys fun j hj => hf i (by simp) j hj, pure_bind, lc2M_pairs e y ys hl hi xs fun k hk => hf k (by simp [hk]), pure_bind, List.flatMap_cons]
end
/-! ### words for the simplifier -/
@[simp] theorem asB_bool (b : Bool) : asB (.bool b) = pure b := rfl
@[simp] theorem asI_int (i : Int) : asI (.int i) = pure i := rfl
@[simp] theorem asS_str (z : Str) : asS (.str z) = pure z := rfl
@[simp] theorem asL_list (xs : List PyData) : asL (.list xs) = pure xs := rfl
@[simp] theorem padd_int (i j : Int) : padd (.int i) (.int j) = pure (.int (i + j)) := rfl
@[simp] theorem psub_int (i j : Int) : psub (.int i) (.int j) = pure (.int (i - j)) := rfl
@[simp] theorem pneg_int (i : Int) : pneg (.int i) = pure (.int (-i)) := rfl
@[simp] theorem pint_int (i : Int) : pint (.int i) = pure (.int i) := rfl
@[simp] theorem pabs_int (i : Int) : pabs (.int i) = pure (.int (if i < 0 then -i else i)) := rfl
@[simp] theorem pcmp_int (p : Int → Int → Bool) (i j : Int) : pcmp p (.int i) (.int j) = pure (.bool (p i j)) := rfl
@[simp] theorem plen_list (ds : List PyData) : plen (.list ds) = pure (.int ds.length) := rfl
@[simp] theorem plen_tuple (ds : List PyData) : plen (.tuple ds) = pure (.int ds.length) := rfl
@[simp] theorem ptuple_list (ds : List PyData) : ptuple (.list ds) = pure (.tuple ds) := rfl
@[simp] theorem ptuple_tuple (ds : List PyData) : ptuple (.tuple ds) = pure (.tuple ds) := rfl
@[simp] theorem seqOf_list (ds : List PyData) : seqOf (.list ds) = pure ds := rfl
@[simp] theorem seqOf_tuple (ds : List PyData) : seqOf (.tuple ds) = pure ds := rfl
@[simp] theorem pitems_list (ds : List PyData) : pitems (.list ds) = pure ds := rfl
@[simp] theorem pitems_tuple (ds : List PyData) : pitems (.tuple ds) = pure ds := rfl
@[simp] theorem prev_list (ds : List PyData) : prev (.list ds) = pure (.list ds.reverse) := rfl
@[simp] theorem prev_tuple (ds : List PyData) : prev (.tuple ds) = pure (.tuple ds.reverse) := rfl
@[simp] theorem pisN_none : pisN .none .none = pure (.bool true) := rfl
@[simp] theorem pisN_bool (b : Bool) : pisN (.bool b) .none = pure (.bool false) := rfl
@[simp] theorem pisN_int (i : Int) : pisN (.int i) .none = pure (.bool false) := rfl
@[simp] theorem pisN_str (i : Str) : pisN (.str i) .none = pure (.bool false) := rfl
@[simp] theorem pisN_list (i : List PyData) : pisN (.list i) .none = pure (.bool false) := rfl
@[simp] theorem pisN_tuple (i : List PyData) : pisN (.tuple i) .none = pure (.bool false) := rfl
@[simp] theorem pnotN_none : pnotN .none .none = pure (.bool false) := rfl
@[simp] theorem pnotN_bool (b : Bool) : pnotN (.bool b) .none = pure (.bool true) := rfl
@[simp] theorem pnotN_int (i : Int) : pnotN (.int i) .none = pure (.bool true) := rfl
@[simp] theorem pnotN_str (i : Str) : pnotN (.str i) .none = pure (.bool true) := rfl
@[simp] theorem pnotN_list (i : List PyData) : pnotN (.list i) .none = pure (.bool true) := rfl
@[simp] theorem pnotN_tuple (i : List PyData) : pnotN (.tuple i) .none = pure (.bool true) := rfl
@[simp] theorem pslice_list (ds : List PyData) (l h : Option Int) : pslice (.list ds) l h = pure (.list (cutP ds l h)) := rfl
@[simp] theorem pslice_tuple (ds : List PyData) (l h : Option Int) : pslice (.tuple ds) l h = pure (.tuple (cutP ds l h)) := rfl
@[simp] theorem runs_nil : runs [] = pure [] := rfl
@[simp] theorem runs_cons (m : M PyData) (ms : List (M PyData)) : runs (m :: ms) = (do let x ← m; let xs ← runs ms; pure (x :: xs)) := rfl
@[simp] theorem castF_rt {τ β : Type} (d : PyData) : (castF (pure (.rt d)) : M (Fl τ β)) = pure (.rt d) := rfl
@[simp] theorem finish_rt (d : PyData) : finish (pure (.rt d)) = pure d := rfl
@[simp] theorem finish_nx (u : Unit) : finish (pure (.nx u)) = pure .none := rfl
@[simp] theorem contL_inl {τ τ' β : Type} (t : τ') (k : τ' → M (Fl τ β)) : contL (.inl t) k = k t := rfl
@[simp] theorem contL_inr {τ τ' β : Type} (d : PyData) (k : τ' → M (Fl τ β)) : contL (.inr d) k = pure (.rt d) := rfl
@[simp] theorem thenF_nx {τ τ' β : Type} (t : τ) (k : τ → M (Fl τ' β)) : thenF (pure (.nx t) : M (Fl τ β)) k = k t := rfl
@[simp] theorem thenF_rt {τ τ' β : Type} (d : PyData) (k : τ → M (Fl τ' β)) : thenF (pure (.rt d) : M (Fl τ β)) k = pure (.rt d) := rfl
theorem peq_of {d e : PyData} (h : eqOk d e = true) : peq d e = pure (.bool (PyData.eqv d e)) := by unfold peq; rw [chk_true h]; rfl
theorem pne_of {d e : PyData} (h : eqOk d e = true) : pne d e = pure (.bool (!PyData.eqv d e)) := by unfold pne; rw [chk_true h]; rfl
@[simp] theorem peq_int (i j : Int) : peq (.int i) (.int j) = pure (.bool (decide (i = j))) := by
  rw [peq_of (by simp [eqOk, PyData.plain, PyData.depth])]
  simp only [PyData.eqv]
  rfl
@[simp] theorem pne_int (i j : Int) : pne (.int i) (.int j) = pure (.bool (!decide (i = j))) := by
  rw [pne_of (by simp [eqOk, PyData.plain, PyData.depth])]
  simp only [PyData.eqv]
  rfl
end DL
end
section
set_option Elab.async false
set_option linter.all false
set_option maxRecDepth 100000
set_option maxHeartbeats 4000000
set_option autoImplicit false
namespace L76
open PySem PySem.Spec PyProof.Rows L2 RZ DL
/-! ### words over a, b -/
def chr (b : Bool) : Nat := if b then 98 else 97
def eW (w : List Bool) : Str := ⟨(w.map chr).toArray⟩
def eC (b : Bool) : PyData := .str ⟨#[chr b]⟩
theorem eW_len (w : List Bool) : (eW w).length = w.length := by simp [eW, Str.length]
theorem eW_list (w : List Bool) : (eW w).cps.toList = w.map chr := by simp [eW]
theorem str_a : (Str.ofString "a") = ⟨#[97]⟩ := by decide +kernel
theorem str_b : (Str.ofString "b") = ⟨#[98]⟩ := by decide +kernel
theorem str_ab : (Str.ofString "ab") = ⟨#[97, 98]⟩ := by decide +kernel
theorem str_e : (Str.ofString "") = ⟨#[]⟩ := by decide +kernel
theorem str_star : (Str.ofString "*") = ⟨#[42]⟩ := by decide +kernel
theorem eC_t : eC true = .str "b" := by rw [str_b]; rfl
theorem eC_f : eC false = .str "a" := by rw [str_a]; rfl
theorem chars_eW (w : List Bool) : charsD (eW w) = w.map eC := by
  unfold charsD
  rw [eW_list, List.map_map]
  rfl
theorem items_eW {w : List Bool} (h : w.length ≤ 4096) : pitems (.str (eW w)) = pure (w.map eC) := by
  unfold pitems
  dsimp only
  rw [chk_true (by rw [eW_len]; exact Nat.le_trans h (by decide)), pure_bind, chars_eW]
theorem cutP_map {α β : Type} (g : α → β) (xs : List α) (l h : Option Int) : cutP (xs.map g) l h = (cutP xs l h).map g := by
  unfold cutP
  rw [List.length_map, List.map_take, List.map_drop]
theorem slice_eW {w : List Bool} (hw : w.length ≤ 4096) (l h : Option Int) : pslice (.str (eW w)) l h = pure (.str (eW (cutP w l h))) := by
  unfold pslice
  dsimp only
  rw [chk_true (by rw [eW_len]; exact Nat.le_trans hw (by decide)), pure_bind, eW_list, cutP_map]
  rfl
theorem cut_from (w : List Bool) (k : Nat) (h : k ≤ w.length) : cutP w (some (k : Int)) none = w.drop k := by
  unfold cutP
  rw [HT.sIx_nat, HT.sIx_none, show min k w.length = k by omega, List.take_of_length_le (by rw [List.length_drop]; omega)]
theorem cut_to (w : List Bool) (k : Nat) (h : k ≤ w.length) : cutP w none (some (k : Int)) = w.take k := by
  unfold cutP
  rw [HT.sIx_nat, HT.sIx_none, show min k w.length = k by omega, List.drop_zero, Nat.sub_zero]
theorem atI_map {α β : Type} (g : α → β) (xs : List α) (i : Int) : atI (xs.map g) i = (atI xs i).map g := by
  unfold atI
  rw [List.length_map]
  cases ixN xs.length i with
  | none => rfl
  | some j => exact List.getElem?_map
theorem idx_eW {w : List Bool} (h : w.length ≤ 4096) {i : Int} {b : Bool} (e : atI w i = some b) : pidx (.str (eW w)) (.int i) = pure (eC b) := by
  unfold pidx
  dsimp only
  rw [chk_true (by rw [eW_len]; exact Nat.le_trans h (by decide)), pure_bind, eW_list, atI_map, e]
  rfl
theorem index_ab (b : Bool) : pindexS "ab" (eC b) = pure (.int (if b then 1 else 0)) := by
  have h1 : Txt.index0 (Str.ofString "ab") ⟨#[97]⟩ = some 0 := by decide +kernel
  have h2 : Txt.index0 (Str.ofString "ab") ⟨#[98]⟩ = some 1 := by decide +kernel
  cases b with
  | true => show (do let k ← optM (Txt.index0 _ ⟨#[98]⟩); pure (.int (k : Nat)) : M PyData) = _; rw [h2]; rfl
  | false => show (do let k ← optM (Txt.index0 _ ⟨#[97]⟩); pure (.int (k : Nat)) : M PyData) = _; rw [h1]; rfl
theorem eqv_str (x y : Str) : PyData.eqv (.str x) (.str y) = (x == y) := rfl
theorem peq_str (x y : Str) : peq (.str x) (.str y) = pure (.bool (x == y)) := by rw [peq_of (by simp [eqOk, PyData.plain, PyData.depth])]; rfl
theorem peq_a (b : Bool) : peq (eC b) (.str "a") = pure (.bool (!b)) := by
  rw [str_a]
  unfold eC
  rw [peq_str]
  cases b <;> rfl
/-! ### products -/
def eP (n : Nat) (f : Nat → Nat → Nat) : PyData := .tuple ((List.range n).map fun i => .tuple ((List.range n).map fun j => .int (f i j : Nat)))
def Ok (n : Nat) (f : Nat → Nat → Nat) : Prop := 0 < n ∧ n ≤ 8 ∧ ∀ i j, i < n → j < n → f i j < n
theorem atI_range {β : Type} (g : Nat → β) {n i : Nat} (h : i < n) : atI ((List.range n).map g) (i : Int) = some (g i) :=
  atI_nat (by rw [List.getElem?_map, List.getElem?_range h]; rfl)
theorem idx_tuple {ds : List PyData} {i : Int} {d : PyData} (h : atI ds i = some d) : pidx (.tuple ds) (.int i) = pure d := by unfold pidx; dsimp only; rw [h]
theorem idx_list {ds : List PyData} {i : Int} {d : PyData} (h : atI ds i = some d) : pidx (.list ds) (.int i) = pure d := by unfold pidx; dsimp only; rw [h]
theorem idx_row (n : Nat) (f : Nat → Nat → Nat) {i : Nat} (h : i < n) : pidx (eP n f) (.int (i : Nat)) = pure (.tuple ((List.range n).map fun j => .int (f i j : Nat))) := idx_tuple (atI_range _ h)
theorem idx_at (n : Nat) (g : Nat → Nat) {j : Nat} (h : j < n) : pidx (.tuple ((List.range n).map fun j => .int (g j : Nat))) (.int (j : Nat)) = pure (.int (g j : Nat)) := idx_tuple (atI_range (fun j => PyData.int (g j : Nat)) h)
/-- a word's worth -/
def wf (f : Nat → Nat → Nat) (a b : Nat) (t : Nat) (r : List Bool) : Nat := r.foldl (fun t c => f t (if c then b else a)) t
def ww (f : Nat → Nat → Nat) (w : List Bool) (a b : Nat) : Nat := match w with
  | [] => 0
  | c :: r => wf f a b (if c then b else a) r
theorem wf_lt {n : Nat} {f : Nat → Nat → Nat} (o : Ok n f) {a b : Nat} (ha : a < n) (hb : b < n) : ∀ (r : List Bool) (t : Nat), t < n → wf f a b t r < n
  | [], t, h => h
  | c :: r, t, h => wf_lt o ha hb r _ (o.2.2 _ _ h (by cases c <;> assumption))
theorem ww_lt {n : Nat} {f : Nat → Nat → Nat} (o : Ok n f) {a b : Nat} (ha : a < n) (hb : b < n) : ∀ w : List Bool, ww f w a b < n
  | [] => o.1
  | c :: r => wf_lt o ha hb r _ (by cases c <;> assumption)
theorem tail_cut (c : Bool) (r : List Bool) : cutP (c :: r) (some 1) none = r := by
  have := cut_from (c :: r) 1 (by simp)
  exact this
/-- a loop over the letters -/
theorem loop_w {n : Nat} {f : Nat → Nat → Nat} (o : Ok n f) {a b : Nat} (ha : a < n) (hb : b < n) {g : PyData → PyData → M (Fl PyData PyData)} (hg : ∀ (c : Bool) (t : Nat), t < n → g (eC c) (.int (t : Nat)) = pure (.nx (.int (f t (if c then b else a) : Nat)))) :
    ∀ (r : List Bool) (t : Nat), t < n → pFor (fun d => pure d) g (r.map eC) (.int (t : Nat)) = pure (.inl (.int (wf f a b t r : Nat)))
  | [], t, h => rfl
  | c :: r, t, h => by
    rw [List.map_cons]
    unfold pFor
    rw [pure_bind, hg c t h, pure_bind]
    exact loop_w o ha hb hg r _ (o.2.2 _ _ h (by cases c <;> assumption))
theorem pair_idx (a b : Nat) (c : Bool) : pidx (.tuple [.int a, .int b]) (.int (if c then 1 else 0)) = pure (.int ((if c then b else a : Nat) : Int)) := by cases c <;> rfl
section
variable {n : Nat} {f : Nat → Nat → Nat} {a b : Nat} {w : List Bool}
theorem e_word_worth_in (o : Ok n f) (ha : a < n) (hb : b < n) (h0 : w ≠ []) (hw : w.length ≤ 4096) : m_word_worth_in (eP n f) (.str (eW w)) (.tuple [.int a, .int b]) = pure (.int (ww f w a b : Nat)) := by
  obtain ⟨c, r, rfl⟩ : ∃ c r, w = c :: r := by cases w with | nil => exact absurd rfl h0 | cons c r => exact ⟨c, r, rfl⟩
  have hr : r.length ≤ 4096 := by simp at hw; omega
  unfold m_word_worth_in b_word_worth_in
  simp only [mOp, mStr, mSl, pSome, pure_bind, bind_assoc, asS_str, asI_int, sFor, iAll]
  rw [idx_eW hw (i := 0) (b := c) (atI_nat (j := 0) rfl), pure_bind, index_ab, pure_bind, pair_idx, pure_bind, slice_eW hw, pure_bind, tail_cut, items_eW hr, pure_bind]
  rw [loop_w o ha hb (fun c t ht => ?_) r _ (by cases c <;> assumption)]
  · simp only [pure_bind, contL_inl, finish_rt]
    rfl
  · rw [idx_row n f ht, pure_bind, index_ab, pure_bind, pair_idx, pure_bind, idx_at n (f t) (by cases c <;> assumption), pure_bind]
theorem e_law_worth_of (o : Ok n f) (ha : a < n) (hb : b < n) (h0 : w ≠ []) (hw : w.length ≤ 4096) : m__law_worth_of (eP n f) (.str (eW w)) (.int a) (.int b) = pure (.int (ww f w a b : Nat)) := by
  obtain ⟨c, r, rfl⟩ : ∃ c r, w = c :: r := by cases w with | nil => exact absurd rfl h0 | cons c r => exact ⟨c, r, rfl⟩
  have hr : r.length ≤ 4096 := by simp at hw; omega
  have pk : ∀ c : Bool, (if (!c) = true then (pure (.int a) : M PyData) else pure (.int b)) = pure (.int ((if c then b else a : Nat) : Int)) := fun c => by cases c <;> rfl
  unfold m__law_worth_of b__law_worth_of
  simp only [mOp, mIf, DL.tCmp, mSl, pSome, pure_bind, bind_assoc, asI_int, sFor, iAll]
  rw [idx_eW hw (i := 0) (b := c) (atI_nat (j := 0) rfl)]
  simp only [pure_bind, peq_a, asB_bool, pk]
  rw [slice_eW hw, pure_bind, tail_cut, items_eW hr, pure_bind]
  rw [loop_w o ha hb (fun c t ht => ?_) r _ (by cases c <;> assumption)]
  · simp only [pure_bind, contL_inl, finish_rt]
    rfl
  · simp only [pure_bind, peq_a, asB_bool, pk]
    rw [idx_row n f ht, pure_bind, idx_at n (f t) (by cases c <;> assumption), pure_bind]
end
end L76
end
section
set_option Elab.async false
set_option linter.all false
set_option maxRecDepth 100000
set_option maxHeartbeats 4000000
set_option autoImplicit false
namespace L76
open PySem PySem.Spec PyProof.Rows L2 RZ DL
/-! ### the cup -/
def I76 (cs : List PyData) : Prop := ∃ x y : Int, cs = [.int x, .int y] ∧ 0 ≤ y ∧ y < 4294967296
theorem cup_at0 (a b : PyData) : mCup (pure (.int 0)) [a, b] = .ok (a, [a, b]) := rfl
theorem cup_at1 (a b : PyData) : mCup (pure (.int 1)) [a, b] = .ok (b, [a, b]) := rfl
theorem cup_set0 (a b d : PyData) : cupSet (.int 0) d [a, b] = .ok ((), [d, b]) := rfl
theorem cup_set1 (a b d : PyData) : cupSet (.int 1) d [a, b] = .ok ((), [a, d]) := rfl
theorem pmod_ok' {i j : Int} (h : 0 < j) : pmod (.int i) (.int j) = pure (.int (i % j)) := by unfold pmod; dsimp only; rw [chk_true h]; rfl
theorem pfdiv_ok' {i j : Int} (h : 0 < j) (h2 : j < 1073741824) : pfdiv (.int i) (.int j) = pure (.int (i / j)) := by unfold pfdiv; dsimp only; rw [chk_true ⟨h, h2⟩]; rfl
theorem pmul_ok' {i j : Int} (h : CMul i j) : pmul (.int i) (.int j) = pure (.int (i * j)) := by unfold pmul; dsimp only; rw [chk_true h]; rfl
theorem t_roll {m : Int} (h1 : 1 ≤ m) (h2 : m < 1073741824) : Tri I76 (m__law_roll (.int m)) fun d => ∃ r : Nat, d = .int (r : Nat) ∧ (r : Int) < m := by
  rintro cs ⟨x, y, rfl, hy1, hy2⟩
  have nn : ∀ z : Int, ∃ r : Nat, (PyData.int (z % m)) = .int (r : Nat) ∧ (r : Int) < m := fun z => by
    have a := Int.emod_nonneg z (show m ≠ 0 by omega)
    have b := Int.emod_lt_of_pos z (show 0 < m by omega)
    exact ⟨(z % m).toNat, by rw [Int.toNat_of_nonneg a], by rw [Int.toNat_of_nonneg a]; exact b⟩
  by_cases hx : 0 < x
  · refine ⟨.int (x % m), [.int (x / m), .int y], ?_, ⟨_, _, rfl, hy1, hy2⟩, nn x⟩
    have e0 : atI [PyData.int x, PyData.int y] 0 = some (.int x) := rfl
    unfold m__law_roll b__law_roll
    simp only [e0, decide_eq_true hx, if_true, DL.finish, castF, sIfR, DL.tCmp, mOp, mUn, sCupSet, sRet, mCup, pure_bind, M.bind_run, cupIx, pcmp_int, pint_int, pmod_ok' (show 0 < m by omega), pfdiv_ok' (show 0 < m by omega) h2, M.pure_run, asB_bool, cup_set0, cup_at0]
  · have hb1 := Int.emod_nonneg (y * 31051 + 7993) (show (2147483543 : Int) ≠ 0 by decide)
    have hb2 := Int.emod_lt_of_pos (y * 31051 + 7993) (show (0 : Int) < 2147483543 by decide)
    refine ⟨.int (((y * 31051 + 7993) % 2147483543 * ((y * 31051 + 7993) % 2147483543 + 229)) % 2147483587 / 821 % m), [.int x, .int ((y * 31051 + 7993) % 2147483543)], ?_, ⟨_, _, rfl, by omega, by omega⟩, nn _⟩
    have c1 : CMul y 31051 := .inr (by omega)
    generalize hz : (y * 31051 + 7993) % 2147483543 = z at *
    have c2 : CMul z (z + 229) := .inl (by omega)
    unfold m__law_roll b__law_roll
    have e0 : atI [PyData.int x, PyData.int y] 0 = some (.int x) := rfl
    have e1 : atI [PyData.int x, PyData.int y] 1 = some (.int y) := rfl
    have e2 : atI [PyData.int x, PyData.int z] 1 = some (.int z) := rfl
    simp only [DL.finish, castF, sIfR, DL.tCmp, mOp, mUn, sCupSet, sRet, mCup, pure_bind, M.bind_run, cupIx, pcmp_int, pint_int, M.pure_run, asB_bool, cup_set1, e0, e1, decide_eq_false hx, Bool.false_eq_true, if_false, pmul_ok' c1, padd_int, pmod_ok' (show (0 : Int) < 2147483543 by decide), hz, e2, pmul_ok' c2, pmod_ok' (show (0 : Int) < 2147483587 by decide), pfdiv_ok' (show (0 : Int) < 821 by decide) (by decide), pmod_ok' (show 0 < m by omega)]
theorem t_some {ds : List PyData} (h : ds ≠ []) (hl : ds.length < 1073741824) : Tri I76 (m__law_some (.list ds)) fun d => d ∈ ds := by
  unfold m__law_some b__law_some
  refine Tri.finish ?_
  simp only [sRet, mOp, mCallC, mUn, runs_cons, runs_nil, pure_bind, bind_assoc, plen_list]
  have hp : 0 < ds.length := List.length_pos_iff.mpr h
  refine (t_roll (m := ds.length) (by omega) (by omega)).bind fun x ⟨r, hx, hr⟩ => ?_
  subst hx
  have hr' : r < ds.length := by omega
  rw [idx_list (atI_nat (List.getElem?_eq_getElem hr')), pure_bind]
  exact Tri.pure (List.getElem_mem hr')
theorem t_some_ab : Tri I76 (m__law_some (.str "ab")) fun d => ∃ b, d = eC b := by
  unfold m__law_some b__law_some
  refine Tri.finish ?_
  have e : plen (.str "ab") = pure (.int (2 : Int)) := by
    unfold plen
    dsimp only
    rw [chk_true (by decide +kernel), pure_bind]
    rfl
  simp only [sRet, mOp, mCallC, mUn, runs_cons, runs_nil, pure_bind, bind_assoc, e]
  refine (t_roll (m := 2) (by omega) (by omega)).bind fun x ⟨r, hx, hr⟩ => ?_
  subst hx
  have eab : (PyData.str "ab") = .str (eW [false, true]) := by rw [str_ab]; rfl
  have hr' : r = 0 ∨ r = 1 := by omega
  rw [eab]
  rcases hr' with rfl | rfl
  · rw [idx_eW (by decide) (b := false) (atI_nat (j := 0) rfl), pure_bind]
    exact Tri.pure ⟨_, rfl⟩
  · rw [idx_eW (by decide) (b := true) (atI_nat (j := 1) rfl), pure_bind]
    exact Tri.pure ⟨_, rfl⟩
/-! ### a word by chance -/
theorem strsOf_eC : ∀ bs : List Bool, strsOf (bs.map eC) = some (bs.map fun b => ⟨#[chr b]⟩)
  | [] => rfl
  | b :: bs => by rw [List.map_cons]; show (strsOf (bs.map eC)).map _ = _; rw [strsOf_eC bs]; rfl
theorem str_cat (a b : Array Nat) : ((⟨a⟩ : Str) ++ (⟨b⟩ : Str)) = ⟨a ++ b⟩ := rfl
theorem join_chars (bs : List Bool) : Txt.join (Str.ofString "") (bs.map fun b => ⟨#[chr b]⟩) = eW bs := by
  show Builtin.Str.glued _ _ = _
  rw [StrLaws.glued_eq_join, str_e]
  induction bs with
  | nil => rfl
  | cons b bs ih =>
    cases bs with
    | nil => rfl
    | cons c r =>
      show (⟨#[chr b]⟩ : Str) ++ (⟨#[]⟩ : Str) ++ Str.join ⟨#[]⟩ ((c :: r).map fun b => ⟨#[chr b]⟩) = _
      rw [ih]
      show (⟨#[chr b]⟩ : Str) ++ (⟨#[]⟩ : Str) ++ (⟨((c :: r).map chr).toArray⟩ : Str) = ⟨((b :: c :: r).map chr).toArray⟩
      rw [str_cat, str_cat]
      congr 1
      simp
theorem join_eC {bs : List Bool} (h : bs.length ≤ 4096) : pjoin "" (.list (bs.map eC)) = pure (.str (eW bs)) := by
  unfold pjoin
  dsimp only
  rw [strsOf_eC, optM_some, pure_bind, chk_true ?_, pure_bind, join_chars]
  have e : ((bs.map fun b => (⟨#[chr b]⟩ : Str)).map (·.length)).sum = bs.length := by
    induction bs with
    | nil => rfl
    | cons b bs ih =>
      simp only [List.map_cons, List.sum_cons, List.length_cons]
      rw [ih (by simp at h; omega)]
      show 1 + bs.length = _
      omega
  rw [e, str_e]
  show _ + _ * 0 ≤ _
  omega
theorem all_eC : ∀ ys : List PyData, (∀ y ∈ ys, ∃ b, y = eC b) → ∃ bs : List Bool, ys = bs.map eC
  | [], _ => ⟨[], rfl⟩
  | y :: ys, h => by
    obtain ⟨b, rfl⟩ := h y (by simp)
    obtain ⟨bs, rfl⟩ := all_eC ys fun z hz => h z (by simp [hz])
    exact ⟨b :: bs, rfl⟩
theorem t_letters {k : Nat} : Tri I76 (lcM (fun d => pure d) (fun _ => pure true) (fun _ => mCallC (ap1 m__law_some) [pure (.str "ab")]) (rangeD 0 (k : Nat))) fun ys => ∃ bs : List Bool, ys = bs.map eC ∧ bs.length = k := by
  refine (Tri.lc (py := fun d => ∃ b, d = eC b) fun d _ => ?_).mono fun ys ⟨hl, hy⟩ => ?_
  · simp only [mCallC, runs_cons, runs_nil, pure_bind, bind_assoc]
    exact t_some_ab
  · obtain ⟨bs, rfl⟩ := all_eC ys hy
    refine ⟨bs, rfl, ?_⟩
    rw [List.length_map, rangeD_length] at hl
    omega
theorem t_word {m : Nat} (h1 : 1 ≤ m) (h2 : m ≤ 1000) : Tri I76 (m__law_word (.int (m : Nat))) fun d => ∃ w : List Bool, d = .str (eW w) ∧ w ≠ [] ∧ w.length ≤ m := by
  unfold m__law_word b__law_word
  refine Tri.finish ?_
  simp only [sRet, mOp, mStr, mLst, oLc, iRange1, pure_bind, bind_assoc, asS_str]
  simp only [mCallC, runs_cons, runs_nil, pure_bind, bind_assoc]
  refine (t_roll (m := m) (by omega) (by omega)).bind fun x ⟨r, hx, hr⟩ => ?_
  subst hx
  simp only [padd_int, pure_bind, asI_int]
  rw [chk_true ⟨by omega, by omega⟩, pure_bind]
  have e : (1 + (r : Nat) : Int) = ((1 + r : Nat) : Int) := by omega
  rw [e]
  refine (t_letters (k := 1 + r)).bind fun ys ⟨bs, hys, hl⟩ => ?_
  subst hys
  rw [join_eC (by omega), pure_bind]
  exact Tri.pure ⟨bs, rfl, fun z => by subst z; simp at hl; omega, by omega⟩
end L76
end
section
set_option Elab.async false
set_option linter.all false
set_option maxRecDepth 100000
set_option maxHeartbeats 4000000
set_option autoImplicit false
namespace L76
open PySem PySem.Spec PyProof.Rows L2 RZ DL
theorem lcM_all {f : PyData → M PyData} (y : PyData → PyData) (ds : List PyData) (h : ∀ d ∈ ds, f d = pure (y d)) : lcM (fun d => pure d) (fun _ => pure true) f ds = pure (ds.map y) := by
  have := lcM_map (f := f) id y ds h
  rwa [List.map_id] at this
theorem and_bool (a b : Bool) : mAnd (pure (.bool a)) (pure (.bool b)) = pure (.bool (a && b)) := by cases a <;> rfl
theorem and_ft {a : Bool} {m : M PyData} {b : Bool} (h : a = true → m = pure (.bool b)) : mAnd (pure (.bool a)) m = pure (.bool (a && b)) := by
  cases a with
  | false => rfl
  | true => rw [h rfl]; rfl
theorem not_bool (a : Bool) : mNot (pure (.bool a)) = pure (.bool (!a)) := rfl
theorem chain_le (a b c : Int) : mChain ple ple (pure (.int a)) (pure (.int b)) (pure (.int c)) = pure (.bool (decide (a ≤ b) && decide (b ≤ c))) := by
  simp only [mChain, pure_bind, pcmp_int, asB_bool]
  cases decide (a ≤ b) <;> rfl
theorem all_map {p : PyData → Bool} (ds : List PyData) : pall (.list (ds.map fun d => .bool (p d))) = pure (.bool (ds.all p)) := by
  unfold pall
  dsimp only
  have e : ds.map (fun d => PyData.bool (p d)) = (ds.map p).map .bool := by rw [List.map_map]; rfl
  rw [e, boolsOf_map, optM_some, pure_bind]
  congr 2
  rw [List.all_map]
  rfl
def isI : PyData → Bool
  | .int _ => true
  | _ => false
theorem e_is_integer {d : PyData} (h : d.plain = true) : m_is_integer d = pure (.bool (isI d)) := by
  unfold m_is_integer b_is_integer
  cases d with
  | dict _ => simp [PyData.plain] at h
  | _ => rfl
def wholeB (k : Int) : PyData → Bool
  | .int i => decide (0 ≤ i) && decide (i ≤ k)
  | _ => false
theorem e_is_whole {d : PyData} (h : d.plain = true) (k : Int) : m_is_whole d (.int 0) (.int k) = pure (.bool (wholeB k d)) := by
  unfold m_is_whole b_is_whole
  simp only [sRet, mCall, runs_cons, runs_nil, pure_bind, e_is_integer h, liftP_pure]
  cases d with
  | int i =>
    simp only [isI, asB_bool, pure_bind, if_true]
    have := chain_le 0 i k
    unfold mChain at this
    simp only [pure_bind, pcmp_int, asB_bool] at this
    simp only [mAnd, mChain, pure_bind, pcmp_int, asB_bool, if_true]
    cases h1 : decide (0 ≤ i) <;> simp [wholeB, h1]
  | _ => rfl
def tupB (lo hi : Int) : PyData → Bool
  | .tuple ds => decide (lo ≤ ds.length) && decide ((ds.length : Int) ≤ hi)
  | _ => false
theorem e_is_tuple_of {v : PyData} (h : v.plain = true) (lo hi : Int) : m_is_tuple_of v (.int lo) (.int hi) = pure (.bool (tupB lo hi v)) := by
  unfold m_is_tuple_of b_is_tuple_of
  cases v with
  | tuple ds =>
    have := chain_le lo ds.length hi
    show finish (sRet (mAnd (pure (.bool true)) (mChain ple ple (pure (.int lo)) (pure (.int ds.length)) (pure (.int hi))))) = _
    rw [this]
    rfl
  | dict _ => simp [PyData.plain] at h
  | _ => rfl
def thingsB (n lo hi : Int) : PyData → Bool
  | .tuple ds => decide (lo ≤ ds.length) && decide ((ds.length : Int) ≤ hi) && ds.all (wholeB (n - 1))
  | _ => false
theorem plainAll_mem : ∀ {ds : List PyData}, PyData.plainAll ds = true → ∀ d ∈ ds, d.plain = true
  | [], _, d, hd => by cases hd
  | x :: xs, h, d, hd => by
    have h' : x.plain = true ∧ PyData.plainAll xs = true := by simpa [PyData.plainAll] using h
    rcases List.mem_cons.mp hd with rfl | hd
    · exact h'.1
    · exact plainAll_mem h'.2 d hd
theorem plainAll_of : ∀ {ds : List PyData}, (∀ d ∈ ds, d.plain = true) → PyData.plainAll ds = true
  | [], _ => rfl
  | x :: xs, h => by
    rw [PyData.plainAll, h x (by simp), plainAll_of fun d hd => h d (by simp [hd])]
    rfl
theorem e_are_things {v : PyData} (h : v.plain = true) (n lo hi : Int) : m_are_things (.int n) v (.int lo) (.int hi) = pure (.bool (thingsB n lo hi v)) := by
  unfold m_are_things b_are_things
  have e1 : mCall (ap3 m_is_tuple_of) [pure v, pure (.int lo), pure (.int hi)] = pure (.bool (tupB lo hi v)) := by
    simp only [mCall, runs_cons, runs_nil, pure_bind, e_is_tuple_of h, liftP_pure]
  rw [e1]
  cases v with
  | tuple ds =>
    have hp : ∀ d ∈ ds, d.plain = true := plainAll_mem (by simpa [PyData.plain] using h)
    have e2 : mUn pall (mLst (oLc (iAll (pure (.tuple ds))) (fun d => pure d) (fun t1 => pure true) (fun t1 => mCall (ap3 m_is_whole) [pure t1, pure (.int 0), mOp psub (pure (.int n)) (pure (.int 1))]))) = pure (.bool (ds.all (wholeB (n - 1)))) := by
      simp only [mUn, mLst, oLc, iAll, pure_bind, pitems_tuple]
      rw [lcM_all (fun d => .bool (wholeB (n - 1) d)) ds fun d hd => ?_]
      · rw [pure_bind, pure_bind, all_map]
      · simp only [mCall, mOp, runs_cons, runs_nil, pure_bind, psub_int, e_is_whole (hp d hd), liftP_pure]
    rw [e2, and_bool]
    rfl
  | dict _ => simp [PyData.plain] at h
  | _ => rfl
/-! ### products, words -/
theorem eP_plain (n : Nat) (f : Nat → Nat → Nat) : (eP n f).plain = true := by
  unfold eP
  simp only [PyData.plain]
  refine plainAll_of fun d hd => ?_
  obtain ⟨i, _, rfl⟩ := List.mem_map.mp hd
  simp only [PyData.plain]
  refine plainAll_of fun d hd => ?_
  obtain ⟨j, _, rfl⟩ := List.mem_map.mp hd
  rfl
theorem e_fits_product {n : Nat} {f : Nat → Nat → Nat} (o : Ok n f) : m_fits_product (eP n f) = pure (.bool true) := by
  unfold m_fits_product b_fits_product
  have hp := eP_plain n f
  have e1 : mCall (ap3 m_is_tuple_of) [pure (eP n f), pure (.int 1), pure (.int 8)] = pure (.bool true) := by
    simp only [mCall, runs_cons, runs_nil, pure_bind, e_is_tuple_of hp, liftP_pure]
    congr 2
    unfold eP tupB
    simp only [List.length_map, List.length_range]
    have := o.1
    have := o.2.1
    rw [decide_eq_true (by omega), decide_eq_true (by omega)]
    rfl
  have el : plen (eP n f) = pure (.int n) := by unfold eP; rw [plen_tuple, List.length_map, List.length_range]
  have e2 : mUn pall (mLst (oLc (iAll (pure (eP n f))) (fun d => pure d) (fun t1 => pure true) (fun t1 => mCall (ap4 m_are_things) [mUn plen (pure (eP n f)), pure t1, mUn plen (pure (eP n f)), mUn plen (pure (eP n f))]))) = pure (.bool true) := by
    simp only [mUn, mLst, oLc, iAll, pure_bind, el]
    unfold eP
    rw [pitems_tuple, pure_bind, lcM_all (fun d => .bool (thingsB n n n d)) _ fun d hd => ?_]
    · rw [pure_bind, pure_bind, all_map]
      congr 2
      rw [List.all_map, List.all_eq_true]
      intro i hi
      have hi' := List.mem_range.mp hi
      show thingsB n n n (.tuple _) = true
      unfold thingsB
      simp only [List.length_map, List.length_range]
      rw [decide_eq_true (Int.le_refl _), List.all_map]
      show List.all _ _ = true
      rw [List.all_eq_true]
      intro j hj
      have hj' := List.mem_range.mp hj
      have := o.2.2 i j hi' hj'
      show (decide (0 ≤ ((f i j : Nat) : Int)) && decide (((f i j : Nat) : Int) ≤ (n : Int) - 1)) = true
      rw [decide_eq_true (by omega), decide_eq_true (by omega)]
      rfl
    · have hd' : d.plain = true := plainAll_mem (by have := hp; unfold eP at this; simpa [PyData.plain] using this) d hd
      simp only [mCall, mOp, runs_cons, runs_nil, pure_bind, e_are_things hd', liftP_pure]
  rw [e1, e2]
  rfl
theorem e_need_product {n : Nat} {f : Nat → Nat → Nat} (o : Ok n f) : m_need_product (eP n f) = pure .none := by
  unfold m_need_product b_need_product
  simp only [sIfR, tNo, tVal, mCall, runs_cons, runs_nil, pure_bind, e_fits_product o, liftP_pure, asB_bool, bind_assoc]
  rfl
theorem pin_ab (c : Bool) : pin (eC c) (.str "ab") = pure (.bool true) := by
  rw [str_ab]
  cases c <;> rfl
theorem len_eW {w : List Bool} (h : w.length ≤ 4096) : plen (.str (eW w)) = pure (.int w.length) := by
  unfold plen
  dsimp only
  rw [chk_true (by rw [eW_len]; exact Nat.le_trans h (by decide)), pure_bind, eW_len]
theorem e_is_word {w : List Bool} (h : w.length ≤ 4096) : m_is_word (.str (eW w)) (.str "ab") (.int 1) (.int 40) = pure (.bool (decide (1 ≤ (w.length : Int)) && decide ((w.length : Int) ≤ 40))) := by
  unfold m_is_word b_is_word
  have e1 : mUn (pisT "str") (pure (.str (eW w))) = pure (.bool true) := rfl
  have e2 : mChain ple ple (pure (.int 1)) (mUn plen (pure (.str (eW w)))) (pure (.int 40)) = pure (.bool (decide (1 ≤ (w.length : Int)) && decide ((w.length : Int) ≤ 40))) := by
    rw [← chain_le]
    simp only [mChain, mUn, pure_bind, len_eW h]
  have e3 : mUn pall (mLst (oLc (iAll (pure (.str (eW w)))) (fun d => pure d) (fun t1 => pure true) (fun t1 => mOp pin (pure t1) (pure (.str "ab"))))) = pure (.bool true) := by
    simp only [mUn, mLst, oLc, iAll, pure_bind, items_eW h, mOp]
    rw [lcM_map eC (fun _ => .bool true) w fun c _ => pin_ab c]
    rw [pure_bind, pure_bind]
    have : w.map (fun _ => PyData.bool true) = (w.map eC).map (fun d => .bool ((fun _ => true) d)) := by rw [List.map_map]; rfl
    rw [this, all_map, List.all_eq_true.mpr fun _ _ => rfl]
  rw [e1, e2, e3, and_bool, and_bool]
  simp only [sRet, pure_bind, DL.finish_rt, Bool.and_true, Bool.true_and]
theorem e_need_letter_word {w : List Bool} (h0 : w ≠ []) (h : w.length ≤ 40) : m_need_letter_word (.str (eW w)) = pure .none := by
  unfold m_need_letter_word b_need_letter_word
  have : 0 < w.length := List.length_pos_iff.mpr h0
  simp only [sIfR, tNo, tVal, mCall, runs_cons, runs_nil, pure_bind, e_is_word (show w.length ≤ 4096 by omega), liftP_pure, asB_bool, bind_assoc, decide_eq_true (show (1 : Int) ≤ (w.length : Int) by omega), decide_eq_true (show (w.length : Int) ≤ 40 by omega)]
  rfl
section
variable {n : Nat} {f : Nat → Nat → Nat} {a b : Nat} {w s : List Bool}
theorem e_need_two_words (o : Ok n f) (h0 : w ≠ []) (h : w.length ≤ 40) (h1 : s ≠ []) (h2 : s.length ≤ 40) : m_need_two_words (eP n f) (.str (eW w)) (.str (eW s)) = pure .none := by
  unfold m_need_two_words b_need_two_words
  simp only [mCall, runs_cons, runs_nil, pure_bind, e_need_product o, e_need_letter_word h0 h, e_need_letter_word h1 h2, liftP_pure, bind_assoc]
  rfl
theorem len_eP : plen (eP n f) = pure (.int n) := by unfold eP; rw [plen_tuple, List.length_map, List.length_range]
theorem e_need_word_pair (ha : a < n) (hb : b < n) : m_need_word_pair (eP n f) (.tuple [.int a, .int b]) = pure .none := by
  unfold m_need_word_pair b_need_word_pair
  have : thingsB n 2 2 (.tuple [.int a, .int b]) = true := by
    simp only [thingsB, List.length_cons, List.length_nil, List.all_cons, List.all_nil, wholeB]
    rw [decide_eq_true (show (0 : Int) ≤ (a : Int) by omega), decide_eq_true (show (a : Int) ≤ n - 1 by omega), decide_eq_true (show (0 : Int) ≤ (b : Int) by omega), decide_eq_true (show (b : Int) ≤ n - 1 by omega)]
    rfl
  simp only [sIfR, tNo, tVal, mCall, mUn, runs_cons, runs_nil, pure_bind, len_eP, e_are_things (v := .tuple [.int a, .int b]) rfl, liftP_pure, asB_bool, bind_assoc, this]
  rfl
theorem e_word_worth (o : Ok n f) (ha : a < n) (hb : b < n) (h0 : w ≠ []) (h : w.length ≤ 40) : m_word_worth (eP n f) (.str (eW w)) (.tuple [.int a, .int b]) = pure (.int (ww f w a b : Nat)) := by
  unfold m_word_worth b_word_worth
  simp only [mCall, runs_cons, runs_nil, pure_bind, e_need_product o, e_need_letter_word h0 h, e_need_word_pair (f := f) ha hb, e_word_worth_in o ha hb h0 (show w.length ≤ 4096 by omega), liftP_pure, bind_assoc, sRet, DL.finish_rt]
end
end L76
end
section
set_option Elab.async false
set_option linter.all false
set_option maxRecDepth 100000
set_option maxHeartbeats 4000000
set_option autoImplicit false
namespace L76
open PySem PySem.Spec PyProof.Rows L2 RZ DL
theorem flat_range {α : Type} (m : Nat) (hm : 0 < m) (g : Nat → Nat → α) : ∀ n : Nat, ((List.range n).flatMap fun i => (List.range m).map (g i)) = (List.range (n * m)).map fun k => g (k / m) (k % m)
  | 0 => by simp
  | n + 1 => by
    rw [List.range_succ, List.flatMap_append, flat_range m hm g n, Nat.succ_mul, List.range_add, List.map_append, List.map_map]
    congr 1
    rw [List.flatMap_cons, List.flatMap_nil, List.append_nil]
    refine List.map_congr_left fun j hj => ?_
    have hj' := List.mem_range.mp hj
    show g n j = g ((n * m + j) / m) ((n * m + j) % m)
    have e1 : (n * m + j) / m = n := by rw [Nat.add_comm, Nat.add_mul_div_right _ _ hm, Nat.div_eq_of_lt hj', Nat.zero_add]
    have e2 : (n * m + j) % m = j := by rw [Nat.add_comm, Nat.add_mul_mod_self_right, Nat.mod_eq_of_lt hj']
    rw [e1, e2]
def eI (k : Nat) : PyData := .int (k : Nat)
theorem rangeD_nat (n : Nat) : rangeD 0 (n : Int) = (List.range n).map eI := by
  unfold rangeD
  rw [show ((n : Int) - 0).toNat = n by omega]
  refine List.map_congr_left fun k _ => ?_
  show PyData.int (0 + (k : Int)) = .int (k : Nat)
  rw [Int.zero_add]
theorem range1_nat {n : Nat} (h : n ≤ 16777216) : iRange1 (pure (.int (n : Nat))) = pure ((List.range n).map eI) := by
  simp only [iRange1, pure_bind, asI_int]
  rw [chk_true ⟨by omega, by omega⟩, pure_bind, rangeD_nat]
def pr (a b : Nat) : PyData := .tuple [.int (a : Nat), .int (b : Nat)]
theorem div_lt {n k : Nat} (h : k < n * n) : k / n < n ∧ k % n < n := by
  have hn : 0 < n := by
    cases n with
    | zero => simp at h
    | succ n => omega
  exact ⟨Nat.div_lt_of_lt_mul h, Nat.mod_lt _ hn⟩
def pairs (n : Nat) : List PyData := (List.range (n * n)).map fun k => pr (k / n) (k % n)
theorem e_things_in_pairs {n : Nat} (h0 : 0 < n) (h : n ≤ 4096) : m_things_in_pairs (.int (n : Nat)) = pure (.list (pairs n)) := by
  unfold m_things_in_pairs b_things_in_pairs
  simp only [sRet, mLst, oLc2]
  rw [range1_nat (by omega)]
  rw [pure_bind, chk_true (by rw [List.length_map, List.length_range]; exact h), noexc_pure, pure_bind,
    lc2M_pairs eI pr (List.range n) (by rw [List.length_range]; exact h) (fun _ => rfl) (List.range n) (fun i _ j _ => by simp only [mTup, runs_cons, runs_nil, pure_bind]; rfl), flat_range n h0 pr n]
  rfl
section
variable {n : Nat} {f : Nat → Nat → Nat} {a b : Nat} {w s : List Bool}
def wk (n : Nat) (f : Nat → Nat → Nat) (w : List Bool) (k : Nat) : Nat := ww f w (k / n) (k % n)
def rowL (n : Nat) (f : Nat → Nat → Nat) (w : List Bool) : List PyData := (List.range (n * n)).map fun k => eI (wk n f w k)
theorem sq_le (o : Ok n f) : n * n ≤ 64 := Nat.mul_le_mul o.2.1 o.2.1
theorem e_row_of_word (o : Ok n f) (h0 : w ≠ []) (h : w.length ≤ 4096) : m_row_of_word (eP n f) (.str (eW w)) = pure (.tuple (rowL n f w)) := by
  unfold m_row_of_word b_row_of_word
  have hn := o.2.1
  have hn0 := o.1
  have e1 : iAll (mCall (ap1 m_things_in_pairs) [mUn plen (pure (eP n f))]) = pure (pairs n) := by
    simp only [iAll, mCall, mUn, runs_cons, runs_nil, pure_bind, len_eP, e_things_in_pairs hn0 (show n ≤ 4096 by omega), liftP_pure, pitems_list]
  simp only [sRet, mUn, mLst, oLc]
  rw [e1, pure_bind]
  unfold pairs
  rw [lcM_map (fun k => pr (k / n) (k % n)) (fun k => eI (wk n f w k)) _ fun k hk => ?_]
  · rfl
  · obtain ⟨ha, hb⟩ := div_lt (List.mem_range.mp hk)
    simp only [mCall, runs_cons, runs_nil, pure_bind]
    show liftP (m_word_worth_in _ _ (.tuple [.int _, .int _])) = _
    rw [e_word_worth_in o ha hb h0 h]
    rfl
theorem e_word_row (o : Ok n f) (h0 : w ≠ []) (h : w.length ≤ 40) : m_word_row (eP n f) (.str (eW w)) = pure (.tuple (rowL n f w)) := by
  unfold m_word_row b_word_row
  simp only [mCall, runs_cons, runs_nil, pure_bind, e_need_product o, e_need_letter_word h0 h, e_row_of_word o h0 (show w.length ≤ 4096 by omega), liftP_pure, bind_assoc, sRet, DL.finish_rt]
theorem e_law_row (o : Ok n f) (h0 : w ≠ []) (h : w.length ≤ 4096) : m__law_row (eP n f) (.str (eW w)) = pure (.tuple (rowL n f w)) := by
  unfold m__law_row b__law_row
  have hn := o.2.1
  have hn0 := o.1
  have e1 : iRange1 (mUn plen (pure (eP n f))) = pure ((List.range n).map eI) := by
    rw [← range1_nat (show n ≤ 16777216 by omega)]
    simp only [iRange1, mUn, pure_bind, len_eP]
  rw [e1]
  simp only [sFor, mLst, oLc, runs_nil, pure_bind]
  rw [pFor_st eI PyData.list (fun acc i => acc ++ (List.range n).map fun j => eI (ww f w i j)) (fun k acc => acc.length = k * n) (List.range n) 0 [] (by simp) fun i hi k acc hk hl => ?_]
  · rw [foldl_flat, flat_range n hn0 (fun i j => eI (ww f w i j)) n]
    simp only [pure_bind, contL_inl, mUn, sRet, List.nil_append, ptuple_list, DL.finish_rt]
    rfl
  · have hin := List.mem_range.mp hi
    have e2 : (do let xs ← lcM (fun d => pure d) (fun _ => pure true) (fun t4 => mCall (ap4 m__law_worth_of) [pure (eP n f), pure (.str (eW w)), pure (eI i), pure t4]) ((List.range n).map eI); pure (.list xs) : M PyData) = pure (.list ((List.range n).map fun j => eI (ww f w i j))) := by
      rw [lcM_map eI (fun j => eI (ww f w i j)) _ fun j hj => ?_]
      · rfl
      · simp only [mCall, runs_cons, runs_nil, pure_bind]
        show liftP (m__law_worth_of _ _ (.int (i : Nat)) (.int (j : Nat))) = _
        rw [e_law_worth_of o hin (List.mem_range.mp hj) h0 h]
        rfl
    have e3 : padd (.list acc) (.list ((List.range n).map fun j => eI (ww f w i j))) = pure (.list (acc ++ (List.range n).map fun j => eI (ww f w i j))) := by
      unfold padd
      dsimp only
      have : k * n ≤ 8 * 8 := by
        rw [List.length_range] at hk
        exact Nat.mul_le_mul (by omega) hn
      rw [chk_true (by rw [List.length_map, List.length_range, sizeLine_eq, hl]; omega), pure_bind]
    refine ⟨?_, ?_⟩
    · rw [e2]
      simp only [pure_bind, e3]
    · rw [List.length_append, List.length_map, List.length_range, hl, Nat.succ_mul]
/-! ### where two words part -/
def dif (n : Nat) (f : Nat → Nat → Nat) (w s : List Bool) (k : Nat) : Bool := !decide (((wk n f w k : Nat) : Int) = (wk n f s k : Nat))
def cntD (n : Nat) (f : Nat → Nat → Nat) (w s : List Bool) : PyData := match (List.range (n * n)).find? (dif n f w s) with
  | some k => pr (k / n) (k % n)
  | none => .none
def agr (n : Nat) (f : Nat → Nat → Nat) (w s : List Bool) : Bool := ((List.range (n * n)).find? (dif n f w s)).isNone
theorem e_word_counter_in (o : Ok n f) (h0 : w ≠ []) (h : w.length ≤ 4096) (h1 : s ≠ []) (h2 : s.length ≤ 4096) : m_word_counter_in (eP n f) (.str (eW w)) (.str (eW s)) = pure (cntD n f w s) := by
  unfold m_word_counter_in b_word_counter_in
  have hn := o.2.1
  have hn0 := o.1
  have e1 : iAll (mCall (ap1 m_things_in_pairs) [mUn plen (pure (eP n f))]) = pure (pairs n) := by
    simp only [iAll, mCall, mUn, runs_cons, runs_nil, pure_bind, len_eP, e_things_in_pairs hn0 (show n ≤ 4096 by omega), liftP_pure, pitems_list]
  simp only [sFor]
  rw [e1, pure_bind]
  unfold pairs
  rw [pFor_find (fun k => pr (k / n) (k % n)) (dif n f w s) (fun k => pr (k / n) (k % n)) () _ (fun _ _ => rfl) fun k hk => ?_]
  · unfold cntD
    cases (List.range (n * n)).find? (dif n f w s) with
    | some k => rfl
    | none => rfl
  · obtain ⟨ha, hb⟩ := div_lt (List.mem_range.mp hk)
    have ew : m_word_worth_in (eP n f) (.str (eW w)) (pr (k / n) (k % n)) = pure (.int (wk n f w k : Nat)) := e_word_worth_in o ha hb h0 h
    have es : m_word_worth_in (eP n f) (.str (eW s)) (pr (k / n) (k % n)) = pure (.int (wk n f s k : Nat)) := e_word_worth_in o ha hb h1 h2
    simp only [sIfR, DL.tCmp, mCall, runs_cons, runs_nil, pure_bind, bind_assoc, ew, es, liftP_pure, pne_int, asB_bool, sRet]
    unfold dif
    cases decide (((wk n f w k : Nat) : Int) = (wk n f s k : Nat)) <;> rfl
theorem e_word_counter (o : Ok n f) (h0 : w ≠ []) (h : w.length ≤ 40) (h1 : s ≠ []) (h2 : s.length ≤ 40) : m_word_counter (eP n f) (.str (eW w)) (.str (eW s)) = pure (cntD n f w s) := by
  unfold m_word_counter b_word_counter
  simp only [mCall, runs_cons, runs_nil, pure_bind, e_need_two_words o h0 h h1 h2, e_word_counter_in o h0 (show w.length ≤ 4096 by omega) h1 (show s.length ≤ 4096 by omega), liftP_pure, bind_assoc, sRet, DL.finish_rt]
theorem cnt_isN : pisN (cntD n f w s) .none = pure (.bool (agr n f w s)) := by
  unfold cntD agr
  cases (List.range (n * n)).find? (dif n f w s) with
  | some k => rfl
  | none => rfl
theorem e_do_words_agree (o : Ok n f) (h0 : w ≠ []) (h : w.length ≤ 40) (h1 : s ≠ []) (h2 : s.length ≤ 40) : m_do_words_agree (eP n f) (.str (eW w)) (.str (eW s)) = pure (.bool (agr n f w s)) := by
  unfold m_do_words_agree b_do_words_agree
  simp only [mCall, mOp, runs_cons, runs_nil, pure_bind, e_need_two_words o h0 h h1 h2, e_word_counter_in o h0 (show w.length ≤ 4096 by omega) h1 (show s.length ≤ 4096 by omega), liftP_pure, bind_assoc, sRet, cnt_isN, DL.finish_rt]
end
end L76
end
section
set_option Elab.async false
set_option linter.all false
set_option maxRecDepth 100000
set_option maxHeartbeats 4000000
set_option autoImplicit false
namespace L76
open PySem PySem.Spec PyProof.Rows L2 RZ DL
/-! ### terms -/
def st : PyData := .str "*"
def tq (c0 : Bool) (q : List Bool) : PyData := q.foldr (fun c t => .tuple [st, t, eC c]) (eC c0)
def tm (w : List Bool) : PyData := match w with
  | [] => .none
  | c :: r => tq c r.reverse
theorem e_law_term {w : List Bool} (h0 : w ≠ []) (hw : w.length ≤ 4096) : m__law_term (.str (eW w)) = pure (tm w) := by
  obtain ⟨c, r, rfl⟩ : ∃ c r, w = c :: r := by cases w with | nil => exact absurd rfl h0 | cons c r => exact ⟨c, r, rfl⟩
  have hr : r.length ≤ 4096 := by simp at hw; omega
  unfold m__law_term b__law_term
  simp only [mOp, mSl, pSome, pure_bind, bind_assoc, asI_int, sFor, iAll]
  rw [idx_eW hw (i := 0) (b := c) (atI_nat (j := 0) rfl), pure_bind, slice_eW hw, pure_bind, tail_cut, items_eW hr, pure_bind]
  rw [pFor_st eC (fun t : PyData => t) (fun t c => .tuple [st, t, eC c]) (fun _ _ => True) r 0 (eC c) trivial fun i _ j s _ _ => ⟨by simp only [mTup, runs_cons, runs_nil, pure_bind]; rfl, trivial⟩]
  simp only [pure_bind, contL_inl, DL.finish_rt, sRet]
  show pure (List.foldl _ _ r) = pure (List.foldr _ _ r.reverse)
  rw [List.foldr_reverse]
theorem tq_plain (c0 : Bool) : ∀ q : List Bool, (tq c0 q).plain = true
  | [] => rfl
  | c :: q => by
    show PyData.plainAll [st, tq c0 q, eC c] = true
    simp only [PyData.plainAll, tq_plain c0 q]
    rfl
theorem while_step {τ : Type} {c : τ → M Bool} {b : τ → M (Fl τ τ)} {t t' : τ} (hc : c t = pure true) (hb : b t = pure (.nx t')) : pWhile c b t = pWhile c b t' := by
  rw [pWhile_eq, hc, pure_bind, if_pos rfl, hb, pure_bind]
theorem while_end {τ : Type} {c : τ → M Bool} {b : τ → M (Fl τ τ)} {t : τ} (hc : c t = pure false) : pWhile c b t = pure (.inl t) := by
  rw [pWhile_eq, hc, pure_bind, if_neg (by simp)]
theorem pin_strs (z : Str) (ys : List Str) : pin (.str z) (.tuple (ys.map .str)) = pure (.bool (ys.any (· == z))) := by
  unfold pin pinB
  dsimp only
  have hp : PyData.plainAll (ys.map .str) = true := plainAll_of fun d hd => by
    obtain ⟨y, _, rfl⟩ := List.mem_map.mp hd
    rfl
  rw [chk_true (by
    unfold inOk
    rw [hp]
    have : PyData.depth (.str z) = 0 := by first | rfl | simp [PyData.depth]
    rw [this]
    simp [PyData.plain]), pure_bind, pure_bind, List.any_map]
  rfl
theorem isL_str (z : Str) : m_is_letter (.str z) = pure (.bool ((["a", "b", "c", "d"] : List Str).any (· == z))) := by
  unfold m_is_letter b_is_letter
  have e : mOp pin (pure (.str z)) (pure (.tuple [.str "a", .str "b", .str "c", .str "d"])) = pure (.bool ((["a", "b", "c", "d"] : List Str).any (· == z))) := by
    simp only [mOp, pure_bind]
    exact pin_strs z ["a", "b", "c", "d"]
  rw [e]
  rfl
theorem isL_eC (c : Bool) : m_is_letter (eC c) = pure (.bool true) := by
  unfold eC
  rw [isL_str]
  congr 2
  cases c <;> decide +kernel
theorem isL_st : m_is_letter st = pure (.bool false) := by
  unfold st
  rw [isL_str]
  congr 2
theorem isL_tup (ds : List PyData) : m_is_letter (.tuple ds) = pure (.bool false) := by
  unfold m_is_letter b_is_letter
  have : mUn (pisT "str") (pure (.tuple ds)) = pure (.bool false) := rfl
  rw [this]
  rfl
theorem ne_nil {ds : List PyData} (h : PyData.plainAll ds = true) : pne (.list ds) (.list []) = pure (.bool (!ds.isEmpty)) := by
  rw [pne_of]
  · cases ds with
    | nil => rfl
    | cons d ds => rfl
  · simp only [eqOk, PyData.plain, h, Bool.true_and, decide_eq_true_eq]
    have : PyData.depth (.list []) = 1 := rfl
    simp only [PyData.plainAll, Bool.and_true, Bool.true_and, decide_eq_true_eq]
    exact Nat.le_trans (Nat.min_le_right _ _) (by rw [this]; decide)
theorem todo_t {ds : List PyData} (h : PyData.plainAll ds = true) : peekB (DL.tCmp pne (pure (.list ds)) (mLst (runs []))) = pure (!ds.isEmpty) := by
  simp only [DL.tCmp, mLst, runs_nil, pure_bind, ne_nil h, asB_bool, peekB_pure]
theorem plainAll_app {ds es : List PyData} (h : PyData.plainAll ds = true) (g : PyData.plainAll es = true) : PyData.plainAll (ds ++ es) = true := plainAll_of fun d hd => (List.mem_append.mp hd).elim (plainAll_mem h d) (plainAll_mem g d)
theorem ne_app (td : List PyData) (x : PyData) : (td ++ [x]).isEmpty = false := by cases td <;> rfl
/-- the letters of a term, by the loop's body -/
theorem run_letters {c : List PyData × List PyData → M Bool} {b : List PyData × List PyData → M (Fl (List PyData × List PyData) (List PyData × List PyData))}
    (hc : ∀ fo td, PyData.plainAll td = true → c (fo, td) = pure (!td.isEmpty)) (h1 : ∀ fo td ch, fo.length + td.length + 1 ≤ 40 → b (fo, td ++ [eC ch]) = pure (.nx (fo ++ [eC ch], td)))
    (h2 : ∀ fo td t ch, t.plain = true → fo.length + td.length + 2 ≤ 40 → b (fo, td ++ [.tuple [st, t, eC ch]]) = pure (.nx (fo, td ++ [eC ch, t]))) (c0 : Bool) : ∀ (q : List Bool) (fo td : List PyData), PyData.plainAll td = true → fo.length + td.length + q.length + 1 ≤ 40 →
      pWhile c b (fo, td ++ [tq c0 q]) = pWhile c b (fo ++ (c0 :: q.reverse).map eC, td)
  | [], fo, td, hp, hl => by
    have hp1 : PyData.plainAll (td ++ [eC c0]) = true := plainAll_app hp rfl
    show pWhile c b (fo, td ++ [eC c0]) = _
    rw [while_step (t' := (fo ++ [eC c0], td)) (by rw [hc _ _ hp1, ne_app]; rfl) (h1 fo td c0 hl)]
    rfl
  | ch :: q, fo, td, hp, hl => by
    rw [List.length_cons] at hl
    have hp1 : PyData.plainAll (td ++ [.tuple [st, tq c0 q, eC ch]]) = true := plainAll_app hp (by
      have := tq_plain c0 (ch :: q)
      show (PyData.plain (tq c0 (ch :: q)) && true) = true
      rw [this]; rfl)
    show pWhile c b (fo, td ++ [.tuple [st, tq c0 q, eC ch]]) = _
    rw [while_step (t' := (fo, td ++ [eC ch, tq c0 q])) (by rw [hc _ _ hp1, ne_app]; rfl) (h2 fo td (tq c0 q) ch (tq_plain c0 q) (by omega))]
    have e : td ++ [eC ch, tq c0 q] = (td ++ [eC ch]) ++ [tq c0 q] := by simp
    have hp2 : PyData.plainAll (td ++ [eC ch]) = true := plainAll_app hp rfl
    rw [e, run_letters hc h1 h2 c0 q fo (td ++ [eC ch]) hp2 (by rw [List.length_append]; show fo.length + (td.length + 1) + q.length + 1 ≤ 40; omega)]
    rw [while_step (t' := ((fo ++ (c0 :: q.reverse).map eC) ++ [eC ch], td)) (by rw [hc _ _ hp2, ne_app]; rfl) (h1 _ td ch (by rw [List.length_append, List.length_map, List.length_cons, List.length_reverse]; omega))]
    rw [List.append_assoc]
    congr 2
    simp
theorem padd_list (xs ys : List PyData) : padd (.list xs) (.list ys) = (do chk (xs.length + ys.length ≤ sizeLine); pure (.list (xs ++ ys))) := rfl
theorem peek_len (a b : List PyData) : peekB (DL.tCmp pgt (mOp padd (mUn plen (pure (.list a))) (mUn plen (pure (.list b)))) (pure (.int 40))) = pure (decide (40 < (a.length : Int) + b.length)) := by
  simp only [DL.tCmp, mOp, mUn, pure_bind, plen_list, padd_int, pcmp_int, asB_bool, peekB_pure]
theorem oAdd_run {ds es : List PyData} (h : ds.length + es.length ≤ sizeLine) : oAdd (pure (.list ds)) (pure (.list es)) = pure (ds ++ es) := by
  simp only [oAdd, pure_bind]
  unfold padd
  dsimp only
  rw [chk_true h, pure_bind, pure_bind]
  rfl
theorem e_letters_in {w : List Bool} (h0 : w ≠ []) (hw : w.length ≤ 40) : m_letters_in (tm w) = pure (.list (w.map eC)) := by
  obtain ⟨c0, r, rfl⟩ : ∃ c r, w = c :: r := by cases w with | nil => exact absurd rfl h0 | cons c r => exact ⟨c, r, rfl⟩
  unfold m_letters_in b_letters_in
  simp only [sPar, runs_cons, runs_nil, pure_bind, sWhile]
  have key := fun c b hc h1 h2 => run_letters (c := c) (b := b) hc h1 h2 c0 r.reverse [] [] rfl (by simp at hw ⊢; omega)
  show DL.finish (pWhile _ _ ([], [] ++ [tq c0 r.reverse]) >>= _) = _
  rw [key _ _ ?_ ?_ ?_]
  · rw [while_end (by exact todo_t (ds := []) rfl), pure_bind, contL_inl]
    simp only [sRet, pure_bind, DL.finish_rt, List.nil_append, List.reverse_reverse]
  · intro fo td hp
    exact todo_t hp
  · intro fo td ch hl
    have hd : decide (40 < ((fo ++ [eC ch]).length : Int) + td.length) = false := decide_eq_false (by rw [List.length_append]; simp; omega)
    simp only [sPop, List.getLast?_append, List.getLast?_singleton, Option.some_or, optM_some, pure_bind, sIf, tVal, mCall, runs_cons, runs_nil, isL_eC, liftP_pure, asB_bool, bind_assoc, if_true, sApp]
    rw [chk_true (by rw [sizeLine_eq]; omega), pure_bind, thenF_nx]
    simp only [sIfR, List.dropLast_concat, plen_list, padd_int, pcmp_int, asB_bool, peekB_pure, hd, pure_bind, Bool.false_eq_true, if_false]
  · intro fo td t ch ht hl
    have hd : decide (40 < (fo.length : Int) + (td ++ [eC ch, t]).length) = false := decide_eq_false (by rw [List.length_append]; simp; omega)
    have e3 : m_is_tuple_of (.tuple [st, t, eC ch]) (.int 3) (.int 3) = pure (.bool true) := by
      rw [e_is_tuple_of (by show PyData.plainAll [st, t, eC ch] = true; simp only [PyData.plainAll, ht]; rfl)]
      rfl
    have i0 : pidx (.tuple [st, t, eC ch]) (.int 0) = pure st := rfl
    have i1 : pidx (.tuple [st, t, eC ch]) (.int 1) = pure t := rfl
    have i2 : pidx (.tuple [st, t, eC ch]) (.int 2) = pure (eC ch) := rfl
    have p0 : pisT "str" st = pure (.bool true) := rfl
    have q0 : peq st (.str "*") = pure (.bool true) := rfl
    simp only [sPop, List.getLast?_append, List.getLast?_singleton, Option.some_or, optM_some, pure_bind, sIf, tVal, DL.tAnd, DL.tCmp, mOp, mUn, mLst, mCall, runs_cons, runs_nil, isL_tup, e3, i0, i1, i2, p0, q0, liftP_pure, asB_bool, bind_assoc, Bool.false_eq_true, if_false, if_true, List.dropLast_concat, padd_list]
    rw [chk_true (by simp [sizeLine_eq]; omega)]
    simp only [pure_bind, asL_list, thenF_nx, sIfR, plen_list, padd_int, pcmp_int, asB_bool, peekB_pure, hd, Bool.false_eq_true, if_false]
end L76
end
section
set_option Elab.async false
set_option linter.all false
set_option maxRecDepth 100000
set_option maxHeartbeats 4000000
set_option autoImplicit false
namespace L76
open PySem PySem.Spec PyProof.Rows L2 RZ DL
/-! ### steps -/
def sq (c0 : Bool) : List Bool → List PyData
  | [] => [eC c0]
  | c :: q => sq c0 q ++ [eC c, st]
theorem sq_len (c0 : Bool) : ∀ q : List Bool, (sq c0 q).length = 2 * q.length + 1
  | [] => rfl
  | c :: q => by rw [sq, List.length_append, sq_len c0 q]; simp; omega
theorem run_steps {c : List PyData × List PyData → M Bool} {b : List PyData × List PyData → M (Fl (List PyData × List PyData) (List PyData × List PyData))}
    (hc : ∀ fo td, PyData.plainAll td = true → c (fo, td) = pure (!td.isEmpty)) (h1 : ∀ fo td x, (x = st ∨ ∃ ch, x = eC ch) → fo.length ≤ 4096 → b (fo, td ++ [x]) = pure (.nx (fo ++ [x], td)))
    (h2 : ∀ fo td t ch, t.plain = true → td.length ≤ 4096 → b (fo, td ++ [.tuple [st, t, eC ch]]) = pure (.nx (fo, td ++ [st, eC ch, t]))) (c0 : Bool) : ∀ (q : List Bool) (fo td : List PyData), PyData.plainAll td = true → fo.length + 2 * q.length + 2 ≤ 4096 → td.length + 2 * q.length ≤ 4096 →
      pWhile c b (fo, td ++ [tq c0 q]) = pWhile c b (fo ++ sq c0 q, td)
  | [], fo, td, hp, hl, ht => by
    have hp1 : PyData.plainAll (td ++ [eC c0]) = true := plainAll_app hp rfl
    show pWhile c b (fo, td ++ [eC c0]) = _
    rw [while_step (t' := (fo ++ [eC c0], td)) (by rw [hc _ _ hp1, ne_app]; rfl) (h1 fo td _ (.inr ⟨c0, rfl⟩) (by omega))]
    rfl
  | ch :: q, fo, td, hp, hl, ht => by
    rw [List.length_cons] at hl ht
    have hp1 : PyData.plainAll (td ++ [.tuple [st, tq c0 q, eC ch]]) = true := plainAll_app hp (by
      have := tq_plain c0 (ch :: q)
      show (PyData.plain (tq c0 (ch :: q)) && true) = true
      rw [this]; rfl)
    show pWhile c b (fo, td ++ [.tuple [st, tq c0 q, eC ch]]) = _
    rw [while_step (t' := (fo, td ++ [st, eC ch, tq c0 q])) (by rw [hc _ _ hp1, ne_app]; rfl) (h2 fo td (tq c0 q) ch (tq_plain c0 q) (by omega))]
    have e : td ++ [st, eC ch, tq c0 q] = (td ++ [st, eC ch]) ++ [tq c0 q] := by simp
    have e2 : td ++ [st, eC ch] = (td ++ [st]) ++ [eC ch] := by simp
    have hp3 : PyData.plainAll (td ++ [st]) = true := plainAll_app hp rfl
    have hp2 : PyData.plainAll ((td ++ [st]) ++ [eC ch]) = true := plainAll_app hp3 rfl
    have hls := sq_len c0 q
    rw [e, e2, run_steps hc h1 h2 c0 q fo ((td ++ [st]) ++ [eC ch]) hp2 (by omega) (by rw [List.length_append, List.length_append]; show td.length + 1 + 1 + 2 * q.length ≤ 4096; omega)]
    rw [while_step (t' := ((fo ++ sq c0 q) ++ [eC ch], td ++ [st])) (by rw [hc _ _ hp2, ne_app]; rfl) (h1 _ _ _ (.inr ⟨ch, rfl⟩) (by rw [List.length_append]; omega))]
    rw [while_step (t' := (((fo ++ sq c0 q) ++ [eC ch]) ++ [st], td)) (by rw [hc _ _ hp3, ne_app]; rfl) (h1 _ _ _ (.inl rfl) (by rw [List.length_append, List.length_append]; show fo.length + (sq c0 q).length + 1 ≤ 4096; omega))]
    rw [List.append_assoc, List.append_assoc]
    rfl
theorem peq_tup_str {ds : List PyData} (h : PyData.plainAll ds = true) (z : Str) : peq (.tuple ds) (.str z) = pure (.bool false) := by
  rw [peq_of]
  · rfl
  · have : PyData.depth (.str z) = 0 := by first | rfl | simp [PyData.depth]
    simp only [eqOk, PyData.plain, h, this, Nat.min_zero, Bool.and_self, Nat.zero_le, decide_true]
theorem peq_eC_st (c : Bool) : peq (eC c) (.str "*") = pure (.bool false) := by
  unfold eC
  rw [peq_str]
  congr 2
  cases c <;> decide +kernel
theorem peq_st_st : peq st (.str "*") = pure (.bool true) := by
  unfold st
  rw [peq_str]
  congr 2
theorem e_steps_in {w : List Bool} (h0 : w ≠ []) (hw : w.length ≤ 1000) : ∃ c0 q, w = c0 :: q.reverse ∧ m_steps_in (tm w) = pure (.list (sq c0 q)) := by
  obtain ⟨c0, r, rfl⟩ : ∃ c r, w = c :: r := by cases w with | nil => exact absurd rfl h0 | cons c r => exact ⟨c, r, rfl⟩
  refine ⟨c0, r.reverse, by rw [List.reverse_reverse], ?_⟩
  have hr : r.length < 1000 := by rw [List.length_cons] at hw; omega
  unfold m_steps_in b_steps_in
  simp only [sPar, runs_cons, runs_nil, pure_bind, sWhile]
  have key := fun c b hc h1 h2 => run_steps (c := c) (b := b) hc h1 h2 c0 r.reverse [] [] rfl (by rw [List.length_reverse]; show 0 + _ + 2 ≤ _; omega) (by rw [List.length_reverse]; show 0 + _ ≤ _; omega)
  show DL.finish (pWhile _ _ ([], [] ++ [tq c0 r.reverse]) >>= _) = _
  rw [key _ _ ?_ ?_ ?_]
  · rw [while_end (by exact todo_t (ds := []) rfl), pure_bind, contL_inl]
    simp only [sRet, pure_bind, DL.finish_rt, List.nil_append]
  · intro fo td hp
    exact todo_t hp
  · intro fo td x hx hl
    have hz : fo.length < sizeLine := by rw [sizeLine_eq]; omega
    rcases hx with rfl | ⟨ch, rfl⟩
    · simp only [sPop, List.getLast?_append, List.getLast?_singleton, Option.some_or, optM_some, pure_bind, sIf, DL.tOr, DL.tCmp, tVal, mCall, runs_cons, runs_nil, peq_st_st, liftP_pure, asB_bool, bind_assoc, if_true, sApp]
      rw [chk_true hz, pure_bind, thenF_nx]
      simp only [List.dropLast_concat]
    · simp only [sPop, List.getLast?_append, List.getLast?_singleton, Option.some_or, optM_some, pure_bind, sIf, DL.tOr, DL.tCmp, tVal, mCall, runs_cons, runs_nil, peq_eC_st, isL_eC, liftP_pure, asB_bool, bind_assoc, if_true, Bool.false_eq_true, if_false, sApp]
      rw [chk_true hz, pure_bind, thenF_nx]
      simp only [List.dropLast_concat]
  · intro fo td t ch ht hl
    have hpl : PyData.plainAll [st, t, eC ch] = true := by simp only [PyData.plainAll, ht]; rfl
    have i1 : pidx (.tuple [st, t, eC ch]) (.int 1) = pure t := rfl
    have i2 : pidx (.tuple [st, t, eC ch]) (.int 2) = pure (eC ch) := rfl
    simp only [sPop, List.getLast?_append, List.getLast?_singleton, Option.some_or, optM_some, pure_bind, sIf, tVal, DL.tOr, DL.tCmp, mOp, mUn, mLst, mCall, runs_cons, runs_nil, isL_tup, peq_tup_str hpl, i1, i2, liftP_pure, asB_bool, bind_assoc, Bool.false_eq_true, if_false, List.dropLast_concat, padd_list]
    rw [chk_true (by simp [sizeLine_eq]; omega)]
    simp only [pure_bind, asL_list, thenF_nx]
    rfl
/-! ### what the steps come to -/
def pick (a b : Nat) (c : Bool) : Nat := if c then b else a
def wq (f : Nat → Nat → Nat) (a b : Nat) (c0 : Bool) (q : List Bool) : Nat := q.foldr (fun c t => f t (pick a b c)) (pick a b c0)
theorem wq_ww (f : Nat → Nat → Nat) (a b : Nat) (c0 : Bool) (q : List Bool) : ww f (c0 :: q.reverse) a b = wq f a b c0 q := by
  show List.foldl _ _ q.reverse = _
  rw [List.foldl_reverse]
  rfl
theorem pick_lt {n a b : Nat} (ha : a < n) (hb : b < n) (c : Bool) : pick a b c < n := by cases c <;> assumption
theorem wq_lt {n : Nat} {f : Nat → Nat → Nat} (o : Ok n f) {a b : Nat} (ha : a < n) (hb : b < n) (c0 : Bool) : ∀ q, wq f a b c0 q < n
  | [] => pick_lt ha hb c0
  | c :: q => o.2.2 _ _ (wq_lt o ha hb c0 q) (pick_lt ha hb c)
theorem run_worth {n : Nat} {f : Nat → Nat → Nat} (o : Ok n f) {a b : Nat} (ha : a < n) (hb : b < n) {g : PyData → List PyData → M (Fl (List PyData) (List PyData))}
    (h1 : ∀ S c, S.length ≤ 4096 → g (eC c) S = pure (.nx (S ++ [eI (pick a b c)]))) (h2 : ∀ S v x, v < n → x < n → S.length ≤ 4096 → g st ((S ++ [eI v]) ++ [eI x]) = pure (.nx (S ++ [eI (f v x)]))) (c0 : Bool) :
    ∀ (q : List Bool) (S ys : List PyData), S.length < 4096 → pFor (fun d => pure d) g (sq c0 q ++ ys) S = pFor (fun d => pure d) g ys (S ++ [eI (wq f a b c0 q)])
  | [], S, ys, hS => by
    have e : pFor (fun d => pure d) g (eC c0 :: ys) S = pFor (fun d => pure d) g ys (S ++ [eI (pick a b c0)]) := by
      rw [pFor, pure_bind, h1 S c0 (by omega), pure_bind]
    exact e
  | c :: q, S, ys, hS => by
    have e1 : pFor (fun d => pure d) g (eC c :: st :: ys) (S ++ [eI (wq f a b c0 q)]) = pFor (fun d => pure d) g (st :: ys) ((S ++ [eI (wq f a b c0 q)]) ++ [eI (pick a b c)]) := by
      rw [pFor, pure_bind, h1 _ c (by rw [List.length_append]; show S.length + 1 ≤ _; omega), pure_bind]
    have e2 : pFor (fun d => pure d) g (st :: ys) ((S ++ [eI (wq f a b c0 q)]) ++ [eI (pick a b c)]) = pFor (fun d => pure d) g ys (S ++ [eI (f (wq f a b c0 q) (pick a b c))]) := by
      rw [pFor, pure_bind, h2 S _ _ (wq_lt o ha hb c0 q) (pick_lt ha hb c) (by omega), pure_bind]
    rw [sq, List.append_assoc, run_worth o ha hb h1 h2 c0 q S _ hS]
    show pFor _ _ (eC c :: st :: ys) _ = _
    rw [e1, e2]
    rfl
def th (a b : Nat) : PyData := .tuple [eI a, eI b, eI 0, eI 0]
theorem index_K (c : Bool) : pindexK ["a", "b", "c", "d"] (eC c) = pure (.int (if c then 1 else 0)) := by
  cases c <;> rfl
theorem th_idx (a b : Nat) (c : Bool) : pidx (th a b) (.int (if c then 1 else 0)) = pure (eI (pick a b c)) := by cases c <;> rfl
section
variable {n : Nat} {f : Nat → Nat → Nat} {a b : Nat}
theorem e_worth_by (o : Ok n f) (ha : a < n) (hb : b < n) (c0 : Bool) (q : List Bool) : m_worth_by (eP n f) (.list (sq c0 q)) (th a b) = pure (eI (wq f a b c0 q)) := by
  unfold m_worth_by b_worth_by
  simp only [runs_nil, pure_bind, sFor, iAll, pitems_list]
  have key := fun g h1 h2 => run_worth o ha hb (g := g) h1 h2 c0 q [] [] (by decide)
  rw [List.append_nil] at key
  rw [key _ ?_ ?_]
  · simp only [pFor, pure_bind, contL_inl, sRet]
    rfl
  · intro S c hS
    simp only [sIf, DL.tCmp, pure_bind, peq_eC_st, asB_bool, Bool.false_eq_true, if_false, sApp, mOp, mUn, index_K, th_idx, bind_assoc]
    rw [chk_true (by rw [sizeLine_eq]; omega), pure_bind, thenF_nx]
  · intro S v x hv hx hS
    have d1 : ((S ++ [eI v]) ++ [eI x]).getLast? = some (eI x) := by simp
    have d2 : ((S ++ [eI v]) ++ [eI x]).dropLast = S ++ [eI v] := by simp
    have d3 : (S ++ [eI v]).getLast? = some (eI v) := by simp
    have d4 : (S ++ [eI v]).dropLast = S := by simp
    have r1 : pidx (eP n f) (eI v) = pure (.tuple ((List.range n).map fun j => .int (f v j : Nat))) := idx_row n f hv
    have r2 : pidx (.tuple ((List.range n).map fun j => .int (f v j : Nat))) (eI x) = pure (eI (f v x)) := idx_at n (f v) hx
    simp only [sIf, DL.tCmp, pure_bind, peq_st_st, asB_bool, if_true, sPop2, d1, d2, d3, d4, optM_some, sApp, mOp, r1, r2, bind_assoc]
    rw [chk_true (by rw [d2, d4, sizeLine_eq]; omega), pure_bind, thenF_nx]
end
end L76
end
section
set_option Elab.async false
set_option linter.all false
set_option maxRecDepth 100000
set_option maxHeartbeats 4000000
set_option autoImplicit false
namespace L76
open PySem PySem.Spec PyProof.Rows L2 RZ DL
theorem e_fits_term {w : List Bool} (h0 : w ≠ []) (hw : w.length ≤ 40) : m_fits_term (tm w) = pure (.bool true) := by
  unfold m_fits_term b_fits_term
  simp only [mOp, mCall, runs_cons, runs_nil, pure_bind, e_letters_in h0 hw, liftP_pure, pnotN_list, sRet, DL.finish_rt]
theorem e_need_term {w : List Bool} (h0 : w ≠ []) (hw : w.length ≤ 40) : m_need_term (tm w) = pure .none := by
  unfold m_need_term b_need_term
  simp only [sIfR, tNo, tVal, mCall, runs_cons, runs_nil, pure_bind, e_fits_term h0 hw, liftP_pure, asB_bool, bind_assoc]
  rfl
theorem tm_plain {w : List Bool} (h0 : w ≠ []) : (tm w).plain = true := by
  cases w with
  | nil => exact absurd rfl h0
  | cons c r => exact tq_plain c _
def ru (w s : List Bool) : PyData := .tuple [tm w, tm s]
section
variable {n : Nat} {f : Nat → Nat → Nat} {a b : Nat} {w s : List Bool}
theorem ru_plain (h0 : w ≠ []) (h1 : s ≠ []) : (ru w s).plain = true := by
  show PyData.plainAll [tm w, tm s] = true
  simp only [PyData.plainAll, tm_plain h0, tm_plain h1]
  rfl
theorem ru0 (w s : List Bool) : pidx (ru w s) (.int 0) = pure (tm w) := rfl
theorem ru1 (w s : List Bool) : pidx (ru w s) (.int 1) = pure (tm s) := rfl
theorem e_need_rule (h0 : w ≠ []) (hw : w.length ≤ 40) (h1 : s ≠ []) (hs : s.length ≤ 40) : m_need_rule (ru w s) = pure .none := by
  have e : m_fits_rule (ru w s) = pure (.bool true) := by
    unfold m_fits_rule b_fits_rule
    have t2 : tupB 2 2 (ru w s) = true := rfl
    simp only [mAnd, mOp, mCall, runs_cons, runs_nil, pure_bind, e_is_tuple_of (ru_plain h0 h1), t2, ru0, ru1, e_fits_term h0 hw, e_fits_term h1 hs, liftP_pure, asB_bool, if_true, sRet, DL.finish_rt]
  unfold m_need_rule b_need_rule
  simp only [sIfR, tNo, tVal, mCall, runs_cons, runs_nil, pure_bind, e, liftP_pure, asB_bool, bind_assoc]
  rfl
theorem e_worth_in (o : Ok n f) (ha : a < n) (hb : b < n) (h0 : w ≠ []) (hw : w.length ≤ 1000) : m_worth_in (eP n f) (tm w) (th a b) = pure (eI (ww f w a b)) := by
  obtain ⟨c0, q, rfl, e⟩ := e_steps_in h0 hw
  unfold m_worth_in b_worth_in
  simp only [mCall, runs_cons, runs_nil, pure_bind, e, e_worth_by o ha hb, liftP_pure, sRet, DL.finish_rt, wq_ww]
theorem th_plain (a b : Nat) : (th a b).plain = true := rfl
theorem e_term_worth (o : Ok n f) (ha : a < n) (hb : b < n) (h0 : w ≠ []) (hw : w.length ≤ 40) : m_term_worth (eP n f) (tm w) (th a b) = pure (eI (ww f w a b)) := by
  unfold m_term_worth b_term_worth
  have hn := o.1
  have ht : thingsB n (([PyData.str "a", .str "b", .str "c", .str "d"].length : Nat) : Int) (([PyData.str "a", .str "b", .str "c", .str "d"].length : Nat) : Int) (th a b) = true := by
    show (decide ((4 : Int) ≤ 4) && decide ((4 : Int) ≤ 4) && ((decide (0 ≤ (a : Int)) && decide ((a : Int) ≤ n - 1)) && ((decide (0 ≤ (b : Int)) && decide ((b : Int) ≤ n - 1)) && ((decide (0 ≤ ((0 : Nat) : Int)) && decide (((0 : Nat) : Int) ≤ n - 1)) && ((decide (0 ≤ ((0 : Nat) : Int)) && decide (((0 : Nat) : Int) ≤ n - 1)) && true))))) = true
    rw [decide_eq_true (show (0 : Int) ≤ (a : Int) by omega), decide_eq_true (show (a : Int) ≤ n - 1 by omega), decide_eq_true (show (0 : Int) ≤ (b : Int) by omega), decide_eq_true (show (b : Int) ≤ n - 1 by omega), decide_eq_true (show (0 : Int) ≤ ((0 : Nat) : Int) by omega), decide_eq_true (show ((0 : Nat) : Int) ≤ n - 1 by omega)]
    rfl
  simp only [mCall, mUn, runs_cons, runs_nil, pure_bind, e_need_product o, e_need_term h0 hw, len_eP, plen_tuple, e_are_things (th_plain a b), ht, liftP_pure, bind_assoc, sIfR, tNo, tVal, asB_bool, Bool.not_true, Bool.false_eq_true, if_false, e_worth_in o ha hb h0 (show w.length ≤ 1000 by omega), sRet, DL.finish_rt]
/-! ### letters used -/
def has (c : Bool) (l : List Bool) : Bool := l.any fun d => d == c
theorem pin_list (z : Str) (l : List Bool) : pin (.str z) (.list (l.map eC)) = pure (.bool (l.any fun c => (⟨#[chr c]⟩ : Str) == z)) := by
  unfold pin pinB
  dsimp only
  have hp : PyData.plainAll (l.map eC) = true := plainAll_of fun d hd => by
    obtain ⟨y, _, rfl⟩ := List.mem_map.mp hd
    rfl
  rw [chk_true (by
    unfold inOk
    rw [hp]
    have : PyData.depth (.str z) = 0 := by first | rfl | simp [PyData.depth]
    rw [this]
    simp [PyData.plain]), pure_bind, pure_bind, List.any_map]
  rfl
theorem any_congr' {l : List Bool} {p q : Bool → Bool} (h : ∀ c, p c = q c) : l.any p = l.any q := by
  rw [show p = q from funext h]
theorem e_used_in (h0 : w ≠ []) (hw : w.length ≤ 40) (h1 : s ≠ []) (hs : s.length ≤ 40) : m_used_in (ru w s) = pure (.list [.bool (has false (w ++ s)), .bool (has true (w ++ s)), .bool false, .bool false]) := by
  unfold m_used_in b_used_in
  have e1 : mOp padd (mCall (ap1 m_letters_in) [mOp pidx (pure (ru w s)) (pure (.int 0))]) (mCall (ap1 m_letters_in) [mOp pidx (pure (ru w s)) (pure (.int 1))]) = pure (.list ((w ++ s).map eC)) := by
    simp only [mOp, mCall, runs_cons, runs_nil, pure_bind, ru0, ru1, e_letters_in h0 hw, e_letters_in h1 hs, liftP_pure, padd_list]
    rw [chk_true (by rw [List.length_map, List.length_map, sizeLine_eq]; omega), pure_bind, List.map_append]
  rw [e1, pure_bind]
  simp only [mLst, oLc, iAll, pure_bind, pitems_tuple]
  have e2 := lcM_map (f := fun t2 => mOp pin (pure t2) (pure (.list ((w ++ s).map eC)))) PyData.str (fun z => .bool ((w ++ s).any fun c => (⟨#[chr c]⟩ : Str) == z)) ["a", "b", "c", "d"] fun z _ => by
    simp only [mOp, pure_bind]
    exact pin_list z (w ++ s)
  have e3 : (["a", "b", "c", "d"] : List Str).map PyData.str = [.str "a", .str "b", .str "c", .str "d"] := rfl
  rw [e3] at e2
  simp only [mOp, pure_bind] at e2
  simp only [mOp, pure_bind, e2, sRet, DL.finish_rt, List.map_cons, List.map_nil]
  have a1 : ((w ++ s).any fun c => (⟨#[chr c]⟩ : Str) == Str.ofString "a") = has false (w ++ s) := any_congr' fun c => by cases c <;> decide +kernel
  have a2 : ((w ++ s).any fun c => (⟨#[chr c]⟩ : Str) == Str.ofString "b") = has true (w ++ s) := any_congr' fun c => by cases c <;> decide +kernel
  have a3 : ((w ++ s).any fun c => (⟨#[chr c]⟩ : Str) == Str.ofString "c") = false := by
    rw [any_congr' (q := fun _ => false) fun c => by cases c <;> decide +kernel]
    simp
  have a4 : ((w ++ s).any fun c => (⟨#[chr c]⟩ : Str) == Str.ofString "d") = false := by
    rw [any_congr' (q := fun _ => false) fun c => by cases c <;> decide +kernel]
    simp
  rw [a1, a2, a3, a4]
/-! ### all things -/
def L4 (found : List (List PyData)) : PyData := .list (found.map .tuple)
def grow (A : List PyData) (found : List (List PyData)) : List (List PyData) := found.flatMap fun s => A.map fun t => s ++ [t]
theorem grow_len (A : List PyData) : ∀ found, (grow A found).length = found.length * A.length
  | [] => by simp [grow]
  | s :: r => by
    have := grow_len A r
    unfold grow at this ⊢
    rw [List.flatMap_cons, List.length_append, this, List.length_map, List.length_cons, Nat.succ_mul, Nat.add_comm]
theorem grow_mem {A : List PyData} {found : List (List PyData)} {k : Nat} (h : ∀ s ∈ found, s.length = k) : ∀ s ∈ grow A found, s.length = k + 1 := fun s hs => by
  unfold grow at hs
  obtain ⟨s', h1, h2⟩ := List.mem_flatMap.mp hs
  obtain ⟨t, _, rfl⟩ := List.mem_map.mp h2
  rw [List.length_append, h s' h1]
  rfl
def used (n : Nat) (u : Bool) : List Nat := if u then List.range n else [0]
theorem used_len (o : Ok n f) (u : Bool) : (used n u).length ≤ 8 := by
  have := o.2.1
  cases u with
  | true => show (List.range n).length ≤ 8; rw [List.length_range]; exact this
  | false => show 1 ≤ 8; decide
theorem padd_tuple (xs ys : List PyData) : padd (.tuple xs) (.tuple ys) = (do chk (xs.length + ys.length ≤ sizeLine); pure (.tuple (xs ++ ys))) := rfl
theorem inner_run {A : List PyData} (hA : A.length ≤ 8) {g : PyData → PyData → M (Fl PyData PyData)} (hg : g = fun x7 t6 => (mOp padd (pure t6) (mLst (oLc (iAll (pure (.list A))) (fun d => pure d) (fun t8 => pure true) (fun t8 => mOp padd (pure x7) (mTup [pure t8])))) >>= fun x9 => pure (.nx x9)))
    (found : List (List PyData)) (hf : ∀ s ∈ found, s.length ≤ 8) (hl : found.length ≤ 512) : pFor (fun d => pure d) g (found.map .tuple) (.list []) = pure (.inl (L4 (grow A found))) := by
  subst hg
  have key := pFor_st (b := fun x7 t6 => (mOp padd (pure t6) (mLst (oLc (iAll (pure (.list A))) (fun d => pure d) (fun t8 => pure true) (fun t8 => mOp padd (pure x7) (mTup [pure t8])))) >>= fun x9 => (pure (.nx x9) : M (Fl PyData PyData)))) PyData.tuple L4 (fun acc s => acc ++ A.map fun t => s ++ [t]) (fun k acc => acc.length = k * A.length) found 0 [] (by simp) fun s hs k acc hk hacc => ?_
  · have e0 : L4 [] = .list [] := rfl
    rw [e0] at key
    rw [key, foldl_flat]
    rfl
  · have e1 : mLst (oLc (iAll (pure (.list A))) (fun d => pure d) (fun t8 => pure true) (fun t8 => mOp padd (pure (.tuple s)) (mTup [pure t8]))) = pure (.list (A.map fun t => .tuple (s ++ [t]))) := by
      simp only [mLst, oLc, iAll, pure_bind, pitems_list]
      rw [lcM_all (fun t => .tuple (s ++ [t])) A fun t _ => ?_, pure_bind]
      simp only [mOp, mTup, runs_cons, runs_nil, pure_bind, padd_tuple]
      have := hf s hs
      rw [chk_true (by rw [sizeLine_eq]; show s.length + 1 ≤ _; omega), pure_bind]
    have hb : k * A.length ≤ 512 * 8 := Nat.mul_le_mul (by omega) hA
    refine ⟨?_, by rw [List.length_append, List.length_map, hacc, Nat.succ_mul]⟩
    rw [e1]
    unfold L4
    simp only [mOp, pure_bind, padd_list]
    rw [chk_true (by rw [List.length_map, List.length_map, sizeLine_eq, hacc]; omega), pure_bind, pure_bind, List.map_append, List.map_map]
    rfl
end
end L76
end
section
set_option Elab.async false
set_option linter.all false
set_option maxRecDepth 100000
set_option maxHeartbeats 4000000
set_option autoImplicit false
namespace L76
open PySem PySem.Spec PyProof.Rows L2 RZ DL
section
variable {n : Nat} {f : Nat → Nat → Nat} {a b : Nat} {w s : List Bool}
theorem list_range_eq (o : Ok n f) : oListRg (mUn plen (pure (eP n f))) = pure ((List.range n).map eI) := by
  have := o.2.1
  simp only [oListRg, mUn, pure_bind, len_eP, asI_int]
  rw [chk_true ⟨by omega, by omega⟩, pure_bind, rangeD_nat]
theorem pFor_cons {τ : Type} {b : PyData → τ → M (Fl τ τ)} (d : PyData) (ds : List PyData) (t t' : τ) (h : b d t = pure (.nx t')) : pFor (fun d => pure d) b (d :: ds) t = pFor (fun d => pure d) b ds t' := by
  rw [pFor, pure_bind, h, pure_bind]
theorem grow_app (A : List PyData) (x y : List (List PyData)) : grow A (x ++ y) = grow A x ++ grow A y := by unfold grow; rw [List.flatMap_append]
def things (n : Nat) (u v : Bool) : List (Nat × Nat) := (used n u).flatMap fun x => (used n v).map fun y => (x, y)
theorem grow4 (A B : List Nat) : (grow [eI 0] (grow [eI 0] (grow (B.map eI) (grow (A.map eI) [[]])))).map PyData.tuple = (A.flatMap fun x => B.map fun y => (x, y)).map fun p => th p.1 p.2 := by
  have e1 : grow (A.map eI) [[]] = A.map fun x => [eI x] := by
    unfold grow
    rw [List.flatMap_cons, List.flatMap_nil, List.append_nil, List.map_map]
    rfl
  have e2 : grow (B.map eI) (A.map fun x => [eI x]) = A.flatMap fun x => B.map fun y => [eI x, eI y] := by
    unfold grow
    rw [List.flatMap_map]
    congr 1
    funext x
    rw [List.map_map]
    rfl
  have e3 : ∀ l : List (List PyData), grow [eI 0] l = l.map fun s => s ++ [eI 0] := by
    intro l
    unfold grow
    induction l with
    | nil => rfl
    | cons s l ih => rw [List.flatMap_cons, ih]; rfl
  rw [e1, e2, e3, e3, List.map_map, List.map_map, List.map_flatMap, List.map_flatMap]
  congr 1
  funext x
  rw [List.map_map, List.map_map]
  rfl
theorem e_all_things (o : Ok n f) (h0 : w ≠ []) (hw : w.length ≤ 40) (h1 : s ≠ []) (hs : s.length ≤ 40) :
    m_all_things (eP n f) (ru w s) = pure (.list ((things n (has false (w ++ s)) (has true (w ++ s))).map fun p => th p.1 p.2)) := by
  unfold m_all_things b_all_things
  have e1 : mLst (runs [mTup []]) = pure (L4 [[]]) := by simp only [mLst, mTup, runs_cons, runs_nil, pure_bind]; rfl
  have e2 : iAll (mCall (ap1 m_used_in) [pure (ru w s)]) = pure [.bool (has false (w ++ s)), .bool (has true (w ++ s)), .bool false, .bool false] := by
    simp only [iAll, mCall, runs_cons, runs_nil, pure_bind, e_used_in h0 hw h1 hs, liftP_pure, pitems_list]
  rw [e1, pure_bind]
  simp only [sFor]
  rw [e2, pure_bind]
  have key : ∀ {g : PyData → PyData → M (Fl PyData PyData)}, (∀ (u : Bool) (found : List (List PyData)), (∀ s ∈ found, s.length ≤ 8) → found.length ≤ 512 → g (.bool u) (L4 found) = pure (.nx (L4 (grow ((used n u).map eI) found)))) →
      pFor (fun d => pure d) g [.bool (has false (w ++ s)), .bool (has true (w ++ s)), .bool false, .bool false] (L4 [[]]) = pure (.inl (.list ((things n (has false (w ++ s)) (has true (w ++ s))).map fun p => th p.1 p.2))) := by
    intro g hg
    have l1 := used_len o (has false (w ++ s))
    have l2 := used_len o (has true (w ++ s))
    have m0 : ∀ s ∈ ([[]] : List (List PyData)), s.length = 0 := fun s hs => by simp at hs; subst hs; rfl
    have m1 := grow_mem (A := (used n (has false (w ++ s))).map eI) m0
    have m2 := grow_mem (A := (used n (has true (w ++ s))).map eI) m1
    have m3 := grow_mem (A := (used n false).map eI) m2
    have g1 := grow_len ((used n (has false (w ++ s))).map eI) [[]]
    have g2 := grow_len ((used n (has true (w ++ s))).map eI) (grow ((used n (has false (w ++ s))).map eI) [[]])
    have g3 := grow_len ((used n false).map eI) (grow ((used n (has true (w ++ s))).map eI) (grow ((used n (has false (w ++ s))).map eI) [[]]))
    rw [List.length_map] at g1 g2 g3
    have z1 : (used n false).length = 1 := rfl
    have b1 : (grow ((used n (has false (w ++ s))).map eI) [[]]).length ≤ 8 := by rw [g1]; show 1 * _ ≤ 8; omega
    have b2 : (grow ((used n (has true (w ++ s))).map eI) (grow ((used n (has false (w ++ s))).map eI) [[]])).length ≤ 64 := by rw [g2]; exact Nat.mul_le_mul b1 l2
    rw [pFor_cons _ _ _ _ (hg _ _ (fun s hs => by rw [m0 s hs]; omega) (by decide)), pFor_cons _ _ _ _ (hg _ _ (fun s hs => by rw [m1 s hs]; omega) (by omega)),
      pFor_cons _ _ _ _ (hg _ _ (fun s hs => by rw [m2 s hs]; omega) (by omega)), pFor_cons _ _ _ _ (hg _ _ (fun s hs => by rw [m3 s hs]; omega) (by rw [g3, z1]; omega))]
    have := grow4 (used n (has false (w ++ s))) (used n (has true (w ++ s)))
    unfold L4 things
    show pure (Sum.inl (PyData.list ((grow [eI 0] (grow [eI 0] _)).map PyData.tuple))) = _
    rw [this]
  rw [key fun u found hf hl => ?_]
  · simp only [pure_bind, contL_inl, sRet, DL.finish_rt]
  · have e3 : mIf (tVal (pure (.bool u))) (mLst (oListRg (mUn plen (pure (eP n f))))) (mLst (runs [pure (.int 0)])) = pure (.list ((used n u).map eI)) := by
      cases u with
      | true =>
        simp only [mIf, tVal, pure_bind, asB_bool, if_true]
        show mLst (oListRg (mUn plen (pure (eP n f)))) = _
        rw [list_range_eq o]
        rfl
      | false => rfl
    show (mIf (tVal (pure (.bool u))) (mLst (oListRg (mUn plen (pure (eP n f))))) (mLst (runs [pure (.int 0)])) >>= fun x4 => mLst (runs []) >>= fun x5 => _) = _
    rw [e3, pure_bind]
    have e4 : mLst (runs []) = pure (.list []) := rfl
    rw [e4, pure_bind]
    have hit : iAll (pure (L4 found)) = pure (found.map .tuple) := by
      simp only [iAll, pure_bind]
      rfl
    rw [hit, pure_bind, inner_run (A := (used n u).map eI) (by rw [List.length_map]; exact used_len o u) rfl found hf hl, pure_bind, contL_inl, pure_bind]
def wd (f : Nat → Nat → Nat) (w s : List Bool) (p : Nat × Nat) : Bool := !decide (((ww f w p.1 p.2 : Nat) : Int) = (ww f s p.1 p.2 : Nat))
theorem used_lt (o : Ok n f) {u : Bool} {x : Nat} (h : x ∈ used n u) : x < n := by
  cases u with
  | true => exact List.mem_range.mp h
  | false => have : x = 0 := by simpa [used] using h
             subst this; exact o.1
theorem things_lt (o : Ok n f) {u v : Bool} {p : Nat × Nat} (h : p ∈ things n u v) : p.1 < n ∧ p.2 < n := by
  obtain ⟨x, hx, hp⟩ := List.mem_flatMap.mp h
  obtain ⟨y, hy, rfl⟩ := List.mem_map.mp hp
  exact ⟨used_lt o hx, used_lt o hy⟩
theorem e_counter_in (o : Ok n f) (h0 : w ≠ []) (hw : w.length ≤ 40) (h1 : s ≠ []) (hs : s.length ≤ 40) :
    m_counter_in (eP n f) (ru w s) = pure (match (things n (has false (w ++ s)) (has true (w ++ s))).find? (wd f w s) with | some p => th p.1 p.2 | none => .none) := by
  obtain ⟨c0, q, hwq, e1⟩ := e_steps_in h0 (show w.length ≤ 1000 by omega)
  obtain ⟨c1, q1, hsq, e2⟩ := e_steps_in h1 (show s.length ≤ 1000 by omega)
  unfold m_counter_in b_counter_in
  simp only [sPar, mCall, mOp, runs_cons, runs_nil, pure_bind, ru0, ru1, e1, e2, liftP_pure, sFor, iAll, e_all_things o h0 hw h1 hs, pitems_list]
  rw [pFor_find (fun p : Nat × Nat => th p.1 p.2) (wd f w s) (fun p => th p.1 p.2) () _ (fun _ _ => rfl) fun p hp => ?_]
  · cases (things n (has false (w ++ s)) (has true (w ++ s))).find? (wd f w s) with
    | some p => rfl
    | none => rfl
  · obtain ⟨ha, hb⟩ := things_lt o hp
    have x1 := e_worth_by o ha hb c0 q
    have x2 := e_worth_by o ha hb c1 q1
    rw [← wq_ww, ← hwq] at x1
    rw [← wq_ww, ← hsq] at x2
    simp only [sIfR, DL.tCmp, pure_bind, bind_assoc, x1, x2, liftP_pure, sRet]
    have x3 : pne (eI (ww f w p.1 p.2)) (eI (ww f s p.1 p.2)) = pure (.bool (wd f w s p)) := pne_int _ _
    rw [x3, pure_bind, asB_bool, pure_bind]
    cases wd f w s p <;> rfl
theorem wf_congr {f : Nat → Nat → Nat} {a b a' b' : Nat} : ∀ (r : List Bool) (t : Nat), (∀ c ∈ r, (if c then b else a) = (if c then b' else a')) → wf f a b t r = wf f a' b' t r
  | [], t, _ => rfl
  | c :: r, t, h => by
    show wf f a b (f t (if c then b else a)) r = wf f a' b' (f t (if c then b' else a')) r
    rw [h c (by simp), wf_congr r _ fun d hd => h d (by simp [hd])]
theorem ww_congr {f : Nat → Nat → Nat} {a b a' b' : Nat} : ∀ (r : List Bool), (∀ c ∈ r, (if c then b else a) = (if c then b' else a')) → ww f r a b = ww f r a' b'
  | [], _ => rfl
  | c :: r, h => by
    show wf f a b (if c then b else a) r = wf f a' b' (if c then b' else a') r
    rw [h c (by simp), wf_congr r _ fun d hd => h d (by simp [hd])]
theorem hold_agr (o : Ok n f) : ((things n (has false (w ++ s)) (has true (w ++ s))).find? (wd f w s)).isNone = agr n f w s := by
  have key : (∀ p ∈ things n (has false (w ++ s)) (has true (w ++ s)), wd f w s p = false) ↔ ∀ k ∈ List.range (n * n), dif n f w s k = false := by
    constructor
    · intro h k hk
      obtain ⟨ha, hb⟩ := div_lt (List.mem_range.mp hk)
      have px : ∀ u x, x < n → ∃ x', x' ∈ used n u ∧ (u = true → x' = x) := fun u x hx => by
        cases u with
        | true => exact ⟨x, List.mem_range.mpr hx, fun _ => rfl⟩
        | false => exact ⟨0, by simp [used], fun z => by cases z⟩
      obtain ⟨x', hx, ex⟩ := px (has false (w ++ s)) (k / n) ha
      obtain ⟨y', hy, ey⟩ := px (has true (w ++ s)) (k % n) hb
      have hm : (x', y') ∈ things n (has false (w ++ s)) (has true (w ++ s)) := List.mem_flatMap.mpr ⟨x', hx, List.mem_map.mpr ⟨y', hy, rfl⟩⟩
      have hc : ∀ c ∈ w ++ s, (if c then y' else x') = (if c then k % n else k / n) := fun c hc => by
        have hh : has c (w ++ s) = true := List.any_eq_true.mpr ⟨c, hc, by simp⟩
        cases c with
        | true => exact ey hh
        | false => exact ex hh
      have := h _ hm
      unfold wd at this
      unfold dif wk
      rw [ww_congr w fun c hcw => hc c (by simp [hcw]), ww_congr s fun c hcw => hc c (by simp [hcw])] at this
      exact this
    · intro h p hp
      obtain ⟨ha, hb⟩ := things_lt o hp
      have hn := o.1
      have hk : p.1 * n + p.2 < n * n := by
        have : (p.1 + 1) * n ≤ n * n := Nat.mul_le_mul_right _ ha
        rw [Nat.succ_mul] at this
        omega
      have := h (p.1 * n + p.2) (List.mem_range.mpr hk)
      unfold dif wk at this
      have e1 : (p.1 * n + p.2) / n = p.1 := by rw [Nat.add_comm, Nat.add_mul_div_right _ _ hn, Nat.div_eq_of_lt hb, Nat.zero_add]
      have e2 : (p.1 * n + p.2) % n = p.2 := by rw [Nat.add_comm, Nat.add_mul_mod_self_right, Nat.mod_eq_of_lt hb]
      rw [e1, e2] at this
      exact this
  unfold agr
  rw [Bool.eq_iff_iff, Option.isNone_iff_eq_none, Option.isNone_iff_eq_none, List.find?_eq_none, List.find?_eq_none]
  simpa using key
theorem e_does_hold (o : Ok n f) (h0 : w ≠ []) (hw : w.length ≤ 40) (h1 : s ≠ []) (hs : s.length ≤ 40) : m_does_hold (eP n f) (ru w s) = pure (.bool (agr n f w s)) := by
  unfold m_does_hold b_does_hold
  simp only [mCall, mOp, runs_cons, runs_nil, pure_bind, e_need_product o, e_need_rule h0 hw h1 hs, e_counter_in o h0 hw h1 hs, liftP_pure, bind_assoc, sRet]
  rw [← hold_agr o]
  cases (things n (has false (w ++ s)) (has true (w ++ s))).find? (wd f w s) with
  | some p => rfl
  | none => rfl
end
end L76
end
section
set_option Elab.async false
set_option linter.all false
set_option maxRecDepth 100000
set_option maxHeartbeats 4000000
set_option autoImplicit false
namespace L76
open PySem PySem.Spec PyProof.Rows L2 RZ DL
/-! ### sorts, likeness -/
def srt : PyData → Int
  | .none => 0
  | .bool _ => 1
  | .int _ => 2
  | .str _ => 3
  | .tuple _ => 4
  | .list _ => 5
  | .dict _ => 6
theorem e_law_sort {d : PyData} (h : d.plain = true) : m__law_sort d = pure (.int (srt d)) := by
  unfold m__law_sort b__law_sort
  cases d with
  | dict _ => simp [PyData.plain] at h
  | _ => rfl
def Sm : Nat → PyData → Prop
  | 0, d => DL.scal d = true
  | j + 1, d => DL.scal d = true ∨ ∃ ds : List PyData, (d = .tuple ds ∨ d = .list ds) ∧ ds.length ≤ 4096 ∧ ∀ e ∈ ds, Sm j e
theorem scal_plain {d : PyData} (h : DL.scal d = true) : d.plain = true := by cases d <;> first | rfl | cases h
theorem Sm.plain : ∀ {j : Nat} {d : PyData}, Sm j d → d.plain = true
  | 0, d, h => scal_plain h
  | j + 1, d, h => by
    rcases h with h | ⟨ds, rfl | rfl, _, hd⟩
    · exact scal_plain h
    · exact plainAll_of fun e he => (hd e he).plain
    · exact plainAll_of fun e he => (hd e he).plain
theorem Sm.up : ∀ {j : Nat} {d : PyData}, Sm j d → Sm (j + 1) d
  | 0, d, h => .inl h
  | j + 1, d, h => by
    rcases h with h | ⟨ds, h1, h2, hd⟩
    · exact .inl h
    · exact .inr ⟨ds, h1, h2, fun e he => (hd e he).up⟩
theorem eqv_scal {d : PyData} (h : DL.scal d = true) : peq d d = pure (.bool true) := by
  have hp := scal_plain h
  have hz : d.depth = 0 := by cases d <;> first | rfl | cases h
  rw [peq_of (by simp only [eqOk, hp, hz]; rfl)]
  congr 2
  cases d with
  | none => rfl
  | bool b => show (_ == _) = true; simp
  | int i => show (_ == _) = true; simp
  | str x => show (x == x) = true; simp
  | _ => cases h
theorem peq_lists_nil : peq (.list []) (.list []) = pure (.bool true) := rfl
theorem like_walk {r : PyData → PyData → M PyData} {f : PyData × PyData → M PyData} : ∀ ds : List PyData, (∀ d ∈ ds, r d d = pure (.bool true)) → lcM unp2 (fun t2 => tNo (tVal (mCall (ap2 r) [pure t2.1, pure t2.2]))) f (zipD ds ds) = pure []
  | [], _ => rfl
  | d :: ds, h => by
    have ih := like_walk (f := f) ds fun e he => h e (by simp [he])
    have e : zipD (d :: ds) (d :: ds) = .tuple [d, d] :: zipD ds ds := rfl
    have hu : unp2 (.tuple [d, d]) = pure (d, d) := rfl
    rw [e]
    unfold lcM
    have ht : tNo (tVal (mCall (ap2 r) [pure d, pure d])) = pure false := by
      simp only [tNo, tVal, mCall, runs_cons, runs_nil, pure_bind, h d (by simp), liftP_pure, asB_bool]
      rfl
    rw [hu, noexc_pure, pure_bind]
    show (noexc (tNo (tVal (mCall (ap2 r) [pure d, pure d]))) >>= _) = _
    rw [ht, noexc_pure, pure_bind, if_neg (by simp)]
    exact ih
theorem like_refl : ∀ (j : Nat) {d : PyData}, Sm j d → m__law_like (j + 1) d d = pure (.bool true) := by
  have seqs : ∀ (r : PyData → PyData → M PyData) (ds : List PyData) (d : PyData), (d = .tuple ds ∨ d = .list ds) → d.plain = true → ds.length ≤ 4096 → (∀ e ∈ ds, r e e = pure (.bool true)) → finish (b__law_like r d d) = pure (.bool true) := by
    intro r ds d hd hp hl hr
    have hw := like_walk (f := fun _ => pure (.int 1)) ds hr
    have hz : pzip d d = pure (zipD ds ds) := by
      rcases hd with rfl | rfl
      · show (do chk (ds.length ≤ sizeLine); pure (zipD ds ds) : M (List PyData)) = _
        rw [chk_true (by rw [sizeLine_eq]; omega), pure_bind]
      · show (do chk (ds.length ≤ sizeLine); pure (zipD ds ds) : M (List PyData)) = _
        rw [chk_true (by rw [sizeLine_eq]; omega), pure_bind]
    have hlen : plen d = pure (.int ds.length) := by rcases hd with rfl | rfl <;> rfl
    have hs : srt d = 4 ∨ srt d = 5 := by rcases hd with rfl | rfl; exact .inl rfl; exact .inr rfl
    unfold b__law_like
    simp only [mCall, runs_cons, runs_nil, pure_bind, e_law_sort hp, liftP_pure, sIfR, DL.tOr, DL.tCmp, pne_int, peq_int, asB_bool, decide_true, Bool.not_true, Bool.false_eq_true, if_false, bind_assoc]
    have h6 : decide (srt d = 6) = false := decide_eq_false (by rcases hs with h | h <;> rw [h] <;> decide)
    rw [h6, if_neg (by simp)]
    have hin : pin (.int (srt d)) (.tuple [.int 4, .int 5]) = pure (.bool true) := by rcases hs with h | h <;> rw [h] <;> rfl
    simp only [mTup, runs_cons, runs_nil, pure_bind, hin, asB_bool, if_true, mAnd, mOp, mUn, hlen, peq_int, decide_true, mLst, oLc, iZip', hz, sRet]
    simp only [tNo, tVal, mCall, runs_cons, runs_nil, pure_bind, bind_assoc] at hw
    rw [hw]
    simp only [pure_bind, peq_lists_nil, castF_rt, DL.finish_rt]
  have scs : ∀ (r : PyData → PyData → M PyData) (d : PyData), DL.scal d = true → finish (b__law_like r d d) = pure (.bool true) := by
    intro r d h
    have hp := scal_plain h
    have hs : srt d = 0 ∨ srt d = 1 ∨ srt d = 2 ∨ srt d = 3 := by cases d <;> first | (simp [srt]; done) | cases h
    unfold b__law_like
    simp only [mCall, runs_cons, runs_nil, pure_bind, e_law_sort hp, liftP_pure, sIfR, DL.tOr, DL.tCmp, pne_int, peq_int, asB_bool, decide_true, Bool.not_true, Bool.false_eq_true, if_false, bind_assoc]
    have h6 : decide (srt d = 6) = false := decide_eq_false (by rcases hs with h | h | h | h <;> rw [h] <;> decide)
    rw [h6, if_neg (by simp)]
    have hin : pin (.int (srt d)) (.tuple [.int 4, .int 5]) = pure (.bool false) := by rcases hs with h | h | h | h <;> rw [h] <;> rfl
    simp only [mTup, runs_cons, runs_nil, pure_bind, hin, asB_bool, Bool.false_eq_true, if_false, mOp, eqv_scal h, sRet, DL.finish_rt]
  intro j
  induction j with
  | zero => intro d h; exact scs _ d h
  | succ j ih =>
    intro d h
    rcases h with h | ⟨ds, h1, h2, hd⟩
    · exact scs _ d h
    · exact seqs _ ds d h1 (Sm.plain (j := j + 1) (.inr ⟨ds, h1, h2, hd⟩)) h2 fun e he => ih (hd e he)
theorem Sm.le {j k : Nat} {d : PyData} (h : Sm j d) (l : j ≤ k) : Sm k d := by
  induction k with
  | zero => rw [Nat.le_zero.mp l] at h; exact h
  | succ k ih =>
    by_cases e : j = k + 1
    · subst e; exact h
    · exact (ih (by omega)).up
theorem like12 {d : PyData} {j : Nat} (h : Sm j d) (l : j ≤ 11 := by decide) : m__law_like 12 d d = pure (.bool true) := like_refl 11 (h.le l)
/-! ### counters of two words -/
section
variable {n : Nat} {f : Nat → Nat → Nat} {a b : Nat} {w s : List Bool}
theorem whole_nat {k : Int} {d : PyData} (h : wholeB k d = true) : ∃ x : Nat, d = eI x ∧ (x : Int) ≤ k := by
  cases d with
  | int i =>
    have h : (decide (0 ≤ i) && decide (i ≤ k)) = true := h
    rw [Bool.and_eq_true, decide_eq_true_eq, decide_eq_true_eq] at h
    exact ⟨i.toNat, by unfold eI; rw [Int.toNat_of_nonneg h.1], by rw [Int.toNat_of_nonneg h.1]; exact h.2⟩
  | _ => cases h
theorem things2 {v : PyData} (h : thingsB n 2 2 v = true) : ∃ x y : Nat, v = pr x y ∧ x < n ∧ y < n := by
  cases v with
  | tuple ds =>
    have h : (decide ((2 : Int) ≤ ds.length) && decide ((ds.length : Int) ≤ 2) && ds.all (wholeB (n - 1))) = true := h
    rw [Bool.and_eq_true, Bool.and_eq_true, decide_eq_true_eq, decide_eq_true_eq] at h
    obtain ⟨⟨h1, h2⟩, h3⟩ := h
    match ds, h1, h2, h3 with
    | [], h1, _, _ => simp at h1
    | [_], h1, _, _ => simp at h1
    | [d, e], _, _, h3 =>
      rw [List.all_cons, List.all_cons, Bool.and_eq_true, Bool.and_eq_true] at h3
      obtain ⟨x, rfl, hx⟩ := whole_nat h3.1
      obtain ⟨y, rfl, hy⟩ := whole_nat h3.2.1
      exact ⟨x, y, rfl, by omega, by omega⟩
    | _ :: _ :: _ :: _, _, h2, _ => simp at h2; omega
  | _ => cases h
/-- whether a value is a counter -/
def cntB (n : Nat) (f : Nat → Nat → Nat) (w s : List Bool) (v : PyData) : Bool := match v with
  | .tuple [.int x, .int y] => thingsB n 2 2 v && dif n f w s (x.toNat * n + y.toNat)
  | _ => false
theorem at_of {x y : Nat} (hy : y < n) : (x * n + y) / n = x ∧ (x * n + y) % n = y := by
  have hn : 0 < n := by omega
  exact ⟨by rw [Nat.add_comm, Nat.add_mul_div_right _ _ hn, Nat.div_eq_of_lt hy, Nat.zero_add], by rw [Nat.add_comm, Nat.add_mul_mod_self_right, Nat.mod_eq_of_lt hy]⟩
theorem cntB_pr {x y : Nat} (hx : x < n) (hy : y < n) : thingsB n 2 2 (pr x y) = true ∧ cntB n f w s (pr x y) = dif n f w s (x * n + y) := by
  have h : thingsB n 2 2 (pr x y) = true := by
    show (decide ((2 : Int) ≤ 2) && decide ((2 : Int) ≤ 2) && ((decide (0 ≤ (x : Int)) && decide ((x : Int) ≤ n - 1)) && ((decide (0 ≤ (y : Int)) && decide ((y : Int) ≤ n - 1)) && true))) = true
    rw [decide_eq_true (show (0 : Int) ≤ (x : Int) by omega), decide_eq_true (show (x : Int) ≤ n - 1 by omega), decide_eq_true (show (0 : Int) ≤ (y : Int) by omega), decide_eq_true (show (y : Int) ≤ n - 1 by omega)]
    rfl
  refine ⟨h, ?_⟩
  show (thingsB n 2 2 (pr x y) && _) = _
  rw [h]
  rfl
theorem cntB_no {v : PyData} (h : thingsB n 2 2 v = false) : cntB n f w s v = false := by
  unfold cntB
  split
  · rw [h]; rfl
  · rfl
theorem e_is_word_counter (o : Ok n f) (h0 : w ≠ []) (hw : w.length ≤ 40) (h1 : s ≠ []) (hs : s.length ≤ 40) {v : PyData} (hv : v.plain = true) : m_is_word_counter (eP n f) (.str (eW w)) (.str (eW s)) v = pure (.bool (cntB n f w s v)) := by
  unfold m_is_word_counter b_is_word_counter
  simp only [mCall, mUn, runs_cons, runs_nil, pure_bind, e_need_two_words o h0 hw h1 hs, len_eP, e_are_things hv, liftP_pure, bind_assoc, sIfR, tNo, tVal, asB_bool]
  cases ht : thingsB n 2 2 v with
  | false => rw [cntB_no ht]; rfl
  | true =>
    obtain ⟨x, y, rfl, hx, hy⟩ := things2 ht
    have ew : m_word_worth_in (eP n f) (.str (eW w)) (pr x y) = pure (.int (ww f w x y : Nat)) := e_word_worth_in o hx hy h0 (by omega)
    have es : m_word_worth_in (eP n f) (.str (eW s)) (pr x y) = pure (.int (ww f s x y : Nat)) := e_word_worth_in o hx hy h1 (by omega)
    rw [(cntB_pr (f := f) (w := w) (s := s) hx hy).2]
    simp only [Bool.not_true, Bool.false_eq_true, if_false, mOp, mCall, runs_cons, runs_nil, pure_bind, ew, es, liftP_pure, pne_int, sRet, DL.finish_rt]
    unfold dif wk
    rw [(at_of (x := x) hy).1, (at_of (x := x) hy).2]
end
end L76
end
section
set_option Elab.async false
set_option linter.all false
set_option maxRecDepth 100000
set_option maxHeartbeats 4000000
set_option autoImplicit false
namespace L76
open PySem PySem.Spec PyProof.Rows L2 RZ DL
theorem Tri.castF {τ β : Type} {I : List PyData → Prop} {m : M (Fl Empty β)} {p : Fl τ β → Prop} (h : Tri I m fun fl => match fl with | .rt d => p (.rt d) | .bk b => p (.bk b) | .ct b => p (.ct b) | .nx e => nomatch e) : Tri I (DL.castF m) p := by
  unfold DL.castF
  refine h.bind fun fl hf => ?_
  cases fl with
  | nx t => exact nomatch t
  | bk b => exact Tri.pure hf
  | ct b => exact Tri.pure hf
  | rt d => exact Tri.pure hf
theorem Tri.thenF {τ τ' β : Type} {I : List PyData → Prop} {m : M (Fl τ β)} {k : τ → M (Fl τ' β)} {p : Fl τ' β → Prop} (h : Tri I m fun fl => match fl with | .nx t => Tri I (k t) p | .rt d => p (.rt d) | .bk b => p (.bk b) | .ct b => p (.ct b)) : Tri I (DL.thenF m k) p := by
  unfold DL.thenF
  refine h.bind fun fl hf => ?_
  cases fl with
  | nx t => exact hf
  | bk b => exact Tri.pure hf
  | ct b => exact Tri.pure hf
  | rt d => exact Tri.pure hf
theorem callC1 (g : PyData → M PyData) (x : PyData) : mCallC (ap1 g) [pure x] = g x := by simp only [mCallC, runs_cons, runs_nil, pure_bind]
theorem call1 (g : PyData → M PyData) (x : PyData) : mCall (ap1 g) [pure x] = liftP (g x) := by simp only [mCall, runs_cons, runs_nil, pure_bind]
theorem call2 (g : PyData → PyData → M PyData) (x y : PyData) : mCall (ap2 g) [pure x, pure y] = liftP (g x y) := by simp only [mCall, runs_cons, runs_nil, pure_bind]
theorem call3 (g : PyData → PyData → PyData → M PyData) (x y z : PyData) : mCall (ap3 g) [pure x, pure y, pure z] = liftP (g x y z) := by simp only [mCall, runs_cons, runs_nil, pure_bind]
theorem call4 (g : PyData → PyData → PyData → PyData → M PyData) (x y z u : PyData) : mCall (ap4 g) [pure x, pure y, pure z, pure u] = liftP (g x y z u) := by simp only [mCall, runs_cons, runs_nil, pure_bind]
/-! ### values bent -/
def some14 : List PyData := [.none, .bool true, .bool false, .int 0, .int 1, .int 2, .int 5, .int (-1), .str "", .str "a", .str "ab", .tuple [.int 0, .int 1], .tuple [], .list []]
theorem some14_eq : mLst (runs [(pure .none), (pure (.bool true)), (pure (.bool false)), (pure (.int 0)), (pure (.int 1)), (pure (.int 2)), (pure (.int 5)), (mUn pneg (pure (.int 1))), (pure (.str "")), (pure (.str "a")), (pure (.str "ab")), (mTup [(pure (.int 0)), (pure (.int 1))]), (mTup []), (mLst (runs []))]) = pure (.list some14) := rfl
theorem some14_plain : PyData.plainAll some14 = true := rfl
theorem t_some_plain {ds : List PyData} (h : PyData.plainAll ds = true) (h0 : ds ≠ []) (hl : ds.length ≤ 4096) : Tri I76 (m__law_some (.list ds)) fun d => d.plain = true :=
  (t_some h0 (by omega)).mono fun d hd => plainAll_mem h d hd
theorem t_bent_tail {d : PyData} {τ : Type} (hd : d.plain = true) : Tri I76 (do
    let x1 ← mLst (runs [(pure .none), (pure (.bool true)), (pure (.bool false)), (pure (.int 0)), (pure (.int 1)), (pure (.int 2)), (pure (.int 5)), (mUn pneg (pure (.int 1))), (pure (.str "")), (pure (.str "a")), (pure (.str "ab")), (mTup [(pure (.int 0)), (pure (.int 1))]), (mTup []), (mLst (runs []))])
    (sIf (τ' := PyData) (DL.tCmp peq (mCall (ap1 m__law_sort) [(pure d)]) (pure (.int 2))) ((mOp padd (pure x1) (mLst (runs [(mOp padd (pure d) (pure (.int 1))), (mOp padd (pure d) (pure (.int 1))), (mOp psub (pure d) (pure (.int 1)))]))) >>= fun x3 => (pure (.nx x3))) (pure (.nx x1)) fun t2 => (sRet (mCallC (ap1 m__law_some) [(pure t2)]))) : M (Fl τ Empty)) fun fl => ∃ x, fl = .rt x ∧ x.plain = true := by
  rw [some14_eq, pure_bind]
  have ht : DL.tCmp peq (mCall (ap1 m__law_sort) [pure d]) (pure (.int 2)) = pure (decide (srt d = 2)) := by
    simp only [DL.tCmp, call1, e_law_sort hd, liftP_pure, pure_bind, peq_int, asB_bool]
  have fin : ∀ ds : List PyData, PyData.plainAll ds = true → ds ≠ [] → ds.length ≤ 4096 → Tri I76 (sRet (mCallC (ap1 m__law_some) [pure (.list ds)]) : M (Fl τ Empty)) fun fl => ∃ x, fl = .rt x ∧ x.plain = true := fun ds h1 h2 h3 => by
    rw [callC1]
    exact (t_some_plain h1 h2 h3).bind fun x hx => Tri.pure ⟨x, rfl, hx⟩
  simp only [sIf]
  rw [ht, pure_bind]
  by_cases h2 : srt d = 2
  · have hi : ∃ i, d = .int i := by cases d <;> first | exact ⟨_, rfl⟩ | (simp [srt] at h2)
    obtain ⟨i, rfl⟩ := hi
    rw [if_pos (by rw [h2]; rfl)]
    have hp : mOp padd (pure (.list some14)) (mLst (runs [mOp padd (pure (.int i)) (pure (.int 1)), mOp padd (pure (.int i)) (pure (.int 1)), mOp psub (pure (.int i)) (pure (.int 1))])) = pure (.list (some14 ++ [.int (i + 1), .int (i + 1), .int (i - 1)])) := by
      simp only [mOp, mLst, runs_cons, runs_nil, pure_bind, padd_int, psub_int, padd_list]
      rw [chk_true (by rw [sizeLine_eq]; show 14 + 3 ≤ 16777216; decide), pure_bind]
    rw [hp, pure_bind, thenF_nx]
    exact fin _ rfl (by simp [some14]) (by show 17 ≤ 4096; decide)
  · rw [if_neg (by rw [decide_eq_false h2]; simp), thenF_nx]
    exact fin _ rfl (by simp [some14]) (by decide)
theorem t_bent_int (j : Nat) (i : Int) : Tri I76 (m__law_bent (j + 1) (.int i)) fun d => d.plain = true := by
  show Tri I76 (DL.finish (b__law_bent (m__law_bent j) (.int i))) _
  refine Tri.finish ?_
  unfold b__law_bent
  have hc : ∀ X : M Bool, DL.tOr (tNo (tVal (mUn (pisT "tuple") (pure (.int i))))) X = pure true := fun X => rfl
  simp only [sIfR]
  rw [hc, pure_bind, if_pos rfl]
  refine Tri.castF ((t_bent_tail (τ := Empty) (d := .int i) rfl).mono ?_)
  rintro fl ⟨x, rfl, hx⟩
  exact hx
theorem cut_len {α : Type} (xs : List α) (l h : Option Int) : (cutP xs l h).length ≤ xs.length := by
  unfold cutP
  rw [List.length_take, List.length_drop]
  omega
theorem cut_mem {α : Type} {xs : List α} {l h : Option Int} {x : α} (hx : x ∈ cutP xs l h) : x ∈ xs := List.mem_of_mem_drop (List.mem_of_mem_take hx)
theorem cut_plain {xs : List PyData} (h : PyData.plainAll xs = true) (l r : Option Int) : PyData.plainAll (cutP xs l r) = true := plainAll_of fun d hd => plainAll_mem h d (cut_mem hd)
theorem t_bent_pair (j : Nat) (a b : Nat) : Tri I76 (m__law_bent (j + 2) (pr a b)) fun d => d.plain = true := by
  show Tri I76 (DL.finish (b__law_bent (m__law_bent (j + 1)) (pr a b))) _
  refine Tri.finish ?_
  unfold b__law_bent
  have hcond : Tri I76 (DL.tOr (tNo (tVal (mUn (pisT "tuple") (pure (pr a b))))) (DL.tOr (DL.tCmp peq (pure (pr a b)) (mTup [])) (DL.tCmp peq (mCallC (ap1 m__law_roll) [pure (.int 8)]) (pure (.int 0))))) fun _ => True := by
    have e1 : ∀ X : M Bool, DL.tOr (tNo (tVal (mUn (pisT "tuple") (pure (pr a b))))) X = X := fun X => rfl
    have e2 : ∀ X : M Bool, DL.tOr (DL.tCmp peq (pure (pr a b)) (mTup [])) X = X := fun X => rfl
    rw [e1, e2]
    simp only [DL.tCmp, callC1]
    refine (t_roll (m := 8) (by decide) (by decide)).bind fun x ⟨r, hx, _⟩ => ?_
    subst hx
    simp only [pure_bind, peq_int, asB_bool]
    exact Tri.pure trivial
  simp only [sIfR]
  refine hcond.bind fun bb _ => ?_
  cases bb with
  | true =>
    rw [if_pos rfl]
    refine Tri.castF ((t_bent_tail (τ := Empty) (d := pr a b) rfl).mono ?_)
    rintro fl ⟨x, rfl, hx⟩
    exact hx
  | false =>
    rw [if_neg (by simp)]
    simp only [sPar]
    have hlen : mUn plen (pure (pr a b)) = pure (.int 2) := rfl
    have e0 : mCallC (ap1 m__law_roll) [mUn plen (pure (pr a b))] = m__law_roll (.int 2) := by rw [hlen, callC1]
    rw [e0, callC1]
    refine (t_roll (m := 2) (by decide) (by decide)).bind fun x4 ⟨r, hx, hr⟩ => ?_
    subst hx
    refine (t_roll (m := 12) (by decide) (by decide)).bind fun x5 ⟨q, hx, hq⟩ => ?_
    subst hx
    have hds : PyData.plainAll [eI a, eI b] = true := rfl
    have cl := fun l h => cut_len [eI a, eI b] l h
    have cp := fun l h => cut_plain hds l h
    have cat : ∀ xs ys : List PyData, PyData.plainAll xs = true → PyData.plainAll ys = true → xs.length ≤ 100 → ys.length ≤ 100 → ∃ z, padd (.tuple xs) (.tuple ys) = pure (.tuple z) ∧ PyData.plainAll z = true ∧ z.length ≤ 200 := fun xs ys h1 h2 h3 h4 =>
      ⟨xs ++ ys, by rw [padd_tuple, chk_true (by rw [sizeLine_eq]; omega), pure_bind], plainAll_app h1 h2, by rw [List.length_append]; omega⟩
    have sl : ∀ l h, pslice (pr a b) l h = pure (.tuple (cutP [eI a, eI b] l h)) := fun l h => rfl
    have tq' : ∀ c : Int, DL.tCmp peq (pure (.int (q : Nat))) (pure (.int c)) = pure (decide ((q : Int) = c)) := fun c => by simp only [DL.tCmp, pure_bind, peq_int, asB_bool]
    have two : ∀ l h, (cutP [eI a, eI b] l h).length ≤ 100 := fun l h => Nat.le_trans (cl l h) (by show 2 ≤ 100; decide)
    rw [tq' 0, pure_bind]
    by_cases h0 : (q : Int) = 0
    · rw [if_pos (by rw [decide_eq_true h0])]
      simp only [mOp, mSl, pSome, pure_bind, asI_int, padd_int, sl, bind_assoc, sRet]
      obtain ⟨z, ez, pz, _⟩ := cat _ _ (cp none (some (r : Nat))) (cp (some ((r : Int) + 1)) none) (two _ _) (two _ _)
      rw [ez, pure_bind, castF_rt]
      exact Tri.pure pz
    rw [if_neg (by rw [decide_eq_false h0]; simp), tq' 1, pure_bind]
    by_cases h1 : (q : Int) = 1
    · rw [if_pos (by rw [decide_eq_true h1])]
      simp only [mOp, mSl, pSome, pure_bind, asI_int, padd_int, sl, bind_assoc, sRet]
      obtain ⟨z, ez, pz, _⟩ := cat _ _ (cp none (some ((r : Int) + 1))) (cp (some (r : Int)) none) (two _ _) (two _ _)
      rw [ez, pure_bind, castF_rt]
      exact Tri.pure pz
    rw [if_neg (by rw [decide_eq_false h1]; simp), tq' 2, pure_bind]
    by_cases h2 : (q : Int) = 2
    · rw [if_pos (by rw [decide_eq_true h2])]
      exact Tri.of (x := .rt (.list [eI a, eI b])) rfl rfl
    rw [if_neg (by rw [decide_eq_false h2]; simp), tq' 3, pure_bind]
    by_cases h3 : (q : Int) = 3
    · rw [if_pos (by rw [decide_eq_true h3])]
      exact Tri.of (x := .rt (.tuple [eI b, eI a])) rfl rfl
    rw [if_neg (by rw [decide_eq_false h3]; simp)]
    have hat : ∃ x : Nat, pidx (pr a b) (.int (r : Nat)) = pure (.int (x : Nat)) := by
      have : r = 0 ∨ r = 1 := by omega
      rcases this with rfl | rfl
      · exact ⟨a, rfl⟩
      · exact ⟨b, rfl⟩
    obtain ⟨x, hx⟩ := hat
    simp only [mOp, mSl, mTup, mCallC, pSome, runs_cons, runs_nil, pure_bind, asI_int, padd_int, sl, bind_assoc, sRet, hx]
    refine (t_bent_int j x).bind fun y hy => ?_
    have py : PyData.plainAll [y] = true := by rw [PyData.plainAll, hy]; rfl
    obtain ⟨z, ez, pz, lz⟩ := cat (cutP [eI a, eI b] none (some (r : Nat))) [y] (cp _ _) py (two _ _) (by simp)
    rw [ez, pure_bind]
    rw [padd_tuple, chk_true (by rw [sizeLine_eq]; have := two (some ((r : Int) + 1)) none; omega), pure_bind, pure_bind]
    exact Tri.pure (plainAll_app pz (cp _ _))
end L76
end
section
set_option Elab.async false
set_option linter.all false
set_option maxRecDepth 100000
set_option maxHeartbeats 4000000
set_option autoImplicit false
namespace L76
open PySem PySem.Spec PyProof.Rows L2 RZ DL
/-! ### a product by chance -/
open Classical in
theorem list_choose {α β : Type} (b0 : β) (P : β → Prop) (e : β → α) (l : List α) (h : ∀ x ∈ l, ∃ y, P y ∧ x = e y) : ∃ g : Nat → β, (∀ i, i < l.length → P (g i)) ∧ l = (List.range l.length).map fun i => e (g i) := by
  have key : ∀ i, ∃ y, ∀ hi : i < l.length, P y ∧ l[i] = e y := fun i => by
    by_cases hi : i < l.length
    · obtain ⟨y, h1, h2⟩ := h l[i] (List.getElem_mem hi)
      exact ⟨y, fun _ => ⟨h1, h2⟩⟩
    · exact ⟨b0, fun z => absurd z hi⟩
  refine ⟨fun i => (key i).choose, fun i hi => ((key i).choose_spec hi).1, ?_⟩
  refine List.ext_getElem (by rw [List.length_map, List.length_range]) fun i h1 h2 => ?_
  rw [List.getElem_map, List.getElem_range]
  exact ((key i).choose_spec h1).2
theorem emod_nat (z : Int) {n : Nat} (h : 0 < n) : ∃ v : Nat, v < n ∧ PyData.int (z % (n : Int)) = eI v := by
  have a := Int.emod_nonneg z (show (n : Int) ≠ 0 by omega)
  have b := Int.emod_lt_of_pos z (show (0 : Int) < n by omega)
  exact ⟨(z % n).toNat, by omega, by unfold eI; rw [Int.toNat_of_nonneg a]⟩
theorem t_rollN {n : Nat} (h : 0 < n) (h2 : n ≤ 1000000) : Tri I76 (m__law_roll (eI n)) fun d => ∃ r : Nat, d = eI r ∧ r < n :=
  (t_roll (m := n) (by omega) (by omega)).mono fun d ⟨r, e, hr⟩ => ⟨r, e, by omega⟩
theorem small_mul {i j n : Nat} (hi : i < n) (hn : n ≤ 1000000) : CMul (i : Int) (j : Int) := .inl (by omega)
theorem told_row {n i j u by' to : Nat} (hn : n ≤ 8) (hi : i < n) (hj : j < n) (hu : u < n) (hb : by' < n) (ht : to < n) :
    ∃ ds : List PyData, mLst (runs [pure (eI u), mOp pmod (mUn pint (mOp padd (pure (eI i)) (pure (eI j)))) (pure (eI n)), mOp pmod (mUn pint (mOp pmul (pure (eI i)) (pure (eI j)))) (pure (eI n)), mTwo pmin2 (pure (eI i)) (pure (eI j)),
      mOp pmod (mUn pint (mOp padd (mOp pmul (pure (eI by')) (pure (eI i))) (mOp pmul (pure (eI to)) (pure (eI j))))) (pure (eI n)), pure (eI i)]) = pure (.list ds) ∧ ds.length = 6 ∧ ∀ d ∈ ds, ∃ v, v < n ∧ d = eI v := by
  have hn0 : 0 < n := by omega
  have hp : (0 : Int) < (n : Int) := by omega
  obtain ⟨v1, l1, e1⟩ := emod_nat ((i : Int) + j) hn0
  obtain ⟨v2, l2, e2⟩ := emod_nat ((i : Int) * j) hn0
  obtain ⟨v3, l3, e3⟩ := emod_nat ((by' : Int) * i + (to : Int) * j) hn0
  have em : ∃ v, v < n ∧ PyData.int (if (j : Int) < (i : Int) then (j : Int) else i) = eI v := by
    by_cases h : (j : Int) < (i : Int)
    · exact ⟨j, hj, by rw [if_pos h]; rfl⟩
    · exact ⟨i, hi, by rw [if_neg h]; rfl⟩
  obtain ⟨v4, l4, e4⟩ := em
  refine ⟨[eI u, eI v1, eI v2, eI v4, eI v3, eI i], ?_, rfl, fun d hd => ?_⟩
  · have pm : ∀ i j : Nat, i < n → pmul (.int (i : Int)) (.int (j : Int)) = pure (.int ((i : Int) * j)) := fun i j h => pmul_ok' (small_mul h (by omega))
    have pmin : ∀ i j : Int, pmin2 (.int i) (.int j) = pure (.int (if j < i then j else i)) := fun _ _ => rfl
    unfold eI at *
    simp only [mLst, mOp, mUn, mTwo, runs_cons, runs_nil, pure_bind, padd_int, pint_int, pmod_ok' hp, pm i j hi, pm by' i hb, pm to j ht, pmin, e1, e2, e3, e4]
  · simp only [List.mem_cons, List.not_mem_nil, or_false] at hd
    rcases hd with rfl | rfl | rfl | rfl | rfl | rfl
    · exact ⟨_, hu, rfl⟩
    · exact ⟨_, l1, rfl⟩
    · exact ⟨_, l2, rfl⟩
    · exact ⟨_, l4, rfl⟩
    · exact ⟨_, l3, rfl⟩
    · exact ⟨_, hi, rfl⟩
theorem t_product {m : Nat} (h1 : 1 ≤ m) (h2 : m ≤ 8) : Tri I76 (m__law_product (.int (m : Nat))) fun d => ∃ n f, Ok n f ∧ d = eP n f := by
  unfold m__law_product
  refine Tri.finish ?_
  unfold b__law_product
  simp only [sPar]
  have q1 : Tri I76 (mOp padd (pure (.int 1)) (mCallC (ap1 m__law_roll) [pure (.int (m : Nat))])) fun d => ∃ n : Nat, d = eI n ∧ 0 < n ∧ n ≤ 8 := by
    simp only [mOp, pure_bind, callC1]
    refine (t_rollN (n := m) h1 (by omega)).bind fun x ⟨r, hx, hr⟩ => ?_
    subst hx
    refine Tri.of (x := eI (1 + r)) ?_ ⟨1 + r, rfl, by omega, by omega⟩
    unfold eI
    rw [padd_int]
    congr 2
  refine q1.bind fun x1 ⟨n, hx1, hn0, hn⟩ => ?_
  subst hx1
  rw [callC1]
  refine (t_rollN (n := 6) (by decide) (by decide)).bind fun x2 ⟨way, hx2, hway⟩ => ?_
  subst hx2
  simp only [sPar_3]
  rw [callC1]
  refine (t_rollN hn0 (by omega)).bind fun x3 ⟨by', hx3, hb⟩ => ?_
  subst hx3
  refine (t_rollN hn0 (by omega)).bind fun x4 ⟨to, hx4, ht⟩ => ?_
  subst hx4
  rw [runs_nil, pure_bind]
  have hr : iRange1 (pure (eI n)) = pure ((List.range n).map eI) := range1_nat (by omega)
  simp only [sFor]
  rw [hr, pure_bind]
  have rng : ∀ (i : Nat) (d : PyData), ((List.range n).map eI)[i]? = some d → i < n ∧ d = eI i := fun i d hd => by
    rw [List.getElem?_map, Option.map_eq_some_iff] at hd
    obtain ⟨k, hk, rfl⟩ := hd
    have hi := (List.getElem?_eq_some_iff.mp hk).1
    rw [List.length_range] at hi
    rw [List.getElem?_range hi] at hk
    cases hk
    exact ⟨hi, rfl⟩
  have hlen : ((List.range n).map eI).length = n := by rw [List.length_map, List.length_range]
  refine (Tri.for (fun k (t : List PyData) => t.length = k ∧ ∀ x ∈ t, ∃ g : Nat → Nat, (∀ j, j < n → g j < n) ∧ x = .tuple ((List.range n).map fun j => eI (g j))) 0 ⟨rfl, fun x hx => by cases hx⟩ fun i d t hd hI => ?_).bind fun r ⟨t, hr', hl, ht'⟩ => ?_
  · obtain ⟨hi, rfl⟩ := rng i d hd
    rw [pure_bind, pure_bind]
    rw [pure_bind]
    refine (Tri.for (fun k (t : List PyData) => t.length = k ∧ ∀ x ∈ t, ∃ v, v < n ∧ x = eI v) 0 ⟨rfl, fun x hx => by cases hx⟩ fun j d2 t2 hd2 hJ => ?_).bind fun r2 ⟨t2, hr2, hl2, ht2⟩ => ?_
    · obtain ⟨hj, rfl⟩ := rng j d2 hd2
      rw [pure_bind]
      refine (t_rollN hn0 (by omega)).bind fun x11 ⟨u, hx, hu⟩ => ?_
      subst hx
      obtain ⟨ds, e, dl, dv⟩ := told_row hn hi hj hu hb ht
      rw [e, pure_bind]
      have hw : way < ds.length := by omega
      have hidx : mOp pidx (pure (.list ds)) (pure (eI way)) = pure ds[way] := by
        simp only [mOp, pure_bind]
        exact idx_list (atI_nat (List.getElem?_eq_getElem hw))
      simp only [sApp]
      rw [hidx, pure_bind, chk_true (by rw [sizeLine_eq, hJ.1]; omega), pure_bind]
      refine Tri.pure ⟨_, .inl rfl, by rw [List.length_append, hJ.1]; rfl, fun x hx => ?_⟩
      rcases List.mem_append.mp hx with hx | hx
      · exact hJ.2 x hx
      · have : x = ds[way] := by simpa using hx
        subst this
        exact dv _ (List.getElem_mem hw)
    · subst hr2
      rw [hlen, Nat.zero_add] at hl2
      rw [contL_inl]
      simp only [sApp, mUn, pure_bind, ptuple_list]
      rw [chk_true (by rw [sizeLine_eq, hI.1]; omega), pure_bind]
      refine Tri.pure ⟨_, .inl rfl, by rw [List.length_append, hI.1]; rfl, fun x hx => ?_⟩
      rcases List.mem_append.mp hx with hx | hx
      · exact hI.2 x hx
      · have : x = .tuple t2 := by simpa using hx
        subst this
        obtain ⟨g, hg, eg⟩ := list_choose 0 (fun v => v < n) eI t2 ht2
        rw [hl2] at hg eg
        exact ⟨g, hg, congrArg PyData.tuple eg⟩
  · subst hr'
    rw [hlen, Nat.zero_add] at hl
    rw [contL_inl]
    simp only [sRet, mUn, pure_bind, ptuple_list]
    obtain ⟨f, hf, ef⟩ := list_choose (fun _ => 0) (fun g : Nat → Nat => ∀ j, j < n → g j < n) (fun g => PyData.tuple ((List.range n).map fun j => eI (g j))) t ht'
    rw [hl] at hf ef
    exact Tri.pure ⟨n, f, ⟨hn0, hn, fun i j hi hj => hf i hi j hj⟩, congrArg PyData.tuple ef⟩
end L76
end
section
set_option Elab.async false
set_option linter.all false
set_option maxRecDepth 100000
set_option maxHeartbeats 4000000
set_option autoImplicit false
namespace L76
open PySem PySem.Spec PyProof.Rows L2 RZ DL
theorem padd_eW {v u : List Bool} (h1 : v.length ≤ 4096) (h2 : u.length ≤ 4096) : padd (.str (eW v)) (.str (eW u)) = pure (.str (eW (v ++ u))) := by
  show (do chk ((eW v).length + (eW u).length ≤ sizeLine); pure (.str (eW v ++ eW u)) : M PyData) = _
  rw [chk_true (by rw [eW_len, eW_len, sizeLine_eq]; omega), pure_bind]
  congr 2
  unfold eW
  rw [str_cat]
  congr 1
  simp
theorem eC_one (c : Bool) : eC c = .str (eW [c]) := rfl
theorem flip_eC (c : Bool) : mIf (DL.tCmp peq (pure (eC c)) (pure (.str "a"))) (pure (.str "b")) (pure (.str "a")) = pure (eC (!c)) := by
  simp only [mIf, DL.tCmp, pure_bind, peq_a, asB_bool]
  cases c
  · rw [← eC_t]; rfl
  · rw [← eC_f]; rfl
def WO (w : List Bool) : Prop := w ≠ [] ∧ w.length ≤ 40
section
variable {n : Nat} {f : Nat → Nat → Nat} {a b : Nat} {w s : List Bool}
theorem row_idx {k : Nat} (h : k < n * n) : pidx (.tuple (rowL n f w)) (eI k) = pure (eI (wk n f w k)) := idx_tuple (atI_range (fun k => eI (wk n f w k)) h)
def difs (n : Nat) (f : Nat → Nat → Nat) (w s : List Bool) : List Nat := (List.range (n * n)).filter (dif n f w s)
theorem difs_head : (difs n f w s).head? = (List.range (n * n)).find? (dif n f w s) := by unfold difs; rw [List.head?_filter]
theorem agr_difs : agr n f w s = (difs n f w s).isEmpty := by
  unfold agr
  rw [← difs_head]
  cases difs n f w s <;> rfl
theorem eI_plain (l : List Nat) : PyData.plainAll (l.map eI) = true := plainAll_of fun d hd => by
  obtain ⟨k, _, rfl⟩ := List.mem_map.mp hd
  rfl
theorem peq_nil {ds : List PyData} (h : PyData.plainAll ds = true) : peq (.list ds) (.list []) = pure (.bool ds.isEmpty) := by
  rw [peq_of]
  · cases ds with
    | nil => rfl
    | cons d ds => rfl
  · have : PyData.depth (.list []) = 1 := rfl
    simp only [eqOk, PyData.plain, PyData.plainAll, h, Bool.and_true, Bool.true_and, decide_eq_true_eq]
    exact Nat.le_trans (Nat.min_le_right _ _) (by rw [this]; decide)
theorem e_places (o : Ok n f) : oLc (iRange1 (mOp pmul (pure (.int (n : Nat))) (pure (.int (n : Nat))))) (fun d => pure d) (fun t15 => DL.tCmp pne (mOp pidx (pure (.tuple (rowL n f w))) (pure t15)) (mOp pidx (pure (.tuple (rowL n f s))) (pure t15))) (fun t15 => pure t15) = pure ((difs n f w s).map eI) := by
  have hs := sq_le o
  have e1 : iRange1 (mOp pmul (pure (.int (n : Nat))) (pure (.int (n : Nat)))) = pure ((List.range (n * n)).map eI) := by
    rw [← range1_nat (show n * n ≤ 16777216 by omega)]
    have hm : pmul (.int (n : Nat)) (.int (n : Nat)) = pure (.int ((n * n : Nat) : Int)) := by
      rw [pmul_ok' (small_mul (i := n) (n := 9) (by have := o.2.1; omega) (by decide)), Int.natCast_mul]
    simp only [iRange1, mOp, pure_bind, hm]
  simp only [oLc]
  rw [e1, pure_bind, lcM_filter eI (dif n f w s) _ fun k hk => ?_]
  · rfl
  · have hk' := List.mem_range.mp hk
    simp only [DL.tCmp, mOp, pure_bind, row_idx hk']
    have : pne (eI (wk n f w k)) (eI (wk n f s k)) = pure (.bool (dif n f w s k)) := pne_int _ _
    rw [this, pure_bind, asB_bool]
theorem e_counter (o : Ok n f) : mIf (peekB (DL.tCmp pne (pure (.list ((difs n f w s).map eI))) (mLst (runs [])))) (mTup [mUn pint (mOp pfdiv (peekM (mOp pidx (pure (.list ((difs n f w s).map eI))) (pure (.int 0)))) (pure (.int (n : Nat)))), mOp pmod (mUn pint (peekM (mOp pidx (pure (.list ((difs n f w s).map eI))) (pure (.int 0))))) (pure (.int (n : Nat)))]) (pure .none) = pure (cntD n f w s) := by
  have hn := o.1
  have hn8 := o.2.1
  simp only [mIf]
  rw [todo_t (eI_plain _), pure_bind]
  unfold cntD
  rw [← difs_head]
  cases hd : difs n f w s with
  | nil => rfl
  | cons k r =>
    have hi : mOp pidx (pure (.list ((k :: r).map eI))) (pure (.int 0)) = pure (eI k) := by
      simp only [mOp, pure_bind]
      exact idx_list (atI_nat (j := 0) rfl)
    have hk : peekM (pure (eI k)) = pure (eI k) := rfl
    rw [hi, hk]
    have h1 : pfdiv (eI k) (.int (n : Nat)) = pure (eI (k / n)) := by
      unfold eI
      rw [pfdiv_ok' (by omega) (by omega), Int.natCast_ediv]
    have h2 : pmod (eI k) (.int (n : Nat)) = pure (eI (k % n)) := by
      unfold eI
      rw [pmod_ok' (by omega), Int.natCast_emod]
    have h3 : ∀ z, pint (eI z) = pure (eI z) := fun _ => rfl
    simp only [List.map_cons, List.isEmpty_cons, Bool.not_false, if_true, mTup, mUn, mOp, runs_cons, runs_nil, pure_bind, h1, h2, h3]
    rfl
theorem sm_eI (k : Nat) : Sm 0 (eI k) := rfl
theorem sm_row (h : n * n ≤ 64) : Sm 1 (.tuple (rowL n f w)) := .inr ⟨_, .inl rfl, by unfold rowL; rw [List.length_map, List.length_range]; omega, fun e he => by
  obtain ⟨k, _, rfl⟩ := List.mem_map.mp he
  exact sm_eI _⟩
theorem sm_cnt : Sm 1 (cntD n f w s) := by
  unfold cntD
  split
  · exact .inr ⟨_, .inl rfl, by show 2 ≤ 4096; decide, fun e he => by
      simp only [List.mem_cons, List.not_mem_nil, or_false] at he
      rcases he with rfl | rfl <;> rfl⟩
  · exact .inl rfl
theorem sm_list {j : Nat} {ds : List PyData} (h : ds.length ≤ 4096) (hd : ∀ d ∈ ds, Sm j d) : Sm (j + 1) (.list ds) := .inr ⟨ds, .inr rfl, h, hd⟩
theorem sm_bool (j : Nat) (b : Bool) : Sm j (.bool b) := Sm.le (j := 0) rfl (Nat.zero_le _)
/-- whether a value counts, told by the law itself -/
theorem e_good (o : Ok n f) {v : PyData} (hv : v.plain = true) : mAnd (mUn (pisT "tuple") (pure v)) (mAnd (mOp peq (mUn plen (pure v)) (pure (.int 2))) (mOp peq (mLst (oLc (iAll (pure v)) (fun d => pure d) (fun t23 => DL.tOr (DL.tCmp pne (mCall (ap1 m__law_sort) [pure t23]) (pure (.int 2))) (tNo (tVal (mChain ple plt (pure (.int 0)) (pure t23) (pure (.int (n : Nat))))))) (fun t23 => pure t23))) (mLst (runs [])))) = pure (.bool (thingsB n 2 2 v)) := by
  cases v with
  | dict _ => simp [PyData.plain] at hv
  | tuple ds =>
    have hp : ∀ d ∈ ds, d.plain = true := plainAll_mem (by simpa [PyData.plain] using hv)
    have h1 : mUn (pisT "tuple") (pure (.tuple ds)) = pure (.bool true) := rfl
    have h2 : mOp peq (mUn plen (pure (.tuple ds))) (pure (.int 2)) = pure (.bool (decide ((ds.length : Int) = 2))) := by simp only [mOp, mUn, pure_bind, plen_tuple, peq_int]
    have h3 : mOp peq (mLst (oLc (iAll (pure (.tuple ds))) (fun d => pure d) (fun t23 => DL.tOr (DL.tCmp pne (mCall (ap1 m__law_sort) [pure t23]) (pure (.int 2))) (tNo (tVal (mChain ple plt (pure (.int 0)) (pure t23) (pure (.int (n : Nat))))))) (fun t23 => pure t23))) (mLst (runs [])) = pure (.bool (ds.all (wholeB ((n : Int) - 1)))) := by
      have hl := lcM_filter (t := fun t23 => DL.tOr (DL.tCmp pne (mCall (ap1 m__law_sort) [pure t23]) (pure (.int 2))) (tNo (tVal (mChain ple plt (pure (.int 0)) (pure t23) (pure (.int (n : Nat))))))) (fun d : PyData => d) (fun d => !wholeB ((n : Int) - 1) d) ds fun d hd => by
        simp only [call1, DL.tOr, DL.tCmp, e_law_sort (hp d hd), liftP_pure, pure_bind, pne_int, asB_bool]
        cases d with
        | int i =>
          show (if (!decide ((2 : Int) = 2)) = true then pure true else tNo (tVal (mChain ple plt (pure (.int 0)) (pure (.int i)) (pure (.int (n : Nat)))))) = _
          rw [if_neg (by simp)]
          simp only [tNo, tVal, mChain, pure_bind, pcmp_int, asB_bool, bind_assoc]
          show _ = pure (!(decide (0 ≤ i) && decide (i ≤ (n : Int) - 1)))
          have e : decide (i < (n : Int)) = decide (i ≤ (n : Int) - 1) := by
            by_cases h : i < (n : Int)
            · rw [decide_eq_true h, decide_eq_true (by omega)]
            · rw [decide_eq_false h, decide_eq_false (by omega)]
          rw [e]
          cases decide (0 ≤ i) <;> rfl
        | _ => rfl
      simp only [List.map_id'] at hl
      simp only [mOp, mLst, oLc, iAll, pure_bind, pitems_tuple] at hl ⊢
      rw [hl]
      simp only [pure_bind, runs_nil, List.map_id']
      rw [peq_nil (plainAll_of fun d hd => hp d (List.mem_filter.mp hd).1)]
      congr 2
      rw [Bool.eq_iff_iff, List.isEmpty_iff, List.filter_eq_nil_iff, List.all_eq_true]
      simp
    rw [h1, h2, h3, and_bool, and_bool]
    congr 2
    show (true && (decide ((ds.length : Int) = 2) && ds.all _)) = (decide ((2 : Int) ≤ ds.length) && decide ((ds.length : Int) ≤ 2) && ds.all _)
    rw [Bool.true_and]
    congr 1
    by_cases h : (ds.length : Int) = 2
    · rw [h]; rfl
    · rw [decide_eq_false h]
      by_cases h4 : (2 : Int) ≤ ds.length
      · rw [decide_eq_true h4, decide_eq_false (by omega)]; rfl
      · rw [decide_eq_false h4]; rfl
  | _ => rfl
theorem e_good2 (o : Ok n f) {v : PyData} (hv : v.plain = true) : mAnd (pure (.bool (thingsB n 2 2 v))) (mOp pne (mOp pidx (pure (.tuple (rowL n f w))) (mOp padd (mOp pmul (mOp pidx (pure v) (pure (.int 0))) (pure (.int (n : Nat)))) (mOp pidx (pure v) (pure (.int 1))))) (mOp pidx (pure (.tuple (rowL n f s))) (mOp padd (mOp pmul (mOp pidx (pure v) (pure (.int 0))) (pure (.int (n : Nat)))) (mOp pidx (pure v) (pure (.int 1)))))) = pure (.bool (cntB n f w s v)) := by
  cases ht : thingsB n 2 2 v with
  | false => rw [cntB_no ht]; rfl
  | true =>
    obtain ⟨x, y, rfl, hx, hy⟩ := things2 ht
    rw [(cntB_pr (f := f) (w := w) (s := s) hx hy).2]
    have i0 : pidx (pr x y) (.int 0) = pure (.int (x : Nat)) := rfl
    have i1 : pidx (pr x y) (.int 1) = pure (.int (y : Nat)) := rfl
    have hm : pmul (.int (x : Nat)) (.int (n : Nat)) = pure (.int ((x * n : Nat) : Int)) := by
      rw [pmul_ok' (small_mul (i := x) (n := 9) (by have := o.2.1; omega) (by decide)), Int.natCast_mul]
    have ha : padd (.int ((x * n : Nat) : Int)) (.int (y : Nat)) = pure (eI (x * n + y)) := by
      rw [padd_int]
      unfold eI
      rw [Int.natCast_add]
    have hk : x * n + y < n * n := by
      have : (x + 1) * n ≤ n * n := Nat.mul_le_mul_right _ hx
      rw [Nat.succ_mul] at this
      omega
    have hpn : pne (eI (wk n f w (x * n + y))) (eI (wk n f s (x * n + y))) = pure (.bool (dif n f w s (x * n + y))) := pne_int _ _
    simp only [mAnd, mOp, pure_bind, asB_bool, if_true, i0, i1, hm, ha, row_idx hk, hpn]
theorem ww_back : ∀ (r : List Bool) (t : Nat), wf f b a t (r.map (!·)) = wf f a b t r
  | [], t => rfl
  | c :: r, t => by
    show wf f b a (f t (if (!c) then a else b)) (r.map (!·)) = wf f a b (f t (if c then b else a)) r
    rw [ww_back r]
    cases c <;> rfl
theorem ww_flip : ww f (w.map (!·)) b a = ww f w a b := by
  cases w with
  | nil => rfl
  | cons c r =>
    show wf f b a (if (!c) then a else b) (r.map (!·)) = wf f a b (if c then b else a) r
    rw [ww_back r]
    cases c <;> rfl
end
end L76
end
section
set_option Elab.async false
set_option linter.all false
set_option maxRecDepth 100000
set_option maxHeartbeats 4000000
set_option autoImplicit false
namespace L76
open PySem PySem.Spec PyProof.Rows L2 RZ DL
theorem Tri.eq {α : Type} {I : List PyData → Prop} {m m' : M α} {p : α → Prop} (e : m = m') (h : Tri I m' p) : Tri I m p := e ▸ h
/-- the second word -/
theorem t_second {w0 : List Bool} (h0 : WO w0) (h12 : w0.length ≤ 12) : Tri I76 (mCallC (ap1 m__law_some) [mLst (runs [mCallC (ap1 m__law_word) [pure (.int 12)], mOp padd (pure (.str (eW w0))) (mCallC (ap1 m__law_word) [pure (.int 6)]), mOp padd (mSl (pure (.str (eW w0))) (pure none) (pSome (mUn pneg (pure (.int 1))))) (mCallC (ap1 m__law_some) [pure (.str "ab")])])]) fun d => ∃ s, d = .str (eW s) ∧ WO s := by
  have e : (mCallC (ap1 m__law_some) [mLst (runs [mCallC (ap1 m__law_word) [pure (.int 12)], mOp padd (pure (.str (eW w0))) (mCallC (ap1 m__law_word) [pure (.int 6)]), mOp padd (mSl (pure (.str (eW w0))) (pure none) (pSome (mUn pneg (pure (.int 1))))) (mCallC (ap1 m__law_some) [pure (.str "ab")])])]) =
      (do let a ← m__law_word (.int 12); let b ← m__law_word (.int 6); let b' ← padd (.str (eW w0)) b; let z ← pslice (.str (eW w0)) none (some (-1)); let c ← m__law_some (.str "ab"); let c' ← padd z c; m__law_some (.list [a, b', c'])) := by
    simp only [mCallC, mLst, mOp, mSl, mUn, pSome, runs_cons, runs_nil, pure_bind, bind_assoc, pneg_int, asI_int]
  rw [e]
  refine (t_word (m := 12) (by decide) (by decide)).bind fun x ⟨u1, hx, hu, hul⟩ => ?_
  subst hx
  refine (t_word (m := 6) (by decide) (by decide)).bind fun x ⟨u2, hx, hu2, hul2⟩ => ?_
  subst hx
  rw [padd_eW (by omega) (by omega), pure_bind, slice_eW (by omega), pure_bind]
  refine t_some_ab.bind fun x ⟨c, hx⟩ => ?_
  subst hx
  have hc := cut_len w0 none (some (-1))
  rw [eC_one, padd_eW (by omega) (by show 1 ≤ 4096; decide), pure_bind]
  refine (t_some (by simp) (by show 3 < _; decide)).mono fun d hd => ?_
  simp only [List.mem_cons, List.not_mem_nil, or_false] at hd
  rcases hd with rfl | rfl | rfl
  · exact ⟨u1, rfl, ⟨hu, by omega⟩⟩
  · exact ⟨w0 ++ u2, rfl, ⟨fun z => hu2 (List.append_eq_nil_iff.mp z).2, by rw [List.length_append]; omega⟩⟩
  · exact ⟨_, rfl, ⟨(fun z => by have := (List.append_eq_nil_iff.mp z).2; cases this), by rw [List.length_append]; show _ + 1 ≤ 40; omega⟩⟩
theorem t_long : Tri I76 (mStr pjoin (pure (.str "")) (mLst (oLc (iRange1 (mOp padd (pure (.int 19)) (mCallC (ap1 m__law_roll) [pure (.int 22)]))) (fun d => pure d) (fun t5 => pure true) (fun t5 => mCallC (ap1 m__law_some) [pure (.str "ab")])))) fun d => ∃ v : List Bool, d = .str (eW v) ∧ 19 ≤ v.length ∧ v.length ≤ 40 := by
  have e : (mStr pjoin (pure (.str "")) (mLst (oLc (iRange1 (mOp padd (pure (.int 19)) (mCallC (ap1 m__law_roll) [pure (.int 22)]))) (fun d => pure d) (fun t5 => pure true) (fun t5 => mCallC (ap1 m__law_some) [pure (.str "ab")])))) =
      (do let r ← m__law_roll (.int 22); let x ← padd (.int 19) r; let ds ← iRange1 (pure x); let ys ← lcM (fun d => pure d) (fun _ => pure true) (fun _ => mCallC (ap1 m__law_some) [pure (.str "ab")]) ds; pjoin "" (.list ys)) := by
    simp only [mStr, mLst, oLc, iRange1, mOp, mCallC, runs_cons, runs_nil, pure_bind, bind_assoc, asS_str]
  rw [e]
  refine (t_roll (m := 22) (by decide) (by decide)).bind fun x ⟨r, hx, hr⟩ => ?_
  subst hx
  have hp : padd (.int 19) (.int (r : Nat)) = pure (.int ((19 + r : Nat) : Int)) := by rw [padd_int]; congr 2
  have h2 : iRange1 (pure (.int ((19 + r : Nat) : Int))) = pure (rangeD 0 ((19 + r : Nat) : Int)) := by
    simp only [iRange1, pure_bind, asI_int]
    rw [chk_true ⟨by omega, by omega⟩, pure_bind]
  rw [hp, pure_bind, h2, pure_bind]
  refine (t_letters (k := 19 + r)).bind fun ys ⟨bs, hys, hl⟩ => ?_
  subst hys
  rw [join_eC (by omega)]
  exact Tri.pure ⟨bs, rfl, by omega, by omega⟩
theorem t_flipped {v : List Bool} (h1 : 19 ≤ v.length) (h2 : v.length ≤ 40) {at' : Nat} (ha : at' < v.length) :
    mOp padd (mOp padd (mSl (pure (.str (eW v))) (pure none) (pSome (pure (eI at')))) (mIf (DL.tCmp peq (mOp pidx (pure (.str (eW v))) (pure (eI at'))) (pure (.str "a"))) (pure (.str "b")) (pure (.str "a")))) (mSl (pure (.str (eW v))) (pSome (mOp padd (pure (eI at')) (pure (.int 1)))) (pure none)) = pure (.str (eW (v.take at' ++ [!v[at']] ++ v.drop (at' + 1)))) := by
  have hi : mOp pidx (pure (.str (eW v))) (pure (eI at')) = pure (eC v[at']) := by
    simp only [mOp, pure_bind]
    exact idx_eW (by omega) (atI_nat (List.getElem?_eq_getElem ha))
  rw [hi, flip_eC, eC_one]
  have hs : mSl (pure (.str (eW v))) (pure none) (pSome (pure (eI at'))) = pure (.str (eW (v.take at'))) := by
    have : asI (eI at') = pure ((at' : Nat) : Int) := rfl
    simp only [mSl, pSome, pure_bind, this]
    rw [slice_eW (by omega), cut_to v at' (by omega)]
  have hd : mSl (pure (.str (eW v))) (pSome (mOp padd (pure (eI at')) (pure (.int 1)))) (pure none) = pure (.str (eW (v.drop (at' + 1)))) := by
    have : padd (eI at') (.int 1) = pure (.int ((at' + 1 : Nat) : Int)) := by unfold eI; rw [padd_int]; congr 2
    simp only [mSl, pSome, mOp, pure_bind, this, asI_int]
    rw [slice_eW (by omega), cut_from v (at' + 1) (by omega)]
  rw [hs, hd]
  have l1 : (v.take at').length ≤ 40 := by rw [List.length_take]; omega
  have l2 : (v.drop (at' + 1)).length ≤ 40 := by rw [List.length_drop]; omega
  simp only [mOp, pure_bind]
  rw [padd_eW (by omega) (by show 1 ≤ 4096; decide), pure_bind, padd_eW (by rw [List.length_append]; show _ + 1 ≤ 4096; omega) (by omega)]
theorem t_words {w0 s0 : List Bool} (hw : WO w0) (hs : WO s0) {β : Type} {k : PyData × PyData → M (Fl Unit β)} {p : Fl Unit β → Prop} (hk : ∀ w s, WO w → WO s → Tri I76 (k (.str (eW w), .str (eW s))) p) :
    Tri I76 (sIf (τ' := PyData × PyData) (DL.tCmp peq (mCallC (ap1 m__law_roll) [pure (.int 3)]) (pure (.int 0))) ((mStr pjoin (pure (.str "")) (mLst (oLc (iRange1 (mOp padd (pure (.int 19)) (mCallC (ap1 m__law_roll) [pure (.int 22)]))) (fun d => pure d) (fun t5 => pure true) (fun t5 => mCallC (ap1 m__law_some) [pure (.str "ab")])))) >>= fun x6 => ((mOp padd (pure (.int 18)) (mCallC (ap1 m__law_roll) [mOp psub (mUn plen (pure x6)) (pure (.int 18))])) >>= fun x7 =>
      ((mOp padd (mOp padd (mSl (pure x6) (pure none) (pSome (pure x7))) (mIf (DL.tCmp peq (mOp pidx (pure x6) (pure x7)) (pure (.str "a"))) (pure (.str "b")) (pure (.str "a")))) (mSl (pure x6) (pSome (mOp padd (pure x7) (pure (.int 1)))) (pure none))) >>= fun x8 => pure (.nx (x6, x8))))) (pure (.nx (.str (eW w0), .str (eW s0)))) k) p := by
  refine Tri.thenF ?_
  have hc : Tri I76 (DL.tCmp peq (mCallC (ap1 m__law_roll) [pure (.int 3)]) (pure (.int 0))) fun _ => True := by
    simp only [DL.tCmp, callC1]
    refine (t_roll (m := 3) (by decide) (by decide)).bind fun x ⟨r, hx, _⟩ => ?_
    subst hx
    simp only [pure_bind, peq_int, asB_bool]
    exact Tri.pure trivial
  refine hc.bind fun bb _ => ?_
  cases bb with
  | false =>
    rw [if_neg (by simp)]
    exact Tri.pure (hk _ _ hw hs)
  | true =>
    rw [if_pos rfl]
    refine t_long.bind fun x6 ⟨v, hx, h1, h2⟩ => ?_
    subst hx
    have e7 : mOp padd (pure (.int 18)) (mCallC (ap1 m__law_roll) [mOp psub (mUn plen (pure (.str (eW v)))) (pure (.int 18))]) = (do let r ← m__law_roll (eI (v.length - 18)); padd (.int 18) r) := by
      have hsub : psub (.int (v.length : Nat)) (.int 18) = pure (eI (v.length - 18)) := by
        rw [psub_int]
        unfold eI
        congr 2
        omega
      simp only [mOp, mUn, mCallC, runs_cons, runs_nil, pure_bind, len_eW (show v.length ≤ 4096 by omega), hsub]
    rw [e7, bind_assoc]
    refine (t_rollN (n := v.length - 18) (by omega) (by omega)).bind fun x ⟨r, hx, hr⟩ => ?_
    subst hx
    have hp : padd (.int 18) (eI r) = pure (eI (18 + r)) := by unfold eI; rw [padd_int]; congr 2
    rw [hp, pure_bind, t_flipped h1 h2 (show 18 + r < v.length by omega), pure_bind]
    refine Tri.pure (hk _ _ ⟨fun z => by subst z; simp at h1, h2⟩ ⟨fun z => ?_, ?_⟩)
    · have := (List.append_eq_nil_iff.mp z).1
      have := (List.append_eq_nil_iff.mp this).2
      cases this
    · rw [List.length_append, List.length_append, List.length_take, List.length_drop]
      show _ + 1 + _ ≤ 40
      omega
end L76
end
section
set_option Elab.async false
set_option linter.all false
set_option maxRecDepth 100000
set_option maxHeartbeats 4000000
set_option autoImplicit false
namespace L76
open PySem PySem.Spec PyProof.Rows L2 RZ DL
theorem like_no {X Y : M PyData} {d : PyData} {j : Nat} (hx : X = pure d) (hy : Y = pure d) (h : Sm j d) (l : j ≤ 11 := by decide) : tNo (tVal (mCall (ap2 (m__law_like 12)) [X, Y])) = pure false := by
  rw [hx, hy, call2, like12 h l]
  rfl
theorem ifR_no {τ β : Type} {A : M (Fl Empty β)} {B : M (Fl τ β)} {c : M Bool} (h : c = pure false) : sIfR c A B = B := by
  simp only [sIfR, h, pure_bind, Bool.false_eq_true, if_false]
theorem t_right {n : Nat} {f : Nat → Nat → Nat} (o : Ok n f) : Tri I76 (m__law_right (eP n f)) fun d => d = .bool true := by
  have hn0 := o.1
  have hn8 := o.2.1
  have hsq := sq_le o
  unfold m__law_right
  refine Tri.finish ?_
  unfold b__law_right
  have hlen : mUn plen (pure (eP n f)) = pure (eI n) := by simp only [mUn, pure_bind, len_eP]; rfl
  simp only [sPar]
  rw [hlen, pure_bind, callC1]
  refine (t_word (m := 12) (by decide) (by decide)).bind fun x2 ⟨w0, hx, h1, h2⟩ => ?_
  subst hx
  refine (t_second ⟨h1, by omega⟩ h2).bind fun x3 ⟨s0, hx, hs0⟩ => ?_
  subst hx
  refine t_words ⟨h1, by omega⟩ hs0 fun w s hw hs => ?_
  obtain ⟨w1, w2⟩ := hw
  obtain ⟨s1, s2⟩ := hs
  dsimp only
  rw [callC1]
  refine (t_rollN hn0 (by omega)).bind fun x9 ⟨a, hx, ha⟩ => ?_
  subst hx
  refine (t_rollN hn0 (by omega)).bind fun x10 ⟨b, hx, hb⟩ => ?_
  subst hx
  have e1 : mCall (ap4 m__law_worth_of) [pure (eP n f), pure (.str (eW w)), pure (eI a), pure (eI b)] = pure (eI (ww f w a b)) := by
    rw [call4]
    exact congrArg liftP (e_law_worth_of o ha hb w1 (by omega))
  rw [e1, pure_bind]
  have row : ∀ v : List Bool, v ≠ [] → v.length ≤ 40 → mCall (ap2 m__law_row) [pure (eP n f), pure (.str (eW v))] = pure (.tuple (rowL n f v)) := fun v h1 h2 => by
    rw [call2, e_law_row o h1 (by omega)]
    rfl
  have e2a : mCall (ap3 m_word_worth) [pure (eP n f), pure (.str (eW w)), mTup [pure (eI a), pure (eI b)]] = pure (eI (ww f w a b)) := by
    have : mTup [pure (eI a), pure (eI b)] = pure (pr a b) := rfl
    rw [this, call3]
    exact congrArg liftP (e_word_worth o ha hb w1 w2)
  have ltm : ∀ v : List Bool, v ≠ [] → v.length ≤ 40 → mCall (ap1 m__law_term) [pure (.str (eW v))] = pure (tm v) := fun v h1 h2 => by
    rw [call1, e_law_term h1 (by omega)]
    rfl
  have e2b : mCall (ap3 m_term_worth) [pure (eP n f), mCall (ap1 m__law_term) [pure (.str (eW w))], mTup [pure (eI a), pure (eI b), pure (.int 0), pure (.int 0)]] = pure (eI (ww f w a b)) := by
    have : mTup [pure (eI a), pure (eI b), pure (.int 0), pure (.int 0)] = pure (th a b) := rfl
    rw [this, ltm w w1 w2, call3, e_term_worth o ha hb w1 w2]
    rfl
  have e2c : mCall (ap2 m_word_row) [pure (eP n f), pure (.str (eW w))] = pure (.tuple (rowL n f w)) := by
    rw [call2, e_word_row o w1 w2]
    rfl
  rw [e2a, e2b, e2c, row w w1 w2, row s s1 s2]
  have three : ∀ x y z : PyData, mLst (runs [pure x, pure y, pure z]) = pure (.list [x, y, z]) := fun _ _ _ => rfl
  rw [three, pure_bind]
  have sm3 : Sm 2 (.list [eI (ww f w a b), eI (ww f w a b), .tuple (rowL n f w)]) := sm_list (by show 3 ≤ 4096; decide) fun d hd => by
    simp only [List.mem_cons, List.not_mem_nil, or_false] at hd
    rcases hd with rfl | rfl | rfl
    · exact Sm.le (sm_eI _) (by decide)
    · exact Sm.le (sm_eI _) (by decide)
    · exact sm_row hsq
  rw [ifR_no (like_no rfl rfl sm3), pure_bind, pure_bind]
  have ep := e_places (w := w) (s := s) o
  have ep' : oLc (iRange1 (mOp pmul (pure (eI n)) (pure (eI n)))) (fun d => pure d) (fun t15 => DL.tCmp pne (mOp pidx (pure (.tuple (rowL n f w))) (pure t15)) (mOp pidx (pure (.tuple (rowL n f s))) (pure t15))) (fun t15 => pure t15) = pure ((difs n f w s).map eI) := ep
  rw [ep', pure_bind]
  have ec := e_counter (w := w) (s := s) o
  have ec' : mIf (peekB (DL.tCmp pne (pure (.list ((difs n f w s).map eI))) (mLst (runs [])))) (mTup [mUn pint (mOp pfdiv (peekM (mOp pidx (pure (.list ((difs n f w s).map eI))) (pure (.int 0)))) (pure (eI n))), mOp pmod (mUn pint (peekM (mOp pidx (pure (.list ((difs n f w s).map eI))) (pure (.int 0))))) (pure (eI n))]) (pure .none) = pure (cntD n f w s) := ec
  rw [ec', pure_bind]
  have e3a : mCall (ap3 m_do_words_agree) [pure (eP n f), pure (.str (eW w)), pure (.str (eW s))] = pure (.bool (agr n f w s)) := by
    rw [call3, e_do_words_agree o w1 w2 s1 s2]
    rfl
  have e3b : mCall (ap3 m_word_counter) [pure (eP n f), pure (.str (eW w)), pure (.str (eW s))] = pure (cntD n f w s) := by
    rw [call3, e_word_counter o w1 w2 s1 s2]
    rfl
  have e3c : mCall (ap2 m_does_hold) [pure (eP n f), mTup [mCall (ap1 m__law_term) [pure (.str (eW w))], mCall (ap1 m__law_term) [pure (.str (eW s))]]] = pure (.bool (agr n f w s)) := by
    have : mTup [mCall (ap1 m__law_term) [pure (.str (eW w))], mCall (ap1 m__law_term) [pure (.str (eW s))]] = pure (ru w s) := by
      rw [ltm w w1 w2, ltm s s1 s2]
      rfl
    rw [this, call2, e_does_hold o w1 w2 s1 s2]
    rfl
  have e3d : mOp peq (pure (.list ((difs n f w s).map eI))) (mLst (runs [])) = pure (.bool (agr n f w s)) := by
    have : mLst (runs []) = pure (.list []) := rfl
    rw [this]
    simp only [mOp, pure_bind]
    rw [peq_nil (eI_plain _), agr_difs]
    congr 2
    cases difs n f w s <;> rfl
  rw [e3a, e3b, e3c, e3d, three, pure_bind]
  have smb : Sm 2 (.list [.bool (agr n f w s), cntD n f w s, .bool (agr n f w s)]) := sm_list (by show 3 ≤ 4096; decide) fun d hd => by
    simp only [List.mem_cons, List.not_mem_nil, or_false] at hd
    rcases hd with rfl | rfl | rfl
    · exact sm_bool _ _
    · exact sm_cnt
    · exact sm_bool _ _
  rw [ifR_no (c := peekB _) (by rw [like_no rfl rfl smb]; rfl)]
  -- the values drawn
  have e19 : mTup [m__law_roll (eI n), m__law_roll (eI n)] = (do let x ← m__law_roll (eI n); let y ← m__law_roll (eI n); pure (.tuple [x, y])) := by
    simp only [mTup, runs_cons, runs_nil, pure_bind, bind_assoc]
  have hx19 : Tri I76 (mTup [m__law_roll (eI n), m__law_roll (eI n)]) fun d => ∃ x y : Nat, d = pr x y := by
    rw [e19]
    refine (t_rollN hn0 (by omega)).bind fun x ⟨r, hx, _⟩ => ?_
    subst hx
    refine (t_rollN hn0 (by omega)).bind fun y ⟨q, hy, _⟩ => ?_
    subst hy
    exact Tri.pure ⟨r, q, rfl⟩
  refine hx19.bind fun x19 ⟨x, y, hx⟩ => ?_
  subst hx
  have hx20 : Tri I76 (mLst (runs [(pure (cntD n f w s)), (pure (pr x y)), (mUn prev (pure (pr x y))), (mLst (oList (pure (pr x y)))), (mOp padd (pure (pr x y)) (mTup [(pure (.int 0))])), (mSl (pure (pr x y)) (pure none) (pSome (pure (.int 1)))), (mTup [(mOp pidx (pure (pr x y)) (pure (.int 0))), (pure (eI n))]), (mTup [(mUn pneg (pure (.int 1))), (pure (.int 0))]), (mTup [(pure (.bool true)), (pure (.int 0))]), (pure .none), (mTup []), (pure (.int 5)), (pure (.str "ab")), (mCallC (ap1 (m__law_bent 12)) [(pure (pr x y))])])) fun d => ∃ ds, d = .list ds ∧ ∀ v ∈ ds, v.plain = true := by
    have r1 : mUn prev (pure (pr x y)) = pure (.tuple [eI y, eI x]) := rfl
    have r2 : mLst (oList (pure (pr x y))) = pure (.list [eI x, eI y]) := rfl
    have r3 : mOp padd (pure (pr x y)) (mTup [pure (.int 0)]) = pure (.tuple [eI x, eI y, .int 0]) := by
      have hh : mTup [pure (.int 0)] = pure (.tuple [.int 0]) := rfl
      rw [hh]
      simp only [mOp, pure_bind]
      show (do chk ([eI x, eI y].length + [PyData.int 0].length ≤ sizeLine); pure (.tuple [eI x, eI y, .int 0]) : M PyData) = _
      rw [chk_true (by rw [sizeLine_eq]; show 2 + 1 ≤ 16777216; decide), pure_bind]
    have r4 : mSl (pure (pr x y)) (pure none) (pSome (pure (.int 1))) = pure (.tuple (cutP [eI x, eI y] none (some 1))) := rfl
    have r5 : mTup [mOp pidx (pure (pr x y)) (pure (.int 0)), pure (eI n)] = pure (.tuple [eI x, eI n]) := rfl
    have r6 : mTup [mUn pneg (pure (.int 1)), pure (.int 0)] = pure (.tuple [.int (-1), .int 0]) := rfl
    have r7 : mTup [pure (.bool true), pure (.int 0)] = pure (.tuple [.bool true, .int 0]) := rfl
    have r8 : mTup [] = pure (.tuple []) := rfl
    rw [r1, r2, r3, r4, r5, r6, r7, r8, callC1]
    simp only [mLst, runs_cons, runs_nil, pure_bind, bind_assoc]
    refine (t_bent_pair 10 x y).bind fun z hz => Tri.pure ⟨_, rfl, fun v hv => ?_⟩
    simp only [List.mem_cons, List.not_mem_nil, or_false] at hv
    rcases hv with rfl | rfl | rfl | rfl | rfl | rfl | rfl | rfl | rfl | rfl | rfl | rfl | rfl | rfl
    · exact sm_cnt.plain
    · rfl
    · rfl
    · rfl
    · rfl
    · exact cut_plain (xs := [eI x, eI y]) rfl none (some 1)
    · rfl
    · rfl
    · rfl
    · rfl
    · rfl
    · rfl
    · rfl
    · exact hz
  refine hx20.bind fun x20 ⟨ds, hx, hds⟩ => ?_
  subst hx
  have hit : iAll (pure (.list ds)) = pure ds := rfl
  simp only [sFor]
  rw [hit, pure_bind]
  refine (Tri.for (fun _ (_ : Unit) => True) 0 trivial fun i v t hv _ => ?_).bind fun r ⟨t, hr, _⟩ => ?_
  · have hp := hds v (List.mem_of_getElem? hv)
    rw [pure_bind]
    have g1 := e_good (n := n) (f := f) o hp
    rw [show (pure (.int (n : Nat)) : M PyData) = pure (eI n) from rfl] at g1
    rw [g1, pure_bind]
    have g2 := e_good2 (w := w) (s := s) o hp
    rw [show (pure (.int (n : Nat)) : M PyData) = pure (eI n) from rfl] at g2
    rw [g2, pure_bind]
    have g3 : mCall (ap4 m_is_word_counter) [pure (eP n f), pure (.str (eW w)), pure (.str (eW s)), pure v] = pure (.bool (cntB n f w s v)) := by
      rw [call4, e_is_word_counter o w1 w2 s1 s2 hp]
      rfl
    rw [g3, ifR_no (like_no (j := 0) rfl rfl (sm_bool 0 (cntB n f w s v)))]
    exact Tri.pure ⟨(), .inl rfl, trivial⟩
  · subst hr
    rw [contL_inl]
    have eb : mStr pjoin (pure (.str "")) (mLst (oLc (iAll (pure (.str (eW w)))) (fun d => pure d) (fun t26 => pure true) (fun t26 => mIf (DL.tCmp peq (pure t26) (pure (.str "a"))) (pure (.str "b")) (pure (.str "a"))))) = pure (.str (eW (w.map (!·)))) := by
      have hl := lcM_map (f := fun t26 => mIf (DL.tCmp peq (pure t26) (pure (.str "a"))) (pure (.str "b")) (pure (.str "a"))) eC (fun c => eC (!c)) w fun c _ => flip_eC c
      have hl2 : oLc (iAll (pure (.str (eW w)))) (fun d => pure d) (fun t26 => pure true) (fun t26 => mIf (DL.tCmp peq (pure t26) (pure (.str "a"))) (pure (.str "b")) (pure (.str "a"))) = pure ((w.map (!·)).map eC) := by
        have hi : iAll (pure (.str (eW w))) = pure (w.map eC) := by simp only [iAll, pure_bind]; exact items_eW (by omega)
        unfold oLc
        rw [hi, pure_bind, hl, List.map_map]
        rfl
      rw [hl2]
      have hm : mLst (pure ((w.map (!·)).map eC)) = pure (.list ((w.map (!·)).map eC)) := rfl
      rw [hm]
      show pjoin "" (.list _) = _
      rw [join_eC (by rw [List.length_map]; omega)]
    rw [eb, pure_bind]
    have ew : mCall (ap3 m_word_worth) [pure (eP n f), pure (.str (eW (w.map (!·)))), mTup [pure (eI b), pure (eI a)]] = pure (eI (ww f w a b)) := by
      have : mTup [pure (eI b), pure (eI a)] = pure (pr b a) := rfl
      rw [this, call3]
      have := e_word_worth (w := w.map (!·)) o hb ha (by intro z; exact w1 (List.map_eq_nil_iff.mp z)) (by rw [List.length_map]; exact w2)
      rw [ww_flip] at this
      exact congrArg liftP this
    rw [ew, call2, like12 (sm_eI (ww f w a b))]
    exact Tri.of (x := .rt (.bool true)) rfl rfl
end L76
end
section
set_option Elab.async false
set_option linter.all false
set_option maxRecDepth 100000
set_option maxHeartbeats 4000000
set_option autoImplicit false
namespace L76
open PySem PySem.Spec PyProof.Rows L2 RZ DL
theorem e_cup (ns : List Int) (hl : ns.length ≤ 63) : ∃ x y : Int, m__law_cup (.list (ns.map .int)) = pure (.list [.int x, .int y]) ∧ 0 ≤ y ∧ y < 4294967296 := by
  have hz : ∃ z : Int, mOp pidx (mOp padd (mLst (oList (pure (.list (ns.map .int))))) (mLst (runs [pure (.int 0)]))) (pure (.int 0)) = pure (.int z) := by
    have h1 : mOp padd (mLst (oList (pure (.list (ns.map .int))))) (mLst (runs [pure (.int 0)])) = pure (.list (ns.map .int ++ [.int 0])) := by
      simp only [mOp, mLst, oList, runs_cons, runs_nil, pure_bind, seqOf_list, padd_list]
      rw [chk_true (by rw [List.length_map, sizeLine_eq]; show _ + 1 ≤ _; omega), pure_bind]
    rw [h1]
    cases ns with
    | nil => exact ⟨0, by simp only [mOp, pure_bind]; exact idx_list (atI_nat (j := 0) rfl)⟩
    | cons z r => exact ⟨z, by simp only [mOp, pure_bind]; exact idx_list (atI_nat (j := 0) rfl)⟩
  obtain ⟨z, hz⟩ := hz
  have ha : mUn pabs (pure (.int z)) = pure (.int (if z < 0 then -z else z)) := by simp only [mUn, pure_bind, pabs_int]
  generalize hc : (if z < 0 then -z else z) = c at ha
  have hp : mOp ppow (pure (.int 10)) (pure (.int 18)) = pure (.int (10 ^ (18 : Int).toNat)) := by
    simp only [mOp, pure_bind]
    unfold ppow
    dsimp only
    rw [chk_true (by decide), pure_bind]
  have h3 : ∃ x, mIf (DL.tCmp pge (pure (.int c)) (mOp ppow (pure (.int 10)) (pure (.int 18)))) (mOp pfdiv (pure (.int c)) (pure (.int 73))) (pure (.int 0)) = pure (.int x) := by
    rw [hp]
    simp only [mIf, DL.tCmp, mOp, pure_bind, pcmp_int, asB_bool, pfdiv_ok' (show (0 : Int) < 73 by decide) (by decide)]
    cases decide ((10 : Int) ^ (18 : Int).toNat ≤ c)
    · exact ⟨0, rfl⟩
    · exact ⟨c / 73, rfl⟩
  obtain ⟨x, h3⟩ := h3
  have h4 : mOp padd (mOp pmod (mUn pint (mOp padd (mOp pmul (pure (.int c)) (pure (.int 283))) (pure (.int 3907)))) (pure (.int 2077503167))) (pure (.int 167)) = pure (.int ((c * 283 + 3907) % 2077503167 + 167)) := by
    simp only [mOp, mUn, pure_bind, pmul_ok' (show CMul c 283 from .inr (by omega)), padd_int, pint_int, pmod_ok' (show (0 : Int) < 2077503167 by decide)]
  have b1 := Int.emod_nonneg (c * 283 + 3907) (show (2077503167 : Int) ≠ 0 by decide)
  have b2 := Int.emod_lt_of_pos (c * 283 + 3907) (show (0 : Int) < 2077503167 by decide)
  refine ⟨x, (c * 283 + 3907) % 2077503167 + 167, ?_, by omega, by omega⟩
  unfold m__law_cup b__law_cup
  rw [hz, ha, pure_bind, h3, h4]
  simp only [sRetO, runs_cons, runs_nil, pure_bind, DL.finish_rt]
/-! ### letter words -/
theorem e_is_letter_word {w : List Bool} (h : w.length ≤ 4096) : m_is_letter_word (.str (eW w)) = pure (.bool (decide (1 ≤ (w.length : Int)) && decide ((w.length : Int) ≤ 40))) := by
  unfold m_is_letter_word b_is_letter_word
  rw [call4, e_is_word h]
  rfl
theorem pin_one (c : Nat) : pin (.str ⟨#[c]⟩) (.str "ab") = pure (.bool (decide (c ∈ (Str.ofString "ab").cps.toList))) := rfl
theorem pnin_one (c : Nat) : pnin (.str ⟨#[c]⟩) (.str "ab") = pure (.bool (!decide (c ∈ (Str.ofString "ab").cps.toList))) := rfl
def oneS (c : Nat) : PyData := .str ⟨#[c]⟩
theorem e_letter_any {v : PyData} (hv : v.plain = true) (hz : ∀ z, v = .str z → z.length ≤ 4096) : ∃ b, m_is_letter_word v = pure (.bool b) ∧ m__law_is_word v = pure (.bool b) := by
  unfold m_is_letter_word b_is_letter_word m__law_is_word b__law_is_word
  cases v with
  | dict _ => simp [PyData.plain] at hv
  | str z =>
    have hl := hz z rfl
    have h1 : mUn (pisT "str") (pure (.str z)) = pure (.bool true) := rfl
    have hlen : plen (.str z) = pure (.int z.length) := by
      unfold plen
      dsimp only
      rw [chk_true (by rw [sizeLine_eq]; omega), pure_bind]
    have h2 : mChain ple ple (pure (.int 1)) (mUn plen (pure (.str z))) (pure (.int 40)) = pure (.bool (decide (1 ≤ (z.length : Int)) && decide ((z.length : Int) ≤ 40))) := by
      rw [← chain_le]
      simp only [mChain, mUn, pure_bind, hlen]
    have hit : iAll (pure (.str z)) = pure (z.cps.toList.map oneS) := by
      simp only [iAll, pure_bind]
      unfold pitems
      dsimp only
      rw [chk_true (by rw [sizeLine_eq]; omega), pure_bind]
      rfl
    have h3 : mUn pall (mLst (oLc (iAll (pure (.str z))) (fun d => pure d) (fun t1 => pure true) (fun t1 => mOp pin (pure t1) (pure (.str "ab"))))) = pure (.bool (z.cps.toList.all fun c => decide (c ∈ (Str.ofString "ab").cps.toList))) := by
      have hl := lcM_map (f := fun t1 => mOp pin (pure t1) (pure (.str "ab"))) oneS (fun c => .bool (decide (c ∈ (Str.ofString "ab").cps.toList))) z.cps.toList fun c _ => pin_one c
      unfold oLc
      rw [hit, pure_bind, hl]
      have e : z.cps.toList.map (fun c => PyData.bool (decide (c ∈ (Str.ofString "ab").cps.toList))) = (z.cps.toList.map fun c => decide (c ∈ (Str.ofString "ab").cps.toList)).map .bool := by rw [List.map_map]; rfl
      rw [e]
      show pall (.list _) = _
      unfold pall
      dsimp only
      rw [boolsOf_map, optM_some, pure_bind, List.all_map]
      rfl
    have h4 : mOp peq (mLst (oLc (iAll (pure (.str z))) (fun d => pure d) (fun t1 => DL.tCmp pnin (pure t1) (pure (.str "ab"))) (fun t1 => pure t1))) (mLst (runs [])) = pure (.bool (z.cps.toList.all fun c => decide (c ∈ (Str.ofString "ab").cps.toList))) := by
      have hl := lcM_filter (t := fun t1 => DL.tCmp pnin (pure t1) (pure (.str "ab"))) oneS (fun c => !decide (c ∈ (Str.ofString "ab").cps.toList)) z.cps.toList fun c _ => rfl
      unfold oLc
      rw [hit, pure_bind, hl]
      show peq (.list _) (.list []) = _
      rw [peq_nil (plainAll_of fun d hd => by
        obtain ⟨c, _, rfl⟩ := List.mem_map.mp hd
        rfl)]
      congr 2
      rw [Bool.eq_iff_iff, List.isEmpty_iff, List.map_eq_nil_iff, List.filter_eq_nil_iff, List.all_eq_true]
      simp
    have h5 : m_is_word (.str z) (.str "ab") (.int 1) (.int 40) = pure (.bool (true && ((decide (1 ≤ (z.length : Int)) && decide ((z.length : Int) ≤ 40)) && z.cps.toList.all fun c => decide (c ∈ (Str.ofString "ab").cps.toList)))) := by
      unfold m_is_word b_is_word
      rw [h1, h2, h3, and_bool, and_bool]
      rfl
    refine ⟨true && ((decide (1 ≤ (z.length : Int)) && decide ((z.length : Int) ≤ 40)) && z.cps.toList.all fun c => decide (c ∈ (Str.ofString "ab").cps.toList)), ?_, ?_⟩
    · rw [call4, h5]
      rfl
    · rw [h1, h2, h4, and_bool, and_bool]
      rfl
  | _ => exact ⟨false, rfl, rfl⟩
end L76
end
section
set_option Elab.async false
set_option linter.all false
set_option maxRecDepth 100000
set_option maxHeartbeats 4000000
set_option autoImplicit false
namespace L76
open PySem PySem.Spec PyProof.Rows L2 RZ DL
def ct (c : Bool) (w : List Bool) : Nat := (w.filter (· == c)).length
theorem ct_cons (c d : Bool) (w : List Bool) : ct c (d :: w) = (if d == c then 1 else 0) + ct c w := by
  unfold ct
  rw [List.filter_cons]
  split
  · rw [List.length_cons]; omega
  · omega
theorem cnt_eW (c : Bool) (w : List Bool) : Txt.count (eW w) ⟨#[chr c]⟩ = ((ct c w : Nat) : Int) := by
  rw [count_is, eW_list, List.map_map]
  induction w with
  | nil => rfl
  | cons d w ih =>
    rw [ct_cons]
    show (if same (.str ⟨#[chr d]⟩) (.str ⟨#[chr c]⟩) then (1 : Int) else 0) + countIn (.str ⟨#[chr c]⟩) (w.map _) = _
    rw [ih]
    have : same (.str ⟨#[chr d]⟩) (.str ⟨#[chr c]⟩) = (d == c) := by cases c <;> cases d <;> decide +kernel
    rw [this]
    cases d == c <;> simp <;> omega
def fr (n i j : Nat) : Nat := (i + j) % n
theorem wf_fr {n a b : Nat} (hn : 0 < n) : ∀ (r : List Bool) (t : Nat), t < n → wf (fr n) a b t r = (t + (ct false r * a + ct true r * b)) % n
  | [], t, h => by show t = (t + (0 * a + 0 * b)) % n; rw [Nat.zero_mul, Nat.zero_mul]; exact (Nat.mod_eq_of_lt h).symm
  | c :: r, t, h => by
    show wf (fr n) a b (fr n t (if c then b else a)) r = _
    have hlt : fr n t (if c then b else a) < n := Nat.mod_lt _ hn
    rw [wf_fr hn r _ hlt, ct_cons, ct_cons]
    unfold fr
    rw [Nat.mod_add_mod]
    congr 1
    cases c
    · show t + a + (ct false r * a + ct true r * b) = t + ((1 + ct false r) * a + (0 + ct true r) * b)
      rw [Nat.add_mul, Nat.add_mul, Nat.one_mul, Nat.zero_mul]; omega
    · show t + b + (ct false r * a + ct true r * b) = t + ((0 + ct false r) * a + (1 + ct true r) * b)
      rw [Nat.add_mul, Nat.add_mul, Nat.one_mul, Nat.zero_mul]; omega
theorem ww_fr {n a b : Nat} (hn : 0 < n) (ha : a < n) (hb : b < n) {w : List Bool} (h0 : w ≠ []) : ww (fr n) w a b = (ct false w * a + ct true w * b) % n := by
  cases w with
  | nil => exact absurd rfl h0
  | cons c r =>
    show wf (fr n) a b (if c then b else a) r = _
    rw [wf_fr hn r _ (by cases c <;> assumption), ct_cons, ct_cons]
    congr 1
    cases c
    · show a + (ct false r * a + ct true r * b) = (1 + ct false r) * a + (0 + ct true r) * b
      rw [Nat.add_mul, Nat.add_mul, Nat.one_mul, Nat.zero_mul]; omega
    · show b + (ct false r * a + ct true r * b) = (0 + ct false r) * a + (1 + ct true r) * b
      rw [Nat.add_mul, Nat.add_mul, Nat.one_mul, Nat.zero_mul]; omega
def f1 (i _ : Nat) : Nat := i
def f2 (_ j : Nat) : Nat := j
theorem wf_f1 {a b : Nat} : ∀ (r : List Bool) (t : Nat), wf f1 a b t r = t
  | [], _ => rfl
  | c :: r, t => wf_f1 r t
theorem wf_f2 {a b : Nat} : ∀ (r : List Bool) (t : Nat) (c : Bool), wf f2 a b t (r ++ [c]) = if c then b else a
  | [], _, _ => rfl
  | d :: r, t, c => wf_f2 r _ c
theorem ww_f2 {a b : Nat} (w : List Bool) (c : Bool) : ww f2 (w ++ [c]) a b = if c then b else a := by
  cases w with
  | nil => rfl
  | cons d r => exact wf_f2 r _ c
theorem ok_fr {n : Nat} (h0 : 0 < n) (h : n ≤ 8) : Ok n (fr n) := ⟨h0, h, fun _ _ _ _ => Nat.mod_lt _ h0⟩
theorem ok_f1 {n : Nat} (h0 : 0 < n) (h : n ≤ 8) : Ok n f1 := ⟨h0, h, fun _ _ hi _ => hi⟩
theorem ok_f2 {n : Nat} (h0 : 0 < n) (h : n ≤ 8) : Ok n f2 := ⟨h0, h, fun _ _ _ hj => hj⟩
theorem tab_row {n : Nat} (h : n ≤ 8) {g : PyData → M PyData} {y : Nat → PyData} (hg : ∀ j, j < n → g (eI j) = pure (y j)) : mUn ptuple (mLst (oLc (iRange1 (pure (eI n))) (fun d => pure d) (fun _ => pure true) g)) = pure (.tuple ((List.range n).map y)) := by
  have hr : iRange1 (pure (eI n)) = pure ((List.range n).map eI) := range1_nat (by omega)
  unfold oLc
  rw [hr, pure_bind, lcM_map eI y _ fun j hj => hg j (List.mem_range.mp hj)]
  rfl
theorem e_rests {n : Nat} (h0 : 0 < n) (h : n ≤ 8) : mUn ptuple (mLst (oLc (iRange1 (pure (eI n))) (fun d => pure d) (fun t14 => pure true) (fun t14 => mUn ptuple (mLst (oLc (iRange1 (pure (eI n))) (fun d => pure d) (fun t15 => pure true) (fun t15 => mOp pmod (mUn pint (mOp padd (pure t14) (pure t15))) (pure (eI n)))))))) = pure (eP n (fr n)) :=
  tab_row h fun i hi => tab_row h fun j hj => by
    have e : padd (eI i) (eI j) = pure (.int ((i + j : Nat) : Int)) := by unfold eI; rw [padd_int, Int.natCast_add]
    have e2 : pmod (.int ((i + j : Nat) : Int)) (eI n) = pure (.int (fr n i j : Nat)) := by
      unfold eI fr
      rw [pmod_ok' (by omega), Int.natCast_emod]
    simp only [mOp, mUn, pure_bind, e, pint_int, e2]
theorem e_first {n : Nat} (h0 : 0 < n) (h : n ≤ 8) : mUn ptuple (mLst (oLc (iRange1 (pure (eI n))) (fun d => pure d) (fun t17 => pure true) (fun t17 => mOp pmul (mTup [pure t17]) (pure (eI n))))) = pure (eP n f1) :=
  tab_row h fun i hi => by
    have ht : mTup [pure (eI i)] = pure (.tuple [eI i]) := rfl
    rw [ht]
    simp only [mOp, pure_bind]
    have flat : ∀ k : Nat, (List.replicate k [eI i]).flatten = (List.range k).map fun _ => eI i := fun k => by
      induction k with
      | zero => rfl
      | succ k ih => rw [List.replicate_succ', List.flatten_append, ih, List.range_succ, List.map_append]; rfl
    show (if (n : Int) = 1 then pure (.tuple [eI i]) else do chk ([eI i] ≠ [] ∧ 2 ≤ (n : Int) ∧ (n : Int) ≤ 1000 ∧ [eI i].length ≤ 1000); pure (.tuple (List.replicate (n : Int).toNat [eI i]).flatten) : M PyData) = _
    by_cases h1 : (n : Int) = 1
    · have : n = 1 := by omega
      subst this
      rfl
    · rw [if_neg h1, chk_true ⟨by simp, by omega, by omega, by show 1 ≤ 1000; decide⟩, pure_bind, Int.toNat_natCast, flat]
      rfl
theorem e_turned {n : Nat} {f : Nat → Nat → Nat} (o : Ok n f) : m_turned_product (eP n f) = pure (eP n fun i j => f j i) := by
  unfold m_turned_product b_turned_product
  have hn8 := o.2.1
  have hlen : iRange1 (mUn plen (pure (eP n f))) = iRange1 (pure (eI n)) := by
    have : mUn plen (pure (eP n f)) = pure (eI n) := by simp only [mUn, pure_bind, len_eP]; rfl
    rw [this]
  rw [call1, e_need_product o, hlen]
  have := tab_row (g := fun t1 => mUn ptuple (mLst (oLc (iAll (pure (eP n f))) (fun d => pure d) (fun t2 => pure true) (fun t2 => mOp pidx (pure t2) (pure t1))))) (y := fun i => .tuple ((List.range n).map fun j => .int (f j i : Nat))) hn8 fun i hi => by
    have hit : iAll (pure (eP n f)) = pure ((List.range n).map fun i => .tuple ((List.range n).map fun j => .int (f i j : Nat))) := rfl
    unfold oLc
    rw [hit, pure_bind, lcM_map (fun k => PyData.tuple ((List.range n).map fun j => .int (f k j : Nat))) (fun k => .int (f k i : Nat)) _ fun k hk => by
      simp only [mOp, pure_bind]
      exact idx_at n (f k) hi]
    rfl
  rw [this]
  rfl
theorem pcount_a (w : List Bool) : mStr pcountS (pure (.str (eW w))) (pure (.str "a")) = pure (eI (ct false w)) := by
  rw [str_a]
  show (pure (.int (Txt.count (eW w) ⟨#[chr false]⟩)) : M PyData) = _
  rw [cnt_eW]
  rfl
theorem pcount_b (w : List Bool) : mStr pcountS (pure (.str (eW w))) (pure (.str "b")) = pure (eI (ct true w)) := by
  rw [str_b]
  show (pure (.int (Txt.count (eW w) ⟨#[chr true]⟩)) : M PyData) = _
  rw [cnt_eW]
  rfl
theorem ct_le (c : Bool) (w : List Bool) : ct c w ≤ w.length := List.length_filter_le _ _
end L76
end
section
set_option Elab.async false
set_option linter.all false
set_option maxRecDepth 100000
set_option maxHeartbeats 4000000
set_option autoImplicit false
namespace L76
open PySem PySem.Spec PyProof.Rows L2 RZ DL
theorem run_cup {k : List PyData → M (Fl Unit Empty)} {mo : M (List PyData)} {x y : Int} (h : mo = pure [.int x, .int y]) (h1 : 0 ≤ y) (h2 : y < 4294967296) (t : Tri I76 (k [.int x, .int y]) fun fl => fl = .rt (.bool true)) : DL.finish (sNewCup mo k) [] = .ok (.bool true, []) := by
  subst h
  obtain ⟨fl, cs', e, _, rfl⟩ := t [.int x, .int y] ⟨x, y, rfl, h1, h2⟩
  show DL.finish (withCup [.int x, .int y] (k [.int x, .int y])) [] = _
  unfold DL.finish
  rw [M.bind_run]
  unfold withCup
  rw [e]
  rfl
theorem s_abba : (Str.ofString "abba") = eW [false, true, true, false] := by decide +kernel
theorem s_abb : (Str.ofString "abb") = eW [false, true, true] := by decide +kernel
theorem s_ab : (Str.ofString "ab") = eW [false, true] := by decide +kernel
theorem s_ba : (Str.ofString "ba") = eW [true, false] := by decide +kernel
theorem s_aa : (Str.ofString "aa") = eW [false, false] := by decide +kernel
theorem s_a : (Str.ofString "a") = eW [false] := by decide +kernel
theorem s_b : (Str.ofString "b") = eW [true] := by decide +kernel
theorem s_e : (Str.ofString "") = eW [] := by decide +kernel
theorem og : Ok 2 (fr 2) := ok_fr (by decide) (by decide)
theorem ol : Ok 2 f1 := ok_f1 (by decide) (by decide)
theorem c1 : mCall (ap1 m_is_letter_word) [pure (.str "abba")] = pure (.bool true) := by
  rw [s_abba, call1, e_is_letter_word (by decide)]
  rfl
theorem c2 : mCall (ap1 m_is_letter_word) [pure (.str "")] = pure (.bool false) := by
  rw [s_e, call1, e_is_letter_word (by decide)]
  rfl
theorem p01 : mTup [pure (.int 0), pure (.int 1)] = pure (pr 0 1) := rfl
theorem p10 : mTup [pure (.int 1), pure (.int 0)] = pure (pr 1 0) := rfl
theorem c3 : mCall (ap3 m_word_worth) [pure (eP 2 (fr 2)), pure (.str "abb"), mTup [pure (.int 0), pure (.int 1)]] = pure (.int 0) := by
  rw [s_abb, p01, call3]
  exact congrArg liftP (e_word_worth (a := 0) (b := 1) og (by decide) (by decide) (by decide) (by decide))
theorem c4 : mCall (ap2 m_word_row) [pure (eP 2 (fr 2)), pure (.str "ab")] = pure (.tuple [.int 0, .int 1, .int 1, .int 0]) := by
  rw [s_ab, call2]
  exact congrArg liftP (e_word_row og (by decide) (by decide))
theorem c5 : mCall (ap2 m_word_row) [pure (eP 2 f1), pure (.str "ab")] = pure (.tuple [.int 0, .int 0, .int 1, .int 1]) := by
  rw [s_ab, call2]
  exact congrArg liftP (e_word_row ol (by decide) (by decide))
theorem c6 : mCall (ap3 m_do_words_agree) [pure (eP 2 f1), pure (.str "ab"), pure (.str "abb")] = pure (.bool true) := by
  rw [s_ab, s_abb, call3]
  exact congrArg liftP (e_do_words_agree ol (by decide) (by decide) (by decide) (by decide))
theorem c7 : mCall (ap3 m_word_counter) [pure (eP 2 (fr 2)), pure (.str "a"), pure (.str "b")] = pure (.tuple [.int 0, .int 1]) := by
  rw [s_a, s_b, call3]
  exact congrArg liftP (e_word_counter og (by decide) (by decide) (by decide) (by decide))
theorem c8 : mCall (ap3 m_word_counter) [pure (eP 2 (fr 2)), pure (.str "ab"), pure (.str "ba")] = pure .none := by
  rw [s_ab, s_ba, call3]
  exact congrArg liftP (e_word_counter og (by decide) (by decide) (by decide) (by decide))
theorem c9 : mCall (ap4 m_is_word_counter) [pure (eP 2 (fr 2)), pure (.str "a"), pure (.str "aa"), mTup [pure (.int 1), pure (.int 0)]] = pure (.bool true) := by
  rw [s_a, s_aa, p10, call4]
  exact congrArg liftP (e_is_word_counter og (by decide) (by decide) (by decide) (by decide) rfl)
theorem c10 : mCall (ap4 m_is_word_counter) [pure (eP 2 (fr 2)), pure (.str "a"), pure (.str "aa"), mTup [pure (.int 0), pure (.int 1)]] = pure (.bool false) := by
  rw [s_a, s_aa, p01, call4]
  exact congrArg liftP (e_is_word_counter og (by decide) (by decide) (by decide) (by decide) rfl)
theorem tup4 (a b c d : PyData) : mTup [pure a, pure b, pure c, pure d] = pure (.tuple [a, b, c, d]) := rfl
def told10 : List PyData := [.bool true, .bool false, .int 0, .tuple [.int 0, .int 1, .int 1, .int 0], .tuple [.int 0, .int 0, .int 1, .int 1], .bool true, .tuple [.int 0, .int 1], .none, .bool true, .bool false]
theorem sm_told : Sm 2 (.list told10) := sm_list (by decide) fun d hd => by
  have hints : ∀ ds : List PyData, ds.length ≤ 4096 → (∀ e ∈ ds, DL.scal e = true) → Sm 1 (.tuple ds) := fun ds h1 h2 => .inr ⟨ds, .inl rfl, h1, h2⟩
  simp only [told10, List.mem_cons, List.not_mem_nil, or_false] at hd
  rcases hd with rfl | rfl | rfl | rfl | rfl | rfl | rfl | rfl | rfl | rfl
  · exact .inl rfl
  · exact .inl rfl
  · exact .inl rfl
  · exact hints _ (by decide) (by decide)
  · exact hints _ (by decide) (by decide)
  · exact .inl rfl
  · exact hints _ (by decide) (by decide)
  · exact .inl rfl
  · exact .inl rfl
  · exact .inl rfl
theorem five (a b c d e : PyData) : mLst (runs [pure a, pure b, pure c, pure d, pure e]) = pure (.list [a, b, c, d, e]) := rfl
theorem three' (a b c : PyData) : mLst (runs [pure a, pure b, pure c]) = pure (.list [a, b, c]) := rfl
theorem two' (a b : PyData) : mLst (runs [pure a, pure b]) = pure (.list [a, b]) := rfl
theorem ten' (a b c d e f g h i j : PyData) : mLst (runs [pure a, pure b, pure c, pure d, pure e, pure f, pure g, pure h, pure i, pure j]) = pure (.list [a, b, c, d, e, f, g, h, i, j]) := rfl
theorem addL (xs ys : List PyData) (h : xs.length + ys.length ≤ 4096) : mOp padd (pure (.list xs)) (pure (.list ys)) = pure (.list (xs ++ ys)) := by
  simp only [mOp, pure_bind, padd_list]
  rw [chk_true (by rw [sizeLine_eq]; omega), pure_bind]
theorem rep20 : mOp pmul (pure (.str "ab")) (pure (.int 20)) = pure (.str ⟨(List.replicate 20 [97, 98]).flatten.toArray⟩) := by
  rw [str_ab]
  simp only [mOp, pure_bind]
  show (do chk ((2 : Int) ≤ 20 ∧ (20 : Int) ≤ 1000000000 ∧ 0 < (2 : Nat) ∧ 2 * 20 ≤ sizeLine); pure (.str ⟨(List.replicate 20 [97, 98]).flatten.toArray⟩) : M PyData) = _
  rw [chk_true ⟨by decide, by decide, by decide, by rw [sizeLine_eq]; decide⟩, pure_bind]
theorem rep21 : mOp padd (mOp pmul (pure (.str "ab")) (pure (.int 20))) (pure (.str "a")) = pure (.str (⟨(List.replicate 20 [97, 98]).flatten.toArray⟩ ++ (Str.ofString "a"))) := by
  rw [rep20]
  simp only [mOp, pure_bind]
  unfold padd
  dsimp only
  rw [chk_true (by rw [sizeLine_eq]; decide +kernel), pure_bind]
end L76
end
section
set_option Elab.async false
set_option linter.all false
set_option maxRecDepth 100000
set_option maxHeartbeats 4000000
set_option autoImplicit false
namespace L76
open PySem PySem.Spec PyProof.Rows L2 RZ DL
theorem law_true (ns : List Int) (hl : ns.length ≤ 63) : (ap1 m_law) [.list (ns.map .int)] [] = .ok (.bool true, []) := by
  obtain ⟨cx, cy, hcup, hy1, hy2⟩ := e_cup ns hl
  show DL.finish (b_law (.list (ns.map .int))) [] = _
  unfold b_law
  refine run_cup (x := cx) (y := cy) ?_ hy1 hy2 ?_
  · simp only [oCall, runs_cons, runs_nil, pure_bind, hcup, liftP_pure, asL_list]
  have g1 : mTup [mTup [pure (.int 0), pure (.int 1)], mTup [pure (.int 1), pure (.int 0)]] = pure (eP 2 (fr 2)) := rfl
  have g2 : mTup [mTup [pure (.int 0), pure (.int 0)], mTup [pure (.int 1), pure (.int 1)]] = pure (eP 2 f1) := rfl
  simp only [sPar]
  rw [g1, pure_bind, g2, pure_bind, c1, c2, c3, c4, c5, five, pure_bind, c6, c7, c8, three', addL _ _ (by show 5 + 3 ≤ 4096; decide), pure_bind, c9, c10, two', addL _ _ (by show 8 + 2 ≤ 4096; decide), pure_bind]
  have e10 : mLst (runs [(pure (.bool true)), (pure (.bool false)), (pure (.int 0)), (mTup [(pure (.int 0)), (pure (.int 1)), (pure (.int 1)), (pure (.int 0))]), (mTup [(pure (.int 0)), (pure (.int 0)), (pure (.int 1)), (pure (.int 1))]), (pure (.bool true)), (mTup [(pure (.int 0)), (pure (.int 1))]), (pure .none), (pure (.bool true)), (pure (.bool false))]) = pure (.list told10) := rfl
  have hap : (([PyData.bool true, .bool false, .int 0, .tuple [.int 0, .int 1, .int 1, .int 0], .tuple [.int 0, .int 0, .int 1, .int 1]] ++ [PyData.bool true, .tuple [.int 0, .int 1], .none]) ++ [PyData.bool true, .bool false]) = told10 := rfl
  rw [hap, ifR_no (like_no (d := .list told10) rfl e10 sm_told)]
  -- products drawn
  have hit : iAll (mTup [pure (.int 2), pure (.int 3), pure (.int 5), pure (.int 8)]) = pure [.int 2, .int 3, .int 5, .int 8] := rfl
  simp only [sFor]
  rw [hit, pure_bind]
  refine (Tri.for (fun _ (_ : Unit) => True) 0 trivial fun i d t hd _ => ?_).bind fun r ⟨t, hr, _⟩ => ?_
  · have hm : ∃ m : Nat, d = .int (m : Nat) ∧ 1 ≤ m ∧ m ≤ 8 := by
      have := List.mem_of_getElem? hd
      simp only [List.mem_cons, List.not_mem_nil, or_false] at this
      rcases this with rfl | rfl | rfl | rfl
      · exact ⟨2, rfl, by decide, by decide⟩
      · exact ⟨3, rfl, by decide, by decide⟩
      · exact ⟨5, rfl, by decide, by decide⟩
      · exact ⟨8, rfl, by decide, by decide⟩
    obtain ⟨m, rfl, h1, h2⟩ := hm
    rw [pure_bind]
    have e : sIfR (τ := Unit) (β := Unit) (tNo (tVal (mCallC (ap1 m__law_right) [mCallC (ap1 m__law_product) [pure (.int (m : Nat))]]))) (sRet (pure (.bool false))) (pure (.nx ())) =
        (do let p ← m__law_product (.int (m : Nat)); let z ← m__law_right p; let b ← asB z; if (!b) = true then castF (sRet (pure (.bool false))) else pure (.nx ())) := by
      simp only [sIfR, tNo, tVal, mCallC, runs_cons, runs_nil, pure_bind, bind_assoc]
    rw [e]
    refine (t_product h1 h2).bind fun p ⟨n, f, o, hp⟩ => ?_
    subst hp
    refine (t_right o).bind fun z hz => ?_
    subst hz
    rw [asB_bool, pure_bind, if_neg (by simp)]
    exact Tri.pure ⟨(), .inl rfl, trivial⟩
  subst hr
  rw [contL_inl]
  -- texts and other values
  have hvals : Tri I76 (iAll (mLst (runs [(pure (.str "a")), (pure (.str "b")), (pure (.str "")), (pure (.str "abba")), (pure (.str "abc")), (pure (.str "A")), (pure (.str "a b")), (mOp pmul (pure (.str "ab")) (pure (.int 20))), (mOp padd (mOp pmul (pure (.str "ab")) (pure (.int 20))) (pure (.str "a"))), (pure .none), (pure (.int 5)), (mTup []), (mTup [(pure (.str "a"))]), (mLst (runs [(pure (.str "a"))])), (pure (.bool true)), (mCallC (ap1 m__law_word) [(pure (.int 40))])]))) fun ds => ∀ v ∈ ds, v.plain = true ∧ ∀ z, v = .str z → z.length ≤ 4096 := by
    have r1 : mTup [] = pure (.tuple []) := rfl
    have r2 : mTup [pure (.str "a")] = pure (.tuple [.str "a"]) := rfl
    have r3 : mLst (runs [pure (.str "a")]) = pure (.list [.str "a"]) := rfl
    rw [rep21, rep20, r1, r2, r3, callC1]
    simp only [iAll, mLst, runs_cons, runs_nil, pure_bind, bind_assoc, pitems_list]
    refine (t_word (m := 40) (by decide) (by decide)).bind fun x ⟨w, hx, hw, hwl⟩ => Tri.pure fun v hv => ?_
    subst hx
    simp only [List.mem_cons, List.not_mem_nil, or_false] at hv
    rcases hv with rfl | rfl | rfl | rfl | rfl | rfl | rfl | rfl | rfl | rfl | rfl | rfl | rfl | rfl | rfl | rfl
    · exact ⟨rfl, fun z hz => by cases hz; decide +kernel⟩
    · exact ⟨rfl, fun z hz => by cases hz; decide +kernel⟩
    · exact ⟨rfl, fun z hz => by cases hz; decide +kernel⟩
    · exact ⟨rfl, fun z hz => by cases hz; decide +kernel⟩
    · exact ⟨rfl, fun z hz => by cases hz; decide +kernel⟩
    · exact ⟨rfl, fun z hz => by cases hz; decide +kernel⟩
    · exact ⟨rfl, fun z hz => by cases hz; decide +kernel⟩
    · exact ⟨rfl, fun z hz => by cases hz; decide +kernel⟩
    · exact ⟨rfl, fun z hz => by cases hz; decide +kernel⟩
    · exact ⟨rfl, fun z hz => by cases hz⟩
    · exact ⟨rfl, fun z hz => by cases hz⟩
    · exact ⟨rfl, fun z hz => by cases hz⟩
    · exact ⟨rfl, fun z hz => by cases hz⟩
    · exact ⟨rfl, fun z hz => by cases hz⟩
    · exact ⟨rfl, fun z hz => by cases hz⟩
    · exact ⟨rfl, fun z hz => by cases hz; rw [eW_len]; omega⟩
  refine hvals.bind fun ds hds => ?_
  refine (Tri.for (fun _ (_ : Unit) => True) 0 trivial fun i v t hv _ => ?_).bind fun r ⟨t, hr, _⟩ => ?_
  · obtain ⟨hp, hz⟩ := hds v (List.mem_of_getElem? hv)
    obtain ⟨b, x1, x2⟩ := e_letter_any hp hz
    rw [pure_bind, call1, x1, call1, x2, liftP_pure, ifR_no (like_no (d := .bool b) rfl rfl (sm_bool 0 b))]
    exact Tri.pure ⟨(), .inl rfl, trivial⟩
  subst hr
  rw [contL_inl]
  -- rests
  have q1 : Tri I76 (mOp padd (pure (.int 1)) (mCallC (ap1 m__law_roll) [pure (.int 8)])) fun d => ∃ n : Nat, d = eI n ∧ 0 < n ∧ n ≤ 8 := by
    simp only [mOp, pure_bind, callC1]
    refine (t_roll (m := 8) (by decide) (by decide)).bind fun x ⟨r, hx, hr⟩ => ?_
    subst hx
    refine Tri.of (x := eI (1 + r)) ?_ ⟨1 + r, rfl, by omega, by omega⟩
    unfold eI
    rw [padd_int]
    congr 2
  refine q1.bind fun x12 ⟨n, hx, hn0, hn8⟩ => ?_
  subst hx
  rw [callC1]
  refine (t_word (m := 40) (by decide) (by decide)).bind fun x13 ⟨w, hx, hw, hwl⟩ => ?_
  subst hx
  rw [e_rests hn0 hn8, pure_bind, e_first hn0 hn8, pure_bind, callC1]
  have hpair : Tri I76 (mTup [m__law_roll (eI n), m__law_roll (eI n)]) fun d => ∃ x y : Nat, d = pr x y ∧ x < n ∧ y < n := by
    have e19 : mTup [m__law_roll (eI n), m__law_roll (eI n)] = (do let x ← m__law_roll (eI n); let y ← m__law_roll (eI n); pure (.tuple [x, y])) := by
      simp only [mTup, runs_cons, runs_nil, pure_bind, bind_assoc]
    rw [e19]
    refine (t_rollN hn0 (by omega)).bind fun x ⟨r, hx, hr⟩ => ?_
    subst hx
    refine (t_rollN hn0 (by omega)).bind fun y ⟨q, hy, hq⟩ => ?_
    subst hy
    exact Tri.pure ⟨r, q, rfl, hr, hq⟩
  refine hpair.bind fun x19 ⟨a, b, hx, ha, hb⟩ => ?_
  subst hx
  have i0 : mOp pidx (pure (pr a b)) (pure (.int 0)) = pure (eI a) := rfl
  have i1 : mOp pidx (pure (pr a b)) (pure (.int 1)) = pure (eI b) := rfl
  have hmul : ∀ i j : Nat, i ≤ 40 → pmul (eI i) (eI j) = pure (eI (i * j)) := fun i j h => by
    unfold eI
    rw [pmul_ok' (small_mul (i := i) (n := 41) (by omega) (by decide)), Int.natCast_mul]
  have hadd : ∀ i j : Nat, padd (eI i) (eI j) = pure (eI (i + j)) := fun i j => by unfold eI; rw [padd_int, Int.natCast_add]
  have hpi : ∀ i : Nat, pint (eI i) = pure (eI i) := fun _ => rfl
  have hmd : ∀ i : Nat, pmod (eI i) (eI n) = pure (eI (i % n)) := fun i => by
    unfold eI
    rw [pmod_ok' (by omega), Int.natCast_emod]
  have due : mOp pmod (mUn pint (mOp padd (mOp pmul (mStr pcountS (pure (.str (eW w))) (pure (.str "a"))) (mOp pidx (pure (pr a b)) (pure (.int 0)))) (mOp pmul (mStr pcountS (pure (.str (eW w))) (pure (.str "b"))) (mOp pidx (pure (pr a b)) (pure (.int 1)))))) (pure (eI n)) = pure (eI (ww (fr n) w a b)) := by
    have l1 := ct_le false w
    have l2 := ct_le true w
    rw [pcount_a, pcount_b, i0, i1, ww_fr hn0 ha hb hw]
    simp only [mOp, mUn, pure_bind, hmul _ a (show ct false w ≤ 40 by omega), hmul _ b (show ct true w ≤ 40 by omega), hadd, hpi, hmd]
  rw [due, pure_bind]
  have v1 : ∀ f, Ok n f → mCall (ap3 m_word_worth) [pure (eP n f), pure (.str (eW w)), pure (pr a b)] = pure (eI (ww f w a b)) := fun f o => by
    rw [call3]
    exact congrArg liftP (e_word_worth o ha hb hw hwl)
  have v2 : mCall (ap1 m_turned_product) [pure (eP n f1)] = pure (eP n f2) := by
    rw [call1, e_turned (ok_f1 hn0 hn8)]
    rfl
  rw [v2, v1 _ (ok_fr hn0 hn8), v1 _ (ok_f1 hn0 hn8), v1 _ (ok_f2 hn0 hn8), three', pure_bind]
  obtain ⟨c, r, rfl⟩ : ∃ c r, w = c :: r := by cases w with | nil => exact absurd rfl hw | cons c r => exact ⟨c, r, rfl⟩
  obtain ⟨q, d, hqd⟩ : ∃ q d, c :: r = q ++ [d] := ⟨(c :: r).dropLast, (c :: r).getLast (by simp), (List.dropLast_concat_getLast (by simp)).symm⟩
  have hwl' : (c :: r).length ≤ 4096 := by omega
  have first : mOp pidx (pure (.str (eW (c :: r)))) (pure (.int 0)) = pure (eC c) := by
    simp only [mOp, pure_bind]
    exact idx_eW hwl' (atI_nat (j := 0) rfl)
  have last : mOp pidx (pure (.str (eW (c :: r)))) (mUn pneg (pure (.int 1))) = pure (eC d) := by
    simp only [mOp, mUn, pure_bind, pneg_int]
    refine idx_eW hwl' ?_
    rw [hqd]
    exact atI_last q d
  have pk : ∀ c : Bool, mIf (DL.tCmp peq (pure (eC c)) (pure (.str "a"))) (pure (eI a)) (pure (eI b)) = pure (eI (if c then b else a)) := fun c => by
    simp only [mIf, DL.tCmp, pure_bind, peq_a, asB_bool]
    cases c <;> rfl
  have f1v : ww f1 (c :: r) a b = if c then b else a := wf_f1 r _
  have f2v : ww f2 (c :: r) a b = if d then b else a := by rw [hqd]; exact ww_f2 q d
  rw [first, last, i0, i1, pk, pk, three', f1v, f2v, call2, like12 (j := 1) (sm_list (by show 3 ≤ 4096; decide) fun d hd => by
    simp only [List.mem_cons, List.not_mem_nil, or_false] at hd
    rcases hd with rfl | rfl | rfl <;> exact sm_eI _)]
  exact Tri.of (x := .rt (.bool true)) rfl rfl
end L76
end

open PySem PySem.W PyProof.Rows
set_option maxHeartbeats 0 in
theorem PySem.Challenge.cw_productstold_k76_whole_words_that_agree_holds : PySem.Challenge.rw_productstold_k76_whole_words_that_agree.Holds := by
  w_on; o_law; k_head; (case hw => w_witness2)
  k_fill
  refine DL.end_law (l := PySem.Challenge.rw_productstold_k76_whole_words_that_agree) (n := 63) (k := 17) (st := L76.top 64) rfl (by decide) rfl ⟨rfl, by decide, by decide⟩ rfl (fun w h Y => PySem.W.kIn_of Y) ?F ?D (fun _ _ _ _ _ _ us hl => match us, hl with | [_], _ => rfl) L76.law_true
  case F =>
    intro w mg h KX G base KB GB
    refine' L76.ok_law ?T
    refine' L76.top_mk KX G ?a0 ?l0 ?c0 ?k0 ?a1 ?l1 ?c1 ?k1 ?a2 ?l2 ?c2 ?k2 ?a3 ?l3 ?c3 ?k3 ?a4 ?l4 ?c4 ?k4 ?a5 ?l5 ?c5 ?k5 ?a6 ?l6 ?c6 ?k6 ?a7 ?l7 ?c7 ?k7 ?a8 ?l8 ?c8 ?k8 ?a9 ?l9 ?c9 ?k9 ?a10 ?l10 ?c10 ?k10 ?a11 ?l11 ?c11 ?k11 ?a12 ?l12 ?c12 ?k12 ?a13 ?l13 ?c13 ?k13 ?a14 ?l14 ?c14 ?k14 ?a15 ?l15 ?c15 ?k15 ?a16 ?l16 ?c16 ?k16 ?a17 ?l17 ?c17 ?k17 ?a18 ?l18 ?c18 ?k18 ?a19 ?l19 ?c19 ?k19 ?a20 ?l20 ?c20 ?k20 ?a21 ?l21 ?c21 ?k21 ?a22 ?l22 ?c22 ?k22 ?a23 ?l23 ?c23 ?k23 ?a24 ?l24 ?c24 ?k24 ?a25 ?l25 ?c25 ?k25 ?a26 ?l26 ?c26 ?k26 ?a27 ?l27 ?c27 ?k27 ?a28 ?l28 ?c28 ?k28 ?a29 ?l29 ?c29 ?k29 ?a30 ?l30 ?c30 ?k30 ?a31 ?l31 ?c31 ?k31 ?a32 ?l32 ?c32 ?k32 ?a33 ?l33 ?c33 ?k33 ?a34 ?l34 ?c34 ?k34 ?a35 ?l35 ?c35 ?k35 ?a36 ?l36 ?c36 ?k36 ?a37 ?l37 ?c37 ?k37 ?a38 ?l38 ?c38 ?k38 ?a39 ?l39 ?c39 ?k39 ?a40 ?l40 ?c40 ?k40 ?a41 ?l41 ?c41 ?k41 ?a42 ?l42 ?c42 ?k42 ?a43 ?l43 ?c43 ?k43 ?a44 ?l44 ?c44 ?k44 ?a45 ?l45 ?c45 ?k45 ?a46 ?l46 ?c46 ?k46 ?a47 ?l47 ?c47 ?k47 ?a48 ?l48 ?c48 ?k48 ?z_abs ?z_all ?z_bool ?z_int ?z_isinstance ?z_len ?z_list ?z_min ?z_range ?z_str ?z_tuple ?z_zip ?g_LETTERS_leftwords ?g_LONGEST ?g_MOST ?g_MOST_LETTERS ?g_TIMES ?a_LETTERS_basics ?l_LETTERS_basics
    (case a0 => k_is); (case l0 => k_is); (case c0 => k_is); (case k0 => k_is); (case a1 => k_is); (case l1 => k_is); (case c1 => k_is); (case k1 => k_is); (case a2 => k_is); (case l2 => k_is); (case c2 => k_is); (case k2 => k_is); (case a3 => k_is); (case l3 => k_is); (case c3 => k_is); (case k3 => k_is); (case a4 => k_is); (case l4 => k_is); (case c4 => k_is); (case k4 => k_is); (case a5 => k_is); (case l5 => k_is); (case c5 => k_is); (case k5 => k_is); (case a6 => k_is); (case l6 => k_is); (case c6 => k_is); (case k6 => k_is); (case a7 => k_is); (case l7 => k_is); (case c7 => k_is); (case k7 => k_is); (case a8 => k_is); (case l8 => k_is); (case c8 => k_is); (case k8 => k_is); (case a9 => k_is); (case l9 => k_is); (case c9 => k_is); (case k9 => k_is); (case a10 => k_is); (case l10 => k_is); (case c10 => k_is); (case k10 => k_is); (case a11 => k_is); (case l11 => k_is); (case c11 => k_is); (case k11 => k_is); (case a12 => k_is); (case l12 => k_is); (case c12 => k_is); (case k12 => k_is); (case a13 => k_is); (case l13 => k_is); (case c13 => k_is); (case k13 => k_is); (case a14 => k_is); (case l14 => k_is); (case c14 => k_is); (case k14 => k_is); (case a15 => k_is); (case l15 => k_is); (case c15 => k_is); (case k15 => k_is); (case a16 => k_is); (case l16 => k_is); (case c16 => k_is); (case k16 => k_is); (case a17 => k_is); (case l17 => k_is); (case c17 => k_is); (case k17 => k_is); (case a18 => k_is); (case l18 => k_is); (case c18 => k_is); (case k18 => k_is); (case a19 => k_is); (case l19 => k_is); (case c19 => k_is); (case k19 => k_is); (case a20 => k_is); (case l20 => k_is); (case c20 => k_is); (case k20 => k_is); (case a21 => k_is); (case l21 => k_is); (case c21 => k_is); (case k21 => k_is); (case a22 => k_is); (case l22 => k_is); (case c22 => k_is); (case k22 => k_is); (case a23 => k_is); (case l23 => k_is); (case c23 => k_is); (case k23 => k_is); (case a24 => k_is); (case l24 => k_is); (case c24 => k_is); (case k24 => k_is); (case a25 => k_is); (case l25 => k_is); (case c25 => k_is); (case k25 => k_is); (case a26 => k_is); (case l26 => k_is); (case c26 => k_is); (case k26 => k_is); (case a27 => k_is); (case l27 => k_is); (case c27 => k_is); (case k27 => k_is); (case a28 => k_is); (case l28 => k_is); (case c28 => k_is); (case k28 => k_is); (case a29 => k_is); (case l29 => k_is); (case c29 => k_is); (case k29 => k_is); (case a30 => k_is); (case l30 => k_is); (case c30 => k_is); (case k30 => k_is); (case a31 => k_is); (case l31 => k_is); (case c31 => k_is); (case k31 => k_is); (case a32 => k_is); (case l32 => k_is); (case c32 => k_is); (case k32 => k_is); (case a33 => k_is); (case l33 => k_is); (case c33 => k_is); (case k33 => k_is); (case a34 => k_is); (case l34 => k_is); (case c34 => k_is); (case k34 => k_is); (case a35 => k_is); (case l35 => k_is); (case c35 => k_is); (case k35 => k_is); (case a36 => k_is); (case l36 => k_is); (case c36 => k_is); (case k36 => k_is); (case a37 => k_is); (case l37 => k_is); (case c37 => k_is); (case k37 => k_is); (case a38 => k_is); (case l38 => k_is); (case c38 => k_is); (case k38 => k_is); (case a39 => k_is); (case l39 => k_is); (case c39 => k_is); (case k39 => k_is); (case a40 => k_is); (case l40 => k_is); (case c40 => k_is); (case k40 => k_is); (case a41 => k_is); (case l41 => k_is); (case c41 => k_is); (case k41 => k_is); (case a42 => k_is); (case l42 => k_is); (case c42 => k_is); (case k42 => k_is); (case a43 => k_is); (case l43 => k_is); (case c43 => k_is); (case k43 => k_is); (case a44 => k_is); (case l44 => k_is); (case c44 => k_is); (case k44 => k_is); (case a45 => k_is); (case l45 => k_is); (case c45 => k_is); (case k45 => k_is); (case a46 => k_is); (case l46 => k_is); (case c46 => k_is); (case k46 => k_is); (case a47 => k_is); (case l47 => k_is); (case c47 => k_is); (case k47 => k_is); (case a48 => k_is); (case l48 => k_is); (case c48 => k_is); (case k48 => k_is); (case z_abs => k_is); (case z_all => k_is); (case z_bool => k_is); (case z_int => k_is); (case z_isinstance => k_is); (case z_len => k_is); (case z_list => k_is); (case z_min => k_is); (case z_range => k_is); (case z_str => k_is); (case z_tuple => k_is); (case z_zip => k_is); (case g_LETTERS_leftwords => k_is); (case g_LONGEST => k_is); (case g_MOST => k_is); (case g_MOST_LETTERS => k_is); (case g_TIMES => k_is); (case a_LETTERS_basics => k_is); (case l_LETTERS_basics => k_is)
  case D =>
    intro w mg h KX G
    refine' DL.defF_mk KX G ?a ?l ?c ?k
    (case a => k_is); (case l => k_is); (case c => k_is); (case k => k_is)
