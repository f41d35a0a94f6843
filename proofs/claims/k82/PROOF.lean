import PyProof.Rows.All
import Wide.All
import OpenK.AllK
import Wide.FinOn
import HandS.ForMost
import HandS.ForExc
import HandS.TryMany
import KE.DataEq
import HandS.TupLen
import HandS.IsInst
import HandS.Style
import HandS.StrMore
import HandS.TupAny
import HandS.TupMul
import HandS.Zip
import HandS.Flow
import HandS.Strs
import PyProof.SeqIndex
import HandS.ExcSuper
import PyProof.StrOps2
import HandS.Conv
import HandS.SortInts
import KE.SortData
import HandS.TupSets
import KE.KDictDisplayH
import HandS.SetFor
import KE.GoesMore
import HandS.DictTup
import KE.DataMinMax
import PySem.Challenge.RW_productstold_k82_whole_words_to_one_spot
set_option Elab.async false
set_option linter.all false
set_option maxRecDepth 100000
set_option maxHeartbeats 4000000
set_option autoImplicit false
section
set_option Elab.async false
set_option linter.all false
set_option maxRecDepth 100000
set_option maxHeartbeats 4000000
set_option autoImplicit false
/-! DL: Python values as pure data, a monadic mirror, and judgements over HandS that tie the text to the mirror. -/
namespace DL
open PySem PySem.Spec PyProof.Rows L2
abbrev St := L2.St

/-! ### data in a frozen heap -/
def FzL (K : PySem.W.Frag) (F : Hp) (a : Addr) (xs : List V) : Prop := F a = some (.lst xs) ∨ SqL K (fun _ => none) a xs
def FzT (_K : PySem.W.Frag) (F : Hp) (a : Addr) (xs : List V) : Prop := F a = some (.tup xs)
def kD : Key → PyData
  | .inl i => .int i
  | .inr x => .str x
mutual
inductive Rp (K : PySem.W.Frag) (F : Hp) : V → PyData → Prop
  | non : Rp K F .non .none
  | bl (b : Bool) : Rp K F (.bl b) (.bool b)
  | int (i : Int) : Rp K F (.int i) (.int i)
  | str (x : Str) : Rp K F (.str x) (.str x)
  | lst {a : Addr} {xs : List V} {ds : List PyData} : FzL K F a xs → Rps K F xs ds → Rp K F (.ref a) (.list ds)
  | tup {a : Addr} {xs : List V} {ds : List PyData} : FzT K F a xs → Rps K F xs ds → Rp K F (.ref a) (.tuple ds)
  | dK {a : Addr} {ob : Obj} {kvs : List (Key × V)} {ds : List (PyData × PyData)} : F a = some (.frz ob (.dK kvs)) → RpK K F kvs ds → Rp K F (.ref a) (.dict ds)
  | dT {a : Addr} {ob : Obj} {kvs : List (List Key × V)} {ds : List (PyData × PyData)} : F a = some (.frz ob (.dT kvs)) → RpT K F kvs ds → Rp K F (.ref a) (.dict ds)
inductive Rps (K : PySem.W.Frag) (F : Hp) : List V → List PyData → Prop
  | nil : Rps K F [] []
  | cons {v : V} {vs : List V} {d : PyData} {ds : List PyData} : Rp K F v d → Rps K F vs ds → Rps K F (v :: vs) (d :: ds)
inductive RpK (K : PySem.W.Frag) (F : Hp) : List (Key × V) → List (PyData × PyData) → Prop
  | nil : RpK K F [] []
  | cons {k : Key} {v : V} {vs : List (Key × V)} {d : PyData} {ds : List (PyData × PyData)} : Rp K F v d → RpK K F vs ds → RpK K F ((k, v) :: vs) ((kD k, d) :: ds)
inductive RpT (K : PySem.W.Frag) (F : Hp) : List (List Key × V) → List (PyData × PyData) → Prop
  | nil : RpT K F [] []
  | cons {k : List Key} {v : V} {vs : List (List Key × V)} {d : PyData} {ds : List (PyData × PyData)} : Rp K F v d → RpT K F vs ds → RpT K F ((k, v) :: vs) ((.tuple (k.map kD), d) :: ds)
end
def Le (F F' : Hp) : Prop := ∀ a o, F a = some o → F' a = some o
theorem Le.refl (F : Hp) : Le F F := fun _ _ h => h
theorem Le.trans {A B C : Hp} (h : Le A B) (g : Le B C) : Le A C := fun a o e => g a o (h a o e)
section
variable {K : PySem.W.Frag} {F F' H : Hp}
theorem FzL.mono {a : Addr} {xs : List V} (h : FzL K F a xs) (l : Le F F') : FzL K F' a xs := h.imp (l _ _) id
theorem FzT.mono {a : Addr} {xs : List V} (h : FzT K F a xs) (l : Le F F') : FzT K F' a xs := l _ _ h
mutual
theorem Rp.mono (l : Le F F') : ∀ {v : V} {d : PyData}, Rp K F v d → Rp K F' v d
  | _, _, .non => .non
  | _, _, .bl b => .bl b
  | _, _, .int i => .int i
  | _, _, .str x => .str x
  | _, _, .lst h r => .lst (h.mono l) (Rps.mono l r)
  | _, _, .tup h r => .tup (h.mono l) (Rps.mono l r)
  | _, _, .dK h r => .dK (l _ _ h) (RpK.mono l r)
  | _, _, .dT h r => .dT (l _ _ h) (RpT.mono l r)
theorem Rps.mono (l : Le F F') : ∀ {vs : List V} {ds : List PyData}, Rps K F vs ds → Rps K F' vs ds
  | _, _, .nil => .nil
  | _, _, .cons a r => .cons (Rp.mono l a) (Rps.mono l r)
theorem RpK.mono (l : Le F F') : ∀ {vs : List (Key × V)} {ds : List (PyData × PyData)}, RpK K F vs ds → RpK K F' vs ds
  | _, _, .nil => .nil
  | _, _, .cons a r => .cons (Rp.mono l a) (RpK.mono l r)
theorem RpT.mono (l : Le F F') : ∀ {vs : List (List Key × V)} {ds : List (PyData × PyData)}, RpT K F vs ds → RpT K F' vs ds
  | _, _, .nil => .nil
  | _, _, .cons a r => .cons (Rp.mono l a) (RpT.mono l r)
end
theorem Rps.length : ∀ {vs : List V} {ds : List PyData}, Rps K F vs ds → vs.length = ds.length
  | _, _, .nil => rfl
  | _, _, .cons _ r => congrArg (· + 1) (Rps.length r)
theorem Rps.get : ∀ {vs : List V} {ds : List PyData} {i : Nat} {d : PyData}, Rps K F vs ds → ds[i]? = some d → ∃ v, vs[i]? = some v ∧ Rp K F v d
  | _, _, _, _, .nil, e => by simp at e
  | _, _, 0, _, .cons a _, e => by simp at e; subst e; exact ⟨_, rfl, a⟩
  | _, _, i + 1, _, .cons _ r, e => by
    obtain ⟨v, h1, h2⟩ := Rps.get (i := i) r (by simpa using e)
    exact ⟨v, by simpa using h1, h2⟩
theorem Rps.get' {vs : List V} {ds : List PyData} {i : Nat} {v : V} (r : Rps K F vs ds) (e : vs[i]? = some v) : ∃ d, ds[i]? = some d ∧ Rp K F v d := by
  have hl := r.length
  obtain ⟨h1, _⟩ := List.getElem?_eq_some_iff.mp e
  have h2 : i < ds.length := by omega
  obtain ⟨v', h3, h4⟩ := r.get (List.getElem?_eq_getElem h2)
  rw [e] at h3; cases h3
  exact ⟨_, List.getElem?_eq_getElem h2, h4⟩
theorem Rps.append : ∀ {vs ws : List V} {ds es : List PyData}, Rps K F vs ds → Rps K F ws es → Rps K F (vs ++ ws) (ds ++ es)
  | _, _, _, _, .nil, s => s
  | _, _, _, _, .cons a r, s => .cons a (Rps.append r s)
theorem Rps.one {v : V} {d : PyData} (h : Rp K F v d) : Rps K F [v] [d] := .cons h .nil
theorem Rps.take : ∀ {vs : List V} {ds : List PyData} (n : Nat), Rps K F vs ds → Rps K F (vs.take n) (ds.take n)
  | _, _, 0, _ => .nil
  | _, _, _ + 1, .nil => .nil
  | _, _, n + 1, .cons a r => .cons a (Rps.take n r)
theorem Rps.drop : ∀ {vs : List V} {ds : List PyData} (n : Nat), Rps K F vs ds → Rps K F (vs.drop n) (ds.drop n)
  | _, _, 0, r => r
  | _, _, _ + 1, .nil => .nil
  | _, _, n + 1, .cons _ r => Rps.drop n r
theorem Rps.set {v : V} {d : PyData} (a : Rp K F v d) : ∀ {vs : List V} {ds : List PyData} (i : Nat), Rps K F vs ds → Rps K F (vs.set i v) (ds.set i d)
  | _, _, _, .nil => .nil
  | _, _, 0, .cons _ r => .cons a r
  | _, _, i + 1, .cons b r => .cons b (Rps.set a i r)
theorem Rps.reverse {vs : List V} {ds : List PyData} (r : Rps K F vs ds) : Rps K F vs.reverse ds.reverse := by
  induction vs generalizing ds with
  | nil => cases r; exact .nil
  | cons v vs ih => cases r with | cons a r => rw [List.reverse_cons, List.reverse_cons]; exact (ih r).append (.one a)
theorem Rps.dropLast {vs : List V} {ds : List PyData} (r : Rps K F vs ds) : Rps K F vs.dropLast ds.dropLast := by
  rw [List.dropLast_eq_take, List.dropLast_eq_take, r.length]
  exact r.take _
theorem Rps.eraseIdx : ∀ {vs : List V} {ds : List PyData} (i : Nat), Rps K F vs ds → Rps K F (vs.eraseIdx i) (ds.eraseIdx i)
  | _, _, _, .nil => .nil
  | _, _, 0, .cons _ r => r
  | _, _, i + 1, .cons b r => .cons b (Rps.eraseIdx i r)
theorem Rps.ints : ∀ (ns : List Int), Rps K F (ns.map V.int) (ns.map PyData.int)
  | [] => .nil
  | n :: ns => .cons (.int n) (Rps.ints ns)

/-- what is frozen stands in the heap -/
def RdO (x : Option HO) : HO → Prop
  | .tup xs => x = some (.tup xs)
  | .frz ob u => x = some (.frz ob u)
  | o => x = some o ∨ ∃ ob, x = some (.frz ob o)
theorem RdO.rd {H : Hp} {a : Addr} {o : HO} (h : RdO (H a) o) : Rd H a o := by
  cases o <;> first | exact h | exact .inl h
theorem RdO.no {o : HO} (h : RdO none o) : False := by
  cases o <;> first | (obtain ⟨_, h⟩ := h; cases h) | (rcases h with h | ⟨_, h⟩ <;> cases h) | cases h
theorem RdO.lst {xs : List V} : RdO (some (.lst xs)) (.lst xs) := .inl rfl
theorem RdO.tup {xs : List V} : RdO (some (.tup xs)) (.tup xs) := rfl
theorem RdO.ofTup {xs : List V} {o : HO} (h : RdO (some (.tup xs)) o) : o = .tup xs := by
  cases o <;> first | (cases h; rfl) | (obtain ⟨_, h⟩ := h; cases h) | (rcases h with h | ⟨_, h⟩ <;> cases h)
def Sub (F H : Hp) : Prop := ∀ a o, F a = some o → RdO (H a) o
theorem SqL.up {a : Addr} {xs : List V} (h : SqL K (fun _ => none) a xs) : SqL K H a xs := by
  rcases h with (h | ⟨o, h⟩) | h
  · cases h
  · cases h
  · exact .inr h
theorem SqT.up {a : Addr} {xs : List V} (h : SqT K (fun _ => none) a xs) : SqT K H a xs := by
  rcases h with (h | ⟨o, h⟩) | h
  · cases h
  · cases h
  · exact .inr h
theorem FzL.sq {a : Addr} {xs : List V} (h : FzL K F a xs) (s : Sub F H) : SqL K H a xs := h.elim (fun h => .inl (s _ _ h).rd) SqL.up
theorem FzT.sq {a : Addr} {xs : List V} (h : FzT K F a xs) (s : Sub F H) : SqT K H a xs := .inl (s _ _ h).rd
theorem FzT.at' {a : Addr} {xs : List V} (h : FzT K F a xs) (s : Sub F H) : H a = some (.tup xs) := s _ _ h
theorem Sub.fresh {p : Addr} (s : Sub F H) (n : H p = none) : F p = none := by
  cases e : F p with
  | none => rfl
  | some o =>
    have h := s p o e
    rw [n] at h
    exact h.no.elim
end

/-! ### the mirror's monad -/
inductive Er where
  | stuck
  | exc (c : Str) (f : Option (Str × PyData))
abbrev M (α : Type) := StateT (List PyData) (Except Er) α
def stuck {α : Type} : M α := fun _ => .error .stuck
def raiseM {α : Type} (c : Str) (f : Option (Str × PyData)) : M α := fun _ => .error (.exc c f)
/-- a call of a def that has no cup -/
def liftP {α : Type} (m : M α) : M α := fun cs => match m [] with
  | .ok (x, _) => .ok (x, cs)
  | .error e => .error e
/-- within a comprehension nothing may be raised -/
def noexc {α : Type} (m : M α) : M α := fun cs => match m cs with
  | .error (.exc _ _) => .error .stuck
  | r => r
def chk (p : Prop) [Decidable p] : M Unit := if p then pure () else stuck
theorem M.bind_run {α β : Type} (m : M α) (f : α → M β) (cs : List PyData) : (m >>= f) cs = (match m cs with | .ok (x, cs1) => f x cs1 | .error e => .error e) := by
  show (StateT.bind m f) cs = _
  unfold StateT.bind
  show (Except.bind (m cs) _) = _
  unfold Except.bind
  cases m cs with
  | ok p => rfl
  | error e => rfl
theorem M.pure_run {α : Type} (x : α) (cs : List PyData) : (pure x : M α) cs = .ok (x, cs) := rfl
@[simp] theorem stuck_bind {α β : Type} (f : α → M β) : (stuck >>= f) = stuck := by funext cs; rw [M.bind_run]; rfl
@[simp] theorem raiseM_bind {α β : Type} (c : Str) (x : Option (Str × PyData)) (f : α → M β) : (raiseM c x >>= f) = raiseM c x := by funext cs; rw [M.bind_run]; rfl
@[simp] theorem liftP_pure {α : Type} (x : α) : liftP (pure x) = pure x := rfl
@[simp] theorem liftP_raise {α : Type} (c : Str) (x : Option (Str × PyData)) : liftP (raiseM c x : M α) = raiseM c x := rfl
@[simp] theorem liftP_stuck {α : Type} : liftP (stuck : M α) = stuck := rfl
@[simp] theorem noexc_pure {α : Type} (x : α) : noexc (pure x) = pure x := rfl
theorem noexc_bind {α β : Type} (m : M α) (f : α → M β) : noexc (m >>= f) = noexc m >>= fun x => noexc (f x) := by
  funext cs
  unfold noexc
  rw [M.bind_run, M.bind_run]
  cases m cs with
  | ok p => rfl
  | error e => cases e <;> rfl
@[simp] theorem chk_true {p : Prop} [Decidable p] (h : p) : chk p = pure () := if_pos h

/-! ### what a slot holds -/
inductive Sl where
  /-- nothing is known -/
  | un
  /-- frozen data -/
  | d (x : PyData)
  /-- a list of the def's own -/
  | own (xs : List PyData)
  /-- a dict of the def's own: keys ints and texts; keys tuples of these -/
  | odK (kvs : List (PyData × PyData)) | odT (kvs : List (PyData × PyData))
  /-- the cup -/
  | cup
  /-- a def of the text, by its name -/
  | fn (x : Str)
/-- what a derivation stands in: the wish of exceptions, what is known of the slots then, the cup's address, the heap at the def's entry -/
structure Ct where
  W : WX
  rx : List Sl
  c : Option Addr
  E : Hp
  F0 : Hp
def Ct.cup (C : Ct) (a : Addr) : Prop := C.c = some a
section
variable (K : PySem.W.Frag) (mg : Str → Option Value) (C : Ct)
def SlOk (F H : Hp) : Sl → Option (Option V) → Prop
  | .un, _ => True
  | .d x, o => ∃ v, o = some (some v) ∧ Rp K F v x
  | .own xs, o => ∃ a vs, o = some (some (.ref a)) ∧ H a = some (.lst vs) ∧ F a = none ∧ C.c ≠ some a ∧ C.E a = none ∧ Rps K F vs xs
  | .odK kvs, o => ∃ a es, o = some (some (.ref a)) ∧ H a = some (.dK es) ∧ F a = none ∧ C.c ≠ some a ∧ C.E a = none ∧ RpK K F es kvs
  | .odT kvs, o => ∃ a es, o = some (some (.ref a)) ∧ H a = some (.dT es) ∧ F a = none ∧ C.c ≠ some a ∧ C.E a = none ∧ RpT K F es kvs
  | .cup, o => ∃ a, C.c = some a ∧ o = some (some (.ref a))
  | .fn x, o => ∃ f, mg x = some (.ref f) ∧ o = some (some (.ref f))
def isOwn : Sl → Bool
  | .own _ | .odK _ | .odT _ => true
  | _ => false
/-- the slot i is the owner of the object at a -/
def OwnAt (ρ : List Sl) (σ : St) (i : Nat) (a : Addr) : Prop := ∃ s, ρ[i]? = some s ∧ isOwn s = true ∧ σ[i]? = some (some (.ref a))
def CupOk (F H : Hp) (cs : List PyData) : Prop := match C.c with
  | none => cs = []
  | some a => F a = none ∧ ∃ vs, H a = some (.lst vs) ∧ Rps K F vs cs
structure Grow (c : Option Addr) (F H F' H' : Hp) : Prop where
  le : Le F F'
  new : ∀ a, F' a ≠ none → F a ≠ none ∨ H a = none ∨ ∃ xs, H a = some (.tup xs)
  tp : ∀ a xs, H' a = some (.tup xs) → H a = none ∨ H a = some (.tup xs)
  keep : ∀ a o, H a = some o → c ≠ some a → H' a = some o
  ex : ∀ a, H a ≠ none → H' a ≠ none
  sub : Sub F' H'
structure EnvOk (F H : Hp) (σ : St) (ρ : List Sl) : Prop where
  len : ρ.length ≤ σ.length
  g0 : Grow C.c C.F0 C.E F H
  sl : ∀ (i : Nat) (s : Sl), ρ[i]? = some s → SlOk K mg C F H s σ[i]?
  sep : ∀ (i j : Nat) (a : Addr), OwnAt ρ σ i a → OwnAt ρ σ j a → i = j
def ExR (F H : Hp) (nm : Str) (fld : Option (Str × PyData)) (cl : Value) (d : Option Addr) : Prop := ∃ Cx, mg nm = some (.ref Cx) ∧ cl = .ref Cx ∧ match fld with
  | none => d = none
  | some (f, x) => ∃ da v, d = some da ∧ H da = some (.xd [(f, v)]) ∧ Rp K F v x
def Res {α : Type} (F H : Hp) (r : Except Er (α × List PyData)) (k : α → List PyData → Hp → Hp → Prop) : Prop := match r with
  | .ok (x, cs) => ∀ F' H', Grow C.c F H F' H' → CupOk K C F' H' cs → k x cs F' H'
  | .error (.exc nm fld) => ∀ F' H' cl d σ, Grow C.c F H F' H' → EnvOk K mg C F' H' σ C.rx → ExR K mg F' H' nm fld cl d → C.W cl d σ H'
  | .error .stuck => False
end
section
variable {K : PySem.W.Frag} {mg : Str → Option Value} {C : Ct} {c : Option Addr} {F H F' H' F'' H'' : Hp} {σ : St} {ρ ρ' : List Sl} {cs : List PyData}
theorem EnvOk.sub (h : EnvOk K mg C F H σ ρ) : Sub F H := h.g0.sub
theorem EnvOk.ent (h : EnvOk K mg C F H σ ρ) : ∀ a, C.E a ≠ none → H a ≠ none := h.g0.ex
theorem Grow.refl (s : Sub F H) : Grow c F H F H := ⟨Le.refl F, fun _ h => .inl h, fun _ _ h => .inr h, fun _ _ e _ => e, fun _ h => h, s⟩
theorem Grow.trans (g : Grow c F H F' H') (h : Grow c F' H' F'' H'') : Grow c F H F'' H'' :=
  ⟨g.le.trans h.le, fun a e => by
      rcases h.new a e with e' | e' | ⟨xs, e'⟩
      · exact g.new a e'
      · refine .inr (.inl ?_)
        cases q : H a with
        | none => rfl
        | some o => exact absurd e' (g.ex a (by rw [q]; simp))
      · rcases g.tp a xs e' with q | q
        · exact .inr (.inl q)
        · exact .inr (.inr ⟨xs, q⟩), fun a xs e => by
      rcases h.tp a xs e with q | q
      · refine .inl ?_
        cases q' : H a with
        | none => rfl
        | some o => exact absurd q (g.ex a (by rw [q']; simp))
      · exact g.tp a xs q, fun a o e n => h.keep a o (g.keep a o e n) n, fun a e => h.ex a (g.ex a e), h.sub⟩
theorem Sub.put {p : Addr} {o : HO} (s : Sub F H) (nF : F p = none) : Sub F (upd H p o) := fun a u e => by
  have hp : a ≠ p := fun q => by subst q; rw [nF] at e; cases e
  rw [upd_ne hp]; exact s a u e
theorem Sub.both {p : Addr} {o o' : HO} (s : Sub F H) (h : RdO (some o') o) : Sub (upd F p o) (upd H p o') := fun a u e => by
  by_cases q : a = p
  · subst q; rw [upd_same] at e ⊢; cases e; exact h
  · rw [upd_ne q] at e ⊢; exact s a u e
theorem Grow.alloc {p : Addr} {o : HO} (s : Sub F H) (n : H p = none) (hr : RdO (some o) o) : Grow c F H (upd F p o) (upd H p o) := by
  have nF := s.fresh n
  refine ⟨fun a u e => ?_, fun a e => ?_, fun a xs e => ?_, fun a u e _ => ?_, fun a e => ?_, s.both hr⟩
  · rw [upd_ne (ne_of_none e nF)]; exact e
  · by_cases h : a = p
    · subst h; exact .inr (.inl n)
    · rw [upd_ne h] at e; exact .inl e
  · by_cases h : a = p
    · subst h; exact .inl n
    · rw [upd_ne h] at e; exact .inr e
  · rw [upd_ne (ne_of_none e n)]; exact e
  · by_cases h : a = p
    · subst h; rw [upd_same]; simp
    · rw [upd_ne h]; exact e
/-- a new object that is not frozen yet -/
theorem Grow.fresh {p : Addr} {o : HO} (s : Sub F H) (n : H p = none) : Grow c F H F (upd H p o) := by
  refine ⟨Le.refl F, fun a e => .inl e, fun a xs e => ?_, fun a u e _ => ?_, fun a e => ?_, s.put (s.fresh n)⟩
  · by_cases h : a = p
    · subst h; exact .inl n
    · rw [upd_ne h] at e; exact .inr e
  · rw [upd_ne (ne_of_none e n)]; exact e
  · by_cases h : a = p
    · subst h; rw [upd_same]; simp
    · rw [upd_ne h]; exact e
theorem Le.fz {p : Addr} {o : HO} (n : F p = none) : Le F (upd F p o) := fun a u e => by rw [upd_ne (ne_of_none e n)]; exact e
/-- what was made since H is frozen -/
theorem Grow.freeze {p : Addr} {o : HO} (g : Grow c F H F' H') (n : H p = none) (nF : F' p = none) (h : RdO (H' p) o) : Grow c F H (upd F' p o) H' := by
  refine ⟨g.le.trans (Le.fz nF), fun a e => ?_, g.tp, g.keep, g.ex, fun a u e => ?_⟩
  · by_cases h : a = p
    · subst h; exact .inr (.inl n)
    · rw [upd_ne h] at e; exact g.new a e
  · by_cases q : a = p
    · subst q; rw [upd_same] at e; cases e; exact h
    · rw [upd_ne q] at e; exact g.sub a u e
/-- .. and locked -/
theorem Grow.lock {p : Addr} {o : HO} {ob : Obj} (g : Grow c F H F' H') (n : H p = none) (nF : F' p = none) : Grow c F H (upd F' p (.frz ob o)) (upd H' p (.frz ob o)) := by
  refine ⟨g.le.trans (Le.fz nF), fun a e => ?_, fun a xs e => ?_, fun a u e k => ?_, fun a e => ?_, g.sub.both (show RdO (some (.frz ob o)) (.frz ob o) from rfl)⟩
  · by_cases h : a = p
    · subst h; exact .inr (.inl n)
    · rw [upd_ne h] at e; exact g.new a e
  · by_cases h : a = p
    · subst h; exact .inl n
    · rw [upd_ne h] at e; exact g.tp a xs e
  · rw [upd_ne (ne_of_none e n)]; exact g.keep a u e k
  · by_cases h : a = p
    · subst h; rw [upd_same]; simp
    · rw [upd_ne h]; exact g.ex a e
/-- a tuple that stands already is taken into what is frozen -/
theorem Grow.takeT {p : Addr} {xs : List V} (s : Sub F H) (h : H p = some (.tup xs)) : Grow c F H (upd F p (.tup xs)) H := by
  refine ⟨fun a u e => ?_, fun a e => ?_, fun a ys e => .inr e, fun a u e _ => e, fun a e => e, fun a u e => ?_⟩
  · by_cases q : a = p
    · subst q
      have z := s a u e
      rw [h] at z
      rw [upd_same, z.ofTup]
    · rw [upd_ne q]; exact e
  · by_cases q : a = p
    · subst q; exact .inr (.inr ⟨xs, h⟩)
    · rw [upd_ne q] at e; exact .inl e
  · by_cases q : a = p
    · subst q; rw [upd_same] at e; cases e; rw [h]; exact RdO.tup
    · rw [upd_ne q] at e; exact s a u e
theorem Grow.nF (g : Grow c F H F' H') {a : Addr} (h : H a ≠ none) (nt : ∀ xs, H a ≠ some (.tup xs)) (n : F a = none) : F' a = none := by
  cases e : F' a with
  | none => rfl
  | some o =>
    rcases g.new a (by rw [e]; simp) with q | q | ⟨xs, q⟩
    · exact absurd n q
    · exact absurd q h
    · exact absurd q (nt xs)
theorem SlOk.grow {s : Sl} {o : Option (Option V)} (h : SlOk K mg C F H s o) (g : Grow C.c F H F' H') : SlOk K mg C F' H' s o := by
  cases s with
  | un => trivial
  | d x => obtain ⟨v, e, r⟩ := h; exact ⟨v, e, r.mono g.le⟩
  | own xs => obtain ⟨a, vs, e, h1, h2, h3, h4, r⟩ := h; exact ⟨a, vs, e, g.keep _ _ h1 h3, g.nF (by rw [h1]; simp) (by rw [h1]; simp) h2, h3, h4, r.mono g.le⟩
  | odK xs => obtain ⟨a, vs, e, h1, h2, h3, h4, r⟩ := h; exact ⟨a, vs, e, g.keep _ _ h1 h3, g.nF (by rw [h1]; simp) (by rw [h1]; simp) h2, h3, h4, r.mono g.le⟩
  | odT xs => obtain ⟨a, vs, e, h1, h2, h3, h4, r⟩ := h; exact ⟨a, vs, e, g.keep _ _ h1 h3, g.nF (by rw [h1]; simp) (by rw [h1]; simp) h2, h3, h4, r.mono g.le⟩
  | cup => exact h
  | fn x => exact h
theorem EnvOk.grow (h : EnvOk K mg C F H σ ρ) (g : Grow C.c F H F' H') : EnvOk K mg C F' H' σ ρ :=
  ⟨h.len, h.g0.trans g, fun i s e => (h.sl i s e).grow g, h.sep⟩
theorem SlOk.owned {s : Sl} {a : Addr} (i : isOwn s = true) (h : SlOk K mg C F H s (some (some (.ref a)))) : H a ≠ none := by
  cases s with
  | own xs => obtain ⟨b, vs, e, h1, _⟩ := h; cases e; rw [h1]; simp
  | odK xs => obtain ⟨b, vs, e, h1, _⟩ := h; cases e; rw [h1]; simp
  | odT xs => obtain ⟨b, vs, e, h1, _⟩ := h; cases e; rw [h1]; simp
  | un => cases i
  | d x => cases i
  | cup => cases i
  | fn x => cases i
theorem EnvOk.owned (h : EnvOk K mg C F H σ ρ) {i : Nat} {a : Addr} (o : OwnAt ρ σ i a) : H a ≠ none := by
  obtain ⟨s, e, w, es⟩ := o
  have q := h.sl i s e
  rw [es] at q
  exact q.owned w
/-- weaker knowledge -/
inductive Wk : List Sl → List Sl → Prop
  | nil {ρ : List Sl} : Wk ρ []
  | keep {s : Sl} {ρ ρ' : List Sl} : Wk ρ ρ' → Wk (s :: ρ) (s :: ρ')
  | drop {s : Sl} {ρ ρ' : List Sl} : Wk ρ ρ' → Wk (s :: ρ) (.un :: ρ')
theorem Wk.refl : ∀ ρ : List Sl, Wk ρ ρ
  | [] => .nil
  | _ :: ρ => .keep (Wk.refl ρ)
theorem Wk.get : ∀ {ρ ρ' : List Sl} {i : Nat} {s : Sl}, Wk ρ ρ' → ρ'[i]? = some s → s = .un ∨ ρ[i]? = some s
  | _, _, _, _, .nil, e => by simp at e
  | _, _, 0, _, .keep _, e => .inr e
  | _, _, i + 1, _, .keep w, e => by simpa using Wk.get (i := i) w (by simpa using e)
  | _, _, 0, _, .drop _, e => .inl (by simpa using e.symm)
  | _, _, i + 1, _, .drop w, e => by simpa using Wk.get (i := i) w (by simpa using e)
theorem Wk.len : ∀ {ρ ρ' : List Sl}, Wk ρ ρ' → ρ'.length ≤ ρ.length
  | _, _, .nil => Nat.zero_le _
  | _, _, .keep w => Nat.succ_le_succ w.len
  | _, _, .drop w => Nat.succ_le_succ w.len
theorem EnvOk.wk (h : EnvOk K mg C F H σ ρ) (w : Wk ρ ρ') : EnvOk K mg C F H σ ρ' := by
  refine ⟨Nat.le_trans w.len h.len, h.g0, fun i s e => ?_, fun i j a h1 h2 => h.sep i j a ?_ ?_⟩
  · rcases w.get e with rfl | e'
    · trivial
    · exact h.sl i s e'
  · obtain ⟨s, e, o, es⟩ := h1
    rcases w.get e with rfl | e'
    · cases o
    · exact ⟨s, e', o, es⟩
  · obtain ⟨s, e, o, es⟩ := h2
    rcases w.get e with rfl | e'
    · cases o
    · exact ⟨s, e', o, es⟩
/-- a slot that takes new content -/
theorem EnvOk.setAny (h : EnvOk K mg C F H σ ρ) (i : Nat) (s : Sl) (o : Option V) (hs : SlOk K mg C F H s (some o)) (ho : isOwn s = true → ∀ a, o = some (.ref a) → ∀ j, OwnAt ρ σ j a → j = i) : EnvOk K mg C F H (σ.set i o) (ρ.set i s) := by
  have hl := h.len
  have key : ∀ (j : Nat) (a : Addr), OwnAt (ρ.set i s) (σ.set i o) j a → (j = i ∧ isOwn s = true ∧ o = some (.ref a)) ∨ (j ≠ i ∧ OwnAt ρ σ j a) := by
    rintro j a ⟨t, e1, e2, e3⟩
    by_cases hj : i = j
    · subst hj
      by_cases hi : i < ρ.length
      · rw [List.getElem?_set_self hi] at e1
        rw [List.getElem?_set_self (by omega)] at e3
        cases e1; cases e3
        exact .inl ⟨rfl, e2, rfl⟩
      · rw [List.getElem?_eq_none (by rw [List.length_set]; omega)] at e1; cases e1
    · rw [List.getElem?_set_ne hj] at e1 e3
      exact .inr ⟨fun e => hj e.symm, t, e1, e2, e3⟩
  refine ⟨by rw [List.length_set, List.length_set]; exact hl, h.g0, fun j t e => ?_, fun j k a h1 h2 => ?_⟩
  · by_cases hj : i = j
    · subst hj
      by_cases hi : i < ρ.length
      · rw [List.getElem?_set_self hi] at e
        rw [List.getElem?_set_self (by omega)]
        cases e; exact hs
      · rw [List.getElem?_eq_none (by rw [List.length_set]; omega)] at e; cases e
    · rw [List.getElem?_set_ne hj] at e ⊢
      exact h.sl j t e
  · rcases key j a h1 with ⟨rfl, w1, z1⟩ | ⟨n1, o1⟩ <;> rcases key k a h2 with ⟨rfl, w2, z2⟩ | ⟨n2, o2⟩
    · rfl
    · exact absurd (ho w1 a z1 k o2) n2
    · exact absurd (ho w2 a z2 j o1) n1
    · exact h.sep j k a o1 o2
theorem EnvOk.setD (h : EnvOk K mg C F H σ ρ) (i : Nat) {v : V} {x : PyData} (r : Rp K F v x) : EnvOk K mg C F H (σ.set i (some v)) (ρ.set i (.d x)) := h.setAny i _ _ ⟨v, rfl, r⟩ (fun z => nomatch z)
theorem EnvOk.setUn (h : EnvOk K mg C F H σ ρ) (i : Nat) (o : Option V) : EnvOk K mg C F H (σ.set i o) (ρ.set i .un) := h.setAny i _ _ trivial (fun z => nomatch z)
theorem EnvOk.setOwn (h : EnvOk K mg C F H σ ρ) (i : Nat) {a : Addr} {vs : List V} {xs : List PyData} (e1 : H a = some (.lst vs)) (e2 : F a = none) (e3 : C.c ≠ some a) (e4 : C.E a = none) (r : Rps K F vs xs) (nw : ∀ j, OwnAt ρ σ j a → j = i) :
    EnvOk K mg C F H (σ.set i (some (.ref a))) (ρ.set i (.own xs)) := h.setAny i _ _ ⟨a, vs, rfl, e1, e2, e3, e4, r⟩ (fun _ b e j o => by cases e; exact nw j o)
theorem Grow.updFresh {p : Addr} {o : HO} (g : Grow c F H F' H') (n : H p = none) (nF : F' p = none) : Grow c F H F' (upd H' p o) := by
  refine ⟨g.le, g.new, fun a xs e => ?_, fun a u e k => ?_, fun a e => ?_, g.sub.put nF⟩
  · by_cases h : a = p
    · subst h; exact .inl n
    · rw [upd_ne h] at e; exact g.tp a xs e
  · rw [upd_ne (ne_of_none e n)]; exact g.keep a u e k
  · by_cases h : a = p
    · subst h; rw [upd_same]; simp
    · rw [upd_ne h]; exact g.ex a e
theorem CupOk.upd {p : Addr} {o : HO} (q : CupOk K C F H cs) (n : C.c ≠ some p) : CupOk K C F (upd H p o) cs := by
  unfold CupOk at q ⊢
  match e : C.c, q with
  | none, q => exact q
  | some a, q =>
    obtain ⟨n1, vs, e1, r1⟩ := q
    have hne : a ≠ p := fun z => n (by rw [e, z])
    exact ⟨n1, vs, by rw [upd_ne hne]; exact e1, r1⟩
theorem CupOk.le (q : CupOk K C F H cs) (l : Le F F') (n : ∀ a, C.c = some a → F' a = none) : CupOk K C F' H cs := by
  unfold CupOk at q ⊢
  match e : C.c, q with
  | none, q => exact q
  | some a, q =>
    obtain ⟨n1, vs, e1, r1⟩ := q
    exact ⟨n a e, vs, e1, r1.mono l⟩
theorem CupOk.there (q : CupOk K C F H cs) {a : Addr} (e : C.c = some a) : H a ≠ none ∧ F a = none := by
  unfold CupOk at q
  rw [e] at q
  obtain ⟨n1, vs, e1, _⟩ := q
  exact ⟨by rw [e1]; simp, n1⟩
theorem CupOk.ne (q : CupOk K C F H cs) {p : Addr} (n : H p = none) : C.c ≠ some p := fun e => (q.there e).1 n
/-- freezing what is not the cup -/
theorem CupOk.fz {p : Addr} {o : HO} (q : CupOk K C F H cs) (nF : F p = none) (n : C.c ≠ some p) : CupOk K C (L2.upd F p o) H cs := q.le (Le.fz nF) fun a e => by
  have : a ≠ p := fun z => n (by rw [e, z])
  exact (upd_ne this).trans (q.there e).2
theorem Res.mono {α : Type} {r : Except Er (α × List PyData)} {k k' : α → List PyData → Hp → Hp → Prop} (h : Res K mg C F H r k)
    (hk : ∀ x cs F' H', Grow C.c F H F' H' → CupOk K C F' H' cs → k x cs F' H' → k' x cs F' H') : Res K mg C F H r k' := by
  match r, h with
  | .ok (x, cs), h => exact fun F' H' g q => hk x cs F' H' g q (h F' H' g q)
  | .error (.exc nm fld), h => exact h
/-- results of a block, against the def's entry; what is frozen at F stays so -/
def ResB {α : Type} (K : PySem.W.Frag) (mg : Str → Option Value) (C : Ct) (F : Hp) (r : Except Er (α × List PyData)) (k : α → List PyData → Hp → Hp → Prop) : Prop := match r with
  | .ok (x, cs) => ∀ F' H', Le F F' → Grow C.c C.F0 C.E F' H' → CupOk K C F' H' cs → k x cs F' H'
  | .error (.exc nm fld) => ∀ F' H' cl d σ, Le F F' → Grow C.c C.F0 C.E F' H' → EnvOk K mg C F' H' σ C.rx → ExR K mg F' H' nm fld cl d → C.W cl d σ H'
  | .error .stuck => False
theorem ResB.le {α : Type} {r : Except Er (α × List PyData)} {k : α → List PyData → Hp → Hp → Prop} (h : ResB K mg C F r k) (l : Le F F') : ResB K mg C F' r k := by
  match r, h with
  | .ok (x, cs), h => exact fun F1 H1 l1 g q => h F1 H1 (l.trans l1) g q
  | .error (.exc nm fld), h => exact fun F1 H1 cl d σ l1 => h F1 H1 cl d σ (l.trans l1)
theorem ResB.bind {α β : Type} {m : M α} {f : α → M β} {k : β → List PyData → Hp → Hp → Prop} (h : ResB K mg C F ((m >>= f) cs) k) (g : Grow C.c C.F0 C.E F H) :
    Res K mg C F H (m cs) fun x cs1 F1 _ => ResB K mg C F1 (f x cs1) k := by
  rw [M.bind_run] at h
  match e : m cs, h with
  | .ok (x, cs1), h =>
    have h : ResB K mg C F (f x cs1) k := h
    exact fun F1 H1 g1 q1 => h.le g1.le
  | .error (.exc nm fld), h => exact fun F' H' cl d σ g1 e1 x1 => h F' H' cl d σ g1.le (g.trans g1) e1 x1
theorem ResB.split {α β : Type} {m : M α} {f : α → M β} {k : β → List PyData → Hp → Hp → Prop} (h : ResB K mg C F ((m >>= f) cs) k) : ResB K mg C F (m cs) fun x cs1 F1 _ => ResB K mg C F1 (f x cs1) k := by
  rw [M.bind_run] at h
  match e : m cs, h with
  | .ok (x, cs1), h =>
    have h : ResB K mg C F (f x cs1) k := h
    exact fun F1 H1 l g1 q1 => h.le l
  | .error (.exc nm fld), h => exact h
theorem ResB.mono {α : Type} {r : Except Er (α × List PyData)} {k k' : α → List PyData → Hp → Hp → Prop} (h : ResB K mg C F r k)
    (hk : ∀ x cs F' H', Le F F' → Grow C.c C.F0 C.E F' H' → CupOk K C F' H' cs → k x cs F' H' → k' x cs F' H') : ResB K mg C F r k' := by
  match r, h with
  | .ok (x, cs), h => exact fun F' H' l g q => hk x cs F' H' l g q (h F' H' l g q)
  | .error (.exc nm fld), h => exact h
theorem ResB.pure {α : Type} {x : α} {k : α → List PyData → Hp → Hp → Prop} (h : ResB K mg C F ((pure x : M α) cs) k) (g : Grow C.c C.F0 C.E F H) (q : CupOk K C F H cs) : k x cs F H := h F H (Le.refl F) g q
/-- THE STEP -/
theorem Res.bind {α β : Type} {m : M α} {f : α → M β} {k : β → List PyData → Hp → Hp → Prop} (h : Res K mg C F H ((m >>= f) cs) k) :
    Res K mg C F H (m cs) fun x cs1 F1 H1 => Res K mg C F1 H1 (f x cs1) k := by
  rw [M.bind_run] at h
  match e : m cs, h with
  | .ok (x, cs1), h =>
    intro F1 H1 g1 q1
    have h : Res K mg C F H (f x cs1) k := h
    match e2 : f x cs1, h with
    | .ok (y, cs2), h => exact fun F2 H2 g2 q2 => h F2 H2 (g1.trans g2) q2
    | .error (.exc nm fld), h => exact fun F2 H2 cl d σ g2 e2 x2 => h F2 H2 cl d σ (g1.trans g2) e2 x2
  | .error (.exc nm fld), h => exact h
theorem Res.pure {α : Type} {x : α} {k : α → List PyData → Hp → Hp → Prop} (h : Res K mg C F H ((pure x : M α) cs) k) (s : Sub F H) (q : CupOk K C F H cs) : k x cs F H := h F H (Grow.refl s) q
theorem Res.noexc {α : Type} {m : M α} {k : α → List PyData → Hp → Hp → Prop} {W : WX} {rx : List Sl} (h : Res K mg C F H (noexc m cs) k) : Res K mg { C with W := W, rx := rx } F H (m cs) k := by
  unfold DL.noexc at h
  match e : m cs, h with
  | .ok (x, cs1), h => exact h
  | .error (.exc nm fld), h => exact h.elim
  | .error .stuck, h => exact h
theorem Res.chk {p : Prop} [Decidable p] {β : Type} {f : Unit → M β} {k : β → List PyData → Hp → Hp → Prop} (h : Res K mg C F H ((chk p >>= f) cs) k) : p ∧ Res K mg C F H (f () cs) k := by
  by_cases hp : p
  · refine ⟨hp, ?_⟩
    rw [chk_true hp] at h
    rw [pure_bind] at h
    exact h
  · have e : DL.chk p = stuck := if_neg hp
    rw [e, stuck_bind] at h
    exact h.elim
end
end DL
end
section
set_option Elab.async false
set_option linter.all false
set_option maxRecDepth 100000
set_option maxHeartbeats 4000000
set_option autoImplicit false
namespace DL
open PySem PySem.Spec PyProof.Rows L2
/-! ### dicts as lists of pairs of data -/
open Classical in
noncomputable def dGet (kvs : List (PyData × PyData)) (k : PyData) : Option PyData := (kvs.find? fun p => decide (p.1 = k)).map (·.2)
open Classical in
/-- in its place, or at the end -/
noncomputable def dPut (kvs : List (PyData × PyData)) (k v : PyData) : List (PyData × PyData) := if (dGet kvs k).isSome = true then kvs.map (fun p => if p.1 = k then (p.1, v) else p) else kvs ++ [(k, v)]
@[simp] theorem dGet_nil (k : PyData) : dGet [] k = none := rfl
open Classical in
theorem dGet_cons (p : PyData × PyData) (r : List (PyData × PyData)) (k : PyData) : dGet (p :: r) k = if p.1 = k then some p.2 else dGet r k := by
  unfold dGet
  rw [List.find?_cons]
  by_cases h : p.1 = k
  · simp [h]
  · simp [h]
def keyA : PyData → Option Key
  | .int i => some (.inl i)
  | .str x => some (.inr x)
  | _ => none
def keysA : List PyData → Option (List Key)
  | [] => some []
  | d :: ds => match keyA d, keysA ds with
    | some k, some ks => some (k :: ks)
    | _, _ => none
/-- what may be a key: an int, a text, a tuple of these -/
def keyOk : PyData → Bool
  | .int _ => true
  | .str _ => true
  | .tuple ds => (keysA ds).isSome
  | _ => false
def isTupD : PyData → Bool
  | .tuple _ => true
  | _ => false
theorem keyA_kD {d : PyData} {k : Key} (h : keyA d = some k) : d = kD k := by
  cases d <;> simp [keyA] at h <;> subst h <;> rfl
theorem keysA_kD : ∀ {ds : List PyData} {ks : List Key}, keysA ds = some ks → ds = ks.map kD
  | [], ks, h => by simp [keysA] at h; subst h; rfl
  | d :: ds, ks, h => by
    unfold keysA at h
    split at h
    · rename_i k ks' h1 h2
      cases h
      rw [keyA_kD h1, keysA_kD h2]
      rfl
    · cases h
theorem kD_inj {a b : Key} (h : kD a = kD b) : a = b := by
  cases a <;> cases b <;> simp [kD] at h <;> rw [h]
theorem kDs_inj : ∀ {a b : List Key}, a.map kD = b.map kD → a = b
  | [], [], _ => rfl
  | [], _ :: _, h => by simp at h
  | _ :: _, [], h => by simp at h
  | x :: xs, y :: ys, h => by
    simp only [List.map_cons, List.cons.injEq] at h
    rw [kD_inj h.1, kDs_inj h.2]
abbrev tD (ks : List Key) : PyData := .tuple (ks.map kD)
theorem tD_inj {a b : List Key} (h : tD a = tD b) : a = b := kDs_inj (by simpa [tD] using h)
/-- the two lists of pairs belong together -/
def PK {κ : Type} (e : κ → PyData) (K : PySem.W.Frag) (F : Hp) : List (κ × V) → List (PyData × PyData) → Prop := Paired fun p q => q.1 = e p.1 ∧ Rp K F p.2 q.2
section
variable {K : PySem.W.Frag} {F F' H H' : Hp}
theorem rpK_pk : ∀ {es : List (Key × V)} {kvs : List (PyData × PyData)}, RpK K F es kvs → PK kD K F es kvs
  | _, _, .nil => .nil
  | _, _, .cons r t => .cons ⟨rfl, r⟩ (rpK_pk t)
theorem pk_rpK : ∀ {es : List (Key × V)} {kvs : List (PyData × PyData)}, PK kD K F es kvs → RpK K F es kvs := by
  intro es kvs h
  unfold PK at h
  induction h with
  | nil => exact .nil
  | @cons p q _ _ r t ih =>
    obtain ⟨a, b⟩ := p
    obtain ⟨c, d⟩ := q
    obtain ⟨r1, r2⟩ := r
    have r1' : c = kD a := r1
    subst r1'
    exact .cons r2 ih
theorem rpT_pk : ∀ {es : List (List Key × V)} {kvs : List (PyData × PyData)}, RpT K F es kvs → PK tD K F es kvs
  | _, _, .nil => .nil
  | _, _, .cons r t => .cons ⟨rfl, r⟩ (rpT_pk t)
theorem pk_rpT : ∀ {es : List (List Key × V)} {kvs : List (PyData × PyData)}, PK tD K F es kvs → RpT K F es kvs := by
  intro es kvs h
  unfold PK at h
  induction h with
  | nil => exact .nil
  | @cons p q _ _ r t ih =>
    obtain ⟨a, b⟩ := p
    obtain ⟨c, d⟩ := q
    obtain ⟨r1, r2⟩ := r
    have r1' : c = tD a := r1
    subst r1'
    exact .cons r2 ih
section
variable {κ : Type} [DecidableEq κ] {e : κ → PyData}
theorem PK.get (inj : ∀ a b, e a = e b → a = b) {es : List (κ × V)} {kvs : List (PyData × PyData)} (h : PK e K F es kvs) (k : κ) : (dGet kvs (e k) = none → valV es k = none) ∧ ∀ d, dGet kvs (e k) = some d → ∃ v, valV es k = some v ∧ Rp K F v d := by
  unfold PK at h
  induction h with
  | nil => exact ⟨fun _ => rfl, fun d z => by cases z⟩
  | @cons p q _ _ r t ih =>
    rw [dGet_cons, r.1]
    by_cases hk : p.1 = k
    · rw [if_pos (by rw [hk]), valV_pos hk]
      refine ⟨fun z => ?_, fun d z => ?_⟩
      · cases z
      · cases z; exact ⟨_, rfl, r.2⟩
    · rw [if_neg (fun z => hk (inj _ _ z)), valV_neg hk]
      exact ih
theorem PK.isSome (inj : ∀ a b, e a = e b → a = b) {es : List (κ × V)} {kvs : List (PyData × PyData)} (h : PK e K F es kvs) (k : κ) : (valV es k).isSome = (dGet kvs (e k)).isSome := by
  obtain ⟨h1, h2⟩ := h.get inj k
  cases hd : dGet kvs (e k) with
  | none => rw [h1 hd]; rfl
  | some d => obtain ⟨v, hv, _⟩ := h2 d hd; rw [hv]; rfl
theorem PK.append {es es' : List (κ × V)} {kvs kvs' : List (PyData × PyData)} (h : PK e K F es kvs) (h' : PK e K F es' kvs') : PK e K F (es ++ es') (kvs ++ kvs') := by
  unfold PK at h ⊢
  induction h with
  | nil => exact h'
  | cons r t ih => exact .cons r ih
open Classical in
theorem PK.repl (inj : ∀ a b, e a = e b → a = b) {es : List (κ × V)} {kvs : List (PyData × PyData)} (h : PK e K F es kvs) (k : κ) {v : V} {d : PyData} (r : Rp K F v d) :
    PK e K F (es.map fun kv => if kv.1 = k then (kv.1, v) else kv) (kvs.map fun p => if p.1 = e k then (p.1, d) else p) := by
  unfold PK at h ⊢
  induction h with
  | nil => exact .nil
  | @cons p q _ _ s t ih =>
    rw [List.map_cons, List.map_cons]
    refine .cons ?_ ih
    by_cases hk : p.1 = k
    · rw [if_pos hk, if_pos (by rw [s.1, hk])]; exact ⟨s.1, r⟩
    · rw [if_neg hk, if_neg (fun z => hk (inj _ _ (s.1.symm.trans z)))]; exact s
theorem PK.put (inj : ∀ a b, e a = e b → a = b) {es : List (κ × V)} {kvs : List (PyData × PyData)} (h : PK e K F es kvs) (k : κ) {v : V} {d : PyData} (r : Rp K F v d) : PK e K F (putK es k v) (dPut kvs (e k) d) := by
  have hs := h.isSome inj k
  rw [← valV_any] at hs
  unfold putK dPut
  rw [hs]
  split
  · exact h.repl inj k r
  · exact h.append (.cons ⟨rfl, r⟩ .nil)
end
theorem PK.length {κ : Type} {e : κ → PyData} {es : List (κ × V)} {kvs : List (PyData × PyData)} (h : PK e K F es kvs) : es.length = kvs.length := by
  unfold PK at h
  induction h with
  | nil => rfl
  | cons r t ih => simp [ih]
theorem PK.at {κ : Type} {e : κ → PyData} {es : List (κ × V)} {kvs : List (PyData × PyData)} (h : PK e K F es kvs) {i : Nat} {q : PyData × PyData} (hq : kvs[i]? = some q) : ∃ k v, es[i]? = some (k, v) ∧ q.1 = e k ∧ Rp K F v q.2 := by
  unfold PK at h
  induction h generalizing i with
  | nil => simp at hq
  | @cons p q' _ _ r t ih =>
    cases i with
    | zero =>
      simp at hq
      subst hq
      exact ⟨p.1, p.2, rfl, r.1, r.2⟩
    | succ i => exact ih (by simpa using hq)
theorem PK.keys {κ : Type} {e : κ → PyData} {es : List (κ × V)} {kvs : List (PyData × PyData)} (h : PK e K F es kvs) : kvs.map (·.1) = es.map fun p => e p.1 := by
  unfold PK at h
  induction h with
  | nil => rfl
  | cons r t ih => rw [List.map_cons, List.map_cons, ih, r.1]
theorem Rp.keyA {v : V} {d : PyData} {k : Key} (r : Rp K F v d) (h : DL.keyA d = some k) : v = kV k := by
  cases r <;> simp [DL.keyA] at h <;> subst h <;> rfl
theorem Rps.keysA : ∀ {vs : List V} {ds : List PyData} {ks : List Key}, Rps K F vs ds → DL.keysA ds = some ks → vs = ks.map kV
  | _, _, _, .nil, h => by simp [DL.keysA] at h; subst h; rfl
  | _, _, _, .cons r t, h => by
    unfold DL.keysA at h
    split at h
    · rename_i k ks' h1 h2
      cases h
      rw [r.keyA h1, Rps.keysA t h2]
      rfl
    · cases h
theorem rps_kV : ∀ ks : List Key, Rps K F (ks.map kV) (ks.map kD)
  | [] => .nil
  | .inl i :: ks => .cons (.int i) (rps_kV ks)
  | .inr x :: ks => .cons (.str x) (rps_kV ks)
theorem rp_kV (k : Key) : Rp K F (kV k) (kD k) := by
  cases k with
  | inl i => exact .int i
  | inr x => exact .str x
/-- a dict that may be read -/
def DOk (K : PySem.W.Frag) (F H : Hp) (a : Addr) (kvs : List (PyData × PyData)) : Prop := (∃ es, Rd H a (.dK es) ∧ RpK K F es kvs) ∨ ∃ es, Rd H a (.dT es) ∧ RpT K F es kvs
theorem Rp.dOk {v : V} {kvs : List (PyData × PyData)} (r : Rp K F v (.dict kvs)) (s : Sub F H) : ∃ a, v = .ref a ∧ F a ≠ none ∧ DOk K F H a kvs := by
  cases r with
  | @dK a ob es _ h r => exact ⟨a, rfl, by rw [h]; simp, .inl ⟨es, .inr ⟨ob, s _ _ h⟩, r⟩⟩
  | @dT a ob es _ h r => exact ⟨a, rfl, by rw [h]; simp, .inr ⟨es, .inr ⟨ob, s _ _ h⟩, r⟩⟩
theorem rd_keep {a : Addr} {o : HO} (h : Rd H a o) (k : ∀ o, H a = some o → H' a = some o) : Rd H' a o := h.imp (k _) fun ⟨ob, h⟩ => ⟨ob, k _ h⟩
theorem DOk.grow {c : Option Addr} {a : Addr} {kvs : List (PyData × PyData)} (h : DOk K F H a kvs) (g : Grow c F H F' H') (n : c ≠ some a) : DOk K F' H' a kvs := by
  rcases h with ⟨es, h, r⟩ | ⟨es, h, r⟩
  · exact .inl ⟨es, rd_keep h fun o e => g.keep a o e n, r.mono g.le⟩
  · exact .inr ⟨es, rd_keep h fun o e => g.keep a o e n, r.mono g.le⟩
/-- the key's kind fits the dict -/
def keyFits (kvs : List (PyData × PyData)) (k : PyData) : Bool := keyOk k && kvs.all (fun p => isTupD p.1 == isTupD k) && !kvs.isEmpty
def okA (k : PyData) : Bool := (keyA k).isSome
def okT : PyData → Bool
  | .tuple ds => (keysA ds).isSome
  | _ => false
theorem getA {a : Addr} {es : List (Key × V)} {kvs : List (PyData × PyData)} {y : V} {k : PyData} (h : Rd H a (.dK es)) (rr : RpK K F es kvs) (r : Rp K F y k) (hk : okA k = true) :
    ∃ k' : Key, k = kD k' ∧ y = kV k' ∧ (dGet kvs k = none → DGet H a y none) ∧ ∀ d, dGet kvs k = some d → ∃ v, DGet H a y (some v) ∧ Rp K F v d := by
  obtain ⟨k', hA⟩ := Option.isSome_iff_exists.mp hk
  have e1 := r.keyA hA
  have e2 := keyA_kD hA
  subst e1 e2
  obtain ⟨g1, g2⟩ := (rpK_pk rr).get (fun _ _ => kD_inj) k'
  refine ⟨k', rfl, rfl, fun z => .inl ⟨es, k', h, rfl, (g1 z).symm⟩, fun d z => ?_⟩
  obtain ⟨v, hv, rv⟩ := g2 d z
  exact ⟨v, .inl ⟨es, k', h, rfl, hv.symm⟩, rv⟩
theorem getT {a : Addr} {es : List (List Key × V)} {kvs : List (PyData × PyData)} {y : V} {k : PyData} (h : Rd H a (.dT es)) (rr : RpT K F es kvs) (s : Sub F H) (r : Rp K F y k) (hk : okT k = true) :
    ∃ (ks : List Key) (b : Addr), k = tD ks ∧ y = .ref b ∧ H b = some (.tup (ks.map kV)) ∧ (dGet kvs k = none → DGet H a y none) ∧ ∀ d, dGet kvs k = some d → ∃ v, DGet H a y (some v) ∧ Rp K F v d := by
  cases r with
  | @tup b xs ds f rr0 =>
    obtain ⟨ks, hks⟩ := Option.isSome_iff_exists.mp (show (keysA ds).isSome = true from hk)
    have e2 := keysA_kD hks
    have e3 := rr0.keysA hks
    subst e2 e3
    obtain ⟨g1, g2⟩ := (rpT_pk rr).get (fun _ _ => tD_inj) ks
    refine ⟨ks, b, rfl, rfl, f.at' s, fun z => .inr ⟨es, ks, b, h, rfl, f.at' s, (g1 z).symm⟩, fun d z => ?_⟩
    obtain ⟨v, hv, rv⟩ := g2 d z
    exact ⟨v, .inr ⟨es, ks, b, h, rfl, f.at' s, hv.symm⟩, rv⟩
  | _ => cases hk
theorem DOk.get {a : Addr} {kvs : List (PyData × PyData)} {y : V} {k : PyData} (h : DOk K F H a kvs) (s : Sub F H) (r : Rp K F y k) (hf : keyFits kvs k = true) :
    (dGet kvs k = none → DGet H a y none) ∧ ∀ d, dGet kvs k = some d → ∃ v, DGet H a y (some v) ∧ Rp K F v d := by
  simp only [keyFits, Bool.and_eq_true, Bool.not_eq_true', List.isEmpty_eq_false_iff] at hf
  obtain ⟨⟨hk, hall⟩, hne⟩ := hf
  rcases h with ⟨es, hr, rr⟩ | ⟨es, hr, rr⟩
  · cases rr with
    | nil => exact absurd rfl hne
    | @cons k0 v0 vs d0 ds' r1 r2 =>
      have hA : okA k = true := by
        simp only [List.all_cons, Bool.and_eq_true, beq_iff_eq] at hall
        have h1 := hall.1
        cases k0 <;> cases k <;> simp [kD, isTupD] at h1 <;> first | rfl | cases hk
      obtain ⟨k', _, _, g⟩ := getA hr (.cons r1 r2) r hA
      exact g
  · cases rr with
    | nil => exact absurd rfl hne
    | @cons k0 v0 vs d0 ds' r1 r2 =>
      have hA : okT k = true := by
        simp only [List.all_cons, Bool.and_eq_true, beq_iff_eq] at hall
        have h1 := hall.1
        cases k <;> simp [isTupD] at h1
        exact hk
      obtain ⟨_, _, _, _, _, g⟩ := getT hr (.cons r1 r2) s r hA
      exact g
end
end DL
end
section
set_option Elab.async false
set_option linter.all false
set_option maxRecDepth 100000
set_option maxHeartbeats 4000000
set_option autoImplicit false
namespace DL
open PySem PySem.Spec PyProof.Rows L2

/-! ### the judgements -/
section
variable (K : PySem.W.Frag) (mg : Str → Option Value) (C : Ct)
def kE (Q : VK) : PyData → List PyData → Hp → Hp → Prop := fun d _ F' H' => ∀ v, Rp K F' v d → Q v H'
def kT (Q : Bool → Hp → Prop) : Bool → List PyData → Hp → Hp → Prop := fun b _ F' H' => Q b H'
def kO (H : Hp) (Q : VK) : List PyData → List PyData → Hp → Hp → Prop := fun xs _ F' H' => ∀ a vs, H a = none → H' a = some (.lst vs) → F' a = none → C.c ≠ some a → Rps K F' vs xs → Q (.ref a) H'
def tM (ρ : List Sl) (m : M PyData) : TE := fun σ H Q => ∃ F cs, EnvOk K mg C F H σ ρ ∧ CupOk K C F H cs ∧ Res K mg C F H (m cs) (kE K Q)
def tO (ρ : List Sl) (m : M (List PyData)) : TE := fun σ H Q => ∃ F cs, EnvOk K mg C F H σ ρ ∧ CupOk K C F H cs ∧ Res K mg C F H (m cs) (kO K C H Q)
def tTm (ρ : List Sl) (m : M Bool) : TT := fun σ H Q => ∃ F cs, EnvOk K mg C F H σ ρ ∧ CupOk K C F H cs ∧ Res K mg C F H (m cs) (kT Q)
def runs : List (M PyData) → M (List PyData)
  | [] => pure []
  | m :: ms => do let x ← m; let xs ← runs ms; pure (x :: xs)
def kA (n : Nat) (Q : List V → Hp → Prop) : List PyData → List PyData → Hp → Hp → Prop := fun ds _ F' H' => ∀ vs, ds.length = n → Rps K F' vs ds → Q vs H'
def tAm (ρ : List Sl) (ms : List (M PyData)) : TA := fun σ H Q => ∃ F cs, EnvOk K mg C F H σ ρ ∧ CupOk K C F H cs ∧ Res K mg C F H (runs ms cs) (kA K ms.length Q)
/-- an iterator gives the items -/
def ItOk (J : It) (F : Hp) (ds : List PyData) : Prop := ∀ (i : Nat) (F1 H1 : Hp), Le F F1 → Sub F1 H1 →
  (ds.length ≤ i → J.stop i H1) ∧ ∀ d, ds[i]? = some d → J.go i H1 ∧ ∀ x H2, J.yld i H1 x H2 → ∃ F2, (∀ c, Grow c F1 H1 F2 H2) ∧ Rp K F2 x d
def tIm (ρ : List Sl) (m : M (List PyData)) : TI := fun σ H R => ∃ F cs, EnvOk K mg C F H σ ρ ∧ CupOk K C F H cs ∧ Res K mg C F H (m cs) fun ds cs' F' H' => ∀ J, ItOk K J F' ds → ds.length ≤ sizeLine → R J H'
end
structure FE (X : Cx) (C : Ct) (ρ : List Sl) (e : Expr) (m : M PyData) : Prop where
  pe : PE X e (tM X.K X.mg C ρ m)
structure FO (X : Cx) (C : Ct) (ρ : List Sl) (e : Expr) (m : M (List PyData)) : Prop where
  pe : PE X e (tO X.K X.mg C ρ m)
structure FT (X : Cx) (C : Ct) (ρ : List Sl) (e : Expr) (m : M Bool) : Prop where
  pt : PT X e (tTm X.K X.mg C ρ m)
structure FA (X : Cx) (C : Ct) (ρ : List Sl) (es : List Expr) (ms : List (M PyData)) : Prop where
  pa : PA X es (tAm X.K X.mg C ρ ms)
structure FI (X : Cx) (C : Ct) (ρ : List Sl) (tg e : Expr) (m : M (List PyData)) : Prop where
  pi : PI X tg e (tIm X.K X.mg C ρ m)
theorem imE {X : Cx} {e : Expr} {t t' : TE} (h : PE X e t) (i : ∀ σ H Q, t' σ H Q → t σ H Q) : PE X e t' := ⟨fun pins s σ H Q I w => h.run pins s σ H Q I (i σ H Q w)⟩
theorem imT {X : Cx} {e : Expr} {t t' : TT} (h : PT X e t) (i : ∀ σ H Q, t' σ H Q → t σ H Q) : PT X e t' := ⟨fun pins s σ H Q I w => h.run pins s σ H Q I (i σ H Q w)⟩
theorem imW {X : Cx} {e : Expr} {t t' : TT} (h : PW X e t) (i : ∀ σ H Q, t' σ H Q → t σ H Q) : PW X e t' := ⟨fun wh pins s σ H Q I w => h.run wh pins s σ H Q I (i σ H Q w)⟩
theorem imA {X : Cx} {e : List Expr} {t t' : TA} (h : PA X e t) (i : ∀ σ H Q, t' σ H Q → t σ H Q) : PA X e t' := ⟨fun p pins s σ H Q I w => h.run p pins s σ H Q I (i σ H Q w)⟩
theorem imS {X : Cx} {e : Stmt} {t t' : TS} (h : PS X e t) (i : ∀ D σ H, t' D σ H → t D σ H) : PS X e t' := ⟨fun pins s σ H Q I w => h.run pins s σ H Q I (i Q σ H w)⟩
theorem imSs {X : Cx} {e : List Stmt} {t t' : TS} (h : PSs X e t) (i : ∀ D σ H, t' D σ H → t D σ H) : PSs X e t' := ⟨fun pins s σ H Q I w => h.run pins s σ H Q I (i Q σ H w)⟩
theorem imI {X : Cx} {tg e : Expr} {t t' : TI} (h : PI X tg e t) (i : ∀ σ H Q, t' σ H Q → t σ H Q) : PI X tg e t' := ⟨fun pins s σ H Q I w => h.run pins s σ H Q I (i σ H Q w)⟩

section
variable {K : PySem.W.Frag} {mg : Str → Option Value} {C : Ct} {F H : Hp} {σ : St} {ρ : List Sl} {cs : List PyData} {ma mb mc : M PyData} {ta tb : TE}
/-- then a further step by values -/
theorem tM.then1 {f : PyData → M PyData} {k : V → Hp → VK → Prop} {Q : VK} (h : tM K mg C ρ (do let x ← ma; f x) σ H Q)
    (hop : ∀ F H x dx cs, Sub F H → EnvOk K mg C F H σ ρ → CupOk K C F H cs → Rp K F x dx → Res K mg C F H (f dx cs) (kE K Q) → k x H Q) : tM K mg C ρ ma σ H fun x H1 => k x H1 Q := by
  obtain ⟨F, cs, e, q, h⟩ := h
  refine ⟨F, cs, e, q, (Res.bind h).mono fun dx cs1 F1 H1 g1 q1 h1 v rv => ?_⟩
  exact hop F1 H1 v dx cs1 g1.sub (e.grow g1) q1 rv h1
theorem tM.then2 {f : PyData → PyData → M PyData} {r : R2} {Q : VK} (h : tM K mg C ρ (do let x ← ma; let y ← mb; f x y) σ H Q)
    (hop : ∀ F H x y dx dy cs, Sub F H → CupOk K C F H cs → Rp K F x dx → Rp K F y dy → Res K mg C F H (f dx dy cs) (kE K Q) → r x y H Q) : tOp r (tM K mg C ρ ma) (tM K mg C ρ mb) σ H Q := by
  obtain ⟨F, cs, e, q, h⟩ := h
  refine ⟨F, cs, e, q, (Res.bind h).mono fun dx cs1 F1 H1 g1 q1 h1 v rv => ?_⟩
  refine ⟨F1, cs1, e.grow g1, q1, (Res.bind h1).mono fun dy cs2 F2 H2 g2 q2 h2 u ru => ?_⟩
  exact hop F2 H2 v u dx dy cs2 g2.sub q2 (rv.mono g2.le) ru h2
end

/-! ### operators on data -/
/-- what an operator's rule on values asks follows from what it does on data -/
def Op2 (K : PySem.W.Frag) (f : PyData → PyData → M PyData) (r : R2) : Prop := ∀ (mg : Str → Option Value) (C : Ct) (F H : Hp) (x y : V) (dx dy : PyData) (cs : List PyData) (Q : VK), Sub F H → CupOk K C F H cs → Rp K F x dx → Rp K F y dy →
  Res K mg C F H (f dx dy cs) (kE K Q) → r x y H Q
def Op1 (K : PySem.W.Frag) (f : PyData → M PyData) (r : V → Hp → VK → Prop) : Prop := ∀ (mg : Str → Option Value) (C : Ct) (F H : Hp) (x : V) (dx : PyData) (cs : List PyData) (Q : VK), Sub F H → CupOk K C F H cs → Rp K F x dx →
  Res K mg C F H (f dx cs) (kE K Q) → r x H Q
section
variable {X : Cx} {C : Ct} {ρ : List Sl} {a b c : Expr} {ma mb mc : M PyData} {pos : Pos}
theorem fe_op {op : Operator} {r : R2} {f : PyData → PyData → M PyData} (ho : OpR X (binaryOp op) r) (hf : Op2 X.K f r) (ha : FE X C ρ a ma) (hb : FE X C ρ b mb) : FE X C ρ (.BinOp a op b pos) (do let x ← ma; let y ← mb; f x y) :=
  ⟨imE (pe_op ho ha.pe hb.pe) fun σ H Q h => h.then2 fun F H x y dx dy cs s q rx ry h => hf _ _ F H x y dx dy cs Q s q rx ry h⟩
theorem fe_un {op : UnaryOp} {r : V → Hp → VK → Prop} {f : PyData → M PyData} (ho : UnR X (unaryOp op) r) (hf : Op1 X.K f r) (ha : FE X C ρ a ma) : FE X C ρ (.UnaryOp op a pos) (do let x ← ma; f x) :=
  ⟨imE (pe_un ho ha.pe) fun σ H Q h => h.then1 (k := r) fun F H x dx cs s _ q rx h => hf _ _ F H x dx cs Q s q rx h⟩
theorem fe_cmp {op : CmpOp} {r : R2} {f : PyData → PyData → M PyData} (ho : OpR X (compareOp op) r) (hf : Op2 X.K f r) (hm : behindInMarks op b = false) (ha : FE X C ρ a ma) (hb : FE X C ρ b mb) :
    FE X C ρ (.Compare a [op] [b] pos) (do let x ← ma; let y ← mb; f x y) :=
  ⟨imE (pe_cmpR ho ha.pe hb.pe hm) fun σ H Q h => h.then2 fun F H x y dx dy cs s q rx ry h => hf _ _ F H x y dx dy cs Q s q rx ry h⟩
/-- a comparison as a test -/
def asB : PyData → M Bool
  | .bool b => pure b
  | _ => stuck
theorem asB_res {K : PySem.W.Frag} {mg : Str → Option Value} {F H : Hp} {d : PyData} {v : V} {cs : List PyData} {Q : Bool → Hp → Prop} (rv : Rp K F v d) (s : Sub F H) (q : CupOk K C F H cs) (h : Res K mg C F H (asB d cs) (kT Q)) : ∃ b, v = .bl b ∧ Q b H := by
  cases rv with
  | bl b => exact ⟨b, rfl, h F H (Grow.refl s) q⟩
  | non => exact h.elim
  | int _ => exact h.elim
  | str _ => exact h.elim
  | lst _ _ => exact h.elim
  | tup _ _ => exact h.elim
  | dK _ _ => exact h.elim
  | dT _ _ => exact h.elim
theorem ft_cmp {op : CmpOp} {r : R2} {f : PyData → PyData → M PyData} (ho : OpR X (compareOp op) r) (hf : Op2 X.K f r) (hm : behindInMarks op b = false) (ha : FE X C ρ a ma) (hb : FE X C ρ b mb) :
    FT X C ρ (.Compare a [op] [b] pos) (do let x ← ma; let y ← mb; let z ← f x y; asB z) := by
  refine ⟨imT (pt_cmpR ho ha.pe hb.pe hm) fun σ H Q h => ?_⟩
  obtain ⟨F, cs, e, q, h⟩ := h
  refine ⟨F, cs, e, q, (Res.bind h).mono fun dx cs1 F1 H1 g1 q1 h1 v rv => ?_⟩
  refine ⟨F1, cs1, e.grow g1, q1, (Res.bind h1).mono fun dy cs2 F2 H2 g2 q2 h2 u ru => ?_⟩
  refine hf _ _ F2 H2 v u dx dy cs2 _ g2.sub q2 (rv.mono g2.le) ru ((Res.bind h2).mono fun dz cs3 F3 H3 g3 q3 h3 w rw' => ?_)
  exact asB_res rw' g3.sub q3 h3
/-- an expression whose value is a bool -/
theorem ft_val {e : Expr} {m : M PyData} (h : FE X C ρ e m) (he : ∀ whole, isTrue e X.env whole = (do let v ← whole; standAt e.pos; holding [v] (truthy v)) := by intro _; rfl) : FT X C ρ e (do let z ← m; asB z) := by
  refine ⟨imT (pt_val h.pe he) fun σ H Q h => ?_⟩
  obtain ⟨F, cs, e, q, h⟩ := h
  exact ⟨F, cs, e, q, (Res.bind h).mono fun dx cs1 F1 H1 g1 q1 h1 v rv => asB_res rv g1.sub q1 h1⟩
theorem ft_not {m : M Bool} (h : FT X C ρ a m) : FT X C ρ (.UnaryOp .Not a pos) (do let b ← m; pure (!b)) := by
  refine ⟨imT (pt_not h.pt) fun σ H Q h => ?_⟩
  obtain ⟨F, cs, e, q, h⟩ := h
  exact ⟨F, cs, e, q, (Res.bind h).mono fun b cs1 F1 H1 g1 q1 h1 => Res.pure (mg := X.mg) h1 g1.sub q1⟩
/-- and, or as tests: the last one is ft_last -/
structure FW (X : Cx) (C : Ct) (ρ : List Sl) (e : Expr) (m : M Bool) : Prop where
  pw : PW X e (tTm X.K X.mg C ρ m)
theorem FW.ft {e : Expr} {m : M Bool} (h : FW X C ρ e m) : FT X C ρ e m := ⟨h.pw.pt⟩
theorem fw_and1 {m : M Bool} (h : FT X C ρ a m) : FW X C ρ (.BoolOp .And [a] pos) m := ⟨pw_and1 h.pt⟩
theorem fw_or1 {m : M Bool} (h : FT X C ρ a m) : FW X C ρ (.BoolOp .Or [a] pos) m := ⟨pw_or1 h.pt⟩
theorem fw_and {rest : List Expr} {m n : M Bool} (ha : FT X C ρ a m) (hb : FW X C ρ (.BoolOp .And (b :: rest) pos) n) : FW X C ρ (.BoolOp .And (a :: b :: rest) pos) (do let t ← m; if t = true then n else pure false) := by
  refine ⟨imW (pw_and ha.pt hb.pw) fun σ H Q h => ?_⟩
  obtain ⟨F, cs, e, q, h⟩ := h
  refine ⟨F, cs, e, q, (Res.bind h).mono fun t cs1 F1 H1 g1 q1 h1 => ?_⟩
  cases t with
  | true => exact iteT (B := Q false H1) ⟨F1, cs1, e.grow g1, q1, h1⟩
  | false => exact iteF (A := tTm X.K X.mg C ρ n σ H1 Q) (Res.pure (mg := X.mg) h1 g1.sub q1)
theorem fw_or {rest : List Expr} {m n : M Bool} (ha : FT X C ρ a m) (hb : FW X C ρ (.BoolOp .Or (b :: rest) pos) n) : FW X C ρ (.BoolOp .Or (a :: b :: rest) pos) (do let t ← m; if t = true then pure true else n) := by
  refine ⟨imW (pw_or ha.pt hb.pw) fun σ H Q h => ?_⟩
  obtain ⟨F, cs, e, q, h⟩ := h
  refine ⟨F, cs, e, q, (Res.bind h).mono fun t cs1 F1 H1 g1 q1 h1 => ?_⟩
  cases t with
  | true => exact iteT (B := tTm X.K X.mg C ρ n σ H1 Q) (Res.pure (mg := X.mg) h1 g1.sub q1)
  | false => exact iteF (A := Q true H1) ⟨F1, cs1, e.grow g1, q1, h1⟩
/-- .. as values: all but the last are bools -/
theorem fe_one {op : BoolOp} {m : M PyData} (h : FE X C ρ a m) : FE X C ρ (.BoolOp op [a] pos) m := ⟨pe_one h.pe⟩
theorem fe_and {rest : List Expr} {m n : M PyData} (ha : FE X C ρ a m) (hb : FE X C ρ (.BoolOp .And (b :: rest) pos) n) : FE X C ρ (.BoolOp .And (a :: b :: rest) pos) (do let z ← m; let t ← asB z; if t = true then n else pure (.bool false)) := by
  refine ⟨imE (pe_and ha.pe hb.pe) fun σ H Q h => ?_⟩
  obtain ⟨F, cs, e, q, h⟩ := h
  refine ⟨F, cs, e, q, (Res.bind h).mono fun d cs1 F1 H1 g1 q1 h1 v rv => ?_⟩
  have h2 := Res.bind h1
  cases rv with
  | bl t =>
    refine ⟨t, rfl, ?_⟩
    have h3 := h2 F1 H1 (Grow.refl g1.sub) q1
    cases t with
    | true => exact iteT ⟨F1, cs1, e.grow g1, q1, h3⟩
    | false => exact iteF (Res.pure h3 g1.sub q1 _ (.bl false))
  | _ => exact h2.elim
theorem fe_or {rest : List Expr} {m n : M PyData} (ha : FE X C ρ a m) (hb : FE X C ρ (.BoolOp .Or (b :: rest) pos) n) : FE X C ρ (.BoolOp .Or (a :: b :: rest) pos) (do let z ← m; let t ← asB z; if t = true then pure (.bool true) else n) := by
  refine ⟨imE (pe_or ha.pe hb.pe) fun σ H Q h => ?_⟩
  obtain ⟨F, cs, e, q, h⟩ := h
  refine ⟨F, cs, e, q, (Res.bind h).mono fun d cs1 F1 H1 g1 q1 h1 v rv => ?_⟩
  have h2 := Res.bind h1
  cases rv with
  | bl t =>
    refine ⟨t, rfl, ?_⟩
    have h3 := h2 F1 H1 (Grow.refl g1.sub) q1
    cases t with
    | true => exact iteT (Res.pure h3 g1.sub q1 _ (.bl true))
    | false => exact iteF ⟨F1, cs1, e.grow g1, q1, h3⟩
  | _ => exact h2.elim
theorem fe_not {m : M PyData} (ha : FE X C ρ a m) : FE X C ρ (.UnaryOp .Not a pos) (do let z ← m; let t ← asB z; pure (.bool (!t))) := by
  refine ⟨imE (pe_not ha.pe) fun σ H Q h => ?_⟩
  obtain ⟨F, cs, e, q, h⟩ := h
  refine ⟨F, cs, e, q, (Res.bind h).mono fun d cs1 F1 H1 g1 q1 h1 v rv => ?_⟩
  have h2 := Res.bind h1
  cases rv with
  | bl t => exact ⟨t, rfl, Res.pure (h2 F1 H1 (Grow.refl g1.sub) q1) g1.sub q1 _ (.bl _)⟩
  | _ => exact h2.elim
theorem fe_ifExp {t : M Bool} (hc : FT X C ρ c t) (ha : FE X C ρ a ma) (hb : FE X C ρ b mb) : FE X C ρ (.IfExp c a b pos) (do let z ← t; if z = true then ma else mb) := by
  refine ⟨imE (pe_ifExp hc.pt ha.pe hb.pe) fun σ H Q h => ?_⟩
  obtain ⟨F, cs, e, q, h⟩ := h
  refine ⟨F, cs, e, q, (Res.bind h).mono fun t cs1 F1 H1 g1 q1 h1 => ?_⟩
  cases t with
  | true => exact iteT (B := tM X.K X.mg C ρ mb σ H1 Q) ⟨F1, cs1, e.grow g1, q1, h1⟩
  | false => exact iteF (A := tM X.K X.mg C ρ ma σ H1 Q) ⟨F1, cs1, e.grow g1, q1, h1⟩
/-- a < b < c -/
theorem fe_chain {op op' : CmpOp} {r r' : R2} {f f' : PyData → PyData → M PyData} (ho : OpR X (compareOp op) r) (ho' : OpR X (compareOp op') r') (hf : Op2 X.K f r) (hf' : Op2 X.K f' r') (ha : FE X C ρ a ma) (hb : FE X C ρ b mb) (hc : FE X C ρ c mc)
    (hm : lastMarks [op, op'] [b, c] = false := by with_unfolding_all rfl) :
    FE X C ρ (.Compare a [op, op'] [b, c] pos) (do let x ← ma; let y ← mb; let z ← f x y; let t ← asB z; if t = true then (do let w ← mc; f' y w) else pure (.bool false)) := by
  refine ⟨imE (pe_chain ho ho' ha.pe hb.pe hc.pe hm) fun σ H Q h => ?_⟩
  obtain ⟨F, cs, e, q, h⟩ := h
  refine ⟨F, cs, e, q, (Res.bind h).mono fun dx cs1 F1 H1 g1 q1 h1 v rv => ?_⟩
  refine ⟨F1, cs1, e.grow g1, q1, (Res.bind h1).mono fun dy cs2 F2 H2 g2 q2 h2 u ru => ?_⟩
  refine hf _ _ F2 H2 v u dx dy cs2 _ g2.sub q2 (rv.mono g2.le) ru ((Res.bind h2).mono fun dz cs3 F3 H3 g3 q3 h3 w rw' => ?_)
  have h4 := Res.bind h3
  cases rw' with
  | bl t =>
    refine ⟨t, rfl, ?_⟩
    have h5 := h4 F3 H3 (Grow.refl g3.sub) q3
    cases t with
    | true =>
      refine iteT ⟨F3, cs3, (e.grow (g1.trans (g2.trans g3))), q3, (Res.bind h5).mono fun dw cs4 F4 H4 g4 q4 h6 w rw => ?_⟩
      exact hf' _ _ F4 H4 u w dy dw cs4 _ g4.sub q4 (ru.mono (g3.le.trans g4.le)) rw h6
    | false => exact iteF (Res.pure h5 g3.sub q3 _ (.bl false))
  | _ => exact h4.elim
end
end DL
end
section
set_option Elab.async false
set_option linter.all false
set_option maxRecDepth 100000
set_option maxHeartbeats 4000000
set_option autoImplicit false
namespace DL
open PySem PySem.Spec PyProof.Rows L2

/-! ### + -/
def rCatL (K : PySem.W.Frag) : R2 := fun x y H Q => ∃ l b xs zs, x = .ref l ∧ y = .ref b ∧ SqL K H l xs ∧ SqL K H b zs ∧ xs.length + zs.length ≤ sizeLine ∧ ∀ p, H p = none → Q (.ref p) (upd H p (.lst (xs ++ zs)))
theorem op_catL {X : Cx} : OpR X (binaryOp .Add) (rCatL X.K) := by
  intro pins s σ H x y v u Q I rx ry h
  obtain ⟨l, b, xs, zs, rfl, rfl, hH, hB, hz, q⟩ := h
  cases rx
  cases ry
  obtain ⟨its, r, p1, _⟩ := I.list hH
  obtain ⟨its2, r2, p2, _⟩ := I.list hB
  obtain ⟨⟨cls, dd, data, sl⟩, n, ho, hc, hdd, hd⟩ := p1
  obtain ⟨⟨cls2, dd2, data2, sl2⟩, n2, ho2, hc2, hdd2, hd2⟩ := p2
  simp only at hc hd hc2 hd2
  subst hc hd hc2 hd2
  have hl := r.length
  have hl2 := r2.length
  have e : its.toArray ++ its2.toArray = (its ++ its2).toArray := by simp
  refine concat_meets ⟨_, ho, rfl⟩ ⟨_, ho2, rfl⟩ noFill_list_add seq_list_add PySem.F.slot_list_add PySem.F.entry_list_add (PySem.F.args_list_add_2 _ _) (list_addW l b its.toArray its2.toArray n n2 dd dd2 sl sl2 (by rw [List.size_toArray, List.size_toArray]; omega)) ⟨ho, ho2, ?_⟩
  rw [e]
  exact ⟨.ref _, _, I.lnew (t' := s.toks) (r.append r2) (by rw [List.length_append]; omega), rfl, q _ I.fresh⟩
def rAddAll (K : PySem.W.Frag) : R2 := fun x y H Q => (∃ i j, x = .int i ∧ y = .int j ∧ Q (.int (i + j)) H) ∨ (∃ i j, x = .str i ∧ y = .str j ∧ i.length + j.length ≤ sizeLine ∧ Q (.str (i ++ j)) H) ∨ rCatA K x y H Q ∨ rCatL K x y H Q
theorem op_addAll {X : Cx} : OpR X (binaryOp .Add) (rAddAll X.K) := op_add.or (op_add_str.or (op_catA.or op_catL))
def padd : PyData → PyData → M PyData
  | .int i, .int j => pure (.int (i + j))
  | .str i, .str j => do chk (i.length + j.length ≤ sizeLine); pure (.str (i ++ j))
  | .tuple xs, .tuple ys => do chk (xs.length + ys.length ≤ sizeLine); pure (.tuple (xs ++ ys))
  | .list xs, .list ys => do chk (xs.length + ys.length ≤ sizeLine); pure (.list (xs ++ ys))
  | _, _ => stuck
section
variable {K : PySem.W.Frag} {mg : Str → Option Value} {C : Ct} {F H : Hp} {cs : List PyData} {Q : VK}
/-- a new frozen object -/
theorem kE.new {d : PyData} {o : HO} (h : Res K mg C F H ((pure d : M PyData) cs) (kE K Q)) (s : Sub F H) (q : CupOk K C F H cs) (ho : RdO (some o) o) (r : ∀ p, H p = none → Rp K (upd F p o) (.ref p) d) : ∀ p, H p = none → Q (.ref p) (upd H p o) := fun p n => by
  have g : Grow C.c F H (upd F p o) (upd H p o) := Grow.alloc s n ho
  refine h _ _ g ?_ _ (r p n)
  unfold CupOk at q ⊢
  match e : C.c, q with
  | none, q => exact q
  | some a, q =>
    obtain ⟨n1, vs, e1, r1⟩ := q
    have hne : a ≠ p := fun z => by subst z; rw [n] at e1; cases e1
    exact ⟨by rw [upd_ne hne]; exact n1, vs, by rw [upd_ne hne]; exact e1, r1.mono g.le⟩
theorem kE.tup {ds : List PyData} {vs : List V} (h : Res K mg C F H ((pure (.tuple ds) : M PyData) cs) (kE K Q)) (s : Sub F H) (q : CupOk K C F H cs) (r : Rps K F vs ds) : ∀ p, H p = none → Q (.ref p) (upd H p (.tup vs)) :=
  kE.new h s q RdO.tup fun p n => .tup upd_same (r.mono (Le.fz (s.fresh n)))
theorem kE.lst {ds : List PyData} {vs : List V} (h : Res K mg C F H ((pure (.list ds) : M PyData) cs) (kE K Q)) (s : Sub F H) (q : CupOk K C F H cs) (r : Rps K F vs ds) : ∀ p, H p = none → Q (.ref p) (upd H p (.lst vs)) :=
  kE.new h s q RdO.lst fun p n => .lst (.inl upd_same) (r.mono (Le.fz (s.fresh n)))
theorem kE.val {d : PyData} {v : V} (h : Res K mg C F H ((pure d : M PyData) cs) (kE K Q)) (s : Sub F H) (q : CupOk K C F H cs) (r : Rp K F v d) : Q v H := Res.pure h s q v r
end
theorem padd_ok (K : PySem.W.Frag) : Op2 K padd (rAddAll K) := by
  intro mg C F H x y dx dy cs Q s q rx ry h
  cases rx <;> cases ry <;> first
    | exact h.elim
    | exact .inl ⟨_, _, rfl, rfl, kE.val h s q (.int _)⟩
    | (obtain ⟨c, h⟩ := Res.chk h; exact .inr (.inl ⟨_, _, rfl, rfl, c, kE.val h s q (.str _)⟩))
    | (rename_i a xs ds f r b ys es f2 r2
       obtain ⟨c, h⟩ := Res.chk h
       refine .inr (.inr (.inl ⟨a, b, xs, ys, rfl, rfl, f.sq s, f2.sq s, by rw [r.length, r2.length]; exact c, fun e => ?_, fun _ e => ?_, fun _ _ => ?_⟩))
       · subst e; cases r; exact kE.val h s q (.tup f2 r2)
       · subst e; cases r2; rw [List.append_nil] at h; exact kE.val h s q (.tup f r)
       · exact kE.tup h s q (r.append r2))
    | (rename_i a xs ds f r b ys es f2 r2
       obtain ⟨c, h⟩ := Res.chk h
       exact .inr (.inr (.inr ⟨a, b, xs, ys, rfl, rfl, f.sq s, f2.sq s, by rw [r.length, r2.length]; exact c, kE.lst h s q (r.append r2)⟩)))

/-! ### other arithmetic -/
def psub : PyData → PyData → M PyData
  | .int i, .int j => pure (.int (i - j))
  | _, _ => stuck
theorem psub_ok (K : PySem.W.Frag) : Op2 K psub (rI0 fun i j => .int (i - j)) := by
  intro mg C F H x y dx dy cs Q s q rx ry h
  cases rx <;> cases ry <;> first
    | exact h.elim
    | exact ⟨_, _, rfl, rfl, kE.val h s q (.int _)⟩
def pmod : PyData → PyData → M PyData
  | .int i, .int j => do chk (0 < j); pure (.int (i % j))
  | _, _ => stuck
theorem pmod_ok (K : PySem.W.Frag) : Op2 K pmod (rI (fun _ j => 0 < j) fun i j => .int (i % j)) := by
  intro mg C F H x y dx dy cs Q s q rx ry h
  cases rx <;> cases ry <;> first
    | exact h.elim
    | (obtain ⟨c, h⟩ := Res.chk h; exact ⟨_, _, rfl, rfl, c, kE.val h s q (.int _)⟩)
def pfdiv : PyData → PyData → M PyData
  | .int i, .int j => do chk (0 < j ∧ j < 1073741824); pure (.int (i / j))
  | _, _ => stuck
theorem pfdiv_ok (K : PySem.W.Frag) : Op2 K pfdiv (rI CDiv fun i j => .int (i / j)) := by
  intro mg C F H x y dx dy cs Q s q rx ry h
  cases rx <;> cases ry <;> first
    | exact h.elim
    | (obtain ⟨c, h⟩ := Res.chk h; exact ⟨_, _, rfl, rfl, c, kE.val h s q (.int _)⟩)
def ppow : PyData → PyData → M PyData
  | .int i, .int j => do chk (0 ≤ j ∧ j ≤ 1000000 ∧ i.natAbs < 2 ^ 64); pure (.int (i ^ j.toNat))
  | _, _ => stuck
theorem ppow_ok (K : PySem.W.Frag) : Op2 K ppow (rI CPow fun i j => .int (i ^ j.toNat)) := by
  intro mg C F H x y dx dy cs Q s q rx ry h
  cases rx <;> cases ry <;> first
    | exact h.elim
    | (obtain ⟨c, h⟩ := Res.chk h; exact ⟨_, _, rfl, rfl, c, kE.val h s q (.int _)⟩)
def pneg : PyData → M PyData
  | .int i => pure (.int (-i))
  | _ => stuck
theorem pneg_ok (K : PySem.W.Frag) : Op1 K pneg (rU fun i => .int (-i)) := by
  intro mg C F H x dx cs Q s q rx h
  cases rx <;> first
    | exact h.elim
    | exact ⟨_, rfl, kE.val h s q (.int _)⟩

/-! ### == != -/
mutual
theorem Rp.dp {K : PySem.W.Frag} {F H : Hp} (s : Sub F H) : ∀ {v : V} {d : PyData}, Rp K F v d → d.plain = true → Dp K H v d
  | _, _, .non, _ => .non
  | _, _, .bl b, _ => .bl b
  | _, _, .int i, _ => .int i
  | _, _, .str x, _ => .str x
  | _, _, .lst f r, h => .lst (f.sq s) (Rps.dp s r (by simpa [PyData.plain] using h))
  | _, _, .tup f r, h => .tup (f.sq s) (Rps.dp s r (by simpa [PyData.plain] using h))
  | _, _, .dK _ _, h => by simp [PyData.plain] at h
  | _, _, .dT _ _, h => by simp [PyData.plain] at h
theorem Rps.dp {K : PySem.W.Frag} {F H : Hp} (s : Sub F H) : ∀ {vs : List V} {ds : List PyData}, Rps K F vs ds → PyData.plainAll ds = true → DpAll K H vs ds
  | _, _, .nil, _ => .nil
  | _, _, .cons a r, h => by
    rw [PyData.plainAll, Bool.and_eq_true] at h
    exact .cons (Rp.dp s a h.1) (Rps.dp s r h.2)
end
def eqOk (d e : PyData) : Bool := d.plain && e.plain && decide (min d.depth e.depth ≤ 64)
def rEqP (K : PySem.W.Frag) : R2 := fun x y H Q => ∃ d e, Dp K H x d ∧ Dp K H y e ∧ eqOk d e = true ∧ Q (.bl (PyData.eqv d e)) H
def rNeP (K : PySem.W.Frag) : R2 := fun x y H Q => ∃ d e, Dp K H x d ∧ Dp K H y e ∧ eqOk d e = true ∧ Q (.bl (!PyData.eqv d e)) H
theorem eqOk_iff {d e : PyData} (h : eqOk d e = true) : d.plain = true ∧ e.plain = true ∧ min d.depth e.depth ≤ 64 := by
  simp only [eqOk, Bool.and_eq_true, decide_eq_true_eq] at h
  exact ⟨h.1.1, h.1.2, h.2⟩
theorem op_eqP {X : Cx} (hu : X.A.units + 64 < cLine) : OpR X (compareOp .Eq) (rEqP X.K) := by
  intro pins s σ H x y v u Q I rx ry h
  obtain ⟨d, e, hd, he, c, q⟩ := h
  obtain ⟨c1, c2, c3⟩ := eqOk_iff c
  obtain ⟨as, r1⟩ := Dp.reads I d x v hd rx
  obtain ⟨bs, r2⟩ := Dp.reads I e y u he ry
  exact SeqAt.eq_plain r1 r2 c1 c2 (by omega) ⟨.bl _, H, I, rfl, q⟩
theorem op_neP {X : Cx} (hu : X.A.units + 64 < cLine) : OpR X (compareOp .NotEq) (rNeP X.K) := by
  intro pins s σ H x y v u Q I rx ry h
  obtain ⟨d, e, hd, he, c, q⟩ := h
  obtain ⟨c1, c2, c3⟩ := eqOk_iff c
  obtain ⟨as, r1⟩ := Dp.reads I d x v hd rx
  obtain ⟨bs, r2⟩ := Dp.reads I e y u he ry
  exact SeqAt.ne_plain r1 r2 c1 c2 (by omega) ⟨.bl _, H, I, rfl, q⟩
def peq (d e : PyData) : M PyData := do chk (eqOk d e = true); pure (.bool (PyData.eqv d e))
def pne (d e : PyData) : M PyData := do chk (eqOk d e = true); pure (.bool (!PyData.eqv d e))
theorem peq_ok (K : PySem.W.Frag) : Op2 K peq (rEqP K) := by
  intro mg C F H x y dx dy cs Q s q rx ry h
  obtain ⟨c, h⟩ := Res.chk h
  obtain ⟨c1, c2, _⟩ := eqOk_iff c
  exact ⟨dx, dy, rx.dp s c1, ry.dp s c2, c, kE.val h s q (.bl _)⟩
theorem pne_ok (K : PySem.W.Frag) : Op2 K pne (rNeP K) := by
  intro mg C F H x y dx dy cs Q s q rx ry h
  obtain ⟨c, h⟩ := Res.chk h
  obtain ⟨c1, c2, _⟩ := eqOk_iff c
  exact ⟨dx, dy, rx.dp s c1, ry.dp s c2, c, kE.val h s q (.bl _)⟩

/-! ### < <= > >= of ints -/
def pcmp (p : Int → Int → Bool) : PyData → PyData → M PyData
  | .int i, .int j => pure (.bool (p i j))
  | _, _ => stuck
theorem pcmp_ok (K : PySem.W.Frag) (p : Int → Int → Bool) : Op2 K (pcmp p) (rI0 fun i j => .bl (p i j)) := by
  intro mg C F H x y dx dy cs Q s q rx ry h
  cases rx <;> cases ry <;> first
    | exact h.elim
    | exact ⟨_, _, rfl, rfl, kE.val h s q (.bl _)⟩
abbrev plt := pcmp fun i j => decide (i < j)
abbrev ple := pcmp fun i j => decide (i ≤ j)
abbrev pgt := pcmp fun i j => decide (j < i)
abbrev pge := pcmp fun i j => decide (j ≤ i)

/-! ### in, not in -/
def inOk (d : PyData) (ds : List PyData) : Bool := d.plain && PyData.plainAll ds && decide (min (PyData.depthAll ds) d.depth ≤ 63)
noncomputable def pinB (d e : PyData) : M Bool := match e with
  | .dict kvs => do chk (keyFits kvs d = true); pure (dGet kvs d).isSome
  | .list ds => do chk (inOk d ds = true); pure (ds.any fun z => PyData.eqv z d)
  | .tuple ds => do chk (inOk d ds = true); pure (ds.any fun z => PyData.eqv z d)
  | .str z => match d with
    | .str ⟨#[c]⟩ => pure (decide (c ∈ z.cps.toList))
    | _ => stuck
  | _ => stuck
noncomputable def pin (d e : PyData) : M PyData := do let b ← pinB d e; pure (.bool b)
noncomputable def pnin (d e : PyData) : M PyData := do let b ← pinB d e; pure (.bool (!b))
def rInP (K : PySem.W.Frag) (neg : Bool) : R2 := fun x y H Q => (∃ d ds, Dp K H x d ∧ (Dp K H y (.list ds) ∨ Dp K H y (.tuple ds)) ∧ inOk d ds = true ∧ Q (.bl (if neg then !(ds.any fun z => PyData.eqv z d) else ds.any fun z => PyData.eqv z d)) H) ∨
  (∃ (c : Nat) (z : Str), x = .str ⟨#[c]⟩ ∧ y = .str z ∧ Q (.bl (if neg then !decide (c ∈ z.cps.toList) else decide (c ∈ z.cps.toList))) H) ∨
  ∃ a o, y = .ref a ∧ DGet H a x o ∧ Q (.bl (if neg then !o.isSome else o.isSome)) H
theorem inOk_iff {d : PyData} {ds : List PyData} (h : inOk d ds = true) : d.plain = true ∧ PyData.plainAll ds = true ∧ min (PyData.depthAll ds) d.depth ≤ 63 := by
  simp only [inOk, Bool.and_eq_true, decide_eq_true_eq] at h
  exact ⟨h.1.1, h.1.2, h.2⟩
theorem op_inP {X : Cx} (hu : X.A.units + 64 < cLine) : OpR X (compareOp .In) (rInP X.K false) := by
  intro pins s σ H x y v u Q I rx ry h
  rcases h with ⟨d, ds, hd, he, c, q⟩ | h | ⟨a, o, rfl, g, q⟩
  · obtain ⟨c1, c2, c3⟩ := inOk_iff c
    obtain ⟨as, r1⟩ := Dp.reads I d x v hd rx
    rcases he with he | he
    · obtain ⟨bs, r2⟩ := Dp.reads I _ y u he ry
      exact SeqAt.in_list_data r2 r1 c2 c1 (by omega) ⟨.bl _, H, I, rfl, q⟩
    · obtain ⟨bs, r2⟩ := Dp.reads I _ y u he ry
      exact SeqAt.in_tuple_data r2 r1 c2 c1 (by omega) ⟨.bl _, H, I, rfl, q⟩
  · exact op_in_sign pins s σ H x y v u Q I rx ry h
  · cases ry; exact d_in (by omega) I g rx fun s3 I3 => ⟨.bl o.isSome, H, I3, rfl, q⟩
theorem op_ninP {X : Cx} (hu : X.A.units + 64 < cLine) : OpR X (compareOp .NotIn) (rInP X.K true) := by
  intro pins s σ H x y v u Q I rx ry h
  rcases h with ⟨d, ds, hd, he, c, q⟩ | h | ⟨a, o, rfl, g, q⟩
  · obtain ⟨c1, c2, c3⟩ := inOk_iff c
    obtain ⟨as, r1⟩ := Dp.reads I d x v hd rx
    rcases he with he | he
    · obtain ⟨bs, r2⟩ := Dp.reads I _ y u he ry
      exact SeqAt.notIn_list_data r2 r1 c2 c1 (by omega) ⟨.bl _, H, I, rfl, q⟩
    · obtain ⟨bs, r2⟩ := Dp.reads I _ y u he ry
      exact SeqAt.notIn_tuple_data r2 r1 c2 c1 (by omega) ⟨.bl _, H, I, rfl, q⟩
  · exact op_notIn_sign pins s σ H x y v u Q I rx ry h
  · cases ry; exact d_notIn (by omega) I g rx fun s3 I3 => ⟨.bl (!o.isSome), H, I3, rfl, q⟩
theorem pinB_ok {K : PySem.W.Frag} {mg : Str → Option Value} {C : Ct} {F H : Hp} {x y : V} {dx dy : PyData} {cs : List PyData} {Q : VK} (neg : Bool) (s : Sub F H) (q : CupOk K C F H cs) (rx : Rp K F x dx) (ry : Rp K F y dy)
    (h : Res K mg C F H ((do let b ← pinB dx dy; pure (.bool (if neg then !b else b)) : M PyData) cs) (kE K Q)) : rInP K neg x y H Q := by
  have dct : ∀ kvs, dy = .dict kvs → rInP K neg x y H Q := by
    intro kvs e
    subst e
    obtain ⟨a, rfl, _, hD⟩ := ry.dOk s
    obtain ⟨c, h1⟩ := Res.chk (f := fun _ => pure (dGet kvs dx).isSome) (Res.bind h)
    have h2 := Res.pure h1 s q
    obtain ⟨g1, g2⟩ := hD.get s rx c
    cases hd : dGet kvs dx with
    | none => exact .inr (.inr ⟨a, none, rfl, g1 hd, by rw [hd] at h2; exact kE.val h2 s q (.bl _)⟩)
    | some d =>
      obtain ⟨v, hv, _⟩ := g2 d hd
      exact .inr (.inr ⟨a, some v, rfl, hv, by rw [hd] at h2; exact kE.val h2 s q (.bl _)⟩)
  cases ry with
  | dK _ _ => exact dct _ rfl
  | dT _ _ => exact dct _ rfl
  | lst f r =>
    have h1 := Res.bind h
    rename_i a xs ds
    obtain ⟨c, h1⟩ := Res.chk (f := fun _ => pure (ds.any fun z => PyData.eqv z dx)) h1
    obtain ⟨c1, c2, _⟩ := inOk_iff c
    exact .inl ⟨dx, ds, rx.dp s c1, .inl ((Rp.lst f r).dp s (by simpa [PyData.plain] using c2)), c, kE.val (Res.pure h1 s q) s q (.bl _)⟩
  | tup f r =>
    have h1 := Res.bind h
    rename_i a xs ds
    obtain ⟨c, h1⟩ := Res.chk (f := fun _ => pure (ds.any fun z => PyData.eqv z dx)) h1
    obtain ⟨c1, c2, _⟩ := inOk_iff c
    exact .inl ⟨dx, ds, rx.dp s c1, .inr ((Rp.tup f r).dp s (by simpa [PyData.plain] using c2)), c, kE.val (Res.pure h1 s q) s q (.bl _)⟩
  | str z =>
    cases rx with
    | str w =>
      obtain ⟨⟨l⟩⟩ := w
      match l with
      | [c] => exact .inr (.inl ⟨c, z, rfl, rfl, kE.val (Res.pure (Res.bind h) s q) s q (.bl _)⟩)
      | [] => exact h.elim
      | _ :: _ :: _ => exact h.elim
    | _ => exact h.elim
  | _ => exact h.elim
theorem pin_ok (K : PySem.W.Frag) : Op2 K pin (rInP K false) := fun mg C F H x y dx dy cs Q s q rx ry h => pinB_ok false s q rx ry h
theorem pnin_ok (K : PySem.W.Frag) : Op2 K pnin (rInP K true) := fun mg C F H x y dx dy cs Q s q rx ry h => pinB_ok true s q rx ry h
end DL
end
section
set_option Elab.async false
set_option linter.all false
set_option maxRecDepth 100000
set_option maxHeartbeats 4000000
set_option autoImplicit false
namespace DL
open PySem PySem.Spec PyProof.Rows L2

section
variable {X : Cx} {C : Ct} {ρ : List Sl} {a b c e : Expr} {ma mb mc m : M PyData} {pos p : Pos}
/-! ### atoms -/
theorem fe_pure {K : PySem.W.Frag} {mg : Str → Option Value} {v : V} {d : PyData} {σ : St} {H : Hp} {Q : VK} (r : ∀ F, Rp K F v d) (h : tM K mg C ρ (pure d) σ H Q) : Q v H := by
  obtain ⟨F, cs, e, q, h⟩ := h
  exact kE.val h e.sub q (r F)
theorem fe_int {i : Int} {j : Nat} : FE X C ρ (.Constant (.int i) j pos) (pure (.int i)) := ⟨imE pe_int fun _ _ _ h => fe_pure (fun F => .int i) h⟩
theorem fe_bl {b : Bool} {j : Nat} : FE X C ρ (.Constant (.bool b) j pos) (pure (.bool b)) := ⟨imE pe_bl fun _ _ _ h => fe_pure (fun F => .bl b) h⟩
theorem fe_non {j : Nat} : FE X C ρ (.Constant .none j pos) (pure .none) := ⟨imE pe_non fun _ _ _ h => fe_pure (fun F => .non) h⟩
theorem fe_str {x : Str} {j : Nat} : FE X C ρ (.Constant (.str x) j pos) (pure (.str x)) := ⟨imE pe_str fun _ _ _ h => fe_pure (fun F => .str x) h⟩
theorem fe_name (i : Nat) {x : Str} {d : PyData} (hρ : ρ[i]? = some (.d d) := by rfl) (hN : X.N[i]? = some x := by rfl) (hv : Vis X.env.scope x := by first | exact Or.inl rfl | exact Or.inr (Or.inl rfl) | exact Or.inr (Or.inr rfl))
    (hd : (x == ("__debug__" : Str)) = false := by decide) (hcd : (x == ("__classdict__" : Str)) = false := by decide) : FE X C ρ (.Name x pos) (pure d) := by
  refine ⟨imE (pe_var hN hv hd hcd) fun σ H Q h => ?_⟩
  obtain ⟨F, cs, e, q, h⟩ := h
  obtain ⟨v, e1, r⟩ := e.sl i _ hρ
  exact ⟨v, e1, kE.val h e.sub q r⟩
/-- a module's constant -/
theorem fe_glob {x : Str} {u : Value} {v : V} {d : PyData} (hm : X.mg x = some u) (r : RelV v u) (rp : ∀ F, Rp X.K F v d) (hg : Gl X x := by rfl) (hd : (x == ("__debug__" : Str)) = false := by decide) : FE X C ρ (.Name x pos) (pure d) :=
  ⟨imE (pe_glob hg hm r hd) fun _ _ _ h => fe_pure rp h⟩

/-! ### a[i] -/
noncomputable def pidx : PyData → PyData → M PyData
  | .dict kvs, k => do chk (keyFits kvs k = true); match dGet kvs k with
    | some d => pure d
    | none => stuck
  | .list ds, .int i => match atI ds i with
    | some d => pure d
    | none => stuck
  | .tuple ds, .int i => match atI ds i with
    | some d => pure d
    | none => stuck
  | .str z, .int i => do chk (z.length ≤ sizeLine); match atI z.cps.toList i with
    | some c => pure (.str ⟨#[c]⟩)
    | none => stuck
  | _, _ => stuck
theorem Rps.atI {K : PySem.W.Frag} {F : Hp} {vs : List V} {ds : List PyData} {i : Int} {d : PyData} (r : Rps K F vs ds) (e : L2.atI ds i = some d) : ∃ v, L2.atI vs i = some v ∧ Rp K F v d := by
  unfold L2.atI at e ⊢
  rw [r.length]
  cases q : ixN ds.length i with
  | none => rw [q] at e; cases e
  | some j =>
    rw [q] at e
    exact r.get e
/-- d[k] too -/
def rIxAll (K : PySem.W.Frag) : R2 := fun x y H Q => rIx K x y H Q ∨ ∃ a v, x = .ref a ∧ DGet H a y (some v) ∧ Q v H
theorem ix_dct {X : Cx} (hu : X.A.units + 1 < cLine) : IxR X (fun x y H Q => ∃ a v, x = .ref a ∧ DGet H a y (some v) ∧ Q v H) := by
  intro value slice pins s σ H x y v u Q I rx ry h hs
  obtain ⟨a, v', rfl, g, q⟩ := h
  obtain rfl : v = Value.ref a := rx
  exact tail_any (dict_typeIs I g) PySem.F.slot_dict_getitem.lookup (d_getItem hu I g ry fun w' s3 I3 rw' => ⟨v', H, I3, rw', q⟩) hs
theorem ix_all {X : Cx} (hu : X.A.units + 64 < cLine) : IxR X (rIxAll X.K) := ix_seq.or (ix_dct (by omega))
theorem pidx_ok (K : PySem.W.Frag) : Op2 K pidx (rIxAll K) := by
  intro mg C F H x y dx dy cs Q s q rx ry h
  by_cases hdx : ∃ kvs, dx = .dict kvs
  · obtain ⟨kvs, rfl⟩ := hdx
    obtain ⟨a, rfl, _, hD⟩ := rx.dOk s
    unfold pidx at h
    obtain ⟨c, h1⟩ := Res.chk h
    obtain ⟨g1, g2⟩ := hD.get s ry c
    cases hd : dGet kvs dy with
    | none => rw [hd] at h1; exact h1.elim
    | some d =>
      rw [hd] at h1
      obtain ⟨v, hv, rv⟩ := g2 d hd
      exact .inr ⟨a, v, rfl, hv, kE.val h1 s q rv⟩
  refine .inl ?_
  cases ry with
  | int i =>
    cases rx with
    | lst f r =>
      rename_i a xs ds
      unfold pidx at h
      cases e : atI ds i with
      | none => simp only [e] at h; exact h.elim
      | some d =>
        simp only [e] at h
        obtain ⟨v, e1, rv⟩ := r.atI e
        exact .inl ⟨a, xs, i, v, rfl, rfl, f.sq s, e1, kE.val h s q rv⟩
    | tup f r =>
      rename_i a xs ds
      unfold pidx at h
      cases e : atI ds i with
      | none => simp only [e] at h; exact h.elim
      | some d =>
        simp only [e] at h
        obtain ⟨v, e1, rv⟩ := r.atI e
        exact .inr (.inl ⟨a, xs, i, v, rfl, rfl, f.sq s, e1, kE.val h s q rv⟩)
    | str z =>
      obtain ⟨hz, h⟩ := Res.chk h
      cases e : atI z.cps.toList i with
      | none => simp only [e] at h; exact h.elim
      | some c =>
        simp only [e] at h
        exact .inr (.inr ⟨z, i, c, rfl, rfl, hz, e, kE.val h s q (.str _)⟩)
    | dK _ _ => exact absurd ⟨_, rfl⟩ hdx
    | dT _ _ => exact absurd ⟨_, rfl⟩ hdx
    | _ => exact h.elim
  | _ => cases rx <;> first | exact h.elim | exact absurd ⟨_, rfl⟩ hdx
theorem fe_idx (hu : X.A.units + 64 < cLine) (ha : FE X C ρ a ma) (hb : FE X C ρ b mb) (hs : PlainIx b := by exact fun _ _ => rfl) : FE X C ρ (.Subscript a b pos) (do let x ← ma; let y ← mb; pidx x y) :=
  ⟨imE (pe_ix (ix_all hu) ha.pe hb.pe hs) fun σ H Q h => h.then2 fun F H x y dx dy cs s q rx ry h => pidx_ok _ _ _ F H x y dx dy cs Q s q rx ry h⟩

/-! ### slices -/
def cutP {α : Type} (xs : List α) (lo hi : Option Int) : List α := (xs.drop (HT.sIx xs.length 0 lo)).take (HT.sIx xs.length xs.length hi - HT.sIx xs.length 0 lo)
def pslice : PyData → Option Int → Option Int → M PyData
  | .list ds, lo, hi => pure (.list (cutP ds lo hi))
  | .tuple ds, lo, hi => pure (.tuple (cutP ds lo hi))
  | .str z, lo, hi => do chk (z.length ≤ sizeLine); pure (.str ⟨(cutP z.cps.toList lo hi).toArray⟩)
  | _, _, _ => stuck
theorem Rps.cut {K : PySem.W.Frag} {F : Hp} {vs : List V} {ds : List PyData} (r : Rps K F vs ds) (lo hi : Option Int) : Rps K F (cutV vs lo hi) (cutP ds lo hi) := by
  unfold cutV cutP
  rw [r.length]
  exact (r.drop _).take _
def asI : PyData → M Int
  | .int i => pure i
  | _ => stuck
structure FP (X : Cx) (C : Ct) (ρ : List Sl) (e : Option Expr) (m : M (Option Int)) : Prop where
  po : PO X e (fun σ H Q => ∃ F cs, EnvOk X.K X.mg C F H σ ρ ∧ CupOk X.K C F H cs ∧ Res X.K X.mg C F H (m cs) fun o _ _ H' => Q o H')
theorem imO {X : Cx} {e : Option Expr} {t t' : TO} (h : PO X e t) (i : ∀ σ H Q, t' σ H Q → t σ H Q) : PO X e t' := ⟨fun pins s σ H Q I w => h.run pins s σ H Q I (i σ H Q w)⟩
theorem fp_none : FP X C ρ none (pure none) := ⟨imO po_none fun σ H Q ⟨F, cs, e, q, h⟩ => Res.pure (mg := X.mg) h e.sub q⟩
theorem fp_some (h : FE X C ρ e m) : FP X C ρ (some e) (do let x ← m; let i ← asI x; pure (some i)) := by
  refine ⟨imO (po_some h.pe) fun σ H Q h => ?_⟩
  obtain ⟨F, cs, e, q, h⟩ := h
  refine ⟨F, cs, e, q, (Res.bind h).mono fun d cs1 F1 H1 g1 q1 h1 v rv => ?_⟩
  cases rv with
  | int i => exact ⟨i, rfl, Res.pure (mg := X.mg) h1 g1.sub q1⟩
  | _ => exact h1.elim
def rSlAll (K : PySem.W.Frag) : V → Option Int → Option Int → Hp → VK → Prop := fun x lo hi H Q => rSlL K x lo hi H Q ∨ rSlA K x lo hi H Q ∨ rSlS x lo hi H Q
theorem fe_slice {lo hi : Option Expr} {ml mh : M (Option Int)} {p2 : Pos} (ha : FE X C ρ a ma) (hl : FP X C ρ lo ml) (hh : FP X C ρ hi mh) : FE X C ρ (.Subscript a (.Slice lo hi none p2) pos) (do let x ← ma; let l ← ml; let h ← mh; pslice x l h) := by
  refine ⟨imE (pe_slice (r := rSlAll X.K) (sl_list.or (sl_tupA.or sl_str)) ha.pe hl.po hh.po) fun σ H Q h => ?_⟩
  obtain ⟨F, cs, e, q, h⟩ := h
  refine ⟨F, cs, e, q, (Res.bind h).mono fun d cs1 F1 H1 g1 q1 h1 v rv => ?_⟩
  refine ⟨F1, cs1, e.grow g1, q1, (Res.bind h1).mono fun l cs2 F2 H2 g2 q2 h2 => ?_⟩
  refine ⟨F2, cs2, (e.grow g1).grow g2, q2, (Res.bind h2).mono fun h cs3 F3 H3 g3 q3 h3 => ?_⟩
  have rv3 := rv.mono (g2.le.trans g3.le)
  have s3 := g3.sub
  cases rv3 with
  | lst f r => exact .inl ⟨_, _, rfl, f.sq s3, kE.lst h3 s3 q3 (r.cut l h)⟩
  | tup f r =>
    rename_i t xs ds
    refine .inr (.inl ⟨_, _, rfl, f.sq s3, fun w => ?_, fun _ => kE.tup h3 s3 q3 (r.cut l h)⟩)
    refine kE.val h3 s3 q3 (.tup f ?_)
    have e1 : cutV xs l h = xs := by unfold cutV; rw [w.1, w.2]; simp
    have e2 := r.cut l h
    rw [e1] at e2
    exact e2
  | str z =>
    obtain ⟨hz, h3⟩ := Res.chk h3
    exact .inr (.inr ⟨z, rfl, hz, kE.val h3 s3 q3 (.str _)⟩)
  | _ => exact h3.elim

/-! ### argument lists, displays -/
theorem Grow.free {c : Option Addr} {F H F' H' : Hp} (g : Grow c F H F' H') {p : Addr} (n : H' p = none) : H p = none := by
  cases e : H p with
  | none => rfl
  | some o => exact absurd n (g.ex p (by rw [e]; simp))
theorem Res.alloc {K : PySem.W.Frag} {mg : Str → Option Value} {F H : Hp} {r : Except Er (List PyData × List PyData)} {Q : VK} (h : Res K mg C F H r (kO K C H Q)) :
    Res K mg C F H r fun xs _ F1 H1 => ∀ p vs, H1 p = none → Rps K F1 vs xs → Q (.ref p) (upd H1 p (.lst vs)) := by
  match r, h with
  | .ok (xs, cs), h => exact fun F1 H1 g1 q1 p vs n rs => h F1 (upd H1 p (.lst vs)) (g1.updFresh (g1.free n) (g1.sub.fresh n)) (q1.upd (q1.ne n)) p vs (g1.free n) upd_same (g1.sub.fresh n) (q1.ne n) rs
  | .error (.exc nm fld), h => exact h
theorem fa_nil : FA X C ρ [] [] := ⟨imA pa_nil fun σ H Q ⟨F, cs, e, q, h⟩ => Res.pure (mg := X.mg) h e.sub q [] rfl .nil⟩
theorem fa_cons {es : List Expr} {ms : List (M PyData)} (h1 : FE X C ρ e m) (h2 : FA X C ρ es ms) (hs : starEach (e :: es) X.env = (false, eval e X.env) :: starEach es X.env := by rfl) : FA X C ρ (e :: es) (m :: ms) := by
  refine ⟨imA (pa_cons h1.pe h2.pa hs) fun σ H Q h => ?_⟩
  obtain ⟨F, cs, e, q, h⟩ := h
  refine ⟨F, cs, e, q, (Res.bind h).mono fun d cs1 F1 H1 g1 q1 h1 v rv => ?_⟩
  refine ⟨F1, cs1, e.grow g1, q1, (Res.bind h1).mono fun ds cs2 F2 H2 g2 q2 h2 vs hl rs => ?_⟩
  exact Res.pure (mg := X.mg) h2 g2.sub q2 (v :: vs) (by simp [hl]) (.cons (rv.mono g2.le) rs)
theorem fe_tup {es : List Expr} {ms : List (M PyData)} {k : Nat} (h : FA X C ρ es ms) (hz : ms.length ≤ sizeLine := by decide) : FE X C ρ (.Tuple es k pos) (do let xs ← runs ms; pure (.tuple xs)) := by
  refine ⟨imE (pe_tup h.pa) fun σ H Q h => ?_⟩
  obtain ⟨F, cs, e, q, h⟩ := h
  refine ⟨F, cs, e, q, (Res.bind h).mono fun ds cs1 F1 H1 g1 q1 h1 vs hl rs => ⟨by rw [rs.length, hl]; exact hz, kE.tup h1 g1.sub q1 rs⟩⟩
theorem fo_lst {es : List Expr} {ms : List (M PyData)} (h : FA X C ρ es ms) (hz : ms.length ≤ sizeLine := by decide) : FO X C ρ (.List es pos) (runs ms) := by
  refine ⟨imE (pe_lst h.pa) fun σ H Q h => ?_⟩
  obtain ⟨F, cs, e, q, h⟩ := h
  exact ⟨F, cs, e, q, h.alloc.mono fun ds cs1 F1 H1 g1 q1 h1 vs hl rs => ⟨by rw [rs.length, hl]; exact hz, fun p n => h1 p vs n rs⟩⟩
/-- a list of its own, taken as data -/
theorem fe_of {m : M (List PyData)} (h : FO X C ρ e m) : FE X C ρ e (do let xs ← m; pure (.list xs)) := by
  refine ⟨imE h.pe fun σ H Q h => ?_⟩
  obtain ⟨F, cs, e, q, h⟩ := h
  refine ⟨F, cs, e, q, ?_⟩
  rw [M.bind_run] at h
  match e2 : m cs, h with
  | .ok (xs, cs1), h =>
    intro F1 H1 g1 q1 a vs nH e1 nF ne rs
    exact h (L2.upd F1 a (.lst vs)) H1 (g1.freeze nH nF (by rw [e1]; exact RdO.lst)) (q1.fz nF ne) _ (.lst (.inl upd_same) (rs.mono (Le.fz nF)))
  | .error (.exc nm fld), h => exact h
end
end DL
end
section
set_option Elab.async false
set_option linter.all false
set_option maxRecDepth 100000
set_option maxHeartbeats 4000000
set_option autoImplicit false
namespace DL
open PySem PySem.Spec PyProof.Rows L2

/-! ### built-in calls -/
section
variable {X : Cx} {C : Ct} {ρ : List Sl} {a b c e : Expr} {ma mb mc m : M PyData} {pos p : Pos} {x : Str}
theorem runs1 {f : List PyData → M PyData} : (do let d ← m; f [d]) = (do let ds ← runs [m]; f ds) := by simp [runs]
theorem runs2 {f : List PyData → M PyData} : (do let d ← ma; let e ← mb; f [d, e]) = (do let ds ← runs [ma, mb]; f ds) := by simp [runs]
def OpN (K : PySem.W.Frag) (f : List PyData → M PyData) (r : List V → Hp → VK → Prop) : Prop := ∀ (mg : Str → Option Value) (C : Ct) (F H : Hp) (vs : List V) (ds : List PyData) (cs : List PyData) (Q : VK), Sub F H → CupOk K C F H cs → Rps K F vs ds →
  Res K mg C F H (f ds cs) (kE K Q) → r vs H Q
theorem tA_then {K : PySem.W.Frag} {mg : Str → Option Value} {ms : List (M PyData)} {f : List PyData → M PyData} {k : List V → Hp → VK → Prop} {σ : St} {H : Hp} {Q : VK} (h : tM K mg C ρ (do let ds ← runs ms; f ds) σ H Q)
    (hop : ∀ F H vs ds cs, Sub F H → EnvOk K mg C F H σ ρ → CupOk K C F H cs → ds.length = ms.length → Rps K F vs ds → Res K mg C F H (f ds cs) (kE K Q) → k vs H Q) : tAm K mg C ρ ms σ H fun vs H1 => k vs H1 Q := by
  obtain ⟨F, cs, e, q, h⟩ := h
  exact ⟨F, cs, e, q, (Res.bind h).mono fun ds cs1 F1 H1 g1 q1 h1 vs hl rs => hop F1 H1 vs ds cs1 g1.sub (e.grow g1) q1 hl rs h1⟩
theorem fe_callB {id : String} {r : List V → Hp → VK → Prop} {f : List PyData → M PyData} {es : List Expr} {ms : List (M PyData)} (hc : CallR X (.builtin id) r) (hf : OpN X.K f r) (hm : X.mg x = none) (hv : bootBuiltins x = some (.builtin id)) (ha : FA X C ρ (e :: es) ms)
    (hg : Gl X x := by rfl) (hn : x ≠ "__name__" := by decide) (hdb : (x == ("__debug__" : Str)) = false := by decide)
    (he : starEach (e :: es) X.env = (false, eval e X.env) :: starEach es X.env := by rfl) (hpl : (backTo pos (starEach es X.env)).any (·.1) = false := by rfl) : FE X C ρ (.Call (.Name x p) (e :: es) [] pos) (do let ds ← runs ms; f ds) :=
  ⟨imE (pe_callB hc hg hm hv ha.pa hn hdb he hpl) fun σ H Q h => tA_then (k := r) h fun F H vs ds cs s _ q _ rs h => hf _ _ F H vs ds cs Q s q rs h⟩
theorem fe_callTy {T : String} {r : List V → Hp → VK → Prop} {f : List PyData → M PyData} {es : List Expr} {ms : List (M PyData)} (hc : CallR X (.type T) r) (hf : OpN X.K f r) (hm : X.mg x = none) (hv : bootBuiltins x = some (.type T)) (ha : FA X C ρ (e :: es) ms)
    (hg : Gl X x := by rfl) (hn : x ≠ "__name__" := by decide) (hdb : (x == ("__debug__" : Str)) = false := by decide)
    (he : starEach (e :: es) X.env = (false, eval e X.env) :: starEach es X.env := by rfl) (hpl : (backTo pos (starEach es X.env)).any (·.1) = false := by rfl) : FE X C ρ (.Call (.Name x p) (e :: es) [] pos) (do let ds ← runs ms; f ds) :=
  ⟨imE (pe_callTy hc hg hm hv ha.pa hn hdb he hpl) fun σ H Q h => tA_then (k := r) h fun F H vs ds cs s _ q _ rs h => hf _ _ F H vs ds cs Q s q rs h⟩
/-- functions of one, of two items as functions of the list -/
def f1 (f : PyData → M PyData) : List PyData → M PyData
  | [d] => f d
  | _ => stuck
def f2 (f : PyData → PyData → M PyData) : List PyData → M PyData
  | [d, e] => f d e
  | _ => stuck
theorem op1 {K : PySem.W.Frag} {f : PyData → M PyData} {r : List V → Hp → VK → Prop} (h : ∀ (mg : Str → Option Value) (C : Ct) (F H : Hp) (v : V) (d : PyData) (cs : List PyData) (Q : VK), Sub F H → CupOk K C F H cs → Rp K F v d → Res K mg C F H (f d cs) (kE K Q) → r [v] H Q) : OpN K (f1 f) r := by
  intro mg C F H vs ds cs Q s q rs w
  match rs, w with
  | .cons a .nil, w => exact h mg C F H _ _ cs Q s q a w
  | .nil, w => exact w.elim
  | .cons _ (.cons _ _), w => exact w.elim
theorem op2 {K : PySem.W.Frag} {f : PyData → PyData → M PyData} {r : List V → Hp → VK → Prop} (h : ∀ (mg : Str → Option Value) (C : Ct) (F H : Hp) (v u : V) (d e : PyData) (cs : List PyData) (Q : VK), Sub F H → CupOk K C F H cs → Rp K F v d → Rp K F u e → Res K mg C F H (f d e cs) (kE K Q) → r [v, u] H Q) : OpN K (f2 f) r := by
  intro mg C F H vs ds cs Q s q rs w
  match rs, w with
  | .cons a (.cons b .nil), w => exact h mg C F H _ _ _ _ cs Q s q a b w
  | .nil, w => exact w.elim
  | .cons _ .nil, w => exact w.elim
  | .cons _ (.cons _ (.cons _ _)), w => exact w.elim
theorem fe_callB1 {id : String} {r : List V → Hp → VK → Prop} {f : PyData → M PyData} (hc : CallR X (.builtin id) r) (hf : OpN X.K (f1 f) r) (hm : X.mg x = none) (hv : bootBuiltins x = some (.builtin id)) (ha : FE X C ρ a ma)
    (hg : Gl X x := by rfl) (hn : x ≠ "__name__" := by decide) (hdb : (x == ("__debug__" : Str)) = false := by decide)
    (hs : starEach [a] X.env = (false, eval a X.env) :: starEach [] X.env := by rfl) : FE X C ρ (.Call (.Name x p) [a] [] pos) (do let d ← ma; f d) := by
  have h := fe_callB (p := p) (pos := pos) hc hf hm hv (fa_cons ha fa_nil hs) hg hn hdb hs rfl
  rw [← runs1 (f := f1 f)] at h
  exact h
theorem fe_callTy1 {T : String} {r : List V → Hp → VK → Prop} {f : PyData → M PyData} (hc : CallR X (.type T) r) (hf : OpN X.K (f1 f) r) (hm : X.mg x = none) (hv : bootBuiltins x = some (.type T)) (ha : FE X C ρ a ma)
    (hg : Gl X x := by rfl) (hn : x ≠ "__name__" := by decide) (hdb : (x == ("__debug__" : Str)) = false := by decide)
    (hs : starEach [a] X.env = (false, eval a X.env) :: starEach [] X.env := by rfl) : FE X C ρ (.Call (.Name x p) [a] [] pos) (do let d ← ma; f d) := by
  have h := fe_callTy (p := p) (pos := pos) hc hf hm hv (fa_cons ha fa_nil hs) hg hn hdb hs rfl
  rw [← runs1 (f := f1 f)] at h
  exact h
theorem fe_callB2 {id : String} {r : List V → Hp → VK → Prop} {f : PyData → PyData → M PyData} (hc : CallR X (.builtin id) r) (hf : OpN X.K (f2 f) r) (hm : X.mg x = none) (hv : bootBuiltins x = some (.builtin id)) (ha : FE X C ρ a ma) (hb : FE X C ρ b mb)
    (hg : Gl X x := by rfl) (hn : x ≠ "__name__" := by decide) (hdb : (x == ("__debug__" : Str)) = false := by decide)
    (hs : starEach [a, b] X.env = (false, eval a X.env) :: starEach [b] X.env := by rfl) (hs2 : starEach [b] X.env = (false, eval b X.env) :: starEach [] X.env := by rfl)
    (hpl : (backTo pos (starEach [b] X.env)).any (·.1) = false := by rfl) : FE X C ρ (.Call (.Name x p) [a, b] [] pos) (do let d ← ma; let e ← mb; f d e) := by
  have h := fe_callB (p := p) (pos := pos) hc hf hm hv (fa_cons ha (fa_cons hb fa_nil hs2) hs) hg hn hdb hs hpl
  rw [← runs2 (f := f2 f)] at h
  exact h

/-! len -/
def rLenD : List V → Hp → VK → Prop := fun xs H Q => ∃ (a : Addr) (n : Nat), xs = [.ref a] ∧ ((∃ kvs, Rd H a (.dK kvs) ∧ kvs.length = n) ∨ ∃ kvs, Rd H a (.dT kvs) ∧ kvs.length = n) ∧ Q (.int (n : Nat)) H
theorem call_lenD2 {X : Cx} : CallR X (.builtin "len") rLenD := by
  intro pins s σ H xs us Q I r h
  obtain ⟨a, n, rfl, h, q⟩ := h
  obtain ⟨u, rfl, ru⟩ := vals1 r
  obtain rfl : u = .ref a := ru
  rcases h with ⟨kvs, ha, rfl⟩ | ⟨kvs, hp, rfl⟩
  · exact d_len I ha fun t s' I' => ⟨.int kvs.length, H, I', ⟨t, rfl⟩, q⟩
  · obtain ⟨z, hd, ys, rel, dd⟩ := dt_rd I.hok hp
    have hl : kvs.length = ys.length := Paired.length rel
    refine call_len_dictH hd dd (by rw [← hl]; rw [sizeLine_eq] at z; omega) ?_
    rw [← hl]
    exact ⟨.int ((kvs.length : Nat) : Int), H, I.tok _, ⟨_, rfl⟩, q⟩
def plen : PyData → M PyData
  | .dict kvs => pure (.int kvs.length)
  | .list ds => pure (.int ds.length)
  | .tuple ds => pure (.int ds.length)
  | .str z => do chk (z.length ≤ sizeLine); pure (.int z.length)
  | _ => stuck
theorem fe_len (hm : X.mg "len" = none) (ha : FE X C ρ a ma) (hg : Gl X "len" := by rfl) (hs : starEach [a] X.env = (false, eval a X.env) :: starEach [] X.env := by rfl) : FE X C ρ (.Call (.Name "len" p) [a] [] pos) (do let d ← ma; plen d) := by
  refine fe_callB1 (call_len.or call_lenD2) (op1 fun mg C F H v d cs Q s q r h => ?_) hm PySem.boot_len ha hg (by decide) (by decide) hs
  cases r with
  | lst f r => exact .inl ⟨_, _, rfl, .inl ⟨_, f.sq s, r.length.symm⟩, kE.val h s q (.int _)⟩
  | tup f r => exact .inl ⟨_, _, rfl, .inr ⟨_, f.sq s, r.length.symm⟩, kE.val h s q (.int _)⟩
  | dK f r => exact .inr ⟨_, _, rfl, .inl ⟨_, .inr ⟨_, s _ _ f⟩, (rpK_pk r).length⟩, kE.val h s q (.int _)⟩
  | dT f r => exact .inr ⟨_, _, rfl, .inr ⟨_, .inr ⟨_, s _ _ f⟩, (rpT_pk r).length⟩, kE.val h s q (.int _)⟩
  | str z =>
    obtain ⟨hz, h⟩ := Res.chk h
    exact .inl ⟨_, _, rfl, ⟨hz, rfl⟩, kE.val h s q (.int _)⟩
  | _ => exact h.elim
/-! tuple(xs), list(xs) -/
def ptuple : PyData → M PyData
  | .list ds => pure (.tuple ds)
  | .tuple ds => pure (.tuple ds)
  | _ => stuck
theorem fe_tuple (hm : X.mg "tuple" = none) (ha : FE X C ρ a ma) (hg : Gl X "tuple" := by rfl) (hs : starEach [a] X.env = (false, eval a X.env) :: starEach [] X.env := by rfl) : FE X C ρ (.Call (.Name "tuple" p) [a] [] pos) (do let d ← ma; ptuple d) := by
  refine fe_callTy1 call_tuple_of (op1 fun mg C F H v d cs Q s q r h => ?_) hm (by decide +kernel) ha hg (by decide) (by decide) hs
  cases r with
  | lst f r => exact ⟨_, _, rfl, .inl ⟨f.sq s, kE.tup h s q r⟩⟩
  | tup f r => exact ⟨_, _, rfl, .inr ⟨f.sq s, kE.val h s q (.tup f r)⟩⟩
  | _ => exact h.elim
def seqOf : PyData → M (List PyData)
  | .list ds => pure ds
  | .tuple ds => pure ds
  | _ => stuck
theorem fo_list (hm : X.mg "list" = none) (ha : FE X C ρ a ma) (hg : Gl X "list" := by rfl) (hs : starEach [a] X.env = (false, eval a X.env) :: starEach [] X.env := by rfl) : FO X C ρ (.Call (.Name "list" p) [a] [] pos) (do let d ← ma; seqOf d) := by
  have pa : PA X [a] (tCons (tM X.K X.mg C ρ ma) tNil) := pa_cons ha.pe pa_nil hs
  refine ⟨imE (pe_callTy call_list_of hg hm (by decide +kernel) pa (by decide) (by decide) hs rfl) fun σ H Q h => ?_⟩
  obtain ⟨F, cs, e, q, h⟩ := h
  refine ⟨F, cs, e, q, (Res.bind h.alloc).mono fun d cs1 F1 H1 g1 q1 h1 v rv => ?_⟩
  cases rv with
  | lst f r => exact ⟨_, _, rfl, .inl (f.sq g1.sub), fun l n => Res.pure (mg := X.mg) h1 g1.sub q1 l _ n r⟩
  | tup f r => exact ⟨_, _, rfl, .inr (f.sq g1.sub), fun l n => Res.pure (mg := X.mg) h1 g1.sub q1 l _ n r⟩
  | _ => exact h1.elim
/-! int(n), abs(n), min, max of two -/
def pint : PyData → M PyData
  | .int i => pure (.int i)
  | .bool b => pure (.int (if b then 1 else 0))
  | _ => stuck
theorem fe_intOf (hm : X.mg "int" = none) (ha : FE X C ρ a ma) (hg : Gl X "int" := by rfl) (hs : starEach [a] X.env = (false, eval a X.env) :: starEach [] X.env := by rfl) : FE X C ρ (.Call (.Name "int" p) [a] [] pos) (do let d ← ma; pint d) := by
  refine fe_callTy1 call_int1 (op1 fun mg C F H v d cs Q s q r h => ?_) hm (by decide +kernel) ha hg (by decide) (by decide) hs
  cases r with
  | int i => exact .inl ⟨_, rfl, kE.val h s q (.int _)⟩
  | bl b => exact .inr ⟨_, rfl, kE.val h s q (.int _)⟩
  | _ => exact h.elim
def pabs : PyData → M PyData
  | .int i => pure (.int (if i < 0 then -i else i))
  | _ => stuck
theorem fe_abs (hm : X.mg "abs" = none) (ha : FE X C ρ a ma) (hg : Gl X "abs" := by rfl) (hs : starEach [a] X.env = (false, eval a X.env) :: starEach [] X.env := by rfl) : FE X C ρ (.Call (.Name "abs" p) [a] [] pos) (do let d ← ma; pabs d) := by
  refine fe_callB1 call_abs (op1 fun mg C F H v d cs Q s q r h => ?_) hm (by decide +kernel) ha hg (by decide) (by decide) hs
  cases r with
  | int i => exact ⟨_, rfl, kE.val h s q (.int _)⟩
  | _ => exact h.elim
def pmin2 : PyData → PyData → M PyData
  | .int i, .int j => pure (.int (if j < i then j else i))
  | _, _ => stuck
def pmax2 : PyData → PyData → M PyData
  | .int i, .int j => pure (.int (if j > i then j else i))
  | _, _ => stuck
theorem fe_min2 (hc : X.calm = true) (hm : X.mg "min" = none) (ha : FE X C ρ a ma) (hb : FE X C ρ b mb) (hg : Gl X "min" := by rfl) (hs : starEach [a, b] X.env = (false, eval a X.env) :: starEach [b] X.env := by rfl) (hs2 : starEach [b] X.env = (false, eval b X.env) :: starEach [] X.env := by rfl)
    (hpl : (backTo pos (starEach [b] X.env)).any (·.1) = false := by rfl) : FE X C ρ (.Call (.Name "min" p) [a, b] [] pos) (do let d ← ma; let e ← mb; pmin2 d e) := by
  refine fe_callB2 (call_min2 hc) (op2 fun mg C F H v u d e cs Q s q r r2 h => ?_) hm (by decide +kernel) ha hb hg (by decide) (by decide) hs hs2 hpl
  cases r with
  | int i => cases r2 with
    | int j => exact ⟨_, _, rfl, kE.val h s q (.int _)⟩
    | _ => exact h.elim
  | _ => exact h.elim
theorem fe_max2 (hc : X.calm = true) (hm : X.mg "max" = none) (ha : FE X C ρ a ma) (hb : FE X C ρ b mb) (hg : Gl X "max" := by rfl) (hs : starEach [a, b] X.env = (false, eval a X.env) :: starEach [b] X.env := by rfl) (hs2 : starEach [b] X.env = (false, eval b X.env) :: starEach [] X.env := by rfl)
    (hpl : (backTo pos (starEach [b] X.env)).any (·.1) = false := by rfl) : FE X C ρ (.Call (.Name "max" p) [a, b] [] pos) (do let d ← ma; let e ← mb; pmax2 d e) := by
  refine fe_callB2 (call_max2 hc) (op2 fun mg C F H v u d e cs Q s q r r2 h => ?_) hm (by decide +kernel) ha hb hg (by decide) (by decide) hs hs2 hpl
  cases r with
  | int i => cases r2 with
    | int j => exact ⟨_, _, rfl, kE.val h s q (.int _)⟩
    | _ => exact h.elim
  | _ => exact h.elim
/-! all, any, sum of a list -/
def boolsOf : List PyData → Option (List Bool)
  | [] => some []
  | .bool b :: ds => (boolsOf ds).map (b :: ·)
  | _ :: _ => none
def intsOf : List PyData → Option (List Int)
  | [] => some []
  | .int b :: ds => (intsOf ds).map (b :: ·)
  | _ :: _ => none
def strsOf : List PyData → Option (List Str)
  | [] => some []
  | .str b :: ds => (strsOf ds).map (b :: ·)
  | _ :: _ => none
@[simp] theorem boolsOf_map (bs : List Bool) : boolsOf (bs.map .bool) = some bs := by
  induction bs with
  | nil => rfl
  | cons b bs ih => simp [boolsOf, ih]
@[simp] theorem intsOf_map (bs : List Int) : intsOf (bs.map .int) = some bs := by
  induction bs with
  | nil => rfl
  | cons b bs ih => simp [intsOf, ih]
@[simp] theorem strsOf_map (bs : List Str) : strsOf (bs.map .str) = some bs := by
  induction bs with
  | nil => rfl
  | cons b bs ih => simp [strsOf, ih]
theorem Rps.bools {K : PySem.W.Frag} {F : Hp} : ∀ {vs : List V} {ds : List PyData} {bs : List Bool}, Rps K F vs ds → boolsOf ds = some bs → vs = bs.map V.bl
  | _, _, _, .nil, e => by cases e; rfl
  | _, _, _, .cons a r, e => by
    cases a with
    | bl b =>
      simp only [boolsOf, Option.map_eq_some_iff] at e
      obtain ⟨bs, e, rfl⟩ := e
      rw [Rps.bools r e]
      rfl
    | _ => cases e
theorem Rps.intsOf {K : PySem.W.Frag} {F : Hp} : ∀ {vs : List V} {ds : List PyData} {bs : List Int}, Rps K F vs ds → DL.intsOf ds = some bs → vs = bs.map V.int
  | _, _, _, .nil, e => by cases e; rfl
  | _, _, _, .cons a r, e => by
    cases a with
    | int b =>
      simp only [DL.intsOf, Option.map_eq_some_iff] at e
      obtain ⟨bs, e, rfl⟩ := e
      rw [Rps.intsOf r e]
      rfl
    | _ => cases e
theorem Rps.strsOf {K : PySem.W.Frag} {F : Hp} : ∀ {vs : List V} {ds : List PyData} {bs : List Str}, Rps K F vs ds → DL.strsOf ds = some bs → vs = bs.map V.str
  | _, _, _, .nil, e => by cases e; rfl
  | _, _, _, .cons a r, e => by
    cases a with
    | str b =>
      simp only [DL.strsOf, Option.map_eq_some_iff] at e
      obtain ⟨bs, e, rfl⟩ := e
      rw [Rps.strsOf r e]
      rfl
    | _ => cases e
def optM {α : Type} : Option α → M α
  | some x => pure x
  | none => stuck
@[simp] theorem optM_some {α : Type} (x : α) : optM (some x) = pure x := rfl
theorem Res.opt {K : PySem.W.Frag} {mg : Str → Option Value} {F H : Hp} {cs : List PyData} {α β : Type} {o : Option α} {f : α → M β} {k : β → List PyData → Hp → Hp → Prop} (h : Res K mg C F H ((optM o >>= f) cs) k) : ∃ x, o = some x ∧ Res K mg C F H (f x cs) k := by
  cases o with
  | none => exact h.elim
  | some x => exact ⟨x, rfl, h⟩
def pall : PyData → M PyData
  | .list ds => do let bs ← optM (boolsOf ds); pure (.bool (bs.all id))
  | _ => stuck
def pany : PyData → M PyData
  | .list ds => do let bs ← optM (boolsOf ds); pure (.bool (bs.any id))
  | _ => stuck
def psum : PyData → M PyData
  | .list ds => do let bs ← optM (intsOf ds); pure (.int bs.sum)
  | _ => stuck
theorem fe_all (hc : X.calm = true) (hm : X.mg "all" = none) (ha : FE X C ρ a ma) (hg : Gl X "all" := by rfl) (hs : starEach [a] X.env = (false, eval a X.env) :: starEach [] X.env := by rfl) : FE X C ρ (.Call (.Name "all" p) [a] [] pos) (do let d ← ma; pall d) := by
  refine fe_callB1 (cr_all hc) (op1 fun mg C F H v d cs Q s q r h => ?_) hm (by decide +kernel) ha hg (by decide) (by decide) hs
  cases r with
  | lst f r =>
    obtain ⟨bs, e, h⟩ := Res.opt h
    have f' := f.sq s
    rw [r.bools e] at f'
    exact ⟨_, bs, rfl, f', kE.val h s q (.bl _)⟩
  | _ => exact h.elim
theorem fe_any (hc : X.calm = true) (hm : X.mg "any" = none) (ha : FE X C ρ a ma) (hg : Gl X "any" := by rfl) (hs : starEach [a] X.env = (false, eval a X.env) :: starEach [] X.env := by rfl) : FE X C ρ (.Call (.Name "any" p) [a] [] pos) (do let d ← ma; pany d) := by
  refine fe_callB1 (cr_any hc) (op1 fun mg C F H v d cs Q s q r h => ?_) hm (by decide +kernel) ha hg (by decide) (by decide) hs
  cases r with
  | lst f r =>
    obtain ⟨bs, e, h⟩ := Res.opt h
    have f' := f.sq s
    rw [r.bools e] at f'
    exact ⟨_, bs, rfl, f', kE.val h s q (.bl _)⟩
  | _ => exact h.elim
theorem fe_sum (hc : X.calm = true) (hm : X.mg "sum" = none) (ha : FE X C ρ a ma) (hg : Gl X "sum" := by rfl) (hs : starEach [a] X.env = (false, eval a X.env) :: starEach [] X.env := by rfl) : FE X C ρ (.Call (.Name "sum" p) [a] [] pos) (do let d ← ma; psum d) := by
  refine fe_callB1 (cr_sum hc) (op1 fun mg C F H v d cs Q s q r h => ?_) hm (by decide +kernel) ha hg (by decide) (by decide) hs
  cases r with
  | lst f r =>
    obtain ⟨bs, e, h⟩ := Res.opt h
    have f' := f.sq s
    rw [r.intsOf e] at f'
    exact ⟨_, bs, rfl, f', kE.val h s q (.int _)⟩
  | _ => exact h.elim
/-! isinstance(x, T) -/
def tyName : PyData → String
  | .none => "NoneType"
  | .bool _ => "bool"
  | .int _ => "int"
  | .str _ => "str"
  | .list _ => "list"
  | .tuple _ => "tuple"
  | .dict _ => "dict"
def isT (T : String) (d : PyData) : Bool := (kitB (tyName d) T).getD false
def pisT (T : String) : PyData → M PyData
  | .dict _ => stuck
  | d => pure (.bool (isT T d))
theorem SqL.kTy {K : PySem.W.Frag} {H : Hp} {a : Addr} {xs : List V} (h : SqL K H a xs) : TyX K H (.ref a) (.type "list") := by
  rcases h with (h | ⟨o, h⟩) | ⟨o, its, n, h1, h2, _⟩
  · exact .base (.lst h)
  · exact .base (.frz h)
  · exact .kList h1 h2
theorem SqT.kTy {K : PySem.W.Frag} {H : Hp} {a : Addr} {xs : List V} (h : SqT K H a xs) : TyX K H (.ref a) (.type "tuple") := by
  rcases h with (h | ⟨o, h⟩) | ⟨o, its, n, h1, h2, _⟩
  · exact .base (.tup h)
  · exact .fTuple h
  · exact .kTuple h1 h2
theorem Rp.ty {K : PySem.W.Frag} {F H : Hp} {v : V} {d : PyData} (r : Rp K F v d) (s : Sub F H) (n : ∀ kvs, d ≠ .dict kvs) : TyX K H v (.type (tyName d)) := by
  cases r with
  | non => exact .base .non
  | bl b => exact .base (.bl b)
  | int i => exact .base (.int i)
  | str z => exact .base (.str z)
  | lst f r => exact SqL.kTy (f.sq s)
  | tup f r => exact SqT.kTy (f.sq s)
  | dK f r => exact absurd rfl (n _)
  | dT f r => exact absurd rfl (n _)
theorem kit7 {T n : String} (hT : T = "int" ∨ T = "bool" ∨ T = "str" ∨ T = "tuple" ∨ T = "list" ∨ T = "dict") (hn : n = "NoneType" ∨ n = "bool" ∨ n = "int" ∨ n = "str" ∨ n = "list" ∨ n = "tuple" ∨ n = "dict") : kitB n T = some ((kitB n T).getD false) := by
  rcases hT with rfl | rfl | rfl | rfl | rfl | rfl <;> rcases hn with rfl | rfl | rfl | rfl | rfl | rfl | rfl <;> decide +kernel
theorem isT_ok {T : String} (hT : T = "int" ∨ T = "bool" ∨ T = "str" ∨ T = "tuple" ∨ T = "list" ∨ T = "dict") (d : PyData) : kitB (tyName d) T = some (isT T d) := kit7 hT (by cases d <;> simp [tyName])
@[simp] theorem isT_int_nonetype : isT "int" .none = false := by show (kitB "NoneType" "int").getD false = false; decide +kernel
@[simp] theorem isT_int_bool (b : Bool) : isT "int" (.bool b) = true := by show (kitB "bool" "int").getD false = true; decide +kernel
@[simp] theorem isT_int_int (i : Int) : isT "int" (.int i) = true := by show (kitB "int" "int").getD false = true; decide +kernel
@[simp] theorem isT_int_str (x : Str) : isT "int" (.str x) = false := by show (kitB "str" "int").getD false = false; decide +kernel
@[simp] theorem isT_int_list (xs : List PyData) : isT "int" (.list xs) = false := by show (kitB "list" "int").getD false = false; decide +kernel
@[simp] theorem isT_int_tuple (xs : List PyData) : isT "int" (.tuple xs) = false := by show (kitB "tuple" "int").getD false = false; decide +kernel
@[simp] theorem isT_bool_nonetype : isT "bool" .none = false := by show (kitB "NoneType" "bool").getD false = false; decide +kernel
@[simp] theorem isT_bool_bool (b : Bool) : isT "bool" (.bool b) = true := by show (kitB "bool" "bool").getD false = true; decide +kernel
@[simp] theorem isT_bool_int (i : Int) : isT "bool" (.int i) = false := by show (kitB "int" "bool").getD false = false; decide +kernel
@[simp] theorem isT_bool_str (x : Str) : isT "bool" (.str x) = false := by show (kitB "str" "bool").getD false = false; decide +kernel
@[simp] theorem isT_bool_list (xs : List PyData) : isT "bool" (.list xs) = false := by show (kitB "list" "bool").getD false = false; decide +kernel
@[simp] theorem isT_bool_tuple (xs : List PyData) : isT "bool" (.tuple xs) = false := by show (kitB "tuple" "bool").getD false = false; decide +kernel
@[simp] theorem isT_str_nonetype : isT "str" .none = false := by show (kitB "NoneType" "str").getD false = false; decide +kernel
@[simp] theorem isT_str_bool (b : Bool) : isT "str" (.bool b) = false := by show (kitB "bool" "str").getD false = false; decide +kernel
@[simp] theorem isT_str_int (i : Int) : isT "str" (.int i) = false := by show (kitB "int" "str").getD false = false; decide +kernel
@[simp] theorem isT_str_str (x : Str) : isT "str" (.str x) = true := by show (kitB "str" "str").getD false = true; decide +kernel
@[simp] theorem isT_str_list (xs : List PyData) : isT "str" (.list xs) = false := by show (kitB "list" "str").getD false = false; decide +kernel
@[simp] theorem isT_str_tuple (xs : List PyData) : isT "str" (.tuple xs) = false := by show (kitB "tuple" "str").getD false = false; decide +kernel
@[simp] theorem isT_tuple_nonetype : isT "tuple" .none = false := by show (kitB "NoneType" "tuple").getD false = false; decide +kernel
@[simp] theorem isT_tuple_bool (b : Bool) : isT "tuple" (.bool b) = false := by show (kitB "bool" "tuple").getD false = false; decide +kernel
@[simp] theorem isT_tuple_int (i : Int) : isT "tuple" (.int i) = false := by show (kitB "int" "tuple").getD false = false; decide +kernel
@[simp] theorem isT_tuple_str (x : Str) : isT "tuple" (.str x) = false := by show (kitB "str" "tuple").getD false = false; decide +kernel
@[simp] theorem isT_tuple_list (xs : List PyData) : isT "tuple" (.list xs) = false := by show (kitB "list" "tuple").getD false = false; decide +kernel
@[simp] theorem isT_tuple_tuple (xs : List PyData) : isT "tuple" (.tuple xs) = true := by show (kitB "tuple" "tuple").getD false = true; decide +kernel
@[simp] theorem isT_list_nonetype : isT "list" .none = false := by show (kitB "NoneType" "list").getD false = false; decide +kernel
@[simp] theorem isT_list_bool (b : Bool) : isT "list" (.bool b) = false := by show (kitB "bool" "list").getD false = false; decide +kernel
@[simp] theorem isT_list_int (i : Int) : isT "list" (.int i) = false := by show (kitB "int" "list").getD false = false; decide +kernel
@[simp] theorem isT_list_str (x : Str) : isT "list" (.str x) = false := by show (kitB "str" "list").getD false = false; decide +kernel
@[simp] theorem isT_list_list (xs : List PyData) : isT "list" (.list xs) = true := by show (kitB "list" "list").getD false = true; decide +kernel
@[simp] theorem isT_list_tuple (xs : List PyData) : isT "list" (.tuple xs) = false := by show (kitB "tuple" "list").getD false = false; decide +kernel
theorem fe_isinst (T : String) (hT : T = "int" ∨ T = "bool" ∨ T = "str" ∨ T = "tuple" ∨ T = "list" ∨ T = "dict") {x : Str} {p2 : Pos} (hm : X.mg "isinstance" = none) (hx : X.mg x = none) (hv : bootBuiltins x = some (.type T)) (ha : FE X C ρ a ma)
    (hg : Gl X "isinstance" := by rfl) (hgx : Gl X x := by rfl) (hs : starEach [a, .Name x p2] X.env = (false, eval a X.env) :: starEach [.Name x p2] X.env := by rfl) (hs2 : starEach [.Name x p2] X.env = (false, eval (.Name x p2) X.env) :: starEach [] X.env := by rfl)
    (hpl : (backTo pos (starEach [.Name x p2] X.env)).any (·.1) = false := by rfl) (hn : x ≠ "__name__" := by decide) (hdb : (x == ("__debug__" : Str)) = false := by decide) : FE X C ρ (.Call (.Name "isinstance" p) [a, .Name x p2] [] pos) (do let d ← ma; pisT T d) := by
  have pa : PA X [a, .Name x p2] (tCons (tM X.K X.mg C ρ ma) (tCons (tC (.ty T)) tNil)) := pa_cons ha.pe (pa_cons (pe_bltn hgx hx hv rfl hn hdb) pa_nil hs2) hs
  refine ⟨imE (pe_callB call_isi hg hm (by decide +kernel) pa (by decide) (by decide) hs hpl) fun σ H Q h => ?_⟩
  refine h.then1 (k := fun v H1 Q => rIsi X.K [v, .ty T] H1 Q) fun F H v d cs s _ q r h => ?_
  have nd : ∀ kvs, d ≠ .dict kvs := fun kvs e => by subst e; exact h.elim
  refine ⟨v, .ty T, _, _, isT T d, rfl, .ty T, r.ty s nd, kit_ty (isT_ok hT d), ?_⟩
  refine kE.val (mg := X.mg) (d := .bool (isT T d)) ?_ s q (.bl _)
  cases d with
  | dict kvs => exact absurd rfl (nd kvs)
  | _ => exact h
end
end DL
end
section
set_option Elab.async false
set_option linter.all false
set_option maxRecDepth 100000
set_option maxHeartbeats 4000000
set_option autoImplicit false
namespace DL
open PySem PySem.Spec PyProof.Rows L2

/-! ### methods of texts -/
section
variable {X : Cx} {C : Ct} {ρ : List Sl} {a b c e o : Expr} {ma mb mc m mo : M PyData} {pos p apos : Pos} {x : Str}
def asS : PyData → M Str
  | .str z => pure z
  | _ => stuck
/-- a method of texts with one argument -/
theorem fe_strM {name : Str} {id : String} {r : V → List V → Hp → VK → Prop} {f : Str → PyData → M PyData} (slot : Slot "str" name id) (ty : typeOf (.builtin id) = pure (.type "method_descriptor")) (rule : MtR X id r)
    (hf : ∀ (C : Ct) (F H : Hp) (z : Str) (y : V) (dy : PyData) (cs : List PyData) (Q : VK), Sub F H → CupOk X.K C F H cs → Rp X.K F y dy → Res X.K X.mg C F H (f z dy cs) (kE X.K Q) → r (.str z) [y] H Q) (ho : FE X C ρ o mo) (he : FE X C ρ e m)
    (hs : starEach [e] X.env = [(false, eval e X.env)] := by rfl) (hbase : attributeBase o name X.env (eval o X.env) = eval o X.env := by rfl) (hline : (apos.endLine == pos.line) = true := by rfl) :
    FE X C ρ (.Call (.Attribute o name apos) [e] [] pos) (do let x ← mo; let z ← asS x; let y ← m; f z y) := by
  refine ⟨imE (pe_m1 slot ty rule ho.pe he.pe hs hbase hline) fun σ H Q h => ?_⟩
  obtain ⟨F, cs, e, q, h⟩ := h
  refine ⟨F, cs, e, q, (Res.bind h).mono fun dx cs1 F1 H1 g1 q1 h1 v rv => ?_⟩
  cases rv with
  | str z =>
    refine ⟨⟨z, rfl⟩, F1, cs1, e.grow g1, q1, (Res.bind (show Res X.K X.mg C F1 H1 ((m >>= fun y => f z y) cs1) (kE X.K Q) from h1)).mono fun dy cs2 F2 H2 g2 q2 h2 u ru => ?_⟩
    exact hf _ F2 H2 z u dy cs2 Q g2.sub q2 ru h2
  | _ => exact h1.elim
def pjoin (z : Str) : PyData → M PyData
  | .list ds => do let ys ← optM (strsOf ds); chk ((ys.map (·.length)).sum + ys.length * z.length ≤ 16777216); pure (.str (Txt.join z ys))
  | .tuple ds => do let ys ← optM (strsOf ds); chk ((ys.map (·.length)).sum + ys.length * z.length ≤ 16777216); pure (.str (Txt.join z ys))
  | _ => stuck
theorem fe_join (ho : FE X C ρ o mo) (he : FE X C ρ e m) (hs : starEach [e] X.env = [(false, eval e X.env)] := by rfl) (hbase : attributeBase o "join" X.env (eval o X.env) = eval o X.env := by rfl) (hline : (apos.endLine == pos.line) = true := by rfl) :
    FE X C ρ (.Call (.Attribute o "join" apos) [e] [] pos) (do let x ← mo; let z ← asS x; let y ← m; pjoin z y) := by
  refine fe_strM F.slot_str_join F.type_str_join mt_join (fun C F H z y dy cs Q s q ry h => ?_) ho he hs hbase hline
  cases ry with
  | lst f r =>
    obtain ⟨ys, e, h⟩ := Res.opt h
    obtain ⟨c, h⟩ := Res.chk h
    have f' := f.sq s
    rw [r.strsOf e] at f'
    exact ⟨z, _, ys, rfl, rfl, .inl f', c, kE.val h s q (.str _)⟩
  | tup f r =>
    obtain ⟨ys, e, h⟩ := Res.opt h
    obtain ⟨c, h⟩ := Res.chk h
    have f' := f.sq s
    rw [r.strsOf e] at f'
    exact ⟨z, _, ys, rfl, rfl, .inr f', c, kE.val h s q (.str _)⟩
  | _ => exact h.elim
def pcountS (z : Str) : PyData → M PyData
  | .str y => pure (.int (Txt.count z y))
  | _ => stuck
theorem fe_countS (ho : FE X C ρ o mo) (he : FE X C ρ e m) (hs : starEach [e] X.env = [(false, eval e X.env)] := by rfl) (hbase : attributeBase o "count" X.env (eval o X.env) = eval o X.env := by rfl) (hline : (apos.endLine == pos.line) = true := by rfl) :
    FE X C ρ (.Call (.Attribute o "count" apos) [e] [] pos) (do let x ← mo; let z ← asS x; let y ← m; pcountS z y) := by
  refine fe_strM PySem.F.slot_str_count PySem.F.type_str_count mt_count (fun C F H z y dy cs Q s q ry h => ?_) ho he hs hbase hline
  cases ry with
  | str y => exact ⟨z, y, rfl, rfl, kE.val h s q (.int _)⟩
  | _ => exact h.elim
def pindexS (z : Str) : PyData → M PyData
  | .str y => do let k ← optM (Txt.index0 z y); pure (.int (k : Nat))
  | _ => stuck
/-- s.index(t), found -/
theorem mt_indexF : MtR X "str.index" (fun x xs H Q => ∃ (a b : Str) (k : Nat), x = .str a ∧ xs = [.str b] ∧ Txt.index0 a b = some k ∧ Q (.int (k : Nat)) H) := by
  intro pins s σ H x xs v us Q I rx rs h
  obtain ⟨a, b, k, rfl, rfl, e, w⟩ := h
  obtain ⟨t, rfl⟩ := rx
  cases rs with
  | cons r1 rs =>
    cases rs
    obtain ⟨u, rfl⟩ := r1
    cases q : Builtin.Str.occurrences a b 0 a.length 1 with
    | nil => unfold Txt.index0 at e; rw [q] at e; cases e
    | cons k' rest =>
      have e' : k' = k := by unfold Txt.index0 at e; rw [q] at e; exact Option.some.inj e
      subst e'
      exact call_gives PySem.F.slot_str_index (typeIs_str _ _ _) PySem.F.entry_str_index (PySem.F.args_str_index_2 _ _) (gives_str_index a b t u k' rest q) ⟨.int (k' : Nat), H, I.tok _, ⟨_, rfl⟩, w⟩
theorem fe_indexS (ho : FE X C ρ o mo) (he : FE X C ρ e m) (hs : starEach [e] X.env = [(false, eval e X.env)] := by rfl) (hbase : attributeBase o "index" X.env (eval o X.env) = eval o X.env := by rfl) (hline : (apos.endLine == pos.line) = true := by rfl) :
    FE X C ρ (.Call (.Attribute o "index" apos) [e] [] pos) (do let x ← mo; let z ← asS x; let y ← m; pindexS z y) := by
  refine fe_strM PySem.F.slot_str_index PySem.F.type_str_index mt_indexF (fun C F H z y dy cs Q s q ry h => ?_) ho he hs hbase hline
  cases ry with
  | str y =>
    obtain ⟨k, e, h⟩ := Res.opt h
    exact ⟨z, y, k, rfl, rfl, e, kE.val h s q (.int _)⟩
  | _ => exact h.elim

/-! ### T.index(x), T a tuple of texts that stands in the module -/
def pindexK (ys : List Str) : PyData → M PyData
  | .str z => if z ∈ ys then pure (.int (ys.idxOf z : Nat)) else stuck
  | _ => stuck
theorem fe_indexK {ys : List Str} {t : Addr} {p2 : Pos} (hm : X.mg x = some (.ref t)) (hk : ∃ o, X.K.lookup t = some o ∧ o.cls = .type "tuple" ∧ o.dict = none) (hq : SqT X.K (fun _ => none) t (ys.map V.str)) (he : FE X C ρ e m)
    (hg : Gl X x := by rfl) (hd : (x == ("__debug__" : Str)) = false := by decide) (hbase : attributeBase (.Name x p2) "index" X.env (eval (.Name x p2) X.env) = eval (.Name x p2) X.env := by rfl)
    (hfew : ((backTo pos (starEach [e] X.env)).all (fun x => !x.1) && (backToKw pos (keywordEach [] X.env)).all (fun x => x.1.isSome)
      && decide ([e].length + ([] : List Keyword).length + (if ([] : List Keyword).isEmpty then 0 else 1) < 30)) = true := by rfl)
    (hline : (apos.endLine == pos.line) = true := by rfl) (hs : starEach [e] X.env = (false, eval e X.env) :: starEach [] X.env := by rfl) (hplain : (backTo pos (starEach [] X.env)).any (·.1) = false := by rfl) :
    FE X C ρ (.Call (.Attribute (.Name x p2) "index" apos) [e] [] pos) (do let d ← m; pindexK ys d) := by
  have po : PE X (.Name x p2) (tC (.ref t)) := pe_glob hg hm rfl hd
  have pa : PA X [e] (tCons (tM X.K X.mg C ρ m) tNil) := pa_cons he.pe pa_nil hs
  refine ⟨imE (pe_bm PySem.F.plainAttrs_tuple PySem.F.slot_tuple_index PySem.F.type_tuple_index mt_tup_index po pa hbase hfew hline hs hplain) fun σ H Q h => ?_⟩
  refine ⟨.inr (.inl ⟨rfl, hk⟩), ?_⟩
  refine h.then1 (k := fun v H1 Q => ∃ p, ∃ ys : List Str, ∃ z j, V.ref t = .ref p ∧ [v] = [.str z] ∧ SqT X.K H1 p (ys.map V.str) ∧ ys[j]? = some z ∧ (∀ m, m < j → ys[m]? ≠ some z) ∧ Q (.int (j : Nat)) H1) fun F H v d cs s _ q r h => ?_
  cases r with
  | str z =>
    unfold pindexK at h
    by_cases hz : z ∈ ys
    · simp only [hz, if_true] at h
      have hj : ys.idxOf z < ys.length := List.idxOf_lt_length_iff.mpr hz
      refine ⟨t, ys, z, ys.idxOf z, rfl, rfl, SqT.up hq, ?_, fun k hk' e => ?_, kE.val h s q (.int _)⟩
      · rw [List.getElem?_eq_getElem hj, List.getElem_idxOf hj]
      · obtain ⟨h1, h2⟩ := List.getElem?_eq_some_iff.mp e
        exact absurd h2 (SeqAt.lt_idxOf_ne hk' h1)
    · simp only [hz, if_false] at h
      exact h.elim
  | _ => exact h.elim
end

/-! ### iteration -/
theorem ItOk.list {K : PySem.W.Frag} {F : Hp} {a : Addr} {xs : List V} {ds : List PyData} (f : FzL K F a xs) (r : Rps K F xs ds) : ItOk K (Itl K a) F ds := by
  intro i F1 H1 l s
  have q := (f.mono l).sq s
  refine ⟨fun h => ⟨xs, q, by rw [r.length]; exact h⟩, fun d e => ?_⟩
  obtain ⟨v, e1, rv⟩ := r.get e
  refine ⟨⟨xs, v, q, e1⟩, fun x H2 y => ?_⟩
  obtain ⟨rfl, y⟩ := y
  have e2 := y xs q
  rw [e1] at e2; cases e2
  exact ⟨F1, fun c => Grow.refl s, rv.mono l⟩
theorem ItOk.tup {K : PySem.W.Frag} {F : Hp} {a : Addr} {xs : List V} {ds : List PyData} (f : FzT K F a xs) (r : Rps K F xs ds) : ItOk K (Itt K a) F ds := by
  intro i F1 H1 l s
  have q := (f.mono l).sq s
  refine ⟨fun h => ⟨xs, q, by rw [r.length]; exact h⟩, fun d e => ?_⟩
  obtain ⟨v, e1, rv⟩ := r.get e
  refine ⟨⟨xs, v, q, e1⟩, fun x H2 y => ?_⟩
  obtain ⟨rfl, y⟩ := y
  have e2 := y xs q
  rw [e1] at e2; cases e2
  exact ⟨F1, fun c => Grow.refl s, rv.mono l⟩
def charsD (z : Str) : List PyData := z.cps.toList.map fun c => .str ⟨#[c]⟩
theorem ItOk.str {K : PySem.W.Frag} {F : Hp} (z : Str) : ItOk K (Its z) F (charsD z) := by
  intro i F1 H1 l s
  have hl : (charsD z).length = z.cps.size := by simp [charsD]
  refine ⟨fun h => by rw [hl] at h; exact h, fun d e => ?_⟩
  simp only [charsD, List.getElem?_map, Option.map_eq_some_iff] at e
  obtain ⟨c, e, rfl⟩ := e
  have e' : z.cps[i]? = some c := by simpa using e
  refine ⟨(Array.getElem?_eq_some_iff.mp e').1, fun x H2 y => ?_⟩
  obtain ⟨rfl, c', e2, rfl⟩ := y
  rw [e'] at e2; cases e2
  exact ⟨F1, fun _ => Grow.refl s, .str _⟩
def rangeD (a b : Int) : List PyData := (List.range (b - a).toNat).map fun k : Nat => .int (a + (k : Int))
theorem rangeD_length (a b : Int) : (rangeD a b).length = (b - a).toNat := by simp [rangeD]
theorem ItOk.range {K : PySem.W.Frag} {F : Hp} (a b : Int) : ItOk K (Itr a (b - a).toNat) F (rangeD a b) := by
  intro i F1 H1 l s
  refine ⟨fun h => by rw [rangeD_length] at h; exact h, fun d e => ?_⟩
  have hi : i < (b - a).toNat := by
    have := (List.getElem?_eq_some_iff.mp e).1
    rw [rangeD_length] at this; exact this
  have e' : d = .int (a + (i : Int)) := by
    simp only [rangeD, List.getElem?_map] at e
    rw [List.getElem?_range hi] at e
    cases e; rfl
  subst e'
  refine ⟨hi, fun x H2 y => ?_⟩
  obtain ⟨rfl, rfl⟩ := y
  exact ⟨F1, fun _ => Grow.refl s, .int _⟩
section
variable {X : Cx} {C : Ct} {ρ : List Sl} {tg a b c e o : Expr} {ma mb mc m mo : M PyData} {pos p apos : Pos} {x : Str}
/-- what may be walked: a list, a tuple, a text -/
def iAny (K : PySem.W.Frag) (te : TE) : TI := fun σ H R => te σ H fun x H1 => (∃ a xs, x = .ref a ∧ SqL K H1 a xs ∧ (xs.length ≤ sizeLine → R (Itl K a) H1)) ∨ (∃ a xs, x = .ref a ∧ SqT K H1 a xs ∧ (xs.length ≤ sizeLine → R (Itt K a) H1)) ∨ (∃ z, x = .str z ∧ R (Its z) H1) ∨ ∃ d o, x = .ref d ∧ ((∃ kvs, H1 d = some (.frz o (.dK kvs)) ∧ (kvs.length ≤ sizeLine → R (Itk d o kvs) H1)) ∨ ∃ kvs, H1 d = some (.frz o (.dT kvs)) ∧ (kvs.length ≤ sizeLine → R (Itkt d o kvs) H1))
theorem pi_any {te : TE} (he : PE X e te) : PI X tg e (iAny X.K te) := by
  refine ⟨fun pins s σ H R I h => ?_⟩
  refine thn (he.run pins s σ H _ I h) fun v s1 ⟨x, H1, I1, r1, q1⟩ => ?_
  rcases q1 with ⟨a, xs, rfl, hq, q⟩ | ⟨a, xs, rfl, hq, q⟩ | ⟨z, rfl, q⟩ | ⟨d, o, rfl, q⟩
  · cases r1
    obtain ⟨its, rv, p, hz⟩ := I1.list hq
    refine wpAny_pyIter_list p.isList ?_
    refine ⟨s1.heap.objs.size, [s1.heap.objs.size], _, _, H1, rfl, I1.kept (t' := s1.toks) fun b o e => Heap.get?_push_of_some _ e, turn_list a _, ⟨_, Heap.get?_push_size _ rfl, rfl, rfl⟩, fun b hb => ?_, q hz⟩
    have e : b = s1.heap.objs.size := by simpa using hb
    subst e
    exact I1.fpOk (Nat.le_refl _) (I1.hok.fresh (Nat.le_refl _))
  · cases r1
    obtain ⟨its, rv, p, hz⟩ := I1.tuple hq
    refine wpAny_pyIter_tuple (show s1.heap.IsTuple a its.toArray from p) ?_
    refine ⟨s1.heap.objs.size, [s1.heap.objs.size], _, _, H1, rfl, I1.kept (t' := s1.toks) fun b o e => Heap.get?_push_of_some _ e, turn_tuple a _, ⟨_, Heap.get?_push_size _ rfl, rfl, rfl⟩, fun b hb => ?_, q hz⟩
    have e : b = s1.heap.objs.size := by simpa using hb
    subst e
    exact I1.fpOk (Nat.le_refl _) (I1.hok.fresh (Nat.le_refl _))
  · obtain ⟨t, rfl⟩ := r1
    cases ha : z.cps.all (· < 128)
    · exact wpAny_pyIter_wide ha (pi_one (tk := s1.toks) I1 _ (turn_str _ z t "str_iterator" (.inr rfl)) ⟨_, Heap.get?_push_size _ rfl, rfl, rfl⟩ q)
    · exact wpAny_pyIter_ascii ha (pi_one (tk := s1.toks) I1 _ (turn_str _ z t "str_ascii_iterator" (.inl rfl)) ⟨_, Heap.get?_push_size _ rfl, rfl, rfl⟩ q)
  · obtain rfl : v = Value.ref d := r1
    rcases q with ⟨kvs, hd, q⟩ | ⟨kvs, hd, q⟩
    · have hz : kvs.length ≤ sizeLine := (dk_rd I1.hok (.inr ⟨o, hd⟩)).1
      obtain ⟨hs, hgd, hx, es, ep, vs, hdt, hsz, kv, hm⟩ := I1.frzK hd
      refine iter_keys hs hgd hx hdt (pi_one (tk := s1.toks) I1 _ (turn_keys _ hdt) ⟨_, Heap.get?_push_size _ rfl, rfl, ?_⟩ (q hz))
      rw [hsz] <;> rfl
    · have hz : kvs.length ≤ sizeLine := (dt_rd I1.hok (.inr ⟨o, hd⟩)).1
      obtain ⟨hs, hgd, hx, es, ep, hdt, hsz, ent⟩ := I1.frzT hd
      refine iter_keys hs hgd hx hdt (pi_one (tk := s1.toks) I1 _ (turn_keysT _ hdt) ⟨_, Heap.get?_push_size _ rfl, rfl, ?_⟩ (q hz))
      rw [hsz] <;> rfl
theorem ItOk.keysK {K : PySem.W.Frag} {F : Hp} {d : Addr} {o : Obj} {es : List (Key × V)} {kvs : List (PyData × PyData)} (hF : F d = some (.frz o (.dK es))) (r : RpK K F es kvs) : ItOk K (Itk d o es) F (kvs.map (·.1)) := by
  intro i F1 H1 l s
  have hd := s _ _ (l _ _ hF)
  have pk := rpK_pk r
  refine ⟨fun h => ⟨hd, by rw [List.length_map] at h; rw [pk.length]; exact h⟩, fun x e => ?_⟩
  rw [List.getElem?_map, Option.map_eq_some_iff] at e
  obtain ⟨p, e, rfl⟩ := e
  obtain ⟨k, v, e1, e2, _⟩ := pk.at e
  refine ⟨⟨hd, (List.getElem?_eq_some_iff.mp e1).1⟩, fun x H2 y => ?_⟩
  obtain ⟨rfl, k', v', e3, rfl⟩ := y
  rw [e1] at e3; cases e3
  exact ⟨F1, fun c => Grow.refl s, e2 ▸ rp_kV k⟩
theorem ItOk.keysT {K : PySem.W.Frag} {F : Hp} {d : Addr} {o : Obj} {es : List (List Key × V)} {kvs : List (PyData × PyData)} (hF : F d = some (.frz o (.dT es))) (r : RpT K F es kvs) : ItOk K (Itkt d o es) F (kvs.map (·.1)) := by
  intro i F1 H1 l s
  have hd := s _ _ (l _ _ hF)
  have pk := rpT_pk r
  refine ⟨fun h => ⟨hd, by rw [List.length_map] at h; rw [pk.length]; exact h⟩, fun x e => ?_⟩
  rw [List.getElem?_map, Option.map_eq_some_iff] at e
  obtain ⟨p, e, rfl⟩ := e
  obtain ⟨k, v, e1, e2, _⟩ := pk.at e
  refine ⟨⟨hd, (List.getElem?_eq_some_iff.mp e1).1⟩, fun x H2 y => ?_⟩
  obtain ⟨rfl, k', v', b, e3, rfl, hb⟩ := y
  rw [e1] at e3; cases e3
  refine ⟨upd F1 b (.tup (k.map kV)), fun c => Grow.takeT s hb, ?_⟩
  rw [e2]
  exact .tup upd_same (rps_kV k)
def pitems : PyData → M (List PyData)
  | .dict kvs => pure (kvs.map (·.1))
  | .list ds => pure ds
  | .tuple ds => pure ds
  | .str z => do chk (z.length ≤ sizeLine); pure (charsD z)
  | _ => stuck
theorem fi_any (he : FE X C ρ e m) : FI X C ρ tg e (do let d ← m; pitems d) := by
  refine ⟨imI (pi_any he.pe) fun σ H R h => ?_⟩
  obtain ⟨F, cs, e, q, h⟩ := h
  refine ⟨F, cs, e, q, (Res.bind h).mono fun d cs1 F1 H1 g1 q1 h1 v rv => ?_⟩
  cases rv with
  | lst f r => exact .inl ⟨_, _, rfl, f.sq g1.sub, fun hz => Res.pure (mg := X.mg) h1 g1.sub q1 _ (.list f r) (by rw [← r.length]; exact hz)⟩
  | tup f r => exact .inr (.inl ⟨_, _, rfl, f.sq g1.sub, fun hz => Res.pure (mg := X.mg) h1 g1.sub q1 _ (.tup f r) (by rw [← r.length]; exact hz)⟩)
  | str z =>
    obtain ⟨hz, h1⟩ := Res.chk h1
    exact .inr (.inr (.inl ⟨z, rfl, Res.pure (mg := X.mg) h1 g1.sub q1 _ (.str z) (by simp only [charsD, List.length_map, Array.length_toList]; exact hz)⟩))
  | dK f r => exact .inr (.inr (.inr ⟨_, _, rfl, .inl ⟨_, g1.sub _ _ f, fun hz => Res.pure (mg := X.mg) h1 g1.sub q1 _ (.keysK f r) (by rw [List.length_map, ← (rpK_pk r).length]; exact hz)⟩⟩))
  | dT f r => exact .inr (.inr (.inr ⟨_, _, rfl, .inr ⟨_, g1.sub _ _ f, fun hz => Res.pure (mg := X.mg) h1 g1.sub q1 _ (.keysT f r) (by rw [List.length_map, ← (rpT_pk r).length]; exact hz)⟩⟩))
  | _ => exact h1.elim
theorem fi_range1 (hm : X.mg "range" = none) (ha : FE X C ρ a ma) (hg : Gl X "range" := by rfl) (hs : starEach [a] X.env = [(false, eval a X.env)] := by rfl) :
    FI X C ρ tg (.Call (.Name "range" p) [a] [] pos) (do let d ← ma; let n ← asI d; chk (-(2 ^ 62) ≤ n ∧ n ≤ 16777216); pure (rangeD 0 n)) := by
  have pa : PA X [a] (tCons (tM X.K X.mg C ρ ma) tNil) := pa_cons ha.pe pa_nil hs
  refine ⟨imI (pi_range1 hg hm pa hs) fun σ H R h => ?_⟩
  obtain ⟨F, cs, e, q, h⟩ := h
  refine ⟨F, cs, e, q, (Res.bind h).mono fun d cs1 F1 H1 g1 q1 h1 v rv => ?_⟩
  cases rv with
  | int n =>
    have h2 : Res X.K X.mg C F1 H1 ((do chk (-(2 ^ 62) ≤ n ∧ n ≤ 16777216); pure (rangeD 0 n) : M (List PyData)) cs1) _ := h1
    obtain ⟨c, h2⟩ := Res.chk h2
    refine ⟨n, rfl, c.1, by omega, ?_⟩
    have h3 := Res.pure (mg := X.mg) h2 g1.sub q1 (Itr 0 n.toNat) (by have := ItOk.range (K := X.K) (F := F1) 0 n; simpa using this) (by rw [rangeD_length]; rw [sizeLine_eq]; omega)
    exact h3
  | _ => exact h1.elim
theorem fi_range2 (hm : X.mg "range" = none) (ha : FE X C ρ a ma) (hb : FE X C ρ b mb) (hg : Gl X "range" := by rfl) (hs : starEach [a, b] X.env = [(false, eval a X.env), (false, eval b X.env)] := by rfl) (hs2 : starEach [b] X.env = [(false, eval b X.env)] := by rfl) :
    FI X C ρ tg (.Call (.Name "range" p) [a, b] [] pos) (do let d ← ma; let e ← mb; let i ← asI d; let j ← asI e; chk (-(2 ^ 61) ≤ i ∧ i < 2 ^ 61 ∧ -(2 ^ 61) ≤ j ∧ j < 2 ^ 61 ∧ j - i ≤ 16777216); pure (rangeD i j)) := by
  have pa : PA X [a, b] (tCons (tM X.K X.mg C ρ ma) (tCons (tM X.K X.mg C ρ mb) tNil)) := pa_cons ha.pe (pa_cons hb.pe pa_nil hs2) (by rw [hs, hs2])
  refine ⟨imI (pi_range2 hg hm pa hs hs2) fun σ H R h => ?_⟩
  obtain ⟨F, cs, e, q, h⟩ := h
  refine ⟨F, cs, e, q, (Res.bind h).mono fun d cs1 F1 H1 g1 q1 h1 v rv => ?_⟩
  refine ⟨F1, cs1, e.grow g1, q1, (Res.bind h1).mono fun d2 cs2 F2 H2 g2 q2 h2 u ru => ?_⟩
  cases rv with
  | int i =>
    cases ru with
    | int j =>
      have h3 : Res X.K X.mg C F2 H2 ((do chk (-(2 ^ 61) ≤ i ∧ i < 2 ^ 61 ∧ -(2 ^ 61) ≤ j ∧ j < 2 ^ 61 ∧ j - i ≤ 16777216); pure (rangeD i j) : M (List PyData)) cs2) _ := h2
      obtain ⟨c, h3⟩ := Res.chk h3
      exact ⟨i, j, rfl, by omega, Res.pure (mg := X.mg) h3 g2.sub q2 (Itr i (j - i).toNat) (ItOk.range i j) (by rw [rangeD_length]; rw [sizeLine_eq]; omega)⟩
    | _ => exact h2.elim
  | _ => exact h2.elim
end
end DL
end
section
set_option Elab.async false
set_option linter.all false
set_option maxRecDepth 100000
set_option maxHeartbeats 4000000
set_option autoImplicit false
namespace DL
open PySem PySem.Spec PyProof.Rows L2

/-! ### targets -/
/-- a target: what it unpacks, what it makes of what is known of the slots, which slots it writes -/
def FG' (X : Cx) {τ : Type} (u : PyData → M τ) (st : τ → List Sl → List Sl) (vs : List Nat) (g : TG) : Prop :=
  ∀ (mg : Str → Option Value) (C : Ct) (F H : Hp) (σ : St) (ρ : List Sl) (x : V) (d : PyData) (cs : List PyData) (Q : St → Hp → Prop), EnvOk X.K mg C F H σ ρ → CupOk X.K C F H cs → Rp X.K F x d →
    Res X.K mg C F H (u d cs) (fun t cs' F' H' => ∀ σ', EnvOk X.K mg C F' H' σ' (st t ρ) → wipe σ' vs = wipe σ vs → Q σ' H') → g x σ H Q
structure FG (X : Cx) {τ : Type} (tg : Expr) (u : PyData → M τ) (st : τ → List Sl → List Sl) (vs : List Nat) (g : TG) : Prop where
  pg : PG X tg g
  ok : FG' X u st vs g
theorem wipe_set {σ : St} {i : Nat} {o : Option V} : ∀ {vs : List Nat}, i ∈ vs → wipe (σ.set i o) vs = wipe σ vs
  | v :: vs, h => by
    unfold wipe
    by_cases e : i ∈ vs
    · rw [wipe_set e]
    · have e' : i = v := by simpa [e] using h
      subst e'
      have w : ∀ vs : List Nat, i ∉ vs → wipe (σ.set i o) vs = (wipe σ vs).set i o := by
        intro vs
        induction vs with
        | nil => intro _; rfl
        | cons w r ih =>
          intro hn
          have hne : w ≠ i := fun z => hn (by simp [z])
          unfold wipe
          rw [ih (fun z => hn (by simp [z])), List.set_comm _ _ hne]
      rw [w vs e, List.set_set]
theorem fg_name {X : Cx} {x : Str} {pos : Pos} (i : Nat) (hN : X.N.Nodup) (hi : X.N[i]? = some x := by rfl) (hx : Loc X.env.scope x := by first | exact Or.inl rfl | exact Or.inr rfl)
    (hf : X.fn x = true ∨ X.env.scope.names.lookup x = some .local := by first | exact Or.inl rfl | exact Or.inr rfl) : FG X (.Name x pos) (fun d => pure d) (fun d ρ => ρ.set i (.d d)) [i] (gName i) :=
  ⟨pg_name hN hi hx hf, fun mg C F H σ ρ v d cs Q e q r h => Res.pure (mg := mg) h e.sub q _ (e.setD i r) (wipe_set (by simp))⟩
def unp2 : PyData → M (PyData × PyData)
  | .tuple [a, b] => pure (a, b)
  | _ => stuck
def unp3 : PyData → M (PyData × PyData × PyData)
  | .tuple [a, b, c] => pure (a, b, c)
  | _ => stuck
theorem pgt2 {X : Cx} {x y : Str} {px py pos : Pos} {k : Nat} (i j : Nat) (hc : X.calm = true) (hN : X.N.Nodup) (hi : X.N[i]? = some x) (hj : X.N[j]? = some y) (hx : Loc X.env.scope x) (hy : Loc X.env.scope y)
    (hfx : X.fn x = true ∨ X.env.scope.names.lookup x = some .local) (hfy : X.fn y = true ∨ X.env.scope.names.lookup y = some .local) :
    PG X (.Tuple [.Name x px, .Name y py] k pos) (gTup X.K 2 (gCons (gName i) (gCons (gName j) gNil))) := by
  have h2 : PGs X [.Name y py] (gCons (gName j) gNil) := pgs_cons (pg_name hN hj hy hfy) pgs_nil
  have h1 : PGs X [.Name x px, .Name y py] (gCons (gName i) (gCons (gName j) gNil)) := pgs_cons (pg_name hN hi hx hfx) h2
  exact pg_tup hc h1 rfl rfl
theorem pgt3 {X : Cx} {x y z : Str} {px py pz pos : Pos} {k : Nat} (i j l : Nat) (hc : X.calm = true) (hN : X.N.Nodup) (hi : X.N[i]? = some x) (hj : X.N[j]? = some y) (hl : X.N[l]? = some z) (hx : Loc X.env.scope x) (hy : Loc X.env.scope y) (hz : Loc X.env.scope z)
    (hfx : X.fn x = true ∨ X.env.scope.names.lookup x = some .local) (hfy : X.fn y = true ∨ X.env.scope.names.lookup y = some .local) (hfz : X.fn z = true ∨ X.env.scope.names.lookup z = some .local) :
    PG X (.Tuple [.Name x px, .Name y py, .Name z pz] k pos) (gTup X.K 3 (gCons (gName i) (gCons (gName j) (gCons (gName l) gNil)))) := by
  have h3 : PGs X [.Name z pz] (gCons (gName l) gNil) := pgs_cons (pg_name hN hl hz hfz) pgs_nil
  have h2 : PGs X [.Name y py, .Name z pz] (gCons (gName j) (gCons (gName l) gNil)) := pgs_cons (pg_name hN hj hy hfy) h3
  have h1 : PGs X [.Name x px, .Name y py, .Name z pz] (gCons (gName i) (gCons (gName j) (gCons (gName l) gNil))) := pgs_cons (pg_name hN hi hx hfx) h2
  exact pg_tup hc h1 rfl rfl
theorem fg_tup2 {X : Cx} {x y : Str} {px py pos : Pos} {k : Nat} (i j : Nat) (hc : X.calm = true) (hN : X.N.Nodup) (hi : X.N[i]? = some x := by rfl) (hj : X.N[j]? = some y := by rfl) (hx : Loc X.env.scope x := by first | exact Or.inl rfl | exact Or.inr rfl) (hy : Loc X.env.scope y := by first | exact Or.inl rfl | exact Or.inr rfl)
    (hfx : X.fn x = true ∨ X.env.scope.names.lookup x = some .local := by first | exact Or.inl rfl | exact Or.inr rfl) (hfy : X.fn y = true ∨ X.env.scope.names.lookup y = some .local := by first | exact Or.inl rfl | exact Or.inr rfl) :
    FG X (.Tuple [.Name x px, .Name y py] k pos) unp2 (fun p ρ => (ρ.set i (.d p.1)).set j (.d p.2)) [i, j] (gTup X.K 2 (gCons (gName i) (gCons (gName j) gNil))) := by
  refine ⟨pgt2 i j hc hN hi hj hx hy hfx hfy, fun mg C F H σ ρ v d cs Q e q r h => ?_⟩
  cases r with
  | tup f r =>
    cases r with
    | nil => exact h.elim
    | cons a r =>
      cases r with
      | nil => exact h.elim
      | cons b r =>
        cases r with
        | cons _ _ => exact h.elim
        | nil =>
          refine ⟨_, _, rfl, f.sq e.sub, rfl, _, _, rfl, _, _, rfl, rfl, ?_⟩
          have h2 := Res.pure (mg := mg) (x := (_, _)) h e.sub q
          refine h2 _ ((e.setD i a).setD j b) ?_
          rw [wipe_set (by simp), wipe_set (by simp)]
  | _ => exact h.elim
theorem fg_tup3 {X : Cx} {x y z : Str} {px py pz pos : Pos} {k : Nat} (i j l : Nat) (hc : X.calm = true) (hN : X.N.Nodup) (hi : X.N[i]? = some x := by rfl) (hj : X.N[j]? = some y := by rfl) (hl : X.N[l]? = some z := by rfl) (hx : Loc X.env.scope x := by first | exact Or.inl rfl | exact Or.inr rfl) (hy : Loc X.env.scope y := by first | exact Or.inl rfl | exact Or.inr rfl) (hz : Loc X.env.scope z := by first | exact Or.inl rfl | exact Or.inr rfl)
    (hfx : X.fn x = true ∨ X.env.scope.names.lookup x = some .local := by first | exact Or.inl rfl | exact Or.inr rfl) (hfy : X.fn y = true ∨ X.env.scope.names.lookup y = some .local := by first | exact Or.inl rfl | exact Or.inr rfl) (hfz : X.fn z = true ∨ X.env.scope.names.lookup z = some .local := by first | exact Or.inl rfl | exact Or.inr rfl) :
    FG X (.Tuple [.Name x px, .Name y py, .Name z pz] k pos) unp3 (fun p ρ => ((ρ.set i (.d p.1)).set j (.d p.2.1)).set l (.d p.2.2)) [i, j, l] (gTup X.K 3 (gCons (gName i) (gCons (gName j) (gCons (gName l) gNil)))) := by
  refine ⟨pgt3 i j l hc hN hi hj hl hx hy hz hfx hfy hfz, fun mg C F H σ ρ v d cs Q e q r h => ?_⟩
  cases r with
  | tup f r =>
    cases r with
    | nil => exact h.elim
    | cons a r =>
      cases r with
      | nil => exact h.elim
      | cons b r =>
        cases r with
        | nil => exact h.elim
        | cons c r =>
          cases r with
          | cons _ _ => exact h.elim
          | nil =>
            refine ⟨_, _, rfl, f.sq e.sub, rfl, _, _, rfl, _, _, rfl, _, _, rfl, rfl, ?_⟩
            have h2 := Res.pure (mg := mg) (x := (_, _, _)) h e.sub q
            refine h2 _ (((e.setD i a).setD j b).setD l c) ?_
            rw [wipe_set (by simp), wipe_set (by simp), wipe_set (by simp)]
  | _ => exact h.elim

/-! ### comprehensions -/
structure FTs (X : Cx) (C : Ct) (ρ : List Sl) (ifs : List Expr) (m : M Bool) : Prop where
  pt : PTs X ifs (tTm X.K X.mg C ρ m)
theorem fts_nil {X : Cx} {C : Ct} {ρ : List Sl} : FTs X C ρ [] (pure true) := ⟨⟨fun pins s σ H Q I ⟨F, cs, e, q, h⟩ => pts_nil.run pins s σ H Q I (Res.pure (mg := X.mg) h e.sub q)⟩⟩
theorem fts_one {X : Cx} {C : Ct} {ρ : List Sl} {c : Expr} {m : M Bool} (h : FT X C ρ c m) : FTs X C ρ [c] m := ⟨pts_one h.pt⟩
def lcM {τ : Type} (u : PyData → M τ) (t : τ → M Bool) (f : τ → M PyData) : List PyData → M (List PyData)
  | [] => pure []
  | d :: ds => do
    let x ← noexc (u d)
    let b ← noexc (t x)
    if b = true then (do let y ← noexc (f x); let ys ← lcM u t f ds; pure (y :: ys)) else lcM u t f ds
def wipeR (ρ : List Sl) : List Nat → List Sl
  | [] => ρ
  | v :: vs => (wipeR ρ vs).set v .un
abbrev Ct.blk (C : Ct) : Ct := { C with W := fun _ _ _ _ => False, rx := [] }
section
variable {K : PySem.W.Frag} {mg : Str → Option Value} {C : Ct} {F H : Hp} {σ : St} {ρ : List Sl}
theorem EnvOk.wipe (h : EnvOk K mg C F H σ ρ) : ∀ vs : List Nat, EnvOk K mg C F H (L2.wipe σ vs) (wipeR ρ vs)
  | [] => h
  | v :: vs => (EnvOk.wipe h vs).setUn v none
theorem EnvOk.ct (h : EnvOk K mg C F H σ ρ) : EnvOk K mg C.blk F H σ ρ := ⟨h.len, h.g0, fun i s e => by
  have := h.sl i s e
  cases s <;> exact this, h.sep⟩
end
/-- results that are never raised -/
def ResN {α : Type} (K : PySem.W.Frag) (C : Ct) (F H : Hp) (r : Except Er (α × List PyData)) (k : α → List PyData → Hp → Hp → Prop) : Prop := match r with
  | .ok (x, cs) => ∀ F' H', Grow C.c F H F' H' → CupOk K C F' H' cs → k x cs F' H'
  | .error _ => False
section
variable {K : PySem.W.Frag} {mg : Str → Option Value} {C : Ct} {F H F' H' : Hp} {cs : List PyData} {α β : Type}
theorem ResN.bind {m : M α} {f : α → M β} {k : β → List PyData → Hp → Hp → Prop} (h : ResN K C F H ((noexc m >>= f) cs) k) : Res K mg C.blk F H (m cs) fun x cs1 F1 H1 => ResN K C F1 H1 (f x cs1) k := by
  rw [M.bind_run] at h
  unfold noexc at h
  match e : m cs, h with
  | .ok (x, cs1), h =>
    intro F1 H1 g1 q1
    have h : ResN K C F H (f x cs1) k := h
    match e2 : f x cs1, h with
    | .ok (y, cs2), h => exact fun F2 H2 g2 q2 => h F2 H2 (Grow.trans g1 g2) q2
    | .error _, h => exact h.elim
  | .error (.exc nm fld), h => exact h.elim
  | .error .stuck, h => exact h.elim
theorem ResN.grow {r : Except Er (α × List PyData)} {k : α → List PyData → Hp → Hp → Prop} (h : ResN K C F H r k) (g : Grow C.c F H F' H') : ResN K C F' H' r k := by
  match r, h with
  | .ok (x, cs), h => exact fun F2 H2 g2 q2 => h F2 H2 (g.trans g2) q2
  | .error _, h => exact h.elim
theorem ResN.cons {y : PyData} {m : M (List PyData)} {k : List PyData → List PyData → Hp → Hp → Prop} (h : ResN K C F H ((m >>= fun ys => pure (y :: ys)) cs) k) : ResN K C F H (m cs) fun ys cs' F' H' => k (y :: ys) cs' F' H' := by
  rw [M.bind_run] at h
  match e : m cs, h with
  | .ok (x, cs1), h => exact h
  | .error _, h => exact h.elim
theorem CupOk.grow0 (q : CupOk K C F H cs) (g : Grow none F H F' H') : CupOk K C F' H' cs := by
  unfold CupOk at q ⊢
  match e : C.c, q with
  | none, q => exact q
  | some a, q =>
    obtain ⟨n1, vs, e1, r1⟩ := q
    exact ⟨g.nF (by rw [e1]; simp) (by rw [e1]; simp) n1, vs, g.keep _ _ e1 (by simp), r1.mono g.le⟩
theorem upd_id {p : Addr} {o : HO} (e : H p = some o) : upd H p o = H := by
  funext a
  by_cases h : a = p
  · subst h; rw [upd_same, e]
  · rw [upd_ne h]
/-- the content of an object that is not frozen and not the cup is forgotten -/
theorem Grow.swap {p : Addr} {o o' : HO} (g : Grow C.c F (upd H p o) F' H') (nF : F p = none) (hp : H p ≠ none) (e : H p = some o') (ho : ∀ xs, o ≠ .tup xs := by intro _ z; cases z) : Grow C.c F H F' (upd H' p o') := by
  have nF' : F' p = none := g.nF (by rw [upd_same]; simp) (fun xs z => by rw [upd_same] at z; exact ho xs (Option.some.inj z)) nF
  refine ⟨g.le, fun a x => ?_, fun a xs x => ?_, fun a u x n => ?_, fun a x => ?_, g.sub.put nF'⟩
  · have h : a ≠ p := fun z => x (by rw [z]; exact nF')
    rcases g.new a x with z | z | ⟨xs, z⟩
    · exact .inl z
    · rw [upd_ne h] at z; exact .inr (.inl z)
    · rw [upd_ne h] at z; exact .inr (.inr ⟨xs, z⟩)
  · by_cases h : a = p
    · subst h; rw [upd_same] at x; exact .inr (e.trans x)
    · rw [upd_ne h] at x
      have := g.tp a xs x
      rw [upd_ne h] at this
      exact this
  · by_cases h : a = p
    · subst h; rw [upd_same, ← e, x]
    · rw [upd_ne h]; exact g.keep a u (by rw [upd_ne h]; exact x) n
  · by_cases h : a = p
    · subst h; rw [upd_same]; simp
    · rw [upd_ne h]; exact g.ex a (by rw [upd_ne h]; exact x)
end
/-- m raises nothing -/
def NE {α : Type} (m : M α) : Prop := ∀ (cs : List PyData) (nm : Str) (x : Option (Str × PyData)), m cs ≠ .error (.exc nm x)
theorem NE.pure {α : Type} (x : α) : NE (pure x : M α) := fun cs nm y h => by cases h
theorem NE.noexc {α : Type} (m : M α) : NE (DL.noexc m) := fun cs nm x h => by
  unfold DL.noexc at h
  split at h
  · cases h
  · rename_i hh; exact hh _ _ h
theorem NE.bind {α β : Type} {m : M α} {f : α → M β} (h : NE m) (g : ∀ x, NE (f x)) : NE (m >>= f) := fun cs nm x e => by
  rw [M.bind_run] at e
  match e1 : m cs, e with
  | .ok (y, cs1), e => exact g y cs1 nm x e
  | .error er, e =>
    have e' : (Except.error er : Except Er (β × List PyData)) = .error (.exc nm x) := e
    injection e' with e'
    subst e'
    exact h cs nm x e1
theorem lcM_ne {τ : Type} (u : PyData → M τ) (t : τ → M Bool) (f : τ → M PyData) : ∀ (ds : List PyData), NE (lcM u t f ds)
  | [] => NE.pure _
  | d :: ds => by
    unfold lcM
    refine (NE.noexc _).bind fun x => (NE.noexc _).bind fun b => ?_
    split
    · exact (NE.noexc _).bind fun y => (lcM_ne u t f ds).bind fun ys => NE.pure _
    · exact lcM_ne u t f ds
theorem wipe_sub (σ : St) (vs : List Nat) : ∀ ws : List Nat, (∀ i ∈ ws, i ∈ vs) → wipe (wipe σ ws) vs = wipe σ vs
  | [], _ => rfl
  | w :: ws, h => by
    show wipe ((wipe σ ws).set w none) vs = _
    rw [wipe_set (h w (by simp)), wipe_sub σ vs ws fun i hi => h i (by simp [hi])]
section
variable {X : Cx} {C : Ct} {ρ : List Sl} {elt tg iter : Expr} {ifs : List Expr} {scope : Scope} {own : List (Str × Nat)} {pos : Pos} {τ : Type} {mi : M (List PyData)} {u : PyData → M τ} {st : τ → List Sl → List Sl} {mt : τ → M Bool} {me : τ → M PyData}
theorem lc_walk {K : PySem.W.Frag} {mg : Str → Option Value} {g : TG} {tt : TT} {te : TE} {vs : List Nat} {J : It} {F H : Hp} {σ : St} {cs : List PyData} {Q : VK} {ds : List PyData}
    (e : EnvOk K mg C F H σ ρ) (q : CupOk K C F H cs) (hJ : ItOk K J F ds) (hz : ds.length ≤ sizeLine)
    (h : Res K mg C F H (lcM u mt me ds cs) (kO K C H Q))
    (hg : ∀ (F H : Hp) (σ : St) (ρ : List Sl) (x : V) (d : PyData) (cs : List PyData) (Q : St → Hp → Prop), EnvOk K mg C.blk F H σ ρ → CupOk K C.blk F H cs → Rp K F x d →
      Res K mg C.blk F H (u d cs) (fun t cs' F' H' => ∀ σ', EnvOk K mg C.blk F' H' σ' (st t ρ) → L2.wipe σ' vs = L2.wipe σ vs → Q σ' H') → g x σ H Q)
    (ht : ∀ t σ H Q, tTm K mg C.blk (st t (wipeR ρ vs)) (mt t) σ H Q → tt σ H Q)
    (he : ∀ t σ H Q, tM K mg C.blk (st t (wipeR ρ vs)) (me t) σ H Q → te σ H Q) : ∀ D, H D = none →
    ∃ W : Nat → Nat → Hp → Prop, (∃ m, W 0 m (upd H D (.lst []))) ∧ ∀ i m H, W i m H →
  (J.stop i H ∧ Q (.ref D) H) ∨ (J.go i H ∧ ∃ Nx : Hp → Prop, (∀ H', Nx H' → ∃ m', m' < m ∧ W (i + 1) m' H') ∧ ∀ x H', J.yld i H x H' → g x (L2.wipe σ vs) H' fun σ2 H2 => L2.wipe σ2 vs = L2.wipe σ vs ∧ tt σ2 H2 fun b H3 =>
    if b = true then te σ2 H3 fun y H4 => ∃ acc, H4 D = some (.lst acc) ∧ acc.length < sizeLine ∧ Nx (upd H4 D (.lst (acc ++ [y]))) else Nx H3) := by
  intro D nD
  have cD : C.c ≠ some D := q.ne nD
  have FD : F D = none := e.sub.fresh nD
  have hN : ResN K C F H (lcM u mt me ds cs) fun ys _ F'' H'' => F'' D = none → ∀ vs, Rps K F'' vs ys → Q (.ref D) (upd H'' D (.lst vs)) := by
    match e1 : lcM u mt me ds cs, h with
    | .ok (ys, cs1), h =>
      intro F1 H1 g1 q1 n1 vs rs
      exact h F1 (upd H1 D (.lst vs)) (g1.updFresh nD n1) (q1.upd cD) D vs nD upd_same n1 cD rs
    | .error (.exc nm x), h => exact absurd e1 (lcM_ne u mt me ds cs nm x)
  refine ⟨fun i m Hc => m = ds.length - i ∧ i ≤ ds.length ∧ ∃ F' cs' acc vacc, Grow C.c F H F' Hc ∧ CupOk K C F' Hc cs' ∧ Hc D = some (.lst vacc) ∧ F' D = none ∧ Rps K F' vacc acc ∧ vacc.length ≤ i ∧
    ResN K C F' Hc (lcM u mt me (ds.drop i) cs') (fun ys _ F'' H'' => F'' D = none → ∀ vs, Rps K F'' vs (acc ++ ys) → Q (.ref D) (upd H'' D (.lst vs))), ⟨ds.length, by simp, Nat.zero_le _, F, cs, [], [], Grow.fresh e.sub nD, q.upd cD, upd_same, FD, .nil, Nat.zero_le _, ?_⟩, ?_⟩
  · match lcM u mt me ds cs, hN with
    | .ok (ys, cs1), hN =>
      intro F1 H1 g1 q1 n1 vs rs
      have g0 : Grow C.c F H F1 H1 := (Grow.fresh e.sub nD).trans g1
      exact hN F1 H1 g0 q1 n1 vs rs
    | .error _, hN => exact hN.elim
  · rintro i m Hc ⟨rfl, hi, F', cs', acc, vacc, gc, qc, eD, nF', rs, hl, hr⟩
    have ec := e.grow gc
    by_cases hlt : i < ds.length
    · have ed : ds[i]? = some ds[i] := List.getElem?_eq_getElem hlt
      obtain ⟨go, yl⟩ := (hJ i F' Hc gc.le gc.sub).2 _ ed
      refine .inr ⟨go, fun H' => (fun i m Hc => m = ds.length - i ∧ i ≤ ds.length ∧ ∃ F' cs' acc vacc, Grow C.c F H F' Hc ∧ CupOk K C F' Hc cs' ∧ Hc D = some (.lst vacc) ∧ F' D = none ∧ Rps K F' vacc acc ∧ vacc.length ≤ i ∧
    ResN K C F' Hc (lcM u mt me (ds.drop i) cs') (fun ys _ F'' H'' => F'' D = none → ∀ vs, Rps K F'' vs (acc ++ ys) → Q (.ref D) (upd H'' D (.lst vs)))) (i + 1) (ds.length - (i + 1)) H', fun H' w => ⟨ds.length - (i + 1), by omega, w⟩, fun x Hy y => ?_⟩
      obtain ⟨F2, g2, rx⟩ := yl x Hy y
      have q2 : CupOk K C F2 Hy cs' := qc.grow0 (g2 none)
      have gy : Grow C.c F H F2 Hy := gc.trans (g2 C.c)
      have hr2 := hr.grow (g2 C.c)
      rw [List.drop_eq_getElem_cons hlt] at hr2
      unfold lcM at hr2
      have hu := hr2.bind (mg := mg)
      refine hg F2 Hy (L2.wipe σ vs) (wipeR ρ vs) x ds[i] cs' _ ((e.grow gy).wipe vs).ct q2 rx (hu.mono fun t cs3 F3 H3 g3 q3 h3 σ' e3 wp => ?_)
      refine ⟨by rw [wp, wipe_sub σ vs vs fun _ h => h], ht t σ' H3 _ ⟨F3, cs3, e3, q3, (h3.bind (mg := mg)).mono fun b cs4 F4 H4 g4 q4 h4 => ?_⟩⟩
      have g3' : Grow C.c F2 Hy F3 H3 := g3
      have g4' : Grow C.c F3 H3 F4 H4 := g4
      have gA : Grow C.c F' Hc F4 H4 := (g2 C.c).trans (g3'.trans g4')
      cases b with
      | false =>
        refine ⟨rfl, by omega, F4, cs4, acc, vacc, gc.trans gA, q4, gA.keep _ _ eD cD, gA.nF (by rw [eD]; simp) (by rw [eD]; simp) nF', rs.mono gA.le, by omega, h4⟩
      | true =>
        refine he t σ' H4 _ ⟨F4, cs4, e3.grow g4', q4, ?_⟩
        have h4' : ResN K C F4 H4 ((do let y ← noexc (me t); let ys ← lcM u mt me (ds.drop (i + 1)); pure (y :: ys) : M (List PyData)) cs4) _ := h4
        refine (h4'.bind (mg := mg)).mono fun dy cs5 F5 H5 g5 q5 h5 v rv => ?_
        have g5' : Grow C.c F4 H4 F5 H5 := g5
        have gB : Grow C.c F' Hc F5 H5 := gA.trans g5'
        have e5 : H5 D = some (.lst vacc) := gB.keep _ _ eD cD
        have n5 : F5 D = none := gB.nF (by rw [eD]; simp) (by rw [eD]; simp) nF'
        have g0 : Grow C.c F H F5 H5 := gc.trans gB
        refine ⟨vacc, e5, by omega, rfl, by omega, F5, cs5, acc ++ [dy], vacc ++ [v], g0.updFresh nD n5, q5.upd cD, upd_same, n5, (rs.mono gB.le).append (.one rv), by rw [List.length_append]; simp; omega, ?_⟩
        have h6 := h5.cons
        match lcM u mt me (ds.drop (i + 1)) cs5, h6 with
        | .ok (ys, cs6), h6 =>
          intro F7 H7 g7 q7 n7 vs7 r7
          have z := h6 F7 (upd H7 D (.lst vacc)) (g7.swap n5 (by rw [e5]; simp) e5) (q7.upd cD) n7 vs7 (by rw [List.append_assoc] at r7; exact r7)
          rw [upd_upd] at z
          exact z
        | .error _, h6 => exact h6.elim
    · have hi' : i = ds.length := by omega
      subst hi'
      refine .inl ⟨(hJ _ F' Hc gc.le gc.sub).1 (Nat.le_refl _), ?_⟩
      rw [List.drop_length] at hr
      have z := hr F' Hc (Grow.refl gc.sub) qc nF' vacc (by rw [List.append_nil]; exact rs)
      rw [upd_id eD] at z
      exact z
/-- what the reading of a comprehension asks -/
theorem lc_read {g : TG} {vs : List Nat} (hg : FG' X u st vs g) (σ : St) (H : Hp) (Q : VK) (h : tO X.K X.mg C ρ (do let ds ← mi; lcM u mt me ds) σ H Q) :
    tLc (tIm X.K X.mg C ρ mi) g (fun σ H Q => ∃ t, tTm X.K X.mg C.blk (st t (wipeR ρ vs)) (mt t) σ H Q) (fun σ H Q => ∃ t, tM X.K X.mg C.blk (st t (wipeR ρ vs)) (me t) σ H Q) vs σ H Q := by
  obtain ⟨F, cs, e, q, h⟩ := h
  rw [show ((do let ds ← mi; lcM u mt me ds : M (List PyData)) cs) = _ from M.bind_run _ _ _] at h
  refine ⟨F, cs, e, q, ?_⟩
  match e1 : mi cs, h with
  | .ok (ds, cs1), h =>
    intro F1 H1 g1 q1 J hJ hz
    have h : Res X.K X.mg C F H (lcM u mt me ds cs1) (kO X.K C H Q) := h
    have h' : Res X.K X.mg C F1 H1 (lcM u mt me ds cs1) (kO X.K C H1 Q) := by
      match e2 : lcM u mt me ds cs1, h with
      | .ok (ys, cs2), h => exact fun F2 H2 g2 q2 a vs n1 => h F2 H2 (g1.trans g2) q2 a vs (g1.free n1)
      | .error (.exc nm x), h => exact absurd e2 (lcM_ne u mt me ds cs1 nm x)
    exact lc_walk (tt := fun σ H Q => ∃ t, tTm X.K X.mg C.blk (st t (wipeR ρ vs)) (mt t) σ H Q) (te := fun σ H Q => ∃ t, tM X.K X.mg C.blk (st t (wipeR ρ vs)) (me t) σ H Q) (e.grow g1) q1 hJ hz h' (fun F H σ ρ x d cs Q e q r w => hg X.mg C.blk F H σ ρ x d cs Q e q r w) (fun t σ H Q w => ⟨t, w⟩) (fun t σ H Q w => ⟨t, w⟩)
  | .error (.exc nm x), h => exact h
/-- [elt for tg in iter if ..] -/
theorem fo_lc {g : TG} (hc : X.calm = true) (hN : X.N.Nodup) (hi : FI X C ρ tg iter mi) (ok : BlkOk X.N X.env.scope scope own)
    (hg : ∀ (s : Shared) (H : Hp) (Ca : Addr) (cl : List (Str × Addr)) (fp : List Addr), FG (X.blk s H scope (compEnvC scope cl Ca X.env) fp) tg u st (own.map (·.2)) g)
    (ht : ∀ (t : τ) (s : Shared) (H : Hp) (Ca : Addr) (cl : List (Str × Addr)) (fp : List Addr), FTs (X.blk s H scope (compEnvC scope cl Ca X.env) fp) C.blk (st t (wipeR ρ (own.map (·.2)))) ifs (mt t))
    (he : ∀ (t : τ) (s : Shared) (H : Hp) (Ca : Addr) (cl : List (Str × Addr)) (fp : List Addr), FE (X.blk s H scope (compEnvC scope cl Ca X.env) fp) C.blk (st t (wipeR ρ (own.map (·.2)))) elt (me t))
    (hs : ∀ x, foldedSetIterable iter X.env x = pure x := by intro _; rfl) :
    FO X C ρ (.ListComp elt [⟨tg, iter, ifs, 0⟩] scope pos) (do let ds ← mi; lcM u mt me ds) :=
  ⟨imE (pe_lc hc hN hi.pi ok (fun s H Ca cl fp => (hg s H Ca cl fp).pg) (fun s H Ca cl fp => ⟨fun pins s' σ H' Q I ⟨t, w⟩ => (ht t s H Ca cl fp).pt.run pins s' σ H' Q I w⟩)
    (fun s H Ca cl fp => ⟨fun pins s' σ H' Q I ⟨t, w⟩ => (he t s H Ca cl fp).pe.run pins s' σ H' Q I w⟩) hs) (lc_read (X := X) (hg ({} : Shared) (fun _ => none) 0 [] []).ok)⟩
end
end DL
end
section
set_option Elab.async false
set_option linter.all false
set_option maxRecDepth 100000
set_option maxHeartbeats 4000000
set_option autoImplicit false
namespace DL
open PySem PySem.Spec PyProof.Rows L2

/-! ### blocks -/
inductive Fl (τ β : Type) where
  | nx (t : τ) | bk (b : β) | ct (b : β) | rt (d : PyData)
section
variable (K : PySem.W.Frag) (mg : Str → Option Value) (C : Ct) {τ β : Type}
def kR (rk : Bool) (D : Ends) (F' H' : Hp) (d : PyData) : Prop :=
  if rk = true then ∀ xs a vs, d = .list xs → C.E a = none → H' a = some (.lst vs) → F' a = none → C.c ≠ some a → Rps K F' vs xs → D.rt (.ref a) H' else ∀ v, Rp K F' v d → D.rt v H'
def kB (emb : τ → List Sl) (embL : β → List Sl) (rk : Bool) (D : Ends) : Fl τ β → List PyData → Hp → Hp → Prop := fun fl _ F' H' => match fl with
  | .nx t => ∀ σ', EnvOk K mg C F' H' σ' (emb t) → D.nx σ' H'
  | .bk t => ∀ σ', EnvOk K mg C F' H' σ' (embL t) → D.bk σ' H'
  | .ct t => ∀ σ', EnvOk K mg C F' H' σ' (embL t) → D.ct σ' H'
  | .rt d => kR K C rk D F' H' d
def tBl (ρ : List Sl) (emb : τ → List Sl) (embL : β → List Sl) (rk : Bool) (m : M (Fl τ β)) : TS := fun D σ H => ∃ F cs, EnvOk K mg C F H σ ρ ∧ CupOk K C F H cs ∧ ResB K mg C F (m cs) (kB K mg C emb embL rk D)
end
structure FB (X : Cx) (C : Ct) {τ β : Type} (ρ : List Sl) (emb : τ → List Sl) (embL : β → List Sl) (rk : Bool) (st : List Stmt) (m : M (Fl τ β)) : Prop where
  ps : PSs X st (tBl X.K X.mg C ρ emb embL rk m)
/-- on behind a part that may end otherwise -/
def thenF {τ τ' β : Type} (m : M (Fl τ β)) (k : τ → M (Fl τ' β)) : M (Fl τ' β) := do
  match ← m with
  | .nx t => k t
  | .bk b => pure (.bk b)
  | .ct b => pure (.ct b)
  | .rt d => pure (.rt d)
def castF {τ β : Type} (m : M (Fl Empty β)) : M (Fl τ β) := do
  match ← m with
  | .bk b => pure (.bk b)
  | .ct b => pure (.ct b)
  | .rt d => pure (.rt d)
section
variable {X : Cx} {C : Ct} {ρ : List Sl} {τ τ' β : Type} {emb : τ → List Sl} {emb' : τ' → List Sl} {embL : β → List Sl} {rk : Bool} {rest : List Stmt} {s : Stmt} {e c : Expr} {m : M PyData} {pos p' : Pos} {x : Str}
theorem fb_nil (t : τ) (w : Wk ρ (emb t)) : FB X C ρ emb embL rk [] (pure (.nx t)) :=
  ⟨imSs pss_nil fun D σ H ⟨F, cs, e, q, h⟩ => ResB.pure h e.g0 q σ (e.wk w)⟩
/-- the next statement by values: it reads e and goes on -/
theorem fb_step {α : Type} {ma : M α} {k : α → M (Fl τ β)} {t : TS} (h1 : PS X s t)
    (hr : ∀ D σ H, tBl X.K X.mg C ρ emb embL rk (do let a ← ma; k a) D σ H → t { D with nx := fun σ' H' => ∃ a ρ', PSs X rest (tBl X.K X.mg C ρ' emb embL rk (k a)) ∧ tBl X.K X.mg C ρ' emb embL rk (k a) D σ' H' } σ H) :
    FB X C ρ emb embL rk (s :: rest) (do let a ← ma; k a) := by
  refine ⟨⟨fun pins s' σ H D I h => ?_⟩⟩
  refine wpAny_execs_cons (thn (h1.run pins s' σ H _ I (hr D σ H h)) fun f s1 q => ?_)
  cases f with
  | next =>
    obtain ⟨σ', H', I', a, ρ', hp, q⟩ := q
    exact hp.run pins s1 σ' H' D I' q
  | ret v => exact q
  | brk => exact q
  | cont => exact q
theorem fb_set (i : Nat) {k : PyData → M (Fl τ β)} (hN : X.N.Nodup) (he : FE X C ρ e m) (hk : ∀ d, FB X C (ρ.set i (.d d)) emb embL rk rest (k d)) (hi : X.N[i]? = some x := by rfl) (hx : Loc X.env.scope x := by first | exact Or.inl rfl | exact Or.inr rfl)
    (hs : swapsWith e (some (.Name x p')) pos.line X.env = pure false := by rfl) (hf : X.fn x = true ∨ X.env.scope.names.lookup x = some .local := by first | exact Or.inl rfl | exact Or.inr rfl) :
    FB X C ρ emb embL rk (.Assign [.Name x p'] e pos :: rest) (do let d ← m; k d) := by
  refine fb_step (ps_set hN hi hx he.pe hs hf) fun D σ H h => ?_
  obtain ⟨F, cs, e, q, h⟩ := h
  refine ⟨F, cs, e, q, (h.bind e.g0).mono fun d cs1 F1 H1 g1 q1 h1 v rv => ?_⟩
  exact ⟨d, ρ.set i (.d d), (hk d).ps, F1, cs1, (e.grow g1).setD i rv, q1, h1⟩
theorem EnvOk.newOwn {K : PySem.W.Frag} {mg : Str → Option Value} {F H F1 H1 : Hp} {σ : St} (e : EnvOk K mg C F H σ ρ) (g : Grow C.c F H F1 H1) (i : Nat) {a : Addr} {vs : List V} {xs : List PyData} (n : H a = none) (e1 : H1 a = some (.lst vs)) (e2 : F1 a = none) (e3 : C.c ≠ some a) (r : Rps K F1 vs xs) :
    EnvOk K mg C F1 H1 (σ.set i (some (.ref a))) (ρ.set i (.own xs)) := by
  refine (e.grow g).setOwn i e1 e2 e3 ?_ r fun j o => absurd n (e.owned o)
  cases q : C.E a with
  | none => rfl
  | some o => exact absurd n (e.ent a (by rw [q]; simp))
theorem fb_setO (i : Nat) {mo : M (List PyData)} {k : List PyData → M (Fl τ β)} (hN : X.N.Nodup) (he : FO X C ρ e mo) (hk : ∀ xs, FB X C (ρ.set i (.own xs)) emb embL rk rest (k xs)) (hi : X.N[i]? = some x := by rfl) (hx : Loc X.env.scope x := by first | exact Or.inl rfl | exact Or.inr rfl)
    (hs : swapsWith e (some (.Name x p')) pos.line X.env = pure false := by rfl) (hf : X.fn x = true ∨ X.env.scope.names.lookup x = some .local := by first | exact Or.inl rfl | exact Or.inr rfl) :
    FB X C ρ emb embL rk (.Assign [.Name x p'] e pos :: rest) (do let xs ← mo; k xs) := by
  refine fb_step (ps_set hN hi hx he.pe hs hf) fun D σ H h => ?_
  obtain ⟨F, cs, e, q, h⟩ := h
  refine ⟨F, cs, e, q, (h.bind e.g0).mono fun xs cs1 F1 H1 g1 q1 h1 a vs n e1 e2 e3 r => ?_⟩
  exact ⟨xs, ρ.set i (.own xs), (hk xs).ps, F1, cs1, e.newOwn g1 i n e1 e2 e3 r, q1, h1⟩
/-- name = [elt for ..] on one line -/
theorem fb_setLc (i : Nat) {elt tg iter : Expr} {ifs : List Expr} {scope : Scope} {own : List (Str × Nat)} {spos : Pos} {υ : Type} {mi : M (List PyData)} {u : PyData → M υ} {st : υ → List Sl → List Sl} {mt : υ → M Bool} {me : υ → M PyData} {g : TG} {k : List PyData → M (Fl τ β)}
    (hc : X.calm = true) (hN : X.N.Nodup) (hi : FI X C ρ tg iter mi) (ok : BlkOk X.N X.env.scope scope own)
    (hg : ∀ (s : Shared) (H : Hp) (Ca : Addr) (cl : List (Str × Addr)) (fp : List Addr), FG (X.blk s H scope (compEnvC scope cl Ca X.env) fp) tg u st (own.map (·.2)) g)
    (ht : ∀ (t : υ) (s : Shared) (H : Hp) (Ca : Addr) (cl : List (Str × Addr)) (fp : List Addr), FTs (X.blk s H scope (compEnvC scope cl Ca X.env) fp) C.blk (st t (wipeR ρ (own.map (·.2)))) ifs (mt t))
    (he : ∀ (t : υ) (s : Shared) (H : Hp) (Ca : Addr) (cl : List (Str × Addr)) (fp : List Addr), FE (X.blk s H scope (compEnvC scope cl Ca X.env) fp) C.blk (st t (wipeR ρ (own.map (·.2)))) elt (me t))
    (hk : ∀ xs, FB X C (ρ.set i (.own xs)) emb embL rk rest (k xs)) (hy : X.N[i]? = some x := by rfl) (hyl : X.env.scope.names.lookup x = some .local := by rfl)
    (hsw : swapsWith (.ListComp elt [⟨tg, iter, ifs, 0⟩] scope pos) (some (.Name x p')) spos.line X.env = pure true := by exact sw_true rfl rfl rfl (by decide +kernel))
    (hs : ∀ x, foldedSetIterable iter X.env x = pure x := by intro _; rfl) :
    FB X C ρ emb embL rk (.Assign [.Name x p'] (.ListComp elt [⟨tg, iter, ifs, 0⟩] scope pos) spos :: rest) (do let xs ← (do let ds ← mi; lcM u mt me ds); k xs) := by
  have p1 := ps_setLc (spos := spos) hc hN hy hyl hsw hi.pi ok (fun s H Ca cl fp => (hg s H Ca cl fp).pg) (tt := fun σ H Q => ∃ t, tTm X.K X.mg C.blk (st t (wipeR ρ (own.map (·.2)))) (mt t) σ H Q) (te := fun σ H Q => ∃ t, tM X.K X.mg C.blk (st t (wipeR ρ (own.map (·.2)))) (me t) σ H Q)
    (fun s H Ca cl fp => ⟨fun pins s' σ H' Q I ⟨t, w⟩ => (ht t s H Ca cl fp).pt.run pins s' σ H' Q I w⟩) (fun s H Ca cl fp => ⟨fun pins s' σ H' Q I ⟨t, w⟩ => (he t s H Ca cl fp).pe.run pins s' σ H' Q I w⟩) hs
  refine fb_step p1 fun D σ H h => ?_
  refine lc_read (X := X) (hg ({} : Shared) (fun _ => none) 0 [] []).ok σ H _ ?_
  obtain ⟨F, cs, e, q, h⟩ := h
  refine ⟨F, cs, e, q, (h.bind e.g0).mono fun xs cs1 F1 H1 g1 q1 h1 a vs n e1 e2 e3 r => ?_⟩
  exact ⟨xs, ρ.set i (.own xs), (hk xs).ps, F1, cs1, e.newOwn g1 i n e1 e2 e3 r, q1, h1⟩
/-- an expression for its effect -/
theorem fb_expr {k : PyData → M (Fl τ β)} (he : FE X C ρ e m) (hk : ∀ d, FB X C ρ emb embL rk rest (k d)) (hs : swapsWith e none pos.line X.env = pure false := by rfl) : FB X C ρ emb embL rk (.Expr e pos :: rest) (do let d ← m; k d) := by
  refine fb_step (ps_expr he.pe hs) fun D σ H h => ?_
  obtain ⟨F, cs, e, q, h⟩ := h
  exact ⟨F, cs, e, q, (h.bind e.g0).mono fun d cs1 F1 H1 g1 q1 h1 v rv => ⟨d, ρ, (hk d).ps, F1, cs1, e.grow g1, q1, h1⟩⟩
theorem fb_pass {mr : M (Fl τ β)} (hr : FB X C ρ emb embL rk rest mr) : FB X C ρ emb embL rk (.Pass pos :: rest) mr := ⟨imSs (pss_cons ps_pass hr.ps) fun D σ H h => h⟩
/-- an own list is frozen -/
theorem EnvOk.freeze {K : PySem.W.Frag} {mg : Str → Option Value} {F H : Hp} {σ : St} (e : EnvOk K mg C F H σ ρ) (i : Nat) {xs : List PyData} (hρ : ρ[i]? = some (.own xs)) :
    ∃ a vs, σ[i]? = some (some (.ref a)) ∧ H a = some (.lst vs) ∧ F a = none ∧ C.c ≠ some a ∧ Rps K F vs xs ∧ EnvOk K mg C (L2.upd F a (.lst vs)) H σ (ρ.set i (.d (.list xs))) := by
  obtain ⟨a, vs, e1, e2, e3, e4, e5, r⟩ := e.sl i _ hρ
  have nn : ∀ j b, j ≠ i → OwnAt ρ σ j b → b ≠ a := fun j b hj o z => hj (e.sep j i a (z ▸ o) ⟨_, hρ, rfl, e1⟩)
  have le : Le F (L2.upd F a (.lst vs)) := Le.fz e3
  refine ⟨a, vs, e1, e2, e3, e4, r, by rw [List.length_set]; exact e.len, e.g0.freeze e5 e3 (by rw [e2]; exact RdO.lst), fun j s ej => ?_, fun j k b h1 h2 => ?_⟩
  · by_cases hj : i = j
    · subst hj
      rw [List.getElem?_set_self ((List.getElem?_eq_some_iff.mp hρ).1)] at ej
      cases ej
      exact ⟨_, e1, .lst (.inl upd_same) (r.mono le)⟩
    · rw [List.getElem?_set_ne hj] at ej
      have sj := e.sl j s ej
      have own : ∀ b, isOwn s = true → σ[j]? = some (some (.ref b)) → b ≠ a := fun b o ob => nn j b (fun z => hj z.symm) ⟨s, ej, o, ob⟩
      cases s with
      | un => trivial
      | d y => obtain ⟨v, z, rv⟩ := sj; exact ⟨v, z, rv.mono le⟩
      | own ys => obtain ⟨b, ws, z, z1, z2, z3, z4, rb⟩ := sj; exact ⟨b, ws, z, z1, by rw [upd_ne (own b rfl z)]; exact z2, z3, z4, rb.mono le⟩
      | odK ys => obtain ⟨b, ws, z, z1, z2, z3, z4, rb⟩ := sj; exact ⟨b, ws, z, z1, by rw [upd_ne (own b rfl z)]; exact z2, z3, z4, rb.mono le⟩
      | odT ys => obtain ⟨b, ws, z, z1, z2, z3, z4, rb⟩ := sj; exact ⟨b, ws, z, z1, by rw [upd_ne (own b rfl z)]; exact z2, z3, z4, rb.mono le⟩
      | cup => exact sj
      | fn y => exact sj
  · have key : ∀ j, OwnAt (ρ.set i (.d (.list xs))) σ j b → OwnAt ρ σ j b := by
      rintro j ⟨s, z1, z2, z3⟩
      by_cases hj : i = j
      · subst hj
        rw [List.getElem?_set_self ((List.getElem?_eq_some_iff.mp hρ).1)] at z1
        cases z1; cases z2
      · rw [List.getElem?_set_ne hj] at z1
        exact ⟨s, z1, z2, z3⟩
    exact e.sep j k b (key j h1) (key k h2)
theorem fb_frz (i : Nat) {xs : List PyData} {mr : M (Fl τ β)} {sts : List Stmt} (h : FB X C (ρ.set i (.d (.list xs))) emb embL rk sts mr) (hρ : ρ[i]? = some (.own xs) := by rfl) : FB X C ρ emb embL rk sts mr := by
  refine ⟨imSs h.ps fun D σ H h => ?_⟩
  obtain ⟨F, cs, e, q, h⟩ := h
  obtain ⟨a, vs, e1, e2, e3, e4, r, e'⟩ := e.freeze i hρ
  exact ⟨_, cs, e', q.fz e3 e4, h.le (Le.fz e3)⟩

/-! return -/
theorem fb_ret {τ β : Type} {emb : τ → List Sl} {embL : β → List Sl} (he : FE X C ρ e m) : FB X C ρ emb embL false (.Return (some e) pos :: rest) (do let d ← m; pure (.rt d)) := by
  refine ⟨imSs (pss_cons (ps_ret he.pe) pss_never) fun D σ H h => ?_⟩
  obtain ⟨F, cs, e, q, h⟩ := h
  refine ⟨F, cs, e, q, (h.bind e.g0).mono fun d cs1 F1 H1 g1 q1 h1 v rv => ?_⟩
  exact ResB.pure h1 (e.g0.trans g1) q1 v rv
theorem fb_retN {τ β : Type} {emb : τ → List Sl} {embL : β → List Sl} : FB X C ρ emb embL false (.Return none pos :: rest) (pure (.rt .none)) := by
  refine ⟨imSs (pss_cons ps_retN pss_never) fun D σ H h => ?_⟩
  obtain ⟨F, cs, e, q, h⟩ := h
  exact ResB.pure h e.g0 q .non .non
/-- an own list is handed back as one's own: a fresh one, a name -/
theorem fb_retO {τ β : Type} {emb : τ → List Sl} {embL : β → List Sl} {mo : M (List PyData)} (he : FO X C ρ e mo) : FB X C ρ emb embL true (.Return (some e) pos :: rest) (do let xs ← mo; pure (.rt (.list xs))) := by
  refine ⟨imSs (pss_cons (ps_ret he.pe) pss_never) fun D σ H h => ?_⟩
  obtain ⟨F, cs, e, q, h⟩ := h
  refine ⟨F, cs, e, q, (h.bind e.g0).mono fun xs cs1 F1 H1 g1 q1 h1 a vs n e1 e2 e3 r => ?_⟩
  refine ResB.pure h1 (e.g0.trans g1) q1 xs a vs rfl ?_ e1 e2 e3 r
  cases q : C.E a with
  | none => rfl
  | some o => exact absurd n (e.ent a (by rw [q]; simp))
theorem fb_retV {τ β : Type} {emb : τ → List Sl} {embL : β → List Sl} (i : Nat) {xs : List PyData} (hρ : ρ[i]? = some (.own xs) := by rfl) (hN : X.N[i]? = some x := by rfl) (hv : Vis X.env.scope x := by first | exact Or.inl rfl | exact Or.inr (Or.inl rfl) | exact Or.inr (Or.inr rfl))
    (hd : (x == ("__debug__" : Str)) = false := by decide) (hcd : (x == ("__classdict__" : Str)) = false := by decide) : FB X C ρ emb embL true (.Return (some (.Name x p')) pos :: rest) (pure (.rt (.list xs))) := by
  refine ⟨imSs (pss_cons (ps_ret (pe_var hN hv hd hcd)) pss_never) fun D σ H h => ?_⟩
  obtain ⟨F, cs, e, q, h⟩ := h
  obtain ⟨a, vs, e1, e2, e3, e4, e5, r⟩ := e.sl i _ hρ
  exact ⟨.ref a, e1, ResB.pure h e.g0 q xs a vs rfl e5 e2 e3 e4 r⟩

/-! if -/
theorem fb_if {A B : List Stmt} {mc : M Bool} {mA mB : M (Fl τ' β)} {k : τ' → M (Fl τ β)} (hc : FT X C ρ c mc) (hA : FB X C ρ emb' embL rk A mA) (hB : FB X C ρ emb' embL rk B mB) (hk : ∀ t, FB X C (emb' t) emb embL rk rest (k t)) :
    FB X C ρ emb embL rk (.If c A B pos :: rest) (thenF (do let b ← mc; if b = true then mA else mB) k) := by
  have hR : PSs X rest (fun D σ H => ∃ t, tBl X.K X.mg C (emb' t) emb embL rk (k t) D σ H) := ⟨fun pins s' σ H D I ⟨t, w⟩ => (hk t).ps.run pins s' σ H D I w⟩
  refine ⟨imSs (pss_cons (ps_if hc.pt hA.ps hB.ps) hR) fun D σ H h => ?_⟩
  obtain ⟨F, cs, e, q, h⟩ := h
  unfold thenF at h
  have h2 := h.split
  refine ⟨F, cs, e, q, (h2.bind e.g0).mono fun b cs1 F1 H1 g1 q1 h1 => ?_⟩
  have fin : ∀ {m : M (Fl τ' β)}, ResB X.K X.mg C F1 (m cs1) (fun fl cs1 F2 _ => ResB X.K X.mg C F2 ((match fl with | .nx t => k t | .bk b => pure (.bk b) | .ct b => pure (.ct b) | .rt d => pure (.rt d) : M (Fl τ β)) cs1) (kB X.K X.mg C emb embL rk D)) →
      tBl X.K X.mg C ρ emb' embL rk m { D with nx := fun σ H => ∃ t, tBl X.K X.mg C (emb' t) emb embL rk (k t) D σ H } σ H1 := fun {m} h3 => by
    refine ⟨F1, cs1, e.grow g1, q1, h3.mono fun fl cs2 F2 H2 l2 g2 q2 h4 => ?_⟩
    cases fl with
    | nx t => exact fun σ' e' => ⟨t, F2, cs2, e', q2, h4⟩
    | bk b => exact ResB.pure (mg := X.mg) h4 g2 q2
    | ct b => exact ResB.pure (mg := X.mg) h4 g2 q2
    | rt d => exact ResB.pure (mg := X.mg) h4 g2 q2
  cases b with
  | true => exact iteT (B := tBl X.K X.mg C ρ emb' embL rk mB { D with nx := fun σ H => ∃ t, tBl X.K X.mg C (emb' t) emb embL rk (k t) D σ H } σ H1) (fin h1)
  | false => exact iteF (A := tBl X.K X.mg C ρ emb' embL rk mA { D with nx := fun σ H => ∃ t, tBl X.K X.mg C (emb' t) emb embL rk (k t) D σ H } σ H1) (fin h1)
/-- if c: A, which never falls through -/
theorem fb_ifR {A : List Stmt} {emb0 : Empty → List Sl} {mc : M Bool} {mA : M (Fl Empty β)} {mr : M (Fl τ β)} (hc : FT X C ρ c mc) (hA : FB X C ρ emb0 embL rk A mA) (hr : FB X C ρ emb embL rk rest mr) :
    FB X C ρ emb embL rk (.If c A [] pos :: rest) (do let b ← mc; if b = true then castF mA else mr) := by
  have hR : PSs X rest (fun D σ H => tBl X.K X.mg C ρ emb embL rk mr D σ H) := hr.ps
  refine ⟨imSs (pss_cons (ps_if hc.pt hA.ps pss_nil) hR) fun D σ H h => ?_⟩
  obtain ⟨F, cs, e, q, h⟩ := h
  refine ⟨F, cs, e, q, (h.bind e.g0).mono fun b cs1 F1 H1 g1 q1 h1 => ?_⟩
  cases b with
  | true =>
    refine iteT (B := tNext { D with nx := fun σ H => tBl X.K X.mg C ρ emb embL rk mr D σ H } σ H1) ⟨F1, cs1, e.grow g1, q1, ?_⟩
    have h1 : ResB X.K X.mg C F1 (castF mA cs1) (kB X.K X.mg C emb embL rk D) := h1
    unfold castF at h1
    refine h1.split.mono fun fl cs2 F2 H2 l2 g2 q2 h4 => ?_
    cases fl with
    | nx t => exact nomatch t
    | bk b => exact ResB.pure (mg := X.mg) h4 g2 q2
    | ct b => exact ResB.pure (mg := X.mg) h4 g2 q2
    | rt d => exact ResB.pure (mg := X.mg) h4 g2 q2
  | false => exact iteF (A := tBl X.K X.mg C ρ emb0 embL rk mA { D with nx := fun σ H => tBl X.K X.mg C ρ emb embL rk mr D σ H } σ H1) ⟨F1, cs1, e.grow g1, q1, h1⟩
/-- if c: A else: B, neither falls through -/
theorem fb_ifRR {A B : List Stmt} {mc : M Bool} {mA mB : M (Fl τ β)} (hc : FT X C ρ c mc) (hA : FB X C ρ emb embL rk A mA) (hB : FB X C ρ emb embL rk B mB) :
    FB X C ρ emb embL rk [.If c A B pos] (do let b ← mc; if b = true then mA else mB) := by
  refine ⟨imSs (pss_one (ps_if hc.pt hA.ps hB.ps)) fun D σ H h => ?_⟩
  obtain ⟨F, cs, e, q, h⟩ := h
  refine ⟨F, cs, e, q, (h.bind e.g0).mono fun b cs1 F1 H1 g1 q1 h1 => ?_⟩
  cases b with
  | true => exact iteT (B := tBl X.K X.mg C ρ emb embL rk mB D σ H1) ⟨F1, cs1, e.grow g1, q1, h1⟩
  | false => exact iteF (A := tBl X.K X.mg C ρ emb embL rk mA D σ H1) ⟨F1, cs1, e.grow g1, q1, h1⟩

/-! for -/
def pFor {τ υ : Type} (u : PyData → M υ) (b : υ → τ → M (Fl τ τ)) : List PyData → τ → M (τ ⊕ PyData)
  | [], t => pure (.inl t)
  | d :: ds, t => do
    let x ← u d
    match ← b x t with
    | .nx t' => pFor u b ds t'
    | .ct t' => pFor u b ds t'
    | .bk t' => pure (.inl t')
    | .rt v => pure (.inr v)
def contL {τ τ' β : Type} (r : τ' ⊕ PyData) (k : τ' → M (Fl τ β)) : M (Fl τ β) := match r with
  | .inl t => k t
  | .inr d => pure (.rt d)
theorem CupOk.it {K : PySem.W.Frag} {F H F' H' : Hp} {cs : List PyData} (q : CupOk K C F H cs) (g : ∀ c, Grow c F H F' H') : CupOk K C F' H' cs := q.grow0 (g none)
theorem fb_for {υ : Type} {tg iter : Expr} {body : List Stmt} {mi : M (List PyData)} {u : PyData → M υ} {st : υ → List Sl → List Sl} {vs : List Nat} {g : TG} {e0 : τ' → List Sl} {mb : υ → τ' → M (Fl τ' τ')} {k : τ' → M (Fl τ β)} (t0 : τ')
    (hp : PassesOwn (model X.prog X.w) X.A X.env X.xe) (hc : X.calm = true) (hi : FI X C ρ tg iter mi) (hg : FG X tg u st vs g) (w0 : Wk ρ (e0 t0)) (hb : ∀ x t, FB X C (st x (e0 t)) e0 e0 rk body (mb x t)) (hk : ∀ t, FB X C (e0 t) emb embL rk rest (k t))
    (hs : ∀ x, foldedSetIterable iter X.env x = pure x := by intro _; rfl) :
    FB X C ρ emb embL rk (.For tg iter body [] pos :: rest) (do let ds ← mi; let r ← pFor u mb ds t0; contL r k) := by
  have hR : PSs X rest (fun D σ H => ∃ t, tBl X.K X.mg C (e0 t) emb embL rk (k t) D σ H) := ⟨fun pins s' σ H D I ⟨t, w⟩ => (hk t).ps.run pins s' σ H D I w⟩
  have hB : PSs X body (fun D σ H => ∃ x t, tBl X.K X.mg C (st x (e0 t)) e0 e0 rk (mb x t) D σ H) := ⟨fun pins s' σ H D I ⟨x, t, w⟩ => (hb x t).ps.run pins s' σ H D I w⟩
  refine ⟨imSs (pss_cons (ps_for hp hc hi.pi hg.pg hB hs) hR) fun D σ H h => ?_⟩
  obtain ⟨F, cs, e, q, h⟩ := h
  refine ⟨F, cs, e, q, (h.bind e.g0).mono fun ds cs1 F1 H1 g1 q1 h1 J hJ hz => ?_⟩
  refine ⟨fun i m σ Hc => m = ds.length - i ∧ i ≤ ds.length ∧ ∃ F' cs' t, Le F1 F' ∧ EnvOk X.K X.mg C F' Hc σ (e0 t) ∧ CupOk X.K C F' Hc cs' ∧ ResB X.K X.mg C F' ((do let r ← pFor u mb (ds.drop i) t; contL r k : M (Fl τ β)) cs') (kB X.K X.mg C emb embL rk D),
    ⟨ds.length, by simp, Nat.zero_le _, F1, cs1, t0, Le.refl _, (e.grow g1).wk w0, q1, h1⟩, ?_⟩
  rintro i m σ Hc ⟨rfl, hi', F', cs', t, le, ec, qc, hr⟩
  by_cases hlt : i < ds.length
  · have ed : ds[i]? = some ds[i] := List.getElem?_eq_getElem hlt
    obtain ⟨go, yl⟩ := (hJ i F' Hc le ec.sub).2 _ ed
    refine .inr ⟨go, fun σ' H' => ∃ F' cs' t, Le F1 F' ∧ EnvOk X.K X.mg C F' H' σ' (e0 t) ∧ CupOk X.K C F' H' cs' ∧ ResB X.K X.mg C F' ((do let r ← pFor u mb (ds.drop (i + 1)) t; contL r k : M (Fl τ β)) cs') (kB X.K X.mg C emb embL rk D),
      fun σ' H' w => ⟨ds.length - (i + 1), by omega, rfl, by omega, w⟩, fun x Hy y => ?_⟩
    obtain ⟨F2, g2, rx⟩ := yl x Hy y
    have q2 : CupOk X.K C F2 Hy cs' := qc.it g2
    have e2 := ec.grow (g2 C.c)
    rw [List.drop_eq_getElem_cons hlt] at hr
    unfold pFor at hr
    rw [bind_assoc] at hr
    have le2 : Le F1 F2 := le.trans (g2 C.c).le
    refine hg.ok X.mg C F2 Hy σ (e0 t) x ds[i] cs' _ e2 q2 rx (((hr.le (g2 C.c).le).bind e2.g0).mono fun xv cs3 F3 H3 g3 q3 h3 σ' e3 _ => ?_)
    rw [bind_assoc] at h3
    refine ⟨xv, t, F3, cs3, e3, q3, h3.split.mono fun fl cs4 F4 H4 l4 g4 q4 h4 => ?_⟩
    have le4 : Le F1 F4 := le2.trans (g3.le.trans l4)
    cases fl with
    | nx t' => exact fun σ4 e4 => ⟨F4, cs4, t', le4, e4, q4, h4⟩
    | ct t' => exact fun σ4 e4 => ⟨F4, cs4, t', le4, e4, q4, h4⟩
    | bk t' => exact fun σ4 e4 => ⟨t', F4, cs4, e4, q4, h4⟩
    | rt d => exact ResB.pure (mg := X.mg) h4 g4 q4
  · have hi2 : i = ds.length := by omega
    subst hi2
    refine .inl ⟨(hJ _ F' Hc le ec.sub).1 (Nat.le_refl _), ?_⟩
    rw [List.drop_length] at hr
    unfold pFor at hr
    rw [pure_bind] at hr
    exact ⟨t, F', cs', ec, qc, hr⟩
end
end DL
end
section
set_option Elab.async false
set_option linter.all false
set_option maxRecDepth 100000
set_option maxHeartbeats 4000000
set_option autoImplicit false
namespace DL
open PySem PySem.Spec PyProof.Rows L2

/-! ### while -/
def whileF {τ : Type} (c : τ → M Bool) (b : τ → M (Fl τ τ)) : Nat → τ → M (τ ⊕ PyData)
  | 0, _ => stuck
  | n + 1, t => do
    let z ← c t
    if z = true then (do
      match ← b t with
      | .nx t' => whileF c b n t'
      | .ct t' => whileF c b n t'
      | .bk t' => pure (.inl t')
      | .rt v => pure (.inr v))
    else pure (.inl t)
def isStuck {α : Type} : Except Er α → Prop
  | .error .stuck => True
  | _ => False
open Classical in
noncomputable def pWhile {τ : Type} (c : τ → M Bool) (b : τ → M (Fl τ τ)) (t : τ) : M (τ ⊕ PyData) := fun cs =>
  if h : ∃ n, ¬ isStuck (whileF c b n t cs) then whileF c b h.choose t cs else .error .stuck
/-- m is less defined than m' -/
def LeM {α : Type} (m m' : M α) : Prop := ∀ cs, ¬ isStuck (m cs) → m' cs = m cs
theorem LeM.refl {α : Type} (m : M α) : LeM m m := fun _ _ => rfl
theorem LeM.stuck {α : Type} (m : M α) : LeM DL.stuck m := fun _ h => absurd trivial h
theorem LeM.bind {α β : Type} {m m' : M α} {f f' : α → M β} (h : LeM m m') (g : ∀ x, LeM (f x) (f' x)) : LeM (m >>= f) (m' >>= f') := fun cs n => by
  rw [M.bind_run] at n ⊢
  rw [M.bind_run]
  have hm : ¬ isStuck (m cs) := fun z => n (by
    match e : m cs, z with
    | .error .stuck, _ => trivial)
  rw [h cs hm]
  match e : m cs, n with
  | .ok (x, cs1), n => exact g x cs1 n
  | .error er, n => rfl
theorem whileF_succ {τ : Type} (c : τ → M Bool) (b : τ → M (Fl τ τ)) : ∀ n t, LeM (whileF c b n t) (whileF c b (n + 1) t)
  | 0, t => LeM.stuck _
  | n + 1, t => by
    unfold whileF
    refine (LeM.refl _).bind fun z => ?_
    split
    · refine (LeM.refl _).bind fun fl => ?_
      cases fl with
      | nx t' => exact whileF_succ c b n t'
      | ct t' => exact whileF_succ c b n t'
      | bk t' => exact LeM.refl _
      | rt v => exact LeM.refl _
    · exact LeM.refl _
theorem LeM.trans {α : Type} {a b c : M α} (h : LeM a b) (g : LeM b c) : LeM a c := fun cs n => by
  have e := h cs n
  rw [g cs (by rw [e]; exact n), e]
theorem whileF_le {τ : Type} (c : τ → M Bool) (b : τ → M (Fl τ τ)) (t : τ) (n : Nat) : ∀ k, LeM (whileF c b n t) (whileF c b (n + k) t)
  | 0 => LeM.refl _
  | k + 1 => (whileF_le c b t n k).trans (whileF_succ c b (n + k) t)
theorem pWhile_of {τ : Type} {c : τ → M Bool} {b : τ → M (Fl τ τ)} {n : Nat} {t : τ} {cs : List PyData} (h : ¬ isStuck (whileF c b n t cs)) : pWhile c b t cs = whileF c b n t cs := by
  have ex : ∃ n, ¬ isStuck (whileF c b n t cs) := ⟨n, h⟩
  have e : pWhile c b t cs = whileF c b ex.choose t cs := by unfold pWhile; rw [dif_pos ex]
  rw [e]
  have h2 := ex.choose_spec
  rcases Nat.le_total n ex.choose with l | l
  · obtain ⟨k, hk⟩ := Nat.exists_eq_add_of_le l
    rw [hk]
    exact whileF_le c b t n k cs h
  · obtain ⟨k, hk⟩ := Nat.exists_eq_add_of_le l
    have z := whileF_le c b t ex.choose k cs h2
    rw [← hk] at z
    exact z.symm
theorem pWhile_some {τ : Type} {c : τ → M Bool} {b : τ → M (Fl τ τ)} {t : τ} {cs : List PyData} (h : ¬ isStuck (pWhile c b t cs)) : ∃ n, pWhile c b t cs = whileF c b n t cs := by
  unfold pWhile at h ⊢
  split
  · exact ⟨_, rfl⟩
  · rename_i hn
    rw [dif_neg hn] at h
    exact absurd trivial h
/-- one turn more -/
theorem pWhile_eq {τ : Type} (c : τ → M Bool) (b : τ → M (Fl τ τ)) (t : τ) : pWhile c b t = (do
    let z ← c t
    if z = true then (do
      match ← b t with
      | .nx t' => pWhile c b t'
      | .ct t' => pWhile c b t'
      | .bk t' => pure (.inl t')
      | .rt v => pure (.inr v))
    else pure (.inl t)) := by
  have up : ∀ n t, LeM (whileF c b n t) (pWhile c b t) := fun n t cs h => pWhile_of h
  funext cs
  by_cases h : isStuck (pWhile c b t cs)
  · by_cases h2 : isStuck ((do
      let z ← c t
      if z = true then (do
        match ← b t with
        | .nx t' => pWhile c b t'
        | .ct t' => pWhile c b t'
        | .bk t' => pure (.inl t')
        | .rt v => pure (.inr v))
      else pure (.inl t) : M (τ ⊕ PyData)) cs)
    · have s : ∀ {α : Type} {r : Except Er α}, isStuck r → r = .error .stuck := fun {α r} z => by
        match r, z with
        | .error .stuck, _ => rfl
      rw [s h, s h2]
    · exfalso
      -- the right side is reached by some whileF
      rw [M.bind_run] at h2
      match e1 : c t cs, h2 with
      | .error er, h2 =>
        have z : whileF c b 1 t cs = .error er := by unfold whileF; rw [M.bind_run, e1]
        have n1 : ¬ isStuck (whileF c b 1 t cs) := by rw [z]; exact h2
        rw [pWhile_of n1] at h
        exact n1 h
      | .ok (false, cs1), h2 =>
        have z : whileF c b 1 t cs = .ok (.inl t, cs1) := by unfold whileF; rw [M.bind_run, e1]; rfl
        have n1 : ¬ isStuck (whileF c b 1 t cs) := by rw [z]; exact fun q => q
        rw [pWhile_of n1] at h
        exact n1 h
      | .ok (true, cs1), h2 =>
        have h2 : ¬ isStuck ((b t >>= fun fl => (match fl with
          | .nx t' => pWhile c b t'
          | .ct t' => pWhile c b t'
          | .bk t' => pure (.inl t')
          | .rt v => pure (.inr v) : M (τ ⊕ PyData))) cs1) := h2
        have key : ∀ n, whileF c b (n + 1) t cs = (b t >>= fun fl => (match fl with
          | .nx t' => whileF c b n t'
          | .ct t' => whileF c b n t'
          | .bk t' => pure (.inl t')
          | .rt v => pure (.inr v) : M (τ ⊕ PyData))) cs1 := fun n => by
          conv => lhs; unfold whileF
          rw [M.bind_run, e1]
          rfl
        have done : ∀ n, ¬ isStuck (whileF c b n t cs) → False := fun n q => by rw [pWhile_of q] at h; exact q h
        rw [M.bind_run] at h2
        match e2 : b t cs1, h2 with
        | .error er, h2 => exact done 1 (by rw [key 0, M.bind_run, e2]; exact h2)
        | .ok (.nx t', cs2), h2 =>
          obtain ⟨n, hn⟩ := pWhile_some (c := c) (b := b) (t := t') (cs := cs2) h2
          exact done (n + 1) (by rw [key n, M.bind_run, e2]; show ¬ isStuck (whileF c b n t' cs2); rw [← hn]; exact h2)
        | .ok (.ct t', cs2), h2 =>
          obtain ⟨n, hn⟩ := pWhile_some (c := c) (b := b) (t := t') (cs := cs2) h2
          exact done (n + 1) (by rw [key n, M.bind_run, e2]; show ¬ isStuck (whileF c b n t' cs2); rw [← hn]; exact h2)
        | .ok (.bk t', cs2), h2 => exact done 1 (by rw [key 0, M.bind_run, e2]; exact h2)
        | .ok (.rt v, cs2), h2 => exact done 1 (by rw [key 0, M.bind_run, e2]; exact h2)
  · obtain ⟨n, hn⟩ := pWhile_some h
    rw [hn] at h
    rw [hn]
    cases n with
    | zero => exact absurd trivial h
    | succ n =>
      have le : LeM (whileF c b (n + 1) t) (do
        let z ← c t
        if z = true then (do
          match ← b t with
          | .nx t' => pWhile c b t'
          | .ct t' => pWhile c b t'
          | .bk t' => pure (.inl t')
          | .rt v => pure (.inr v))
        else pure (.inl t)) := by
        conv => lhs; unfold whileF
        refine (LeM.refl _).bind fun z => ?_
        split
        · refine (LeM.refl _).bind fun fl => ?_
          cases fl with
          | nx t' => exact up n t'
          | ct t' => exact up n t'
          | bk t' => exact LeM.refl _
          | rt v => exact LeM.refl _
        · exact LeM.refl _
      exact (le cs h).symm
section
variable {X : Cx} {C : Ct} {ρ : List Sl} {τ τ' β : Type} {emb : τ → List Sl} {emb' : τ' → List Sl} {embL : β → List Sl} {rk : Bool} {rest : List Stmt} {s : Stmt} {e c : Expr} {m : M PyData} {pos p' : Pos} {x : Str}
theorem fb_while {body : List Stmt} {e0 : τ' → List Sl} {mc : τ' → M Bool} {mb : τ' → M (Fl τ' τ')} {k : τ' → M (Fl τ β)} (t0 : τ')
    (hp : PassesOwn (model X.prog X.w) X.A X.env X.xe) (w0 : Wk ρ (e0 t0)) (hc : ∀ t, FT X C (e0 t) c (mc t)) (hb : ∀ t, FB X C (e0 t) e0 e0 rk body (mb t)) (hk : ∀ t, FB X C (e0 t) emb embL rk rest (k t)) :
    FB X C ρ emb embL rk (.While c body [] pos :: rest) (do let r ← pWhile mc mb t0; contL r k) := by
  have hR : PSs X rest (fun D σ H => ∃ t, tBl X.K X.mg C (e0 t) emb embL rk (k t) D σ H) := ⟨fun pins s' σ H D I ⟨t, w⟩ => (hk t).ps.run pins s' σ H D I w⟩
  have hB : PSs X body (fun D σ H => ∃ t, tBl X.K X.mg C (e0 t) e0 e0 rk (mb t) D σ H) := ⟨fun pins s' σ H D I ⟨t, w⟩ => (hb t).ps.run pins s' σ H D I w⟩
  have hC : PT X c (fun σ H Q => ∃ t, tTm X.K X.mg C (e0 t) (mc t) σ H Q) := ⟨fun pins s' σ H Q I ⟨t, w⟩ => (hc t).pt.run pins s' σ H Q I w⟩
  refine ⟨imSs (pss_cons (ps_while hp hC hB) hR) fun D σ H h => ?_⟩
  obtain ⟨F, cs, e, q, h⟩ := h
  have ns : ¬ isStuck (pWhile mc mb t0 cs) := fun z => by
    rw [M.bind_run] at h
    match e1 : pWhile mc mb t0 cs, z, h with
    | .error .stuck, _, h => exact h.elim
  obtain ⟨n, hn⟩ := pWhile_some ns
  have h0 : ResB X.K X.mg C F ((do let r ← whileF mc mb n t0; contL r k : M (Fl τ β)) cs) (kB X.K X.mg C emb embL rk D) := by
    rw [M.bind_run] at h ⊢
    rw [hn] at h
    exact h
  refine ⟨fun n σ H => ∃ F cs t, EnvOk X.K X.mg C F H σ (e0 t) ∧ CupOk X.K C F H cs ∧ ResB X.K X.mg C F ((do let r ← whileF mc mb n t; contL r k : M (Fl τ β)) cs) (kB X.K X.mg C emb embL rk D),
    ⟨n, F, cs, t0, e.wk w0, q, h0⟩, ?_⟩
  rintro n σ H ⟨F, cs, t, e, q, h⟩
  cases n with
  | zero =>
    have z : ((do let r ← whileF mc mb 0 t; contL r k : M (Fl τ β)) cs) = .error .stuck := by
      show ((stuck : M (τ' ⊕ PyData)) >>= fun r => contL r k) cs = _
      rw [stuck_bind]; rfl
    rw [z] at h
    exact h.elim
  | succ n =>
    unfold whileF at h
    rw [bind_assoc] at h
    refine ⟨t, F, cs, e, q, (h.bind e.g0).mono fun b cs1 F1 H1 g1 q1 h1 => ?_⟩
    have e1 := e.grow g1
    cases b with
    | false =>
      unfold kT
      dsimp only
      rw [if_neg Bool.false_ne_true]
      exact ⟨t, F1, cs1, e1, q1, h1⟩
    | true =>
      unfold kT
      dsimp only
      rw [if_pos rfl]
      have h1 : ResB X.K X.mg C F1 (((mb t >>= fun fl => (match fl with
        | .nx t' => whileF mc mb n t'
        | .ct t' => whileF mc mb n t'
        | .bk t' => pure (.inl t')
        | .rt v => pure (.inr v) : M (τ' ⊕ PyData))) >>= fun r => contL r k) cs1) (kB X.K X.mg C emb embL rk D) := h1
      rw [bind_assoc] at h1
      refine ⟨fun σ' H' => ∃ F cs t, EnvOk X.K X.mg C F H' σ' (e0 t) ∧ CupOk X.K C F H' cs ∧ ResB X.K X.mg C F ((do let r ← whileF mc mb n t; contL r k : M (Fl τ β)) cs) (kB X.K X.mg C emb embL rk D), fun σ' H' w => ⟨n, Nat.lt_succ_self n, w⟩, ?_⟩
      refine ⟨t, F1, cs1, e1, q1, h1.split.mono fun fl cs2 F2 H2 l2 g2 q2 h2 => ?_⟩
      cases fl with
      | nx t' => exact fun σ4 e4 => ⟨F2, cs2, t', e4, q2, h2⟩
      | ct t' => exact fun σ4 e4 => ⟨F2, cs2, t', e4, q2, h2⟩
      | bk t' => exact fun σ4 e4 => ⟨t', F2, cs2, e4, q2, h2⟩
      | rt d => exact ResB.pure (mg := X.mg) h2 g2 q2
end
end DL
end
section
set_option Elab.async false
set_option linter.all false
set_option maxRecDepth 100000
set_option maxHeartbeats 4000000
set_option autoImplicit false
namespace DL
open PySem PySem.Spec PyProof.Rows L2

section
variable {X : Cx} {C : Ct} {ρ : List Sl} {τ τ' β : Type} {emb : τ → List Sl} {emb' : τ' → List Sl} {embL : β → List Sl} {rk : Bool} {rest : List Stmt} {s : Stmt} {e c : Expr} {m : M PyData} {pos p' p2 apos : Pos} {x y : Str}
/-! ### an own list is changed -/
theorem EnvOk.write {K : PySem.W.Frag} {mg : Str → Option Value} {F H : Hp} {σ : St} (e : EnvOk K mg C F H σ ρ) (i : Nat) {xs ys : List PyData} {a : Addr} {us : List V} (hρ : ρ[i]? = some (.own xs)) (e1 : σ[i]? = some (some (.ref a))) (nF : F a = none) (nc : C.c ≠ some a) (nE : C.E a = none) (r : Rps K F us ys) :
    EnvOk K mg C F (L2.upd H a (.lst us)) σ (ρ.set i (.own ys)) := by
  have nn : ∀ j b, j ≠ i → OwnAt ρ σ j b → b ≠ a := fun j b hj o z => hj (e.sep j i a (z ▸ o) ⟨_, hρ, rfl, e1⟩)
  have hi := (List.getElem?_eq_some_iff.mp hρ).1
  refine ⟨by rw [List.length_set]; exact e.len, e.g0.updFresh nE nF, fun j s ej => ?_, fun j k b h1 h2 => ?_⟩
  · by_cases hj : i = j
    · subst hj
      rw [List.getElem?_set_self hi] at ej
      cases ej
      exact ⟨a, us, e1, upd_same, nF, nc, nE, r⟩
    · rw [List.getElem?_set_ne hj] at ej
      have sj := e.sl j s ej
      have own : ∀ b, isOwn s = true → σ[j]? = some (some (.ref b)) → b ≠ a := fun b o ob => nn j b (fun z => hj z.symm) ⟨s, ej, o, ob⟩
      cases s with
      | un => trivial
      | d y => exact sj
      | own ys => obtain ⟨b, ws, z, z1, z2⟩ := sj; exact ⟨b, ws, z, by rw [upd_ne (own b rfl z)]; exact z1, z2⟩
      | odK ys => obtain ⟨b, ws, z, z1, z2⟩ := sj; exact ⟨b, ws, z, by rw [upd_ne (own b rfl z)]; exact z1, z2⟩
      | odT ys => obtain ⟨b, ws, z, z1, z2⟩ := sj; exact ⟨b, ws, z, by rw [upd_ne (own b rfl z)]; exact z1, z2⟩
      | cup => exact sj
      | fn y => exact sj
  · have key : ∀ j, OwnAt (ρ.set i (.own ys)) σ j b → OwnAt ρ σ j b := by
      rintro j ⟨s, z1, z2, z3⟩
      by_cases hj : i = j
      · subst hj
        exact ⟨_, hρ, rfl, z3⟩
      · rw [List.getElem?_set_ne hj] at z1
        exact ⟨s, z1, z2, z3⟩
    exact e.sep j k b (key j h1) (key k h2)
theorem fb_chk {p : Prop} [Decidable p] {sts : List Stmt} {mr : M (Fl τ β)} (h : FB X C ρ emb embL rk sts mr) : FB X C ρ emb embL rk sts (do chk p; mr) := by
  refine ⟨imSs h.ps fun D σ H ⟨F, cs, e, q, w⟩ => ⟨F, cs, e, q, ?_⟩⟩
  by_cases hp : p
  · rw [chk_true hp, pure_bind] at w
    exact w
  · have ez : chk p = stuck := if_neg hp
    rw [ez, stuck_bind] at w
    exact w.elim
/-- x.append(e) -/
theorem fb_append (i : Nat) {xs : List PyData} {k : PyData → M (Fl τ β)} (he : FE X C ρ e m) (hk : ∀ d, FB X C (ρ.set i (.own (xs ++ [d]))) emb embL rk rest (k d)) (hρ : ρ[i]? = some (.own xs) := by rfl) (hN : X.N[i]? = some x := by rfl)
    (hv : Vis X.env.scope x := by first | exact Or.inl rfl | exact Or.inr (Or.inl rfl) | exact Or.inr (Or.inr rfl)) (hd : (x == ("__debug__" : Str)) = false := by decide) (hcd : (x == ("__classdict__" : Str)) = false := by decide)
    (hbase : attributeBase (.Name x p2) "append" X.env (eval (.Name x p2) X.env) = eval (.Name x p2) X.env := by rfl)
    (hfew : ((backTo p' (starEach [e] X.env)).all (fun x => !x.1) && (backToKw p' (keywordEach [] X.env)).all (fun x => x.1.isSome)
      && decide ([e].length + ([] : List Keyword).length + (if ([] : List Keyword).isEmpty then 0 else 1) < 30)) = true := by rfl)
    (hline : (apos.endLine == p'.line) = true := by rfl) (hs : starEach [e] X.env = (false, eval e X.env) :: starEach [] X.env := by rfl) (hplain : (backTo p' (starEach [] X.env)).any (·.1) = false := by rfl)
    (hsw : swapsWith (.Call (.Attribute (.Name x p2) "append" apos) [e] [] p') none pos.line X.env = pure false := by rfl) :
    FB X C ρ emb embL rk (.Expr (.Call (.Attribute (.Name x p2) "append" apos) [e] [] p') pos :: rest) (do let d ← m; chk (xs.length < sizeLine); k d) := by
  have pa : PA X [e] (tCons (tM X.K X.mg C ρ m) tNil) := pa_cons he.pe pa_nil hs
  refine fb_step (ps_expr (pe_bm PySem.F.plainAttrs_list PySem.F.slot_list_append PySem.F.type_list_append mt_append (pe_var hN hv hd hcd) pa hbase hfew hline hs hplain) hsw) fun D σ H h => ?_
  obtain ⟨F, cs, e, q, h⟩ := h
  obtain ⟨a, vs, e1, e2, e3, e4, e5, r⟩ := e.sl i _ hρ
  refine ⟨.ref a, e1, .inl ⟨rfl, vs, .inl (.inl e2)⟩, F, cs, e, q, (h.bind e.g0).mono fun d cs1 F1 H1 g1 q1 h1 v rv => ?_⟩
  have eg := e.grow g1
  obtain ⟨a', vs', z1, z2, z3, z4, z5, r'⟩ := eg.sl i _ hρ
  rw [e1] at z1; cases z1
  have hc : xs.length < sizeLine ∧ ResB X.K X.mg C F1 (k d cs1) (kB X.K X.mg C emb embL rk D) := by
    by_cases hp : xs.length < sizeLine
    · refine ⟨hp, ?_⟩
      rw [chk_true hp, pure_bind] at h1
      exact h1
    · have ez : chk (xs.length < sizeLine) = stuck := if_neg hp
      rw [ez, stuck_bind] at h1
      exact h1.elim
  refine ⟨a, vs', v, rfl, rfl, z2, by rw [r'.length]; exact hc.1, ?_⟩
  exact ⟨d, ρ.set i (.own (xs ++ [d])), (fb_chk (hk d)).ps, F1, cs1, eg.write i hρ e1 z3 z4 z5 (r'.append (.one rv)), q1.upd z4, h1⟩
/-- y = x.pop() -/
theorem fb_pop {py : Pos} (i j : Nat) {xs : List PyData} {k : PyData → M (Fl τ β)} (hij : i ≠ j) (hNd : X.N.Nodup) (hk : ∀ d, FB X C ((ρ.set i (.own xs.dropLast)).set j (.d d)) emb embL rk rest (k d)) (hρ : ρ[i]? = some (.own xs) := by rfl) (hN : X.N[i]? = some x := by rfl) (hNj : X.N[j]? = some y := by rfl)
    (hv : Vis X.env.scope x := by first | exact Or.inl rfl | exact Or.inr (Or.inl rfl) | exact Or.inr (Or.inr rfl)) (hd : (x == ("__debug__" : Str)) = false := by decide) (hcd : (x == ("__classdict__" : Str)) = false := by decide)
    (hy : Loc X.env.scope y := by first | exact Or.inl rfl | exact Or.inr rfl) (hf : X.fn y = true ∨ X.env.scope.names.lookup y = some .local := by first | exact Or.inl rfl | exact Or.inr rfl)
    (hbase : attributeBase (.Name x p2) "pop" X.env (eval (.Name x p2) X.env) = eval (.Name x p2) X.env := by rfl) (hline : (apos.endLine == p'.line) = true := by rfl)
    (hsw : swapsWith (.Call (.Attribute (.Name x p2) "pop" apos) [] [] p') (some (.Name y py)) pos.line X.env = pure false := by rfl) :
    FB X C ρ emb embL rk (.Assign [.Name y py] (.Call (.Attribute (.Name x p2) "pop" apos) [] [] p') pos :: rest) (do let d ← optM xs.getLast?; k d) := by
  refine fb_step (ps_set hNd hNj hy (pe_bm0 PySem.F.plainAttrs_list PySem.F.slot_list_pop PySem.F.type_list_pop (fun pins s σ H x xs v us Q I rx rxs h => mt_pop pins s σ H x xs v us Q I rx rxs h) (pe_var hN hv hd hcd) hbase hline) hsw hf) fun D σ H h => ?_
  obtain ⟨F, cs, e, q, h⟩ := h
  obtain ⟨a, vs, e1, e2, e3, e4, e5, r⟩ := e.sl i _ hρ
  cases hx : xs.getLast? with
  | none => rw [hx] at h; exact h.elim
  | some d =>
    rw [hx] at h
    have hl := r.length
    rw [List.getLast?_eq_getElem?] at hx
    obtain ⟨v, hv2, rv⟩ := r.get hx
    refine ⟨.ref a, e1, .inl ⟨rfl, vs, .inl (.inl e2)⟩, a, vs, v, rfl, rfl, e2, by rw [hl]; exact hv2, ?_⟩
    exact ⟨d, (ρ.set i (.own xs.dropLast)).set j (.d d), (hk d).ps, F, cs, (e.write i hρ e1 e3 e4 e5 r.dropLast).setD j rv, q.upd e4, h⟩
end
end DL
end
section
set_option Elab.async false
set_option linter.all false
set_option maxRecDepth 100000
set_option maxHeartbeats 4000000
set_option autoImplicit false
namespace DL
open PySem PySem.Spec PyProof.Rows L2

/-! ### a value that goes into a slot: frozen data or an object of one's own -/
section
variable (K : PySem.W.Frag) (mg : Str → Option Value) (C : Ct)
def SlNew (H F' H' : Hp) (s : Sl) (v : V) : Prop := SlOk K mg C F' H' s (some (some v)) ∧ (isOwn s = true → ∃ p, v = .ref p ∧ H p = none ∧ H' p ≠ none)
def tV {α : Type} (ρ : List Sl) (sl : α → Sl) (m : M α) : TE := fun σ H Q => ∃ F cs, EnvOk K mg C F H σ ρ ∧ CupOk K C F H cs ∧ Res K mg C F H (m cs) fun a _ F' H' => ∀ v, SlNew K mg C H F' H' (sl a) v → Q v H'
end
structure FV (X : Cx) (C : Ct) {α : Type} (ρ : List Sl) (e : Expr) (sl : α → Sl) (m : M α) : Prop where
  pe : PE X e (tV X.K X.mg C ρ sl m)
section
variable {K : PySem.W.Frag} {mg : Str → Option Value} {C : Ct} {F H F' H' F'' H'' : Hp} {σ : St} {ρ : List Sl}
theorem EnvOk.setNew (e : EnvOk K mg C F H σ ρ) (g : Grow C.c F H F' H') (i : Nat) {s : Sl} {v : V} (n : SlNew K mg C H F' H' s v) : EnvOk K mg C F' H' (σ.set i (some v)) (ρ.set i s) := by
  refine (e.grow g).setAny i s (some v) n.1 fun o a ea j oj => ?_
  obtain ⟨p, ep, np, _⟩ := n.2 o
  cases ep; cases ea
  exact absurd np (e.owned oj)
theorem SlNew.grow {s : Sl} {v : V} (n : SlNew K mg C H F' H' s v) (g : Grow C.c F' H' F'' H'') : SlNew K mg C H F'' H'' s v :=
  ⟨n.1.grow g, fun o => let ⟨p, e, h, h'⟩ := n.2 o; ⟨p, e, h, g.ex p h'⟩⟩
end
section
variable {X : Cx} {C : Ct} {ρ : List Sl} {τ τ' β α : Type} {emb : τ → List Sl} {emb' : τ' → List Sl} {embL : β → List Sl} {rk : Bool} {rest : List Stmt} {s : Stmt} {a b e c : Expr} {m ma mb : M PyData} {pos p' p2 apos : Pos} {x y z : Str}
theorem fv_d (h : FE X C ρ e m) : FV X C ρ e Sl.d m := by
  refine ⟨imE h.pe fun σ H Q ⟨F, cs, e, q, h⟩ => ⟨F, cs, e, q, h.mono fun d cs1 F1 H1 g1 q1 h1 v rv => h1 v ⟨⟨v, rfl, rv⟩, fun o => nomatch o⟩⟩⟩
theorem fv_o {mo : M (List PyData)} (h : FO X C ρ e mo) : FV X C ρ e Sl.own mo := by
  refine ⟨imE h.pe fun σ H Q ⟨F, cs, e, q, h⟩ => ⟨F, cs, e, q, h.mono fun d cs1 F1 H1 g1 q1 h1 a vs n e1 e2 e3 r => h1 (.ref a) ⟨⟨a, vs, rfl, e1, e2, e3, ?_, r⟩, fun _ => ⟨a, rfl, n, by rw [e1]; simp⟩⟩⟩⟩
  cases q : C.E a with
  | none => rfl
  | some o => exact absurd n (e.ent a (by rw [q]; simp))
theorem fb_setV (i : Nat) {sl : α → Sl} {mv : M α} {k : α → M (Fl τ β)} (hN : X.N.Nodup) (he : FV X C ρ e sl mv) (hk : ∀ a, FB X C (ρ.set i (sl a)) emb embL rk rest (k a)) (hi : X.N[i]? = some x := by rfl) (hx : Loc X.env.scope x := by first | exact Or.inl rfl | exact Or.inr rfl)
    (hs : swapsWith e (some (.Name x p')) pos.line X.env = pure false := by rfl) (hf : X.fn x = true ∨ X.env.scope.names.lookup x = some .local := by first | exact Or.inl rfl | exact Or.inr rfl) :
    FB X C ρ emb embL rk (.Assign [.Name x p'] e pos :: rest) (do let a ← mv; k a) := by
  refine fb_step (ps_set hN hi hx he.pe hs hf) fun D σ H h => ?_
  obtain ⟨F, cs, e, q, h⟩ := h
  exact ⟨F, cs, e, q, (h.bind e.g0).mono fun a cs1 F1 H1 g1 q1 h1 v n => ⟨a, _, (hk a).ps, F1, cs1, e.setNew g1 i n, q1, h1⟩⟩
theorem wk_set_of_ne {α : Type} (l : List α) {i j : Nat} (h : i ≠ j) (a b : α) : (l.set i a).set j b = (l.set j b).set i a := List.set_comm _ _ h
/-- the two values of a pair, one behind the other -/
theorem two_vals {K : PySem.W.Frag} {mg : Str → Option Value} {F H F1 H1 F2 H2 : Hp} {σ : St} (i j : Nat) (hij : i ≠ j) {s t : Sl} {v w : V} (e : EnvOk K mg C F H σ ρ) (g1 : Grow C.c F H F1 H1) (n1 : SlNew K mg C H F1 H1 s v) (g2 : Grow C.c F1 H1 F2 H2) (n2 : SlNew K mg C H1 F2 H2 t w) :
    EnvOk K mg C F2 H2 ((σ.set i (some v)).set j (some w)) ((ρ.set i s).set j t) := (e.setNew g1 i n1).setNew g2 j n2
theorem fb_par {px py pt : Pos} {kt k2 : Nat} {pt2 : Pos} (i j : Nat) {α' : Type} {sa : α → Sl} {sb : α' → Sl} {va : M α} {vb : M α'} {k : α → α' → M (Fl τ β)} (hc : X.calm = true) (hN : X.N.Nodup) (hij : i ≠ j) (ha : FV X C ρ a sa va) (hb : FV X C ρ b sb vb)
    (hk : ∀ p q, FB X C ((ρ.set i (sa p)).set j (sb q)) emb embL rk rest (k p q)) (hi : X.N[i]? = some x := by rfl) (hj : X.N[j]? = some y := by rfl)
    (hx : X.env.scope.names.lookup x = some .local := by rfl) (hy : X.env.scope.names.lookup y = some .local := by rfl)
    (hw : swappedStores [.Tuple [.Name x px, .Name y py] kt pt] (.Tuple [a, b] k2 pt2) X.env = pure (some [x, y]) := by rfl)
    (hs : swapsWithSole [.Tuple [.Name x px, .Name y py] kt pt] (.Tuple [a, b] k2 pt2) pos.line X.env = pure false := by rfl)
    (hs1 : starEach [a, b] X.env = (false, eval a X.env) :: starEach [b] X.env := by rfl) (hs2 : starEach [b] X.env = (false, eval b X.env) :: starEach [] X.env := by rfl) :
    FB X C ρ emb embL rk (.Assign [.Tuple [.Name x px, .Name y py] kt pt] (.Tuple [a, b] k2 pt2) pos :: rest) (do let p ← va; let q ← vb; k p q) := by
  have pa : PA X [a, b] (tCons (tV X.K X.mg C ρ sa va) (tCons (tV X.K X.mg C ρ sb vb) tNil)) := pa_cons ha.pe (pa_cons hb.pe pa_nil hs2) hs1
  have e2 : (do let p ← va; let q ← vb; k p q) = (do let pq ← (do let p ← va; let q ← vb; pure (p, q)); k pq.1 pq.2) := by simp
  rw [e2]
  refine fb_step (ps_par hc hN hi hj hij hx hy pa hw hs) fun D σ H h => ?_
  rw [← e2] at h
  obtain ⟨F, cs, e, q, h⟩ := h
  refine ⟨F, cs, e, q, (h.bind e.g0).mono fun p cs1 F1 H1 g1 q1 h1 v nv => ?_⟩
  refine ⟨F1, cs1, e.grow g1, q1, (h1.bind (e.grow g1).g0).mono fun p2 cs2 F2 H2 g2 q2 h2 w nw => ⟨v, w, rfl, ?_⟩⟩
  exact ⟨(p, p2), _, (hk p p2).ps, F2, cs2, two_vals i j hij e g1 nv g2 nw, q2, h2⟩
/-- .. where a name is captured by a comprehension: the tuple is made and unpacked -/
theorem fb_tup {px py pt : Pos} {kt k2 : Nat} {pt2 : Pos} (i j : Nat) {α' : Type} {sa : α → Sl} {sb : α' → Sl} {va : M α} {vb : M α'} {k : α → α' → M (Fl τ β)} (hc : X.calm = true) (hN : X.N.Nodup) (hij : i ≠ j) (ha : FV X C ρ a sa va) (hb : FV X C ρ b sb vb)
    (hk : ∀ p q, FB X C ((ρ.set i (sa p)).set j (sb q)) emb embL rk rest (k p q)) (hi : X.N[i]? = some x := by rfl) (hj : X.N[j]? = some y := by rfl)
    (hx : Loc X.env.scope x := by first | exact Or.inl rfl | exact Or.inr rfl) (hy : Loc X.env.scope y := by first | exact Or.inl rfl | exact Or.inr rfl)
    (hfx : X.fn x = true ∨ X.env.scope.names.lookup x = some .local := by first | exact Or.inl rfl | exact Or.inr rfl) (hfy : X.fn y = true ∨ X.env.scope.names.lookup y = some .local := by first | exact Or.inl rfl | exact Or.inr rfl)
    (hs : swapsWithSole [.Tuple [.Name x px, .Name y py] kt pt] (.Tuple [a, b] k2 pt2) pos.line X.env = pure false := by rfl) (hw : swappedStores [.Tuple [.Name x px, .Name y py] kt pt] (.Tuple [a, b] k2 pt2) X.env = pure none := by rfl)
    (h1 : (assignEach [.Tuple [.Name x px, .Name y py] kt pt] X.env).map (·.2) = [assign (.Tuple [.Name x px, .Name y py] kt pt) X.env] := by rfl)
    (hs1 : starEach [a, b] X.env = (false, eval a X.env) :: starEach [b] X.env := by rfl) (hs2 : starEach [b] X.env = (false, eval b X.env) :: starEach [] X.env := by rfl) :
    FB X C ρ emb embL rk (.Assign [.Tuple [.Name x px, .Name y py] kt pt] (.Tuple [a, b] k2 pt2) pos :: rest) (do let p ← va; let q ← vb; k p q) := by
  have pa : PA X [a, b] (tCons (tV X.K X.mg C ρ sa va) (tCons (tV X.K X.mg C ρ sb vb) tNil)) := pa_cons ha.pe (pa_cons hb.pe pa_nil hs2) hs1
  have e2 : (do let p ← va; let q ← vb; k p q) = (do let pq ← (do let p ← va; let q ← vb; pure (p, q)); k pq.1 pq.2) := by simp
  rw [e2]
  refine fb_step (ps_asg (pe_tup pa) (pgt2 i j hc hN hi hj hx hy hfx hfy) hs hw h1) fun D σ H h => ?_
  rw [← e2] at h
  obtain ⟨F, cs, e, q, h⟩ := h
  refine ⟨F, cs, e, q, (h.bind e.g0).mono fun p cs1 F1 H1 g1 q1 h1 v nv => ?_⟩
  refine ⟨F1, cs1, e.grow g1, q1, (h1.bind (e.grow g1).g0).mono fun p2 cs2 F2 H2 g2 q2 h2 w nw => ⟨by show 2 ≤ sizeLine; decide, fun T nT => ?_⟩⟩
  have gT : Grow C.c F2 H2 F2 (upd H2 T (.tup [v, w])) := Grow.fresh g2.sub nT
  have nv' := nv.grow g2
  refine ⟨T, [v, w], rfl, .inl (.inl upd_same), rfl, v, [w], rfl, w, [], rfl, rfl, ?_⟩
  exact ⟨(p, p2), _, (hk p p2).ps, F2, cs2, ((two_vals i j hij e g1 nv g2 nw).grow gT), q2.upd (q2.ne nT), h2⟩

/-! ### reading what is one's own -/
def scal : PyData → Bool
  | .none | .bool _ | .int _ | .str _ => true
  | _ => false
def peekM (m : M PyData) : M PyData := fun cs => match m [] with
  | .ok (d, _) => if scal d = true then .ok (d, cs) else .error .stuck
  | .error _ => .error .stuck
def peekB (m : M Bool) : M Bool := fun cs => match m [] with
  | .ok (b, _) => .ok (b, cs)
  | .error _ => .error .stuck
@[simp] theorem peekM_int (i : Int) : peekM (pure (.int i)) = pure (.int i) := rfl
@[simp] theorem peekM_bool (b : Bool) : peekM (pure (.bool b)) = pure (.bool b) := rfl
@[simp] theorem peekM_str (x : Str) : peekM (pure (.str x)) = pure (.str x) := rfl
@[simp] theorem peekM_none : peekM (pure .none) = pure .none := rfl
@[simp] theorem peekB_pure (b : Bool) : peekB (pure b) = pure b := rfl
def peekR (ρ : List Sl) : List Sl := ρ.map fun s => match s with
  | .own xs => .d (.list xs)
  | .d x => .d x
  | .fn x => .fn x
  | _ => .un
theorem Rp.scal {K : PySem.W.Frag} {F F' : Hp} {v : V} {d : PyData} (r : Rp K F v d) (s : DL.scal d = true) : Rp K F' v d := by
  cases r with
  | non => exact .non
  | bl b => exact .bl b
  | int i => exact .int i
  | str z => exact .str z
  | lst _ _ => cases s
  | tup _ _ => cases s
  | dK _ _ => cases s
  | dT _ _ => cases s
/-- the slot i owns the list at a -/
def OwnL (ρ : List Sl) (σ : St) (i : Nat) (a : Addr) : Prop := ∃ xs, ρ[i]? = some (.own xs) ∧ σ[i]? = some (some (.ref a))
open Classical in
/-- what is frozen, and the lists that the slots own -/
noncomputable def peekF (F H : Hp) (σ : St) (ρ : List Sl) : Hp := fun a => match F a with
  | some o => some o
  | none => if ∃ i, OwnL ρ σ i a then H a else none
abbrev Ct.pk (F0 E : Hp) : Ct := ⟨fun _ _ _ _ => False, [], none, E, F0⟩
theorem EnvOk.peek {K : PySem.W.Frag} {mg : Str → Option Value} {F H : Hp} {σ : St} (e : EnvOk K mg C F H σ ρ) : Le F (peekF F H σ ρ) ∧ EnvOk K mg (Ct.pk (peekF F H σ ρ) H) (peekF F H σ ρ) H σ (peekR ρ) := by
  have le : Le F (peekF F H σ ρ) := fun a o h => by unfold peekF; rw [h]
  have sub : Sub (peekF F H σ ρ) H := fun a o h => by
    unfold peekF at h
    cases q : F a with
    | some u => rw [q] at h; cases h; exact e.sub a _ q
    | none =>
      rw [q] at h
      dsimp only at h
      split at h
      · rename_i hx
        obtain ⟨i, xs, h1, h2⟩ := hx
        have si := e.sl i _ h1
        rw [h2] at si
        obtain ⟨b, vs, z, z1, _⟩ := si
        cases z
        rw [z1] at h ⊢
        cases h
        exact RdO.lst
      · cases h
  have at' : ∀ i a o, OwnL ρ σ i a → F a = none → H a = some o → peekF F H σ ρ a = some o := fun i a o w n h => by
    unfold peekF
    rw [n]
    dsimp only
    rw [if_pos ⟨i, w⟩]
    exact h
  refine ⟨le, by unfold peekR; rw [List.length_map]; exact e.len, Grow.refl sub, fun i s h => ?_, fun i j a h1 h2 => ?_⟩
  · unfold peekR at h
    rw [List.getElem?_map] at h
    cases q : ρ[i]? with
    | none => rw [q] at h; cases h
    | some t =>
      rw [q] at h
      have h : _ = s := Option.some.inj h
      have st := e.sl i t q
      cases t with
      | un => subst h; trivial
      | d x => subst h; obtain ⟨v, z, r⟩ := st; exact ⟨v, z, r.mono le⟩
      | own xs =>
        subst h
        obtain ⟨a, vs, z, z1, z2, z3, z4, r⟩ := st
        exact ⟨_, z, .lst (.inl (at' i a _ ⟨_, q, z⟩ z2 z1)) (r.mono le)⟩
      | odK xs => subst h; trivial
      | odT xs => subst h; trivial
      | cup => subst h; trivial
      | fn x => subst h; exact st
  · exfalso
    obtain ⟨s, z1, z2, z3⟩ := h1
    unfold peekR at z1
    rw [List.getElem?_map] at z1
    cases q : ρ[i]? with
    | none => rw [q] at z1; cases z1
    | some t => rw [q] at z1; have z1 : _ = s := Option.some.inj z1; subst z1; cases t <;> cases z2
theorem Grow.unpeek {c : Option Addr} {F F1 H F' H' : Hp} (s : Sub F H) (le : Le F F1) (g : Grow none F1 H F' H') : Grow c F H F H' :=
  ⟨Le.refl F, fun a h => .inl h, g.tp, fun a o e _ => g.keep a o e (by simp), g.ex, fun a o e => g.sub a o (g.le a o (le a o e))⟩
theorem CupOk.unpeek {K : PySem.W.Frag} {F F1 H F' H' : Hp} {cs : List PyData} (q : CupOk K C F H cs) (g : Grow none F1 H F' H') : CupOk K C F H' cs := by
  unfold CupOk at q ⊢
  match e : C.c, q with
  | none, q => exact q
  | some a, q =>
    obtain ⟨n1, vs, e1, r1⟩ := q
    exact ⟨n1, vs, g.keep _ _ e1 (by simp), r1⟩
theorem fe_peek (h : ∀ F0 E, FE X (Ct.pk F0 E) (peekR ρ) e m) : FE X C ρ e (peekM m) := by
  refine ⟨⟨fun pins s σ H Q I w => ?_⟩⟩
  obtain ⟨F, cs, e, q, w⟩ := w
  obtain ⟨le, ep⟩ := e.peek
  refine (h _ H).pe.run pins s σ H Q I ⟨_, [], ep, rfl, ?_⟩
  unfold peekM at w
  match em : m [], w with
  | .ok (d, cs1), w =>
    intro F' H' g _ v rv
    by_cases sd : scal d = true
    · have w : Res X.K X.mg C F H ((if scal d = true then .ok (d, cs) else .error .stuck : Except Er (PyData × List PyData))) (kE X.K Q) := w
      rw [if_pos sd] at w
      exact w F H' (Grow.unpeek e.sub le g) (q.unpeek g) v (rv.scal sd)
    · have w : Res X.K X.mg C F H ((if scal d = true then .ok (d, cs) else .error .stuck : Except Er (PyData × List PyData))) (kE X.K Q) := w
      rw [if_neg sd] at w
      exact w.elim
  | .error _, w => exact w.elim
theorem ft_peek {mt : M Bool} (h : ∀ F0 E, FT X (Ct.pk F0 E) (peekR ρ) e mt) : FT X C ρ e (peekB mt) := by
  refine ⟨⟨fun pins s σ H Q I w => ?_⟩⟩
  obtain ⟨F, cs, e, q, w⟩ := w
  obtain ⟨le, ep⟩ := e.peek
  refine (h _ H).pt.run pins s σ H Q I ⟨_, [], ep, rfl, ?_⟩
  unfold peekB at w
  match em : mt [], w with
  | .ok (d, cs1), w => exact fun F' H' g _ => w F H' (Grow.unpeek e.sub le g) (q.unpeek g)
  | .error _, w => exact w.elim
end
end DL
end
section
set_option Elab.async false
set_option linter.all false
set_option maxRecDepth 100000
set_option maxHeartbeats 4000000
set_option autoImplicit false
namespace HT
open PySem PySem.Spec PyProof.Rows
section
variable {prog : Program} {w : World} {A : Around} {E : Value → Shared → Prop} {s : Shared}
theorem places_rev (n : Nat) : Builtin.Slice.slicePlaces ((n : Int) - 1) (-1) (-1) = n := by
  unfold Builtin.Slice.slicePlaces
  rw [if_neg (by decide)]
  have e : (- -1 : Int) = 1 := by decide
  rw [e, Int.ediv_one]
  split <;> omega
theorem fm_congr {α β : Type} {f g : α → Option β} : ∀ {l : List α}, (∀ m ∈ l, f m = g m) → l.filterMap f = l.filterMap g
  | [], _ => rfl
  | a :: l, h => by
    rw [List.filterMap_cons, List.filterMap_cons, h a (by simp), fm_congr fun m hm => h m (by simp [hm])]
theorem adjust_rev (n : Nat) : Builtin.Slice.sliceAdjust none none (-1) (n : Int) = ((n : Int) - 1, -1) := rfl
theorem sliceApplied_rev {sl : Addr} {vl vu vs : Value} {n : Nat} {Q : Int × Int × Nat → Shared → Prop} (hs : s.heap.IsSliceOf sl vl vu vs) (pl : IsPart vl none) (pu : IsPart vu none) (ps : IsPart vs (some (-1)))
    (h : Q ((n : Int) - 1, -1, n) s) : wpAny (model prog w) A (Builtin.Slice.sliceApplied (.ref sl) (pure (n : Int))) Q E s := by
  obtain ⟨os, hos, hcs, hds⟩ := id hs
  unfold Builtin.Slice.sliceApplied Builtin.Slice.sliceFields
  refine wpAny_bind (wpAny_bind (wpAny_field hos hds (x := vl) rfl (wpAny_bind (wpAny_field hos hds (x := vu) rfl (wpAny_bind (wpAny_field hos hds (x := vs) rfl (wpAny_pure ?_)))))))
  refine wpAny_bind (slicePart_ ps ?_)
  show wpAny _ _ (if ((-1 : Int) == 0) = true then _ else _) _ _ s
  rw [if_neg (by decide)]
  refine wpAny_bind (slicePart_ pl (wpAny_bind (slicePart_ pu (wpAny_bind (wpAny_pure ?_)))))
  show wpAny _ _ (match Builtin.Slice.sliceAdjust none none (-1) (n : Int) with | (lo, hi) => pure (lo, (-1 : Int), Builtin.Slice.slicePlaces lo hi (-1))) _ _ s
  rw [adjust_rev]
  show wpAny _ _ (pure ((n : Int) - 1, (-1 : Int), Builtin.Slice.slicePlaces ((n : Int) - 1) (-1) (-1))) _ _ s
  rw [places_rev]
  exact wpAny_pure h
theorem pick_rev (xs : Array Value) : ((List.range xs.size).filterMap fun (m : Nat) => xs[((((xs.size : Nat) : Int) - 1) + (m : Int) * (-1)).toNat]?) = xs.toList.reverse := by
  have e : ((List.range xs.size).filterMap fun (m : Nat) => xs[((((xs.size : Nat) : Int) - 1) + (m : Int) * (-1)).toNat]?) = ((List.range xs.size).map (fun k => xs.size - 1 - k)).filterMap (xs[·]?) := by
    rw [List.filterMap_map]
    refine fm_congr fun m hm => ?_
    have : m < xs.size := List.mem_range.mp hm
    show xs[_]? = xs[xs.size - 1 - m]?
    congr 1
    omega
  rw [e, PySem.W.krv_range, ← PySem.W.krv_all xs, List.filterMap_reverse, PySem.W.krv_all]
theorem getItem_tuple_rev {t sl : Addr} {items : Array Value} {vl vu vs : Value} {Q : Value → Shared → Prop} (ht : IsTup s.heap t items) (hs : s.heap.IsSliceOf sl vl vu vs) (pl : IsPart vl none) (pu : IsPart vu none) (ps : IsPart vs (some (-1)))
    (h : Q (.ref s.heap.objs.size) { s with heap := s.heap.push { cls := .type "tuple", data := .seq items.toList.reverse.toArray } })
    (hsz : items.size ≤ sizeLine) : wpAny (model prog w) A (getItem (.ref t) (.ref sl)) Q E s := by
  have htake : sizeOk (.seq items.toList.reverse.toArray) := by
    show items.toList.reverse.toArray.size ≤ sizeLine
    rw [List.size_toArray, List.length_reverse, Array.length_toList]
    exact hsz
  obtain ⟨os, hos, hcs, hds⟩ := id hs
  have hTs : s.TypeIs (.ref sl) "slice" := ⟨os, hos, hcs⟩
  unfold getItem
  try with_reducible refine wpAny_holding ?_
  first | refine wpAny_bind (wpAny_pure ?_) | skip
  refine wpAny_bind (wpAny_sequenceKey ht.typeIs (by decide) ?_)
  refine wpAny_bind (wpAny_callSpecial?_slot (name := Str.ofString "__getitem__") ht.typeIs PyProof.Rows.slot_tuple_getitem
    (wpAny_call_entry PyProof.Rows.slot_tuple_getitem ht.typeIs entry_tuple_getitem ?_ (args_tuple_getitem _ _)))
  show wpAny _ _ (Builtin.Tuple.tupleItemsOf (.ref t) >>= _) _ _ s
  refine wpAny_bind (tupleItemsOf_ ht ?_)
  refine wpAny_bind (wpAny_typeOf hTs ?_)
  rw [if_pos (by decide)]
  refine wpAny_bind (sliceApplied_rev hs pl pu ps ?_)
  have hno : ¬ (((((items.size : Nat) : Int) - 1) == 0 && (-1 : Int) == 1 && items.size == items.size) = true) := by
    intro q
    rw [Bool.and_eq_true, Bool.and_eq_true] at q
    exact absurd q.1.2 (by decide)
  show wpAny _ _ (if ((((items.size : Nat) : Int) - 1) == 0 && (-1 : Int) == 1 && items.size == items.size) = true then _ else _) _ _ s
  rw [if_neg hno, pick_rev]
  first
    | exact wpAny_bind (m := Builtin.Tuple.tupleExact _) (wpAny_newObj_type (wpAny_pure ⟨_, rfl, wpAny_pure h⟩) htake)
    | exact wpAny_bind (m := Builtin.Tuple.tupleExact _) (wpAny_newObj_type (wpAny_bind (wpAny_pure (wpAny_pure ⟨_, rfl, wpAny_pure h⟩))) htake)
    | exact wpAny_bind (wpAny_bind (m := Builtin.Tuple.tupleExact _) (wpAny_newObj_type (wpAny_pure (wpAny_pure ⟨_, rfl, wpAny_pure h⟩)) htake))
    | exact wpAny_bind (wpAny_bind (m := Builtin.Tuple.tupleExact _) (wpAny_newObj_type (wpAny_pure ⟨_, rfl, wpAny_pure h⟩) htake))
end
end HT
namespace DL
open PySem PySem.Spec PyProof.Rows L2
/-! ### t[::-1] -/
def tRevA (K : PySem.W.Frag) (te : TE) : TE := fun σ H Q => te σ H fun x H1 => ∃ a xs, x = .ref a ∧ ((SqL K H1 a xs ∧ ∀ p, H1 p = none → Q (.ref p) (upd H1 p (.lst xs.reverse))) ∨ (SqT K H1 a xs ∧ ∀ p, H1 p = none → Q (.ref p) (upd H1 p (.tup xs.reverse))))
theorem pe_revA {X : Cx} {e : Expr} {te : TE} {k : Nat} {p1 p2 p3 pos : Pos} (he : PE X e te) : PE X (.Subscript e (.Slice none none (some (.UnaryOp .USub (.Constant (.int 1) k p1) p2)) p3) pos) (tRevA X.K te) := by
  refine ⟨fun pins s σ H Q I h => ?_⟩
  refine Subscript_ (thn (he.run pins s σ H _ I h) fun v s1 ⟨x, H1, I1, r1, q1⟩ => ?_)
  obtain ⟨a, xs, ex, q1⟩ := q1
  subst ex
  cases r1
  have hst : PO X (some (.UnaryOp .USub (.Constant (.int 1) k p1) p2)) (tPart (tUn (rU fun i => .int (-i)) (tC (.int 1)))) := po_some (pe_un un_neg pe_int)
  refine wpAny_Slice (thn (po_none.run pins s1 σ H1 (fun o H2 => o = none ∧ H2 = H1) I1 ⟨rfl, rfl⟩) fun vl s2 ⟨l, H2, I2, pl, el, e2⟩ => ?_)
  subst el e2
  refine thn (po_none.run pins s2 σ H2 (fun o H3 => o = none ∧ H3 = H2) I2 ⟨rfl, rfl⟩) fun vu s3 ⟨u, H3, I3, pu, eu, e3⟩ => ?_
  subst eu e3
  refine thn (hst.run pins s3 σ H3 (fun o H4 => o = some (-1) ∧ H4 = H3) I3 ⟨1, rfl, -1, rfl, rfl, rfl⟩) fun vs s4 ⟨o, H4, I4, ps, eo, e4⟩ => ?_
  subst eo e4
  have I5 : Inv X pins σ H4 { s4 with heap := s4.heap.push { cls := .type "slice", data := .fields #[vl, vu, vs] } } := I4.kept (t' := s4.toks) fun b ob q => Heap.get?_push_of_some _ q
  rcases q1 with ⟨hx, q⟩ | ⟨hx, q⟩
  · obtain ⟨its, r, ht, hz⟩ := I5.list hx
    have hlen := r.length
    show wpAny (model X.prog X.w) X.A (subscriptTail e (.Slice none none (some (.UnaryOp .USub (.Constant (.int 1) k p1) p2)) p3) (.ref a) (.ref s4.heap.objs.size)) (EP X pins σ Q) X.xe { s4 with heap := s4.heap.push { cls := .type "slice", data := .fields #[vl, vu, vs] } }
    refine tail_any (ops := [.ref a, .ref s4.heap.objs.size]) ht.isList.typeIs (PySem.slot_list_getitem.lookup) ?_ (by with_unfolding_all rfl)
    refine wpAny_getItem_list_slice ht.isList (Heap.IsSliceOf.new _ vl vu vs) pl pu ps (by decide) ?_ (by rw [List.size_toArray]; omega)
    rw [PySem.W.krv_pick]
    refine ⟨.ref _, _, I5.laid (t' := s4.toks) (o := .lst xs.reverse) (fun b ob q => Heap.get?_push_of_some _ q) (Nat.le_refl _) ?_, rfl, q _ (I5.hok.fresh (Nat.le_refl _))⟩
    exact ⟨by rw [List.length_reverse]; exact hz, _, 0, r.reverse, Heap.get?_push_size _ rfl⟩
  · obtain ⟨its, r, ht, hz⟩ := I5.tuple hx
    have hlen := r.length
    show wpAny (model X.prog X.w) X.A (subscriptTail e (.Slice none none (some (.UnaryOp .USub (.Constant (.int 1) k p1) p2)) p3) (.ref a) (.ref s4.heap.objs.size)) (EP X pins σ Q) X.xe { s4 with heap := s4.heap.push { cls := .type "slice", data := .fields #[vl, vu, vs] } }
    refine tail_any (ops := [.ref a, .ref s4.heap.objs.size]) ht.typeIs PyProof.Rows.slot_tuple_getitem.lookup ?_ (by with_unfolding_all rfl)
    refine HT.getItem_tuple_rev ht (Heap.IsSliceOf.new _ vl vu vs) pl pu ps ?_ (by rw [List.size_toArray]; omega)
    refine ⟨.ref _, _, I5.laid (t' := s4.toks) (o := .tup xs.reverse) (fun b ob q => Heap.get?_push_of_some _ q) (Nat.le_refl _) ?_, rfl, q _ (I5.hok.fresh (Nat.le_refl _))⟩
    exact ⟨by rw [List.length_reverse]; exact hz, _, r.reverse, IsTup.new _ _⟩
def prev : PyData → M PyData
  | .list ds => pure (.list ds.reverse)
  | .tuple ds => pure (.tuple ds.reverse)
  | _ => stuck
section
variable {X : Cx} {C : Ct} {ρ : List Sl} {a b c e : Expr} {ma mb mc m : M PyData} {pos p : Pos}
theorem fe_rev {k : Nat} {p1 p2 p3 : Pos} (h : FE X C ρ e m) : FE X C ρ (.Subscript e (.Slice none none (some (.UnaryOp .USub (.Constant (.int 1) k p1) p2)) p3) pos) (do let x ← m; prev x) := by
  refine ⟨imE (pe_revA h.pe) fun σ H Q h => h.then1 (k := fun x H1 Q => ∃ a xs, x = .ref a ∧ ((SqL X.K H1 a xs ∧ ∀ p, H1 p = none → Q (.ref p) (upd H1 p (.lst xs.reverse))) ∨ (SqT X.K H1 a xs ∧ ∀ p, H1 p = none → Q (.ref p) (upd H1 p (.tup xs.reverse))))) fun F H x dx cs s _ q rx h => ?_⟩
  cases rx with
  | lst f r => exact ⟨_, _, rfl, .inl ⟨f.sq s, kE.lst h s q r.reverse⟩⟩
  | tup f r => exact ⟨_, _, rfl, .inr ⟨f.sq s, kE.tup h s q r.reverse⟩⟩
  | _ => exact h.elim
end
/-! ### * -/
theorem strRep_eq (x : Str) (n : Nat) : (List.replicate n x.cps).foldl (· ++ ·) #[] = (List.replicate n x.cps.toList).flatten.toArray := by
  have key : ∀ (n : Nat) (acc : Array Nat), (List.replicate n x.cps).foldl (· ++ ·) acc = acc ++ (List.replicate n x.cps.toList).flatten.toArray := by
    intro n
    induction n with
    | zero => intro acc; simp
    | succ n ih => intro acc; rw [List.replicate_succ, List.foldl_cons, ih, List.replicate_succ, List.flatten_cons, Array.append_assoc]; congr 1; apply Array.ext'; simp
  rw [key]; simp
def rRepS : R2 := fun x y H Q => ∃ i k, x = .str i ∧ y = .int k ∧ 2 ≤ k ∧ k ≤ 1000000000 ∧ 0 < i.length ∧ i.length * k.toNat ≤ sizeLine ∧ Q (.str ⟨(List.replicate k.toNat i.cps.toList).flatten.toArray⟩) H
theorem op_repS {X : Cx} : OpR X (binaryOp .Mult) rRepS := by
  intro pins s σ H x y v u Q I rx ry h
  obtain ⟨i, k, rfl, rfl, h1, h2, h3, hb, q⟩ := h
  obtain ⟨t, rfl⟩ := rx
  obtain ⟨t', rfl⟩ := ry
  have hz : (k == 1 || i.length == 0) = false := by
    rw [beq_eq_false_iff_ne.mpr (by omega), beq_eq_false_iff_ne.mpr (by omega)]; rfl
  have hi : (i.length : Int) * k ≤ 16777216 := by
    rw [sizeLine_eq] at hb
    have : ((i.length * k.toNat : Nat) : Int) ≤ 16777216 := by omega
    rw [Int.natCast_mul, Int.toNat_of_nonneg (by omega)] at this
    exact this
  refine P.mul_str ?_ (fun _ _ => ?_) (fun _ _ => ?_) ?_
  · rw [decide_eq_false (by omega), decide_eq_false (by omega)]; rfl
  · have h5 : (i.length : Int) ≤ (2 ^ 63 - 1) / k := by
      refine (Int.le_ediv_iff_mul_le (by omega)).mpr ?_
      omega
    omega
  · show decide (i.length * k.toNat > sizeLine) = false
    exact decide_eq_false (by omega)
  · rw [if_neg (by omega), hz, if_neg Bool.false_ne_true, strRep_eq]
    refine ⟨?_, .str _, H, I.tok _, ⟨_, rfl⟩, q⟩
    show (List.replicate k.toNat i.cps.toList).flatten.toArray.size ≤ sizeLine
    rw [List.size_toArray, PyProof.Rows.lm_len_rep_flat, Array.length_toList]
    have : i.cps.size = i.length := rfl
    rw [this, Nat.mul_comm]
    exact hb
theorem tuple_mulW1 (l : Addr) (items : Array Value) (n : Nat) (dd : Option Addr) (sl : Array (Option Value)) (u : Tok) :
    Meets (Builtin.«tuple.__mul__» ⟨[.ref l, .int 1 u], []⟩) (fun _ R s => s.heap.get? l = some { cls := .type "tuple", dict := dd, data := .seq items n, slots := sl } ∧
      R (.ok (.ret (Value.ref l))) s) :=
  .of_wp fun prog w A R s h => by
    obtain ⟨hp, g, d, tk, os⟩ := s
    obtain ⟨hl, h⟩ := h
    have f1 := AutoSeq1.idx_int
    have c1 : (items.isEmpty || (1 : Int) == 1) = true := by rw [Bool.or_eq_true]; exact .inr rfl
    wp_walk using wpAny_loadPart' hl
    repeat (first
      | (refine wpAny_ite_false (decide_eq_false (by decide)) ?_; wp_walk using wpAny_loadPart' hl)
      | (refine wpAny_ite_true (decide_eq_true c1) ?_; wp_walk using wpAny_loadPart' hl))
    exact ⟨_, rfl, h⟩
def rRepT1 (K : PySem.W.Frag) : R2 := fun x y H Q => ∃ l xs, x = .ref l ∧ y = .int 1 ∧ SqT K H l xs ∧ Q (.ref l) H
theorem op_repT1 {X : Cx} : OpR X (binaryOp .Mult) (rRepT1 X.K) := by
  intro pins s σ H x y v u Q I rx ry h
  obtain ⟨l, xs, rfl, rfl, hT, q⟩ := h
  cases rx
  obtain ⟨t, rfl⟩ := ry
  obtain ⟨its, r, ⟨⟨cls, dd, data, sl⟩, ho, hc, n, hd⟩, hs⟩ := I.tuple hT
  simp only at hc hd
  subst hc hd
  exact wpAny_binaryOp_repeat_ref (T := "tuple") (U := "int") (by decide) ⟨_, ho, rfl⟩ (fun s' => typeIs_int s' 1 t) noFill_tuple_mul F.fills_int_mul F.slot_int_rmul repeat_tuple F.slot_int_index.lookup
    (call_meets F.slot_int_rmul (typeIs_int s 1 t) F.entry_int_rmul (F.args_int_rmul_2 _ _) (int_rmul_tuple 1 t l its.toArray n dd sl)
      ⟨ho, rfl, ⟨_, ho, rfl⟩, call_meets F.slot_tuple_mul ⟨_, ho, rfl⟩ F.entry_tuple_mul (F.args_tuple_mul_2 _ _) (tuple_mulW1 l its.toArray n dd sl t) ⟨ho, .ref l, H, I, rfl, q⟩⟩)
def rMulAll (K : PySem.W.Frag) : R2 := fun x y H Q => rI CMul (fun i j => .int (i * j)) x y H Q ∨ rRepT K x y H Q ∨ rRepT1 K x y H Q ∨ rRepS x y H Q
theorem op_mulAll {X : Cx} : OpR X (binaryOp .Mult) (rMulAll X.K) := op_mul.or (op_repT.or (op_repT1.or op_repS))
instance (i j : Int) : Decidable (CMul i j) := by unfold CMul; infer_instance
def pmul : PyData → PyData → M PyData
  | .int i, .int j => do chk (CMul i j); pure (.int (i * j))
  | .tuple xs, .int k => if k = 1 then pure (.tuple xs) else do chk (xs ≠ [] ∧ 2 ≤ k ∧ k ≤ 1000 ∧ xs.length ≤ 1000); pure (.tuple (List.replicate k.toNat xs).flatten)
  | .str i, .int k => do chk (2 ≤ k ∧ k ≤ 1000000000 ∧ 0 < i.length ∧ i.length * k.toNat ≤ sizeLine); pure (.str ⟨(List.replicate k.toNat i.cps.toList).flatten.toArray⟩)
  | _, _ => stuck
theorem Rps.rep {K : PySem.W.Frag} {F : Hp} {vs : List V} {ds : List PyData} (r : Rps K F vs ds) : ∀ n : Nat, Rps K F (List.replicate n vs).flatten (List.replicate n ds).flatten
  | 0 => .nil
  | n + 1 => by rw [List.replicate_succ, List.replicate_succ, List.flatten_cons, List.flatten_cons]; exact r.append (r.rep n)
theorem pmul_ok (K : PySem.W.Frag) : Op2 K pmul (rMulAll K) := by
  intro mg C F H x y dx dy cs Q s q rx ry h
  cases ry with
  | int k =>
    cases rx with
    | int i => obtain ⟨c, h⟩ := Res.chk h; exact .inl ⟨_, _, rfl, rfl, c, kE.val h s q (.int _)⟩
    | str i => obtain ⟨c, h⟩ := Res.chk h; exact .inr (.inr (.inr ⟨_, _, rfl, rfl, c.1, c.2.1, c.2.2.1, c.2.2.2, kE.val h s q (.str _)⟩))
    | tup f r =>
      unfold pmul at h
      dsimp only at h
      by_cases e : k = 1
      · rw [if_pos e] at h
        subst e
        exact .inr (.inr (.inl ⟨_, _, rfl, rfl, f.sq s, kE.val h s q (.tup f r)⟩))
      · rw [if_neg e] at h
        obtain ⟨c, h⟩ := Res.chk h
        refine .inr (.inl ⟨_, _, _, rfl, rfl, f.sq s, fun z => c.1 (by subst z; cases r; rfl), c.2.1, c.2.2.1, by rw [r.length]; exact c.2.2.2, kE.tup h s q (r.rep _)⟩)
    | _ => exact h.elim
  | _ => cases rx <;> exact h.elim

/-! ### is None, is True -/
def pisN : PyData → PyData → M PyData
  | .none, .none => pure (.bool true)
  | _, .none => pure (.bool false)
  | _, _ => stuck
theorem pisN_ok (K : PySem.W.Frag) : Op2 K pisN (fun x y H Q => y = .non ∧ Q (.bl (decide (x = .non))) H) := by
  intro mg C F H x y dx dy cs Q s q rx ry h
  cases ry with
  | non => cases rx <;> exact ⟨rfl, kE.val h s q (.bl _)⟩
  | _ => cases rx <;> exact h.elim
def pnotN : PyData → PyData → M PyData
  | .none, .none => pure (.bool false)
  | _, .none => pure (.bool true)
  | _, _ => stuck
theorem pnotN_ok (K : PySem.W.Frag) : Op2 K pnotN (fun x y H Q => y = .non ∧ Q (.bl (!decide (x = .non))) H) := by
  intro mg C F H x y dx dy cs Q s q rx ry h
  cases ry with
  | non => cases rx <;> exact ⟨rfl, kE.val h s q (.bl _)⟩
  | _ => cases rx <;> exact h.elim
end DL
end
section
set_option Elab.async false
set_option linter.all false
set_option maxRecDepth 100000
set_option maxHeartbeats 4000000
set_option autoImplicit false
namespace DL
open PySem PySem.Spec PyProof.Rows L2
/-! ### calls of the text's own defs -/
def kV (rk : Bool) (K : PySem.W.Frag) (c : Option Addr) (H : Hp) (Q : VK) : PyData → List PyData → Hp → Hp → Prop := fun d _ F' H' =>
  if rk = true then ∀ xs a vs, d = .list xs → H a = none → H' a = some (.lst vs) → F' a = none → c ≠ some a → Rps K F' vs xs → Q (.ref a) H' else ∀ v, Rp K F' v d → Q v H'
def cupV : Option Addr → List V
  | none => []
  | some a => [.ref a]
/-- what a def promises: cup: its first argument is the cup; rk: what it gives back is a list of the caller's own; n further arguments; g: what it computes -/
def spD (K : PySem.W.Frag) (mg : Str → Option Value) (cup rk : Bool) (n : Nat) (g : List PyData → M PyData) : Sp := fun vs H Q E => ∃ (c : Option Addr) (ws : List V) (ds : List PyData) (F : Hp) (cs : List PyData),
  vs = cupV c ++ ws ∧ c.isSome = cup ∧ ds.length = n ∧ Sub F H ∧ Rps K F ws ds ∧ CupOk K ⟨fun cl d _ H' => E cl d H', [], c, H, F⟩ F H cs ∧ Res K mg ⟨fun cl d _ H' => E cl d H', [], c, H, F⟩ F H (g ds cs) (kV rk K c H Q)
def finish (m : M (Fl Unit Empty)) : M PyData := do
  match ← m with
  | .nx _ => pure .none
  | .rt d => pure d
def slots0 (cup : Bool) (ds : List PyData) (un : Nat) : List Sl := (if cup = true then [Sl.cup] else []) ++ (ds.map Sl.d ++ List.replicate un Sl.un)
section
variable {P : Program} {w : World} {K : PySem.W.Frag} {mg : Str → Option Value} {base : Heap}
theorem start_env {C : Ct} {F H : Hp} {N : List Str} {ws : List V} {ds : List PyData} {un : Nat} (cup : Bool) (hc : C.c.isSome = cup) (hN : N.length = (cupV C.c ++ ws).length + un) (r : Rps K F ws ds) (g0 : Grow C.c C.F0 C.E F H) :
    EnvOk K mg C F H (L2.start N (cupV C.c ++ ws)) (slots0 cup ds un) := by
  have hr := r.length
  have hno : ∀ (i : Nat) (s : Sl), (slots0 cup ds un)[i]? = some s → isOwn s = true → False := by
    intro i s e o
    have hm := List.mem_of_getElem? e
    unfold slots0 at hm
    rw [List.mem_append, List.mem_append] at hm
    rcases hm with hm | hm | hm
    · cases cup
      · simp at hm
      · simp at hm; subst hm; cases o
    · obtain ⟨d, _, rfl⟩ := List.mem_map.mp hm; cases o
    · have := List.eq_of_mem_replicate hm; subst this; cases o
  refine ⟨?_, g0, fun i s e => ?_, fun i j a ⟨s, e, o, _⟩ _ => (hno i s e o).elim⟩
  · unfold slots0 L2.start
    rw [List.length_append, List.length_append, List.length_append, List.length_map, List.length_map, List.length_replicate, List.length_replicate, ← hr, hN]
    cases hcc : C.c with
    | none => rw [hcc] at hc; subst hc; simp [cupV]; try omega
    | some a => rw [hcc] at hc; subst hc; simp [cupV]; try omega
  · have key : ∀ (pre : List V) (ρp : List Sl) , ρp.length = pre.length → (∀ (i : Nat) (s : Sl), ρp[i]? = some s → SlOk K mg C F H s (some (pre[i]?))) → ∀ (i : Nat) (s : Sl), (ρp ++ (ds.map Sl.d ++ List.replicate un Sl.un))[i]? = some s →
        SlOk K mg C F H s ((pre ++ ws).map some ++ List.replicate un none)[i]? := by
      intro pre ρp hl hp i s e
      by_cases h1 : i < ρp.length
      · rw [List.getElem?_append_left h1] at e
        have := hp i s e
        rw [List.getElem?_append_left (by rw [List.length_map, List.length_append]; omega), List.getElem?_map, List.getElem?_append_left (by omega)]
        have hz : i < pre.length := by omega
        rw [List.getElem?_eq_getElem hz] at this ⊢
        exact this
      · rw [List.getElem?_append_right (by omega)] at e
        by_cases h2 : i - ρp.length < ds.length
        · rw [List.getElem?_append_left (by rw [List.length_map]; exact h2), List.getElem?_map] at e
          rw [List.getElem?_append_left (by rw [List.length_map, List.length_append]; omega), List.getElem?_map, List.getElem?_append_right (by omega)]
          rw [List.getElem?_eq_getElem h2] at e
          cases e
          obtain ⟨v, e1, rv⟩ := r.get (List.getElem?_eq_getElem h2)
          rw [← hl, e1]
          exact ⟨v, rfl, rv⟩
        · rw [List.getElem?_append_right (by rw [List.length_map]; omega)] at e
          have := List.eq_of_mem_replicate (List.mem_of_getElem? e)
          subst this
          trivial
    unfold slots0 at e
    have hst : L2.start N (cupV C.c ++ ws) = (cupV C.c ++ ws).map some ++ List.replicate un none := by
      unfold L2.start
      congr 2
      omega
    rw [hst]
    refine key (cupV C.c) _ ?_ ?_ i s e
    · cases hcc : C.c with
      | none => rw [hcc] at hc; subst hc; rfl
      | some a => rw [hcc] at hc; subst hc; rfl
    · intro i s e
      cases hcc : C.c with
      | none => rw [hcc] at hc; subst hc; simp at e
      | some a =>
        rw [hcc] at hc; subst hc
        match i, e with
        | 0, e => simp at e; subst e; exact ⟨a, hcc, rfl⟩
        | i + 1, e => simp at e
abbrev cxD (P : Program) (w : World) (K : PySem.W.Frag) (mg : Str → Option Value) (base : Heap) (N : List Str) (qual : Str) (scope : Scope) (f : Addr) (cd : Value) (A : Around) (outer : List Env) (s : Shared) (H : Hp) (E : XK) : Cx := cxOf (L2.CX P w) P w K mg base N qual scope f cd A outer s H E
/-- THE RULE for a def -/
theorem fn_d {x qual : Str} {st : Stmt} {f : Addr} {fd : FuncData} {N ps : List Str} {k n un : Nat} {cup rk : Bool} {g : List PyData → M PyData} (F : Fun K x qual st f fd) (S : FnScope N ps (defScope st))
    (hp : ps.length = (if cup = true then 1 else 0) + n) (hu : N.length = ps.length + un)
    (hb : ∀ (cdv : Value) (A : Around) (outer : List Env) (s : Shared) (H : Hp) (E : XK) (C : Ct) (ds : List PyData), Room k (A.deeper (envOfC qual (defScope st) s.heap.objs.size f cdv)) →
      Takes (cxD P w K mg base N qual (defScope st) f cdv A outer s H E) C.W → PassesOwn (model P w) (cxD P w K mg base N qual (defScope st) f cdv A outer s H E).A (cxD P w K mg base N qual (defScope st) f cdv A outer s H E).env (cxD P w K mg base N qual (defScope st) f cdv A outer s H E).xe → C.rx = [] → C.c.isSome = cup → ds.length = n →
      ∃ m : M (Fl Unit Empty), (∀ cs, g ds cs = finish m cs) ∧ FB (cxD P w K mg base N qual (defScope st) f cdv A outer s H E) C (slots0 cup ds un) (fun _ : Unit => []) (fun b : Empty => nomatch b) rk (defBody st) m)
    (hrk : rk = true → ∀ ds cs cs', ds.length = n → g ds cs ≠ .ok (.none, cs')) :
    FnOk P w K mg base (L2.CX P w) (k + 1) f fd ps (spD K mg cup rk n g) := by
  have len : ∀ vs H Q E, spD K mg cup rk n g vs H Q E → vs.length = ps.length := by
    rintro vs H Q E ⟨c, ws, ds, F0, cs, rfl, hc, hd, s, r, q, h⟩
    have hr := r.length
    rw [List.length_append, hp, hr, hd]
    cases c with
    | none => subst hc; rfl
    | some a => subst hc; rfl
  refine F.okX S len fun cdv A outer s H vs Q E hr h => ?_
  have hlen := len vs H Q E h
  obtain ⟨c, ws, ds, F0, cs, rfl, hc, hd, su, r, q, h⟩ := h
  obtain ⟨m, hm, fb⟩ := hb cdv A outer s H E ⟨fun cl d _ H' => E cl d H', [], c, H, F0⟩ ds hr (takes_of rfl rfl rfl rfl) (passes_of rfl) rfl hc hd
  refine ⟨_, fb.ps, F0, cs, start_env cup hc (by rw [hlen]; exact hu) r (Grow.refl su), q, ?_⟩
  rw [hm] at h
  have hne := fun z => hrk z ds cs
  simp only [hm] at hne
  unfold finish at h hne
  rw [M.bind_run] at h
  simp only [M.bind_run] at hne
  match e : m cs, h with
  | .ok (fl, cs1), h =>
    intro F' H' le g1 q1
    cases fl with
    | nx t =>
      have h2 := h F' H' g1 q1
      intro σ' e'
      cases rk with
      | false => exact h2 .non .non
      | true => exact absurd (by rw [e]; rfl) (hne rfl cs1 hd)
    | rt d =>
      have h2 := h F' H' g1 q1
      cases rk with
      | false => exact h2
      | true => exact h2
    | bk b => exact nomatch b
    | ct b => exact nomatch b
  | .error (.exc nm fld), h => exact fun F' H' cl d σ le g1 e1 x1 => h F' H' cl d σ g1 e1 x1
end
section
variable {X : Cx} {C : Ct} {ρ : List Sl} {e e0 : Expr} {es : List Expr} {m m0 : M PyData} {ms : List (M PyData)} {pos p p0 : Pos} {x y : Str} {k n : Nat} {f : Addr} {fd : FuncData} {ps : List Str} {g : List PyData → M PyData}
theorem Grow.of0 {c : Option Addr} {F H F' H' : Hp} (g : Grow none F H F' H') : Grow c F H F' H' := ⟨g.le, g.new, g.tp, fun a o e _ => g.keep a o e (by simp), g.ex, g.sub⟩
theorem EnvOk.rx {K : PySem.W.Frag} {mg : Str → Option Value} {F H F' H' : Hp} {σ : St} (e : EnvOk K mg C F H σ ρ) (w : Wk ρ C.rx) (g : Grow C.c F H F' H') : EnvOk K mg C F' H' σ C.rx := (e.grow g).wk w
/-- a call without the cup: what is handed back is data -/
theorem fe_call (F : FnOk X.prog X.w X.K X.mg X.base (L2.CX X.prog X.w) k f fd ps (spD X.K X.mg false false n g)) (hr : Room k X.A) (hm : X.mg x = some (.ref f)) (hk : PySem.W.keepIn X.K (.ref f) = true) (hb : Binds X.K fd ps [])
    (tk : Takes X C.W) (wk : Wk ρ C.rx) (ha : FA X C ρ (e :: es) ms) (hn : ms.length = n := by rfl) (hg : Gl X x := by rfl) (hdb : (x == ("__debug__" : Str)) = false := by decide)
    (he : starEach (e :: es) X.env = (false, eval e X.env) :: starEach es X.env := by rfl) (hpl : (backTo pos (starEach es X.env)).any (·.1) = false := by rfl) :
    FE X C ρ (.Call (.Name x p) (e :: es) [] pos) (do let ds ← runs ms; liftP (g ds)) := by
  refine ⟨imE (pe_callS (E := WE C.W) F hr hg hm hk hb (passAt tk) ha.pa hdb he hpl) fun σ H Q h => ?_⟩
  obtain ⟨F0, cs, ev, q, h⟩ := h
  refine ⟨F0, cs, ev, q, (Res.bind h).mono fun ds cs1 F1 H1 g1 q1 h1 vs hl rs => ⟨none, vs, ds, F1, [], rfl, rfl, hl.trans hn, g1.sub, rs, rfl, ?_⟩⟩
  unfold liftP at h1
  match e1 : g ds [], h1 with
  | .ok (d, cs2), h1 => exact fun F' H' g2 _ v rv => h1 F' H' g2.of0 (q1.grow0 g2) v rv
  | .error (.exc nm fld), h1 => exact fun F' H' cl d σ' g2 _ x1 => h1 F' H' cl d σ g2.of0 (((ev.grow g1).grow g2.of0).wk wk) x1
def asL : PyData → M (List PyData)
  | .list xs => pure xs
  | _ => stuck
theorem fo_call (F : FnOk X.prog X.w X.K X.mg X.base (L2.CX X.prog X.w) k f fd ps (spD X.K X.mg false true n g)) (hr : Room k X.A) (hm : X.mg x = some (.ref f)) (hk : PySem.W.keepIn X.K (.ref f) = true) (hb : Binds X.K fd ps [])
    (tk : Takes X C.W) (wk : Wk ρ C.rx) (ha : FA X C ρ (e :: es) ms) (hn : ms.length = n := by rfl) (hg : Gl X x := by rfl) (hdb : (x == ("__debug__" : Str)) = false := by decide)
    (he : starEach (e :: es) X.env = (false, eval e X.env) :: starEach es X.env := by rfl) (hpl : (backTo pos (starEach es X.env)).any (·.1) = false := by rfl) :
    FO X C ρ (.Call (.Name x p) (e :: es) [] pos) (do let ds ← runs ms; let d ← liftP (g ds); asL d) := by
  refine ⟨imE (pe_callS (E := WE C.W) F hr hg hm hk hb (passAt tk) ha.pa hdb he hpl) fun σ H Q h => ?_⟩
  obtain ⟨F0, cs, ev, q, h⟩ := h
  refine ⟨F0, cs, ev, q, (Res.bind h).mono fun ds cs1 F1 H1 g1 q1 h1 vs hl rs => ⟨none, vs, ds, F1, [], rfl, rfl, hl.trans hn, g1.sub, rs, rfl, ?_⟩⟩
  have h1 : Res X.K X.mg C F1 H1 ((liftP (g ds) >>= asL) cs1) (kO X.K C H Q) := h1
  rw [M.bind_run] at h1
  unfold liftP at h1
  match e1 : g ds [], h1 with
  | .ok (.list xs, cs2), h1 =>
    intro F' H' g2 _ xs' a vs' e2 nH e3 nF nc r
    cases e2
    have h1 : Res X.K X.mg C F1 H1 ((pure xs : M (List PyData)) cs1) (kO X.K C H Q) := h1
    have q2 := q1.grow0 g2
    refine h1 F' H' g2.of0 q2 a vs' (g1.free nH) e3 nF ?_ r
    exact q1.ne nH
  | .ok (.none, cs2), h1 => exact h1.elim
  | .ok (.bool _, cs2), h1 => exact h1.elim
  | .ok (.int _, cs2), h1 => exact h1.elim
  | .ok (.str _, cs2), h1 => exact h1.elim
  | .ok (.tuple _, cs2), h1 => exact h1.elim
  | .ok (.dict _, cs2), h1 => exact h1.elim
  | .error (.exc nm fld), h1 => exact fun F' H' cl d σ' g2 _ x1 => h1 F' H' cl d σ g2.of0 (((ev.grow g1).grow g2.of0).wk wk) x1
/-- the cup as the first argument -/
theorem fa_cup (i : Nat) (hN : X.N[i]? = some y) (hv : Vis X.env.scope y) (hd : (y == ("__debug__" : Str)) = false) (hcd : (y == ("__classdict__" : Str)) = false)
    (ha : FA X C ρ es ms) (he : starEach (.Name y p0 :: es) X.env = (false, eval (.Name y p0) X.env) :: starEach es X.env) : PA X (.Name y p0 :: es) (tCons (tVar i) (tAm X.K X.mg C ρ ms)) := pa_cons (pe_var hN hv hd hcd) ha.pa he
theorem fe_callC (i : Nat) (F : FnOk X.prog X.w X.K X.mg X.base (L2.CX X.prog X.w) k f fd ps (spD X.K X.mg true false n g)) (hr : Room k X.A) (hm : X.mg x = some (.ref f)) (hk : PySem.W.keepIn X.K (.ref f) = true) (hb : Binds X.K fd ps [])
    (tk : Takes X C.W) (wk : Wk ρ C.rx) (ha : FA X C ρ es ms) (hρ : ρ[i]? = some .cup := by rfl) (hn : ms.length = n := by rfl) (hN : X.N[i]? = some y := by rfl) (hv : Vis X.env.scope y := by first | exact Or.inl rfl | exact Or.inr (Or.inl rfl) | exact Or.inr (Or.inr rfl))
    (hd : (y == ("__debug__" : Str)) = false := by decide) (hcd : (y == ("__classdict__" : Str)) = false := by decide) (hg : Gl X x := by rfl) (hdb : (x == ("__debug__" : Str)) = false := by decide)
    (he : starEach (.Name y p0 :: es) X.env = (false, eval (.Name y p0) X.env) :: starEach es X.env := by rfl) (hpl : (backTo pos (starEach es X.env)).any (·.1) = false := by rfl) :
    FE X C ρ (.Call (.Name x p) (.Name y p0 :: es) [] pos) (do let ds ← runs ms; g ds) := by
  refine ⟨imE (pe_callS (E := WE C.W) F hr hg hm hk hb (passAt tk) (fa_cup i hN hv hd hcd ha he) hdb he hpl) fun σ H Q h => ?_⟩
  obtain ⟨F0, cs, ev, q, h⟩ := h
  obtain ⟨a, ea, es'⟩ := ev.sl i _ hρ
  refine ⟨.ref a, es', F0, cs, ev, q, (Res.bind h).mono fun ds cs1 F1 H1 g1 q1 h1 vs hl rs => ⟨some a, vs, ds, F1, cs1, rfl, rfl, hl.trans hn, g1.sub, rs, ?_, ?_⟩⟩
  · unfold CupOk at q1 ⊢; rw [ea] at q1; exact q1
  · match e1 : g ds cs1, h1 with
    | .ok (d, cs2), h1 =>
      intro F' H' g2 q2 v rv
      refine h1 F' H' (by rw [ea]; exact g2) ?_ v rv
      unfold CupOk at q2 ⊢; rw [ea]; exact q2
    | .error (.exc nm fld), h1 =>
      intro F' H' cl d σ' g2 _ x1
      have g3 : Grow C.c F1 H1 F' H' := by rw [ea]; exact g2
      exact h1 F' H' cl d σ g3 (((ev.grow g1).grow g3).wk wk) x1
/-- cup[e] -/
def cupIx (d : PyData) : M PyData := fun cs => match d with
  | .int i => match atI cs i with
    | some x => .ok (x, cs)
    | none => .error .stuck
  | _ => .error .stuck
theorem fe_cupget (i : Nat) {idx : Expr} (hb : FE X C ρ idx m) (hρ : ρ[i]? = some .cup := by rfl) (hN : X.N[i]? = some y := by rfl) (hv : Vis X.env.scope y := by first | exact Or.inl rfl | exact Or.inr (Or.inl rfl) | exact Or.inr (Or.inr rfl))
    (hd : (y == ("__debug__" : Str)) = false := by decide) (hcd : (y == ("__classdict__" : Str)) = false := by decide) (hs : PlainIx idx := by exact fun _ _ => rfl) :
    FE X C ρ (.Subscript (.Name y p) idx pos) (do let d ← m; cupIx d) := by
  refine ⟨imE (pe_ix ix_seq (pe_var hN hv hd hcd) hb.pe hs) fun σ H Q h => ?_⟩
  obtain ⟨F0, cs, ev, q, h⟩ := h
  obtain ⟨a, ea, es'⟩ := ev.sl i _ hρ
  refine ⟨.ref a, es', F0, cs, ev, q, (Res.bind h).mono fun d cs1 F1 H1 g1 q1 h1 v rv => ?_⟩
  unfold cupIx at h1
  cases rv with
  | int j =>
    dsimp only at h1
    have q1' := q1
    unfold CupOk at q1
    rw [ea] at q1
    obtain ⟨nF, vs, e1, rs⟩ := q1
    cases e : atI cs1 j with
    | none => rw [e] at h1; exact h1.elim
    | some x =>
      rw [e] at h1
      obtain ⟨u, e2, ru⟩ := rs.atI e
      exact .inl ⟨a, vs, j, u, rfl, rfl, .inl (.inl e1), e2, h1 F1 H1 (Grow.refl g1.sub) q1' u ru⟩
  | _ => exact h1.elim
end
end DL
end
section
set_option Elab.async false
set_option linter.all false
set_option maxRecDepth 100000
set_option maxHeartbeats 4000000
set_option autoImplicit false
namespace DL
open PySem PySem.Spec PyProof.Rows L2
def cupSet (y d : PyData) : M Unit := fun cs => match y with
  | .int i => match ixN cs.length i with
    | some j => .ok ((), cs.set j d)
    | none => .error .stuck
  | _ => .error .stuck
/-- the rest of a def that makes its own cup -/
def withCup {α : Type} (xs : List PyData) (m : M α) : M α := fun cs => match m xs with
  | .ok (x, _) => .ok (x, cs)
  | .error e => .error e
theorem Grow.cupset {F H : Hp} {a : Addr} {xs : List V} (s : Sub F H) (n : F a = none) : Grow (some a) F H F (upd H a (.lst xs)) := by
  refine ⟨Le.refl F, fun b e => .inl e, fun b ys e => ?_, fun b u e k => ?_, fun b e => ?_, s.put n⟩
  · by_cases h : b = a
    · subst h; rw [upd_same] at e; cases e
    · rw [upd_ne h] at e; exact .inr e
  · rw [upd_ne (fun z => k (by rw [z]))]; exact e
  · by_cases h : b = a
    · subst h; rw [upd_same]; simp
    · rw [upd_ne h]; exact e
section
variable {X : Cx} {C : Ct} {ρ : List Sl} {τ τ' β α : Type} {emb : τ → List Sl} {emb' : τ' → List Sl} {embL : β → List Sl} {rk : Bool} {rest : List Stmt} {sts : List Stmt} {s : Stmt} {a b e c idx : Expr} {m ma mb mi : M PyData} {pos p' p2 apos tpos : Pos} {x y z : Str}
/-- what is not reached needs no walk -/
theorem fb_stuck : FB X C ρ emb embL rk sts (stuck : M (Fl τ β)) := ⟨⟨fun pins s' σ H D I ⟨F, cs, e, q, h⟩ => h.elim⟩⟩
theorem fe_stuck : FE X C ρ e stuck := ⟨⟨fun pins s' σ H D I ⟨F, cs, e, q, h⟩ => h.elim⟩⟩
theorem ft_stuck : FT X C ρ e stuck := ⟨⟨fun pins s' σ H D I ⟨F, cs, e, q, h⟩ => h.elim⟩⟩
/-- cup[idx] = e -/
theorem fb_cupset (i : Nat) {k : M (Fl τ β)} (he : FE X C ρ e m) (hi : FE X C ρ idx mi) (hk : FB X C ρ emb embL rk rest k) (hρ : ρ[i]? = some .cup := by rfl) (hN : X.N[i]? = some y := by rfl) (hv : Vis X.env.scope y := by first | exact Or.inl rfl | exact Or.inr (Or.inl rfl) | exact Or.inr (Or.inr rfl))
    (hd : (y == ("__debug__" : Str)) = false := by decide) (hcd : (y == ("__classdict__" : Str)) = false := by decide)
    (ha : ∀ v, assign (.Subscript (.Name y p') idx tpos) X.env v = (do
      let ov ← holding [v] (eval (.Name y p') X.env)
      let iv ← holding [v, ov] (eval idx X.env)
      standAt tpos
      holding [v, ov, iv] (setItem ov iv v)
      release [v, ov, iv] []) := by intro _; rfl)
    (hs : swapsWithSole [.Subscript (.Name y p') idx tpos] e pos.line X.env = pure false := by rfl) (hw : swappedStores [.Subscript (.Name y p') idx tpos] e X.env = pure none := by rfl)
    (h1 : (assignEach [.Subscript (.Name y p') idx tpos] X.env).map (·.2) = [assign (.Subscript (.Name y p') idx tpos) X.env] := by rfl) :
    FB X C ρ emb embL rk (.Assign [.Subscript (.Name y p') idx tpos] e pos :: rest) (do let d ← m; let j ← mi; cupSet j d; k) := by
  have e2 : (do let d ← m; let j ← mi; cupSet j d; k) = (do let u ← (do let d ← m; let j ← mi; cupSet j d); k) := by simp
  rw [e2]
  refine fb_step (ps_asg he.pe (pg_sub (pe_var hN hv hd hcd) hi.pe set_list ha) hs hw h1) fun D σ H h => ?_
  rw [← e2] at h
  obtain ⟨F, cs, ev, q, h⟩ := h
  obtain ⟨a, ea, es⟩ := ev.sl i _ hρ
  refine ⟨F, cs, ev, q, (h.bind ev.g0).mono fun d cs1 F1 H1 g1 q1 h1 v rv => ?_⟩
  refine ⟨.ref a, es, F1, cs1, ev.grow g1, q1, (h1.bind (ev.grow g1).g0).mono fun j cs2 F2 H2 g2 q2 h2 w rw' => ?_⟩
  have ev2 := (ev.grow g1).grow g2
  have rv2 := rv.mono g2.le
  rw [show ((do cupSet j d; k : M (Fl τ β)) cs2) = _ from M.bind_run _ _ _] at h2
  unfold cupSet at h2
  cases rw' with
  | int z =>
    dsimp only at h2
    have q2' := q2
    unfold CupOk at q2
    rw [ea] at q2
    obtain ⟨nF, vs, e1, rs⟩ := q2
    cases ei : ixN cs2.length z with
    | none => rw [ei] at h2; exact h2.elim
    | some l =>
      rw [ei] at h2
      refine ⟨a, vs, z, l, rfl, rfl, e1, by rw [rs.length]; exact ei, ?_⟩
      have gs : Grow C.c F2 H2 F2 (upd H2 a (.lst (vs.set l v))) := by rw [ea]; exact Grow.cupset g2.sub nF
      refine ⟨(), ρ, hk.ps, F2, cs2.set l d, ev2.grow gs, ?_, h2⟩
      unfold CupOk
      rw [ea]
      exact ⟨nF, _, upd_same, rs.set rv2 l⟩
  | _ => exact h2.elim
/-- name = e makes the cup -/
theorem fb_newcup (i : Nat) {mo : M (List PyData)} {emb : τ → List Sl} {embL : Empty → List Sl} {k : List PyData → M (Fl τ Empty)} (hemb : ∀ t, emb t = []) (hc : C.c = none) (hx0 : C.rx = []) (hnc : ∀ j : Nat, ρ[j]? ≠ some Sl.cup) (hN : X.N.Nodup) (he : FO X C ρ e mo)
    (hk : ∀ (a : Addr) (xs : List PyData), FB X { C with c := some a } (ρ.set i .cup) emb embL false rest (k xs)) (hi : X.N[i]? = some x := by rfl) (hx : Loc X.env.scope x := by first | exact Or.inl rfl | exact Or.inr rfl)
    (hs : swapsWith e (some (.Name x p')) pos.line X.env = pure false := by rfl) (hf : X.fn x = true ∨ X.env.scope.names.lookup x = some .local := by first | exact Or.inl rfl | exact Or.inr rfl) :
    FB X C ρ emb embL false (.Assign [.Name x p'] e pos :: rest) (do let xs ← mo; withCup xs (k xs)) := by
  have hR : PSs X rest (fun D σ H => ∃ (a : Addr) (xs : List PyData), tBl X.K X.mg { C with c := some a } (ρ.set i .cup) emb embL false (k xs) D σ H) := ⟨fun pins s' σ H D I ⟨a, xs, w⟩ => (hk a xs).ps.run pins s' σ H D I w⟩
  refine ⟨imSs (pss_cons (ps_set hN hi hx he.pe hs hf) hR) fun D σ H h => ?_⟩
  obtain ⟨F, cs, ev, q, h⟩ := h
  refine ⟨F, cs, ev, q, (h.bind ev.g0).mono fun xs cs1 F1 H1 g1 q1 h1 a vs n e1 e2 e3 r => ?_⟩
  have ev1 := ev.grow g1
  have nE : C.E a = none := by
    cases z : C.E a with
    | none => rfl
    | some o => exact absurd n (ev.ent a (by rw [z]; simp))
  have gI : ∀ {F' H' : Hp}, Grow (some a) C.F0 C.E F' H' → Grow C.c C.F0 C.E F' H' := fun g => by
    rw [hc]
    exact ⟨g.le, g.new, g.tp, fun b o z _ => g.keep b o z (fun w => by cases w; rw [nE] at z; cases z), g.ex, g.sub⟩
  have gO : Grow (some a) C.F0 C.E F1 H1 := by
    have g := ev1.g0
    rw [hc] at g
    exact ⟨g.le, g.new, g.tp, fun b o z _ => g.keep b o z (by simp), g.ex, g.sub⟩
  have noA : ∀ j b, OwnAt ρ σ j b → b ≠ a := fun j b o z => absurd n (z ▸ ev.owned o)
  refine ⟨a, xs, F1, xs, ⟨by rw [List.length_set, List.length_set]; exact ev.len, gO, fun j t ej => ?_, fun j k b h1 h2 => ?_⟩, ⟨e2, vs, e1, r⟩, ?_⟩
  · by_cases hj : i = j
    · subst hj
      have hi' : i < ρ.length := by
        have := (List.getElem?_eq_some_iff.mp ej).1
        rw [List.length_set] at this; exact this
      rw [List.getElem?_set_self hi'] at ej
      have hl := ev.len
      rw [List.getElem?_set_self (by omega)]
      cases ej
      exact ⟨a, rfl, rfl⟩
    · rw [List.getElem?_set_ne hj] at ej ⊢
      have sj := ev1.sl j t ej
      cases t with
      | un => trivial
      | d x => exact sj
      | own ys => obtain ⟨b, ws, z, z1, z2, z3, z4, z5⟩ := sj; exact ⟨b, ws, z, z1, z2, fun w => noA j b ⟨_, ej, rfl, z⟩ (by cases w; rfl), z4, z5⟩
      | odK ys => obtain ⟨b, ws, z, z1, z2, z3, z4, z5⟩ := sj; exact ⟨b, ws, z, z1, z2, fun w => noA j b ⟨_, ej, rfl, z⟩ (by cases w; rfl), z4, z5⟩
      | odT ys => obtain ⟨b, ws, z, z1, z2, z3, z4, z5⟩ := sj; exact ⟨b, ws, z, z1, z2, fun w => noA j b ⟨_, ej, rfl, z⟩ (by cases w; rfl), z4, z5⟩
      | cup => exact absurd ej (hnc j)
      | fn x => exact sj
  · have key : ∀ j, OwnAt (ρ.set i .cup) (σ.set i (some (.ref a))) j b → OwnAt ρ σ j b := by
      rintro j ⟨t, z1, z2, z3⟩
      by_cases hj : i = j
      · subst hj
        have hi' : i < ρ.length := by
          have := (List.getElem?_eq_some_iff.mp z1).1
          rw [List.length_set] at this; exact this
        rw [List.getElem?_set_self hi'] at z1
        cases z1; cases z2
      · rw [List.getElem?_set_ne hj] at z1 z3
        exact ⟨t, z1, z2, z3⟩
    exact ev.sep j k b (key j h1) (key k h2)
  · unfold withCup at h1
    match e4 : k xs xs, h1 with
    | .ok (fl, cs2), h1 =>
      have h1 : ResB X.K X.mg C F1 (.ok (fl, cs1)) _ := h1
      intro F' H' le g2 q2
      have cs1e : CupOk X.K C F' H' cs1 := by
        unfold CupOk at q1 ⊢
        rw [hc] at q1 ⊢
        exact q1
      have h2 := h1 F' H' le (gI g2) cs1e
      cases fl with
      | nx t =>
        have h3 : ∀ σ', EnvOk X.K X.mg C F' H' σ' (emb t) → D.nx σ' H' := h2
        intro σ' e'
        refine h3 σ' ?_
        rw [hemb t]
        exact ⟨Nat.zero_le _, gI g2, fun j t ej => by simp at ej, fun j k b ⟨t, ej, _⟩ _ => by simp at ej⟩
      | bk t => exact nomatch t
      | ct t => exact nomatch t
      | rt d => exact h2
    | .error (.exc nm fld), h1 =>
      intro F' H' cl d σ' le g2 e2 x1
      refine h1 F' H' cl d σ' le (gI g2) ?_ x1
      have hrx : ({ C with c := some a } : Ct).rx = [] := hx0
      rw [hx0]
      exact ⟨Nat.zero_le _, gI g2, fun j t ej => by simp at ej, fun j k b ⟨t, ej, _⟩ _ => by simp at ej⟩
end
end DL
end
section
set_option Elab.async false
set_option linter.all false
set_option maxRecDepth 100000
set_option maxHeartbeats 4000000
set_option autoImplicit false
namespace DL
open PySem PySem.Spec PyProof.Rows L2 RZ
section
variable {X : Cx} {C : Ct} {ρ : List Sl} {τ τ' β α : Type} {emb : τ → List Sl} {embL : β → List Sl} {rk : Bool} {rest : List Stmt} {tg a b c e : Expr} {ma mb mc m : M PyData} {pos p p' apos : Pos} {x y : Str}
/-! ### + of two lists, as a list of one's own -/
theorem fo_add (ha : FE X C ρ a ma) (hb : FE X C ρ b mb) : FO X C ρ (.BinOp a .Add b pos) (do let x ← ma; let y ← mb; let z ← padd x y; asL z) := by
  refine ⟨imE (pe_op op_catL ha.pe hb.pe) fun σ H Q h => ?_⟩
  obtain ⟨F, cs, ev, q, h⟩ := h
  refine ⟨F, cs, ev, q, (Res.bind h).mono fun dx cs1 F1 H1 g1 q1 h1 v rv => ?_⟩
  refine ⟨F1, cs1, ev.grow g1, q1, (Res.bind h1).mono fun dy cs2 F2 H2 g2 q2 h2 u ru => ?_⟩
  have rv2 := rv.mono g2.le
  have h2 : Res X.K X.mg C F2 H2 ((padd dx dy >>= asL) cs2) (kO X.K C H Q) := h2
  cases rv2 with
  | @lst l xs ds f r =>
    cases ru with
    | @lst l2 ys es f2 r2 =>
      unfold padd at h2
      rw [bind_assoc] at h2
      obtain ⟨c, h3⟩ := Res.chk h2
      have h3 : Res X.K X.mg C F2 H2 ((pure (ds ++ es) : M (List PyData)) cs2) (kO X.K C H Q) := h3
      refine ⟨_, _, xs, ys, rfl, rfl, f.sq g2.sub, f2.sq g2.sub, by rw [r.length, r2.length]; exact c, fun p n => ?_⟩
      have nH : H p = none := g1.free (g2.free n)
      exact h3 F2 (upd H2 p (.lst (xs ++ ys))) (Grow.fresh g2.sub n) (q2.upd (q2.ne n)) p (xs ++ ys) nH upd_same (g2.sub.fresh n) (q2.ne n) (r.append r2)
    | _ => exact h2.elim
  | tup f r =>
    cases ru with
    | tup f2 r2 =>
      unfold padd at h2
      rw [bind_assoc] at h2
      obtain ⟨c, h3⟩ := Res.chk h2
      have h4 : False := h3
      exact h4.elim
    | _ => exact h2.elim
  | str f =>
    cases ru with
    | str f2 =>
      unfold padd at h2
      rw [bind_assoc] at h2
      obtain ⟨c, h3⟩ := Res.chk h2
      have h4 : False := h3
      exact h4.elim
    | _ => exact h2.elim
  | int f =>
    cases ru with
    | int f2 =>
      have h4 : False := h2
      exact h4.elim
    | _ => exact h2.elim
  | _ => cases ru <;> exact h2.elim

/-! ### zip -/
def zipD (ds es : List PyData) : List PyData := (ds.zip es).map fun p => .tuple [p.1, p.2]
theorem zipD_length (ds es : List PyData) : (zipD ds es).length = min ds.length es.length := by unfold zipD; rw [List.length_map, List.length_zip]
theorem zipD_get {ds es : List PyData} {i : Nat} {d : PyData} (h : (zipD ds es)[i]? = some d) : ∃ a b, ds[i]? = some a ∧ es[i]? = some b ∧ d = .tuple [a, b] := by
  unfold zipD at h
  rw [List.getElem?_map, Option.map_eq_some_iff] at h
  obtain ⟨⟨a, b⟩, h1, rfl⟩ := h
  rw [List.getElem?_zip_eq_some] at h1
  exact ⟨a, b, h1.1, h1.2, rfl⟩
theorem ItOk.zipL {K : PySem.W.Frag} {F : Hp} {l1 l2 : Addr} {xs ys : List V} {ds es : List PyData} (f1 : FzL K F l1 xs) (f2 : FzL K F l2 ys) (r1 : Rps K F xs ds) (r2 : Rps K F ys es) : ItOk K (Itz K l1 l2) F (zipD ds es) := by
  intro i F1 H1 l s
  have q1 := (f1.mono l).sq s
  have q2 := (f2.mono l).sq s
  refine ⟨fun h => ⟨xs, ys, q1, q2, by rw [zipD_length] at h; rw [r1.length, r2.length]; omega⟩, fun d e => ?_⟩
  obtain ⟨a, b, ea, eb, rfl⟩ := zipD_get e
  obtain ⟨v, e1, rv⟩ := r1.get ea
  obtain ⟨w, e2, rw'⟩ := r2.get eb
  refine ⟨⟨xs, ys, v, w, q1, q2, e1, e2⟩, fun x H2 yy => ?_⟩
  obtain ⟨T, x', y', rfl, nT, rfl, h1, h2⟩ := yy
  have z1 := h1 xs q1
  have z2 := h2 ys q2
  rw [e1] at z1; cases z1
  rw [e2] at z2; cases z2
  exact ⟨upd F1 T (.tup [v, w]), fun c => Grow.alloc s nT RdO.tup, .tup upd_same (.cons (rv.mono (l.trans (Le.fz (s.fresh nT)))) (.cons (rw'.mono (l.trans (Le.fz (s.fresh nT)))) .nil))⟩
theorem ItOk.zipT {K : PySem.W.Frag} {F : Hp} {l1 l2 : Addr} {xs ys : List V} {ds es : List PyData} (f1 : FzT K F l1 xs) (f2 : FzT K F l2 ys) (r1 : Rps K F xs ds) (r2 : Rps K F ys es) : ItOk K (ItzT K l1 l2) F (zipD ds es) := by
  intro i F1 H1 l s
  have q1 := (f1.mono l).sq s
  have q2 := (f2.mono l).sq s
  refine ⟨fun h => ⟨xs, ys, q1, q2, by rw [zipD_length] at h; rw [r1.length, r2.length]; omega⟩, fun d e => ?_⟩
  obtain ⟨a, b, ea, eb, rfl⟩ := zipD_get e
  obtain ⟨v, e1, rv⟩ := r1.get ea
  obtain ⟨w, e2, rw'⟩ := r2.get eb
  refine ⟨⟨xs, ys, v, w, q1, q2, e1, e2⟩, fun x H2 yy => ?_⟩
  obtain ⟨T, x', y', rfl, nT, rfl, h1, h2⟩ := yy
  have z1 := h1 xs q1
  have z2 := h2 ys q2
  rw [e1] at z1; cases z1
  rw [e2] at z2; cases z2
  exact ⟨upd F1 T (.tup [v, w]), fun c => Grow.alloc s nT RdO.tup, .tup upd_same (.cons (rv.mono (l.trans (Le.fz (s.fresh nT)))) (.cons (rw'.mono (l.trans (Le.fz (s.fresh nT)))) .nil))⟩
def pzip : PyData → PyData → M (List PyData)
  | .list ds, .list es => do chk (ds.length ≤ sizeLine); pure (zipD ds es)
  | .tuple ds, .tuple es => do chk (ds.length ≤ sizeLine); pure (zipD ds es)
  | _, _ => stuck
theorem fi_zip {p pos tpos : Pos} {elts : List Expr} {kk : Nat} (hm : X.mg "zip" = none) (ha : FE X C ρ a ma) (hb : FE X C ρ b mb) (hg : Gl X "zip" := by rfl) (hs : starEach [a, b] X.env = (false, eval a X.env) :: starEach [b] X.env := by rfl) (hs2 : starEach [b] X.env = (false, eval b X.env) :: starEach [] X.env := by rfl) (hpl : (backTo pos (starEach [b] X.env)).any (·.1) = false := by rfl) :
    FI X C ρ (.Tuple elts kk tpos) (.Call (.Name "zip" p) [a, b] [] pos) (do let x ← ma; let y ← mb; pzip x y) := by
  have pa : PA X [a, b] (tCons (tM X.K X.mg C ρ ma) (tCons (tM X.K X.mg C ρ mb) tNil)) := pa_cons ha.pe (pa_cons hb.pe pa_nil hs2) hs
  refine ⟨imI (pi_zipA hg hm pa hs hpl) fun σ H R h => ?_⟩
  obtain ⟨F, cs, ev, q, h⟩ := h
  refine ⟨F, cs, ev, q, (Res.bind h).mono fun dx cs1 F1 H1 g1 q1 h1 v rv => ?_⟩
  refine ⟨F1, cs1, ev.grow g1, q1, (Res.bind h1).mono fun dy cs2 F2 H2 g2 q2 h2 u ru => ?_⟩
  have rv2 := rv.mono g2.le
  cases rv2 with
  | @lst l xs ds f r =>
    cases ru with
    | @lst l2 ys es f2 r2 =>
      obtain ⟨hz, h3⟩ := Res.chk h2
      have hl : (zipD ds es).length ≤ sizeLine := by rw [zipD_length]; omega
      exact ⟨_, _, xs, ys, rfl, .inl ⟨f.sq g2.sub, f2.sq g2.sub, Res.pure (mg := X.mg) h3 g2.sub q2 _ (.zipL f f2 r r2) hl⟩⟩
    | _ => exact h2.elim
  | @tup l xs ds f r =>
    cases ru with
    | @tup l2 ys es f2 r2 =>
      obtain ⟨hz, h3⟩ := Res.chk h2
      have hl : (zipD ds es).length ≤ sizeLine := by rw [zipD_length]; omega
      exact ⟨_, _, xs, ys, rfl, .inr ⟨f.sq g2.sub, f2.sq g2.sub, Res.pure (mg := X.mg) h3 g2.sub q2 _ (.zipT f f2 r r2) hl⟩⟩
    | _ => exact h2.elim
  | _ => cases ru <;> exact h2.elim
/-! ### list(range(..)) -/
theorem rgV_rp {K : PySem.W.Frag} {F : Hp} (a b : Int) : Rps K F (rgV a b) (rangeD a b) := by
  unfold rgV rangeD
  generalize List.range (b - a).toNat = l
  induction l with
  | nil => exact .nil
  | cons i l ih => exact .cons (.int _) ih
theorem fo_listRg {p2 pos2 : Pos} (hc : X.calm = true) (hl : X.mg "list" = none) (hm : X.mg "range" = none) (ha : FE X C ρ a ma) (hg : Gl X "list" := by rfl) (hg2 : Gl X "range" := by rfl)
    (na : starEach [a] X.env = (false, eval a X.env) :: starEach [] X.env := by rfl) (na2 : starEach [.Call (.Name "range" p) [a] [] pos] X.env = (false, eval (.Call (.Name "range" p) [a] [] pos) X.env) :: starEach [] X.env := by rfl) :
    FO X C ρ (.Call (.Name "list" p2) [.Call (.Name "range" p) [a] [] pos] [] pos2) (do let d ← ma; let n ← asI d; chk (0 ≤ n ∧ n ≤ 16777216); pure (rangeD 0 n)) := by
  refine ⟨imE (pe_listRg hc hg hl (prg_1 hg2 hm ha.pe na) na2) fun σ H Q h => ?_⟩
  obtain ⟨F, cs, ev, q, h⟩ := h
  refine ⟨F, cs, ev, q, (Res.bind h).mono fun d cs1 F1 H1 g1 q1 h1 v rv => ?_⟩
  cases rv with
  | int n =>
    have h2 : Res X.K X.mg C F1 H1 ((do chk (0 ≤ n ∧ n ≤ 16777216); pure (rangeD 0 n) : M (List PyData)) cs1) (kO X.K C H Q) := h1
    obtain ⟨hz, h3⟩ := Res.chk h2
    refine ⟨n, rfl, RgOk.of_le (by decide) hz.2 (by decide) hz.1, fun p n' => ?_⟩
    exact h3 F1 _ (Grow.fresh g1.sub n') (q1.upd (q1.ne n')) p _ (g1.free n') upd_same (g1.sub.fresh n') (q1.ne n') (rgV_rp 0 n)
  | _ => exact h1.elim
end
end DL
end
section
set_option Elab.async false
set_option linter.all false
set_option maxRecDepth 100000
set_option maxHeartbeats 4000000
set_option autoImplicit false
namespace DL
open PySem PySem.Spec PyProof.Rows L2 RZ
/-! ### [elt for tg in iter if .. for tg1 in iter1 if ..] -/
def lc2M {τ τ1 : Type} (u : PyData → M τ) (t : τ → M Bool) (i1 : τ → M (List PyData)) (u1 : PyData → M τ1) (t1 : τ → τ1 → M Bool) (f : τ → τ1 → M PyData) : List PyData → M (List PyData)
  | [] => pure []
  | d :: ds => do
    let x ← noexc (u d)
    let b ← noexc (t x)
    if b = true then (do
      let ds1 ← noexc (i1 x)
      let _ ← noexc (chk (ds1.length ≤ 4096))
      let ys ← lcM u1 (t1 x) (f x) ds1
      let zs ← lc2M u t i1 u1 t1 f ds
      pure (ys ++ zs)) else lc2M u t i1 u1 t1 f ds
section
variable {K : PySem.W.Frag} {mg : Str → Option Value} {C : Ct} {F H F' H' : Hp} {cs : List PyData} {α β : Type}
theorem ResN.map {m : M α} {h : α → β} {k : β → List PyData → Hp → Hp → Prop} (w : ResN K C F H ((m >>= fun x => pure (h x)) cs) k) : ResN K C F H (m cs) fun x cs' F' H' => k (h x) cs' F' H' := by
  rw [M.bind_run] at w
  match e : m cs, w with
  | .ok (x, cs1), w => exact w
  | .error _, w => exact w.elim
theorem ResN.chk {p : Prop} [Decidable p] {f : Unit → M β} {k : β → List PyData → Hp → Hp → Prop} (h : ResN K C F H ((noexc (DL.chk p) >>= f) cs) k) : p ∧ ResN K C F H (f () cs) k := by
  by_cases hp : p
  · refine ⟨hp, ?_⟩
    rw [chk_true hp] at h
    exact h
  · have e : DL.chk p = stuck := if_neg hp
    rw [e] at h
    have z : False := h
    exact z.elim
theorem ResN.swapD {D : Addr} {vacc vacc' : List V} {r : Except Er (α × List PyData)} {hh : α → List PyData} {Q : VK} (w : ResN K C F H r (fun ys _ F'' H'' => F'' D = none → ∀ vs, Rps K F'' vs (hh ys) → Q (.ref D) (upd H'' D (.lst vs))))
    (e : H D = some (.lst vacc)) (n : F D = none) (cD : C.c ≠ some D) : ResN K C F (upd H D (.lst vacc')) r (fun ys _ F'' H'' => F'' D = none → ∀ vs, Rps K F'' vs (hh ys) → Q (.ref D) (upd H'' D (.lst vs))) := by
  match r, w with
  | .ok (ys, cs6), w =>
    intro F7 H7 g7 q7 n7 vs7 r7
    have z := w F7 (upd H7 D (.lst vacc)) (g7.swap n (by rw [e]; simp) e) (q7.upd cD) n7 vs7 r7
    rw [upd_upd] at z
    exact z
  | .error _, w => exact w.elim
end
theorem lcM_cons {τ : Type} {β : Type} (u : PyData → M τ) (t : τ → M Bool) (f : τ → M PyData) (d : PyData) (ds : List PyData) (G : List PyData → M β) : (lcM u t f (d :: ds) >>= G) = (do
    let x ← noexc (u d)
    let b ← noexc (t x)
    if b = true then (do let y ← noexc (f x); lcM u t f ds >>= fun ys => G (y :: ys)) else lcM u t f ds >>= G) := by
  show ((do
    let x ← noexc (u d)
    let b ← noexc (t x)
    if b = true then (do let y ← noexc (f x); let ys ← lcM u t f ds; pure (y :: ys)) else lcM u t f ds) >>= G) = _
  rw [bind_assoc]
  congr 1; funext x
  rw [bind_assoc]
  congr 1; funext b
  split
  · rw [bind_assoc]
    congr 1; funext y
    rw [bind_assoc]
    congr 1
  · rfl
def NoOwn (ρ : List Sl) : Prop := ∀ s ∈ ρ, isOwn s = false
theorem NoOwn.set {ρ : List Sl} (h : NoOwn ρ) (i : Nat) {s : Sl} (hs : isOwn s = false) : NoOwn (ρ.set i s) := fun t ht => (List.mem_or_eq_of_mem_set ht).elim (h t) fun e => by rw [e]; exact hs
theorem NoOwn.wipe {ρ : List Sl} (h : NoOwn ρ) : ∀ vs : List Nat, NoOwn (wipeR ρ vs)
  | [] => h
  | v :: vs => (NoOwn.wipe h vs).set v rfl
theorem EnvOk.updNo {K : PySem.W.Frag} {mg : Str → Option Value} {C : Ct} {F H : Hp} {σ : St} {ρ : List Sl} {D : Addr} {o : HO} (e : EnvOk K mg C F H σ ρ) (no : NoOwn ρ) (nE : C.E D = none) (nF : F D = none) : EnvOk K mg C F (upd H D o) σ ρ := by
  refine ⟨e.len, e.g0.updFresh nE nF, fun i s ei => ?_, e.sep⟩
  have si := e.sl i s ei
  have hn := no s (List.mem_of_getElem? ei)
  cases s with
  | un => trivial
  | d y => exact si
  | own ys => cases hn
  | odK ys => cases hn
  | odT ys => cases hn
  | cup => exact si
  | fn y => exact si
theorem lc2M_ne {τ τ1 : Type} (u : PyData → M τ) (t : τ → M Bool) (i1 : τ → M (List PyData)) (u1 : PyData → M τ1) (t1 : τ → τ1 → M Bool) (f : τ → τ1 → M PyData) : ∀ (ds : List PyData), NE (lc2M u t i1 u1 t1 f ds)
  | [] => NE.pure _
  | d :: ds => by
    unfold lc2M
    refine (NE.noexc _).bind fun x => (NE.noexc _).bind fun b => ?_
    split
    · exact (NE.noexc _).bind fun y => (NE.noexc _).bind fun _ => (lcM_ne _ _ _ _).bind fun ys => (lc2M_ne u t i1 u1 t1 f ds).bind fun zs => NE.pure _
    · exact lc2M_ne u t i1 u1 t1 f ds
section
variable {X : Cx} {C : Ct} {ρ : List Sl} {elt tg iter tg1 iter1 : Expr} {ifs ifs1 : List Expr} {scope : Scope} {own : List (Str × Nat)} {pos : Pos} {τ τ1 : Type} {mi : M (List PyData)} {u : PyData → M τ} {st : τ → List Sl → List Sl} {mt : τ → M Bool} {i1 : τ → M (List PyData)} {u1 : PyData → M τ1} {st1 : τ1 → List Sl → List Sl} {mt1 : τ → τ1 → M Bool} {me : τ → τ1 → M PyData}
theorem lc2_walk {K : PySem.W.Frag} {mg : Str → Option Value} {g g1 : TG} {tt tt1 : TT} {wi1 : TI} {te : TE} {vs vs1 : List Nat} {J : It} {F H : Hp} {σ : St} {cs : List PyData} {Q : VK} {ds : List PyData}
    (e : EnvOk K mg C F H σ ρ) (q : CupOk K C F H cs) (hJ : ItOk K J F ds) (hz : ds.length ≤ 4096)
    (h : Res K mg C F H (lc2M u mt i1 u1 mt1 me ds cs) (kO K C H Q))
    (hg : ∀ (F H : Hp) (σ : St) (ρ : List Sl) (x : V) (d : PyData) (cs : List PyData) (Q : St → Hp → Prop), EnvOk K mg C.blk F H σ ρ → CupOk K C.blk F H cs → Rp K F x d →
      Res K mg C.blk F H (u d cs) (fun t cs' F' H' => ∀ σ', EnvOk K mg C.blk F' H' σ' (st t ρ) → L2.wipe σ' vs = L2.wipe σ vs → Q σ' H') → g x σ H Q)
    (hg1 : ∀ (F H : Hp) (σ : St) (ρ : List Sl) (x : V) (d : PyData) (cs : List PyData) (Q : St → Hp → Prop), EnvOk K mg C.blk F H σ ρ → CupOk K C.blk F H cs → Rp K F x d →
      Res K mg C.blk F H (u1 d cs) (fun t cs' F' H' => ∀ σ', EnvOk K mg C.blk F' H' σ' (st1 t ρ) → L2.wipe σ' vs1 = L2.wipe σ vs1 → Q σ' H') → g1 x σ H Q)
    (hno : NoOwn ρ) (hst : ∀ t ρ, NoOwn ρ → NoOwn (st t ρ)) (ht : ∀ t σ H Q, tTm K mg C.blk (st t (wipeR ρ vs)) (mt t) σ H Q → tt σ H Q)
    (hi1 : ∀ t σ H Q, tIm K mg C.blk (st t (wipeR ρ vs)) (i1 t) σ H Q → wi1 σ H Q)
    (ht1 : ∀ t t1 σ H Q, tTm K mg C.blk (st1 t1 (wipeR (st t (wipeR ρ vs)) vs1)) (mt1 t t1) σ H Q → tt1 σ H Q)
    (he : ∀ t t1 σ H Q, tM K mg C.blk (st1 t1 (wipeR (st t (wipeR ρ vs)) vs1)) (me t t1) σ H Q → te σ H Q) : ∀ D, H D = none →
    ∃ W : Nat → Nat → Hp → Prop, (∃ m, W 0 m (upd H D (.lst []))) ∧ ∀ i m H, W i m H →
  (J.stop i H ∧ Q (.ref D) H) ∨ (J.go i H ∧ ∃ Nx : Hp → Prop, (∀ H', Nx H' → ∃ m', m' < m ∧ W (i + 1) m' H') ∧ ∀ x H', J.yld i H x H' → g x (L2.wipe σ vs) H' fun σ2 H2 => L2.wipe σ2 vs = L2.wipe σ vs ∧ tt σ2 H2 fun b H3 =>
    if b = true then wi1 σ2 H3 fun J1 H4 => ∃ W1 : Nat → Nat → Hp → Prop, (∃ m, W1 0 m H4) ∧ ∀ j k H, W1 j k H →
      (J1.stop j H ∧ Nx H) ∨ (J1.go j H ∧ ∃ Nx1 : Hp → Prop, (∀ H', Nx1 H' → ∃ k', k' < k ∧ W1 (j + 1) k' H') ∧ ∀ x H', J1.yld j H x H' → g1 x (L2.wipe σ2 vs1) H' fun σ3 H5 => L2.wipe σ3 vs1 = L2.wipe σ2 vs1 ∧ tt1 σ3 H5 fun b H6 =>
        if b = true then te σ3 H6 fun y H7 => ∃ acc, H7 D = some (.lst acc) ∧ acc.length < sizeLine ∧ Nx1 (upd H7 D (.lst (acc ++ [y]))) else Nx1 H6)
    else Nx H3) := by
  intro D nD
  have cD : C.c ≠ some D := q.ne nD
  have FD : F D = none := e.sub.fresh nD
  have hN : ResN K C F H (lc2M u mt i1 u1 mt1 me ds cs) fun ys _ F'' H'' => F'' D = none → ∀ vs, Rps K F'' vs ([] ++ ys) → Q (.ref D) (upd H'' D (.lst vs)) := by
    match e1 : lc2M u mt i1 u1 mt1 me ds cs, h with
    | .ok (ys, cs1), h =>
      intro F1 H1 g1 q1 n1 vs rs
      exact h F1 (upd H1 D (.lst vs)) (g1.updFresh nD n1) (q1.upd cD) D vs nD upd_same n1 cD rs
    | .error (.exc nm x), h => exact absurd e1 (lc2M_ne u mt i1 u1 mt1 me ds cs nm x)
  let W : Nat → Nat → Hp → Prop := fun i m Hc => m = ds.length - i ∧ i ≤ ds.length ∧ ∃ F' cs' acc vacc, Grow C.c F H F' Hc ∧ CupOk K C F' Hc cs' ∧ Hc D = some (.lst vacc) ∧ F' D = none ∧ Rps K F' vacc acc ∧ vacc.length ≤ i * 4096 ∧
    ResN K C F' Hc (lc2M u mt i1 u1 mt1 me (ds.drop i) cs') (fun ys _ F'' H'' => F'' D = none → ∀ vs, Rps K F'' vs (acc ++ ys) → Q (.ref D) (upd H'' D (.lst vs)))
  refine ⟨W, ⟨ds.length, by simp, Nat.zero_le _, F, cs, [], [], Grow.fresh e.sub nD, q.upd cD, upd_same, FD, .nil, Nat.zero_le _, ?_⟩, ?_⟩
  · match lc2M u mt i1 u1 mt1 me ds cs, hN with
    | .ok (ys, cs1), hN =>
      intro F1 H1 g1 q1 n1 vs rs
      have g0 : Grow C.c F H F1 H1 := (Grow.fresh e.sub nD).trans g1
      exact hN F1 H1 g0 q1 n1 vs rs
    | .error _, hN => exact hN.elim
  · rintro i m Hc ⟨rfl, hi, F', cs', acc, vacc, gc, qc, eD, nF', rs, hl, hr⟩
    have ec := e.grow gc
    by_cases hlt : i < ds.length
    · have ed : ds[i]? = some ds[i] := List.getElem?_eq_getElem hlt
      obtain ⟨go, yl⟩ := (hJ i F' Hc gc.le gc.sub).2 _ ed
      refine .inr ⟨go, fun H' => W (i + 1) (ds.length - (i + 1)) H', fun H' w => ⟨ds.length - (i + 1), by omega, w⟩, fun x Hy y => ?_⟩
      obtain ⟨F2, g2, rx⟩ := yl x Hy y
      have q2 : CupOk K C F2 Hy cs' := qc.grow0 (g2 none)
      have gy : Grow C.c F H F2 Hy := gc.trans (g2 C.c)
      have hr2 := hr.grow (g2 C.c)
      rw [List.drop_eq_getElem_cons hlt] at hr2
      unfold lc2M at hr2
      have hu := hr2.bind (mg := mg)
      refine hg F2 Hy (L2.wipe σ vs) (wipeR ρ vs) x ds[i] cs' _ ((e.grow gy).wipe vs).ct q2 rx (hu.mono fun t cs3 F3 H3 g3 q3 h3 σ' e3 wp => ?_)
      refine ⟨by rw [wp, wipe_sub σ vs vs fun _ h => h], ht t σ' H3 _ ⟨F3, cs3, e3, q3, (h3.bind (mg := mg)).mono fun b cs4 F4 H4 g4 q4 h4 => ?_⟩⟩
      have g3' : Grow C.c F2 Hy F3 H3 := g3
      have g4' : Grow C.c F3 H3 F4 H4 := g4
      have gA : Grow C.c F' Hc F4 H4 := (g2 C.c).trans (g3'.trans g4')
      cases b with
      | false =>
        refine ⟨rfl, by omega, F4, cs4, acc, vacc, gc.trans gA, q4, gA.keep _ _ eD cD, gA.nF (by rw [eD]; simp) (by rw [eD]; simp) nF', rs.mono gA.le, by omega, h4⟩
      | true =>
        refine hi1 t σ' H4 _ ⟨F4, cs4, e3.grow g4', q4, ?_⟩
        have h4' : ResN K C F4 H4 ((do
          let ds1 ← noexc (i1 t)
          let _ ← noexc (chk (ds1.length ≤ 4096))
          let ys ← lcM u1 (mt1 t) (me t) ds1
          let zs ← lc2M u mt i1 u1 mt1 me (ds.drop (i + 1))
          pure (ys ++ zs) : M (List PyData)) cs4) _ := h4
        refine (h4'.bind (mg := mg)).mono fun ds1 cs5 F5 H5 g5 q5 h5 J1 hJ1 hz0 => ?_
        obtain ⟨hz1, h5⟩ := h5.chk
        have g5' : Grow C.c F4 H4 F5 H5 := g5
        have gB : Grow C.c F' Hc F5 H5 := gA.trans g5'
        have e5 : EnvOk K mg C.blk F5 H5 σ' (st t (wipeR ρ vs)) := (e3.grow g4').grow g5'
        have eD5 : H5 D = some (.lst vacc) := gB.keep _ _ eD cD
        have n5 : F5 D = none := gB.nF (by rw [eD]; simp) (by rw [eD]; simp) nF'
        have g05 : Grow C.c F H F5 H5 := gc.trans gB
        let W1 : Nat → Nat → Hp → Prop := fun j k Hk => k = ds1.length - j ∧ j ≤ ds1.length ∧ ∃ F' cs' accI vaccI, Grow C.c F H F' Hk ∧ Grow C.c F5 (upd H5 D (.lst vaccI)) F' Hk ∧ CupOk K C F' Hk cs' ∧ Hk D = some (.lst vaccI) ∧ F' D = none ∧ Rps K F' vaccI (acc ++ accI) ∧ vaccI.length ≤ i * 4096 + j ∧
          ResN K C F' Hk ((lcM u1 (mt1 t) (me t) (ds1.drop j) >>= fun ys => (do let zs ← lc2M u mt i1 u1 mt1 me (ds.drop (i + 1)); pure ((accI ++ ys) ++ zs) : M (List PyData))) cs')
            (fun ys _ F'' H'' => F'' D = none → ∀ vs, Rps K F'' vs (acc ++ ys) → Q (.ref D) (upd H'' D (.lst vs)))
        refine ⟨W1, ⟨ds1.length, by simp, Nat.zero_le _, F5, cs5, [], vacc, g05, by rw [upd_id eD5]; exact Grow.refl g5.sub, q5, eD5, n5, by rw [List.append_nil]; exact rs.mono gB.le, by omega, by simpa using h5⟩, ?_⟩
        rintro j k Hk ⟨rfl, hj, Fk, csk, accI, vaccI, gk, gk5, qk, eDk, nk, rk, hlk, hrk⟩
        by_cases hlt1 : j < ds1.length
        · have ed1 : ds1[j]? = some ds1[j] := List.getElem?_eq_getElem hlt1
          obtain ⟨go1, yl1⟩ := (hJ1 j Fk Hk gk5.le gk.sub).2 _ ed1
          refine .inr ⟨go1, fun H' => W1 (j + 1) (ds1.length - (j + 1)) H', fun H' w => ⟨ds1.length - (j + 1), by omega, w⟩, fun x1 Hy1 y1 => ?_⟩
          obtain ⟨F6, g6, rx1⟩ := yl1 x1 Hy1 y1
          have q6 : CupOk K C F6 Hy1 csk := qk.grow0 (g6 none)
          have hr6 := hrk.grow (g6 C.c)
          rw [List.drop_eq_getElem_cons hlt1, lcM_cons] at hr6
          have e6 : EnvOk K mg C.blk F6 Hy1 (L2.wipe σ' vs1) (wipeR (st t (wipeR ρ vs)) vs1) := by
            have nE : C.blk.E D = none := by
              show C.E D = none
              cases zz : C.E D with
              | none => rfl
              | some o => exact absurd nD (e.ent D (by rw [zz]; simp))
            exact (((e5.updNo (hst t _ (hno.wipe vs)) nE n5).grow gk5).grow (g6 C.c)).wipe vs1
          have hu6 := hr6.bind (mg := mg)
          refine hg1 F6 Hy1 (L2.wipe σ' vs1) (wipeR (st t (wipeR ρ vs)) vs1) x1 ds1[j] csk _ e6 q6 rx1 (hu6.mono fun t1 cs7 F7 H7 g7 q7 h7 σ7 e7 wp7 => ?_)
          refine ⟨by rw [wp7, wipe_sub σ' vs1 vs1 fun _ h => h], ht1 t t1 σ7 H7 _ ⟨F7, cs7, e7, q7, (h7.bind (mg := mg)).mono fun b1 cs8 F8 H8 g8 q8 h8 => ?_⟩⟩
          have g7' : Grow C.c F6 Hy1 F7 H7 := g7
          have g8' : Grow C.c F7 H7 F8 H8 := g8
          have gK : Grow C.c Fk Hk F8 H8 := (g6 C.c).trans (g7'.trans g8')
          cases b1 with
          | false =>
            exact ⟨rfl, by omega, F8, cs8, accI, vaccI, gk.trans gK, gk5.trans gK, q8, gK.keep _ _ eDk cD, gK.nF (by rw [eDk]; simp) (by rw [eDk]; simp) nk, rk.mono gK.le, by omega, h8⟩
          | true =>
            refine he t t1 σ7 H8 _ ⟨F8, cs8, e7.grow g8', q8, ?_⟩
            have h8' : ResN K C F8 H8 ((do
              let y ← noexc (me t t1)
              lcM u1 (mt1 t) (me t) (ds1.drop (j + 1)) >>= fun ys => (do let zs ← lc2M u mt i1 u1 mt1 me (ds.drop (i + 1)); pure ((accI ++ (y :: ys)) ++ zs) : M (List PyData))) cs8) _ := h8
            refine (h8'.bind (mg := mg)).mono fun dy cs9 F9 H9 g9 q9 h9 v rv => ?_
            have g9' : Grow C.c F8 H8 F9 H9 := g9
            have gL : Grow C.c Fk Hk F9 H9 := gK.trans g9'
            have e9 : H9 D = some (.lst vaccI) := gL.keep _ _ eDk cD
            have n9 : F9 D = none := gL.nF (by rw [eDk]; simp) (by rw [eDk]; simp) nk
            have g0 : Grow C.c F H F9 H9 := gk.trans gL
            have b1' : i * 4096 + j < sizeLine := by
              rw [sizeLine_eq]
              have : i * 4096 ≤ 4095 * 4096 := Nat.mul_le_mul_right _ (by omega)
              omega
            refine ⟨vaccI, e9, by omega, rfl, by omega, F9, cs9, accI ++ [dy], vaccI ++ [v], g0.updFresh nD n9, ?_, q9.upd cD, upd_same, n9, ?_, by rw [List.length_append]; simp; omega, ?_⟩
            · have gM := gk5.trans gL
              have gM2 : Grow C.c F5 (upd H5 D (.lst (vaccI ++ [v]))) F9 (upd H9 D (.lst (vaccI ++ [v]))) := by
                have hp : upd H5 D (.lst (vaccI ++ [v])) D ≠ none := by rw [upd_same]; simp
                have gM3 : Grow C.c F5 (upd (upd H5 D (.lst (vaccI ++ [v]))) D (.lst vaccI)) F9 H9 := by rw [upd_upd]; exact gM
                exact gM3.swap n5 hp upd_same
              exact gM2
            · have := (rk.mono gL.le).append (.one rv)
              rw [List.append_assoc] at this
              exact this
            · have h10 : ResN K C F9 H9 ((lcM u1 (mt1 t) (me t) (ds1.drop (j + 1)) >>= fun ys => (do let zs ← lc2M u mt i1 u1 mt1 me (ds.drop (i + 1)); pure (((accI ++ [dy]) ++ ys) ++ zs) : M (List PyData))) cs9) (fun ys _ F'' H'' => F'' D = none → ∀ vs, Rps K F'' vs (acc ++ ys) → Q (.ref D) (upd H'' D (.lst vs))) := by
                have e10 : (fun ys : List PyData => (do let zs ← lc2M u mt i1 u1 mt1 me (ds.drop (i + 1)); pure ((accI ++ (dy :: ys)) ++ zs) : M (List PyData))) = fun ys => (do let zs ← lc2M u mt i1 u1 mt1 me (ds.drop (i + 1)); pure (((accI ++ [dy]) ++ ys) ++ zs)) := by
                  funext ys
                  simp
                rw [← e10]
                exact h9
              exact h10.swapD e9 n9 cD
        · have hj' : j = ds1.length := by omega
          subst hj'
          refine .inl ⟨(hJ1 _ Fk Hk gk5.le gk.sub).1 (Nat.le_refl _), ?_⟩
          rw [List.drop_length] at hrk
          have hrk2 : ResN K C Fk Hk ((do let zs ← lc2M u mt i1 u1 mt1 me (ds.drop (i + 1)); pure ((accI ++ []) ++ zs) : M (List PyData)) csk) _ := hrk
          have h11 := hrk2.map
          refine ⟨rfl, by omega, Fk, csk, acc ++ accI, vaccI, gk, qk, eDk, nk, rk, by omega, ?_⟩
          have e11 : (fun (ys : List PyData) (_ : List PyData) (F'' H'' : Hp) => F'' D = none → ∀ vs, Rps K F'' vs (acc ++ ((accI ++ []) ++ ys)) → Q (.ref D) (upd H'' D (.lst vs))) = fun ys _ F'' H'' => F'' D = none → ∀ vs, Rps K F'' vs ((acc ++ accI) ++ ys) → Q (.ref D) (upd H'' D (.lst vs)) := by
            simp
          rw [← e11]
          exact h11
    · have hi' : i = ds.length := by omega
      subst hi'
      refine .inl ⟨(hJ _ F' Hc gc.le gc.sub).1 (Nat.le_refl _), ?_⟩
      rw [List.drop_length] at hr
      have z := hr F' Hc (Grow.refl gc.sub) qc nF' vacc (by rw [List.append_nil]; exact rs)
      rw [upd_id eD] at z
      exact z
theorem fo_lc2 {g g1 : TG} {vs1 : List Nat} (hc : X.calm = true) (hN : X.N.Nodup) (hi : FI X C ρ tg iter mi) (ok : BlkOk X.N X.env.scope scope own) (hv : ∀ i ∈ vs1, i ∈ own.map (·.2)) (hno : NoOwn ρ) (hst : ∀ t ρ, NoOwn ρ → NoOwn (st t ρ))
    (hg : ∀ (s : Shared) (H : Hp) (Ca : Addr) (cl : List (Str × Addr)) (fp : List Addr), FG (X.blk s H scope (compEnvC scope cl Ca X.env) fp) tg u st (own.map (·.2)) g)
    (ht : ∀ (t : τ) (s : Shared) (H : Hp) (Ca : Addr) (cl : List (Str × Addr)) (fp : List Addr), FTs (X.blk s H scope (compEnvC scope cl Ca X.env) fp) C.blk (st t (wipeR ρ (own.map (·.2)))) ifs (mt t))
    (hi1 : ∀ (t : τ) (s : Shared) (H : Hp) (Ca : Addr) (cl : List (Str × Addr)) (fp : List Addr), FI (X.blk s H scope (compEnvC scope cl Ca X.env) fp) C.blk (st t (wipeR ρ (own.map (·.2)))) tg1 iter1 (i1 t))
    (hg1 : ∀ (s : Shared) (H : Hp) (Ca : Addr) (cl : List (Str × Addr)) (fp : List Addr), FG (X.blk s H scope (compEnvC scope cl Ca X.env) fp) tg1 u1 st1 vs1 g1)
    (ht1 : ∀ (t : τ) (t1 : τ1) (s : Shared) (H : Hp) (Ca : Addr) (cl : List (Str × Addr)) (fp : List Addr), FTs (X.blk s H scope (compEnvC scope cl Ca X.env) fp) C.blk (st1 t1 (wipeR (st t (wipeR ρ (own.map (·.2)))) vs1)) ifs1 (mt1 t t1))
    (he : ∀ (t : τ) (t1 : τ1) (s : Shared) (H : Hp) (Ca : Addr) (cl : List (Str × Addr)) (fp : List Addr), FE (X.blk s H scope (compEnvC scope cl Ca X.env) fp) C.blk (st1 t1 (wipeR (st t (wipeR ρ (own.map (·.2)))) vs1)) elt (me t t1))
    (hs : ∀ x, foldedSetIterable iter X.env x = pure x := by intro _; rfl) (hs1 : ∀ env x, foldedSetIterable iter1 env x = pure x := by intro _ _; rfl) :
    FO X C ρ (.ListComp elt [⟨tg, iter, ifs, 0⟩, ⟨tg1, iter1, ifs1, 0⟩] scope pos) (do let ds ← mi; let _ ← noexc (chk (ds.length ≤ 4096)); lc2M u mt i1 u1 mt1 me ds) := by
  refine ⟨imE (pe_lc2 (wi := tIm X.K X.mg C ρ mi) (g := g) (tt := fun σ H Q => ∃ t, tTm X.K X.mg C.blk (st t (wipeR ρ (own.map (·.2)))) (mt t) σ H Q) (wi1 := fun σ H R => ∃ t, tIm X.K X.mg C.blk (st t (wipeR ρ (own.map (·.2)))) (i1 t) σ H R) (g1 := g1)
      (tt1 := fun σ H Q => ∃ t t1, tTm X.K X.mg C.blk (st1 t1 (wipeR (st t (wipeR ρ (own.map (·.2)))) vs1)) (mt1 t t1) σ H Q) (te := fun σ H Q => ∃ t t1, tM X.K X.mg C.blk (st1 t1 (wipeR (st t (wipeR ρ (own.map (·.2)))) vs1)) (me t t1) σ H Q)
      hc hN hi.pi ok hv (fun s H Ca cl fp => (hg s H Ca cl fp).pg) (fun s H Ca cl fp => ⟨fun pins s' σ H' Q I ⟨t, w⟩ => (ht t s H Ca cl fp).pt.run pins s' σ H' Q I w⟩)
      (fun s H Ca cl fp => ⟨fun pins s' σ H' Q I ⟨t, w⟩ => (hi1 t s H Ca cl fp).pi.run pins s' σ H' Q I w⟩) (fun s H Ca cl fp => (hg1 s H Ca cl fp).pg) (fun s H Ca cl fp => ⟨fun pins s' σ H' Q I ⟨t, t1, w⟩ => (ht1 t t1 s H Ca cl fp).pt.run pins s' σ H' Q I w⟩)
      (fun s H Ca cl fp => ⟨fun pins s' σ H' Q I ⟨t, t1, w⟩ => (he t t1 s H Ca cl fp).pe.run pins s' σ H' Q I w⟩) hs hs1) fun σ H Q h => ?_⟩
  obtain ⟨F, cs, e, q, h⟩ := h
  rw [show ((do let ds ← mi; let _ ← noexc (chk (ds.length ≤ 4096)); lc2M u mt i1 u1 mt1 me ds : M (List PyData)) cs) = _ from M.bind_run _ _ _] at h
  refine ⟨F, cs, e, q, ?_⟩
  match e1 : mi cs, h with
  | .ok (ds, cs1), h =>
    intro F1 H1 g0 q1 J hJ hz
    have h : Res X.K X.mg C F H ((noexc (chk (ds.length ≤ 4096)) >>= fun _ => lc2M u mt i1 u1 mt1 me ds) cs1) (kO X.K C H Q) := h
    by_cases hp : ds.length ≤ 4096
    · rw [chk_true hp] at h
      have h : Res X.K X.mg C F H (lc2M u mt i1 u1 mt1 me ds cs1) (kO X.K C H Q) := h
      have h' : Res X.K X.mg C F1 H1 (lc2M u mt i1 u1 mt1 me ds cs1) (kO X.K C H1 Q) := by
        match e2 : lc2M u mt i1 u1 mt1 me ds cs1, h with
        | .ok (ys, cs2), h => exact fun F2 H2 g2 q2 a vs n1 => h F2 H2 (g0.trans g2) q2 a vs (g0.free n1)
        | .error (.exc nm x), h => exact absurd e2 (lc2M_ne u mt i1 u1 mt1 me ds cs1 nm x)
      exact lc2_walk (st := st) (st1 := st1) (tt := fun σ H Q => ∃ t, tTm X.K X.mg C.blk (st t (wipeR ρ (own.map (·.2)))) (mt t) σ H Q) (wi1 := fun σ H R => ∃ t, tIm X.K X.mg C.blk (st t (wipeR ρ (own.map (·.2)))) (i1 t) σ H R)
        (tt1 := fun σ H Q => ∃ t t1, tTm X.K X.mg C.blk (st1 t1 (wipeR (st t (wipeR ρ (own.map (·.2)))) vs1)) (mt1 t t1) σ H Q) (te := fun σ H Q => ∃ t t1, tM X.K X.mg C.blk (st1 t1 (wipeR (st t (wipeR ρ (own.map (·.2)))) vs1)) (me t t1) σ H Q) (e.grow g0) q1 hJ hp h' (fun F H σ ρ x d cs Q e q r w => (hg ({} : Shared) (fun _ => none) 0 [] []).ok X.mg C.blk F H σ ρ x d cs Q e q r w) (fun F H σ ρ x d cs Q e q r w => (hg1 ({} : Shared) (fun _ => none) 0 [] []).ok X.mg C.blk F H σ ρ x d cs Q e q r w)
        hno hst (fun t σ H Q w => ⟨t, w⟩) (fun t σ H Q w => ⟨t, w⟩) (fun t t1 σ H Q w => ⟨t, t1, w⟩) (fun t t1 σ H Q w => ⟨t, t1, w⟩)
    · have ez : chk (ds.length ≤ 4096) = stuck := if_neg hp
      rw [ez] at h
      have hf : False := h
      exact hf.elim
  | .error (.exc nm x), h => exact h
end
end DL
end
section
set_option Elab.async false
set_option linter.all false
set_option maxRecDepth 100000
set_option maxHeartbeats 4000000
set_option autoImplicit false
namespace DL
open PySem PySem.Spec PyProof.Rows L2 RZ
section
variable {X : Cx} {C : Ct} {ρ : List Sl} {τ τ' β : Type} {emb : τ → List Sl} {emb' : τ' → List Sl} {embL : β → List Sl} {rk : Bool} {rest : List Stmt} {s : Stmt} {e c : Expr} {m : M PyData} {pos p1 p2 q1 q2 apos bpos : Pos} {x y z : Str}
/-- y, z = x.pop(), x.pop() -/
theorem fb_pop2 {px py pt pt2 : Pos} {kt k2 : Nat} (i j l : Nat) {xs : List PyData} {k : PyData → PyData → M (Fl τ β)} (hc : X.calm = true) (hij : i ≠ j) (hil : i ≠ l) (hjl : j ≠ l) (hNd : X.N.Nodup) (hk : ∀ d d2, FB X C (((ρ.set i (.own xs.dropLast.dropLast)).set j (.d d)).set l (.d d2)) emb embL rk rest (k d d2))
    (hρ : ρ[i]? = some (.own xs) := by rfl) (hN : X.N[i]? = some x := by rfl) (hNj : X.N[j]? = some y := by rfl) (hNl : X.N[l]? = some z := by rfl)
    (hv : Vis X.env.scope x := by first | exact Or.inl rfl | exact Or.inr (Or.inl rfl) | exact Or.inr (Or.inr rfl)) (hd : (x == ("__debug__" : Str)) = false := by decide) (hcd : (x == ("__classdict__" : Str)) = false := by decide)
    (hy : X.env.scope.names.lookup y = some .local := by rfl) (hz : X.env.scope.names.lookup z = some .local := by rfl)
    (hb1 : attributeBase (.Name x p2) "pop" X.env (eval (.Name x p2) X.env) = eval (.Name x p2) X.env := by rfl) (hl1 : (apos.endLine == p1.line) = true := by rfl)
    (hb2 : attributeBase (.Name x q2) "pop" X.env (eval (.Name x q2) X.env) = eval (.Name x q2) X.env := by rfl) (hl2 : (bpos.endLine == q1.line) = true := by rfl)
    (hw : swappedStores [.Tuple [.Name y px, .Name z py] kt pt] (.Tuple [.Call (.Attribute (.Name x p2) "pop" apos) [] [] p1, .Call (.Attribute (.Name x q2) "pop" bpos) [] [] q1] k2 pt2) X.env = pure (some [y, z]) := by rfl)
    (hs : swapsWithSole [.Tuple [.Name y px, .Name z py] kt pt] (.Tuple [.Call (.Attribute (.Name x p2) "pop" apos) [] [] p1, .Call (.Attribute (.Name x q2) "pop" bpos) [] [] q1] k2 pt2) pos.line X.env = pure false := by rfl)
    (hs1 : starEach [.Call (.Attribute (.Name x p2) "pop" apos) [] [] p1, .Call (.Attribute (.Name x q2) "pop" bpos) [] [] q1] X.env = (false, eval (.Call (.Attribute (.Name x p2) "pop" apos) [] [] p1) X.env) :: starEach [.Call (.Attribute (.Name x q2) "pop" bpos) [] [] q1] X.env := by rfl)
    (hs2 : starEach [.Call (.Attribute (.Name x q2) "pop" bpos) [] [] q1] X.env = (false, eval (.Call (.Attribute (.Name x q2) "pop" bpos) [] [] q1) X.env) :: starEach [] X.env := by rfl) :
    FB X C ρ emb embL rk (.Assign [.Tuple [.Name y px, .Name z py] kt pt] (.Tuple [.Call (.Attribute (.Name x p2) "pop" apos) [] [] p1, .Call (.Attribute (.Name x q2) "pop" bpos) [] [] q1] k2 pt2) pos :: rest) (do let d ← optM xs.getLast?; let d2 ← optM xs.dropLast.getLast?; k d d2) := by
  have pa := pa_cons (X := X) (pe_bm0 PySem.F.plainAttrs_list PySem.F.slot_list_pop PySem.F.type_list_pop (fun pins s σ H x xs v us Q I rx rxs h => mt_pop pins s σ H x xs v us Q I rx rxs h) (pe_var hN hv hd hcd) hb1 hl1)
    (pa_cons (pe_bm0 PySem.F.plainAttrs_list PySem.F.slot_list_pop PySem.F.type_list_pop (fun pins s σ H x xs v us Q I rx rxs h => mt_pop pins s σ H x xs v us Q I rx rxs h) (pe_var hN hv hd hcd) hb2 hl2) pa_nil hs2) hs1
  have e2 : (do let p ← optM xs.getLast?; let q ← optM xs.dropLast.getLast?; k p q) = (do let pq ← (do let p ← optM xs.getLast?; let q ← optM xs.dropLast.getLast?; pure (p, q)); k pq.1 pq.2) := by simp
  rw [e2]
  refine fb_step (ps_par hc hNd hNj hNl hjl hy hz pa hw hs) fun D σ H h => ?_
  rw [← e2] at h
  obtain ⟨F, cs, e, q, h⟩ := h
  obtain ⟨a, vs, e1, e2, e3, e4, e5, r⟩ := e.sl i _ hρ
  have hi : i < ρ.length := (List.getElem?_eq_some_iff.mp hρ).1
  cases hx : xs.getLast? with
  | none => rw [hx] at h; exact h.elim
  | some d =>
    rw [hx] at h
    cases hx2 : xs.dropLast.getLast? with
    | none => rw [hx2] at h; exact h.elim
    | some d2 =>
      rw [hx2] at h
      have hl := r.length
      have rl := r.dropLast
      have hl2 := rl.length
      rw [List.getLast?_eq_getElem?] at hx hx2
      obtain ⟨v, hv2, rv⟩ := r.get hx
      obtain ⟨w, hw2, rw'⟩ := rl.get hx2
      have ev2 : EnvOk X.K X.mg C F (L2.upd H a (.lst vs.dropLast)) σ (ρ.set i (.own xs.dropLast)) := e.write i hρ e1 e3 e4 e5 rl
      have ev3 := ev2.write i (List.getElem?_set_self hi) e1 e3 e4 e5 rl.dropLast
      rw [List.set_set] at ev3
      refine ⟨.ref a, e1, .inl ⟨rfl, vs, .inl (.inl e2)⟩, a, vs, v, rfl, rfl, e2, by rw [hl]; exact hv2, ?_⟩
      refine ⟨.ref a, e1, .inl ⟨rfl, vs.dropLast, .inl (.inl upd_same)⟩, a, vs.dropLast, w, rfl, rfl, upd_same, by rw [hl2]; exact hw2, v, w, rfl, ?_⟩
      exact ⟨(d, d2), _, (hk d d2).ps, F, cs, (ev3.setD j rv).setD l rw', (q.upd e4).upd e4, h⟩
end
end DL
end
section
set_option Elab.async false
set_option linter.all false
set_option maxRecDepth 100000
set_option maxHeartbeats 4000000
set_option autoImplicit false
namespace DL
open PySem PySem.Spec PyProof.Rows L2 RZ
/-! ### the words of a printed mirror -/
abbrev mOp (f : PyData → PyData → M PyData) (ma mb : M PyData) : M PyData := do let x ← ma; let y ← mb; f x y
abbrev mUn (f : PyData → M PyData) (ma : M PyData) : M PyData := do let x ← ma; f x
abbrev mChain (f f' : PyData → PyData → M PyData) (ma mb mc : M PyData) : M PyData := do let x ← ma; let y ← mb; let z ← f x y; let t ← asB z; if t = true then (do let w ← mc; f' y w) else pure (.bool false)
abbrev mAnd (m n : M PyData) : M PyData := do let z ← m; let t ← asB z; if t = true then n else pure (.bool false)
abbrev mOr (m n : M PyData) : M PyData := do let z ← m; let t ← asB z; if t = true then pure (.bool true) else n
abbrev mNot (m : M PyData) : M PyData := do let z ← m; let t ← asB z; pure (.bool (!t))
abbrev mIf (t : M Bool) (ma mb : M PyData) : M PyData := do let z ← t; if z = true then ma else mb
abbrev mSl (m : M PyData) (ml mh : M (Option Int)) : M PyData := do let x ← m; let l ← ml; let h ← mh; pslice x l h
abbrev pSome (m : M PyData) : M (Option Int) := do let x ← m; let i ← asI x; pure (some i)
abbrev mTup (ms : List (M PyData)) : M PyData := do let xs ← runs ms; pure (.tuple xs)
abbrev mLst (mo : M (List PyData)) : M PyData := do let xs ← mo; pure (.list xs)
abbrev mCall (g : List PyData → M PyData) (ms : List (M PyData)) : M PyData := do let ds ← runs ms; liftP (g ds)
abbrev mCallC (g : List PyData → M PyData) (ms : List (M PyData)) : M PyData := do let ds ← runs ms; g ds
abbrev oCall (g : List PyData → M PyData) (ms : List (M PyData)) : M (List PyData) := do let ds ← runs ms; let d ← liftP (g ds); asL d
abbrev mCup (m : M PyData) : M PyData := do let d ← m; cupIx d
abbrev mStr (f : Str → PyData → M PyData) (mo m : M PyData) : M PyData := do let x ← mo; let z ← asS x; let y ← m; f z y
abbrev mTwo (f : PyData → PyData → M PyData) (ma mb : M PyData) : M PyData := do let d ← ma; let e ← mb; f d e
abbrev tCmp (f : PyData → PyData → M PyData) (ma mb : M PyData) : M Bool := do let x ← ma; let y ← mb; let z ← f x y; asB z
abbrev tVal (m : M PyData) : M Bool := do let z ← m; asB z
abbrev tNo (m : M Bool) : M Bool := do let b ← m; pure (!b)
abbrev tAnd (m n : M Bool) : M Bool := do let t ← m; if t = true then n else pure false
abbrev tOr (m n : M Bool) : M Bool := do let t ← m; if t = true then pure true else n
abbrev iAll (m : M PyData) : M (List PyData) := do let d ← m; pitems d
abbrev iRange1 (m : M PyData) : M (List PyData) := do let d ← m; let n ← asI d; chk (-(2 ^ 62) ≤ n ∧ n ≤ 16777216); pure (rangeD 0 n)
abbrev iRange2 (ma mb : M PyData) : M (List PyData) := do let d ← ma; let e ← mb; let i ← asI d; let j ← asI e; chk (-(2 ^ 61) ≤ i ∧ i < 2 ^ 61 ∧ -(2 ^ 61) ≤ j ∧ j < 2 ^ 61 ∧ j - i ≤ 16777216); pure (rangeD i j)
abbrev iZip' (ma mb : M PyData) : M (List PyData) := do let x ← ma; let y ← mb; pzip x y
abbrev oLc {τ : Type} (mi : M (List PyData)) (u : PyData → M τ) (t : τ → M Bool) (f : τ → M PyData) : M (List PyData) := do let ds ← mi; lcM u t f ds
abbrev oLc2 {τ τ1 : Type} (mi : M (List PyData)) (u : PyData → M τ) (t : τ → M Bool) (i1 : τ → M (List PyData)) (u1 : PyData → M τ1) (t1 : τ → τ1 → M Bool) (f : τ → τ1 → M PyData) : M (List PyData) := do let ds ← mi; let _ ← noexc (chk (ds.length ≤ 4096)); lc2M u t i1 u1 t1 f ds
abbrev oListRg (m : M PyData) : M (List PyData) := do let d ← m; let n ← asI d; chk (0 ≤ n ∧ n ≤ 16777216); pure (rangeD 0 n)
abbrev oList (m : M PyData) : M (List PyData) := do let d ← m; seqOf d
abbrev oAdd (ma mb : M PyData) : M (List PyData) := do let x ← ma; let y ← mb; let z ← padd x y; asL z
section
variable {τ τ' υ β α : Type}
abbrev sRet (m : M PyData) : M (Fl τ β) := do let d ← m; pure (.rt d)
abbrev sRetO (mo : M (List PyData)) : M (Fl τ β) := do let xs ← mo; pure (.rt (.list xs))
abbrev sIfR (mc : M Bool) (mA : M (Fl Empty β)) (mr : M (Fl τ β)) : M (Fl τ β) := do let b ← mc; if b = true then castF mA else mr
abbrev sIfRR (mc : M Bool) (mA mB : M (Fl τ β)) : M (Fl τ β) := do let b ← mc; if b = true then mA else mB
abbrev sIf (mc : M Bool) (mA mB : M (Fl τ' β)) (k : τ' → M (Fl τ β)) : M (Fl τ β) := thenF (do let b ← mc; if b = true then mA else mB) k
abbrev sFor (mi : M (List PyData)) (u : PyData → M υ) (mb : υ → τ' → M (Fl τ' τ')) (t0 : τ') (k : τ' → M (Fl τ β)) : M (Fl τ β) := do let ds ← mi; let r ← pFor u mb ds t0; contL r k
noncomputable abbrev sWhile (mc : τ' → M Bool) (mb : τ' → M (Fl τ' τ')) (t0 : τ') (k : τ' → M (Fl τ β)) : M (Fl τ β) := do let r ← pWhile mc mb t0; contL r k
abbrev sCupSet (m mi : M PyData) (k : M (Fl τ β)) : M (Fl τ β) := do let d ← m; let j ← mi; cupSet j d; k
abbrev sApp (m : M PyData) (xs : List PyData) (k : PyData → M (Fl τ β)) : M (Fl τ β) := do let d ← m; chk (xs.length < sizeLine); k d
abbrev sPop (xs : List PyData) (k : PyData → M (Fl τ β)) : M (Fl τ β) := do let d ← optM xs.getLast?; k d
abbrev sPop2 (xs : List PyData) (k : PyData → PyData → M (Fl τ β)) : M (Fl τ β) := do let d ← optM xs.getLast?; let d2 ← optM xs.dropLast.getLast?; k d d2
abbrev sNewCup (mo : M (List PyData)) (k : List PyData → M (Fl τ Empty)) : M (Fl τ Empty) := do let xs ← mo; withCup xs (k xs)
abbrev sPar {α α' : Type} (va : M α) (vb : M α') (k : α → α' → M (Fl τ β)) : M (Fl τ β) := do let p ← va; let q ← vb; k p q
end
/-! ### what is known of a def -/
structure DefF (K : PySem.W.Frag) (mg : Str → Option Value) (x : Str) (st : Stmt) : Prop where
  ex : ∃ f fd, Fun K x x st f fd ∧ mg x = some (.ref f)
structure GlobF (K : PySem.W.Frag) (mg : Str → Option Value) (x : Str) (d : PyData) : Prop where
  ex : ∃ u v, mg x = some u ∧ RelV v u ∧ ∀ F, Rp K F v d
theorem GlobF.int {K : PySem.W.Frag} {mg : Str → Option Value} {x : Str} {i : Int} {t : Tok} (h : mg x = some (.int i t)) : GlobF K mg x (.int i) := ⟨_, .int i, h, ⟨t, rfl⟩, fun _ => .int i⟩
theorem GlobF.str {K : PySem.W.Frag} {mg : Str → Option Value} {x z : Str} {t : Tok} (h : mg x = some (.str z t)) : GlobF K mg x (.str z) := ⟨_, .str z, h, ⟨t, rfl⟩, fun _ => .str z⟩
/-- what is promised of the def x -/
structure Pr (P : Program) (w : World) (K : PySem.W.Frag) (mg : Str → Option Value) (base : Heap) (k : Nat) (x : Str) (ps : List Str) (sp : Sp) : Prop where
  ex : ∃ f fd, FnOk P w K mg base (L2.CX P w) k f fd ps sp ∧ mg x = some (.ref f) ∧ PySem.W.keepIn K (.ref f) = true ∧ Binds K fd ps [] ∧ (∃ oc od osl, K.lookup f = some ⟨oc, od, .func fd, osl⟩) ∧ ∀ us : List Value, us.length = ps.length → bindArgs fd ⟨us, []⟩ = pure (ps.zip us)
theorem fun_more {K : PySem.W.Frag} {x qual : Str} {st : Stmt} {f : Addr} {fd : FuncData} {ps : List Str} (F : Fun K x qual st f fd)
    (h : ∀ (kV doc pm : Value) (an : Option Addr) (cdv ct : Value) (us : List Value), us.length = ps.length → bindArgs (PySem.W.fnOf x qual (defArgs st) (defBody st) (defScope st) .none kV doc pm an cdv ct) ⟨us, []⟩ = pure (ps.zip us)) :
    (∃ oc od osl, K.lookup f = some ⟨oc, od, .func fd, osl⟩) ∧ ∀ us : List Value, us.length = ps.length → bindArgs fd ⟨us, []⟩ = pure (ps.zip us) := by
  obtain ⟨oc, od, kV, doc, pm, an, cdv, ct, osl, rfl, lk, hcd⟩ := F.ex
  exact ⟨⟨oc, od, osl, lk⟩, fun us hu => h kV doc pm an cdv ct us hu⟩
section
variable {P : Program} {w : World} {K : PySem.W.Frag} {mg : Str → Option Value} {base : Heap}
theorem pr_d {x : Str} {st : Stmt} {N ps : List Str} {k n un : Nat} {cup rk : Bool} {g : List PyData → M PyData} (D : DefF K mg x st) (S : FnScope N ps (defScope st))
    (hbind : ∀ (kV doc pm : Value) (an : Option Addr) (cdv ct : Value) (us : List Value), us.length = ps.length → bindArgs (PySem.W.fnOf x x (defArgs st) (defBody st) (defScope st) .none kV doc pm an cdv ct) ⟨us, []⟩ = pure (ps.zip us))
    (hp : ps.length = (if cup = true then 1 else 0) + n) (hu : N.length = ps.length + un)
    (hb : ∀ (f : Addr) (cdv : Value) (A : Around) (outer : List Env) (s : Shared) (H : Hp) (E : XK) (C : Ct) (ds : List PyData), Room k (A.deeper (envOfC x (defScope st) s.heap.objs.size f cdv)) →
      Takes (cxD P w K mg base N x (defScope st) f cdv A outer s H E) C.W → PassesOwn (model P w) (cxD P w K mg base N x (defScope st) f cdv A outer s H E).A (cxD P w K mg base N x (defScope st) f cdv A outer s H E).env (cxD P w K mg base N x (defScope st) f cdv A outer s H E).xe → C.rx = [] → C.c.isSome = cup → ds.length = n →
      ∃ m : M (Fl Unit Empty), (∀ cs, g ds cs = finish m cs) ∧ FB (cxD P w K mg base N x (defScope st) f cdv A outer s H E) C (slots0 cup ds un) (fun _ : Unit => []) (fun b : Empty => nomatch b) rk (defBody st) m)
    (hrk : rk = true → ∀ ds cs cs', ds.length = n → g ds cs ≠ .ok (.none, cs')) : Pr P w K mg base (k + 1) x ps (spD K mg cup rk n g) := by
  obtain ⟨f, fd, F, hm⟩ := D.ex
  exact ⟨f, fd, fn_d F S hp hu (hb f) hrk, hm, F.kp, F.binds hbind, fun_more F hbind⟩
/-- nothing is promised -/
theorem pr_stuck {x : Str} {st : Stmt} {ps : List Str} {k n : Nat} {cup rk : Bool} (D : DefF K mg x st)
    (hbind : ∀ (kV doc pm : Value) (an : Option Addr) (cdv ct : Value) (us : List Value), us.length = ps.length → bindArgs (PySem.W.fnOf x x (defArgs st) (defBody st) (defScope st) .none kV doc pm an cdv ct) ⟨us, []⟩ = pure (ps.zip us)) :
    Pr P w K mg base k x ps (spD K mg cup rk n fun _ => stuck) := by
  obtain ⟨f, fd, F, hm⟩ := D.ex
  have no : ∀ vs H Q E, ¬ spD K mg cup rk n (fun _ => stuck) vs H Q E := by
    rintro vs H Q E ⟨c, ws, ds, F0, cs, rfl, hc, hd, s, r, q, h⟩
    exact h
  exact ⟨f, fd, ⟨fun vs H Q E h => (no vs H Q E h).elim, fun A outer s H args us vs Q E _ _ _ _ h => (no vs H Q E h).elim⟩, hm, F.kp, F.binds hbind, fun_more F hbind⟩
theorem hu64 {k : Nat} {A : Around} (hr : Room k A) : A.units + 64 < cLine := by have := hr.un; omega
theorem hu65 {k : Nat} {A : Around} (hr : Room k A) : A.units + 65 < cLine := by have := hr.un; omega
end
section
variable {X : Cx} {C : Ct} {ρ : List Sl} {a b c e e0 : Expr} {es : List Expr} {ma mb mc m m0 : M PyData} {ms : List (M PyData)} {pos p p0 : Pos} {x y : Str} {k n : Nat} {ps : List Str} {g : List PyData → M PyData}
theorem fe_callP (h : Pr X.prog X.w X.K X.mg X.base k x ps (spD X.K X.mg false false n g)) (hr : Room k X.A) (tk : Takes X C.W) (wk : Wk ρ C.rx) (ha : FA X C ρ (e :: es) ms) (hn : ms.length = n := by rfl) (hg : Gl X x := by rfl) (hdb : (x == ("__debug__" : Str)) = false := by decide)
    (he : starEach (e :: es) X.env = (false, eval e X.env) :: starEach es X.env := by rfl) (hpl : (backTo pos (starEach es X.env)).any (·.1) = false := by rfl) :
    FE X C ρ (.Call (.Name x p) (e :: es) [] pos) (mCall g ms) := by
  obtain ⟨f, fd, F, hm, hk, hb, _⟩ := h.ex
  exact fe_call F hr hm hk hb tk wk ha hn hg hdb he hpl
theorem fo_callP (h : Pr X.prog X.w X.K X.mg X.base k x ps (spD X.K X.mg false true n g)) (hr : Room k X.A) (tk : Takes X C.W) (wk : Wk ρ C.rx) (ha : FA X C ρ (e :: es) ms) (hn : ms.length = n := by rfl) (hg : Gl X x := by rfl) (hdb : (x == ("__debug__" : Str)) = false := by decide)
    (he : starEach (e :: es) X.env = (false, eval e X.env) :: starEach es X.env := by rfl) (hpl : (backTo pos (starEach es X.env)).any (·.1) = false := by rfl) :
    FO X C ρ (.Call (.Name x p) (e :: es) [] pos) (oCall g ms) := by
  obtain ⟨f, fd, F, hm, hk, hb, _⟩ := h.ex
  exact fo_call F hr hm hk hb tk wk ha hn hg hdb he hpl
theorem fe_callPC (i : Nat) (h : Pr X.prog X.w X.K X.mg X.base k x ps (spD X.K X.mg true false n g)) (hr : Room k X.A) (tk : Takes X C.W) (wk : Wk ρ C.rx) (ha : FA X C ρ es ms) (hρ : ρ[i]? = some .cup := by rfl) (hn : ms.length = n := by rfl) (hN : X.N[i]? = some y := by rfl) (hv : Vis X.env.scope y := by first | exact Or.inl rfl | exact Or.inr (Or.inl rfl) | exact Or.inr (Or.inr rfl))
    (hd : (y == ("__debug__" : Str)) = false := by decide) (hcd : (y == ("__classdict__" : Str)) = false := by decide) (hg : Gl X x := by rfl) (hdb : (x == ("__debug__" : Str)) = false := by decide)
    (he : starEach (.Name y p0 :: es) X.env = (false, eval (.Name y p0) X.env) :: starEach es X.env := by rfl) (hpl : (backTo pos (starEach es X.env)).any (·.1) = false := by rfl) :
    FE X C ρ (.Call (.Name x p) (.Name y p0 :: es) [] pos) (mCallC g ms) := by
  obtain ⟨f, fd, F, hm, hk, hb, _⟩ := h.ex
  exact fe_callC i F hr hm hk hb tk wk ha hρ hn hN hv hd hcd hg hdb he hpl
theorem fe_globF {d : PyData} (G : GlobF X.K X.mg x d) (hg : Gl X x := by rfl) (hd : (x == ("__debug__" : Str)) = false := by decide) : FE X C ρ (.Name x pos) (pure d) := by
  obtain ⟨u, v, hm, r, rp⟩ := G.ex
  exact fe_glob hm r rp hg hd
/-- a < b < c as a test -/
theorem ft_chain {op op' : CmpOp} {r r' : R2} {f f' : PyData → PyData → M PyData} (ho : OpR X (compareOp op) r) (ho' : OpR X (compareOp op') r') (hf : Op2 X.K f r) (hf' : Op2 X.K f' r') (ha : FE X C ρ a ma) (hb : FE X C ρ b mb) (hc : FE X C ρ c mc)
    (hm : lastMarks [op, op'] [b, c] = false := by with_unfolding_all rfl) :
    FT X C ρ (.Compare a [op, op'] [b, c] pos) (tVal (mChain f f' ma mb mc)) := by
  refine ⟨imT (pt_chain ho ho' ha.pe hb.pe hc.pe hm) fun σ H Q0 h => ?_⟩
  show tChain r r' (tM X.K X.mg C ρ ma) (tM X.K X.mg C ρ mb) (tM X.K X.mg C ρ mc) σ H fun x H1 => ∃ b, x = .bl b ∧ Q0 b H1
  have h : tM X.K X.mg C ρ (mChain f f' ma mb mc) σ H fun x H1 => ∃ b, x = .bl b ∧ Q0 b H1 := by
    obtain ⟨F, cs, ev, q, h⟩ := h
    exact ⟨F, cs, ev, q, (Res.bind h).mono fun d cs1 F1 H1 g1 q1 h1 v rv => asB_res rv g1.sub q1 h1⟩
  revert h
  generalize (fun (x : V) (H1 : Hp) => ∃ b, x = .bl b ∧ Q0 b H1) = Q
  intro h
  obtain ⟨F, cs, e, q, h⟩ := h
  refine ⟨F, cs, e, q, (Res.bind h).mono fun dx cs1 F1 H1 g1 q1 h1 v rv => ?_⟩
  refine ⟨F1, cs1, e.grow g1, q1, (Res.bind h1).mono fun dy cs2 F2 H2 g2 q2 h2 u ru => ?_⟩
  refine hf _ _ F2 H2 v u dx dy cs2 _ g2.sub q2 (rv.mono g2.le) ru ((Res.bind h2).mono fun dz cs3 F3 H3 g3 q3 h3 w rw' => ?_)
  have h4 := Res.bind h3
  cases rw' with
  | bl t =>
    refine ⟨t, rfl, ?_⟩
    have h5 := h4 F3 H3 (Grow.refl g3.sub) q3
    cases t with
    | true =>
      refine iteT ⟨F3, cs3, (e.grow (g1.trans (g2.trans g3))), q3, (Res.bind h5).mono fun dw cs4 F4 H4 g4 q4 h6 w rw => ?_⟩
      exact hf' _ _ F4 H4 u w dy dw cs4 _ g4.sub q4 (ru.mono (g3.le.trans g4.le)) rw h6
    | false => exact iteF (Res.pure h5 g3.sub q3 _ (.bl false))
  | _ => exact h4.elim
end
abbrev ap1 (f : PyData → M PyData) : List PyData → M PyData | [a] => f a | _ => stuck
abbrev ap2 (f : PyData → PyData → M PyData) : List PyData → M PyData | [a, b] => f a b | _ => stuck
abbrev ap3 (f : PyData → PyData → PyData → M PyData) : List PyData → M PyData | [a, b, c] => f a b c | _ => stuck
abbrev ap4 (f : PyData → PyData → PyData → PyData → M PyData) : List PyData → M PyData | [a, b, c, d] => f a b c d | _ => stuck
abbrev ap5 (f : PyData → PyData → PyData → PyData → PyData → M PyData) : List PyData → M PyData | [a, b, c, d, e] => f a b c d e | _ => stuck
abbrev ap6 (f : PyData → PyData → PyData → PyData → PyData → PyData → M PyData) : List PyData → M PyData | [a, b, c, d, e, g] => f a b c d e g | _ => stuck
abbrev ap0 (f : M PyData) : List PyData → M PyData | [] => f | _ => stuck
end DL
end
section
set_option Elab.async false
set_option linter.all false
set_option maxRecDepth 100000
set_option maxHeartbeats 4000000
set_option autoImplicit false
namespace DL
open PySem PySem.Spec PyProof.Rows L2 RZ
/-! ### small words of the printed walks -/
theorem wk0 {ρ ρ' : List Sl} (h : ρ' = []) : Wk ρ ρ' := by subst h; exact .nil
theorem noOwn_of {ρ : List Sl} (h : ρ.all (fun s => !isOwn s) = true) : NoOwn ρ := fun s hs => by
  have := List.all_eq_true.mp h s hs
  simpa using this
def isCup : Sl → Bool
  | .cup => true
  | _ => false
theorem noCup_of {ρ : List Sl} (h : ρ.all (fun s => !isCup s) = true) : ∀ j : Nat, ρ[j]? ≠ some Sl.cup := fun j e => by
  have := List.all_eq_true.mp h _ (List.mem_of_getElem? e)
  simp [isCup] at this
/-- it ends with a list -/
def RtL (m : M (Fl Unit Empty)) : Prop := ∀ cs fl cs', m cs = .ok (fl, cs') → ∃ xs, fl = .rt (.list xs)
theorem RtL.bind {α : Type} {m : M α} {f : α → M (Fl Unit Empty)} (h : ∀ x, RtL (f x)) : RtL (m >>= f) := fun cs fl cs' e => by
  rw [M.bind_run] at e
  match e1 : m cs, e with
  | .ok (x, cs1), e => exact h x cs1 fl cs' e
theorem RtL.ret {xs : List PyData} : RtL (pure (.rt (.list xs))) := fun cs fl cs' e => by cases e; exact ⟨xs, rfl⟩
theorem hrk_of {m : M (Fl Unit Empty)} (h : RtL m) {cs cs' : List PyData} : finish m cs ≠ .ok (.none, cs') := fun e => by
  unfold finish at e
  rw [M.bind_run] at e
  match e1 : m cs, e with
  | .ok (fl, cs1), e =>
    obtain ⟨xs, rfl⟩ := h cs fl cs1 e1
    cases e
/-- a tuple of texts in the module -/
structure KTupF (K : PySem.W.Frag) (mg : Str → Option Value) (x : Str) (ys : List Str) : Prop where
  ex : ∃ t, mg x = some (.ref t) ∧ (∃ o, K.lookup t = some o ∧ o.cls = .type "tuple" ∧ o.dict = none) ∧ SqT K (fun _ => none) t (ys.map V.str)
theorem rps_strs {K : PySem.W.Frag} {F : Hp} : ∀ ys : List Str, Rps K F (ys.map V.str) (ys.map PyData.str)
  | [] => .nil
  | y :: ys => .cons (.str y) (rps_strs ys)
theorem vals_strs : ∀ {ys : List Str} {its : List Value}, its.length = ys.length → (∀ (i : Nat) (y : Str), ys[i]? = some y → ∃ t, its[i]? = some (.str y t)) → Vals (ys.map V.str) its
  | [], [], _, _ => .nil
  | y :: ys, v :: its, h, g => by
    obtain ⟨t, e⟩ := g 0 y rfl
    cases e
    exact .cons ⟨t, rfl⟩ (vals_strs (by simpa using h) fun i z ez => g (i + 1) z ez)
section
variable {P : Program} {w : World} {K : PySem.W.Frag} {mg : Str → Option Value} {base : Heap}
theorem pr_stuckG {x : Str} {st : Stmt} {ps : List Str} {k n : Nat} {cup rk : Bool} {g : List PyData → M PyData} (D : DefF K mg x st)
    (hbind : ∀ (kV doc pm : Value) (an : Option Addr) (cdv ct : Value) (us : List Value), us.length = ps.length → bindArgs (PySem.W.fnOf x x (defArgs st) (defBody st) (defScope st) .none kV doc pm an cdv ct) ⟨us, []⟩ = pure (ps.zip us))
    (hg : ∀ ds : List PyData, ds.length = n → g ds = stuck) :
    Pr P w K mg base k x ps (spD K mg cup rk n g) := by
  obtain ⟨f, fd, F, hm⟩ := D.ex
  have no : ∀ vs H Q E, ¬ spD K mg cup rk n g vs H Q E := by
    rintro vs H Q E ⟨c, ws, ds, F0, cs, rfl, hc, hd, s, r, q, h⟩
    rw [hg ds hd] at h
    exact h
  exact ⟨f, fd, ⟨fun vs H Q E h => (no vs H Q E h).elim, fun A outer s H args us vs Q E _ _ _ _ h => (no vs H Q E h).elim⟩, hm, F.kp, F.binds hbind, fun_more F hbind⟩
end
section
variable {X : Cx} {C : Ct} {ρ : List Sl} {e : Expr} {m : M PyData} {pos p : Pos} {x : Str} {apos : Pos}
theorem fe_indexKF {ys : List Str} {p2 : Pos} (h : KTupF X.K X.mg x ys) (he : FE X C ρ e m)
    (hg : Gl X x := by rfl) (hd : (x == ("__debug__" : Str)) = false := by decide) (hbase : attributeBase (.Name x p2) "index" X.env (eval (.Name x p2) X.env) = eval (.Name x p2) X.env := by rfl)
    (hfew : ((backTo pos (starEach [e] X.env)).all (fun x => !x.1) && (backToKw pos (keywordEach [] X.env)).all (fun x => x.1.isSome)
      && decide ([e].length + ([] : List Keyword).length + (if ([] : List Keyword).isEmpty then 0 else 1) < 30)) = true := by rfl)
    (hline : (apos.endLine == pos.line) = true := by rfl) (hs : starEach [e] X.env = (false, eval e X.env) :: starEach [] X.env := by rfl) (hplain : (backTo pos (starEach [] X.env)).any (·.1) = false := by rfl) :
    FE X C ρ (.Call (.Attribute (.Name x p2) "index" apos) [e] [] pos) (mUn (pindexK ys) m) := by
  obtain ⟨t, hm, hk, hq⟩ := h.ex
  exact fe_indexK hm hk hq he hg hd hbase hfew hline hs hplain
end
end DL
end
section
set_option Elab.async false
set_option linter.all false
set_option maxRecDepth 100000
set_option maxHeartbeats 4000000
set_option autoImplicit false
namespace DL
open PySem PySem.Spec PyProof.Rows L2 RZ
theorem FG.wide {X : Cx} {τ : Type} {tg : Expr} {u : PyData → M τ} {st : τ → List Sl → List Sl} {vs vs' : List Nat} {g : TG} (h : FG X tg u st vs g) (sub : ∀ i ∈ vs, i ∈ vs') : FG X tg u st vs' g :=
  ⟨h.pg, fun mg C F H σ ρ x d cs Q e q r w => h.ok mg C F H σ ρ x d cs Q e q r (w.mono fun t cs' F' H' g' q' k σ' e' wp => k σ' e' (by
    have a := wipe_sub σ' vs' vs sub
    have b := wipe_sub σ vs' vs sub
    rw [← a, ← b, wp]))⟩
theorem fg_tup2' {X : Cx} {x y : Str} {px py pos : Pos} {k : Nat} (K : PySem.W.Frag) (hK : X.K = K) (i j : Nat) (hc : X.calm = true) (hN : X.N.Nodup) (hi : X.N[i]? = some x := by rfl) (hj : X.N[j]? = some y := by rfl) (hx : Loc X.env.scope x := by first | exact Or.inl rfl | exact Or.inr rfl) (hy : Loc X.env.scope y := by first | exact Or.inl rfl | exact Or.inr rfl)
    (hfx : X.fn x = true ∨ X.env.scope.names.lookup x = some .local := by first | exact Or.inl rfl | exact Or.inr rfl) (hfy : X.fn y = true ∨ X.env.scope.names.lookup y = some .local := by first | exact Or.inl rfl | exact Or.inr rfl) :
    FG X (.Tuple [.Name x px, .Name y py] k pos) unp2 (fun p ρ => (ρ.set i (.d p.1)).set j (.d p.2)) [i, j] (gTup K 2 (gCons (gName i) (gCons (gName j) gNil))) := by
  subst hK
  exact fg_tup2 i j hc hN hi hj hx hy hfx hfy
theorem fg_tup3' {X : Cx} {x y z : Str} {px py pz pos : Pos} {k : Nat} (K : PySem.W.Frag) (hK : X.K = K) (i j l : Nat) (hc : X.calm = true) (hN : X.N.Nodup) (hi : X.N[i]? = some x := by rfl) (hj : X.N[j]? = some y := by rfl) (hl : X.N[l]? = some z := by rfl) (hx : Loc X.env.scope x := by first | exact Or.inl rfl | exact Or.inr rfl) (hy : Loc X.env.scope y := by first | exact Or.inl rfl | exact Or.inr rfl) (hz : Loc X.env.scope z := by first | exact Or.inl rfl | exact Or.inr rfl)
    (hfx : X.fn x = true ∨ X.env.scope.names.lookup x = some .local := by first | exact Or.inl rfl | exact Or.inr rfl) (hfy : X.fn y = true ∨ X.env.scope.names.lookup y = some .local := by first | exact Or.inl rfl | exact Or.inr rfl) (hfz : X.fn z = true ∨ X.env.scope.names.lookup z = some .local := by first | exact Or.inl rfl | exact Or.inr rfl) :
    FG X (.Tuple [.Name x px, .Name y py, .Name z pz] k pos) unp3 (fun p ρ => ((ρ.set i (.d p.1)).set j (.d p.2.1)).set l (.d p.2.2)) [i, j, l] (gTup K 3 (gCons (gName i) (gCons (gName j) (gCons (gName l) gNil)))) := by
  subst hK
  exact fg_tup3 i j l hc hN hi hj hl hx hy hz hfx hfy hfz
abbrev sPar_3 {τ β α α' α'' : Type} (va : M α) (vb : M α') (vc : M α'') (k : α → α' → α'' → M (Fl τ β)) : M (Fl τ β) := do let p ← va; let q ← vb; let r ← vc; k p q r
section
variable {X : Cx} {C : Ct} {ρ : List Sl} {τ τ' β α α' α'' : Type} {emb : τ → List Sl} {emb' : τ' → List Sl} {embL : β → List Sl} {rk : Bool} {rest : List Stmt} {s : Stmt} {a b c : Expr} {m ma mb : M PyData} {pos p' p2 apos : Pos} {x y z : Str}
theorem fb_par_3 {px py pz pt : Pos} {kt k2 : Nat} {pt2 : Pos} {sa : α → Sl} {sb : α' → Sl} {sc : α'' → Sl} {va : M α} {vb : M α'} {vc : M α''} {k : α → α' → α'' → M (Fl τ β)} (i j l : Nat) (hc : X.calm = true) (hN : X.N.Nodup) (hij : i ≠ j) (hil : i ≠ l) (hjl : j ≠ l) (ha : FV X C ρ a sa va) (hb : FV X C ρ b sb vb) (hcc : FV X C ρ c sc vc)
    (hk : ∀ p q r, FB X C (((ρ.set i (sa p)).set j (sb q)).set l (sc r)) emb embL rk rest (k p q r)) (hi : X.N[i]? = some x := by rfl) (hj : X.N[j]? = some y := by rfl) (hl : X.N[l]? = some z := by rfl)
    (hx : X.env.scope.names.lookup x = some .local := by rfl) (hy : X.env.scope.names.lookup y = some .local := by rfl) (hz : X.env.scope.names.lookup z = some .local := by rfl)
    (hw : swappedStores [.Tuple [.Name x px, .Name y py, .Name z pz] kt pt] (.Tuple [a, b, c] k2 pt2) X.env = pure (some [x, y, z]) := by rfl)
    (hs : swapsWithSole [.Tuple [.Name x px, .Name y py, .Name z pz] kt pt] (.Tuple [a, b, c] k2 pt2) pos.line X.env = pure false := by rfl)
    (hs1 : starEach [a, b, c] X.env = (false, eval a X.env) :: starEach [b, c] X.env := by rfl) (hs2 : starEach [b, c] X.env = (false, eval b X.env) :: starEach [c] X.env := by rfl) (hs3 : starEach [c] X.env = (false, eval c X.env) :: starEach [] X.env := by rfl) :
    FB X C ρ emb embL rk (.Assign [.Tuple [.Name x px, .Name y py, .Name z pz] kt pt] (.Tuple [a, b, c] k2 pt2) pos :: rest) (sPar_3 va vb vc k) := by
  have pa : PA X [a, b, c] (tCons (tV X.K X.mg C ρ sa va) (tCons (tV X.K X.mg C ρ sb vb) (tCons (tV X.K X.mg C ρ sc vc) tNil))) := pa_cons ha.pe (pa_cons hb.pe (pa_cons hcc.pe pa_nil hs3) hs2) hs1
  have e2 : (sPar_3 va vb vc k) = (do let pq ← (do let p ← va; let q ← vb; let r ← vc; pure (p, q, r)); k pq.1 pq.2.1 pq.2.2) := by simp [sPar_3]
  rw [e2]
  refine fb_step (ps_par3 hc hN hi hj hl hij hil hjl hx hy hz pa hw hs) fun D σ H h => ?_
  rw [← e2] at h
  obtain ⟨F, cs, e, q, h⟩ := h
  refine ⟨F, cs, e, q, (h.bind e.g0).mono fun p cs1 F1 H1 g1 q1 h1 v nv => ?_⟩
  refine ⟨F1, cs1, e.grow g1, q1, (h1.bind (e.grow g1).g0).mono fun p2 cs2 F2 H2 g2 q2 h2 w nw => ?_⟩
  refine ⟨F2, cs2, (e.grow g1).grow g2, q2, (h2.bind ((e.grow g1).grow g2).g0).mono fun p3 cs3 F3 H3 g3 q3 h3 u nu => ⟨v, w, u, rfl, ?_⟩⟩
  exact ⟨(p, p2, p3), _, (hk p p2 p3).ps, F3, cs3, ((e.setNew g1 i nv).setNew g2 j nw).setNew g3 l nu, q3, h3⟩
theorem fb_tup_3 {px py pz pt : Pos} {kt k2 : Nat} {pt2 : Pos} {sa : α → Sl} {sb : α' → Sl} {sc : α'' → Sl} {va : M α} {vb : M α'} {vc : M α''} {k : α → α' → α'' → M (Fl τ β)} (i j l : Nat) (hc : X.calm = true) (hN : X.N.Nodup) (hij : i ≠ j) (hil : i ≠ l) (hjl : j ≠ l) (ha : FV X C ρ a sa va) (hb : FV X C ρ b sb vb) (hcc : FV X C ρ c sc vc)
    (hk : ∀ p q r, FB X C (((ρ.set i (sa p)).set j (sb q)).set l (sc r)) emb embL rk rest (k p q r)) (hi : X.N[i]? = some x := by rfl) (hj : X.N[j]? = some y := by rfl) (hl : X.N[l]? = some z := by rfl)
    (hx : Loc X.env.scope x := by first | exact Or.inl rfl | exact Or.inr rfl) (hy : Loc X.env.scope y := by first | exact Or.inl rfl | exact Or.inr rfl) (hz : Loc X.env.scope z := by first | exact Or.inl rfl | exact Or.inr rfl)
    (hfx : X.fn x = true ∨ X.env.scope.names.lookup x = some .local := by first | exact Or.inl rfl | exact Or.inr rfl) (hfy : X.fn y = true ∨ X.env.scope.names.lookup y = some .local := by first | exact Or.inl rfl | exact Or.inr rfl) (hfz : X.fn z = true ∨ X.env.scope.names.lookup z = some .local := by first | exact Or.inl rfl | exact Or.inr rfl)
    (hs : swapsWithSole [.Tuple [.Name x px, .Name y py, .Name z pz] kt pt] (.Tuple [a, b, c] k2 pt2) pos.line X.env = pure false := by rfl) (hw : swappedStores [.Tuple [.Name x px, .Name y py, .Name z pz] kt pt] (.Tuple [a, b, c] k2 pt2) X.env = pure none := by rfl)
    (h1 : (assignEach [.Tuple [.Name x px, .Name y py, .Name z pz] kt pt] X.env).map (·.2) = [assign (.Tuple [.Name x px, .Name y py, .Name z pz] kt pt) X.env] := by rfl)
    (hs1 : starEach [a, b, c] X.env = (false, eval a X.env) :: starEach [b, c] X.env := by rfl) (hs2 : starEach [b, c] X.env = (false, eval b X.env) :: starEach [c] X.env := by rfl) (hs3 : starEach [c] X.env = (false, eval c X.env) :: starEach [] X.env := by rfl) :
    FB X C ρ emb embL rk (.Assign [.Tuple [.Name x px, .Name y py, .Name z pz] kt pt] (.Tuple [a, b, c] k2 pt2) pos :: rest) (sPar_3 va vb vc k) := by
  have pa : PA X [a, b, c] (tCons (tV X.K X.mg C ρ sa va) (tCons (tV X.K X.mg C ρ sb vb) (tCons (tV X.K X.mg C ρ sc vc) tNil))) := pa_cons ha.pe (pa_cons hb.pe (pa_cons hcc.pe pa_nil hs3) hs2) hs1
  have e2 : (sPar_3 va vb vc k) = (do let pq ← (do let p ← va; let q ← vb; let r ← vc; pure (p, q, r)); k pq.1 pq.2.1 pq.2.2) := by simp [sPar_3]
  rw [e2]
  refine fb_step (ps_asg (pe_tup pa) (pgt3 i j l hc hN hi hj hl hx hy hz hfx hfy hfz) hs hw h1) fun D σ H h => ?_
  rw [← e2] at h
  obtain ⟨F, cs, e, q, h⟩ := h
  refine ⟨F, cs, e, q, (h.bind e.g0).mono fun p cs1 F1 H1 g1 q1 h1 v nv => ?_⟩
  refine ⟨F1, cs1, e.grow g1, q1, (h1.bind (e.grow g1).g0).mono fun p2 cs2 F2 H2 g2 q2 h2 w nw => ?_⟩
  refine ⟨F2, cs2, (e.grow g1).grow g2, q2, (h2.bind ((e.grow g1).grow g2).g0).mono fun p3 cs3 F3 H3 g3 q3 h3 u nu => ⟨by show 3 ≤ sizeLine; decide, fun T nT => ?_⟩⟩
  have gT : Grow C.c F3 H3 F3 (upd H3 T (.tup [v, w, u])) := Grow.fresh g3.sub nT
  refine ⟨T, [v, w, u], rfl, .inl (.inl upd_same), rfl, v, [w, u], rfl, w, [u], rfl, u, [], rfl, rfl, ?_⟩
  exact ⟨(p, p2, p3), _, (hk p p2 p3).ps, F3, cs3, (((e.setNew g1 i nv).setNew g2 j nw).setNew g3 l nu).grow gT, q3.upd (q3.ne nT), h3⟩
end
end DL
end
section
set_option Elab.async false
set_option linter.all false
set_option maxRecDepth 100000
set_option maxHeartbeats 4000000
set_option autoImplicit false
namespace DL
open PySem PySem.Spec PyProof.Rows L2 RZ
/-! ### the end of a law -/
def spL (K : PySem.W.Frag) (n : Nat) : Sp := fun vs H Q _ => ∃ (a : Addr) (ns : List Int), vs = [.ref a] ∧ SqL K H a (ns.map V.int) ∧ ns.length ≤ n ∧ ∀ H', Q (.bl true) H'
theorem spD_of {K : PySem.W.Frag} {mg : Str → Option Value} {n : Nat} {g : List PyData → M PyData} (hg : ∀ ns : List Int, ns.length ≤ n → g [.list (ns.map .int)] [] = .ok (.bool true, [])) (vs : List V) (H : Hp) (Q : VK) (E : XK) (h : spL K n vs H Q E) : spD K mg false false 1 g vs H Q E := by
  obtain ⟨a, ns, rfl, hS, hl, q⟩ := h
  have key : ∃ F : Hp, Sub F H ∧ FzL K F a (ns.map V.int) := by
    rcases hS with h | h
    · refine ⟨upd (fun _ => none) a (.lst (ns.map V.int)), fun b o e => ?_, .inl upd_same⟩
      by_cases hb : b = a
      · subst hb; rw [upd_same] at e; cases e
        rcases h with h | ⟨ob, h⟩
        · exact .inl h
        · exact .inr ⟨ob, h⟩
      · rw [upd_ne hb] at e; cases e
    · exact ⟨fun _ => none, (fun b o e => by cases e), .inr (.inr h)⟩
  obtain ⟨F, hs, hf⟩ := key
  refine ⟨none, [.ref a], [.list (ns.map .int)], F, [], rfl, rfl, rfl, hs, .one (.lst hf (Rps.ints ns)), rfl, ?_⟩
  rw [hg ns hl]
  intro F' H' g' q' v rv
  cases rv with
  | bl b => exact q H'
theorem end_law {l : PySem.W.OpenLaw} {n k : Nat} {q : Program} {loose : List Str} {XP : (Str → Option Value) → Heap → Prop} {YP : World → Heap → Prop} {d : DefRec} {K : Params → PySem.W.Frag} {st : Stmt} {g : List PyData → M PyData}
    (hn : l.most = some n) (hn2 : n ≤ sizeLine) (hdf : d.params.defaults = []) (hr : Room k callerA) (hdn : d.name = "law")
    (hY : ∀ (w : World) (h : Heap), YP w h → (K w.params).In h)
    (F : ∀ (w : World) (mg : Str → Option Value) (h : Heap), (K w.params).In h → h.Ns mainGlobals mg → ∀ base : Heap, (K w.params).In base → base.Ns mainGlobals mg → Pr l.prog w (K w.params) mg base k "law" ["script"] (spD (K w.params) mg false false 1 g))
    (D : ∀ (w : World) (mg : Str → Option Value) (h : Heap), (K w.params).In h → h.Ns mainGlobals mg → DefF (K w.params) mg "law" st)
    (hbind : ∀ (kV doc pm : Value) (an : Option Addr) (cdv ct : Value) (us : List Value), us.length = ["script"].length → bindArgs (PySem.W.fnOf "law" "law" (defArgs st) (defBody st) (defScope st) .none kV doc pm an cdv ct) ⟨us, []⟩ = pure ((["script"] : List Str).zip us))
    (hg : ∀ ns : List Int, ns.length ≤ n → g [.list (ns.map .int)] [] = .ok (.bool true, [])) :
    PySem.W.WalkO q loose XP YP l.row.toRowW d [] (fun f vs => PySem.call f vs) := by
  refine walk_of (l := l) (n := n) (k := k) (x := "script") (CX := fun w => L2.CX l.prog w) (sp := fun w => spL (K w.params) n) hn hn2 hdf hr hY (fun w mg fa h KX G hmg => ?_) (fun w H a ns hl _ hS => ⟨a, ns, rfl, hS, hl, fun _ => rfl⟩) (fun _ _ _ _ _ h => by
    obtain ⟨_, _, _, _, _, _, _, _, _, _, _, _, z⟩ := h
    exact z)
  rw [hdn] at hmg
  obtain ⟨f, fd, Fn, hm⟩ := (D w mg h KX G).ex
  rw [hmg] at hm; cases hm
  obtain ⟨⟨oc, od, osl, lk⟩, hb⟩ := fun_more (ps := ["script"]) Fn hbind
  refine ⟨fd, fun s u => .of_eq (hb [u] rfl), fun base KB GB => ?_⟩
  obtain ⟨f', fd', ok, hm', _, _, ⟨oc', od', osl', lk'⟩, _⟩ := (F w mg h KX G base KB GB).ex
  rw [hmg] at hm'; cases hm'
  rw [lk] at lk'; cases lk'
  exact ok.imp (spD_of hg)
/-! ### what the top has written -/
section
variable {K : PySem.W.Frag} {mg : Str → Option Value} {h : Heap}
theorem defF_mk {x : Str} {st : Stmt} {f : Addr} {oc : Value} {od an : Option Addr} {osl : Array (Option Value)} {kV doc pm cdv ct : Value} (X : K.In h) (G : h.Ns mainGlobals mg) (a : PySem.W.nsIn K mainGlobals x = some (some (.ref f)))
    (l : K.lookup f = some ⟨oc, od, .func (PySem.W.fnOf x x (defArgs st) (defBody st) (defScope st) .none kV doc pm an cdv ct), osl⟩) (c : PySem.W.codeIn K cdv x = true) (k : PySem.W.keepIn K (.ref f) = true) : DefF K mg x st :=
  ⟨f, _, fun_mk l c k, PySem.W.mg_of X G a⟩
theorem globI_mk {x : Str} {i : Int} {t : Tok} (X : K.In h) (G : h.Ns mainGlobals mg) (a : PySem.W.nsIn K mainGlobals x = some (some (.int i t))) : GlobF K mg x (.int i) := .int (PySem.W.mg_of X G a)
theorem globS_mk {x z : Str} {t : Tok} (X : K.In h) (G : h.Ns mainGlobals mg) (a : PySem.W.nsIn K mainGlobals x = some (some (.str z t))) : GlobF K mg x (.str z) := .str (PySem.W.mg_of X G a)
def isStrs : List Str → List Value → Bool
  | [], [] => true
  | y :: ys, .str z _ :: vs => (y == z) && isStrs ys vs
  | _, _ => false
theorem isStrs_vals : ∀ {ys : List Str} {its : List Value}, isStrs ys its = true → Vals (ys.map V.str) its
  | [], [], _ => .nil
  | y :: ys, .str z t :: vs, e => by
    unfold isStrs at e
    rw [Bool.and_eq_true] at e
    have e1 : y = z := eq_of_beq e.1
    subst e1
    exact .cons ⟨t, rfl⟩ (isStrs_vals e.2)
theorem ktup_mk {x : Str} {ys : List Str} {t : Addr} {its : Array Value} {n : Nat} {sl : Array (Option Value)} (X : K.In h) (G : h.Ns mainGlobals mg) (a : PySem.W.nsIn K mainGlobals x = some (some (.ref t))) (l : K.lookup t = some ⟨.type "tuple", none, .seq its n, sl⟩) (e : isStrs ys its.toList = true) (z : its.size ≤ sizeLine) : KTupF K mg x ys :=
  ⟨t, PySem.W.mg_of X G a, ⟨_, l, rfl, rfl⟩, .inr ⟨_, its, n, l, rfl, rfl, z, isStrs_vals e⟩⟩
end
end DL
end
section
set_option Elab.async false
set_option linter.all false
set_option maxRecDepth 100000
set_option maxHeartbeats 4000000
set_option autoImplicit false
namespace DL
open PySem PySem.Spec PyProof.Rows L2 RZ PySem.W
/-! ### sorted(xs), xs a list of data -/
def srtD (ds : List PyData) : List PyData := ds.mergeSort (dataLe false id)
def rSortedD (K : PySem.W.Frag) : List V → Hp → VK → Prop := fun vs H Q => ∃ (a : Addr) (xs : List V) (ds : List PyData), vs = [V.ref a] ∧ SqL K H a xs ∧ DpAll K H xs ds ∧ AllAlike ds ∧ Sortable ds ∧ (∀ d ∈ ds, d.depth ≤ 100) ∧
  ∀ ys p, (∀ P : V → PyData → Prop, EachIs P xs ds → EachIs P ys (srtD ds)) → H p = none → Q (.ref p) (upd H p (.lst ys))
theorem each_vals {R : V → PyData → Prop} : ∀ {out : List Value} {es : List PyData}, EachIs (fun u d => ∃ x, RelV x u ∧ R x d) out es → ∃ ys, Vals ys out ∧ EachIs R ys es
  | [], [], _ => ⟨[], .nil, .nil⟩
  | _ :: _, _ :: _, .cons ⟨x, r, h⟩ t => by
    obtain ⟨ys, h1, h2⟩ := each_vals t
    exact ⟨x :: ys, .cons r h1, .cons h h2⟩
theorem each_imp {α β : Type} {R S : α → β → Prop} (h : ∀ a b, R a b → S a b) : ∀ {as : List α} {bs : List β}, EachIs R as bs → EachIs S as bs
  | _, _, .nil => .nil
  | _, _, .cons a t => .cons (h _ _ a) (each_imp h t)
theorem each_pos {xs : List V} : ∀ {us : List Value} {ds : List PyData} {K : PySem.W.Frag} {H : Hp}, Vals xs us → DpAll K H xs ds → EachIs (fun u d => ∃ x, RelV x u ∧ Dp K H x d ∧ ∀ P : V → PyData → Prop, EachIs P xs ds → P x d) us ds := by
  induction xs with
  | nil => intro us ds K H r h; cases r; cases h; exact .nil
  | cons x xs ih =>
    intro us ds K H r h
    cases r with
    | cons r1 r2 =>
      cases h with
      | cons h1 h2 =>
        refine .cons ⟨x, r1, h1, fun P e => by cases e with | cons a _ => exact a⟩ (each_imp (fun u d ⟨y, a, b, c⟩ => ⟨y, a, b, fun P e => c P (by cases e with | cons _ t => exact t)⟩) (ih r2 h2))
section
variable {X : Cx}
theorem cr_sortedD (hu : X.A.units + 200 < cLine) : CallR X (.builtin "sorted") (rSortedD X.K) := by
  intro pins s σ H vs us Q I r h
  obtain ⟨a, xs, ds, rfl, hs, hd, hal, hk, hdep, q⟩ := h
  obtain ⟨its, rv, hl, hz⟩ := I.list hs
  rw [Vals.ref1 r]
  have ep := each_pos rv hd
  have er : EachIs (fun v b => ∃ as, Reads s.heap v (id b) as) its ds := each_imp (fun u d ⟨x, a, b, _⟩ => Dp.reads I d x u b a) ep
  have hlen : its.length = ds.length := by
    have : ∀ {as : List Value} {bs : List PyData} {R : Value → PyData → Prop}, EachIs R as bs → as.length = bs.length := fun e => e.length
    exact this ep
  refine sorted_data (enc := id) (bs := ds) hl.isList ep er (by rw [List.map_id]; exact hal) (by rw [List.map_id]; exact hk) (by rw [← hlen, ← rv.length]; exact hz) (fun b hb => by have := hdep b hb; show _ + 2 + b.depth < _; omega) fun out ho eo => ?_
  obtain ⟨ys, h1, h2⟩ := each_vals (each_imp (fun u d ⟨x, a, b, c⟩ => (⟨x, a, c⟩ : ∃ x, RelV x u ∧ ∀ P : V → PyData → Prop, EachIs P xs ds → P x d)) eo)
  obtain ⟨e', he'⟩ := PyProof.Rows.sortedAll_at s.heap its out.toArray
  have hy : ys.length ≤ sizeLine := by
    rw [h1.length, ho, ← hlen, ← rv.length]
    exact hz
  exact ⟨.ref _, upd H (s.heap.objs.size + 1) (.lst ys), I.laid (t' := s.toks) (fun _ _ => PyProof.Rows.sortedAll_old) (Nat.le_succ _) ⟨hy, out, e', h1, he'⟩, rfl, q _ _ (fun P e => each_imp (fun x d c => c P e) h2) (I.hok.fresh (Nat.le_succ _))⟩
end
def alikeB (ds : List PyData) : Bool := ds.all fun d => ds.all fun e => alike d e
def isTup1 : PyData → Bool
  | .tuple (_ :: _) => true
  | _ => false
def isOther : PyData → Bool
  | .none => false
  | .tuple _ => false
  | _ => true
def sortOk (ds : List PyData) : Bool := PyData.plainAll ds && alikeB ds && (ds.all isTup1 || ds.all isOther) && ds.all (fun d => decide (d.depth ≤ 100))
theorem sortOk_iff {ds : List PyData} (h : sortOk ds = true) : PyData.plainAll ds = true ∧ AllAlike ds ∧ Sortable ds ∧ ∀ d ∈ ds, d.depth ≤ 100 := by
  simp only [sortOk, alikeB, Bool.and_eq_true, Bool.or_eq_true, List.all_eq_true, decide_eq_true_eq] at h
  obtain ⟨⟨⟨h1, h2⟩, h3⟩, h4⟩ := h
  refine ⟨h1, h2, ?_, h4⟩
  rcases h3 with h3 | h3
  · refine .inl fun d hd => ?_
    have := h3 d hd
    match d, this with
    | .tuple (x :: r), _ => exact ⟨x, r, rfl⟩
  · refine .inr fun d hd => ?_
    have := h3 d hd
    exact ⟨(fun e => by subst e; cases this), (fun xs e => by subst e; cases this)⟩
def psorted : PyData → M (List PyData)
  | .list ds => do chk (sortOk ds = true); pure (srtD ds)
  | _ => stuck
theorem rps_each {K : PySem.W.Frag} {F : Hp} : ∀ {vs : List V} {ds : List PyData}, EachIs (Rp K F) vs ds → Rps K F vs ds
  | _, _, .nil => .nil
  | _, _, .cons a t => .cons a (rps_each t)
theorem each_rps {K : PySem.W.Frag} {F : Hp} : ∀ {vs : List V} {ds : List PyData}, Rps K F vs ds → EachIs (Rp K F) vs ds
  | _, _, .nil => .nil
  | _, _, .cons a t => .cons a (each_rps t)
section
variable {X : Cx} {C : Ct} {ρ : List Sl} {a : Expr} {ma : M PyData} {pos p : Pos}
theorem fo_sorted (hu : X.A.units + 200 < cLine) (hm : X.mg "sorted" = none) (ha : FE X C ρ a ma) (hg : Gl X "sorted" := by rfl) (hs : starEach [a] X.env = (false, eval a X.env) :: starEach [] X.env := by rfl) : FO X C ρ (.Call (.Name "sorted" p) [a] [] pos) (do let d ← ma; psorted d) := by
  have pa : PA X [a] (tCons (tM X.K X.mg C ρ ma) tNil) := pa_cons ha.pe pa_nil hs
  refine ⟨imE (pe_callB (cr_sortedD hu) hg hm boot_sorted pa (by decide) (by decide) hs rfl) fun σ H Q h => ?_⟩
  obtain ⟨F, cs, ev, q, h⟩ := h
  refine ⟨F, cs, ev, q, (Res.bind h).mono fun d cs1 F1 H1 g1 q1 h1 v rv => ?_⟩
  cases rv with
  | @lst l xs ds f r =>
    obtain ⟨hok, h2⟩ := Res.chk h1
    obtain ⟨k1, k2, k3, k4⟩ := sortOk_iff hok
    refine ⟨l, xs, ds, rfl, f.sq g1.sub, Rps.dp g1.sub r k1, k2, k3, k4, fun ys p hy n => ?_⟩
    have ry := rps_each (hy _ (each_rps r))
    exact h2 F1 _ (Grow.fresh g1.sub n) (q1.upd (q1.ne n)) p ys (g1.free n) upd_same (g1.sub.fresh n) (q1.ne n) ry
  | _ => exact h1.elim
end
end DL
end
section
set_option Elab.async false
set_option linter.all false
set_option maxRecDepth 100000
set_option maxHeartbeats 4000000
set_option autoImplicit false
namespace DL
open PySem PySem.Spec PyProof.Rows L2 RZ
/-! ### dicts of one's own -/
section
variable {X : Cx} {C : Ct} {ρ : List Sl} {τ τ' β α : Type} {emb : τ → List Sl} {embL : β → List Sl} {rk : Bool} {rest sts : List Stmt} {a b c e ke ve : Expr} {m ma mb mk mv : M PyData} {pos p p' p2 apos tpos : Pos} {x y z : Str}
theorem EnvOk.writeX {K : PySem.W.Frag} {mg : Str → Option Value} {F H : Hp} {σ : St} (e : EnvOk K mg C F H σ ρ) (i : Nat) {s s' : Sl} {a : Addr} {o : HO} (hρ : ρ[i]? = some s) (ho : isOwn s = true) (e1 : σ[i]? = some (some (.ref a))) (nF : F a = none) (nE : C.E a = none)
    (hs' : SlOk K mg C F (L2.upd H a o) s' (some (some (.ref a)))) : EnvOk K mg C F (L2.upd H a o) σ (ρ.set i s') := by
  have nn : ∀ j b, j ≠ i → OwnAt ρ σ j b → b ≠ a := fun j b hj o z => hj (e.sep j i a (z ▸ o) ⟨_, hρ, ho, e1⟩)
  have hi := (List.getElem?_eq_some_iff.mp hρ).1
  refine ⟨by rw [List.length_set]; exact e.len, e.g0.updFresh nE nF, fun j t ej => ?_, fun j k b h1 h2 => ?_⟩
  · by_cases hj : i = j
    · subst hj
      rw [List.getElem?_set_self hi] at ej
      cases ej
      rw [e1]
      exact hs'
    · rw [List.getElem?_set_ne hj] at ej
      have sj := e.sl j t ej
      have own : ∀ b, isOwn t = true → σ[j]? = some (some (.ref b)) → b ≠ a := fun b o ob => nn j b (fun z => hj z.symm) ⟨t, ej, o, ob⟩
      cases t with
      | un => trivial
      | d y => exact sj
      | own ys => obtain ⟨b, ws, z, z1, z2⟩ := sj; exact ⟨b, ws, z, by rw [upd_ne (own b rfl z)]; exact z1, z2⟩
      | odK ys => obtain ⟨b, ws, z, z1, z2⟩ := sj; exact ⟨b, ws, z, by rw [upd_ne (own b rfl z)]; exact z1, z2⟩
      | odT ys => obtain ⟨b, ws, z, z1, z2⟩ := sj; exact ⟨b, ws, z, by rw [upd_ne (own b rfl z)]; exact z1, z2⟩
      | cup => exact sj
      | fn y => exact sj
  · have key : ∀ j, OwnAt (ρ.set i s') σ j b → OwnAt ρ σ j b := by
      rintro j ⟨t, z1, z2, z3⟩
      by_cases hj : i = j
      · subst hj
        exact ⟨_, hρ, ho, z3⟩
      · rw [List.getElem?_set_ne hj] at z1
        exact ⟨t, z1, z2, z3⟩
    exact e.sep j k b (key j h1) (key k h2)
/-- a dict of one's own is frozen: it is locked for good -/
theorem EnvOk.lockD {K : PySem.W.Frag} {mg : Str → Option Value} {F H : Hp} {σ : St} (e : EnvOk K mg C F H σ ρ) (i : Nat) {s : Sl} {a : Addr} {u : HO} {ob : Obj} {d : PyData} (hρ : ρ[i]? = some s) (ho : isOwn s = true) (e1 : σ[i]? = some (some (.ref a))) (nF : F a = none) (nE : C.E a = none) (hH : H a = some u)
    (r : Rp K (L2.upd F a (.frz ob u)) (.ref a) d) : EnvOk K mg C (L2.upd F a (.frz ob u)) (L2.upd H a (.frz ob u)) σ (ρ.set i (.d d)) := by
  have nn : ∀ j b, j ≠ i → OwnAt ρ σ j b → b ≠ a := fun j b hj o z => hj (e.sep j i a (z ▸ o) ⟨_, hρ, ho, e1⟩)
  have hi := (List.getElem?_eq_some_iff.mp hρ).1
  have le : Le F (L2.upd F a (.frz ob u)) := Le.fz nF
  refine ⟨by rw [List.length_set]; exact e.len, e.g0.lock nE nF, fun j t ej => ?_, fun j k b h1 h2 => ?_⟩
  · by_cases hj : i = j
    · subst hj
      rw [List.getElem?_set_self hi] at ej
      cases ej
      exact ⟨_, e1, r⟩
    · rw [List.getElem?_set_ne hj] at ej
      have sj := e.sl j t ej
      have own : ∀ b, isOwn t = true → σ[j]? = some (some (.ref b)) → b ≠ a := fun b o ob => nn j b (fun z => hj z.symm) ⟨t, ej, o, ob⟩
      cases t with
      | un => trivial
      | d y => obtain ⟨v, z, rv⟩ := sj; exact ⟨v, z, rv.mono le⟩
      | own ys => obtain ⟨b, ws, z, z1, z2, z3, z4, rb⟩ := sj; exact ⟨b, ws, z, by rw [upd_ne (own b rfl z)]; exact z1, by rw [upd_ne (own b rfl z)]; exact z2, z3, z4, rb.mono le⟩
      | odK ys => obtain ⟨b, ws, z, z1, z2, z3, z4, rb⟩ := sj; exact ⟨b, ws, z, by rw [upd_ne (own b rfl z)]; exact z1, by rw [upd_ne (own b rfl z)]; exact z2, z3, z4, rb.mono le⟩
      | odT ys => obtain ⟨b, ws, z, z1, z2, z3, z4, rb⟩ := sj; exact ⟨b, ws, z, by rw [upd_ne (own b rfl z)]; exact z1, by rw [upd_ne (own b rfl z)]; exact z2, z3, z4, rb.mono le⟩
      | cup => exact sj
      | fn y => exact sj
  · have key : ∀ j, OwnAt (ρ.set i (.d d)) σ j b → OwnAt ρ σ j b := by
      rintro j ⟨t, z1, z2, z3⟩
      by_cases hj : i = j
      · subst hj
        rw [List.getElem?_set_self hi] at z1
        cases z1; cases z2
      · rw [List.getElem?_set_ne hj] at z1
        exact ⟨t, z1, z2, z3⟩
    exact e.sep j k b (key j h1) (key k h2)
theorem CupOk.lockD {K : PySem.W.Frag} {F H : Hp} {cs : List PyData} {q : Addr} {o o' : HO} (h : CupOk K C F H cs) (nF : F q = none) (n : C.c ≠ some q) : CupOk K C (L2.upd F q o) (L2.upd H q o') cs := (h.fz nF n).upd n
theorem fb_frzK (i : Nat) {kvs : List (PyData × PyData)} {mr : M (Fl τ β)} (h : FB X C (ρ.set i (.d (.dict kvs))) emb embL rk sts mr) (hρ : ρ[i]? = some (.odK kvs) := by rfl) : FB X C ρ emb embL rk sts mr := by
  refine ⟨⟨fun pins s' σ H D I w => ?_⟩⟩
  obtain ⟨F, cs, e, q, w⟩ := w
  obtain ⟨a, es, e1, e2, e3, e4, e5, r⟩ := e.sl i _ hρ
  obtain ⟨od, I1⟩ := I.lock e2 trivial
  exact h.ps.run pins s' σ _ D I1 ⟨_, cs, e.lockD i hρ rfl e1 e3 e5 e2 (.dK upd_same (r.mono (Le.fz e3))), q.lockD e3 e4, w.le (Le.fz e3)⟩
theorem fb_frzT (i : Nat) {kvs : List (PyData × PyData)} {mr : M (Fl τ β)} (h : FB X C (ρ.set i (.d (.dict kvs))) emb embL rk sts mr) (hρ : ρ[i]? = some (.odT kvs) := by rfl) : FB X C ρ emb embL rk sts mr := by
  refine ⟨⟨fun pins s' σ H D I w => ?_⟩⟩
  obtain ⟨F, cs, e, q, w⟩ := w
  obtain ⟨a, es, e1, e2, e3, e4, e5, r⟩ := e.sl i _ hρ
  obtain ⟨od, I1⟩ := I.lock e2 trivial
  exact h.ps.run pins s' σ _ D I1 ⟨_, cs, e.lockD i hρ rfl e1 e3 e5 e2 (.dT upd_same (r.mono (Le.fz e3))), q.lockD e3 e4, w.le (Le.fz e3)⟩
/-! ### {} and {k: v} -/
theorem newSl {K : PySem.W.Frag} {mg : Str → Option Value} {F H : Hp} {σ : St} (e : EnvOk K mg C F H σ ρ) {q : Addr} (n : H q = none) : C.E q = none := by
  cases z : C.E q with
  | none => rfl
  | some o => exact absurd n (e.ent q (by rw [z]; simp))
theorem fv_dK0 : FV X C ρ (.Dict [] [] pos) Sl.odK (pure []) := by
  refine ⟨imE pe_dnewK fun σ H Q ⟨F, cs, e, q, h⟩ p n => ?_⟩
  exact h F (upd H p (.dK [])) (Grow.fresh e.sub n) (q.upd (q.ne n)) (.ref p) ⟨⟨p, [], rfl, upd_same, e.sub.fresh n, q.ne n, newSl e n, .nil⟩, fun _ => ⟨p, rfl, n, by rw [upd_same]; simp⟩⟩
theorem fv_dT0 : FV X C ρ (.Dict [] [] pos) Sl.odT (pure []) := by
  refine ⟨imE pe_dnewT fun σ H Q ⟨F, cs, e, q, h⟩ p n => ?_⟩
  exact h F (upd H p (.dT [])) (Grow.fresh e.sub n) (q.upd (q.ne n)) (.ref p) ⟨⟨p, [], rfl, upd_same, e.sub.fresh n, q.ne n, newSl e n, .nil⟩, fun _ => ⟨p, rfl, n, by rw [upd_same]; simp⟩⟩
theorem Res.allocD {K : PySem.W.Frag} {mg : Str → Option Value} {F H : Hp} {σ : St} {cs : List PyData} {r : Except Er (List (PyData × PyData) × List PyData)} {sl : List (PyData × PyData) → Sl} {Q : VK} (e : EnvOk K mg C F H σ ρ) (q : CupOk K C F H cs) {p : Addr} (n : H p = none) (o0 : HO)
    (h : Res K mg C F H r fun kvs _ F' H' => ∀ v, SlNew K mg C H F' H' (sl kvs) v → Q v H') : Res K mg C F (upd H p o0) r fun kvs _ F' H' => F' p = none → ∀ o : HO, SlOk K mg C F' (upd H' p o) (sl kvs) (some (some (.ref p))) → Q (.ref p) (upd H' p o) := by
  have g0 : Grow C.c F H F (upd H p o0) := Grow.fresh e.sub n
  match r, h with
  | .ok (kvs, cs1), h => exact fun F1 H1 g1 q1 nF o so => h F1 (upd H1 p o) ((g0.trans g1).updFresh n nF) (q1.upd (q.ne n)) (.ref p) ⟨so, fun _ => ⟨p, rfl, n, by rw [upd_same]; simp⟩⟩
  | .error (.exc nm fld), h => exact fun F1 H1 cl d σ g1 e1 x1 => h F1 H1 cl d σ (g0.trans g1) e1 x1
theorem fv_dK1 (hk : FE X C ρ ke mk) (hv : FE X C ρ ve mv) : FV X C ρ (.Dict [some ke] [ve] pos) Sl.odK (do let k ← mk; let v ← mv; chk (okA k = true); pure [(k, v)]) := by
  refine ⟨imE (pe_disp (pps_cons hk.pe hv.pe pps_nil) rfl rfl (by simp) (by show 1 ≤ 15; decide)) fun σ H Q ⟨F, cs, e, q, h⟩ p n => ?_⟩
  have g0 : Grow C.c F H F (upd H p (.dK [])) := Grow.fresh e.sub n
  have nc := q.ne n
  refine ⟨F, cs, e.grow g0, q.upd nc, (Res.bind (Res.allocD e q n (.dK []) h)).mono fun dk cs1 F1 H1 g1 q1 h1 kv rky => ?_⟩
  refine ⟨F1, cs1, (e.grow g0).grow g1, q1, (Res.bind h1).mono fun dv cs2 F2 H2 g2 q2 h2 vv rv => ?_⟩
  obtain ⟨hA, h3⟩ := Res.chk h2
  have g12 := g1.trans g2
  have eP : H2 p = some (.dK []) := g12.keep _ _ upd_same nc
  have nF2 : F2 p = none := g12.nF (by rw [upd_same]; simp) (by rw [upd_same]; simp) (e.sub.fresh n)
  obtain ⟨k', hk'⟩ := Option.isSome_iff_exists.mp hA
  have ek := (rky.mono g2.le).keyA hk'
  have ed := keyA_kD hk'
  refine ⟨eP, [(k', vv)], by rw [ek]; rfl, by show 1 ≤ 15; decide, ?_⟩
  exact Res.pure h3 g2.sub q2 nF2 _ ⟨p, _, rfl, upd_same, nF2, nc, newSl e n, by rw [ed]; exact .cons rv .nil⟩
/-- {k: v}, k a tuple -/
def tDisp1 (tk tv : TE) : TE := fun σ H Q => ∀ p, H p = none → tk σ (upd H p (.dT [])) fun x H1 => tv σ H1 fun y H2 => H2 p = some (.dT []) ∧ ∃ (ks : List Key) (b : Addr), x = .ref b ∧ H2 b = some (.tup (ks.map L2.kV)) ∧ Q (.ref p) (upd H2 p (.dT [(ks, y)]))
theorem pe_disp1 {tk tv : TE} (hu : X.A.units + 64 < cLine) (hk : PE X ke tk) (hv : PE X ve tv) : PE X (.Dict [some ke] [ve] pos) (tDisp1 tk tv) := by
  refine ⟨fun pins s σ H Q I q => ?_⟩
  have hn := I.hok.fresh (Nat.le_refl s.heap.objs.size)
  have I1 := I.laid (a := s.heap.objs.size) (o := .dT []) (h' := s.heap.push { cls := .type "dict", data := .dict #[] }) (t' := s.toks) (fun _ _ q => Heap.get?_push_of_some _ q) (Nat.le_refl _) (dt_empty s.heap I.big)
  rw [arm_eval_Dict, zip_pairTrees [some ke] [ve] X.env pos rfl rfl, dictDisplay_pairs (pairTrees [some ke] [ve] X.env pos) (fun z => by cases z) (by show 1 < 17; decide)]
  refine wpAny_bind (wpAny_standAt (wpAny_bind (wpAny_subDictH (knd := tupleKind (mixKind X.prog X.w)) (Q := fun d s' => wpAny (model X.prog X.w) X.A (pure (Value.ref d)) (EP X pins σ Q) X.xe s') (show X.A.units < cLine by omega) (by show 1 ≤ 15; decide) ?_)))
  refine pairTrees_cons_walk (thn (hk.run pins _ σ _ _ I1 (q _ hn)) fun u s1 ⟨x, H1, I1', rx, q1⟩ => thn (hv.run pins s1 σ H1 _ I1' q1) fun w2 s2 ⟨y, H2, I2, ry, e, ks, b, ex, eb, q2⟩ => pairTrees_nil_walk ?_)
  subst ex
  obtain rfl : u = Value.ref b := rx
  obtain ⟨z, hd, xs0, r0, o0, es0, ep0, a1, a2, a3, a4, a5⟩ := (show ObjOk X.prog X.w H2 s2.heap s.heap.objs.size (.dT []) from I2.hok _ _ e)
  cases r0
  refine ⟨[(ks, b, w2)], ⟨rfl, rfl, key_of I2.hok eb, trivial⟩, ⟨o0, es0, ep0, a1, a2, a3, a4, (fun x hx => by cases hx), a5⟩, fun h' tk dk sb => wpAny_pure ?_⟩
  obtain ⟨o, es, ep, b1, b2, b3, b4, b5, b6⟩ := dk
  have hne : b ≠ s.heap.objs.size := ne_of eb e (by intro z; cases z)
  refine ⟨.ref _, _, d_write (t' := tk) I2 (by rw [e]; exact True.intro) sb ⟨_, b1⟩ (ob := .dT [(ks, y)]) ⟨by show 1 ≤ sizeLine; decide, hd, [(ks, b, w2)], .cons ⟨rfl, by rw [upd_ne hne]; exact eb, ry⟩ .nil, o, es, ep, b1, b2, b3, b4, b6⟩, rfl, q2⟩
theorem fv_dT1 (hu : X.A.units + 64 < cLine) (hk : FE X C ρ ke mk) (hv : FE X C ρ ve mv) : FV X C ρ (.Dict [some ke] [ve] pos) Sl.odT (do let k ← mk; let v ← mv; chk (okT k = true); pure [(k, v)]) := by
  refine ⟨imE (pe_disp1 hu hk.pe hv.pe) fun σ H Q ⟨F, cs, e, q, h⟩ p n => ?_⟩
  have g0 : Grow C.c F H F (upd H p (.dT [])) := Grow.fresh e.sub n
  have nc := q.ne n
  refine ⟨F, cs, e.grow g0, q.upd nc, (Res.bind (Res.allocD e q n (.dT []) h)).mono fun dk cs1 F1 H1 g1 q1 h1 kv rky => ?_⟩
  refine ⟨F1, cs1, (e.grow g0).grow g1, q1, (Res.bind h1).mono fun dv cs2 F2 H2 g2 q2 h2 vv rv => ?_⟩
  obtain ⟨hA, h3⟩ := Res.chk h2
  have g12 := g1.trans g2
  have eP : H2 p = some (.dT []) := g12.keep _ _ upd_same nc
  have nF2 : F2 p = none := g12.nF (by rw [upd_same]; simp) (by rw [upd_same]; simp) (e.sub.fresh n)
  have rk2 := rky.mono g2.le
  cases rk2 with
  | @tup b xs ds f rr0 =>
    obtain ⟨ks, hks⟩ := Option.isSome_iff_exists.mp (show (keysA ds).isSome = true from hA)
    have e2 := keysA_kD hks
    have e3 := rr0.keysA hks
    subst e2 e3
    refine ⟨eP, ks, b, rfl, f.at' g2.sub, ?_⟩
    exact Res.pure h3 g2.sub q2 nF2 _ ⟨p, _, rfl, upd_same, nF2, nc, newSl e n, .cons rv .nil⟩
  | _ => cases hA
/-! ### d[k] = v, d[k], k in d -/
theorem RpK.putK {K : PySem.W.Frag} {F : Hp} {es : List (Key × V)} {kvs : List (PyData × PyData)} (h : RpK K F es kvs) (k : Key) {v : V} {d : PyData} (r : Rp K F v d) : RpK K F (L2.putK es k v) (dPut kvs (kD k) d) := pk_rpK ((rpK_pk h).put (fun _ _ => kD_inj) k r)
theorem RpT.putK {K : PySem.W.Frag} {F : Hp} {es : List (List Key × V)} {kvs : List (PyData × PyData)} (h : RpT K F es kvs) (k : List Key) {v : V} {d : PyData} (r : Rp K F v d) : RpT K F (L2.putK es k v) (dPut kvs (tD k) d) := pk_rpT ((rpT_pk h).put (fun _ _ => tD_inj) k r)
theorem fb_dputK (i : Nat) {kvs : List (PyData × PyData)} {k : PyData → PyData → M (Fl τ β)} (hu : X.A.units + 64 < cLine) (hv : FE X C ρ ve mv) (hk : FE X C ρ ke mk) (hr : ∀ dk dv, FB X C (ρ.set i (.odK (dPut kvs dk dv))) emb embL rk rest (k dk dv)) (hρ : ρ[i]? = some (.odK kvs) := by rfl) (hN : X.N[i]? = some x := by rfl)
    (hvis : Vis X.env.scope x := by first | exact Or.inl rfl | exact Or.inr (Or.inl rfl) | exact Or.inr (Or.inr rfl)) (hd : (x == ("__debug__" : Str)) = false := by decide) (hcd : (x == ("__classdict__" : Str)) = false := by decide)
    (hs : swapsWith ve (some (.Subscript (.Name x p2) ke p')) pos.line X.env = pure false := by rfl) :
    FB X C ρ emb embL rk (.Assign [.Subscript (.Name x p2) ke p'] ve pos :: rest) (do let v ← mv; let dk ← mk; chk (okA dk = true ∧ kvs.length < sizeLine); k dk v) := by
  have e2 : (do let v ← mv; let dk ← mk; chk (okA dk = true ∧ kvs.length < sizeLine); k dk v : M (Fl τ β)) = (do let pq ← (do let v ← mv; let dk ← mk; chk (okA dk = true ∧ kvs.length < sizeLine); pure (dk, v)); k pq.1 pq.2) := by simp
  rw [e2]
  refine fb_step (ps_dput (by omega) (pe_var hN hvis hd hcd) hk.pe hv.pe hs) fun D σ H h => ?_
  rw [← e2] at h
  obtain ⟨F, cs, e, q, h⟩ := h
  refine ⟨F, cs, e, q, (h.bind e.g0).mono fun dv cs1 F1 H1 g1 q1 h1 vv rv => ?_⟩
  have e1 := e.grow g1
  obtain ⟨a, es, z1, z2, z3, z4, z5, r⟩ := e1.sl i _ hρ
  refine ⟨.ref a, z1, F1, cs1, e1, q1, (h1.bind e1.g0).mono fun dk cs2 F2 H2 g2 q2 h2 kv rky => ?_⟩
  have e2' := e1.grow g2
  obtain ⟨a', es', y1, y2, y3, y4, y5, r'⟩ := e2'.sl i _ hρ
  rw [z1] at y1; cases y1
  have hc : (okA dk = true ∧ kvs.length < sizeLine) ∧ ResB X.K X.mg C F2 (k dk dv cs2) (kB X.K X.mg C emb embL rk D) := by
    by_cases hp : okA dk = true ∧ kvs.length < sizeLine
    · refine ⟨hp, ?_⟩
      rw [chk_true hp, pure_bind] at h2
      exact h2
    · have ez : chk (okA dk = true ∧ kvs.length < sizeLine) = stuck := if_neg hp
      rw [ez, stuck_bind] at h2
      exact h2.elim
  obtain ⟨hA, h3⟩ := hc
  obtain ⟨k', hk'⟩ := Option.isSome_iff_exists.mp hA.1
  have ek := rky.keyA hk'
  have ed := keyA_kD hk'
  subst ek ed
  refine ⟨a, _, rfl, DPut.k (v := vv) y2 (by rw [(rpK_pk r').length]; exact hA.2), ?_⟩
  refine ⟨(kD k', dv), ρ.set i (.odK (dPut kvs (kD k') dv)), (hr _ _).ps, F2, cs2, ?_, q2.upd y4, h3⟩
  exact e2'.writeX i hρ rfl z1 y3 y5 ⟨a, _, rfl, upd_same, y3, y4, y5, r'.putK k' (rv.mono g2.le)⟩
theorem fb_dputT (i : Nat) {kvs : List (PyData × PyData)} {k : PyData → PyData → M (Fl τ β)} (hu : X.A.units + 64 < cLine) (hv : FE X C ρ ve mv) (hk : FE X C ρ ke mk) (hr : ∀ dk dv, FB X C (ρ.set i (.odT (dPut kvs dk dv))) emb embL rk rest (k dk dv)) (hρ : ρ[i]? = some (.odT kvs) := by rfl) (hN : X.N[i]? = some x := by rfl)
    (hvis : Vis X.env.scope x := by first | exact Or.inl rfl | exact Or.inr (Or.inl rfl) | exact Or.inr (Or.inr rfl)) (hd : (x == ("__debug__" : Str)) = false := by decide) (hcd : (x == ("__classdict__" : Str)) = false := by decide)
    (hs : swapsWith ve (some (.Subscript (.Name x p2) ke p')) pos.line X.env = pure false := by rfl) :
    FB X C ρ emb embL rk (.Assign [.Subscript (.Name x p2) ke p'] ve pos :: rest) (do let v ← mv; let dk ← mk; chk (okT dk = true ∧ kvs.length < sizeLine); k dk v) := by
  have e2 : (do let v ← mv; let dk ← mk; chk (okT dk = true ∧ kvs.length < sizeLine); k dk v : M (Fl τ β)) = (do let pq ← (do let v ← mv; let dk ← mk; chk (okT dk = true ∧ kvs.length < sizeLine); pure (dk, v)); k pq.1 pq.2) := by simp
  rw [e2]
  refine fb_step (ps_dput (by omega) (pe_var hN hvis hd hcd) hk.pe hv.pe hs) fun D σ H h => ?_
  rw [← e2] at h
  obtain ⟨F, cs, e, q, h⟩ := h
  refine ⟨F, cs, e, q, (h.bind e.g0).mono fun dv cs1 F1 H1 g1 q1 h1 vv rv => ?_⟩
  have e1 := e.grow g1
  obtain ⟨a, es, z1, z2, z3, z4, z5, r⟩ := e1.sl i _ hρ
  refine ⟨.ref a, z1, F1, cs1, e1, q1, (h1.bind e1.g0).mono fun dk cs2 F2 H2 g2 q2 h2 kv rky => ?_⟩
  have e2' := e1.grow g2
  obtain ⟨a', es', y1, y2, y3, y4, y5, r'⟩ := e2'.sl i _ hρ
  rw [z1] at y1; cases y1
  have hc : (okT dk = true ∧ kvs.length < sizeLine) ∧ ResB X.K X.mg C F2 (k dk dv cs2) (kB X.K X.mg C emb embL rk D) := by
    by_cases hp : okT dk = true ∧ kvs.length < sizeLine
    · refine ⟨hp, ?_⟩
      rw [chk_true hp, pure_bind] at h2
      exact h2
    · have ez : chk (okT dk = true ∧ kvs.length < sizeLine) = stuck := if_neg hp
      rw [ez, stuck_bind] at h2
      exact h2.elim
  obtain ⟨hA, h3⟩ := hc
  obtain ⟨ks, b, ek, ev, hb, _⟩ := getT (.inl y2) r' g2.sub rky hA.1
  subst ek ev
  refine ⟨a, _, rfl, DPut.t (v := vv) y2 hb (by rw [(rpT_pk r').length]; exact hA.2), ?_⟩
  refine ⟨(tD ks, dv), ρ.set i (.odT (dPut kvs (tD ks) dv)), (hr _ _).ps, F2, cs2, ?_, q2.upd y4, h3⟩
  exact e2'.writeX i hρ rfl z1 y3 y5 ⟨a, _, rfl, upd_same, y3, y4, y5, r'.putK ks (rv.mono g2.le)⟩
end
end DL
end
section
set_option Elab.async false
set_option linter.all false
set_option maxRecDepth 100000
set_option maxHeartbeats 4000000
set_option autoImplicit false
namespace DL
open PySem PySem.Spec PyProof.Rows L2 RZ PySem.W
section
variable {X : Cx} {C : Ct} {ρ : List Sl} {τ τ' β α : Type} {emb : τ → List Sl} {embL : β → List Sl} {rk : Bool} {rest sts : List Stmt} {a b c e ke ve idx : Expr} {m ma mb mk mv mi : M PyData} {pos p p' p2 q2 apos bpos tpos : Pos} {x y z : Str}
/-- d[k], d one's own -/
theorem fe_dgetK (i : Nat) {kvs : List (PyData × PyData)} (hu : X.A.units + 64 < cLine) (hk : FE X C ρ ke mk) (hρ : ρ[i]? = some (.odK kvs) := by rfl) (hN : X.N[i]? = some x := by rfl)
    (hvis : Vis X.env.scope x := by first | exact Or.inl rfl | exact Or.inr (Or.inl rfl) | exact Or.inr (Or.inr rfl)) (hd : (x == ("__debug__" : Str)) = false := by decide) (hcd : (x == ("__classdict__" : Str)) = false := by decide) (hs : NoSl ke := by exact fun _ _ => rfl) :
    FE X C ρ (.Subscript (.Name x p2) ke pos) (do let k ← mk; chk (okA k = true); optM (dGet kvs k)) := by
  refine ⟨imE (pe_dget (by omega) (pe_var hN hvis hd hcd) hk.pe hs) fun σ H Q ⟨F, cs, e, q, h⟩ => ?_⟩
  obtain ⟨a, es, e1, _⟩ := e.sl i _ hρ
  refine ⟨.ref a, e1, F, cs, e, q, (Res.bind h).mono fun dk cs1 F1 H1 g1 q1 h1 kv rky => ?_⟩
  obtain ⟨a', es', y1, y2, y3, y4, y5, r'⟩ := (e.grow g1).sl i _ hρ
  rw [e1] at y1; cases y1
  obtain ⟨hA, h2⟩ := Res.chk h1
  cases hd' : dGet kvs dk with
  | none => rw [hd'] at h2; exact h2.elim
  | some d =>
    rw [hd'] at h2
    obtain ⟨k', rfl, rfl, _, g⟩ := getA (.inl y2) r' rky hA
    obtain ⟨v, hv, rv⟩ := g d hd'
    exact ⟨a, v, rfl, hv, kE.val h2 g1.sub q1 rv⟩
theorem fe_dgetT (i : Nat) {kvs : List (PyData × PyData)} (hu : X.A.units + 64 < cLine) (hk : FE X C ρ ke mk) (hρ : ρ[i]? = some (.odT kvs) := by rfl) (hN : X.N[i]? = some x := by rfl)
    (hvis : Vis X.env.scope x := by first | exact Or.inl rfl | exact Or.inr (Or.inl rfl) | exact Or.inr (Or.inr rfl)) (hd : (x == ("__debug__" : Str)) = false := by decide) (hcd : (x == ("__classdict__" : Str)) = false := by decide) (hs : NoSl ke := by exact fun _ _ => rfl) :
    FE X C ρ (.Subscript (.Name x p2) ke pos) (do let k ← mk; chk (okT k = true); optM (dGet kvs k)) := by
  refine ⟨imE (pe_dget (by omega) (pe_var hN hvis hd hcd) hk.pe hs) fun σ H Q ⟨F, cs, e, q, h⟩ => ?_⟩
  obtain ⟨a, es, e1, _⟩ := e.sl i _ hρ
  refine ⟨.ref a, e1, F, cs, e, q, (Res.bind h).mono fun dk cs1 F1 H1 g1 q1 h1 kv rky => ?_⟩
  obtain ⟨a', es', y1, y2, y3, y4, y5, r'⟩ := (e.grow g1).sl i _ hρ
  rw [e1] at y1; cases y1
  obtain ⟨hA, h2⟩ := Res.chk h1
  cases hd' : dGet kvs dk with
  | none => rw [hd'] at h2; exact h2.elim
  | some d =>
    rw [hd'] at h2
    obtain ⟨ks, b, ek, ev, hb, _, g⟩ := getT (.inl y2) r' g1.sub rky hA
    subst ek ev
    obtain ⟨v, hv, rv⟩ := g d hd'
    exact ⟨a, v, rfl, hv, kE.val h2 g1.sub q1 rv⟩
/-- k in d, d one's own -/
structure FC (X : Cx) (C : Ct) (ρ : List Sl) (op : CmpOp) (a b : Expr) (m : M PyData) : Prop where
  pc : PC X op a b (tM X.K X.mg C ρ m)
theorem FC.fe {op : CmpOp} (h : FC X C ρ op a b m) (hm : behindInMarks op b = false) : FE X C ρ (.Compare a [op] [b] pos) m := ⟨pe_cmp h.pc hm⟩
theorem FC.ft {op : CmpOp} (h : FC X C ρ op a b m) (hm : behindInMarks op b = false) : FT X C ρ (.Compare a [op] [b] pos) (do let z ← m; asB z) := by
  refine ⟨imT (pt_cmp h.pc hm) fun σ H Q ⟨F, cs, e, q, h⟩ => ?_⟩
  exact ⟨F, cs, e, q, (Res.bind h).mono fun d cs1 F1 H1 g1 q1 h1 v rv => asB_res rv g1.sub q1 h1⟩
theorem fc_dinK (i : Nat) {kvs : List (PyData × PyData)} (hu : X.A.units + 64 < cLine) (hk : FE X C ρ ke mk) (hρ : ρ[i]? = some (.odK kvs) := by rfl) (hN : X.N[i]? = some x := by rfl)
    (hvis : Vis X.env.scope x := by first | exact Or.inl rfl | exact Or.inr (Or.inl rfl) | exact Or.inr (Or.inr rfl)) (hd : (x == ("__debug__" : Str)) = false := by decide) (hcd : (x == ("__classdict__" : Str)) = false := by decide) :
    FC X C ρ .In ke (.Name x p2) (do let k ← mk; chk (okA k = true); pure (.bool (dGet kvs k).isSome)) := by
  refine ⟨⟨fun pins s σ H Q I ⟨F, cs, e, q, h⟩ => (pc_din (X := X) (by omega) hk.pe (pe_var (x := x) (pos := p2) hN hvis hd hcd)).run pins s σ H Q I ⟨F, cs, e, q, (Res.bind h).mono fun dk cs1 F1 H1 g1 q1 h1 kv rky => ?_⟩⟩⟩
  obtain ⟨a, es, e1, y2, y3, y4, y5, r'⟩ := (e.grow g1).sl i _ hρ
  obtain ⟨hA, h2⟩ := Res.chk h1
  obtain ⟨k', rfl, rfl, g0, g⟩ := getA (.inl y2) r' rky hA
  refine ⟨.ref a, e1, a, ?_⟩
  cases hd' : dGet kvs (kD k') with
  | none => rw [hd'] at h2; exact ⟨none, rfl, g0 hd', kE.val h2 g1.sub q1 (.bl _)⟩
  | some d =>
    rw [hd'] at h2
    obtain ⟨v, hv, rv⟩ := g d hd'
    exact ⟨some v, rfl, hv, kE.val h2 g1.sub q1 (.bl _)⟩
theorem fc_dninK (i : Nat) {kvs : List (PyData × PyData)} (hu : X.A.units + 64 < cLine) (hk : FE X C ρ ke mk) (hρ : ρ[i]? = some (.odK kvs) := by rfl) (hN : X.N[i]? = some x := by rfl)
    (hvis : Vis X.env.scope x := by first | exact Or.inl rfl | exact Or.inr (Or.inl rfl) | exact Or.inr (Or.inr rfl)) (hd : (x == ("__debug__" : Str)) = false := by decide) (hcd : (x == ("__classdict__" : Str)) = false := by decide) :
    FC X C ρ .NotIn ke (.Name x p2) (do let k ← mk; chk (okA k = true); pure (.bool (!(dGet kvs k).isSome))) := by
  refine ⟨⟨fun pins s σ H Q I ⟨F, cs, e, q, h⟩ => (pc_dnotin (X := X) (by omega) hk.pe (pe_var (x := x) (pos := p2) hN hvis hd hcd)).run pins s σ H Q I ⟨F, cs, e, q, (Res.bind h).mono fun dk cs1 F1 H1 g1 q1 h1 kv rky => ?_⟩⟩⟩
  obtain ⟨a, es, e1, y2, y3, y4, y5, r'⟩ := (e.grow g1).sl i _ hρ
  obtain ⟨hA, h2⟩ := Res.chk h1
  obtain ⟨k', rfl, rfl, g0, g⟩ := getA (.inl y2) r' rky hA
  refine ⟨.ref a, e1, a, ?_⟩
  cases hd' : dGet kvs (kD k') with
  | none => rw [hd'] at h2; exact ⟨none, rfl, g0 hd', kE.val h2 g1.sub q1 (.bl _)⟩
  | some d =>
    rw [hd'] at h2
    obtain ⟨v, hv, rv⟩ := g d hd'
    exact ⟨some v, rfl, hv, kE.val h2 g1.sub q1 (.bl _)⟩
theorem fc_dinT (i : Nat) {kvs : List (PyData × PyData)} (hu : X.A.units + 64 < cLine) (hk : FE X C ρ ke mk) (hρ : ρ[i]? = some (.odT kvs) := by rfl) (hN : X.N[i]? = some x := by rfl)
    (hvis : Vis X.env.scope x := by first | exact Or.inl rfl | exact Or.inr (Or.inl rfl) | exact Or.inr (Or.inr rfl)) (hd : (x == ("__debug__" : Str)) = false := by decide) (hcd : (x == ("__classdict__" : Str)) = false := by decide) :
    FC X C ρ .In ke (.Name x p2) (do let k ← mk; chk (okT k = true); pure (.bool (dGet kvs k).isSome)) := by
  refine ⟨⟨fun pins s σ H Q I ⟨F, cs, e, q, h⟩ => (pc_din (X := X) (by omega) hk.pe (pe_var (x := x) (pos := p2) hN hvis hd hcd)).run pins s σ H Q I ⟨F, cs, e, q, (Res.bind h).mono fun dk cs1 F1 H1 g1 q1 h1 kv rky => ?_⟩⟩⟩
  obtain ⟨a, es, e1, y2, y3, y4, y5, r'⟩ := (e.grow g1).sl i _ hρ
  obtain ⟨hA, h2⟩ := Res.chk h1
  obtain ⟨ks, b, ek, ev, hb, g0, g⟩ := getT (.inl y2) r' g1.sub rky hA
  subst ek ev
  refine ⟨.ref a, e1, a, ?_⟩
  cases hd' : dGet kvs (tD ks) with
  | none => rw [hd'] at h2; exact ⟨none, rfl, g0 hd', kE.val h2 g1.sub q1 (.bl _)⟩
  | some d =>
    rw [hd'] at h2
    obtain ⟨v, hv, rv⟩ := g d hd'
    exact ⟨some v, rfl, hv, kE.val h2 g1.sub q1 (.bl _)⟩
theorem fc_dninT (i : Nat) {kvs : List (PyData × PyData)} (hu : X.A.units + 64 < cLine) (hk : FE X C ρ ke mk) (hρ : ρ[i]? = some (.odT kvs) := by rfl) (hN : X.N[i]? = some x := by rfl)
    (hvis : Vis X.env.scope x := by first | exact Or.inl rfl | exact Or.inr (Or.inl rfl) | exact Or.inr (Or.inr rfl)) (hd : (x == ("__debug__" : Str)) = false := by decide) (hcd : (x == ("__classdict__" : Str)) = false := by decide) :
    FC X C ρ .NotIn ke (.Name x p2) (do let k ← mk; chk (okT k = true); pure (.bool (!(dGet kvs k).isSome))) := by
  refine ⟨⟨fun pins s σ H Q I ⟨F, cs, e, q, h⟩ => (pc_dnotin (X := X) (by omega) hk.pe (pe_var (x := x) (pos := p2) hN hvis hd hcd)).run pins s σ H Q I ⟨F, cs, e, q, (Res.bind h).mono fun dk cs1 F1 H1 g1 q1 h1 kv rky => ?_⟩⟩⟩
  obtain ⟨a, es, e1, y2, y3, y4, y5, r'⟩ := (e.grow g1).sl i _ hρ
  obtain ⟨hA, h2⟩ := Res.chk h1
  obtain ⟨ks, b, ek, ev, hb, g0, g⟩ := getT (.inl y2) r' g1.sub rky hA
  subst ek ev
  refine ⟨.ref a, e1, a, ?_⟩
  cases hd' : dGet kvs (tD ks) with
  | none => rw [hd'] at h2; exact ⟨none, rfl, g0 hd', kE.val h2 g1.sub q1 (.bl _)⟩
  | some d =>
    rw [hd'] at h2
    obtain ⟨v, hv, rv⟩ := g d hd'
    exact ⟨some v, rfl, hv, kE.val h2 g1.sub q1 (.bl _)⟩
/-- xs[i], xs one's own -/
theorem fe_oidx (i : Nat) {xs : List PyData} (hi : FE X C ρ idx mi) (hρ : ρ[i]? = some (.own xs) := by rfl) (hN : X.N[i]? = some x := by rfl)
    (hvis : Vis X.env.scope x := by first | exact Or.inl rfl | exact Or.inr (Or.inl rfl) | exact Or.inr (Or.inr rfl)) (hd : (x == ("__debug__" : Str)) = false := by decide) (hcd : (x == ("__classdict__" : Str)) = false := by decide) (hs : PlainIx idx := by exact fun _ _ => rfl) :
    FE X C ρ (.Subscript (.Name x p2) idx pos) (do let y ← mi; pidx (.list xs) y) := by
  refine ⟨imE (pe_ix ix_seq (pe_var hN hvis hd hcd) hi.pe hs) fun σ H Q ⟨F, cs, e, q, h⟩ => ?_⟩
  obtain ⟨a, vs, e1, _⟩ := e.sl i _ hρ
  refine ⟨.ref a, e1, F, cs, e, q, (Res.bind h).mono fun dk cs1 F1 H1 g1 q1 h1 kv rky => ?_⟩
  obtain ⟨a', vs', y1, y2, y3, y4, y5, r'⟩ := (e.grow g1).sl i _ hρ
  rw [e1] at y1; cases y1
  unfold pidx at h1
  cases rky with
  | int j =>
    dsimp only at h1
    cases ej : atI xs j with
    | none => rw [ej] at h1; exact h1.elim
    | some d =>
      rw [ej] at h1
      obtain ⟨v, ev, rv⟩ := r'.atI ej
      exact .inl ⟨a, vs', j, v, rfl, rfl, .inl (.inl y2), ev, kE.val h1 g1.sub q1 rv⟩
  | _ => exact h1.elim
def erI (ys : List PyData) : PyData → List PyData
  | .int n => ys.eraseIdx n.toNat
  | _ => ys
/-- x.append(y.pop(e)) -/
theorem fb_appPop {pp : Pos} {xs ys : List PyData} {k : PyData → PyData → M (Fl τ β)} (i j : Nat) (hij : i ≠ j) (he : FE X C ρ e m) (hk : ∀ n d, FB X C ((ρ.set j (.own (erI ys n))).set i (.own (xs ++ [d]))) emb embL rk rest (k n d)) (hρ : ρ[i]? = some (.own xs) := by rfl) (hρj : ρ[j]? = some (.own ys) := by rfl) (hN : X.N[i]? = some x := by rfl) (hNj : X.N[j]? = some y := by rfl)
    (hv : Vis X.env.scope x := by first | exact Or.inl rfl | exact Or.inr (Or.inl rfl) | exact Or.inr (Or.inr rfl)) (hd : (x == ("__debug__" : Str)) = false := by decide) (hcd : (x == ("__classdict__" : Str)) = false := by decide)
    (hv2 : Vis X.env.scope y := by first | exact Or.inl rfl | exact Or.inr (Or.inl rfl) | exact Or.inr (Or.inr rfl)) (hd2 : (y == ("__debug__" : Str)) = false := by decide) (hcd2 : (y == ("__classdict__" : Str)) = false := by decide)
    (hbase : attributeBase (.Name x p2) "append" X.env (eval (.Name x p2) X.env) = eval (.Name x p2) X.env := by rfl)
    (hbase2 : attributeBase (.Name y q2) "pop" X.env (eval (.Name y q2) X.env) = eval (.Name y q2) X.env := by rfl)
    (hfew2 : ((backTo pp (starEach [e] X.env)).all (fun x => !x.1) && (backToKw pp (keywordEach [] X.env)).all (fun x => x.1.isSome)
      && decide ([e].length + ([] : List Keyword).length + (if ([] : List Keyword).isEmpty then 0 else 1) < 30)) = true := by rfl)
    (hline2 : (bpos.endLine == pp.line) = true := by rfl) (hs2 : starEach [e] X.env = (false, eval e X.env) :: starEach [] X.env := by rfl) (hplain2 : (backTo pp (starEach [] X.env)).any (·.1) = false := by rfl)
    (hfew : ((backTo p' (starEach [.Call (.Attribute (.Name y q2) "pop" bpos) [e] [] pp] X.env)).all (fun x => !x.1) && (backToKw p' (keywordEach [] X.env)).all (fun x => x.1.isSome)
      && decide ([Expr.Call (.Attribute (.Name y q2) "pop" bpos) [e] [] pp].length + ([] : List Keyword).length + (if ([] : List Keyword).isEmpty then 0 else 1) < 30)) = true := by rfl)
    (hline : (apos.endLine == p'.line) = true := by rfl) (hs : starEach [.Call (.Attribute (.Name y q2) "pop" bpos) [e] [] pp] X.env = (false, eval (.Call (.Attribute (.Name y q2) "pop" bpos) [e] [] pp) X.env) :: starEach [] X.env := by rfl) (hplain : (backTo p' (starEach [] X.env)).any (·.1) = false := by rfl)
    (hsw : swapsWith (.Call (.Attribute (.Name x p2) "append" apos) [.Call (.Attribute (.Name y q2) "pop" bpos) [e] [] pp] [] p') none pos.line X.env = pure false := by rfl) :
    FB X C ρ emb embL rk (.Expr (.Call (.Attribute (.Name x p2) "append" apos) [.Call (.Attribute (.Name y q2) "pop" bpos) [e] [] pp] [] p') pos :: rest) (do let dn ← m; let n ← asI dn; chk (0 ≤ n ∧ n < 2 ^ 63 ∧ xs.length < sizeLine); let d ← optM ys[n.toNat]?; k dn d) := by
  have pa0 : PA X [e] (tCons (tM X.K X.mg C ρ m) tNil) := pa_cons he.pe pa_nil hs2
  have pop := pe_bm (X := X) PySem.F.plainAttrs_list PySem.F.slot_list_pop PySem.F.type_list_pop (fun pins s σ H x xs v us Q I rx rxs h => mt_popAt pins s σ H x xs v us Q I rx rxs h) (pe_var hNj hv2 hd2 hcd2) pa0 hbase2 hfew2 hline2 hs2 hplain2
  have pa := pa_cons pop pa_nil hs
  have e2 : (do let dn ← m; let n ← asI dn; chk (0 ≤ n ∧ n < 2 ^ 63 ∧ xs.length < sizeLine); let d ← optM ys[n.toNat]?; k dn d : M (Fl τ β)) = (do let pq ← (do let dn ← m; let n ← asI dn; chk (0 ≤ n ∧ n < 2 ^ 63 ∧ xs.length < sizeLine); let d ← optM ys[n.toNat]?; pure (dn, d)); k pq.1 pq.2) := by simp
  rw [e2]
  refine fb_step (ps_expr (pe_bm PySem.F.plainAttrs_list PySem.F.slot_list_append PySem.F.type_list_append mt_append (pe_var hN hv hd hcd) pa hbase hfew hline hs hplain) hsw) fun D σ H h => ?_
  rw [← e2] at h
  obtain ⟨F, cs, ev, q, h⟩ := h
  obtain ⟨a, vs, e1, z2, z3, z4, z5, r⟩ := ev.sl i _ hρ
  obtain ⟨a2, vs2, f1, w2, w3, w4, w5, r2⟩ := ev.sl j _ hρj
  refine ⟨.ref a, e1, .inl ⟨rfl, vs, .inl (.inl z2)⟩, .ref a2, f1, .inl ⟨rfl, vs2, .inl (.inl w2)⟩, F, cs, ev, q, (h.bind ev.g0).mono fun dn cs1 F1 H1 g1 q1 h1 v rv => ?_⟩
  cases rv with
  | int n =>
    have h1 : ResB X.K X.mg C F1 ((do chk (0 ≤ n ∧ n < 2 ^ 63 ∧ xs.length < sizeLine); let d ← optM ys[n.toNat]?; k (.int n) d : M (Fl τ β)) cs1) (kB X.K X.mg C emb embL rk D) := h1
    by_cases hp : 0 ≤ n ∧ n < 2 ^ 63 ∧ xs.length < sizeLine
    · rw [chk_true hp, pure_bind] at h1
      have eg := ev.grow g1
      obtain ⟨a', vs', y1, y2, y3, y4, y5, r'⟩ := eg.sl i _ hρ
      rw [e1] at y1; cases y1
      obtain ⟨a2', vs2', x1, x2, x3, x4, x5, r2'⟩ := eg.sl j _ hρj
      rw [f1] at x1; cases x1
      cases hd' : ys[n.toNat]? with
      | none => rw [hd'] at h1; exact h1.elim
      | some d =>
        rw [hd'] at h1
        obtain ⟨u, hu, ru⟩ := r2'.get hd'
        have hlt : n.toNat < vs2'.length := (List.getElem?_eq_some_iff.mp hu).1
        refine ⟨a2, vs2', n, n.toNat, u, rfl, rfl, x2, by omega, hp.2.1, ?_, hu, ?_⟩
        · refine (ixN_seq (n := vs2'.length) (i := n) (j := n.toNat) ?_).1
          unfold ixN
          rw [if_pos hp.1, if_pos (by omega)]
        · have hne : a ≠ a2 := fun z => hij (eg.sep i j a ⟨_, hρ, rfl, e1⟩ ⟨_, hρj, rfl, by rw [z]; exact f1⟩)
          have ew := eg.write j hρj f1 x3 x4 x5 (r2'.eraseIdx n.toNat)
          have hρ2 : (ρ.set j (.own (ys.eraseIdx n.toNat)))[i]? = some (.own xs) := by rw [List.getElem?_set_ne (fun z => hij z.symm)]; exact hρ
          have ew2 := ew.write i hρ2 e1 y3 y4 y5 (r'.append (.one ru))
          refine ⟨a, vs', u, rfl, rfl, by rw [upd_ne hne]; exact y2, by rw [r'.length]; exact hp.2.2, ?_⟩
          exact ⟨(.int n, d), _, (hk (.int n) d).ps, F1, cs1, ew2, (q1.upd x4).upd y4, h1⟩
    · have ez : chk (0 ≤ n ∧ n < 2 ^ 63 ∧ xs.length < sizeLine) = stuck := if_neg hp
      rw [ez, stuck_bind] at h1
      exact h1.elim
  | _ => exact h1.elim
end
end DL
end
section
set_option Elab.async false
set_option linter.all false
set_option maxRecDepth 100000
set_option maxHeartbeats 4000000
set_option autoImplicit false
namespace DL
open PySem PySem.Spec PyProof.Rows L2
section
variable {P : Program} {w : World} {A : Around} {E : Value → Shared → Prop} {s : Shared}
/-- the set that is made empty -/
abbrev emptySet (w : World) : Obj := { cls := .type "set", dict := none, data := .set #[] 0 (.fresh 0 0 (!w.params.followText "set-order")) }
set_option maxHeartbeats 3200000 in
/-- set(xs) of a list of ints, as SetR -/
theorem set_of_ints {l : Addr} {items : Array Value} (ns : List Int) {Q : Value → Shared → Prop} (hh : A.handled = none) (hl : s.heap.IsList l items) (hit : IntsAre items.toList ns) (hb : ns.length + 1 < scanBound)
    (done : ∀ (h' : Heap) (tk c : Nat), SetR w h' s.heap.objs.size (fun j => decide (j ∈ ns)) c → c ≤ ns.length → (∀ b o, s.heap.get? b = some o → h'.get? b = some o) → Q (.ref s.heap.objs.size) { s with heap := h', toks := tk }) :
    wpAny (model P w) A (call (.type "set") [.ref l]) Q E s := by
  have size_eq : items.size = ns.length := (Array.length_toList (xs := items)).symm.trans (IntsAre.length hit)
  obtain ⟨mc, mt, mro⟩ := F.called_set.mro
  have made' := F.called_set.made
  have sub' := F.called_set.sub
  have nt := F.called_set.notType
  have cc := F.called_set.canCreate
  have tc1 := F.typeCall_set_1 (.ref l)
  refine wpAny_call (codeAny_of_tree ?_)
  show wpAny _ _ (callAny (.type "set") _) _ _ _
  refine wpAny_pure ⟨Code.quiet_builtin _ (by decide +kernel), codeAny_builtin F.entry_type_call ?_⟩
  rw [Around.under_plain (weight_type_call_type "set" [.ref l] []) rfl]
  repeat (any_goals (first | assumption | wp_step))
  refine codeAny_mono (code_set_led1 (.ref l) (E := E) (Q₁ := fun ob t₁ => ob = .ref s.heap.objs.size ∧ t₁ = { s with heap := s.heap.push (emptySet w) }) ⟨rfl, rfl⟩) fun r t₁ hr => ?_
  cases r with
  | error e => exact hr
  | ok fl =>
    cases fl with
    | ret ob =>
      obtain ⟨rfl, rfl⟩ := hr
      have gS : (s.heap.push (emptySet w)).get? s.heap.objs.size = some (emptySet w) := Heap.get?_push_size _ rfl
      have tS : Shared.TypeIs { s with heap := s.heap.push (emptySet w) } (.ref s.heap.objs.size) "set" := ⟨_, gS, rfl⟩
      have il := F.called_set.init.lookup
      have ib := F.called_set.init.bind (.ref s.heap.objs.size)
      repeat (any_goals (first | assumption | wp_step))
      refine codeAny_mono (codeAny_call_builtin (R := wants (fun r t₂ => r = .none ∧ ∃ h' tk c, t₂ = { s with heap := h', toks := tk } ∧ SetR w h' s.heap.objs.size (fun j => decide (j ∈ ns)) c ∧ c ≤ ns.length ∧
          (∀ b o, s.heap.get? b = some o → h'.get? b = some o)) E) F.called_set.init.plain F.entry_set_init (check_set_init_1 tS ?_)) fun r₂ t₂ hr₂ => ?_
      · obtain ⟨⟨c0, d0, dt0, sl0⟩, gl, hcl, nl, hdl⟩ := hl
        simp only at hcl hdl
        subst hcl; subst hdl
        have gl' : (s.heap.push (emptySet w)).get? l = some { cls := .type "list", dict := d0, data := .seq items nl, slots := sl0 } := Heap.get?_push_of_some _ gl
        have s1 := F.sub_list_set
        have s2 := F.sub_list_frozenset
        have nd : (Value.type "list" == Value.type "dict") = false := by decide
        have isl : (s.heap.push (emptySet w)).IsList l items := ⟨_, gl', rfl, nl, rfl⟩
        unfold Builtin.«set.__init__» noKeywords Builtin.Frozenset.updateFrom
        generalize ePI : pyIter = PI
        wp_walk
        subst ePI
        refine wpAny_pyIter_list isl ?_
        refine wpAny_bind (wpAny_runValue ?_)
        have lt_l : l < s.heap.objs.size := Heap.lt_size gl
        have h3 : A.in1.in1.in1.handled = none := by simp [hh]
        have sz1 : (s.heap.push (emptySet w)).objs.size = s.heap.objs.size + 1 := Heap.size_push ..
        have neI : l ≠ (s.heap.push (emptySet w)).objs.size := by
          rw [Heap.size_push]; exact Nat.ne_of_lt (Nat.lt_succ_of_lt lt_l)
        have nf : s.heap.objs.size ∉ [(s.heap.push (emptySet w)).objs.size, l] := by
          rw [Heap.size_push]
          intro z
          rcases List.mem_cons.mp z with z | z
          · exact Nat.ne_of_lt (Nat.lt_succ_self _) z
          · exact Nat.ne_of_gt lt_l (by simpa using z)
        have vals' : ∀ (i : Nat) (v : Value), items[i]? = some v → ∃ k t, ns[i]? = some k ∧ v = .int k t := fun i v hv => by
          have hi : i < ns.length := by rw [← size_eq]; exact (Array.getElem?_eq_some_iff.mp hv).1
          obtain ⟨t, e⟩ := PyProof.Rows.IntsAre.int_at hit i v (by rw [Array.getElem?_toList]; exact hv)
          refine ⟨ns[i], t, List.getElem?_eq_getElem hi, ?_⟩
          rw [e, List.getD_eq_getElem?_getD, List.getElem?_eq_getElem hi]
          rfl
        refine set_update_ints ((Walks.list h3 _ l neI items).toS) s.heap.objs.size nf ns size_eq hb vals' (items.size - 0) 0 _ (by omega) (Nat.zero_le _) ⟨⟨_, Heap.get?_push_size _ rfl, rfl, rfl⟩, (isl.push _)⟩ ?start0 ?fin0
        case start0 => exact ⟨0, Nat.le_refl 0, setR_new_at (Heap.get?_push_of_some _ gS)⟩
        case fin0 =>
          intro t' c' mv le sr
          obtain ⟨h', g2, d', tk', os'⟩ := t'
          have eg : g2 = s.gens := mv.gens
          have ed : d' = s.drawn := mv.drawn
          have eo : os' = s.os := mv.os
          subst eg; subst ed; subst eo
          show wpAny _ _ _ _ _ _
          refine wpAny_pure ?_
          show wpAny _ _ (ret Value.none) _ _ _
          rw [size_eq] at le
          refine wpAny_pure ⟨rfl, h', tk', c', rfl, sr, le, fun b o e => ?_⟩
          have b0 : b < s.heap.objs.size := Heap.lt_size e
          refine mv.heap b o (fun z => ?_) (Heap.get?_push_of_some _ (Heap.get?_push_of_some _ e))
          rcases List.mem_cons.mp z with z | z
          · exact Nat.ne_of_lt b0 z
          · have z' : b = (s.heap.push (emptySet w)).objs.size := by simpa using z
            rw [sz1] at z'
            rw [z'] at b0
            exact absurd b0 (Nat.not_lt.mpr (Nat.le_succ _))
      · cases r₂ with
        | error e => exact hr₂
        | ok fl₂ =>
          cases fl₂ with
          | ret r =>
            obtain ⟨rfl, h', tk, c', rfl, a1, a2, a3⟩ := hr₂
            repeat (any_goals (first | assumption | wp_step))
            exact done _ _ _ a1 a2 a3
          | _ => exact hr₂.elim
    | _ => exact hr.elim
end
end DL
end
section
set_option Elab.async false
set_option linter.all false
set_option maxRecDepth 100000
set_option maxHeartbeats 4000000
set_option autoImplicit false
namespace DL
open PySem PySem.Spec PyProof.Rows L2 RZ PySem.W
/-! ### sorted of whatever is collected -/
/-- the value u may be collected: the items stand for some ds with D, by P -/
def Coll (X : Cx) (s : Shared) (u : Value) (D : List PyData → Prop) (P : V → PyData → Prop) : Prop := ∀ (A : Around) (R : List Value → Shared → Prop), A.handled = none →
  (∀ (s' : Shared) (vs : List Value) (ds : List PyData), (∀ b o, s.heap.get? b = some o → s'.heap.get? b = some o) → s'.gens = s.gens → s'.os = s.os → D ds → EachIs (fun v d => (∃ as, Reads s'.heap v d as) ∧ ∃ x, RelV x v ∧ P x d) vs ds → R vs s') →
  ∀ E : Value → Shared → Prop, wpAny (model X.prog X.w) A (collect u) R E s
theorem sorted_gen {X : Cx} {pins : List (Addr × Obj)} {σ : St} {H : Hp} {s : Shared} {u : Value} {Q : VK} {bs : List PyData} {D : List PyData → Prop} {P : V → PyData → Prop} (hc : X.calm = true) (I : Inv X pins σ H s) (hu : X.A.units + 200 < cLine) (hal : AllAlike bs) (hk : Sortable bs) (hdep : ∀ d ∈ bs, d.depth ≤ 100) (hz : bs.length ≤ sizeLine) (hD : ∀ ds, D ds → ds.Perm bs) (hcol : Coll X s u D P)
    (q : ∀ ds ys p, D ds → EachIs P ys (srtD ds) → H p = none → Q (.ref p) (upd H p (.lst ys))) : wpAny (model X.prog X.w) X.A (call (.builtin "sorted") [u]) (EP X pins σ Q) X.xe s := by
  refine Calls.call_function_entry PyProof.Rows.kind_sorted PyProof.Rows.plain_sorted PyProof.Rows.entry_sorted (PyProof.Rows.args_sorted1 _) ?_
  unfold Builtin.«sorted»
  refine wpAny_bind (m := checkCount "sorted" 1 1 _) (wpAny_pure ?_)
  refine wpAny_bind (hcol X.A.in1 _ (I.ok.hd hc) (fun s' vs ds kp hg ho dD ev => ?_) _)
  have pm := hD ds dD
  have hlen : vs.length = bs.length := by
    have : ∀ {as : List Value} {bs : List PyData} {R : Value → PyData → Prop}, EachIs R as bs → as.length = bs.length := fun e => e.length
    rw [this ev, pm.length_eq]
  refine wpAny_bind (wpAny_newList ?_ (by rw [hlen]; exact hz))
  have hoL : (s'.heap.push (seqObj "list" vs.toArray 0)).get? s'.heap.objs.size = some (seqObj "list" vs.toArray 0) := Heap.get?_push_size _ rfl
  have hal' : AllAlike ds := fun d hd' e he => hal d (pm.mem_iff.mp hd') e (pm.mem_iff.mp he)
  have hk' : Sortable ds := by
    rcases hk with h | h
    · exact .inl fun d hd' => h d (pm.mem_iff.mp hd')
    · exact .inr fun d hd' => h d (pm.mem_iff.mp hd')
  have I1 : Inv X pins σ H s' := I.call' (ch := []) ho (Un.kept kp) (I.hok.kept kp) (by rw [hg]; exact I.bare) (fun _ z => nomatch z)
  have er : EachIs (fun v d => ∃ as, Reads (sortingHeap (s'.heap.push (seqObj "list" vs.toArray 0)) s'.heap.objs.size vs) v (id d) as) vs ds := ev.mono fun v d h => by
    obtain ⟨⟨as, r⟩, _⟩ := h
    exact ⟨as, PyProof.Rows.Reads.keeps (fun b o e => sortingHeap_old (Nat.ne_of_lt (Heap.lt_size e)) (Heap.get?_push_of_some _ e)) r⟩
  have e2 : EachIs (fun v d => ∃ x, RelV x v ∧ P x d) vs ds := ev.mono fun v d h => h.2
  have hS := SortsAt.data (prog := X.prog) (w := X.w) (A := X.A.in1.in1) (s := { s' with heap := sortingHeap (s'.heap.push (seqObj "list" vs.toArray 0)) s'.heap.objs.size vs }) (each_map (R := fun v d => ∃ as, Reads (sortingHeap (s'.heap.push (seqObj "list" vs.toArray 0)) s'.heap.objs.size vs) v d as) id er) (by rw [List.map_id]; exact hal') (by rw [List.map_id]; exact hk') (fun d hd' => by
    rw [List.map_id] at hd'
    have := hdep d (pm.mem_iff.mp hd')
    show X.A.units + 1 + 1 + d.depth < cLine
    omega)
  refine wpAny_bind (wpAny_holding (wpAny_call_entry PyProof.Rows.slot_list_sort ⟨_, hoL, rfl⟩ PyProof.Rows.entry_list_sort (PySem.W.list_sort_vals (s := { s' with heap := s'.heap.push (seqObj "list" vs.toArray 0) }) hoL hS (by rw [hlen]; exact hz) ⟨_, rfl, ?_⟩) (PyProof.Rows.args_list_sort _)))
  have eo := sortVals_data (h' := sortingHeap (s'.heap.push (seqObj "list" vs.toArray 0)) s'.heap.objs.size vs) (enc := id) false e2 er (by rw [List.map_id]; exact hal')
  generalize ho2 : sortVals (PySem.W.dataKind (sortingHeap (s'.heap.push (seqObj "list" vs.toArray 0)) s'.heap.objs.size vs) (ds.map id)) false vs vs = out at eo
  have hol : out.length = bs.length := by rw [← ho2, sortVals_length false rfl, hlen]
  obtain ⟨ys, h1, h2⟩ := each_vals eo
  obtain ⟨e', he'⟩ := PyProof.Rows.sortedHeap_at (vs := vs) (out := out.toArray) hoL
  have hy : ys.length ≤ sizeLine := by rw [h1.length, hol]; exact hz
  refine wpAny_pure ⟨_, rfl, .ref s'.heap.objs.size, upd H s'.heap.objs.size (.lst ys), ?_, rfl, q ds ys _ dD h2 (I1.hok.fresh (Nat.le_refl _))⟩
  have I2 := I1.laid (a := s'.heap.objs.size) (t' := s'.toks) (o := .lst ys) (h' := sortedHeap (s'.heap.push (seqObj "list" vs.toArray 0)) s'.heap.objs.size vs out.toArray) (fun b u e => ?_) (Nat.le_refl _) ⟨hy, out, e', h1, he'⟩
  · exact I2
  · have hb : b < s'.heap.objs.size := Heap.lt_size e
    rw [PyProof.Rows.sortedHeap_old (Nat.ne_of_lt hb) (by rw [size_push']; exact Nat.lt_succ_of_lt hb)]
    exact Heap.get?_push_of_some _ e
/-! ### sources -/
section
variable {X : Cx} {pins : List (Addr × Obj)} {σ : St} {H : Hp} {s : Shared} {a : Addr}
theorem coll_seq {T : String} {o : Obj} {its : List Value} {n : Nat} {xs : List V} {ds : List PyData} (I : Inv X pins σ H s) (hT : T = "list" ∨ T = "tuple") (ho : s.heap.get? a = some o) (hcl : o.cls = .type T) (hd : o.data = .seq its.toArray n) (hz : its.length ≤ sizeLine) (rv : Vals xs its) (dp : DpAll X.K H xs ds) :
    Coll X s (.ref a) (fun ds' => ds' = ds) (fun x d => ∀ P : V → PyData → Prop, EachIs P xs ds → P x d) := by
  intro A R hh k E
  refine wpAny_collect_seq a hT ho hcl hd (fun h' kp => ?_) (by rw [List.size_toArray]; exact hz)
  have ep := each_pos rv dp
  refine k { s with heap := h' } its ds kp rfl rfl rfl (each_imp (fun v d ⟨x, r, hdp, hP⟩ => ?_) ep)
  obtain ⟨as, rd⟩ := Dp.reads I d x v hdp r
  exact ⟨⟨as, PyProof.Rows.Reads.keeps kp rd⟩, x, r, hP⟩
theorem coll_dK {es : List (Key × V)} (I : Inv X pins σ H s) (h : Rd H a (.dK es)) : Coll X s (.ref a) (fun ds' => ds' = es.map fun p => kD p.1) (fun x d => ∃ k, x = L2.kV k ∧ d = kD k) := by
  intro A R hh k E
  obtain ⟨z, lo, vs, rel, dd⟩ := dk_rd I.hok h
  obtain ⟨ep, hat⟩ := dd.dictAt
  refine PySem.W.kdu_collect (PySem.W.kdl_dict (knd := mixKind X.prog X.w) (kvs := vs) (ep := ep) lo) hh hat (by rw [← rel.length]; exact z) fun h' tk acc kp it => ?_
  have hv : Vals (vs.map fun p => L2.kV p.1) acc.toList := keys_at (by rw [Array.length_toList]; exact it.1) fun j v e => it.2 j v (by rw [← Array.getElem?_toList]; exact e)
  have ek : (es.map fun p => kD p.1) = vs.map fun p => kD p.1 := by
    have e := congrArg (List.map kD) rel.keys
    rw [List.map_map, List.map_map] at e
    exact e
  refine k { s with heap := h', toks := tk } acc.toList _ kp rfl rfl rfl ?_
  rw [ek]
  generalize acc.toList = vals at hv
  clear it kp ek rel dd hat
  induction vs generalizing vals with
  | nil => cases hv; exact .nil
  | cons p vs ih =>
    cases hv with
    | cons r t =>
      refine .cons ⟨?_, L2.kV p.1, r, p.1, rfl, rfl⟩ (ih _ t)
      obtain ⟨⟨i⟩ | ⟨x⟩, v⟩ := p
      · obtain ⟨t', rfl⟩ := r; exact ⟨[], .int i t'⟩
      · obtain ⟨t', rfl⟩ := r; exact ⟨[], .str _ t'⟩
theorem coll_dT {es : List (List Key × V)} (I : Inv X pins σ H s) (h : Rd H a (.dT es)) : Coll X s (.ref a) (fun ds' => ds' = es.map fun p => tD p.1) (fun x d => ∃ ks b, x = .ref b ∧ d = tD ks ∧ H b = some (.tup (ks.map L2.kV))) := by
  intro A R hh k E
  obtain ⟨z, hs, ks, pr, o, eo, ep, ho, hx, hdt, he, hn⟩ := (show ObjOk X.prog X.w H s.heap a (.dT es) from h.ok I.hok)
  have l1 : eo.size = ks.length := size_of_entries he
  have l2 : es.length = ks.length := Paired.length pr
  refine PySem.W.kdu_collect (kdl_raw hs hx hdt) hh ho (by omega) fun h' tk acc kp it => ?_
  have ea : acc.toList = ks.map fun x => Value.ref x.2.1 := by
    have hl : acc.toList.length = ks.length := by rw [Array.length_toList, it.1]; exact l1
    apply List.ext_getElem?
    intro j
    rw [List.getElem?_map]
    cases hj : acc.toList[j]? with
    | none =>
      rw [List.getElem?_eq_none (by have := List.getElem?_eq_none_iff.mp hj; omega)]
      rfl
    | some v =>
      obtain ⟨en, hen, hv⟩ := it.2 j v (by rw [← Array.getElem?_toList]; exact hj)
      have qe := entry_at he j
      rw [hen] at qe
      cases hb : ks[j]? with
      | none => rw [hb] at qe; exact nomatch (show some en = none from qe)
      | some b =>
        rw [hb] at qe
        have e2 : en = entryOfKey (tupleKind (mixKind X.prog X.w)) b := Option.some.inj qe
        rw [hv, e2]
        rfl
  refine k { s with heap := h', toks := tk } acc.toList _ kp rfl rfl rfl ?_
  rw [ea]
  have I1 : Inv X pins σ H { s with heap := h', toks := tk } := I.kept kp
  clear ea it he hn hdt hx ho l1 l2 k h z
  induction pr with
  | nil => exact .nil
  | @cons p q _ _ r t ih =>
    rw [List.map_cons, List.map_cons]
    refine .cons ⟨?_, .ref q.2.1, rfl, p.1, q.2.1, rfl, rfl, r.2.1⟩ ih
    have hd : Dp X.K H (.ref q.2.1) (tD p.1) := .tup (.inl (.inl r.2.1)) (by
      have : ∀ ks : List Key, DpAll X.K H (ks.map L2.kV) (ks.map kD) := by
        intro ks
        induction ks with
        | nil => exact .nil
        | cons k ks ih => refine .cons ?_ ih; cases k <;> first | exact .int _ | exact .str _
      exact this p.1)
    exact Dp.reads I1 _ _ _ hd rfl
end
end DL
end
section
set_option Elab.async false
set_option linter.all false
set_option maxRecDepth 100000
set_option maxHeartbeats 4000000
set_option autoImplicit false
namespace DL
open PySem PySem.Spec PyProof.Rows L2 RZ PySem.W
/-! ### ints and rows of ints, sorted -/
def srtI (ns : List Int) : List Int := ns.mergeSort fun a b => decide (a ≤ b)
def srtR (rs : List (List Int)) : List (List Int) := rs.mergeSort fun a b => decide (a ≤ b)
def eRow (r : List Int) : PyData := .tuple (r.map .int)
theorem srtD_ints (ns : List Int) : srtD (ns.map .int) = (srtI ns).map .int := by
  unfold srtD srtI
  refine (List.map_mergeSort fun a _ b _ => ?_).symm
  have := congrFun (congrFun (dataLe_int (β := Int) id) a) b
  exact this.symm
theorem dataLt_rowsT (xs ys : List Int) : dataLt (eRow xs) (eRow ys) = decide (xs < ys) := by
  unfold eRow
  rw [dataLt_tuple]
  exact dataLt_ints xs ys
theorem srtD_rows (rs : List (List Int)) : srtD (rs.map eRow) = (srtR rs).map eRow := by
  unfold srtD srtR
  refine (List.map_mergeSort fun a _ b _ => ?_).symm
  show decide (a ≤ b) = !dataLt (eRow b) (eRow a)
  rw [dataLt_rowsT]
  by_cases h : b < a
  · have h' : ¬ a ≤ b := fun r => List.not_lt.mpr r h
    simp [h, h']
  · have h' : a ≤ b := List.not_lt.mp h
    simp [h, h']
theorem sort_unique {α : Type} (le : α → α → Bool) (tr : ∀ a b c, le a b = true → le b c = true → le a c = true) (tot : ∀ a b, (le a b || le b a) = true) (anti : ∀ a b, le a b = true → le b a = true → a = b) {l l' : List α} (p : l.Perm l') : l.mergeSort le = l'.mergeSort le := by
  have s1 := List.pairwise_mergeSort tr tot l
  have s2 := List.pairwise_mergeSort tr tot l'
  have pp : (l.mergeSort le).Perm (l'.mergeSort le) := (List.mergeSort_perm l le).trans (p.trans (List.mergeSort_perm l' le).symm)
  exact pp.eq_of_pairwise (fun a b _ _ h1 h2 => anti a b h1 h2) s1 s2
theorem srtI_perm {l l' : List Int} (p : l.Perm l') : srtI l = srtI l' := sort_unique _ (fun a b c h1 h2 => by simp at h1 h2 ⊢; omega) (fun a b => by simp; omega) (fun a b h1 h2 => by simp at h1 h2; omega) p
theorem srtR_perm {l l' : List (List Int)} (p : l.Perm l') : srtR l = srtR l' := sort_unique _ (fun a b c h1 h2 => by
  simp only [decide_eq_true_eq] at h1 h2 ⊢; exact List.le_trans h1 h2) (fun a b => by
  simp only [Bool.or_eq_true, decide_eq_true_eq]; exact List.le_total a b) (fun a b h1 h2 => by
  simp only [decide_eq_true_eq] at h1 h2; exact List.le_antisymm h1 h2) p
/-- the first of each -/
def nub {α : Type} [DecidableEq α] : List α → List α
  | [] => []
  | a :: l => a :: (nub l).filter (fun b => decide (b ≠ a))
section
variable {α : Type} [DecidableEq α]
theorem mem_nub {a : α} : ∀ {l : List α}, a ∈ nub l ↔ a ∈ l
  | [] => by simp [nub]
  | b :: l => by
    unfold nub
    rw [List.mem_cons, List.mem_filter, mem_nub, List.mem_cons]
    by_cases h : a = b <;> simp [h]
theorem nodup_nub : ∀ l : List α, (nub l).Nodup
  | [] => List.nodup_nil
  | b :: l => by
    unfold nub
    rw [List.nodup_cons]
    exact ⟨by simp, (nodup_nub l).filter _⟩
theorem perm_of_mem {l l' : List α} (h : l.Nodup) (h' : l'.Nodup) (m : ∀ a, a ∈ l ↔ a ∈ l') : l.Perm l' := (List.perm_ext_iff_of_nodup h h').mpr m
end
def rowOf : PyData → Option (List Int)
  | .tuple ds => intsOf ds
  | _ => none
def rowsD : List PyData → Option (List (List Int))
  | [] => some []
  | d :: ds => match rowOf d, rowsD ds with
    | some r, some rs => some (r :: rs)
    | _, _ => none
theorem intsOf_eq : ∀ {ds : List PyData} {ns : List Int}, intsOf ds = some ns → ds = ns.map .int
  | [], ns, h => by simp [intsOf] at h; subst h; rfl
  | d :: ds, ns, h => by
    cases d <;> simp [intsOf] at h
    obtain ⟨r, h1, rfl⟩ := h
    rw [intsOf_eq h1]; rfl
theorem rowOf_eq {d : PyData} {r : List Int} (h : rowOf d = some r) : d = eRow r := by
  cases d <;> simp [rowOf] at h
  rw [intsOf_eq h]; rfl
theorem rowsD_eq : ∀ {ds : List PyData} {rs : List (List Int)}, rowsD ds = some rs → ds = rs.map eRow
  | [], ns, h => by simp [rowsD] at h; subst h; rfl
  | d :: ds, rs, h => by
    unfold rowsD at h
    split at h
    · rename_i r rs' h1 h2
      cases h
      rw [rowOf_eq h1, rowsD_eq h2]; rfl
    · cases h
@[simp] theorem rowOf_eRow (r : List Int) : rowOf (eRow r) = some r := intsOf_map r
@[simp] theorem rowsD_map (rs : List (List Int)) : rowsD (rs.map eRow) = some rs := by
  induction rs with
  | nil => rfl
  | cons r rs ih => simp [rowsD, ih]
/-! ### set(xs) -/
section
variable {X : Cx} {pins : List (Addr × Obj)} {σ : St} {H : Hp} {s : Shared} {a : Addr}
/-- a set of ints, of tuples of ints -/
def IsSet (K : PySem.W.Frag) (P : Program) (w : World) (H : Hp) (a : Addr) (ns : List Int ⊕ List (Addr × List Int)) : Prop := match ns with
  | .inl ns => ∃ c, H a = some (SetO w a (fun j => decide (j ∈ ns)) c)
  | .inr ks => (∀ p ∈ ks, SqT K H p.1 (p.2.map V.int)) ∧ ∃ L, H a = some (SetTO P w a L) ∧ (∀ p ∈ L, p ∈ ks) ∧ ∀ p ∈ ks, p.2 ∈ L.map (·.2)
def rSetAny (K : PySem.W.Frag) (P : Program) (w : World) : List V → Hp → VK → Prop := fun xs H Q =>
  (∃ (l : Addr) (ns : List Int), xs = [V.ref l] ∧ (SqL K H l (ns.map V.int) ∨ SqT K H l (ns.map V.int)) ∧ ns.length + 1 < scanBound ∧ ∀ a c, H a = none → Q (.ref a) (upd H a (SetO w a (fun j => decide (j ∈ ns)) c))) ∨ rSetOfT K P w xs H Q
theorem cr_setAny (hc : X.calm = true) (hu : X.A.units + 64 < cLine) : CallR X (.type "set") (rSetAny X.K X.prog X.w) := by
  intro pins s σ H xs us Q I r h
  rcases h with ⟨l, ns, rfl, hl, hb, q⟩ | h
  · rw [Vals.ref1 r]
    have hn : H s.heap.objs.size = none := I.hok.fresh (Nat.le_refl _)
    rcases hl with hl | hl
    · obtain ⟨its, rv, pl, hz⟩ := I.list hl
      refine set_of_ints ns (I.ok.hd hc) pl.isList (ints_of_vals rv) hb fun h' tk c R _ k => ?_
      exact ⟨.ref s.heap.objs.size, _, I.laid (t' := tk) k (Nat.le_refl _) (setO_new R), rfl, q _ c hn⟩
    · obtain ⟨its, rv, pl, hz⟩ := I.tuple hl
      refine call_set_tupI ns (I.ok.hd hc) (show s.heap.IsTuple l its.toArray from pl) (ints_of_vals rv) hb fun h' tk c R _ k => ?_
      exact ⟨.ref s.heap.objs.size, _, I.laid (t' := tk) k (Nat.le_refl _) (setO_new R), rfl, q _ c hn⟩
  · exact cr_setOfT hc hu pins s σ H xs us Q I r h
/-- sorted(set) -/
def rSortS (w : World) (P : Program) (K : PySem.W.Frag) : List V → Hp → VK → Prop := fun vs H Q => ∃ a : Addr, vs = [V.ref a] ∧
  ((∃ ns c, H a = some (SetO w a (fun j => decide (j ∈ ns)) c) ∧ ns.length ≤ sizeLine ∧ ∀ p, H p = none → Q (.ref p) (upd H p (.lst ((srtI (nub ns)).map V.int)))) ∨
   ∃ L ks, H a = some (SetTO P w a L) ∧ (∀ p ∈ L, SqT K H p.1 (p.2.map V.int)) ∧ L.map (·.2) ≠ [] ∧ (∀ r ∈ L.map (·.2), r ≠ []) ∧ (∀ r, r ∈ L.map (·.2) ↔ r ∈ ks) ∧ ∀ ys p, EachIs (fun x d => ∃ q ∈ L, x = V.ref q.1 ∧ d = eRow q.2) ys ((srtR (nub ks)).map eRow) → H p = none → Q (.ref p) (upd H p (.lst ys)))
def ivv : Value → Int
  | .int k _ => k
  | _ => 0
theorem perm_data {α : Type} {f : α → PyData} {l l' : List α} (p : l.Perm l') : (l.map f).Perm (l'.map f) := p.map f
theorem coll_setI {ns : List Int} {c : Nat} (hc : X.calm = true) (I : Inv X pins σ H s) (h : H a = some (SetO X.w a (fun j => decide (j ∈ ns)) c)) : Coll X s (.ref a) (fun ds => ∃ ms : List Int, ds = ms.map .int ∧ ms.Perm (nub ns)) (fun x d => ∃ k, x = V.int k ∧ d = .int k) := by
  intro A R hh k E
  obtain ⟨o, es, ep, t, ho, hex, hd, g, nd, hm, hb, hf, hn, hr, hl⟩ := setO_get I h
  refine collect_set hh ⟨o, ho, hex.1, hd⟩ hf hb hr hl fun s1 vs k1 hz g1 o1 pm => ?_
  have hv : ∀ v ∈ vs, ∃ e ∈ es.toList, ∃ tk, v = Value.int (keyOf e) tk := fun v hv => by
    obtain ⟨e, he, q⟩ := List.mem_map.mp (pm.mem_iff.mp hv)
    obtain ⟨k, tk, h1, _⟩ := g e he
    exact ⟨e, he, tk, by rw [← q]; show e.2 = Value.int (match e.2 with | .int k _ => k | _ => 0) tk; rw [h1]⟩
  have key : ∀ vs : List Value, (∀ v ∈ vs, ∃ k tk, v = Value.int k tk) → EachIs (fun v d => (∃ as, Reads s1.heap v d as) ∧ ∃ x, RelV x v ∧ ∃ k, x = V.int k ∧ d = .int k) vs ((vs.map ivv).map .int) := by
    intro vs
    induction vs with
    | nil => intro _; exact .nil
    | cons v vs ih =>
      intro hv
      obtain ⟨k, tk, rfl⟩ := hv v (by simp)
      exact .cons ⟨⟨[], .int k tk⟩, V.int k, ⟨tk, rfl⟩, k, rfl, rfl⟩ (ih fun u hu => hv u (by simp [hu]))
  refine k s1 vs ((vs.map ivv).map .int) k1 g1 o1 ⟨vs.map ivv, rfl, ?_⟩ (key vs fun v h => let ⟨e, _, tk, q⟩ := hv v h; ⟨_, tk, q⟩)
  have pk : (vs.map ivv).Perm (es.toList.map keyOf) := by
    have q := pm.map ivv
    rw [List.map_map] at q
    have e2 : es.toList.map (ivv ∘ fun x => x.2) = es.toList.map keyOf := List.map_congr_left fun e he => by
      obtain ⟨k, tk, h1, _⟩ := g e he
      show ivv e.2 = (match e.2 with | .int k _ => k | _ => 0)
      rw [h1]; rfl
    rw [e2] at q
    exact q
  refine pk.trans (perm_of_mem nd (nodup_nub ns) fun j => ?_)
  rw [mem_nub, ← hm j, decide_eq_true_eq]
theorem coll_setT {L : List (Addr × List Int)} (hc : X.calm = true) (I : Inv X pins σ H s) (h : H a = some (SetTO X.prog X.w a L)) (hk : ∀ p ∈ L, SqT X.K H p.1 (p.2.map V.int)) :
    Coll X s (.ref a) (fun ds => ∃ L' : List (Addr × List Int), ds = L'.map (fun q => eRow q.2) ∧ L'.Perm L) (fun x d => ∃ q ∈ L, x = V.ref q.1 ∧ d = eRow q.2) := by
  intro A R hh k E
  have R0 : SetT0 X.prog X.w s.heap a L := (I.hok a _ h).1
  obtain ⟨es, ep, t, RR⟩ := R0.full fun p hp => I.isT (hk p hp)
  obtain ⟨o, ho, hex, hd⟩ := RR.ob
  have hsz := RR.size
  have hfew := RR.few
  refine collect_set hh ⟨o, ho, hex.1, hd⟩ RR.fits (by unfold scanBound; omega) RR.tab.ris RR.led fun s1 vs k1 hz g1 o1 pm => ?_
  have hes : es.toList.map (·.2) = L.map fun q => Value.ref q.1 := by
    rw [RR.rows]
    unfold L2.rowsOf
    rw [List.map_map]
    rfl
  rw [hes] at pm
  obtain ⟨L', pL, eL⟩ := perm_lift (fun q : Addr × List Int => Value.ref q.1) pm L rfl
  subst eL
  have I1 : Inv X pins σ H s1 := I.call' (ch := []) o1 (Un.kept k1) (I.hok.kept k1) (by rw [g1]; exact I.bare) (fun _ z => nomatch z)
  have key : ∀ L1 : List (Addr × List Int), (∀ q ∈ L1, q ∈ L) → EachIs (fun v d => (∃ as, Reads s1.heap v d as) ∧ ∃ x, RelV x v ∧ ∃ q ∈ L, x = V.ref q.1 ∧ d = eRow q.2) (L1.map fun q => Value.ref q.1) (L1.map fun q => eRow q.2) := by
    intro L1
    induction L1 with
    | nil => intro _; exact .nil
    | cons q L1 ih =>
      intro hs
      have hq := hs q (by simp)
      refine .cons ⟨?_, .ref q.1, rfl, q, hq, rfl, rfl⟩ (ih fun r hr => hs r (by simp [hr]))
      have hd : Dp X.K H (.ref q.1) (eRow q.2) := .tup (hk q hq) (by
        have : ∀ ns : List Int, DpAll X.K H (ns.map V.int) (ns.map .int) := by
          intro ns
          induction ns with
          | nil => exact .nil
          | cons n ns ih => exact .cons (.int n) ih
        exact this q.2)
      exact Dp.reads I1 _ _ _ hd rfl
  exact k s1 _ _ k1 g1 o1 ⟨L', rfl, pL⟩ (key L' fun q hq => pL.mem_iff.mp hq)
theorem alike_rows (rs : List (List Int)) : AllAlike (rs.map eRow) := by
  intro d hd e he
  obtain ⟨x, _, rfl⟩ := List.mem_map.mp hd
  obtain ⟨y, _, rfl⟩ := List.mem_map.mp he
  unfold eRow
  simp only [alike]
  exact alike_ints x y
theorem depth_row (r : List Int) : (eRow r).depth ≤ 100 := by
  unfold eRow
  simp only [PyData.depth, depth_ints]
  omega
theorem cr_sortS (hc : X.calm = true) (hu : X.A.units + 200 < cLine) : CallR X (.builtin "sorted") (rSortS X.w X.prog X.K) := by
  intro pins s σ H vs us Q I r h
  obtain ⟨a, rfl, h⟩ := h
  rw [Vals.ref1 r]
  have nubl : ∀ {α : Type} [DecidableEq α] (l : List α), (nub l).length ≤ l.length := by
    intro α _ l
    induction l with
    | nil => exact Nat.le_refl _
    | cons b l ih =>
      unfold nub
      rw [List.length_cons, List.length_cons]
      exact Nat.succ_le_succ (Nat.le_trans (List.length_filter_le _ _) ih)
  rcases h with ⟨ns, c, ha, hz, q⟩ | ⟨L, ks, ha, hk, hne, hr, hm, q⟩
  · refine sorted_gen (bs := (nub ns).map .int) hc I hu (.of (fun b b' => by simp [alike])) (.others fun b => ⟨by simp, by simp⟩) (fun d hd => by
      obtain ⟨x, _, rfl⟩ := List.mem_map.mp hd; simp [PyData.depth]) (by rw [List.length_map]; exact Nat.le_trans (nubl ns) hz) (fun ds hD => ?_) (coll_setI hc I ha) fun ds ys p hD ev n => ?_
    · obtain ⟨ms, rfl, pm⟩ := hD
      exact pm.map _
    · obtain ⟨ms, rfl, pm⟩ := hD
      rw [srtD_ints, srtI_perm pm] at ev
      have ey : ys = (srtI (nub ns)).map V.int := by
        generalize srtI (nub ns) = l at ev
        clear q pm
        induction ys generalizing l with
        | nil => cases l with | nil => rfl | cons _ _ => cases ev
        | cons y ys ih =>
          cases l with
          | nil => cases ev
          | cons n l =>
            cases ev with
            | cons h t =>
              obtain ⟨k, e1, e2⟩ := h
              cases e2
              rw [List.map_cons, e1, ih l t]
      rw [ey]
      exact q p n
  · have R0 : SetT0 X.prog X.w s.heap a L := (I.hok a _ ha).1
    obtain ⟨es, ep, t, RR⟩ := R0.full fun p hp => I.isT (hk p hp)
    have hfew := RR.few
    have hnd := RR.nd
    refine sorted_gen (bs := (L.map (·.2)).map eRow) hc I hu (alike_rows _) (.inl fun d hd => ?_) (fun d hd => ?_) (by rw [List.length_map, List.length_map, sizeLine_eq]; omega) (fun ds hD => ?_) (coll_setT hc I ha hk) fun ds ys p hD ev n => ?_
    · obtain ⟨x, hx, rfl⟩ := List.mem_map.mp hd
      cases x with
      | nil => exact absurd rfl (hr [] hx)
      | cons i x => exact ⟨.int i, x.map .int, rfl⟩
    · obtain ⟨x, hx, rfl⟩ := List.mem_map.mp hd
      exact depth_row x
    · obtain ⟨L', rfl, pm⟩ := hD
      rw [List.map_map]
      exact pm.map _
    · obtain ⟨L', rfl, pm⟩ := hD
      have e1 : L'.map (fun q => eRow q.2) = (L'.map (·.2)).map eRow := by rw [List.map_map]; rfl
      rw [e1, srtD_rows] at ev
      have e2 : srtR (L'.map (·.2)) = srtR (nub ks) := srtR_perm ((pm.map (·.2)).trans (perm_of_mem hnd (nodup_nub ks) fun r => by rw [mem_nub]; exact hm r))
      rw [e2] at ev
      exact q ys p ev n
/-- len(set) -/
def rLenS (w : World) (P : Program) (K : PySem.W.Frag) : List V → Hp → VK → Prop := fun vs H Q => ∃ a : Addr, vs = [V.ref a] ∧
  ((∃ ns c, H a = some (SetO w a (fun j => decide (j ∈ ns)) c) ∧ Q (.int ((nub ns).length : Nat)) H) ∨
   ∃ L ks, H a = some (SetTO P w a L) ∧ (∀ p ∈ L, SqT K H p.1 (p.2.map V.int)) ∧ (∀ r, r ∈ L.map (·.2) ↔ r ∈ ks) ∧ Q (.int ((nub ks).length : Nat)) H)
theorem cr_lenS : CallR X (.builtin "len") (rLenS X.w X.prog X.K) := by
  intro pins s σ H vs us Q I r h
  obtain ⟨a, rfl, h⟩ := h
  rw [Vals.ref1 r]
  rcases h with ⟨ns, c, ha, q⟩ | ⟨L, ks, ha, hk, hm, q⟩
  · obtain ⟨o, es, ep, t, ho, hex, hd, g, nd, hm, hb, hf, hn, hr, hl⟩ := setO_get I ha
    have e : es.size = (nub ns).length := by
      have p : (es.toList.map keyOf).Perm (nub ns) := perm_of_mem nd (nodup_nub ns) fun j => by rw [mem_nub, ← hm j, decide_eq_true_eq]
      have := p.length_eq
      rw [List.length_map, Array.length_toList] at this
      exact this
    refine call_len_set ho hex hd hf (by unfold scanBound at hb; omega) ?_
    rw [e]
    exact ⟨.int ((nub ns).length : Nat), H, I.tok _, ⟨_, rfl⟩, q⟩
  · have R0 : SetT0 X.prog X.w s.heap a L := (I.hok a _ ha).1
    obtain ⟨es, ep, t, RR⟩ := R0.full fun p hp => I.isT (hk p hp)
    obtain ⟨o, ho, hex, hd⟩ := RR.ob
    have e : es.size = (nub ks).length := by
      rw [RR.size]
      have p : (L.map (·.2)).Perm (nub ks) := perm_of_mem RR.nd (nodup_nub ks) fun r => by rw [mem_nub]; exact hm r
      have := p.length_eq
      rw [List.length_map] at this
      exact this
    refine call_len_set ho hex hd RR.fits (by have := RR.few; have := RR.size; omega) ?_
    rw [e]
    exact ⟨.int ((nub ks).length : Nat), H, I.tok _, ⟨_, rfl⟩, q⟩
end
end DL
end
section
set_option Elab.async false
set_option linter.all false
set_option maxRecDepth 100000
set_option maxHeartbeats 4000000
set_option autoImplicit false
namespace DL
open PySem PySem.Spec PyProof.Rows L2 RZ PySem.W
section
variable {K : PySem.W.Frag} {F H : Hp}
theorem rps_rows : ∀ {vs : List V} {rs : List (List Int)}, Rps K F vs (rs.map eRow) → ∃ ks : List (Addr × List Int), vs = ks.map (fun p => V.ref p.1) ∧ ks.map (·.2) = rs ∧ ∀ p ∈ ks, F p.1 = some (.tup (p.2.map V.int))
  | _, [], .nil => ⟨[], rfl, rfl, fun p h => by cases h⟩
  | _, r :: rs, .cons h t => by
    obtain ⟨ks, e1, e2, e3⟩ := rps_rows t
    cases h with
    | @tup b xs _ f rr =>
      have hx := rr.intsOf (intsOf_map r)
      subst hx
      refine ⟨(b, r) :: ks, by rw [e1]; rfl, by rw [← e2]; rfl, fun p hp => ?_⟩
      rcases List.mem_cons.mp hp with rfl | hp
      · exact f
      · exact e3 p hp
theorem rp_row {b : Addr} {r : List Int} (h : F b = some (.tup (r.map V.int))) : Rp K F (.ref b) (eRow r) := .tup h (Rps.ints r)
/-- key tuples that stand already are taken into what is frozen -/
theorem takeKeys : ∀ {ys : List V} {ds : List PyData} {F : Hp}, Sub F H → EachIs (fun x d => ∃ ks b, x = V.ref b ∧ d = tD ks ∧ H b = some (.tup (ks.map L2.kV))) ys ds → ∃ F', (∀ c, Grow c F H F' H) ∧ Rps K F' ys ds
  | _, _, F, s, .nil => ⟨F, fun c => Grow.refl s, .nil⟩
  | _, _, F, s, .cons ⟨ks, b, e1, e2, e3⟩ t => by
    subst e1 e2
    have g1 : ∀ c, Grow c F H (upd F b (.tup (ks.map L2.kV))) H := fun c => Grow.takeT s e3
    obtain ⟨F', g2, r⟩ := takeKeys (g1 none).sub t
    exact ⟨F', fun c => (g1 c).trans (g2 c), .cons (.tup ((g2 none).le _ _ upd_same) (rps_kV ks)) r⟩
theorem rps_keysK : ∀ {ys : List V} {ds : List PyData}, EachIs (fun x d => ∃ k, x = L2.kV k ∧ d = kD k) ys ds → Rps K F ys ds
  | _, _, .nil => .nil
  | _, _, .cons ⟨k, e1, e2⟩ t => by subst e1 e2; exact .cons (rp_kV k) (rps_keysK t)
end
/-! ### sorted(e) -/
def rSortAny (K : PySem.W.Frag) : List V → Hp → VK → Prop := fun vs H Q => ∃ a : Addr, vs = [V.ref a] ∧
  ((∃ xs ds, (SqL K H a xs ∨ SqT K H a xs) ∧ DpAll K H xs ds ∧ sortOk ds = true ∧ ∀ ys p, EachIs (fun x d => ∀ P : V → PyData → Prop, EachIs P xs ds → P x d) ys (srtD ds) → H p = none → Q (.ref p) (upd H p (.lst ys))) ∨
   (∃ es, Rd H a (.dK es) ∧ sortOk (es.map fun p => kD p.1) = true ∧ ∀ ys p, EachIs (fun x d => ∃ k, x = L2.kV k ∧ d = kD k) ys (srtD (es.map fun p => kD p.1)) → H p = none → Q (.ref p) (upd H p (.lst ys))) ∨
   ∃ es, Rd H a (.dT es) ∧ sortOk (es.map fun p => tD p.1) = true ∧ ∀ ys p, EachIs (fun x d => ∃ ks b, x = V.ref b ∧ d = tD ks ∧ H b = some (.tup (ks.map L2.kV))) ys (srtD (es.map fun p => tD p.1)) → H p = none → Q (.ref p) (upd H p (.lst ys)))
theorem dpAll_len {K : PySem.W.Frag} {H : Hp} : ∀ {xs : List V} {ds : List PyData}, DpAll K H xs ds → xs.length = ds.length
  | _, _, .nil => rfl
  | _, _, .cons _ t => congrArg (· + 1) (dpAll_len t)
theorem cr_sortAny {X : Cx} (hc : X.calm = true) (hu : X.A.units + 200 < cLine) : CallR X (.builtin "sorted") (rSortAny X.K) := by
  intro pins s σ H vs us Q I r h
  obtain ⟨a, rfl, h⟩ := h
  rw [Vals.ref1 r]
  rcases h with ⟨xs, ds, hq, dp, ok, q⟩ | ⟨es, hd, ok, q⟩ | ⟨es, hd, ok, q⟩
  · obtain ⟨k1, k2, k3, k4⟩ := sortOk_iff ok
    rcases hq with hq | hq
    · obtain ⟨its, rv, p1, hz⟩ := I.list hq
      obtain ⟨o, n, ho, hc1, _, hd⟩ := p1
      refine sorted_gen (bs := ds) (D := fun ds' => ds' = ds) hc I hu k2 k3 k4 (by rw [← dpAll_len dp]; exact hz) (fun ds' e => by cases e; exact List.Perm.refl _) (coll_seq I (.inl rfl) ho hc1 hd (by rw [← rv.length]; exact hz) rv dp) fun ds' ys p e ev n => ?_
      subst e
      exact q ys p ev n
    · obtain ⟨its, rv, p1, hz⟩ := I.tuple hq
      obtain ⟨o, ho, hc1, n, hd⟩ := p1
      refine sorted_gen (bs := ds) (D := fun ds' => ds' = ds) hc I hu k2 k3 k4 (by rw [← dpAll_len dp]; exact hz) (fun ds' e => by cases e; exact List.Perm.refl _) (coll_seq (n := n) I (.inr rfl) ho hc1 hd (by rw [← rv.length]; exact hz) rv dp) fun ds' ys p e ev n => ?_
      subst e
      exact q ys p ev n
  · obtain ⟨k1, k2, k3, k4⟩ := sortOk_iff ok
    have hz : es.length ≤ sizeLine := (dk_rd I.hok hd).1
    refine sorted_gen (bs := es.map fun p => kD p.1) hc I hu k2 k3 k4 (by rw [List.length_map]; exact hz) (fun ds' e => by cases e; exact List.Perm.refl _) (coll_dK I hd) fun ds' ys p e ev n => ?_
    subst e
    exact q ys p ev n
  · obtain ⟨k1, k2, k3, k4⟩ := sortOk_iff ok
    have hz : es.length ≤ sizeLine := (dt_rd I.hok hd).1
    refine sorted_gen (bs := es.map fun p => tD p.1) hc I hu k2 k3 k4 (by rw [List.length_map]; exact hz) (fun ds' e => by cases e; exact List.Perm.refl _) (coll_dT I hd) fun ds' ys p e ev n => ?_
    subst e
    exact q ys p ev n
def psortA : PyData → M (List PyData)
  | .list ds => do chk (sortOk ds = true); pure (srtD ds)
  | .tuple ds => do chk (sortOk ds = true); pure (srtD ds)
  | .dict kvs => do chk (sortOk (kvs.map (·.1)) = true); pure (srtD (kvs.map (·.1)))
  | _ => stuck
section
variable {X : Cx} {C : Ct} {ρ : List Sl} {τ τ' β α : Type} {emb : τ → List Sl} {embL : β → List Sl} {rk : Bool} {rest sts : List Stmt} {a b c e ke ve idx : Expr} {m ma mb mk mv mi : M PyData} {pos p p' p2 q2 apos bpos tpos : Pos} {x y z : Str}
theorem kO.dK {K : PySem.W.Frag} {mg : Str → Option Value} {F0 H0 F H : Hp} {cs : List PyData} {Q : VK} {es : List (Key × V)} {kvs : List (PyData × PyData)} (g0 : Grow C.c F0 H0 F H) (q1 : CupOk K C F H cs) (rr : RpK K F es kvs) (h : Res K mg C F H ((pure (srtD (kvs.map (·.1))) : M (List PyData)) cs) (kO K C H0 Q)) :
    ∀ ys p, EachIs (fun x d => ∃ k, x = L2.kV k ∧ d = kD k) ys (srtD (es.map fun p => kD p.1)) → H p = none → Q (.ref p) (upd H p (.lst ys)) := fun ys p ev n => by
  rw [← (rpK_pk rr).keys] at ev
  exact h F _ (Grow.fresh g0.sub n) (q1.upd (q1.ne n)) p ys (g0.free n) upd_same (g0.sub.fresh n) (q1.ne n) (rps_keysK ev)
theorem kO.dT {K : PySem.W.Frag} {mg : Str → Option Value} {F0 H0 F H : Hp} {cs : List PyData} {Q : VK} {es : List (List Key × V)} {kvs : List (PyData × PyData)} (g0 : Grow C.c F0 H0 F H) (q1 : CupOk K C F H cs) (rr : RpT K F es kvs) (h : Res K mg C F H ((pure (srtD (kvs.map (·.1))) : M (List PyData)) cs) (kO K C H0 Q)) :
    ∀ ys p, EachIs (fun x d => ∃ ks b, x = V.ref b ∧ d = tD ks ∧ H b = some (.tup (ks.map L2.kV))) ys (srtD (es.map fun p => tD p.1)) → H p = none → Q (.ref p) (upd H p (.lst ys)) := fun ys p ev n => by
  rw [← (rpT_pk rr).keys] at ev
  obtain ⟨F', g, r⟩ := takeKeys (K := K) g0.sub ev
  have g1 := (g C.c)
  have q2 : CupOk K C F' H cs := q1.grow0 (g none)
  exact h F' _ (g1.trans (Grow.fresh g1.sub n)) (q2.upd (q2.ne n)) p ys (g0.free n) upd_same (g1.sub.fresh n) (q2.ne n) r
theorem fo_sortA (hc : X.calm = true) (hu : X.A.units + 200 < cLine) (hm : X.mg "sorted" = none) (ha : FE X C ρ a ma) (hg : Gl X "sorted" := by rfl) (hs : starEach [a] X.env = (false, eval a X.env) :: starEach [] X.env := by rfl) : FO X C ρ (.Call (.Name "sorted" p) [a] [] pos) (do let d ← ma; psortA d) := by
  have pa : PA X [a] (tCons (tM X.K X.mg C ρ ma) tNil) := pa_cons ha.pe pa_nil hs
  refine ⟨imE (pe_callB (cr_sortAny hc hu) hg hm boot_sorted pa (by decide) (by decide) hs rfl) fun σ H Q h => ?_⟩
  obtain ⟨F, cs, ev, q, h⟩ := h
  refine ⟨F, cs, ev, q, (Res.bind h).mono fun d cs1 F1 H1 g1 q1 h1 v rv => ?_⟩
  cases rv with
  | @lst l xs ds f r =>
    obtain ⟨hok, h2⟩ := Res.chk h1
    refine ⟨l, rfl, .inl ⟨xs, ds, .inl (f.sq g1.sub), Rps.dp g1.sub r (sortOk_iff hok).1, hok, fun ys p hy n => ?_⟩⟩
    have ry := rps_each (each_imp (fun x d k => k (Rp X.K F1) (each_rps r)) hy)
    exact h2 F1 _ (Grow.fresh g1.sub n) (q1.upd (q1.ne n)) p ys (g1.free n) upd_same (g1.sub.fresh n) (q1.ne n) ry
  | @tup l xs ds f r =>
    obtain ⟨hok, h2⟩ := Res.chk h1
    refine ⟨l, rfl, .inl ⟨xs, ds, .inr (f.sq g1.sub), Rps.dp g1.sub r (sortOk_iff hok).1, hok, fun ys p hy n => ?_⟩⟩
    have ry := rps_each (each_imp (fun x d k => k (Rp X.K F1) (each_rps r)) hy)
    exact h2 F1 _ (Grow.fresh g1.sub n) (q1.upd (q1.ne n)) p ys (g1.free n) upd_same (g1.sub.fresh n) (q1.ne n) ry
  | @dK l ob es kvs f r =>
    obtain ⟨hok, h2⟩ := Res.chk h1
    rw [(rpK_pk r).keys] at hok
    exact ⟨l, rfl, .inr (.inl ⟨es, .inr ⟨ob, g1.sub _ _ f⟩, hok, kO.dK g1 q1 r h2⟩)⟩
  | @dT l ob es kvs f r =>
    obtain ⟨hok, h2⟩ := Res.chk h1
    rw [(rpT_pk r).keys] at hok
    exact ⟨l, rfl, .inr (.inr ⟨es, .inr ⟨ob, g1.sub _ _ f⟩, hok, kO.dT g1 q1 r h2⟩)⟩
  | _ => exact h1.elim
/-- sorted(d), d one's own -/
theorem fo_sortK (i : Nat) {kvs : List (PyData × PyData)} (hc : X.calm = true) (hu : X.A.units + 200 < cLine) (hm : X.mg "sorted" = none) (hρ : ρ[i]? = some (.odK kvs) := by rfl) (hN : X.N[i]? = some x := by rfl)
    (hvis : Vis X.env.scope x := by first | exact Or.inl rfl | exact Or.inr (Or.inl rfl) | exact Or.inr (Or.inr rfl)) (hd : (x == ("__debug__" : Str)) = false := by decide) (hcd : (x == ("__classdict__" : Str)) = false := by decide) (hg : Gl X "sorted" := by rfl) (hs : starEach [.Name x p2] X.env = (false, eval (.Name x p2) X.env) :: starEach [] X.env := by rfl) :
    FO X C ρ (.Call (.Name "sorted" p) [.Name x p2] [] pos) (psortA (.dict kvs)) := by
  have pa : PA X [.Name x p2] (tCons (tVar i) tNil) := pa_cons (pe_var hN hvis hd hcd) pa_nil hs
  refine ⟨imE (pe_callB (cr_sortAny hc hu) hg hm boot_sorted pa (by decide) (by decide) hs rfl) fun σ H Q ⟨F, cs, ev, q, h⟩ => ?_⟩
  obtain ⟨l, es, e1, y2, y3, y4, y5, r⟩ := ev.sl i _ hρ
  obtain ⟨hok, h2⟩ := Res.chk (f := fun _ => pure (srtD (kvs.map (·.1)))) h
  rw [(rpK_pk r).keys] at hok
  exact ⟨.ref l, e1, l, rfl, .inr (.inl ⟨es, .inl y2, hok, kO.dK (Grow.refl ev.sub) q r h2⟩)⟩
theorem fo_sortT (i : Nat) {kvs : List (PyData × PyData)} (hc : X.calm = true) (hu : X.A.units + 200 < cLine) (hm : X.mg "sorted" = none) (hρ : ρ[i]? = some (.odT kvs) := by rfl) (hN : X.N[i]? = some x := by rfl)
    (hvis : Vis X.env.scope x := by first | exact Or.inl rfl | exact Or.inr (Or.inl rfl) | exact Or.inr (Or.inr rfl)) (hd : (x == ("__debug__" : Str)) = false := by decide) (hcd : (x == ("__classdict__" : Str)) = false := by decide) (hg : Gl X "sorted" := by rfl) (hs : starEach [.Name x p2] X.env = (false, eval (.Name x p2) X.env) :: starEach [] X.env := by rfl) :
    FO X C ρ (.Call (.Name "sorted" p) [.Name x p2] [] pos) (psortA (.dict kvs)) := by
  have pa : PA X [.Name x p2] (tCons (tVar i) tNil) := pa_cons (pe_var hN hvis hd hcd) pa_nil hs
  refine ⟨imE (pe_callB (cr_sortAny hc hu) hg hm boot_sorted pa (by decide) (by decide) hs rfl) fun σ H Q ⟨F, cs, ev, q, h⟩ => ?_⟩
  obtain ⟨l, es, e1, y2, y3, y4, y5, r⟩ := ev.sl i _ hρ
  obtain ⟨hok, h2⟩ := Res.chk (f := fun _ => pure (srtD (kvs.map (·.1)))) h
  rw [(rpT_pk r).keys] at hok
  exact ⟨.ref l, e1, l, rfl, .inr (.inr ⟨es, .inl y2, hok, kO.dT (Grow.refl ev.sub) q r h2⟩)⟩
/-! ### sorted(set(e)), len(set(e)) -/
def setD (d : PyData) : M (List Int ⊕ List (List Int)) := match d with
  | .list ds => match intsOf ds with
    | some ns => do chk (ns.length + 1 < scanBound); pure (.inl ns)
    | none => match rowsD ds with
      | some rs => do chk (rs.length < 64 ∧ rs ≠ [] ∧ [] ∉ rs); pure (.inr rs)
      | none => stuck
  | .tuple ds => match intsOf ds with
    | some ns => do chk (ns.length + 1 < scanBound); pure (.inl ns)
    | none => stuck
  | _ => stuck
def setSort : List Int ⊕ List (List Int) → List PyData
  | .inl ns => (srtI (nub ns)).map .int
  | .inr rs => (srtR (nub rs)).map eRow
def setLen : List Int ⊕ List (List Int) → PyData
  | .inl ns => .int ((nub ns).length : Nat)
  | .inr rs => .int ((nub rs).length : Nat)
theorem set_step {K : PySem.W.Frag} {mg : Str → Option Value} {F H : Hp} {v : V} {d : PyData} {cs : List PyData} {α : Type} {f : List Int ⊕ List (List Int) → M α} {k : α → List PyData → Hp → Hp → Prop} {P : Program} {w : World} {Q : VK} (s : Sub F H) (q : CupOk K C F H cs) (rv : Rp K F v d) (h : Res K mg C F H ((setD d >>= f) cs) k)
    (kI : ∀ ns c a, ns.length + 1 < scanBound → H a = none → Res K mg C F H (f (.inl ns) cs) k → Q (.ref a) (upd H a (SetO w a (fun j => decide (j ∈ ns)) c)))
    (kT : ∀ (ks : List (Addr × List Int)) L a, ks.map (·.2) ≠ [] → [] ∉ ks.map (·.2) → H a = none → (∀ p ∈ ks, F p.1 = some (.tup (p.2.map V.int))) → (∀ p ∈ L, p ∈ ks) → (∀ p ∈ ks, p.2 ∈ L.map (·.2)) → Res K mg C F H (f (.inr (ks.map (·.2))) cs) k → Q (.ref a) (upd H a (SetTO P w a L))) : rSetAny K P w [v] H Q := by
  cases rv with
  | @lst l xs ds fz r =>
    unfold setD at h
    dsimp only at h
    cases hi : intsOf ds with
    | some ns =>
      rw [hi] at h
      dsimp only at h
      rw [bind_assoc] at h
      obtain ⟨c, h2⟩ := Res.chk h
      rw [pure_bind] at h2
      have f' := fz.sq s
      rw [r.intsOf hi] at f'
      exact .inl ⟨l, ns, rfl, .inl f', c, fun a c' n => kI ns c' a c n h2⟩
    | none =>
      rw [hi] at h
      dsimp only at h
      cases hr : rowsD ds with
      | none => rw [hr] at h; exact h.elim
      | some rs =>
        rw [hr] at h
        dsimp only at h
        rw [bind_assoc] at h
        obtain ⟨c, h2⟩ := Res.chk h
        rw [pure_bind] at h2
        have e := rowsD_eq hr
        subst e
        obtain ⟨ks, e1, e2, e3⟩ := rps_rows r
        have f' := fz.sq s
        rw [e1] at f'
        subst e2
        rw [List.length_map] at c
        exact .inr ⟨l, ks, rfl, f', fun p hp => .inl (.inl (s _ _ (e3 p hp))), c.1, fun a L n h1 h3 => kT ks L a c.2.1 c.2.2 n e3 h1 h3 h2⟩
  | @tup l xs ds fz r =>
    unfold setD at h
    dsimp only at h
    cases hi : intsOf ds with
    | some ns =>
      rw [hi] at h
      dsimp only at h
      rw [bind_assoc] at h
      obtain ⟨c, h2⟩ := Res.chk h
      rw [pure_bind] at h2
      have f' := fz.sq s
      rw [r.intsOf hi] at f'
      exact .inl ⟨l, ns, rfl, .inr f', c, fun a c' n => kI ns c' a c n h2⟩
    | none => rw [hi] at h; exact h.elim
  | _ => exact h.elim
theorem scan_size {n : Nat} (h : n + 1 < scanBound) : n ≤ sizeLine := by unfold scanBound at h; rw [sizeLine_eq]; omega
theorem fo_sortSet {ps pp : Pos} (hc : X.calm = true) (hu : X.A.units + 200 < cLine) (hm : X.mg "sorted" = none) (hm2 : X.mg "set" = none) (ha : FE X C ρ a ma) (hg : Gl X "sorted" := by rfl) (hg2 : Gl X "set" := by rfl) (hs : starEach [a] X.env = (false, eval a X.env) :: starEach [] X.env := by rfl)
    (hs2 : starEach [.Call (.Name "set" ps) [a] [] pp] X.env = (false, eval (.Call (.Name "set" ps) [a] [] pp) X.env) :: starEach [] X.env := by rfl) :
    FO X C ρ (.Call (.Name "sorted" p) [.Call (.Name "set" ps) [a] [] pp] [] pos) (do let d ← ma; let r ← setD d; pure (setSort r)) := by
  have pa : PA X [a] (tCons (tM X.K X.mg C ρ ma) tNil) := pa_cons ha.pe pa_nil hs
  have pset := pe_callTy (pos := pp) (p := ps) (cr_setAny (X := X) hc (by omega)) hg2 hm2 (by decide +kernel) pa (by decide) (by decide) hs rfl
  refine ⟨imE (pe_callB (cr_sortS hc hu) hg hm boot_sorted (pa_cons pset pa_nil hs2) (by decide) (by decide) hs2 rfl) fun σ H Q h => ?_⟩
  obtain ⟨F, cs, ev, q, h⟩ := h
  refine ⟨F, cs, ev, q, (Res.bind h).mono fun d cs1 F1 H1 g1 q1 h1 v rv => ?_⟩
  refine set_step (Q := fun x H' => rSortS X.w X.prog X.K [x] H' Q) g1.sub q1 rv h1 (fun ns c a hb n h2 => ?_) fun ks L a hne hno n hks hL hL2 h2 => ?_
  · refine ⟨a, rfl, .inl ⟨ns, c, upd_same, scan_size hb, fun p np => ?_⟩⟩
    have gS : Grow C.c F1 H1 F1 (upd H1 a (SetO X.w a (fun j => decide (j ∈ ns)) c)) := Grow.fresh g1.sub n
    have g2 := g1.trans gS
    have q2 := q1.upd (o := SetO X.w a (fun j => decide (j ∈ ns)) c) (q1.ne n)
    exact h2 F1 _ (gS.trans (Grow.fresh g2.sub np)) (q2.upd (q2.ne np)) p _ (g2.free np) upd_same (g2.sub.fresh np) (q2.ne np) (Rps.ints _)
  · have gS : Grow C.c F1 H1 F1 (upd H1 a (SetTO X.prog X.w a L)) := Grow.fresh g1.sub n
    have g2 := g1.trans gS
    have q2 := q1.upd (o := SetTO X.prog X.w a L) (q1.ne n)
    have hmem : ∀ r, r ∈ L.map (·.2) ↔ r ∈ ks.map (·.2) := fun r => ⟨fun h => by
      obtain ⟨p, hp, rfl⟩ := List.mem_map.mp h
      exact List.mem_map.mpr ⟨p, hL p hp, rfl⟩, fun h => by
      obtain ⟨p, hp, rfl⟩ := List.mem_map.mp h
      exact hL2 p hp⟩
    refine ⟨a, rfl, .inr ⟨L, ks.map (·.2), upd_same, fun p hp => .inl (.inl (g2.sub _ _ (hks p (hL p hp)))), fun e => ?_, fun r hr e => ?_, hmem, fun ys p ey np => ?_⟩⟩
    · cases hk : ks.map (·.2) with
      | nil => exact hne hk
      | cons r rs =>
        have := (hmem r).mpr (by rw [hk]; simp)
        rw [e] at this
        cases this
    · subst e; exact hno ((hmem _).mp hr)
    · have ry : Rps X.K F1 ys ((srtR (nub (ks.map (·.2)))).map eRow) := rps_each (each_imp (fun x d ⟨q, hq, e1, e2⟩ => by subst e1 e2; exact rp_row (hks q (hL q hq))) ey)
      exact h2 F1 _ (gS.trans (Grow.fresh g2.sub np)) (q2.upd (q2.ne np)) p _ (g2.free np) upd_same (g2.sub.fresh np) (q2.ne np) ry
theorem fe_lenSet {ps pp : Pos} (hc : X.calm = true) (hu : X.A.units + 200 < cLine) (hm : X.mg "len" = none) (hm2 : X.mg "set" = none) (ha : FE X C ρ a ma) (hg : Gl X "len" := by rfl) (hg2 : Gl X "set" := by rfl) (hs : starEach [a] X.env = (false, eval a X.env) :: starEach [] X.env := by rfl)
    (hs2 : starEach [.Call (.Name "set" ps) [a] [] pp] X.env = (false, eval (.Call (.Name "set" ps) [a] [] pp) X.env) :: starEach [] X.env := by rfl) :
    FE X C ρ (.Call (.Name "len" p) [.Call (.Name "set" ps) [a] [] pp] [] pos) (do let d ← ma; let r ← setD d; pure (setLen r)) := by
  have pa : PA X [a] (tCons (tM X.K X.mg C ρ ma) tNil) := pa_cons ha.pe pa_nil hs
  have pset := pe_callTy (pos := pp) (p := ps) (cr_setAny (X := X) hc (by omega)) hg2 hm2 (by decide +kernel) pa (by decide) (by decide) hs rfl
  refine ⟨imE (pe_callB cr_lenS hg hm PySem.boot_len (pa_cons pset pa_nil hs2) (by decide) (by decide) hs2 rfl) fun σ H Q h => ?_⟩
  obtain ⟨F, cs, ev, q, h⟩ := h
  refine ⟨F, cs, ev, q, (Res.bind h).mono fun d cs1 F1 H1 g1 q1 h1 v rv => ?_⟩
  refine set_step (Q := fun x H' => rLenS X.w X.prog X.K [x] H' Q) g1.sub q1 rv h1 (fun ns c a hb n h2 => ?_) fun ks L a hne hno n hks hL hL2 h2 => ?_
  · have gS : Grow C.c F1 H1 F1 (upd H1 a (SetO X.w a (fun j => decide (j ∈ ns)) c)) := Grow.fresh g1.sub n
    exact ⟨a, rfl, .inl ⟨ns, c, upd_same, h2 F1 _ gS (q1.upd (q1.ne n)) _ (.int _)⟩⟩
  · have gS : Grow C.c F1 H1 F1 (upd H1 a (SetTO X.prog X.w a L)) := Grow.fresh g1.sub n
    refine ⟨a, rfl, .inr ⟨L, ks.map (·.2), upd_same, fun p hp => .inl (.inl (gS.sub _ _ (hks p (hL p hp)))), fun r => ⟨fun h => ?_, fun h => ?_⟩, h2 F1 _ gS (q1.upd (q1.ne n)) _ (.int _)⟩⟩
    · obtain ⟨p, hp, rfl⟩ := List.mem_map.mp h
      exact List.mem_map.mpr ⟨p, hL p hp, rfl⟩
    · obtain ⟨p, hp, rfl⟩ := List.mem_map.mp h
      exact hL2 p hp
end
end DL
end
section
set_option Elab.async false
set_option linter.all false
set_option maxRecDepth 100000
set_option maxHeartbeats 4000000
set_option autoImplicit false
namespace DL
open PySem PySem.Spec PyProof.Rows L2 RZ
/-! ### enumerate(t), t a tuple -/
theorem draws_tuple {prog : Program} {w : World} {A : Around} (hh : A.handled = none) (it l : Addr) (hne : l ≠ it) (items : Array Value) :
    Draws prog w A it [it, l] items.size (fun i v => items[i]? = some v) (fun i h => h.IsTupleIter it l i ∧ h.IsTuple l items) where
  live := fun _ _ st => let ⟨o, ho, _⟩ := st.1; ⟨o, ho⟩
  frame := fun _ _ _ st hk => ⟨st.1.at fun o e => hk it (by simp) o e, st.2.at fun o e => hk l (by simp) o e⟩
  item := fun i s Q E hi st hQ => nextOf_tuple_item st.1 st.2 (x := items[i]) (by simp [hi]) fun h' hit' hs' => hQ _ h' s.toks (by simp [hi]) ⟨hit', st.2.extBut hs'.extBut hne⟩ hs'
  done := fun s Q E st hE => nextOf_tuple_end hh st.1 st.2 (by simp) hE
set_option maxHeartbeats 1000000 in
theorem enum_new_of {v : Value} {o : Obj} {H : Heap → Prop} (B : Begins v o H) :
    Meets (Builtin.«enumerate.__new__» ⟨[.type "enumerate", v], []⟩) (fun _ R s => H s.heap ∧
      R (.ok (.ret (.ref (s.heap.push o).objs.size))) { s with heap := (s.heap.push o).push { cls := .type "enumerate", data := .fields #[.none, .bool false, .ref s.heap.objs.size, rawInt 0, .none, .none] } }) :=
  .of_wp fun prog w A R s h => by
    obtain ⟨hp, gs, dr, tk, os⟩ := s; obtain ⟨h1, h⟩ := h
    have subE := sub_enumerate
    have itB : ∀ {A' : Around} {E : Value → Shared → Prop} {Q : Value → Shared → Prop}, Q (.ref hp.objs.size) ⟨hp.push o, gs, dr, tk, os⟩ → wpAny (model prog w) A' (pyIter v) Q E ⟨hp, gs, dr, tk, os⟩ :=
      fun q => B.iter prog w _ _ ⟨hp, gs, dr, tk, os⟩ _ h1 q
    wp_walk using itB
    refine wpAny_stack_any fun st => wpAny_pure ?_
    split
    · rename_i c _ _ _ _ _
      cases (c == Value.type "enumerate") <;> (wp_walk using itB; exact ⟨_, rfl, h⟩)
    · wp_walk using itB
      exact ⟨_, rfl, h⟩
end DL
end
section
set_option Elab.async false
set_option linter.all false
set_option maxRecDepth 100000
set_option maxHeartbeats 4000000
set_option autoImplicit false
namespace DL
open PySem PySem.Spec PyProof.Rows L2 RZ
section
variable {prog : Program} {w : World} {A : Around} {E : Value → Shared → Prop} {s : Shared}
theorem call_enum_tup {l : Addr} {items : Array Value} {Q : Value → Shared → Prop} (hL : s.heap.IsTuple l items)
    (h : ∀ h', IsEnum h' (s.heap.objs.size + 1) s.heap.objs.size 0 .none → h'.IsTupleIter s.heap.objs.size l 0 → (∀ b o, s.heap.get? b = some o → h'.get? b = some o) → Q (.ref (s.heap.objs.size + 1)) { s with heap := h' }) :
    wpAny (model prog w) A (call (.type "enumerate") [.ref l]) Q E s := by
  refine callType_new F.called_enumerate (by decide) (F.typeCall_enumerate_1 _) (F.newCall_enumerate_1 _) (fun obj => F.args_object_init_2 obj _) F.entry_enumerate_new (enum_new_of (begins_tuple l items)) ⟨hL, ?_⟩
  have hz : (s.heap.push { cls := .type "tuple_iterator", data := .fields #[.ref l, .int 0 0] }).objs.size = s.heap.objs.size + 1 := Heap.size_push ..
  show _ ∧ _
  rw [hz]
  have he : IsEnum ((s.heap.push { cls := .type "tuple_iterator", data := .fields #[.ref l, .int 0 0] }).push
      { cls := .type "enumerate", data := .fields #[.none, .bool false, .ref s.heap.objs.size, rawInt 0, .none, .none] }) (s.heap.objs.size + 1) s.heap.objs.size 0 .none := by
    have z := Heap.get?_push_size (s.heap.push { cls := .type "tuple_iterator", data := .fields #[.ref l, .int 0 0] })
      (o := { cls := .type "enumerate", data := .fields #[.none, .bool false, .ref s.heap.objs.size, rawInt 0, .none, .none] }) rfl
    rw [hz] at z; exact z
  exact ⟨⟨_, he, rfl⟩, h _ he ⟨_, Heap.get?_push_of_some _ (Heap.get?_push_size _ rfl), rfl, rfl⟩ fun b o x => Heap.get?_push_of_some _ (Heap.get?_push_of_some _ x)⟩
end
/-- the tuple at a as it stands at each turn, each item in a new pair -/
def IteT (K : PySem.W.Frag) (a : Addr) : It :=
  ⟨fun i H => ∃ (xs : List V) (x : V), SqT K H a xs ∧ xs[i]? = some x, fun i H v H' => ∃ T x, v = .ref T ∧ H T = none ∧ H' = upd H T (.tup [.int (i : Nat), x]) ∧ ∀ xs, SqT K H a xs → xs[i]? = some x, fun i H => ∃ xs : List V, SqT K H a xs ∧ xs.length ≤ i⟩
theorem turn_enumT {P : Program} {w : World} {K : PySem.W.Frag} {elts : List Expr} {kk : Nat} {tpos : Pos} (a e it : Addr) (hai : a ≠ it) (hae : a ≠ e) :
    Turn P w K (.Tuple elts kk tpos) (IteT K a) [e, it] e (fun i h => (∃ old, IsEnum h e it ((i : Nat) : Int) old) ∧ h.IsTupleIter it a i ∧ e ≠ it) where
  mem := by simp
  obj := fun i h st b hb => by
    obtain ⟨⟨old, he⟩, ⟨o, ho, hc, hd⟩, _⟩ := st
    rcases (show b = e ∨ b = it by simpa using hb) with z | z
    · rw [z]; exact ⟨_, he, fun v q => nomatch q⟩
    · rw [z]; exact ⟨o, ho, fun v q => by rw [hd] at q; cases q⟩
  keep := fun i h h' st k => let ⟨⟨old, he⟩, hi, hne⟩ := st; ⟨⟨old, k e (by simp) _ he⟩, hi.at fun o q => k it (by simp) o q, hne⟩
  item := by
    intro X hP hw hK hc i pins s σ H E I hf st hg
    subst hP hw hK
    obtain ⟨⟨old, he⟩, hit, hne⟩ := st
    obtain ⟨xs, x, hq, hx⟩ := hg
    obtain ⟨its, rv, p, hz⟩ := I.tuple hq
    obtain ⟨u, hu, ru⟩ := rv.get hx
    have hel : e < s.heap.objs.size := Heap.lt_size he
    have hil : it < s.heap.objs.size := by obtain ⟨_, q, _⟩ := hit; exact Heap.lt_size q
    have hlt : i < its.toArray.size := by have := (List.getElem?_eq_some_iff.mp hu).1; rw [List.size_toArray]; exact this
    refine wpAny_pyNext_enum_itemD (draws_tuple (prog := X.prog) (w := X.w) (A := X.A.in1) (I.ok.hd hc) it a hai its.toArray) he ⟨hit, p⟩ hlt hne (by intro z; rcases List.mem_cons.mp z with z | z; exact hne z; exact hae (by rw [List.mem_singleton] at z; exact z.symm)) fun x' h' tk hPx ho hit' hT hsz hk => ?_
    have ex : x' = u := by
      have h1 : its[i]? = some x' := by simpa using hPx
      rw [hu] at h1; exact (Option.some.inj h1).symm
    subst ex
    refine ⟨_, rfl, wpAny_letOwnedTupleGo_enum (s := { s with heap := h', toks := tk + 1 }) ho fun h'' he' sb => ?_⟩
    have hT2 : h''.get? s.heap.objs.size = some { cls := .type "tuple", data := .seq #[.int i tk, x'] } := (sb.2 _ (Nat.ne_of_gt hel)).trans hT
    have new : ObjOk X.prog X.w (upd H s.heap.objs.size (.tup [.int (i : Nat), x])) h'' s.heap.objs.size (.tup [.int (i : Nat), x]) :=
      ⟨by show 2 ≤ sizeLine; decide, [.int i tk, x'], .cons ⟨_, rfl⟩ (.cons ru .nil), ⟨_, hT2, rfl, _, rfl⟩⟩
    have I1 : Inv X pins σ (upd H s.heap.objs.size (.tup [.int (i : Nat), x])) { s with heap := h'', toks := tk + 1 } :=
      I.turnedNew (ch := [e, it]) (fun b ob hb q => (sb.2 b (fun z => hb (by simp [z]))).trans (hk b ob (fun z => hb (by simp [z])) (fun z => hb (by simp [z])) q)) hf (Nat.le_refl _) new
    refine ⟨.ref s.heap.objs.size, _, I1, rfl, ⟨_, x, rfl, I.hok.fresh (Nat.le_refl _), rfl, fun ys hy => by rw [I.tuple_inj hy hq]; exact hx⟩, ⟨⟨x', ?_⟩, hit'.1.at fun o q => (sb.2 it (Ne.symm hne)).trans q, hne⟩, fun b hb => ?_⟩
    · have e1 : ((i + 1 : Nat) : Int) = (i : Int) + 1 := by omega
      rw [e1]; exact he'
    · have hb' : b < s.heap.objs.size := by
        rcases (show b = e ∨ b = it by simpa using hb) with z | z
        · rw [z]; exact hel
        · rw [z]; exact hil
      rw [upd_ne (Nat.ne_of_lt hb')]
      exact (hf b hb).1
  done := by
    intro X hP hw hK hc i pins s σ H E I hf st hg
    subst hP hw hK
    obtain ⟨⟨old, he⟩, hit, hne⟩ := st
    obtain ⟨xs, hq, hx⟩ := hg
    obtain ⟨its, rv, p, hz⟩ := I.tuple hq
    obtain ⟨f0, f1, f2, f3, f4, f5⟩ := hf it (by simp)
    have hl := rv.length
    have hT : s.TypeIs (.ref e) "enumerate" := ⟨_, he, rfl⟩
    have fin : wpAny (model X.prog X.w) X.A.in1 (Builtin.SmallTypes.nextOf (.ref it)) (fun _ _ => False) (fun x s1 => (∃ o, s1.heap.get? (match x with | .ref b => b | _ => 0) = some o ∧ o.cls = .type "StopIteration") ∧ (∃ b, x = .ref b) ∧ ∃ h', s1 = { s with heap := h' } ∧ Heap.ExtBut it s.heap h') s :=
      nextOf_tuple_end (I.ok.hd hc) hit p (by simp; omega) fun h' b eb ho => ⟨ho, ⟨b, rfl⟩, h', rfl, eb⟩
    unfold pyNext
    refine wpAny_bind (wpAny_attempt (wpAny_callSpecial?_slot (name := Str.ofString "__next__") hT F.slot_enumerate_next (wpAny_call_entry F.slot_enumerate_next hT F.entry_enumerate_next ?_ (F.args_enumerate_next_1 _))))
    show wpAny _ _ (field (.ref e) 2 >>= _) _ _ _
    refine wpAny_bind (wpAny_field he rfl (x := .ref it) rfl ?_)
    refine wpAny_bind (wpAny_mono fin (fun _ _ q => q.elim) fun x s1 q => ?_)
    obtain ⟨⟨o, ho, hcl⟩, ⟨b, rfl⟩, h', rfl, eb⟩ := q
    refine wpAny_bind (wpAny_isInstance (T := "StopIteration") (b := true) ⟨o, ho, hcl⟩ isSubtype_stop ?_)
    exact wpAny_pure ⟨rfl, I.turned (t' := s.toks) (fun b o hb q => eb b o hb q) f0 f1 f3 f4 f5⟩
  self := fun A i s Q E st h => let ⟨⟨_, he⟩, _⟩ := st; wpAny_pyIter_enum he h
def iEnumA (K : PySem.W.Frag) (ta : TA) : TI := fun σ H R => ta σ H fun vs H1 => ∃ a xs, vs = [.ref a] ∧ ((SqL K H1 a xs ∧ R (Ite K a) H1) ∨ SqT K H1 a xs ∧ R (IteT K a) H1)
theorem pi_enumA {X : Cx} {e : Expr} {ta : TA} {p pos tpos : Pos} {elts : List Expr} {kk : Nat} (hg : Gl X "enumerate") (hm : X.mg "enumerate" = none) (ha : PA X [e] ta) (hs : starEach [e] X.env = [(false, eval e X.env)] := by rfl) :
    PI X (.Tuple elts kk tpos) (.Call (.Name "enumerate" p) [e] [] pos) (iEnumA X.K ta) := by
  refine ⟨fun pins s σ H R I h => ?_⟩
  refine Call_ (ld_blt I hg hm boot_enumerate (PyProof.Rows.callWith_type1 (thn (ha.run pos pins s σ H _ I h) fun us s1 ⟨vs, H1, I1, r1, q1⟩ => ?_) hs rfl))
  obtain ⟨a, xs, ex, q⟩ := q1
  subst ex
  obtain ⟨u, rfl, ru⟩ := vals1 r1
  obtain rfl : u = .ref a := ru
  have fpok : ∀ b ∈ [s1.heap.objs.size + 1, s1.heap.objs.size], FpOk X pins H1 b := fun b hb => by
    have hle : s1.heap.objs.size ≤ b := by
      rcases (show b = s1.heap.objs.size + 1 ∨ b = s1.heap.objs.size by simpa using hb) with z | z
      · rw [z]; exact Nat.le_succ _
      · rw [z]; exact Nat.le_refl _
    exact I1.fpOk hle (I1.hok.fresh hle)
  rcases q with ⟨hq, q⟩ | ⟨hq, q⟩
  · obtain ⟨its, rv, p', hz⟩ := I1.list hq
    refine call_enumerate_list p'.isList fun h' he hit hsz hk => wpAny_pyIter_enum he ?_
    exact ⟨s1.heap.objs.size + 1, [s1.heap.objs.size + 1, s1.heap.objs.size], _, _, H1, rfl, I1.kept (t' := s1.toks) hk, turn_enum a (s1.heap.objs.size + 1) s1.heap.objs.size, ⟨⟨.none, he⟩, hit, Nat.succ_ne_self _⟩, fpok, q⟩
  · obtain ⟨its, rv, p', hz⟩ := I1.tuple hq
    have hlt : a < s1.heap.objs.size := let ⟨_, z, _⟩ := p'; Heap.lt_size z
    refine call_enum_tup (show s1.heap.IsTuple a its.toArray from p') fun h' he hit hk => wpAny_pyIter_enum he ?_
    exact ⟨s1.heap.objs.size + 1, [s1.heap.objs.size + 1, s1.heap.objs.size], _, _, H1, rfl, I1.kept (t' := s1.toks) hk, turn_enumT a (s1.heap.objs.size + 1) s1.heap.objs.size (Nat.ne_of_lt hlt) (Nat.ne_of_lt (Nat.lt_succ_of_lt hlt)), ⟨⟨.none, he⟩, hit, Nat.succ_ne_self _⟩, fpok, q⟩
def enumD (ds : List PyData) : List PyData := (List.range ds.length).zipWith (fun i d => .tuple [.int (i : Nat), d]) ds
theorem enumD_length (ds : List PyData) : (enumD ds).length = ds.length := by simp [enumD]
theorem enumD_get {ds : List PyData} {i : Nat} {x : PyData} (h : (enumD ds)[i]? = some x) : ∃ d, ds[i]? = some d ∧ x = .tuple [.int (i : Nat), d] := by
  have hi : i < ds.length := by rw [← enumD_length]; exact (List.getElem?_eq_some_iff.mp h).1
  unfold enumD at h
  rw [List.getElem?_zipWith, List.getElem?_range hi, List.getElem?_eq_getElem hi] at h
  exact ⟨ds[i], List.getElem?_eq_getElem hi, by simpa using h.symm⟩
theorem ItOk.enumL {K : PySem.W.Frag} {F : Hp} {a : Addr} {xs : List V} {ds : List PyData} (f : FzL K F a xs) (r : Rps K F xs ds) : ItOk K (Ite K a) F (enumD ds) := by
  intro i F1 H1 l s
  have q := (f.mono l).sq s
  refine ⟨fun h => ⟨xs, q, by rw [enumD_length] at h; rw [r.length]; exact h⟩, fun x e => ?_⟩
  obtain ⟨d, ed, rfl⟩ := enumD_get e
  obtain ⟨v, e1, rv⟩ := r.get ed
  refine ⟨⟨xs, v, q, e1⟩, fun x H2 yy => ?_⟩
  obtain ⟨T, x', rfl, nT, rfl, h1⟩ := yy
  have z1 := h1 xs q
  rw [e1] at z1; cases z1
  exact ⟨upd F1 T (.tup [.int (i : Nat), v]), fun c => Grow.alloc s nT RdO.tup, .tup upd_same (.cons (.int _) (.cons (rv.mono (l.trans (Le.fz (s.fresh nT)))) .nil))⟩
theorem ItOk.enumT {K : PySem.W.Frag} {F : Hp} {a : Addr} {xs : List V} {ds : List PyData} (f : FzT K F a xs) (r : Rps K F xs ds) : ItOk K (IteT K a) F (enumD ds) := by
  intro i F1 H1 l s
  have q := (f.mono l).sq s
  refine ⟨fun h => ⟨xs, q, by rw [enumD_length] at h; rw [r.length]; exact h⟩, fun x e => ?_⟩
  obtain ⟨d, ed, rfl⟩ := enumD_get e
  obtain ⟨v, e1, rv⟩ := r.get ed
  refine ⟨⟨xs, v, q, e1⟩, fun x H2 yy => ?_⟩
  obtain ⟨T, x', rfl, nT, rfl, h1⟩ := yy
  have z1 := h1 xs q
  rw [e1] at z1; cases z1
  exact ⟨upd F1 T (.tup [.int (i : Nat), v]), fun c => Grow.alloc s nT RdO.tup, .tup upd_same (.cons (.int _) (.cons (rv.mono (l.trans (Le.fz (s.fresh nT)))) .nil))⟩
def penum : PyData → M (List PyData)
  | .list ds => do chk (ds.length ≤ sizeLine); pure (enumD ds)
  | .tuple ds => do chk (ds.length ≤ sizeLine); pure (enumD ds)
  | _ => stuck
section
variable {X : Cx} {C : Ct} {ρ : List Sl} {a : Expr} {ma : M PyData} {pos p tpos : Pos}
theorem fi_enum {elts : List Expr} {kk : Nat} (hm : X.mg "enumerate" = none) (ha : FE X C ρ a ma) (hg : Gl X "enumerate" := by rfl) (hs : starEach [a] X.env = [(false, eval a X.env)] := by rfl) :
    FI X C ρ (.Tuple elts kk tpos) (.Call (.Name "enumerate" p) [a] [] pos) (do let x ← ma; penum x) := by
  have pa : PA X [a] (tCons (tM X.K X.mg C ρ ma) tNil) := pa_cons ha.pe pa_nil hs
  refine ⟨imI (pi_enumA hg hm pa hs) fun σ H R ⟨F, cs, ev, q, h⟩ => ?_⟩
  refine ⟨F, cs, ev, q, (Res.bind h).mono fun dx cs1 F1 H1 g1 q1 h1 v rv => ?_⟩
  cases rv with
  | @lst l xs ds f r =>
    obtain ⟨hz, h3⟩ := Res.chk h1
    exact ⟨l, xs, rfl, .inl ⟨f.sq g1.sub, Res.pure (mg := X.mg) h3 g1.sub q1 _ (.enumL f r) (by rw [enumD_length]; exact hz)⟩⟩
  | @tup l xs ds f r =>
    obtain ⟨hz, h3⟩ := Res.chk h1
    exact ⟨l, xs, rfl, .inr ⟨f.sq g1.sub, Res.pure (mg := X.mg) h3 g1.sub q1 _ (.enumT f r) (by rw [enumD_length]; exact hz)⟩⟩
  | _ => exact h1.elim
end
end DL
end
section
set_option Elab.async false
set_option linter.all false
set_option maxRecDepth 100000
set_option maxHeartbeats 4000000
set_option autoImplicit false
namespace DL
open PySem PySem.Spec PyProof.Rows L2 RZ
section
variable {X : Cx} {C : Ct} {ρ : List Sl} {a b : Expr} {ma mb : M PyData} {pos p tpos : Pos}
/-- tuple(range(n)) -/
theorem fe_tupRg {p2 pos2 : Pos} (hc : X.calm = true) (hl : X.mg "tuple" = none) (hm : X.mg "range" = none) (ha : FE X C ρ a ma) (hg : Gl X "tuple" := by rfl) (hg2 : Gl X "range" := by rfl)
    (na : starEach [a] X.env = (false, eval a X.env) :: starEach [] X.env := by rfl) (na2 : starEach [.Call (.Name "range" p) [a] [] pos] X.env = (false, eval (.Call (.Name "range" p) [a] [] pos) X.env) :: starEach [] X.env := by rfl) :
    FE X C ρ (.Call (.Name "tuple" p2) [.Call (.Name "range" p) [a] [] pos] [] pos2) (do let d ← ma; let n ← asI d; chk (0 ≤ n ∧ n ≤ 16777216); pure (.tuple (rangeD 0 n))) := by
  refine ⟨imE (pe_tupRg hc hg hl (prg_1 hg2 hm ha.pe na) na2) fun σ H Q h => ?_⟩
  obtain ⟨F, cs, ev, q, h⟩ := h
  refine ⟨F, cs, ev, q, (Res.bind h).mono fun d cs1 F1 H1 g1 q1 h1 v rv => ?_⟩
  cases rv with
  | int n =>
    have h2 : Res X.K X.mg C F1 H1 ((do chk (0 ≤ n ∧ n ≤ 16777216); pure (.tuple (rangeD 0 n)) : M PyData) cs1) (kE X.K Q) := h1
    obtain ⟨hz, h3⟩ := Res.chk h2
    exact ⟨n, rfl, RgOk.of_le (by decide) hz.2 (by decide) hz.1, kE.tup h3 g1.sub q1 (rgV_rp 0 n)⟩
  | _ => exact h1.elim
end
end DL
end
section
set_option Elab.async false
set_option linter.all false
set_option maxRecDepth 100000
set_option maxHeartbeats 4000000
set_option autoImplicit false
namespace DL
open PySem PySem.Spec PyProof.Rows L2 RZ PySem.W
/-! ### d.items(), the keys tuples -/
def ItiT (d : Addr) (o : Obj) (kvs : List (List Key × V)) : It :=
  ⟨fun i H => H d = some (.frz o (.dT kvs)) ∧ i < kvs.length, fun i H x H' => ∃ T k v q, kvs[i]? = some (k, v) ∧ x = .ref T ∧ H q = some (.tup (k.map L2.kV)) ∧ H T = none ∧ H' = upd H T (.tup [.ref q, v]), fun i H => H d = some (.frz o (.dT kvs)) ∧ kvs.length ≤ i⟩
section
variable {X : Cx} {pins : List (Addr × Obj)} {σ : L2.St} {H : Hp} {s : Shared} {d : Addr} {o : Obj}
theorem frzT2 {kvs : List (List Key × V)} (I : Inv X pins σ H s) (h : H d = some (.frz o (.dT kvs))) :
    (d == sysModules) = false ∧ s.heap.get? d = some o ∧ o.ExactDict ∧ ∃ (es : Array DictEntry) (ep : Nat), o.data = .dict es ep ∧ es.size = kvs.length ∧
      ∀ (i : Nat) (k : List Key) (v : V), kvs[i]? = some (k, v) → ∃ (en : DictEntry) (q : Addr), es[i]? = some en ∧ en.key = .ref q ∧ H q = some (.tup (k.map L2.kV)) ∧ RelV v en.val := by
  obtain ⟨hd, z, hs, xs, pr, o', es, ep, ho, hx, hdt, he, _⟩ := I.hok d _ h
  rw [hd] at ho
  cases ho
  refine ⟨hs, hd, hx, es, ep, hdt, ?_, fun i k v e => ?_⟩
  · have l1 : es.size = xs.length := size_of_entries he
    have l2 : kvs.length = xs.length := Paired.length pr
    omega
  · obtain ⟨b, hb, e1, e2, e3⟩ := paired_get pr e
    have q := entry_at he i
    rw [hb] at q
    exact ⟨_, b.2.1, q, rfl, e2, e3⟩
end
section
variable {P : Program} {w : World} {K : PySem.W.Frag} {d : Addr} {o : Obj} {es : Array DictEntry} {ep : Nat}
theorem turn_itemsT {kvs : List (List Key × V)} {elts : List Expr} {kk : Nat} {tpos : Pos} (it : Addr) (hod : o.data = .dict es ep) :
    Turn P w K (.Tuple elts kk tpos) (ItiT d o kvs) [it] it (fun i h => ∃ ok ov, IsItemIter h it d i kvs.length ep ok ov) where
  mem := by simp
  obj := fun i h st b hb => by
    have e : b = it := by simpa using hb
    subst e
    obtain ⟨ok, ov, e⟩ := st
    exact ⟨_, e, fun v z => nomatch z⟩
  keep := fun i h h' st k => let ⟨ok, ov, e⟩ := st; ⟨ok, ov, k it (by simp) _ e⟩
  item := by
    intro X hP hw hK hc i pins s σ H E I hf st hg
    subst hP hw hK
    obtain ⟨hd, hi⟩ := hg
    obtain ⟨hs, hgd, hx, es', ep', hdt, hsz, ent⟩ := frzT2 I hd
    obtain ⟨rfl, rfl⟩ := dict_ep hod hdt
    obtain ⟨⟨k, v⟩, hkv⟩ : ∃ p, kvs[i]? = some p := ⟨kvs[i], List.getElem?_eq_getElem hi⟩
    obtain ⟨en, q, hen, hkey, hq, hval⟩ := ent i k v hkv
    obtain ⟨ok, ov, he⟩ := st
    rw [← hsz] at he
    have hi' : i < es'.size := by omega
    have een : es'[i] = en := by rw [Array.getElem?_eq_getElem hi'] at hen; exact Option.some.inj hen
    have hlt : it < s.heap.objs.size := Heap.lt_size he
    refine DT.nextI he ⟨o, hgd, hx, hod⟩ hi' fun h' ho hT hz hk => ?_
    rw [een] at ho hT
    refine ⟨_, rfl, wpAny_letOwnedTupleGo_items (s := { s with heap := h' }) ho fun h'' he' sb => ?_⟩
    have hT2 : h''.get? s.heap.objs.size = some { cls := .type "tuple", data := .seq #[en.key, en.val] } := (sb.2 _ (Nat.ne_of_gt hlt)).trans hT
    have new : ObjOk X.prog X.w (upd H s.heap.objs.size (.tup [.ref q, v])) h'' s.heap.objs.size (.tup [.ref q, v]) :=
      ⟨by show 2 ≤ sizeLine; decide, [en.key, en.val], .cons (show RelV (.ref q) en.key from hkey) (.cons hval .nil), ⟨_, hT2, rfl, _, rfl⟩⟩
    have I1 : Inv X pins σ (upd H s.heap.objs.size (.tup [.ref q, v])) { s with heap := h'' } :=
      I.turnedNew (t' := s.toks) (ch := [it]) (fun b ob hb e => (sb.2 b (by simpa using hb)).trans (hk b ob (by simpa using hb) e)) hf (Nat.le_refl _) new
    refine ⟨.ref s.heap.objs.size, _, I1, rfl, ⟨_, k, v, q, hkv, rfl, hq, I.hok.fresh (Nat.le_refl _), rfl⟩, ⟨en.key, en.val, ?_⟩, fun b hb => ?_⟩
    · rw [← hsz]; exact he'
    · have e : b = it := by simpa using hb
      rw [e, upd_ne (Nat.ne_of_lt hlt)]
      exact (hf it (by simp)).1
  done := by
    intro X hP hw hK hc i pins s σ H E I hf st hg
    subst hP hw hK
    obtain ⟨hd, hi⟩ := hg
    obtain ⟨f0, f1, f2, f3, f4, f5⟩ := hf it (by simp)
    obtain ⟨hs, hgd, hx, es', ep', hdt, hsz, ent⟩ := frzT2 I hd
    obtain ⟨rfl, rfl⟩ := dict_ep hod hdt
    obtain ⟨ok, ov, he⟩ := st
    rw [← hsz] at he
    exact DT.endI (I.ok.hd hc) he ⟨o, hgd, hx, hod⟩ (by omega) fun h' eb => ⟨rfl, I.turned (t' := s.toks) (fun b ob hb e => eb b ob hb e) f0 f1 f3 f4 f5⟩
  self := fun A i s Q E st h => let ⟨_, _, e⟩ := st; PySem.W.kcp_self e h
end
def iItemsA (td : TE) : TI := fun σ H R => td σ H fun x H1 => ∃ d o, x = .ref d ∧ ((∃ kvs, H1 d = some (.frz o (.dK kvs)) ∧ (kvs.length ≤ sizeLine → R (Iti d o kvs) H1)) ∨ ∃ kvs, H1 d = some (.frz o (.dT kvs)) ∧ (kvs.length ≤ sizeLine → R (ItiT d o kvs) H1))
theorem pi_itemsA {X : Cx} {e : Expr} {td : TE} {apos cpos : Pos} {elts : List Expr} {kk : Nat} {tpos : Pos} (he : PE X e td) (hbase : attributeBase e "items" X.env (eval e X.env) = eval e X.env := by rfl) (hline : (apos.endLine == cpos.line) = true := by rfl) :
    PI X (.Tuple elts kk tpos) (.Call (.Attribute e "items" apos) [] [] cpos) (iItemsA td) := by
  refine ⟨fun pins s σ H R I h => ?_⟩
  refine wpAny_Call_method (T := "dict") (id := "dict.items") hbase rfl hline PySem.F.plainAttrs_dict PySem.F.slot_dict_items PySem.F.type_dict_items (thn (he.run pins s σ H _ I h) fun u s1 ⟨x, H1, I1, rx, d, o, ex, q⟩ => ?_)
  subst ex
  obtain rfl : u = Value.ref d := rx
  rcases q with ⟨kvs, hd, q⟩ | ⟨kvs, hd, q⟩
  · have hz : kvs.length ≤ sizeLine := (dk_rd I1.hok (.inr ⟨o, hd⟩)).1
    obtain ⟨hs, hgd, hx, es, ep, vs, hdt, hsz, kv, hm⟩ := I1.frzK hd
    have hl : kvs.length = vs.length := Paired.length kv
    refine ⟨hm.dictOf.typeIs, hm.dictOf.mapOf.noDict, ?_⟩
    have I2 : Inv X pins σ H1 { s1 with heap := s1.heap.push { cls := .type "dict_items", data := .fields #[.ref d] } } := I1.kept (t' := s1.toks) fun b ob q => Heap.get?_push_of_some _ q
    have fin : wpAny (model X.prog X.w) X.A (pyIter (.ref s1.heap.objs.size)) (PIE X pins σ (.Tuple elts kk tpos) R) X.xe { s1 with heap := s1.heap.push { cls := .type "dict_items", data := .fields #[.ref d] } } := by
      refine wpAny_pyIter_items (d := d) (knd := mixKind X.prog X.w) ⟨_, Heap.get?_push_size _ rfl, rfl, rfl⟩ (hm.push _) (pi_one (tk := s1.toks) I2 _ (turn_items _ hdt) ⟨.none, .none, ?_⟩ (q hz))
      rw [hl]
      exact Heap.get?_push_size _ rfl
    show wpAny _ _ (callWith cpos (.builtin "dict.items") [.ref d] [] []) _ X.xe s1
    exact method_meetsIn PySem.F.slot_dict_items PySem.F.entry_dict_items rfl (PySem.evalArgs_none ⟨rfl, hm.dictOf.typeIs, PySem.F.args_dict_items_1 _, _, meets_dict_items (mixKind X.prog X.w) d hs, ⟨vs, hm.dictOf⟩, fin⟩)
  · have hz : kvs.length ≤ sizeLine := (dt_rd I1.hok (.inr ⟨o, hd⟩)).1
    obtain ⟨hs, hgd, hx, es, ep, hdt, hsz, ent⟩ := frzT2 I1 hd
    have raw : DT.Raw s1.heap d es ep := ⟨o, hgd, hx, hdt⟩
    refine ⟨raw.typeIs, ?_, ?_⟩
    · intro a e; cases e; exact ⟨o, hgd, hx.2.1⟩
    have I2 : Inv X pins σ H1 { s1 with heap := s1.heap.push { cls := .type "dict_items", data := .fields #[.ref d] } } := I1.kept (t' := s1.toks) fun b ob q => Heap.get?_push_of_some _ q
    have fin : wpAny (model X.prog X.w) X.A (pyIter (.ref s1.heap.objs.size)) (PIE X pins σ (.Tuple elts kk tpos) R) X.xe { s1 with heap := s1.heap.push { cls := .type "dict_items", data := .fields #[.ref d] } } := by
      refine DT.iterI (s := { s1 with heap := s1.heap.push { cls := .type "dict_items", data := .fields #[.ref d] } }) (d := d) ⟨_, Heap.get?_push_size _ rfl, rfl, rfl⟩ (raw.push _) (pi_one (tk := s1.toks) I2 _ (turn_itemsT _ hdt) ⟨.none, .none, ?_⟩ (q hz))
      rw [← hsz]
      exact Heap.get?_push_size _ rfl
    show wpAny _ _ (callWith cpos (.builtin "dict.items") [.ref d] [] []) _ X.xe s1
    exact method_meetsIn PySem.F.slot_dict_items PySem.F.entry_dict_items rfl (PySem.evalArgs_none ⟨rfl, raw.typeIs, PySem.F.args_dict_items_1 _, _, DT.meetsItems (es := es) (ep := ep) hs, ⟨raw, fin⟩⟩)
theorem ItOk.itemsK {K : PySem.W.Frag} {F : Hp} {d : Addr} {o : Obj} {es : List (Key × V)} {kvs : List (PyData × PyData)} (hF : F d = some (.frz o (.dK es))) (r : RpK K F es kvs) : ItOk K (Iti d o es) F (kvs.map fun p => .tuple [p.1, p.2]) := by
  intro i F1 H1 l s
  have hd := s _ _ (l _ _ hF)
  have pk := rpK_pk r
  refine ⟨fun h => ⟨hd, by rw [List.length_map] at h; rw [pk.length]; exact h⟩, fun x e => ?_⟩
  rw [List.getElem?_map, Option.map_eq_some_iff] at e
  obtain ⟨p, e, rfl⟩ := e
  obtain ⟨k, v, e1, e2, e3⟩ := pk.at e
  refine ⟨⟨hd, (List.getElem?_eq_some_iff.mp e1).1⟩, fun x H2 y => ?_⟩
  obtain ⟨T, k', v', e4, rfl, nT, rfl⟩ := y
  rw [e1] at e4; cases e4
  exact ⟨upd F1 T (.tup [L2.kV k, v]), fun c => Grow.alloc s nT RdO.tup, .tup upd_same (.cons (e2 ▸ rp_kV k) (.cons (e3.mono (l.trans (Le.fz (s.fresh nT)))) .nil))⟩
theorem ItOk.itemsT {K : PySem.W.Frag} {F : Hp} {d : Addr} {o : Obj} {es : List (List Key × V)} {kvs : List (PyData × PyData)} (hF : F d = some (.frz o (.dT es))) (r : RpT K F es kvs) : ItOk K (ItiT d o es) F (kvs.map fun p => .tuple [p.1, p.2]) := by
  intro i F1 H1 l s
  have hd := s _ _ (l _ _ hF)
  have pk := rpT_pk r
  refine ⟨fun h => ⟨hd, by rw [List.length_map] at h; rw [pk.length]; exact h⟩, fun x e => ?_⟩
  rw [List.getElem?_map, Option.map_eq_some_iff] at e
  obtain ⟨p, e, rfl⟩ := e
  obtain ⟨k, v, e1, e2, e3⟩ := pk.at e
  refine ⟨⟨hd, (List.getElem?_eq_some_iff.mp e1).1⟩, fun x H2 y => ?_⟩
  obtain ⟨T, k', v', q, e4, rfl, hq, nT, rfl⟩ := y
  rw [e1] at e4; cases e4
  have g1 : ∀ c, Grow c F1 H1 (upd F1 q (.tup (k.map L2.kV))) H1 := fun c => Grow.takeT s hq
  have s1 := (g1 none).sub
  have l1 : Le F (upd F1 q (.tup (k.map L2.kV))) := l.trans (g1 none).le
  have l2 := Le.fz (o := .tup [.ref q, v]) (s1.fresh nT)
  refine ⟨upd (upd F1 q (.tup (k.map L2.kV))) T (.tup [.ref q, v]), fun c => (g1 c).trans (Grow.alloc s1 nT RdO.tup), .tup upd_same (.cons ?_ (.cons (e3.mono (l1.trans l2)) .nil))⟩
  rw [e2]
  have hr : Rp K (upd F1 q (.tup (k.map L2.kV))) (.ref q) (tD k) := .tup upd_same (rps_kV k)
  exact hr.mono l2
def pditems : PyData → M (List PyData)
  | .dict kvs => pure (kvs.map fun p => .tuple [p.1, p.2])
  | _ => stuck
section
variable {X : Cx} {C : Ct} {ρ : List Sl} {a e : Expr} {m ma : M PyData} {pos p tpos apos cpos p2 : Pos} {x : Str}
theorem fi_items {elts : List Expr} {kk : Nat} (he : FE X C ρ e m) (hbase : attributeBase e "items" X.env (eval e X.env) = eval e X.env := by rfl) (hline : (apos.endLine == cpos.line) = true := by rfl) :
    FI X C ρ (.Tuple elts kk tpos) (.Call (.Attribute e "items" apos) [] [] cpos) (do let d ← m; pditems d) := by
  refine ⟨imI (pi_itemsA he.pe hbase hline) fun σ H R ⟨F, cs, ev, q, h⟩ => ?_⟩
  refine ⟨F, cs, ev, q, (Res.bind h).mono fun dx cs1 F1 H1 g1 q1 h1 v rv => ?_⟩
  cases rv with
  | @dK l ob es kvs f r =>
    exact ⟨l, ob, rfl, .inl ⟨es, g1.sub _ _ f, fun hz => Res.pure (mg := X.mg) h1 g1.sub q1 _ (.itemsK f r) (by rw [List.length_map, ← (rpK_pk r).length]; exact hz)⟩⟩
  | @dT l ob es kvs f r =>
    exact ⟨l, ob, rfl, .inr ⟨es, g1.sub _ _ f, fun hz => Res.pure (mg := X.mg) h1 g1.sub q1 _ (.itemsT f r) (by rw [List.length_map, ← (rpT_pk r).length]; exact hz)⟩⟩
  | _ => exact h1.elim
end
end DL
end
section
set_option Elab.async false
set_option linter.all false
set_option maxRecDepth 100000
set_option maxHeartbeats 4000000
set_option autoImplicit false
namespace DL
open PySem PySem.Spec PyProof.Rows L2 RZ PySem.W
/-! ### x[a:b], x one's own: a new list -/
section
variable {X : Cx} {C : Ct} {ρ : List Sl} {a e : Expr} {m ma : M PyData} {pos p tpos apos cpos p2 p3 : Pos} {x : Str}
theorem fo_oslice {lo hi : Option Expr} {ml mh : M (Option Int)} (i : Nat) {xs : List PyData} (hl : FP X C ρ lo ml) (hh : FP X C ρ hi mh) (hρ : ρ[i]? = some (.own xs) := by rfl) (hN : X.N[i]? = some x := by rfl)
    (hvis : Vis X.env.scope x := by first | exact Or.inl rfl | exact Or.inr (Or.inl rfl) | exact Or.inr (Or.inr rfl)) (hd : (x == ("__debug__" : Str)) = false := by decide) (hcd : (x == ("__classdict__" : Str)) = false := by decide) :
    FO X C ρ (.Subscript (.Name x p2) (.Slice lo hi none p3) pos) (do let l ← ml; let h ← mh; pure (cutP xs l h)) := by
  refine ⟨imE (pe_slice (r := rSlL X.K) sl_list (pe_var hN hvis hd hcd) hl.po hh.po) fun σ H Q ⟨F, cs, e, q, h⟩ => ?_⟩
  obtain ⟨a, vs, e1, _⟩ := e.sl i _ hρ
  refine ⟨.ref a, e1, F, cs, e, q, (Res.bind h).mono fun l cs2 F2 H2 g2 q2 h2 => ?_⟩
  refine ⟨F2, cs2, e.grow g2, q2, (Res.bind h2).mono fun h cs3 F3 H3 g3 q3 h3 => ?_⟩
  obtain ⟨a', vs', y1, y2, y3, y4, y5, r'⟩ := ((e.grow g2).grow g3).sl i _ hρ
  rw [e1] at y1; cases y1
  exact ⟨a, vs', rfl, .inl (.inl y2), fun p n => h3 F3 _ (Grow.fresh g3.sub n) (q3.upd (q3.ne n)) p _ (((g2.trans g3)).free n) upd_same (g3.sub.fresh n) (q3.ne n) (r'.cut l h)⟩
end
/-! ### min(xs), max(xs) -/
def minOk (ds : List PyData) : Bool := PyData.plainAll ds && alikeB ds && ds.all (fun d => match d with | .none => false | _ => true) && decide (PyData.depthAll ds ≤ 100)
theorem minOk_iff {ds : List PyData} (h : minOk ds = true) : PyData.plainAll ds = true ∧ AlikeAll ds ∧ PyData.depthAll ds ≤ 100 := by
  simp only [minOk, alikeB, Bool.and_eq_true, List.all_eq_true, decide_eq_true_eq] at h
  obtain ⟨⟨⟨h1, h2⟩, h3⟩, h4⟩ := h
  refine ⟨h1, ⟨h2, fun x hx e => ?_⟩, h4⟩
  have := h3 x hx
  subst e
  cases this
theorem min_at {prog : Program} {w : World} {A : Around} {E : Value → Shared → Prop} {s : Shared} {l : Addr} {vs : Array Value} {x : PyData} {xs : List PyData} {as : List Addr} {Q : Value → Shared → Prop} (hh : A.handled = none) (hl : s.heap.IsList l vs) (hr : ReadsAll s.heap vs.toList (x :: xs) as) (ha : AlikeAll (x :: xs)) (hu : A.units + 1 + PyData.depthAll (x :: xs) < cLine)
    (h : ∀ (i : Nat) v h' tk, vs[i]? = some v → (x :: xs)[i]? = some (minD x xs) → (∀ b o, s.heap.get? b = some o → h'.get? b = some o) → Q v { s with heap := h', toks := tk }) :
    wpAny (model prog w) A (call (.builtin "min") [.ref l]) Q E s := by
  have hn : vs.size = xs.length + 1 := readsAll_len hr
  refine call_min_walkH (iter_listW (A := A.in1) hh hl fun s₂ e W st hfp hw hk => ?_)
  refine ⟨_, _, _, _, _, _, _, s.heap, _, rfl, W, st, hfp, by omega, hw, hk, cmpIn_lt (A := A.in1) hr ha (by show A.units + 1 + _ < _; exact hu), fun v s' hP m => ?_⟩
  obtain ⟨h', tk, rfl, hk'⟩ := moved_old e rfl m
  have e1 : vs.size - 1 = xs.length := by omega
  have e2 := (argBest_fold dataLt PyData.none x xs xs.length (Nat.le_refl _)).2
  rw [List.take_length] at e2
  rw [e1] at hP
  have hlt := (Array.getElem?_eq_some_iff.mp hP).1
  refine h _ v h' tk hP ?_ hk'
  rw [hn] at hlt
  have hlt' : argBest (fun i j => dataLt ((x :: xs).getD i .none) ((x :: xs).getD j .none)) xs.length < (x :: xs).length := hlt
  rw [List.getElem?_eq_getElem hlt']
  congr 1
  have e3 : (x :: xs).getD (argBest (fun i j => dataLt ((x :: xs).getD i .none) ((x :: xs).getD j .none)) xs.length) .none = (x :: xs)[argBest (fun i j => dataLt ((x :: xs).getD i .none) ((x :: xs).getD j .none)) xs.length] := by
    rw [List.getD_eq_getElem?_getD, List.getElem?_eq_getElem hlt']
    rfl
  rw [← e3]
  exact e2
theorem max_at {prog : Program} {w : World} {A : Around} {E : Value → Shared → Prop} {s : Shared} {l : Addr} {vs : Array Value} {x : PyData} {xs : List PyData} {as : List Addr} {Q : Value → Shared → Prop} (hh : A.handled = none) (hl : s.heap.IsList l vs) (hr : ReadsAll s.heap vs.toList (x :: xs) as) (ha : AlikeAll (x :: xs)) (hu : A.units + 1 + PyData.depthAll (x :: xs) < cLine)
    (h : ∀ (i : Nat) v h' tk, vs[i]? = some v → (x :: xs)[i]? = some (maxD x xs) → (∀ b o, s.heap.get? b = some o → h'.get? b = some o) → Q v { s with heap := h', toks := tk }) :
    wpAny (model prog w) A (call (.builtin "max") [.ref l]) Q E s := by
  have hn : vs.size = xs.length + 1 := readsAll_len hr
  refine call_max_walkH (iter_listW (A := A.in1) hh hl fun s₂ e W st hfp hw hk => ?_)
  refine ⟨_, _, _, _, _, _, _, s.heap, _, rfl, W, st, hfp, by omega, hw, hk, cmpIn_gt (A := A.in1) hr ha (by show A.units + 1 + _ < _; exact hu), fun v s' hP m => ?_⟩
  obtain ⟨h', tk, rfl, hk'⟩ := moved_old e rfl m
  have e1 : vs.size - 1 = xs.length := by omega
  have e2 := (argBest_fold (fun a b => dataLt b a) PyData.none x xs xs.length (Nat.le_refl _)).2
  rw [List.take_length] at e2
  rw [e1] at hP
  have hlt := (Array.getElem?_eq_some_iff.mp hP).1
  refine h _ v h' tk hP ?_ hk'
  rw [hn] at hlt
  have hlt' : argBest (fun i j => dataLt ((x :: xs).getD j .none) ((x :: xs).getD i .none)) xs.length < (x :: xs).length := hlt
  rw [List.getElem?_eq_getElem hlt']
  congr 1
  have e3 : (x :: xs).getD (argBest (fun i j => dataLt ((x :: xs).getD j .none) ((x :: xs).getD i .none)) xs.length) .none = (x :: xs)[argBest (fun i j => dataLt ((x :: xs).getD j .none) ((x :: xs).getD i .none)) xs.length] := by
    rw [List.getD_eq_getElem?_getD, List.getElem?_eq_getElem hlt']
    rfl
  rw [← e3]
  exact e2
section
variable {X : Cx}
theorem reads_all {pins : List (Addr × Obj)} {σ : L2.St} {H : Hp} {s : Shared} (I : Inv X pins σ H s) : ∀ {xs : List V} {us : List Value} {ds : List PyData}, Vals xs us → DpAll X.K H xs ds → ∃ as, ReadsAll s.heap us ds as
  | [], _, _, r, d => by cases r; cases d; exact ⟨[], .nil⟩
  | x :: xs, _, _, r, d => by
    cases r with
    | cons r1 r2 =>
      cases d with
      | cons d1 d2 =>
        obtain ⟨as, h1⟩ := Dp.reads I _ _ _ d1 r1
        obtain ⟨bs, h2⟩ := reads_all I r2 d2
        exact ⟨_, .cons h1 h2⟩
def rMinD (g : PyData → List PyData → PyData) (K : PySem.W.Frag) : List V → Hp → VK → Prop := fun vs H Q => ∃ (a : Addr) (xs : List V) (d : PyData) (ds : List PyData), vs = [V.ref a] ∧ SqL K H a xs ∧ DpAll K H xs (d :: ds) ∧ AlikeAll (d :: ds) ∧ PyData.depthAll (d :: ds) ≤ 100 ∧
  ∀ (i : Nat) (x : V), xs[i]? = some x → (d :: ds)[i]? = some (g d ds) → Q x H
theorem vals_at {xs : List V} {us : List Value} (r : Vals xs us) {i : Nat} {v : Value} (h : us[i]? = some v) : ∃ x, xs[i]? = some x ∧ RelV x v := by
  have hl := r.length
  have hi := (List.getElem?_eq_some_iff.mp h).1
  have hx : xs[i]? = some (xs[i]'(by omega)) := List.getElem?_eq_getElem _
  refine ⟨_, hx, ?_⟩
  obtain ⟨b, hb, h2⟩ := paired_get r hx
  rw [h] at hb
  cases hb
  exact h2
theorem cr_minD (hc : X.calm = true) (hu : X.A.units + 200 < cLine) : CallR X (.builtin "min") (rMinD minD X.K) := by
  intro pins s σ H vs us Q I r h
  obtain ⟨a, xs, d, ds, rfl, hs, dp, al, dep, q⟩ := h
  obtain ⟨its, rv, hl, _⟩ := I.list hs
  rw [Vals.ref1 r]
  obtain ⟨as, hr⟩ := reads_all I rv dp
  refine min_at (I.ok.hd hc) hl.isList (by simpa using hr) al (by omega) fun i v h' tk hv hm hk => ?_
  obtain ⟨x, hx, rx⟩ := vals_at rv (by rw [← List.getElem?_toArray]; exact hv)
  exact ⟨x, H, I.kept hk, rx, q i x hx hm⟩
theorem cr_maxD' (hc : X.calm = true) (hu : X.A.units + 200 < cLine) : CallR X (.builtin "max") (rMinD maxD X.K) := by
  intro pins s σ H vs us Q I r h
  obtain ⟨a, xs, d, ds, rfl, hs, dp, al, dep, q⟩ := h
  obtain ⟨its, rv, hl, _⟩ := I.list hs
  rw [Vals.ref1 r]
  obtain ⟨as, hr⟩ := reads_all I rv dp
  refine max_at (I.ok.hd hc) hl.isList (by simpa using hr) al (by omega) fun i v h' tk hv hm hk => ?_
  obtain ⟨x, hx, rx⟩ := vals_at rv (by rw [← List.getElem?_toArray]; exact hv)
  exact ⟨x, H, I.kept hk, rx, q i x hx hm⟩
end
def pmin1 : PyData → M PyData
  | .list (d :: ds) => do chk (minOk (d :: ds) = true); pure (minD d ds)
  | _ => stuck
def pmax1 : PyData → M PyData
  | .list (d :: ds) => do chk (minOk (d :: ds) = true); pure (maxD d ds)
  | _ => stuck
section
variable {X : Cx} {C : Ct} {ρ : List Sl} {a : Expr} {ma : M PyData} {pos p : Pos}
theorem fe_min1 (hc : X.calm = true) (hu : X.A.units + 200 < cLine) (hm : X.mg "min" = none) (ha : FE X C ρ a ma) (hg : Gl X "min" := by rfl) (hs : starEach [a] X.env = (false, eval a X.env) :: starEach [] X.env := by rfl) : FE X C ρ (.Call (.Name "min" p) [a] [] pos) (do let d ← ma; pmin1 d) := by
  have pa : PA X [a] (tCons (tM X.K X.mg C ρ ma) tNil) := pa_cons ha.pe pa_nil hs
  refine ⟨imE (pe_callB (cr_minD hc hu) hg hm boot_min pa (by decide) (by decide) hs rfl) fun σ H Q h => ?_⟩
  obtain ⟨F, cs, ev, q, h⟩ := h
  refine ⟨F, cs, ev, q, (Res.bind h).mono fun d cs1 F1 H1 g1 q1 h1 v rv => ?_⟩
  cases rv with
  | @lst l xs ds f r =>
    cases ds with
    | nil => exact h1.elim
    | cons d ds =>
      obtain ⟨hok, h2⟩ := Res.chk h1
      obtain ⟨k1, k2, k3⟩ := minOk_iff hok
      refine ⟨l, xs, d, ds, rfl, f.sq g1.sub, Rps.dp g1.sub r k1, k2, k3, fun i x hx hd => ?_⟩
      obtain ⟨v, ev', rv⟩ := r.get hd
      rw [hx] at ev'
      cases ev'
      exact kE.val h2 g1.sub q1 rv
  | _ => exact h1.elim
theorem fe_max1 (hc : X.calm = true) (hu : X.A.units + 200 < cLine) (hm : X.mg "max" = none) (ha : FE X C ρ a ma) (hg : Gl X "max" := by rfl) (hs : starEach [a] X.env = (false, eval a X.env) :: starEach [] X.env := by rfl) : FE X C ρ (.Call (.Name "max" p) [a] [] pos) (do let d ← ma; pmax1 d) := by
  have pa : PA X [a] (tCons (tM X.K X.mg C ρ ma) tNil) := pa_cons ha.pe pa_nil hs
  refine ⟨imE (pe_callB (cr_maxD' hc hu) hg hm boot_max pa (by decide) (by decide) hs rfl) fun σ H Q h => ?_⟩
  obtain ⟨F, cs, ev, q, h⟩ := h
  refine ⟨F, cs, ev, q, (Res.bind h).mono fun d cs1 F1 H1 g1 q1 h1 v rv => ?_⟩
  cases rv with
  | @lst l xs ds f r =>
    cases ds with
    | nil => exact h1.elim
    | cons d ds =>
      obtain ⟨hok, h2⟩ := Res.chk h1
      obtain ⟨k1, k2, k3⟩ := minOk_iff hok
      refine ⟨l, xs, d, ds, rfl, f.sq g1.sub, Rps.dp g1.sub r k1, k2, k3, fun i x hx hd => ?_⟩
      obtain ⟨v, ev', rv⟩ := r.get hd
      rw [hx] at ev'
      cases ev'
      exact kE.val h2 g1.sub q1 rv
  | _ => exact h1.elim
end
end DL
end
section
set_option Elab.async false
set_option linter.all false
set_option maxRecDepth 100000
set_option maxHeartbeats 4000000
set_option autoImplicit false
namespace DL
open PySem PySem.Spec PyProof.Rows L2 RZ PySem.W
/-! ### tuple * int, with nothing left -/
theorem tuple_mulWs (l : Addr) (items : Array Value) (n : Nat) (dd : Option Addr) (sl : Array (Option Value)) (x : Int) (u : Tok) (c0 : (decide (x < -(2 ^ 63)) || decide (x ≥ 2 ^ 63)) = false) (c1 : (items.isEmpty || x == 1) = true) :
    Meets (Builtin.«tuple.__mul__» ⟨[.ref l, .int x u], []⟩) (fun _ R s => s.heap.get? l = some { cls := .type "tuple", dict := dd, data := .seq items n, slots := sl } ∧
      R (.ok (.ret (Value.ref l))) s) :=
  .of_wp fun prog w A R s h => by
    obtain ⟨hp, g, d, tk, os⟩ := s
    obtain ⟨hl, h⟩ := h
    have f1 := AutoSeq1.idx_int
    wp_walk using wpAny_loadPart' hl
    repeat (first
      | (refine wpAny_ite_false (decide_eq_false (by rw [c0]; exact Bool.false_ne_true)) ?_; wp_walk using wpAny_loadPart' hl)
      | (refine wpAny_ite_true (decide_eq_true c1) ?_; wp_walk using wpAny_loadPart' hl))
    exact ⟨_, rfl, h⟩
theorem tuple_mulW0 (l : Addr) (items : Array Value) (n : Nat) (dd : Option Addr) (sl : Array (Option Value)) (x : Int) (u : Tok) (c0 : (decide (x < -(2 ^ 63)) || decide (x ≥ 2 ^ 63)) = false) (c1 : (items.isEmpty || x == 1) = false) (c2 : (decide (x ≤ 0) || items.isEmpty) = true) :
    Meets (Builtin.«tuple.__mul__» ⟨[.ref l, .int x u], []⟩) (fun _ R s => s.heap.get? l = some { cls := .type "tuple", dict := dd, data := .seq items n, slots := sl } ∧
      R (.ok (.ret (Value.ref s.heap.objs.size))) { s with heap := s.heap.push { cls := Value.type "tuple", data := Data.seq #[] }, toks := s.toks }) :=
  .of_wp fun prog w A R s h => by
    obtain ⟨hp, g, d, tk, os⟩ := s
    obtain ⟨hl, h⟩ := h
    have f1 := AutoSeq1.idx_int
    wp_walk using wpAny_loadPart' hl
    repeat (first
      | (refine wpAny_ite_false (decide_eq_false (by rw [c0]; exact Bool.false_ne_true)) ?_; wp_walk using wpAny_loadPart' hl)
      | (refine wpAny_ite_false (decide_eq_false (by rw [c1]; exact Bool.false_ne_true)) ?_; wp_walk using wpAny_loadPart' hl)
      | (refine wpAny_ite_true (decide_eq_true c2) ?_; wp_walk using wpAny_loadPart' hl))
    exact ⟨_, rfl, h⟩
def rRep0 (K : PySem.W.Frag) : R2 := fun x y H Q => ∃ l k xs, x = .ref l ∧ y = .int k ∧ SqT K H l xs ∧ -1000 ≤ k ∧ k ≤ 1000 ∧ ((xs = [] ∧ Q (.ref l) H) ∨ (xs ≠ [] ∧ k ≤ 0 ∧ ∀ p, H p = none → Q (.ref p) (upd H p (.tup []))))
theorem op_rep0 {X : Cx} : OpR X (binaryOp .Mult) (rRep0 X.K) := by
  intro pins s σ H x y v u Q I rx ry h
  obtain ⟨l, k, xs, rfl, rfl, hT, h1, h2, h⟩ := h
  cases rx
  obtain ⟨t, rfl⟩ := ry
  obtain ⟨its, r, ⟨⟨cls, dd, data, sl⟩, ho, hc, n, hd⟩, hs⟩ := I.tuple hT
  simp only at hc hd
  subst hc hd
  have c0 : (decide (k < -(2 ^ 63)) || decide (k ≥ 2 ^ 63)) = false := by
    rw [decide_eq_false (by omega), decide_eq_false (by omega)] <;> rfl
  have hle : its.length = xs.length := r.length.symm
  rcases h with ⟨rfl, q⟩ | ⟨hne, hk, q⟩
  · have hi : its = [] := List.eq_nil_of_length_eq_zero hle
    subst hi
    exact wpAny_binaryOp_repeat_ref (T := "tuple") (U := "int") (by decide) ⟨_, ho, rfl⟩ (fun s' => typeIs_int s' k t) noFill_tuple_mul F.fills_int_mul F.slot_int_rmul repeat_tuple F.slot_int_index.lookup
      (call_meets F.slot_int_rmul (typeIs_int s k t) F.entry_int_rmul (F.args_int_rmul_2 _ _) (int_rmul_tuple k t l _ n dd sl)
        ⟨ho, rfl, ⟨_, ho, rfl⟩, call_meets F.slot_tuple_mul ⟨_, ho, rfl⟩ F.entry_tuple_mul (F.args_tuple_mul_2 _ _) (tuple_mulWs l _ n dd sl k t c0 rfl) ⟨ho, .ref l, H, I, rfl, q⟩⟩)
  · have hn : its ≠ [] := fun e => hne (by
      rw [e] at hle
      exact List.eq_nil_of_length_eq_zero hle.symm)
    have hi : its.toArray.isEmpty = false := by
      cases its with
      | nil => exact absurd rfl hn
      | cons a b => rfl
    have c1 : (its.toArray.isEmpty || k == 1) = false := by
      rw [hi, Bool.false_or]
      exact beq_eq_false_iff_ne.mpr (by omega)
    have c2 : (decide (k ≤ 0) || its.toArray.isEmpty) = true := by rw [decide_eq_true hk]; rfl
    refine wpAny_binaryOp_repeat_ref (T := "tuple") (U := "int") (by decide) ⟨_, ho, rfl⟩ (fun s' => typeIs_int s' k t) noFill_tuple_mul F.fills_int_mul F.slot_int_rmul repeat_tuple F.slot_int_index.lookup
      (call_meets F.slot_int_rmul (typeIs_int s k t) F.entry_int_rmul (F.args_int_rmul_2 _ _) (int_rmul_tuple k t l its.toArray n dd sl)
        ⟨ho, rfl, ⟨_, ho, rfl⟩, call_meets F.slot_tuple_mul ⟨_, ho, rfl⟩ F.entry_tuple_mul (F.args_tuple_mul_2 _ _) (tuple_mulW0 l its.toArray n dd sl k t c0 c1 c2) ⟨ho, ?_⟩⟩)
    refine ⟨.ref s.heap.objs.size, _, I.laid (t' := s.toks) (o := .tup []) (fun b ob q => Heap.get?_push_of_some _ q) (Nat.le_refl _) ?_, rfl, q _ (I.hok.fresh (Nat.le_refl _))⟩
    exact ⟨by show 0 ≤ sizeLine; exact Nat.zero_le _, [], .nil, IsTup.new _ _⟩
def rMulT (K : PySem.W.Frag) : R2 := fun x y H Q => rMulAll K x y H Q ∨ rRep0 K x y H Q
theorem op_mulT {X : Cx} : OpR X (binaryOp .Mult) (rMulT X.K) := op_mulAll.or op_rep0
def pmulT (d e : PyData) : M PyData := match d, e with
  | .tuple xs, .int k => if xs = [] ∨ k ≤ 0 then do chk (-1000 ≤ k ∧ k ≤ 1000); pure (.tuple []) else pmul (.tuple xs) (.int k)
  | d, e => pmul d e
theorem pmulT_ok (K : PySem.W.Frag) : Op2 K pmulT (rMulT K) := by
  intro mg C F H x y dx dy cs Q s q rx ry h
  by_cases ht : ∃ xs k, dx = .tuple xs ∧ dy = .int k
  · obtain ⟨xs, k, rfl, rfl⟩ := ht
    unfold pmulT at h
    dsimp only at h
    by_cases e : xs = [] ∨ k ≤ 0
    · rw [if_pos e] at h
      obtain ⟨c, h⟩ := Res.chk h
      cases ry
      cases rx with
      | tup f r =>
        refine .inr ⟨_, k, _, rfl, rfl, f.sq s, c.1, c.2, ?_⟩
        by_cases e0 : xs = []
        · subst e0
          cases r
          exact .inl ⟨rfl, kE.val h s q (.tup f .nil)⟩
        · refine .inr ⟨fun z => e0 ?_, e.resolve_left e0, kE.tup h s q .nil⟩
          subst z
          cases r
          rfl
    · rw [if_neg e] at h
      exact .inl (pmul_ok K mg C F H x y _ _ cs Q s q rx ry h)
  · have e : pmulT dx dy = pmul dx dy := by
      unfold pmulT
      split
      · exact absurd ⟨_, _, rfl, rfl⟩ ht
      · rfl
    rw [e] at h
    exact .inl (pmul_ok K mg C F H x y _ _ cs Q s q rx ry h)
end DL
end
section
set_option Elab.async false
set_option linter.all false
set_option maxRecDepth 100000
set_option maxHeartbeats 4000000
set_option autoImplicit false
namespace DL
open PySem PySem.Spec PyProof.Rows L2 RZ
/-! ### further words of a printed mirror -/
noncomputable abbrev mDGetK (kvs : List (PyData × PyData)) (mk : M PyData) : M PyData := do let k ← mk; chk (okA k = true); optM (dGet kvs k)
noncomputable abbrev mDGetT (kvs : List (PyData × PyData)) (mk : M PyData) : M PyData := do let k ← mk; chk (okT k = true); optM (dGet kvs k)
noncomputable abbrev mDinK (kvs : List (PyData × PyData)) (mk : M PyData) : M PyData := do let k ← mk; chk (okA k = true); pure (.bool (dGet kvs k).isSome)
noncomputable abbrev mDninK (kvs : List (PyData × PyData)) (mk : M PyData) : M PyData := do let k ← mk; chk (okA k = true); pure (.bool (!(dGet kvs k).isSome))
noncomputable abbrev mDinT (kvs : List (PyData × PyData)) (mk : M PyData) : M PyData := do let k ← mk; chk (okT k = true); pure (.bool (dGet kvs k).isSome)
noncomputable abbrev mDninT (kvs : List (PyData × PyData)) (mk : M PyData) : M PyData := do let k ← mk; chk (okT k = true); pure (.bool (!(dGet kvs k).isSome))
abbrev mTupRg (m : M PyData) : M PyData := do let d ← m; let n ← asI d; chk (0 ≤ n ∧ n ≤ 16777216); pure (.tuple (rangeD 0 n))
abbrev mLenSet (m : M PyData) : M PyData := do let d ← m; let r ← setD d; pure (setLen r)
abbrev oSortSet (m : M PyData) : M (List PyData) := do let d ← m; let r ← setD d; pure (setSort r)
abbrev oSort (m : M PyData) : M (List PyData) := do let d ← m; psortA d
abbrev iEnum (m : M PyData) : M (List PyData) := do let x ← m; penum x
abbrev iItems (m : M PyData) : M (List PyData) := do let x ← m; pditems x
abbrev oSlO (xs : List PyData) (ml mh : M (Option Int)) : M (List PyData) := do let l ← ml; let h ← mh; pure (cutP xs l h)
abbrev oDictK (mk mv : M PyData) : M (List (PyData × PyData)) := do let k ← mk; let v ← mv; chk (okA k = true); pure [(k, v)]
abbrev oDictT (mk mv : M PyData) : M (List (PyData × PyData)) := do let k ← mk; let v ← mv; chk (okT k = true); pure [(k, v)]
section
variable {τ τ' υ β α : Type}
abbrev sAppPop (m : M PyData) (xs ys : List PyData) (k : PyData → PyData → M (Fl τ β)) : M (Fl τ β) := do let dn ← m; let n ← asI dn; chk (0 ≤ n ∧ n < 2 ^ 63 ∧ xs.length < sizeLine); let d ← optM ys[n.toNat]?; k dn d
noncomputable abbrev sDPutK (mv mk : M PyData) (kvs : List (PyData × PyData)) (k : PyData → PyData → M (Fl τ β)) : M (Fl τ β) := do let v ← mv; let dk ← mk; chk (okA dk = true ∧ kvs.length < sizeLine); k dk v
noncomputable abbrev sDPutT (mv mk : M PyData) (kvs : List (PyData × PyData)) (k : PyData → PyData → M (Fl τ β)) : M (Fl τ β) := do let v ← mv; let dk ← mk; chk (okT dk = true ∧ kvs.length < sizeLine); k dk v
end
theorem hu200 {k : Nat} {A : Around} (hr : Room k A) : A.units + 200 < cLine := by have := hr.un; omega
end DL
end
section
set_option Elab.async false
set_option linter.all false
set_option maxRecDepth 100000
set_option maxHeartbeats 4000000
set_option autoImplicit false
namespace DL
open PySem PySem.Spec
/-! ### what a mirror gives -/
def Tri {α : Type} (I : List PyData → Prop) (m : M α) (p : α → Prop) : Prop := ∀ cs, I cs → ∃ x cs', m cs = .ok (x, cs') ∧ I cs' ∧ p x
section
variable {α β τ υ : Type} {I : List PyData → Prop} {m : M α} {f : α → M β} {p p' : α → Prop} {q : β → Prop}
theorem Tri.pure {x : α} (h : p x) : Tri I (Pure.pure x) p := fun cs i => ⟨x, cs, rfl, i, h⟩
theorem Tri.of {x : α} (e : m = Pure.pure x) (h : p x) : Tri I m p := e ▸ Tri.pure h
theorem Tri.bind (h : Tri I m p) (g : ∀ x, p x → Tri I (f x) q) : Tri I (m >>= f) q := fun cs i => by
  obtain ⟨x, cs1, e, i1, hp⟩ := h cs i
  obtain ⟨y, cs2, e2, i2, hq⟩ := g x hp cs1 i1
  exact ⟨y, cs2, by rw [M.bind_run, e]; exact e2, i2, hq⟩
theorem Tri.mono (h : Tri I m p) (k : ∀ x, p x → p' x) : Tri I m p' := fun cs i => by
  obtain ⟨x, cs1, e, i1, hp⟩ := h cs i
  exact ⟨x, cs1, e, i1, k x hp⟩
theorem Tri.noexc (h : Tri I m p) : Tri I (DL.noexc m) p := fun cs i => by
  obtain ⟨x, cs1, e, i1, hp⟩ := h cs i
  exact ⟨x, cs1, by unfold DL.noexc; rw [e], i1, hp⟩
/-- a pure part ahead -/
theorem Tri.then {x : α} (e : m = Pure.pure x) (g : Tri I (f x) q) : Tri I (m >>= f) q := by rw [e, pure_bind]; exact g
theorem Tri.finish {m : M (Fl Unit Empty)} {p : PyData → Prop} (h : Tri I m fun fl => match fl with | .nx _ => p .none | .rt d => p d | .bk b => nomatch b | .ct b => nomatch b) : Tri I (DL.finish m) p := by
  unfold DL.finish
  refine h.bind fun fl hf => ?_
  cases fl with
  | nx _ => exact Tri.pure hf
  | rt d => exact Tri.pure hf
  | bk b => exact nomatch b
  | ct b => exact nomatch b
theorem Tri.lc {ds : List PyData} {f : PyData → M PyData} {py : PyData → Prop} (h : ∀ d ∈ ds, Tri I (f d) py) : Tri I (lcM (fun d => Pure.pure d) (fun _ => Pure.pure true) f ds) fun ys => ys.length = ds.length ∧ ∀ y ∈ ys, py y := by
  induction ds with
  | nil => exact Tri.pure ⟨rfl, fun y hy => by cases hy⟩
  | cons d ds ih =>
    unfold lcM
    rw [noexc_pure, pure_bind, noexc_pure, pure_bind, if_pos rfl]
    refine (h d (by simp)).noexc.bind fun y hy => (ih fun e he => h e (by simp [he])).bind fun ys hys => Tri.pure ⟨by simp [hys.1], fun z hz => ?_⟩
    rcases List.mem_cons.mp hz with rfl | hz
    · exact hy
    · exact hys.2 z hz
theorem Tri.for {u : PyData → M υ} {b : υ → τ → M (Fl τ τ)} (Inv : Nat → τ → Prop) : ∀ {ds : List PyData} {t0 : τ} (n : Nat), Inv n t0 → (∀ i d t, ds[i]? = some d → Inv (n + i) t → Tri I (u d >>= fun x => b x t) fun fl => ∃ t', (fl = .nx t' ∨ fl = .ct t') ∧ Inv (n + i + 1) t') →
    Tri I (pFor u b ds t0) fun r => ∃ t, r = .inl t ∧ Inv (n + ds.length) t
  | [], t0, n, h0, _ => Tri.pure ⟨t0, rfl, h0⟩
  | d :: ds, t0, n, h0, hs => by
    unfold pFor
    rw [← bind_assoc]
    refine (hs 0 d t0 rfl h0).bind fun fl ⟨t', hf, h1⟩ => ?_
    have ih := Tri.for (u := u) (b := b) Inv (ds := ds) (t0 := t') (n + 1) h1 fun i e t he hi => by
      have := hs (i + 1) e t (by simpa using he) (by rw [show n + (i + 1) = n + 1 + i by omega]; exact hi)
      rw [show n + (i + 1) + 1 = n + 1 + i + 1 by omega] at this
      exact this
    have e : n + 1 + ds.length = n + (d :: ds).length := by simp; omega
    rw [e] at ih
    rcases hf with rfl | rfl
    · exact ih
    · exact ih
end
/-! ### pure comprehensions and loops -/
section
variable {ι τ : Type}
theorem lcM_pure {u : PyData → M PyData} {t : PyData → M Bool} {f : PyData → M PyData} (e y : ι → PyData) (b : ι → Bool) : ∀ xs : List ι, (∀ i ∈ xs, u (e i) = pure (e i)) → (∀ i ∈ xs, t (e i) = pure (b i)) → (∀ i ∈ xs, b i = true → f (e i) = pure (y i)) → lcM u t f (xs.map e) = pure ((xs.filter b).map y)
  | [], _, _, _ => rfl
  | i :: xs, hu, ht, hf => by
    have ih := lcM_pure (u := u) (t := t) (f := f) e y b xs (fun j hj => hu j (by simp [hj])) (fun j hj => ht j (by simp [hj])) (fun j hj => hf j (by simp [hj]))
    rw [List.map_cons]
    unfold lcM
    rw [hu i (by simp), noexc_pure, pure_bind, ht i (by simp), noexc_pure, pure_bind]
    cases hb : b i with
    | true =>
      rw [if_pos rfl, hf i (by simp) hb, noexc_pure, pure_bind, ih, pure_bind, List.filter_cons, if_pos hb, List.map_cons]
    | false =>
      rw [if_neg (by simp), ih, List.filter_cons, if_neg (by simp [hb])]
/-- [f d for d in ds] -/
theorem lcM_map {f : PyData → M PyData} (e y : ι → PyData) (xs : List ι) (hf : ∀ i ∈ xs, f (e i) = pure (y i)) : lcM (fun d => pure d) (fun _ => pure true) f (xs.map e) = pure (xs.map y) := by
  rw [lcM_pure e y (fun _ => true) xs (fun _ _ => rfl) (fun _ _ => rfl) (fun i hi _ => hf i hi), List.filter_eq_self.mpr (by simp)]
/-- [e for e in ds if b] -/
theorem lcM_filter {t : PyData → M Bool} (e : ι → PyData) (b : ι → Bool) (xs : List ι) (ht : ∀ i ∈ xs, t (e i) = pure (b i)) : lcM (fun d => pure d) t (fun d => pure d) (xs.map e) = pure ((xs.filter b).map e) :=
  lcM_pure e e b xs (fun _ _ => rfl) ht fun _ _ _ => rfl
theorem pFor_pure {u : PyData → M PyData} {b : PyData → τ → M (Fl τ τ)} (e : ι → PyData) (st : ι → τ → τ) (R : τ → Prop) : ∀ (xs : List ι) (t0 : τ), R t0 → (∀ i ∈ xs, u (e i) = pure (e i)) → (∀ i ∈ xs, ∀ t, R t → b (e i) t = pure (.nx (st i t)) ∧ R (st i t)) → pFor u b (xs.map e) t0 = pure (.inl (xs.foldl (fun t i => st i t) t0))
  | [], _, _, _, _ => rfl
  | i :: xs, t0, r, hu, hb => by
    rw [List.map_cons]
    unfold pFor
    rw [hu i (by simp), pure_bind, (hb i (by simp) t0 r).1, pure_bind]
    exact pFor_pure e st R xs (st i t0) (hb i (by simp) t0 r).2 (fun j hj => hu j (by simp [hj])) fun j hj => hb j (by simp [hj])
/-- for i in ..: if b: return .. -/
theorem pFor_find {u : PyData → M PyData} {b : PyData → τ → M (Fl τ τ)} (e : ι → PyData) (c : ι → Bool) (y : ι → PyData) (t0 : τ) : ∀ (xs : List ι), (∀ i ∈ xs, u (e i) = pure (e i)) → (∀ i ∈ xs, b (e i) t0 = pure (if c i then .rt (y i) else .nx t0)) → pFor u b (xs.map e) t0 = pure (match xs.find? c with | some i => .inr (y i) | none => .inl t0)
  | [], _, _ => rfl
  | i :: xs, hu, hb => by
    rw [List.map_cons]
    unfold pFor
    rw [hu i (by simp), pure_bind, hb i (by simp), pure_bind, List.find?_cons]
    cases hc : c i with
    | true => rfl
    | false => exact pFor_find e c y t0 xs (fun j hj => hu j (by simp [hj])) fun j hj => hb j (by simp [hj])
theorem pFor_st {σ : Type} {b : PyData → τ → M (Fl τ τ)} (e : ι → PyData) (es : σ → τ) (st : σ → ι → σ) (R : Nat → σ → Prop) : ∀ (xs : List ι) (k : Nat) (s0 : σ), R k s0 → (∀ i ∈ xs, ∀ j s, j < k + xs.length → R j s → b (e i) (es s) = pure (.nx (es (st s i))) ∧ R (j + 1) (st s i)) → pFor (fun d => pure d) b (xs.map e) (es s0) = pure (.inl (es (xs.foldl st s0)))
  | [], _, _, _, _ => rfl
  | i :: xs, k, s0, r, hb => by
    rw [List.map_cons]
    unfold pFor
    obtain ⟨h1, h2⟩ := hb i (by simp) k s0 (by simp) r
    rw [pure_bind, h1, pure_bind]
    exact pFor_st e es st R xs (k + 1) (st s0 i) h2 fun j hj l s hl => hb j (by simp [hj]) l s (by simp; omega)
theorem foldl_flat {α : Type} (g : ι → List α) : ∀ (xs : List ι) (acc : List α), xs.foldl (fun acc i => acc ++ g i) acc = acc ++ xs.flatMap g
  | [], acc => by simp
  | i :: xs, acc => by rw [List.foldl_cons, foldl_flat g xs, List.flatMap_cons, List.append_assoc]
theorem lc2M_pairs {f : PyData → PyData → M PyData} (e : ι → PyData) (y : ι → ι → PyData) (ys : List ι) {i1 : PyData → M (List PyData)} (hl : ys.length ≤ 4096) (hi : ∀ d, i1 d = pure (ys.map e)) : ∀ (xs : List ι), (∀ i ∈ xs, ∀ j ∈ ys, f (e i) (e j) = pure (y i j)) →
    lc2M (fun d => pure d) (fun _ => pure true) i1 (fun d => pure d) (fun _ _ => pure true) f (xs.map e) = pure (xs.flatMap fun i => ys.map (y i))
  | [], _ => rfl
  | i :: xs, hf => by
    rw [List.map_cons]
    unfold lc2M
    rw [noexc_pure, pure_bind, noexc_pure, pure_bind, if_pos rfl, hi, noexc_pure, pure_bind, chk_true (by rw [List.length_map]; exact hl), noexc_pure, pure_bind,
      lcM_map e (y i) ys fun j hj => hf i (by simp) j hj, pure_bind, lc2M_pairs e y ys hl hi xs fun k hk => hf k (by simp [hk]), pure_bind, List.flatMap_cons]
end
/-! ### words for the simplifier -/
@[simp] theorem asB_bool (b : Bool) : asB (.bool b) = pure b := rfl
@[simp] theorem asI_int (i : Int) : asI (.int i) = pure i := rfl
@[simp] theorem asS_str (z : Str) : asS (.str z) = pure z := rfl
@[simp] theorem asL_list (xs : List PyData) : asL (.list xs) = pure xs := rfl
@[simp] theorem padd_int (i j : Int) : padd (.int i) (.int j) = pure (.int (i + j)) := rfl
@[simp] theorem psub_int (i j : Int) : psub (.int i) (.int j) = pure (.int (i - j)) := rfl
@[simp] theorem pneg_int (i : Int) : pneg (.int i) = pure (.int (-i)) := rfl
@[simp] theorem pint_int (i : Int) : pint (.int i) = pure (.int i) := rfl
@[simp] theorem pabs_int (i : Int) : pabs (.int i) = pure (.int (if i < 0 then -i else i)) := rfl
@[simp] theorem pcmp_int (p : Int → Int → Bool) (i j : Int) : pcmp p (.int i) (.int j) = pure (.bool (p i j)) := rfl
@[simp] theorem plen_list (ds : List PyData) : plen (.list ds) = pure (.int ds.length) := rfl
@[simp] theorem plen_tuple (ds : List PyData) : plen (.tuple ds) = pure (.int ds.length) := rfl
@[simp] theorem ptuple_list (ds : List PyData) : ptuple (.list ds) = pure (.tuple ds) := rfl
@[simp] theorem ptuple_tuple (ds : List PyData) : ptuple (.tuple ds) = pure (.tuple ds) := rfl
@[simp] theorem seqOf_list (ds : List PyData) : seqOf (.list ds) = pure ds := rfl
@[simp] theorem seqOf_tuple (ds : List PyData) : seqOf (.tuple ds) = pure ds := rfl
@[simp] theorem pitems_list (ds : List PyData) : pitems (.list ds) = pure ds := rfl
@[simp] theorem pitems_tuple (ds : List PyData) : pitems (.tuple ds) = pure ds := rfl
@[simp] theorem prev_list (ds : List PyData) : prev (.list ds) = pure (.list ds.reverse) := rfl
@[simp] theorem prev_tuple (ds : List PyData) : prev (.tuple ds) = pure (.tuple ds.reverse) := rfl
@[simp] theorem pisN_none : pisN .none .none = pure (.bool true) := rfl
@[simp] theorem pisN_bool (b : Bool) : pisN (.bool b) .none = pure (.bool false) := rfl
@[simp] theorem pisN_int (i : Int) : pisN (.int i) .none = pure (.bool false) := rfl
@[simp] theorem pisN_str (i : Str) : pisN (.str i) .none = pure (.bool false) := rfl
@[simp] theorem pisN_list (i : List PyData) : pisN (.list i) .none = pure (.bool false) := rfl
@[simp] theorem pisN_tuple (i : List PyData) : pisN (.tuple i) .none = pure (.bool false) := rfl
@[simp] theorem pnotN_none : pnotN .none .none = pure (.bool false) := rfl
@[simp] theorem pnotN_bool (b : Bool) : pnotN (.bool b) .none = pure (.bool true) := rfl
@[simp] theorem pnotN_int (i : Int) : pnotN (.int i) .none = pure (.bool true) := rfl
@[simp] theorem pnotN_str (i : Str) : pnotN (.str i) .none = pure (.bool true) := rfl
@[simp] theorem pnotN_list (i : List PyData) : pnotN (.list i) .none = pure (.bool true) := rfl
@[simp] theorem pnotN_tuple (i : List PyData) : pnotN (.tuple i) .none = pure (.bool true) := rfl
@[simp] theorem pslice_list (ds : List PyData) (l h : Option Int) : pslice (.list ds) l h = pure (.list (cutP ds l h)) := rfl
@[simp] theorem pslice_tuple (ds : List PyData) (l h : Option Int) : pslice (.tuple ds) l h = pure (.tuple (cutP ds l h)) := rfl
@[simp] theorem runs_nil : runs [] = pure [] := rfl
@[simp] theorem runs_cons (m : M PyData) (ms : List (M PyData)) : runs (m :: ms) = (do let x ← m; let xs ← runs ms; pure (x :: xs)) := rfl
@[simp] theorem castF_rt {τ β : Type} (d : PyData) : (castF (pure (.rt d)) : M (Fl τ β)) = pure (.rt d) := rfl
@[simp] theorem finish_rt (d : PyData) : finish (pure (.rt d)) = pure d := rfl
@[simp] theorem finish_nx (u : Unit) : finish (pure (.nx u)) = pure .none := rfl
@[simp] theorem contL_inl {τ τ' β : Type} (t : τ') (k : τ' → M (Fl τ β)) : contL (.inl t) k = k t := rfl
@[simp] theorem contL_inr {τ τ' β : Type} (d : PyData) (k : τ' → M (Fl τ β)) : contL (.inr d) k = pure (.rt d) := rfl
@[simp] theorem thenF_nx {τ τ' β : Type} (t : τ) (k : τ → M (Fl τ' β)) : thenF (pure (.nx t) : M (Fl τ β)) k = k t := rfl
@[simp] theorem thenF_rt {τ τ' β : Type} (d : PyData) (k : τ → M (Fl τ' β)) : thenF (pure (.rt d) : M (Fl τ β)) k = pure (.rt d) := rfl
theorem peq_of {d e : PyData} (h : eqOk d e = true) : peq d e = pure (.bool (PyData.eqv d e)) := by unfold peq; rw [chk_true h]; rfl
theorem pne_of {d e : PyData} (h : eqOk d e = true) : pne d e = pure (.bool (!PyData.eqv d e)) := by unfold pne; rw [chk_true h]; rfl
@[simp] theorem peq_int (i j : Int) : peq (.int i) (.int j) = pure (.bool (decide (i = j))) := by
  rw [peq_of (by simp [eqOk, PyData.plain, PyData.depth])]
  simp only [PyData.eqv]
  rfl
@[simp] theorem pne_int (i j : Int) : pne (.int i) (.int j) = pure (.bool (!decide (i = j))) := by
  rw [pne_of (by simp [eqOk, PyData.plain, PyData.depth])]
  simp only [PyData.eqv]
  rfl
end DL
end
section
set_option Elab.async false
set_option linter.all false
set_option maxRecDepth 100000
set_option maxHeartbeats 4000000
set_option autoImplicit false
namespace DL
open PySem PySem.Spec PyProof.Rows L2 RZ
theorem cutP_map {α β : Type} (g : α → β) (xs : List α) (l h : Option Int) : cutP (xs.map g) l h = (cutP xs l h).map g := by
  unfold cutP
  rw [List.length_map, List.map_take, List.map_drop]
def eP (n : Nat) (f : Nat → Nat → Nat) : PyData := .tuple ((List.range n).map fun i => .tuple ((List.range n).map fun j => .int (f i j : Nat)))
def Ok (n : Nat) (f : Nat → Nat → Nat) : Prop := 0 < n ∧ n ≤ 8 ∧ ∀ i j, i < n → j < n → f i j < n
theorem atI_range {β : Type} (g : Nat → β) {n i : Nat} (h : i < n) : atI ((List.range n).map g) (i : Int) = some (g i) :=
  atI_nat (by rw [List.getElem?_map, List.getElem?_range h]; rfl)
theorem idx_tuple {ds : List PyData} {i : Int} {d : PyData} (h : atI ds i = some d) : pidx (.tuple ds) (.int i) = pure d := by unfold pidx; dsimp only; rw [h]
theorem idx_list {ds : List PyData} {i : Int} {d : PyData} (h : atI ds i = some d) : pidx (.list ds) (.int i) = pure d := by unfold pidx; dsimp only; rw [h]
theorem idx_row (n : Nat) (f : Nat → Nat → Nat) {i : Nat} (h : i < n) : pidx (eP n f) (.int (i : Nat)) = pure (.tuple ((List.range n).map fun j => .int (f i j : Nat))) := idx_tuple (atI_range _ h)
theorem idx_at (n : Nat) (g : Nat → Nat) {j : Nat} (h : j < n) : pidx (.tuple ((List.range n).map fun j => .int (g j : Nat))) (.int (j : Nat)) = pure (.int (g j : Nat)) := idx_tuple (atI_range (fun j => PyData.int (g j : Nat)) h)
def IC (cs : List PyData) : Prop := ∃ x y : Int, cs = [.int x, .int y] ∧ 0 ≤ y ∧ y < 4294967296
theorem cup_at0 (a b : PyData) : mCup (pure (.int 0)) [a, b] = .ok (a, [a, b]) := rfl
theorem cup_at1 (a b : PyData) : mCup (pure (.int 1)) [a, b] = .ok (b, [a, b]) := rfl
theorem cup_set0 (a b d : PyData) : cupSet (.int 0) d [a, b] = .ok ((), [d, b]) := rfl
theorem cup_set1 (a b d : PyData) : cupSet (.int 1) d [a, b] = .ok ((), [a, d]) := rfl
theorem pmod_ok' {i j : Int} (h : 0 < j) : pmod (.int i) (.int j) = pure (.int (i % j)) := by unfold pmod; dsimp only; rw [chk_true h]; rfl
theorem pfdiv_ok' {i j : Int} (h : 0 < j) (h2 : j < 1073741824) : pfdiv (.int i) (.int j) = pure (.int (i / j)) := by unfold pfdiv; dsimp only; rw [chk_true ⟨h, h2⟩]; rfl
theorem pmul_ok' {i j : Int} (h : CMul i j) : pmulT (.int i) (.int j) = pure (.int (i * j)) := by
  have e : pmulT (.int i) (.int j) = pmul (.int i) (.int j) := rfl
  rw [e]; unfold pmul; dsimp only; rw [chk_true h]; rfl
theorem lcM_all {f : PyData → M PyData} (y : PyData → PyData) (ds : List PyData) (h : ∀ d ∈ ds, f d = pure (y d)) : lcM (fun d => pure d) (fun _ => pure true) f ds = pure (ds.map y) := by
  have := lcM_map (f := f) id y ds h
  rwa [List.map_id] at this
theorem andB (a b : Bool) : mAnd (pure (.bool a)) (pure (.bool b)) = pure (.bool (a && b)) := by cases a <;> rfl
theorem and_ft {a : Bool} {m : M PyData} {b : Bool} (h : a = true → m = pure (.bool b)) : mAnd (pure (.bool a)) m = pure (.bool (a && b)) := by
  cases a with
  | false => rfl
  | true => rw [h rfl]; rfl
theorem not_bool (a : Bool) : mNot (pure (.bool a)) = pure (.bool (!a)) := rfl
theorem chain_le (a b c : Int) : mChain ple ple (pure (.int a)) (pure (.int b)) (pure (.int c)) = pure (.bool (decide (a ≤ b) && decide (b ≤ c))) := by
  simp only [mChain, pure_bind, pcmp_int, asB_bool]
  cases decide (a ≤ b) <;> rfl
theorem all_map {p : PyData → Bool} (ds : List PyData) : pall (.list (ds.map fun d => .bool (p d))) = pure (.bool (ds.all p)) := by
  unfold pall
  dsimp only
  have e : ds.map (fun d => PyData.bool (p d)) = (ds.map p).map .bool := by rw [List.map_map]; rfl
  rw [e, boolsOf_map, optM_some, pure_bind]
  congr 2
  rw [List.all_map]
  rfl
def isI : PyData → Bool
  | .int _ => true
  | _ => false
def wholeB (k : Int) : PyData → Bool
  | .int i => decide (0 ≤ i) && decide (i ≤ k)
  | _ => false
def tupB (lo hi : Int) : PyData → Bool
  | .tuple ds => decide (lo ≤ ds.length) && decide ((ds.length : Int) ≤ hi)
  | _ => false
def thingsB (n lo hi : Int) : PyData → Bool
  | .tuple ds => decide (lo ≤ ds.length) && decide ((ds.length : Int) ≤ hi) && ds.all (wholeB (n - 1))
  | _ => false
theorem plainAll_mem : ∀ {ds : List PyData}, PyData.plainAll ds = true → ∀ d ∈ ds, d.plain = true
  | [], _, d, hd => by cases hd
  | x :: xs, h, d, hd => by
    have h' : x.plain = true ∧ PyData.plainAll xs = true := by simpa [PyData.plainAll] using h
    rcases List.mem_cons.mp hd with rfl | hd
    · exact h'.1
    · exact plainAll_mem h'.2 d hd
theorem plainAll_of : ∀ {ds : List PyData}, (∀ d ∈ ds, d.plain = true) → PyData.plainAll ds = true
  | [], _ => rfl
  | x :: xs, h => by
    rw [PyData.plainAll, h x (by simp), plainAll_of fun d hd => h d (by simp [hd])]
    rfl
theorem eP_plain (n : Nat) (f : Nat → Nat → Nat) : (eP n f).plain = true := by
  unfold eP
  simp only [PyData.plain]
  refine plainAll_of fun d hd => ?_
  obtain ⟨i, _, rfl⟩ := List.mem_map.mp hd
  simp only [PyData.plain]
  refine plainAll_of fun d hd => ?_
  obtain ⟨j, _, rfl⟩ := List.mem_map.mp hd
  rfl
theorem flat_range {α : Type} (m : Nat) (hm : 0 < m) (g : Nat → Nat → α) : ∀ n : Nat, ((List.range n).flatMap fun i => (List.range m).map (g i)) = (List.range (n * m)).map fun k => g (k / m) (k % m)
  | 0 => by simp
  | n + 1 => by
    rw [List.range_succ, List.flatMap_append, flat_range m hm g n, Nat.succ_mul, List.range_add, List.map_append, List.map_map]
    congr 1
    rw [List.flatMap_cons, List.flatMap_nil, List.append_nil]
    refine List.map_congr_left fun j hj => ?_
    have hj' := List.mem_range.mp hj
    show g n j = g ((n * m + j) / m) ((n * m + j) % m)
    have e1 : (n * m + j) / m = n := by rw [Nat.add_comm, Nat.add_mul_div_right _ _ hm, Nat.div_eq_of_lt hj', Nat.zero_add]
    have e2 : (n * m + j) % m = j := by rw [Nat.add_comm, Nat.add_mul_mod_self_right, Nat.mod_eq_of_lt hj']
    rw [e1, e2]
def eI (k : Nat) : PyData := .int (k : Nat)
theorem rangeD_nat (n : Nat) : rangeD 0 (n : Int) = (List.range n).map eI := by
  unfold rangeD
  rw [show ((n : Int) - 0).toNat = n by omega]
  refine List.map_congr_left fun k _ => ?_
  show PyData.int (0 + (k : Int)) = .int (k : Nat)
  rw [Int.zero_add]
theorem range1_nat {n : Nat} (h : n ≤ 16777216) : iRange1 (pure (.int (n : Nat))) = pure ((List.range n).map eI) := by
  simp only [iRange1, pure_bind, asI_int]
  rw [chk_true ⟨by omega, by omega⟩, pure_bind, rangeD_nat]
theorem while_step {τ : Type} {c : τ → M Bool} {b : τ → M (Fl τ τ)} {t t' : τ} (hc : c t = pure true) (hb : b t = pure (.nx t')) : pWhile c b t = pWhile c b t' := by
  rw [pWhile_eq, hc, pure_bind, if_pos rfl, hb, pure_bind]
theorem while_end {τ : Type} {c : τ → M Bool} {b : τ → M (Fl τ τ)} {t : τ} (hc : c t = pure false) : pWhile c b t = pure (.inl t) := by
  rw [pWhile_eq, hc, pure_bind, if_neg (by simp)]
theorem ne_nil {ds : List PyData} (h : PyData.plainAll ds = true) : pne (.list ds) (.list []) = pure (.bool (!ds.isEmpty)) := by
  rw [pne_of]
  · cases ds with
    | nil => rfl
    | cons d ds => rfl
  · simp only [eqOk, PyData.plain, h, Bool.true_and, decide_eq_true_eq]
    have : PyData.depth (.list []) = 1 := rfl
    simp only [PyData.plainAll, Bool.and_true, Bool.true_and, decide_eq_true_eq]
    exact Nat.le_trans (Nat.min_le_right _ _) (by rw [this]; decide)
theorem todo_t {ds : List PyData} (h : PyData.plainAll ds = true) : peekB (DL.tCmp pne (pure (.list ds)) (mLst (runs []))) = pure (!ds.isEmpty) := by
  simp only [DL.tCmp, mLst, runs_nil, pure_bind, ne_nil h, asB_bool, peekB_pure]
theorem plainAll_app {ds es : List PyData} (h : PyData.plainAll ds = true) (g : PyData.plainAll es = true) : PyData.plainAll (ds ++ es) = true := plainAll_of fun d hd => (List.mem_append.mp hd).elim (plainAll_mem h d) (plainAll_mem g d)
theorem ne_app (td : List PyData) (x : PyData) : (td ++ [x]).isEmpty = false := by cases td <;> rfl
def srt : PyData → Int
  | .none => 0
  | .bool _ => 1
  | .int _ => 2
  | .str _ => 3
  | .tuple _ => 4
  | .list _ => 5
  | .dict _ => 6
def Sm : Nat → PyData → Prop
  | 0, d => DL.scal d = true
  | j + 1, d => DL.scal d = true ∨ ∃ ds : List PyData, (d = .tuple ds ∨ d = .list ds) ∧ ds.length ≤ 4096 ∧ ∀ e ∈ ds, Sm j e
theorem scal_plain {d : PyData} (h : DL.scal d = true) : d.plain = true := by cases d <;> first | rfl | cases h
theorem Sm.plain : ∀ {j : Nat} {d : PyData}, Sm j d → d.plain = true
  | 0, d, h => scal_plain h
  | j + 1, d, h => by
    rcases h with h | ⟨ds, rfl | rfl, _, hd⟩
    · exact scal_plain h
    · exact plainAll_of fun e he => (hd e he).plain
    · exact plainAll_of fun e he => (hd e he).plain
theorem Sm.up : ∀ {j : Nat} {d : PyData}, Sm j d → Sm (j + 1) d
  | 0, d, h => .inl h
  | j + 1, d, h => by
    rcases h with h | ⟨ds, h1, h2, hd⟩
    · exact .inl h
    · exact .inr ⟨ds, h1, h2, fun e he => (hd e he).up⟩
theorem eqv_scal {d : PyData} (h : DL.scal d = true) : peq d d = pure (.bool true) := by
  have hp := scal_plain h
  have hz : d.depth = 0 := by cases d <;> first | rfl | cases h
  rw [peq_of (by simp only [eqOk, hp, hz]; rfl)]
  congr 2
  cases d with
  | none => rfl
  | bool b => show (_ == _) = true; simp
  | int i => show (_ == _) = true; simp
  | str x => show (x == x) = true; simp
  | _ => cases h
theorem peq_lists_nil : peq (.list []) (.list []) = pure (.bool true) := rfl
theorem like_walk {r : PyData → PyData → M PyData} {f : PyData × PyData → M PyData} : ∀ ds : List PyData, (∀ d ∈ ds, r d d = pure (.bool true)) → lcM unp2 (fun t2 => tNo (tVal (mCall (ap2 r) [pure t2.1, pure t2.2]))) f (zipD ds ds) = pure []
  | [], _ => rfl
  | d :: ds, h => by
    have ih := like_walk (f := f) ds fun e he => h e (by simp [he])
    have e : zipD (d :: ds) (d :: ds) = .tuple [d, d] :: zipD ds ds := rfl
    have hu : unp2 (.tuple [d, d]) = pure (d, d) := rfl
    rw [e]
    unfold lcM
    have ht : tNo (tVal (mCall (ap2 r) [pure d, pure d])) = pure false := by
      simp only [tNo, tVal, mCall, runs_cons, runs_nil, pure_bind, h d (by simp), liftP_pure, asB_bool]
      rfl
    rw [hu, noexc_pure, pure_bind]
    show (noexc (tNo (tVal (mCall (ap2 r) [pure d, pure d]))) >>= _) = _
    rw [ht, noexc_pure, pure_bind, if_neg (by simp)]
    exact ih
theorem Sm.le {j k : Nat} {d : PyData} (h : Sm j d) (l : j ≤ k) : Sm k d := by
  induction k with
  | zero => rw [Nat.le_zero.mp l] at h; exact h
  | succ k ih =>
    by_cases e : j = k + 1
    · subst e; exact h
    · exact (ih (by omega)).up
theorem whole_nat {k : Int} {d : PyData} (h : wholeB k d = true) : ∃ x : Nat, d = eI x ∧ (x : Int) ≤ k := by
  cases d with
  | int i =>
    have h : (decide (0 ≤ i) && decide (i ≤ k)) = true := h
    rw [Bool.and_eq_true, decide_eq_true_eq, decide_eq_true_eq] at h
    exact ⟨i.toNat, by unfold eI; rw [Int.toNat_of_nonneg h.1], by rw [Int.toNat_of_nonneg h.1]; exact h.2⟩
  | _ => cases h
theorem Tri.castF {τ β : Type} {I : List PyData → Prop} {m : M (Fl Empty β)} {p : Fl τ β → Prop} (h : Tri I m fun fl => match fl with | .rt d => p (.rt d) | .bk b => p (.bk b) | .ct b => p (.ct b) | .nx e => nomatch e) : Tri I (DL.castF m) p := by
  unfold DL.castF
  refine h.bind fun fl hf => ?_
  cases fl with
  | nx t => exact nomatch t
  | bk b => exact Tri.pure hf
  | ct b => exact Tri.pure hf
  | rt d => exact Tri.pure hf
theorem Tri.thenF {τ τ' β : Type} {I : List PyData → Prop} {m : M (Fl τ β)} {k : τ → M (Fl τ' β)} {p : Fl τ' β → Prop} (h : Tri I m fun fl => match fl with | .nx t => Tri I (k t) p | .rt d => p (.rt d) | .bk b => p (.bk b) | .ct b => p (.ct b)) : Tri I (DL.thenF m k) p := by
  unfold DL.thenF
  refine h.bind fun fl hf => ?_
  cases fl with
  | nx t => exact hf
  | bk b => exact Tri.pure hf
  | ct b => exact Tri.pure hf
  | rt d => exact Tri.pure hf
theorem callC1 (g : PyData → M PyData) (x : PyData) : mCallC (ap1 g) [pure x] = g x := by simp only [mCallC, runs_cons, runs_nil, pure_bind]
theorem call1 (g : PyData → M PyData) (x : PyData) : mCall (ap1 g) [pure x] = liftP (g x) := by simp only [mCall, runs_cons, runs_nil, pure_bind]
theorem call2 (g : PyData → PyData → M PyData) (x y : PyData) : mCall (ap2 g) [pure x, pure y] = liftP (g x y) := by simp only [mCall, runs_cons, runs_nil, pure_bind]
theorem call3 (g : PyData → PyData → PyData → M PyData) (x y z : PyData) : mCall (ap3 g) [pure x, pure y, pure z] = liftP (g x y z) := by simp only [mCall, runs_cons, runs_nil, pure_bind]
theorem call4 (g : PyData → PyData → PyData → PyData → M PyData) (x y z u : PyData) : mCall (ap4 g) [pure x, pure y, pure z, pure u] = liftP (g x y z u) := by simp only [mCall, runs_cons, runs_nil, pure_bind]
theorem padd_list (xs ys : List PyData) : padd (.list xs) (.list ys) = (do chk (xs.length + ys.length ≤ sizeLine); pure (.list (xs ++ ys))) := rfl
theorem padd_tuple (xs ys : List PyData) : padd (.tuple xs) (.tuple ys) = (do chk (xs.length + ys.length ≤ sizeLine); pure (.tuple (xs ++ ys))) := rfl
theorem cut_len {α : Type} (xs : List α) (l h : Option Int) : (cutP xs l h).length ≤ xs.length := by
  unfold cutP
  rw [List.length_take, List.length_drop]
  omega
theorem cut_mem {α : Type} {xs : List α} {l h : Option Int} {x : α} (hx : x ∈ cutP xs l h) : x ∈ xs := List.mem_of_mem_drop (List.mem_of_mem_take hx)
theorem cut_plain {xs : List PyData} (h : PyData.plainAll xs = true) (l r : Option Int) : PyData.plainAll (cutP xs l r) = true := plainAll_of fun d hd => plainAll_mem h d (cut_mem hd)
open Classical in
theorem list_choose {α β : Type} (b0 : β) (P : β → Prop) (e : β → α) (l : List α) (h : ∀ x ∈ l, ∃ y, P y ∧ x = e y) : ∃ g : Nat → β, (∀ i, i < l.length → P (g i)) ∧ l = (List.range l.length).map fun i => e (g i) := by
  have key : ∀ i, ∃ y, ∀ hi : i < l.length, P y ∧ l[i] = e y := fun i => by
    by_cases hi : i < l.length
    · obtain ⟨y, h1, h2⟩ := h l[i] (List.getElem_mem hi)
      exact ⟨y, fun _ => ⟨h1, h2⟩⟩
    · exact ⟨b0, fun z => absurd z hi⟩
  refine ⟨fun i => (key i).choose, fun i hi => ((key i).choose_spec hi).1, ?_⟩
  refine List.ext_getElem (by rw [List.length_map, List.length_range]) fun i h1 h2 => ?_
  rw [List.getElem_map, List.getElem_range]
  exact ((key i).choose_spec h1).2
theorem emod_nat (z : Int) {n : Nat} (h : 0 < n) : ∃ v : Nat, v < n ∧ PyData.int (z % (n : Int)) = eI v := by
  have a := Int.emod_nonneg z (show (n : Int) ≠ 0 by omega)
  have b := Int.emod_lt_of_pos z (show (0 : Int) < n by omega)
  exact ⟨(z % n).toNat, by omega, by unfold eI; rw [Int.toNat_of_nonneg a]⟩
theorem small_mul {i j n : Nat} (hi : i < n) (hn : n ≤ 1000000) : CMul (i : Int) (j : Int) := .inl (by omega)
theorem told_row {n i j u by' to : Nat} (hn : n ≤ 8) (hi : i < n) (hj : j < n) (hu : u < n) (hb : by' < n) (ht : to < n) :
    ∃ ds : List PyData, mLst (runs [pure (eI u), mOp pmod (mUn pint (mOp padd (pure (eI i)) (pure (eI j)))) (pure (eI n)), mOp pmod (mUn pint (mOp pmulT (pure (eI i)) (pure (eI j)))) (pure (eI n)), mTwo pmin2 (pure (eI i)) (pure (eI j)),
      mOp pmod (mUn pint (mOp padd (mOp pmulT (pure (eI by')) (pure (eI i))) (mOp pmulT (pure (eI to)) (pure (eI j))))) (pure (eI n)), pure (eI i)]) = pure (.list ds) ∧ ds.length = 6 ∧ ∀ d ∈ ds, ∃ v, v < n ∧ d = eI v := by
  have hn0 : 0 < n := by omega
  have hp : (0 : Int) < (n : Int) := by omega
  obtain ⟨v1, l1, e1⟩ := emod_nat ((i : Int) + j) hn0
  obtain ⟨v2, l2, e2⟩ := emod_nat ((i : Int) * j) hn0
  obtain ⟨v3, l3, e3⟩ := emod_nat ((by' : Int) * i + (to : Int) * j) hn0
  have em : ∃ v, v < n ∧ PyData.int (if (j : Int) < (i : Int) then (j : Int) else i) = eI v := by
    by_cases h : (j : Int) < (i : Int)
    · exact ⟨j, hj, by rw [if_pos h]; rfl⟩
    · exact ⟨i, hi, by rw [if_neg h]; rfl⟩
  obtain ⟨v4, l4, e4⟩ := em
  refine ⟨[eI u, eI v1, eI v2, eI v4, eI v3, eI i], ?_, rfl, fun d hd => ?_⟩
  · have pm : ∀ i j : Nat, i < n → pmulT (.int (i : Int)) (.int (j : Int)) = pure (.int ((i : Int) * j)) := fun i j h => pmul_ok' (small_mul h (by omega))
    have pmin : ∀ i j : Int, pmin2 (.int i) (.int j) = pure (.int (if j < i then j else i)) := fun _ _ => rfl
    unfold eI at *
    simp only [mLst, mOp, mUn, mTwo, runs_cons, runs_nil, pure_bind, padd_int, pint_int, pmod_ok' hp, pm i j hi, pm by' i hb, pm to j ht, pmin, e1, e2, e3, e4]
  · simp only [List.mem_cons, List.not_mem_nil, or_false] at hd
    rcases hd with rfl | rfl | rfl | rfl | rfl | rfl
    · exact ⟨_, hu, rfl⟩
    · exact ⟨_, l1, rfl⟩
    · exact ⟨_, l2, rfl⟩
    · exact ⟨_, l4, rfl⟩
    · exact ⟨_, l3, rfl⟩
    · exact ⟨_, hi, rfl⟩
theorem peq_nil {ds : List PyData} (h : PyData.plainAll ds = true) : peq (.list ds) (.list []) = pure (.bool ds.isEmpty) := by
  rw [peq_of]
  · cases ds with
    | nil => rfl
    | cons d ds => rfl
  · have : PyData.depth (.list []) = 1 := rfl
    simp only [eqOk, PyData.plain, PyData.plainAll, h, Bool.and_true, Bool.true_and, decide_eq_true_eq]
    exact Nat.le_trans (Nat.min_le_right _ _) (by rw [this]; decide)
theorem eI_plain (l : List Nat) : PyData.plainAll (l.map eI) = true := plainAll_of fun d hd => by
  obtain ⟨k, _, rfl⟩ := List.mem_map.mp hd
  rfl
theorem sm_eI (k : Nat) : Sm 0 (eI k) := rfl
theorem sm_list {j : Nat} {ds : List PyData} (h : ds.length ≤ 4096) (hd : ∀ d ∈ ds, Sm j d) : Sm (j + 1) (.list ds) := .inr ⟨ds, .inr rfl, h, hd⟩
theorem sm_bool (j : Nat) (b : Bool) : Sm j (.bool b) := Sm.le (j := 0) rfl (Nat.zero_le _)
theorem Tri.eq {α : Type} {I : List PyData → Prop} {m m' : M α} {p : α → Prop} (e : m = m') (h : Tri I m' p) : Tri I m p := e ▸ h
theorem ifR_no {τ β : Type} {A : M (Fl Empty β)} {B : M (Fl τ β)} {c : M Bool} (h : c = pure false) : sIfR c A B = B := by
  simp only [sIfR, h, pure_bind, Bool.false_eq_true, if_false]
theorem tab_row {n : Nat} (h : n ≤ 8) {g : PyData → M PyData} {y : Nat → PyData} (hg : ∀ j, j < n → g (eI j) = pure (y j)) : mUn ptuple (mLst (oLc (iRange1 (pure (eI n))) (fun d => pure d) (fun _ => pure true) g)) = pure (.tuple ((List.range n).map y)) := by
  have hr : iRange1 (pure (eI n)) = pure ((List.range n).map eI) := range1_nat (by omega)
  unfold oLc
  rw [hr, pure_bind, lcM_map eI y _ fun j hj => hg j (List.mem_range.mp hj)]
  rfl
theorem addL (xs ys : List PyData) (h : xs.length + ys.length ≤ 4096) : mOp padd (pure (.list xs)) (pure (.list ys)) = pure (.list (xs ++ ys)) := by
  simp only [mOp, pure_bind, padd_list]
  rw [chk_true (by rw [sizeLine_eq]; omega), pure_bind]
theorem cut_from {α : Type} (w : List α) (k : Nat) (h : k ≤ w.length) : cutP w (some (k : Int)) none = w.drop k := by
  unfold cutP
  rw [HT.sIx_nat, HT.sIx_none, show min k w.length = k by omega, List.take_of_length_le (by rw [List.length_drop]; omega)]
theorem cut_to {α : Type} (w : List α) (k : Nat) (h : k ≤ w.length) : cutP w none (some (k : Int)) = w.take k := by
  unfold cutP
  rw [HT.sIx_nat, HT.sIx_none, show min k w.length = k by omega, List.drop_zero, Nat.sub_zero]
theorem ifR_yes {τ β : Type} {A : M (Fl Empty β)} {B : M (Fl τ β)} {c : M Bool} (h : c = pure true) : sIfR c A B = castF A := by
  simp only [sIfR, h, pure_bind, if_true]
theorem ifR_pure {τ β : Type} {A : M (Fl Empty β)} {B : M (Fl τ β)} {b : Bool} : sIfR (pure b) A B = if b = true then castF A else B := by
  simp only [sIfR, pure_bind]
theorem M_pure_inj {α : Type} {a b : α} (h : (pure a : M α) = pure b) : a = b := by
  have h2 : (pure a : M α) [] = (pure b : M α) [] := congrFun h []
  rw [M.pure_run, M.pure_run] at h2
  injection h2 with h2
  injection h2
theorem or_not (a b : Bool) : DL.tOr (tNo (tVal (pure (.bool a)))) (tNo (tVal (pure (.bool b)))) = pure (!(a && b)) := by cases a <;> cases b <;> rfl
theorem no_val (a : Bool) : tNo (tVal (pure (.bool a))) = pure (!a) := rfl
theorem or_b (a b : Bool) : DL.tOr (pure a) (pure b) = pure (a || b) := by cases a <;> rfl
theorem or_t (m : M Bool) : DL.tOr (pure true) m = pure true := rfl
theorem or_f (m : M Bool) : DL.tOr (pure false) m = m := rfl
theorem idx0 (d : PyData) (ds : List PyData) : pidx (.tuple (d :: ds)) (.int 0) = pure d := idx_tuple (atI_nat (j := 0) rfl)
end DL
end
section
set_option Elab.async false
set_option linter.all false
set_option maxRecDepth 100000
set_option maxHeartbeats 4000000
set_option autoImplicit false
namespace L82
open PySem PySem.Spec PyProof.Rows L2 RZ DL
noncomputable def b__law_cup (d_script : PyData) : M (Fl Unit Empty) := ((mUn pabs (mOp pidx (mOp padd (mLst (oList (pure d_script))) (mLst (runs [(pure (.int 0))]))) (pure (.int 0)))) >>= fun x1 => (sRetO (runs [(mIf (tCmp pge (pure x1) (mOp ppow (pure (.int 10)) (pure (.int 18)))) (mOp pfdiv (pure x1) (pure (.int 73))) (pure (.int 0))), (mOp padd (mOp pmod (mUn pint (mOp padd (mOp pmulT (pure x1) (pure (.int 283))) (pure (.int 3907)))) (pure (.int 2077503167))) (pure (.int 167)))])))
noncomputable def m__law_cup (d_script : PyData) : M PyData := finish (b__law_cup d_script)
noncomputable def b__law_sort (d_value : PyData) : M (Fl Unit Empty) := (sIfR (tOr (tCmp pisN (pure d_value) (pure .none)) (tVal (mUn (pisT "bool") (pure d_value)))) (sRet (mIf (tCmp pisN (pure d_value) (pure .none)) (pure (.int 0)) (pure (.int 1)))) (sIfR (tOr (tVal (mUn (pisT "int") (pure d_value))) (tVal (mUn (pisT "str") (pure d_value)))) (sRet (mIf (tVal (mUn (pisT "int") (pure d_value))) (pure (.int 2)) (pure (.int 3)))) (sRet (mIf (tVal (mUn (pisT "tuple") (pure d_value))) (pure (.int 4)) (mIf (tVal (mUn (pisT "list") (pure d_value))) (pure (.int 5)) (pure (.int 6)))))))
noncomputable def m__law_sort (d_value : PyData) : M PyData := finish (b__law_sort d_value)
noncomputable def b__law_like (r : PyData → PyData → M PyData) (d_one : PyData) (d_other : PyData) : M (Fl Unit Empty) := ((mCall (ap1 m__law_sort) [(pure d_other)]) >>= fun x1 => (sIfR (tOr (tCmp pne (mCall (ap1 m__law_sort) [(pure d_one)]) (pure x1)) (tCmp peq (pure x1) (pure (.int 6)))) (sRet (pure (.bool false))) (sIfR (tCmp pin (pure x1) (mTup [(pure (.int 4)), (pure (.int 5))])) (sRet (mAnd (mOp peq (mUn plen (pure d_one)) (mUn plen (pure d_other))) (mOp peq (mLst (oLc (iZip' (pure d_one) (pure d_other)) unp2 (fun t2 => (tNo (tVal (mCall (ap2 r) [(pure t2.1), (pure t2.2)])))) (fun t2 => (pure (.int 1))))) (mLst (runs []))))) (sRet (mOp peq (pure d_one) (pure d_other))))))
noncomputable def m__law_like : Nat → PyData → PyData → M PyData
  | 0, _, _ => stuck
  | j + 1, d_one, d_other => finish (b__law_like (m__law_like j) d_one d_other)
noncomputable def b_is_tuple_of (d_value : PyData) (d_low : PyData) (d_high : PyData) : M (Fl Unit Empty) := (sRet (mAnd (mUn (pisT "tuple") (pure d_value)) (mChain ple ple (pure d_low) (mUn plen (pure d_value)) (pure d_high))))
noncomputable def m_is_tuple_of (d_value : PyData) (d_low : PyData) (d_high : PyData) : M PyData := finish (b_is_tuple_of d_value d_low d_high)
noncomputable def b_is_integer (d_value : PyData) : M (Fl Unit Empty) := (sRet (mAnd (mUn (pisT "int") (pure d_value)) (mNot (mUn (pisT "bool") (pure d_value)))))
noncomputable def m_is_integer (d_value : PyData) : M PyData := finish (b_is_integer d_value)
noncomputable def b_is_whole (d_value : PyData) (d_low : PyData) (d_high : PyData) : M (Fl Unit Empty) := (sRet (mAnd (mCall (ap1 m_is_integer) [(pure d_value)]) (mChain ple ple (pure d_low) (pure d_value) (pure d_high))))
noncomputable def m_is_whole (d_value : PyData) (d_low : PyData) (d_high : PyData) : M PyData := finish (b_is_whole d_value d_low d_high)
noncomputable def b_are_things (d_many : PyData) (d_value : PyData) (d_low : PyData) (d_high : PyData) : M (Fl Unit Empty) := (sRet (mAnd (mCall (ap3 m_is_tuple_of) [(pure d_value), (pure d_low), (pure d_high)]) (mUn pall (mLst (oLc (iAll (pure d_value)) (fun d => pure d) (fun t1 => (pure true)) (fun t1 => (mCall (ap3 m_is_whole) [(pure t1), (pure (.int 0)), (mOp psub (pure d_many) (pure (.int 1)))])))))))
noncomputable def m_are_things (d_many : PyData) (d_value : PyData) (d_low : PyData) (d_high : PyData) : M PyData := finish (b_are_things d_many d_value d_low d_high)
noncomputable def b_fits_moving (d_value : PyData) : M (Fl Unit Empty) := (sIfR (tOr (tNo (tVal (mCall (ap3 m_is_tuple_of) [(pure d_value), (pure (.int 1)), (pure (.int 8))]))) (tNo (tVal (mUn pall (mLst (oLc (iAll (pure d_value)) (fun d => pure d) (fun t1 => (pure true)) (fun t1 => (mCall (ap3 m_is_tuple_of) [(pure t1), (pure (.int 1)), (pure (.int 8))])))))))) (sRet (pure (.bool false))) ((mUn plen (mOp pidx (pure d_value) (pure (.int 0)))) >>= fun x2 => (sRet (mUn pall (mLst (oLc (iAll (pure d_value)) (fun d => pure d) (fun t3 => (pure true)) (fun t3 => (mCall (ap4 m_are_things) [(pure x2), (pure t3), (pure x2), (pure x2)]))))))))
noncomputable def m_fits_moving (d_value : PyData) : M PyData := finish (b_fits_moving d_value)
noncomputable def b_need_moving (d_value : PyData) : M (Fl Unit Empty) := (sIfR (tNo (tVal (mCall (ap1 m_fits_moving) [(pure d_value)]))) stuck (pure (.nx ())))
noncomputable def m_need_moving (d_value : PyData) : M PyData := finish (b_need_moving d_value)
noncomputable def b_lot_by (d_letter : PyData) (d_lot : PyData) : M (Fl Unit Empty) := (sRet (mUn ptuple (mLst (oSortSet (mLst (oLc (iAll (pure d_lot)) (fun d => pure d) (fun t1 => (pure true)) (fun t1 => (mOp pidx (pure d_letter) (pure t1)))))))))
noncomputable def m_lot_by (d_letter : PyData) (d_lot : PyData) : M PyData := finish (b_lot_by d_letter d_lot)
noncomputable def b_words_from (d_moving : PyData) (d_lot : PyData) : M (Fl Unit Empty) := (sPar (oDictT (pure d_lot) (mTup [])) (runs [(pure d_lot)]) fun x1 x2 => (sWhile (τ' := List (PyData × PyData) × List PyData) (fun t3 => (peekB (tCmp pne (pure (.list t3.2)) (mLst (runs []))))) (fun t3 => (sPar (mUn (pidx (.list t3.2)) (pure (.int 0))) (oSlO t3.2 (pSome (pure (.int 1))) (pure none)) fun x5 x6 => (sFor (τ' := List (PyData × PyData) × List PyData) (iEnum (pure d_moving)) unp2 (fun x8 t7 => ((mCall (ap2 m_lot_by) [(pure x8.2), (pure x5)]) >>= fun x9 => (sIf (τ' := List (PyData × PyData) × List PyData) (tVal (mDninT t7.1 (pure x9))) (sDPutT (mOp padd (mDGetT t7.1 (pure x5)) (mTup [(pure x8.1)])) (pure x9) t7.1 fun x11 x12 => (sApp (pure x9) t7.2 fun x13 => (pure (.nx ((dPut t7.1 x11 x12), (t7.2 ++ [x13])))))) (pure (.nx (t7.1, t7.2))) fun t10 => (pure (.nx (t10.1, t10.2)))))) (t3.1, x6) fun t7 => (pure (.nx (t7.1, t7.2)))))) (x1, x2) fun t3 => (sRet (pure (.dict t3.1)))))
noncomputable def m_words_from (d_moving : PyData) (d_lot : PyData) : M PyData := finish (b_words_from d_moving d_lot)
noncomputable def b_all_spots (d_moving : PyData) : M (Fl Unit Empty) := (sRet (mTupRg (mUn plen (mOp pidx (pure d_moving) (pure (.int 0))))))
noncomputable def m_all_spots (d_moving : PyData) : M PyData := finish (b_all_spots d_moving)
noncomputable def b_word_to_size (d_moving : PyData) (d_size : PyData) : M (Fl Unit Empty) := ((oLc (iItems (mCall (ap2 m_words_from) [(pure d_moving), (mCall (ap1 m_all_spots) [(pure d_moving)])])) unp2 (fun t1 => (tCmp peq (mUn plen (pure t1.1)) (pure d_size))) (fun t1 => (mTup [(mUn plen (pure t1.2)), (pure t1.2)]))) >>= fun xs2 => (sRet (mIf (tCmp pne (pure (.list xs2)) (mLst (runs []))) (mOp pidx (mUn pmin1 (pure (.list xs2))) (pure (.int 1))) (pure .none))))
noncomputable def m_word_to_size (d_moving : PyData) (d_size : PyData) : M PyData := finish (b_word_to_size d_moving d_size)
noncomputable def b_fewest_to_one (d_moving : PyData) : M (Fl Unit Empty) := ((mCall (ap1 m_need_moving) [(pure d_moving)]) >>= fun _u2 => ((mCall (ap2 m_word_to_size) [(pure d_moving), (pure (.int 1))]) >>= fun x1 => (sRet (mIf (tCmp pnotN (pure x1) (pure .none)) (mUn plen (pure x1)) (pure .none)))))
noncomputable def m_fewest_to_one (d_moving : PyData) : M PyData := finish (b_fewest_to_one d_moving)
noncomputable def b_word_to_one (d_moving : PyData) : M (Fl Unit Empty) := ((mCall (ap1 m_need_moving) [(pure d_moving)]) >>= fun _u1 => (sRet (mCall (ap2 m_word_to_size) [(pure d_moving), (pure (.int 1))])))
noncomputable def m_word_to_one (d_moving : PyData) : M PyData := finish (b_word_to_one d_moving)
noncomputable def b_fits_letters (d_moving : PyData) (d_value : PyData) : M (Fl Unit Empty) := (sRet (mAnd (mCall (ap3 m_is_tuple_of) [(pure d_value), (pure (.int 0)), (pure (.int 200))]) (mUn pall (mLst (oLc (iAll (pure d_value)) (fun d => pure d) (fun t1 => (pure true)) (fun t1 => (mCall (ap3 m_is_whole) [(pure t1), (pure (.int 0)), (mOp psub (mUn plen (pure d_moving)) (pure (.int 1)))])))))))
noncomputable def m_fits_letters (d_moving : PyData) (d_value : PyData) : M PyData := finish (b_fits_letters d_moving d_value)
noncomputable def b_led_to (d_moving : PyData) (d_spot : PyData) (d_word : PyData) : M (Fl Unit Empty) := (sFor (τ' := PyData) (iAll (pure d_word)) (fun d => pure d) (fun x2 t1 => ((mOp pidx (mOp pidx (pure d_moving) (pure x2)) (pure t1)) >>= fun x3 => (pure (.nx x3)))) d_spot fun t1 => (sRet (pure t1)))
noncomputable def m_led_to (d_moving : PyData) (d_spot : PyData) (d_word : PyData) : M PyData := finish (b_led_to d_moving d_spot d_word)
noncomputable def b_row_by (d_moving : PyData) (d_word : PyData) : M (Fl Unit Empty) := (sRet (mUn ptuple (mLst (oLc (iRange1 (mUn plen (mOp pidx (pure d_moving) (pure (.int 0))))) (fun d => pure d) (fun t1 => (pure true)) (fun t1 => (mCall (ap3 m_led_to) [(pure d_moving), (pure t1), (pure d_word)]))))))
noncomputable def m_row_by (d_moving : PyData) (d_word : PyData) : M PyData := finish (b_row_by d_moving d_word)
noncomputable def b_is_word_to_one (d_moving : PyData) (d_value : PyData) : M (Fl Unit Empty) := ((mCall (ap1 m_need_moving) [(pure d_moving)]) >>= fun _u1 => (sRet (mAnd (mCall (ap2 m_fits_letters) [(pure d_moving), (pure d_value)]) (mOp peq (mLenSet (mCall (ap2 m_row_by) [(pure d_moving), (pure d_value)])) (pure (.int 1))))))
noncomputable def m_is_word_to_one (d_moving : PyData) (d_value : PyData) : M PyData := finish (b_is_word_to_one d_moving d_value)
noncomputable def b__law_roll (d_many : PyData) : M (Fl Unit Empty) := (sIfR (tCmp pgt (mCup (pure (.int 0))) (pure (.int 0))) ((mOp pmod (mUn pint (mCup (pure (.int 0)))) (pure d_many)) >>= fun x1 => (sCupSet (mOp pfdiv (mCup (pure (.int 0))) (pure d_many)) (pure (.int 0)) (sRet (pure x1)))) (sCupSet (mOp pmod (mUn pint (mOp padd (mOp pmulT (mCup (pure (.int 1))) (pure (.int 31051))) (pure (.int 7993)))) (pure (.int 2147483543))) (pure (.int 1)) ((mOp pmod (mUn pint (mOp pmulT (mCup (pure (.int 1))) (mOp padd (mCup (pure (.int 1))) (pure (.int 229))))) (pure (.int 2147483587))) >>= fun x2 => (sRet (mOp pmod (mUn pint (mOp pfdiv (pure x2) (pure (.int 821)))) (pure d_many))))))
noncomputable def m__law_roll (d_many : PyData) : M PyData := finish (b__law_roll d_many)
noncomputable def b_need_letters (d_moving : PyData) (d_word : PyData) : M (Fl Unit Empty) := (sIfR (tNo (tVal (mCall (ap2 m_fits_letters) [(pure d_moving), (pure d_word)]))) stuck (pure (.nx ())))
noncomputable def m_need_letters (d_moving : PyData) (d_word : PyData) : M PyData := finish (b_need_letters d_moving d_word)
noncomputable def b_moved_row (d_moving : PyData) (d_word : PyData) : M (Fl Unit Empty) := ((mCall (ap1 m_need_moving) [(pure d_moving)]) >>= fun _u2 => ((mCall (ap2 m_need_letters) [(pure d_moving), (pure d_word)]) >>= fun _u1 => (sRet (mCall (ap2 m_row_by) [(pure d_moving), (pure d_word)]))))
noncomputable def m_moved_row (d_moving : PyData) (d_word : PyData) : M PyData := finish (b_moved_row d_moving d_word)
noncomputable def b_are_apart (d_moving : PyData) (d_one : PyData) (d_other : PyData) : M (Fl Unit Empty) := (sRet (mUn pall (mLst (oLc (iAll (mCall (ap2 m_words_from) [(pure d_moving), (mTup [(pure d_one), (pure d_other)])])) (fun d => pure d) (fun t1 => (pure true)) (fun t1 => (mOp peq (mUn plen (pure t1)) (pure (.int 2))))))))
noncomputable def m_are_apart (d_moving : PyData) (d_one : PyData) (d_other : PyData) : M PyData := finish (b_are_apart d_moving d_one d_other)
noncomputable def b_apart_in (d_moving : PyData) : M (Fl Unit Empty) := (sFor (τ' := Unit) (iRange1 (mUn plen (mOp pidx (pure d_moving) (pure (.int 0))))) (fun d => pure d) (fun x2 t1 => (sFor (τ' := Unit) (iRange1 (pure x2)) (fun d => pure d) (fun x4 t3 => (sIfR (tVal (mCall (ap3 m_are_apart) [(pure d_moving), (pure x4), (pure x2)])) (sRet (mTup [(pure x4), (pure x2)])) (pure (.nx ())))) () fun t3 => (pure (.nx ())))) () fun t1 => (sRet (pure .none)))
noncomputable def m_apart_in (d_moving : PyData) : M PyData := finish (b_apart_in d_moving)
noncomputable def b_apart_spots (d_moving : PyData) : M (Fl Unit Empty) := ((mCall (ap1 m_need_moving) [(pure d_moving)]) >>= fun _u1 => (sRet (mCall (ap1 m_apart_in) [(pure d_moving)])))
noncomputable def m_apart_spots (d_moving : PyData) : M PyData := finish (b_apart_spots d_moving)
noncomputable def b_are_apart_spots (d_moving : PyData) (d_value : PyData) : M (Fl Unit Empty) := ((mCall (ap1 m_need_moving) [(pure d_moving)]) >>= fun _u1 => (sIfR (tOr (tNo (tVal (mCall (ap4 m_are_things) [(mUn plen (mOp pidx (pure d_moving) (pure (.int 0)))), (pure d_value), (pure (.int 2)), (pure (.int 2))]))) (tCmp pge (mOp pidx (pure d_value) (pure (.int 0))) (mOp pidx (pure d_value) (pure (.int 1))))) (sRet (pure (.bool false))) (sRet (mCall (ap3 m_are_apart) [(pure d_moving), (mOp pidx (pure d_value) (pure (.int 0))), (mOp pidx (pure d_value) (pure (.int 1)))]))))
noncomputable def m_are_apart_spots (d_moving : PyData) (d_value : PyData) : M PyData := finish (b_are_apart_spots d_moving d_value)
noncomputable def b__law_lot_by (d_moving : PyData) (d_lot : PyData) (d_word : PyData) : M (Fl Unit Empty) := (sFor (τ' := PyData) (iAll (pure d_word)) (fun d => pure d) (fun x2 t1 => ((mUn ptuple (mLst (oSortSet (mLst (oLc (iAll (pure t1)) (fun d => pure d) (fun t3 => (pure true)) (fun t3 => (mOp pidx (mOp pidx (pure d_moving) (pure x2)) (pure t3)))))))) >>= fun x4 => (pure (.nx x4)))) d_lot fun t1 => (sRet (pure t1)))
noncomputable def m__law_lot_by (d_moving : PyData) (d_lot : PyData) (d_word : PyData) : M PyData := finish (b__law_lot_by d_moving d_lot d_word)
noncomputable def b__law_lengths_of (d_moving : PyData) (d_lot : PyData) : M (Fl Unit Empty) := (sPar_3 (oDictT (pure d_lot) (pure (.int 0))) (mLst (runs [(pure d_lot)])) (pure (.int 0)) fun x1 x2 x3 => (sWhile (τ' := List (PyData × PyData) × PyData × PyData) (fun t4 => (tCmp pne (pure t4.2.1) (mLst (runs [])))) (fun t4 => (sPar (runs []) (mOp padd (pure t4.2.2) (pure (.int 1))) fun x6 x7 => (sFor (τ' := List (PyData × PyData) × List PyData) (iAll (pure t4.2.1)) (fun d => pure d) (fun x9 t8 => (sFor (τ' := List (PyData × PyData) × List PyData) (iRange1 (mUn plen (pure d_moving))) (fun d => pure d) (fun x11 t10 => ((mCall (ap3 m__law_lot_by) [(pure d_moving), (pure x9), (mTup [(pure x11)])]) >>= fun x12 => (sIf (τ' := List (PyData × PyData) × List PyData) (tVal (mDninT t10.1 (pure x12))) (sDPutT (pure x7) (pure x12) t10.1 fun x14 x15 => (sApp (pure x12) t10.2 fun x16 => (pure (.nx ((dPut t10.1 x14 x15), (t10.2 ++ [x16])))))) (pure (.nx (t10.1, t10.2))) fun t13 => (pure (.nx (t13.1, t13.2)))))) (t8.1, t8.2) fun t10 => (pure (.nx (t10.1, t10.2))))) (t4.1, x6) fun t8 => ((pure (.list t8.2)) >>= fun x17 => (pure (.nx (t8.1, x17, x7))))))) (x1, x2, x3) fun t4 => (sRet (pure (.dict t4.1)))))
noncomputable def m__law_lengths_of (d_moving : PyData) (d_lot : PyData) : M PyData := finish (b__law_lengths_of d_moving d_lot)
noncomputable def b__law_word (d_moving : PyData) (d_most : PyData) : M (Fl Unit Empty) := (sRet (mUn ptuple (mLst (oLc (iRange1 (mCallC (ap1 m__law_roll) [(mOp padd (pure d_most) (pure (.int 1)))])) (fun d => pure d) (fun t1 => (pure true)) (fun t1 => (mCallC (ap1 m__law_roll) [(mUn plen (pure d_moving))]))))))
noncomputable def m__law_word (d_moving : PyData) (d_most : PyData) : M PyData := finish (b__law_word d_moving d_most)
noncomputable def b__law_are_apart (d_moving : PyData) (d_value : PyData) : M (Fl Unit Empty) := (sIfR (tOr (tNo (tVal (mUn (pisT "tuple") (pure d_value)))) (tOr (tCmp pne (mUn plen (pure d_value)) (pure (.int 2))) (tCmp pne (mLst (oLc (iAll (pure d_value)) (fun d => pure d) (fun t1 => (tOr (tCmp pne (mCall (ap1 m__law_sort) [(pure t1)]) (pure (.int 2))) (tNo (tVal (mChain ple plt (pure (.int 0)) (pure t1) (mUn plen (mOp pidx (pure d_moving) (pure (.int 0))))))))) (fun t1 => (pure t1)))) (mLst (runs []))))) (sRet (pure (.bool false))) (sRet (mAnd (mOp plt (mOp pidx (pure d_value) (pure (.int 0))) (mOp pidx (pure d_value) (pure (.int 1)))) (mOp peq (mLst (oLc (iAll (mCall (ap2 m__law_lengths_of) [(pure d_moving), (pure d_value)])) (fun d => pure d) (fun t2 => (tCmp peq (mUn plen (pure t2)) (pure (.int 1)))) (fun t2 => (pure t2)))) (mLst (runs []))))))
noncomputable def m__law_are_apart (d_moving : PyData) (d_value : PyData) : M PyData := finish (b__law_are_apart d_moving d_value)
noncomputable def b__law_is_word (d_moving : PyData) (d_value : PyData) : M (Fl Unit Empty) := (sIfR (tOr (tNo (tVal (mUn (pisT "tuple") (pure d_value)))) (tCmp pgt (mUn plen (pure d_value)) (pure (.int 200)))) (sRet (pure (.bool false))) (sRet (mOp peq (mLst (oLc (iAll (pure d_value)) (fun d => pure d) (fun t1 => (tOr (tCmp pne (mCall (ap1 m__law_sort) [(pure t1)]) (pure (.int 2))) (tNo (tVal (mChain ple plt (pure (.int 0)) (pure t1) (mUn plen (pure d_moving))))))) (fun t1 => (pure t1)))) (mLst (runs [])))))
noncomputable def m__law_is_word (d_moving : PyData) (d_value : PyData) : M PyData := finish (b__law_is_word d_moving d_value)
noncomputable def b__law_led_by (d_moving : PyData) (d_spot : PyData) (d_word : PyData) : M (Fl Unit Empty) := (sFor (τ' := PyData) (iAll (pure d_word)) (fun d => pure d) (fun x2 t1 => ((mOp pidx (mOp pidx (pure d_moving) (pure x2)) (pure t1)) >>= fun x3 => (pure (.nx x3)))) d_spot fun t1 => (sRet (pure t1)))
noncomputable def m__law_led_by (d_moving : PyData) (d_spot : PyData) (d_word : PyData) : M PyData := finish (b__law_led_by d_moving d_spot d_word)
noncomputable def b__law_is_to_one (d_moving : PyData) (d_value : PyData) : M (Fl Unit Empty) := (sRet (mAnd (mCall (ap2 m__law_is_word) [(pure d_moving), (pure d_value)]) (mOp peq (mLenSet (mLst (oLc (iRange1 (mUn plen (mOp pidx (pure d_moving) (pure (.int 0))))) (fun d => pure d) (fun t1 => (pure true)) (fun t1 => (mCall (ap3 m__law_led_by) [(pure d_moving), (pure t1), (pure d_value)]))))) (pure (.int 1)))))
noncomputable def m__law_is_to_one (d_moving : PyData) (d_value : PyData) : M PyData := finish (b__law_is_to_one d_moving d_value)
noncomputable def b__law_right (d_moving : PyData) : M (Fl Unit Empty) := ((mUn plen (mOp pidx (pure d_moving) (pure (.int 0)))) >>= fun x1 => ((mCall (ap2 m__law_lengths_of) [(pure d_moving), (mTupRg (pure x1))]) >>= fun x2 => ((oLc (iAll (pure x2)) (fun d => pure d) (fun t3 => (tCmp peq (mUn plen (pure t3)) (pure (.int 1)))) (fun t3 => (mOp pidx (pure x2) (pure t3)))) >>= fun xs4 => (sPar (mCall (ap1 m_word_to_one) [(pure d_moving)]) (mCall (ap1 m_apart_spots) [(pure d_moving)]) fun x5 x6 => ((mIf (tCmp pne (pure (.list xs4)) (mLst (runs []))) (mUn pmin1 (pure (.list xs4))) (pure .none)) >>= fun x7 => (sIfR (tNo (tVal (mCall (ap2 (m__law_like 12)) [(mLst (runs [(mCall (ap1 m_fewest_to_one) [(pure d_moving)]), (mOp pisN (pure x5) (pure .none)), (mOp pisN (pure x6) (pure .none))])), (mLst (runs [(pure x7), (mOp pisN (pure x7) (pure .none)), (mOp pnotN (pure x7) (pure .none))]))]))) (sRet (pure (.bool false))) (sIfR (tAnd (tCmp pnotN (pure x5) (pure .none)) (tOr (tNo (tVal (mCall (ap2 m__law_is_to_one) [(pure d_moving), (pure x5)]))) (tOr (tCmp pne (mUn plen (pure x5)) (pure x7)) (tCmp pgt (mOp pmulT (pure (.int 6)) (pure x7)) (mOp psub (mOp pmulT (mOp pmulT (pure x1) (pure x1)) (pure x1)) (pure x1)))))) (sRet (pure (.bool false))) (sIfR (tAnd (tCmp pnotN (pure x6) (pure .none)) (tNo (tVal (mCall (ap2 m__law_are_apart) [(pure d_moving), (pure x6)])))) (sRet (pure (.bool false))) (sPar (mIf (tCmp pnotN (pure x5) (pure .none)) (pure x5) (mCallC (ap2 m__law_word) [(pure d_moving), (pure (.int 6))])) (mCallC (ap2 m__law_word) [(pure d_moving), (pure (.int 20))]) fun x8 x9 => ((mCallC (ap1 m__law_roll) [(mOp padd (mUn plen (pure x8)) (pure (.int 1)))]) >>= fun x10 => ((runs [(pure x8), (mUn prev (pure x8)), (mLst (oList (pure x8))), (mSl (pure x8) (pSome (pure (.int 1))) (pure none)), (mOp padd (mSl (pure x8) (pure none) (pSome (pure x10))) (mSl (pure x8) (pSome (mOp padd (pure x10) (pure (.int 1)))) (pure none))), (mOp padd (pure x8) (pure x9)), (mOp padd (pure x9) (pure x8)), (pure x9), (pure .none), (mTup []), (pure (.int 5))]) >>= fun xs11 => ((oAdd (pure (.list xs11)) (mLst (oLc (iAll (mTup [(pure .none), (pure (.bool true)), (mUn plen (pure d_moving)), (mUn pneg (pure (.int 1))), (pure (.str "0")), (pure (.int 0))])) (fun d => pure d) (fun t12 => (pure true)) (fun t12 => (mOp padd (mOp padd (mSl (pure x8) (pure none) (pSome (pure x10))) (mTup [(pure t12)])) (mSl (pure x8) (pSome (pure x10)) (pure none))))))) >>= fun xs13 => (sApp (mIf (tCmp plt (mUn plen (mOp padd (pure x8) (pure x9))) (pure (.int 29))) (mOp pmulT (mOp padd (pure x8) (pure x9)) (pure (.int 7))) (pure x9)) xs13 fun x14 => (sIfR (tCmp pne (mLst (oLc (iAll (pure (.list (xs13 ++ [x14])))) (fun d => pure d) (fun t15 => (tNo (tVal (mCall (ap2 (m__law_like 12)) [(mCall (ap2 m_is_word_to_one) [(pure d_moving), (pure t15)]), (mCall (ap2 m__law_is_to_one) [(pure d_moving), (pure t15)])])))) (fun t15 => (pure t15)))) (mLst (runs []))) (sRet (pure (.bool false))) ((runs [(pure x6), (pure .none), (mTup []), (pure (.int 5)), (mTup [(pure (.int 0))]), (mTup [(pure (.int 0)), (pure (.int 0))]), (mTup [(pure (.int 0)), (pure x1)]), (mTup [(pure (.bool true)), (pure (.int 0))]), (mTup [(pure (.int 0)), (pure (.bool true))]), (mLst (runs [(pure (.int 0)), (pure (.int 1))])), (mTup [(pure (.int 0)), (pure (.int 1)), (pure (.int 2))]), (mTup [(mUn pneg (pure (.int 1))), (pure (.int 0))])]) >>= fun xs16 => (sFor (τ' := List PyData) (iRange1 (pure (.int 5))) (fun d => pure d) (fun x18 t17 => (sApp (mTup [(mCallC (ap1 m__law_roll) [(pure x1)]), (mCallC (ap1 m__law_roll) [(pure x1)])]) t17 fun x19 => (pure (.nx (t17 ++ [x19]))))) xs16 fun t17 => (sRet (mOp peq (mLst (oLc (iAll (pure (.list t17))) (fun d => pure d) (fun t20 => (tNo (tVal (mCall (ap2 (m__law_like 12)) [(mCall (ap2 m_are_apart_spots) [(pure d_moving), (pure t20)]), (mCall (ap2 m__law_are_apart) [(pure d_moving), (pure t20)])])))) (fun t20 => (pure t20)))) (mLst (runs []))))))))))))))))))))
noncomputable def m__law_right (d_moving : PyData) : M PyData := finish (b__law_right d_moving)
noncomputable def b__law_order (d_many : PyData) : M (Fl Unit Empty) := (sPar (oListRg (pure d_many)) (runs []) fun x1 x2 => (sWhile (τ' := List PyData × List PyData) (fun t3 => (peekB (tCmp pne (pure (.list t3.1)) (mLst (runs []))))) (fun t3 => (sAppPop (mCallC (ap1 m__law_roll) [(peekM (mUn plen (pure (.list t3.1))))]) t3.2 t3.1 fun n5 x6 => (pure (.nx ((erI t3.1 n5), (t3.2 ++ [x6])))))) (x1, x2) fun t3 => (sRet (mUn ptuple (pure (.list t3.2))))))
noncomputable def m__law_order (d_many : PyData) : M PyData := finish (b__law_order d_many)
noncomputable def b__law_moving (d_most : PyData) : M (Fl Unit Empty) := (sPar (mOp padd (pure (.int 1)) (mCallC (ap1 m__law_roll) [(pure d_most)])) (mOp padd (pure (.int 1)) (mCallC (ap1 m__law_roll) [(mIf (tCmp peq (mCallC (ap1 m__law_roll) [(pure (.int 2))]) (pure (.int 0))) (pure (.int 3)) (pure (.int 8)))])) fun x1 x2 => (sPar (mCallC (ap1 m__law_roll) [(pure (.int 4))]) (runs []) fun x3 x4 => (sFor (τ' := List PyData) (iRange1 (pure x2)) (fun d => pure d) (fun x6 t5 => ((mCallC (ap1 m__law_order) [(pure x1)]) >>= fun x7 => (sIf (τ' := PyData) (tOr (tCmp peq (pure x3) (pure (.int 0))) (tAnd (tCmp peq (pure x3) (pure (.int 1))) (tCmp pgt (pure x6) (pure (.int 0))))) ((mUn ptuple (mLst (oLc (iRange1 (pure x1)) (fun d => pure d) (fun t9 => (pure true)) (fun t9 => (mCallC (ap1 m__law_roll) [(pure x1)]))))) >>= fun x10 => (pure (.nx x10))) (pure (.nx x7)) fun t8 => (sIf (τ' := PyData) (tAnd (tCmp peq (pure x3) (pure (.int 3))) (tCmp pgt (pure x6) (pure (.int 0)))) ((mUn ptuple (mLst (oLc (iRange1 (pure x1)) (fun d => pure d) (fun t12 => (pure true)) (fun t12 => (mIf (tCmp peq (pure t12) (mOp psub (pure x1) (pure (.int 1)))) (pure (.int 0)) (pure t12)))))) >>= fun x13 => (pure (.nx x13))) (pure (.nx t8)) fun t11 => (sApp (pure t11) t5 fun x14 => (pure (.nx (t5 ++ [x14])))))))) x4 fun t5 => (sRet (mUn ptuple (pure (.list t5)))))))
noncomputable def m__law_moving (d_most : PyData) : M PyData := finish (b__law_moving d_most)
noncomputable def b_law (d_script : PyData) : M (Fl Unit Empty) := (sNewCup (oCall (ap1 m__law_cup) [(pure d_script)]) fun cs1 => (sIfR (tNo (tVal (mCall (ap2 (m__law_like 12)) [(mCall (ap1 m_fewest_to_one) [(mTup [(mTup [(pure (.int 1)), (pure (.int 2)), (pure (.int 3)), (pure (.int 4)), (pure (.int 0))]), (mTup [(pure (.int 0)), (pure (.int 1)), (pure (.int 2)), (pure (.int 3)), (pure (.int 0))])])]), (pure (.int 16))]))) (sRet (pure (.bool false))) (sPar (mTup [(mTup [(pure (.int 1)), (pure (.int 2)), (pure (.int 0))]), (mTup [(pure (.int 0)), (pure (.int 1)), (pure (.int 0))])]) (mTup [(mTup [(pure (.int 1)), (pure (.int 0))]), (mTup [(pure (.int 0)), (pure (.int 1))])]) fun x3 x4 => ((mLst (runs [(mCall (ap1 m_fewest_to_one) [(pure x3)]), (mCall (ap1 m_word_to_one) [(pure x3)]), (mCall (ap2 m_is_word_to_one) [(pure x3), (mTup [(pure (.int 1)), (pure (.int 0)), (pure (.int 0)), (pure (.int 1))])]), (mCall (ap2 m_is_word_to_one) [(pure x3), (mTup [(pure (.int 1)), (pure (.int 0)), (pure (.int 1))])]), (mCall (ap1 m_word_to_one) [(mTup [(mTup [(pure (.int 0))])])])])) >>= fun x5 => ((mOp padd (pure x5) (mLst (runs [(mCall (ap1 m_fewest_to_one) [(pure x4)]), (mCall (ap1 m_apart_spots) [(pure x4)]), (mCall (ap1 m_apart_spots) [(pure x3)]), (mCall (ap2 m_are_apart_spots) [(pure x4), (mTup [(pure (.int 0)), (pure (.int 1))])]), (mCall (ap2 m_are_apart_spots) [(pure x4), (mTup [(pure (.int 1)), (pure (.int 0))])])]))) >>= fun x6 => (sIfR (tNo (tVal (mCall (ap2 (m__law_like 12)) [(pure x6), (mLst (runs [(pure (.int 4)), (mTup [(pure (.int 1)), (pure (.int 0)), (pure (.int 0)), (pure (.int 1))]), (pure (.bool true)), (pure (.bool false)), (mTup []), (pure .none), (mTup [(pure (.int 0)), (pure (.int 1))]), (pure .none), (pure (.bool true)), (pure (.bool false))]))]))) (sRet (pure (.bool false))) (sFor (τ' := Unit) (iAll (mTup [(pure (.int 2)), (pure (.int 4)), (pure (.int 6)), (pure (.int 7)), (pure (.int 8))])) (fun d => pure d) (fun x8 t7 => (sIfR (tNo (tVal (mCallC (ap1 m__law_right) [(mCallC (ap1 m__law_moving) [(pure x8)])]))) (sRet (pure (.bool false))) (pure (.nx ())))) () fun t7 => ((mOp padd (pure (.int 2)) (mCallC (ap1 m__law_roll) [(pure (.int 7))])) >>= fun x9 => ((mUn ptuple (mLst (oLc (iRange1 (pure x9)) (fun d => pure d) (fun t10 => (pure true)) (fun t10 => (mOp pmod (mUn pint (mOp padd (pure t10) (pure (.int 1)))) (pure x9)))))) >>= fun x11 => ((mOp padd (mOp padd (mTup [(pure x11)]) (mOp pmulT (mTup [(mTupRg (pure x9))]) (mCallC (ap1 m__law_roll) [(pure (.int 7))]))) (mTup [(mUn ptuple (mLst (oLc (iRange1 (pure x9)) (fun d => pure d) (fun t12 => (pure true)) (fun t12 => (mIf (tCmp peq (pure t12) (mOp psub (pure x9) (pure (.int 1)))) (pure (.int 0)) (pure t12))))))])) >>= fun x13 => (sIfR (tOr (tNo (tVal (mCall (ap2 (m__law_like 12)) [(mCall (ap1 m_fewest_to_one) [(pure x13)]), (mOp pmulT (mOp psub (pure x9) (pure (.int 1))) (mOp psub (pure x9) (pure (.int 1))))]))) (tNo (tVal (mCallC (ap1 m__law_right) [(pure x13)])))) (sRet (pure (.bool false))) ((mTup [(mUn ptuple (mLst (oLc (iRange1 (pure x9)) (fun d => pure d) (fun t14 => (pure true)) (fun t14 => (mTwo pmax2 (pure (.int 0)) (mOp psub (pure t14) (pure (.int 1))))))))]) >>= fun x15 => ((mLst (runs [(mCall (ap1 m_fewest_to_one) [(pure x15)]), (mCall (ap1 m_word_to_one) [(pure x15)]), (mCall (ap1 m_fewest_to_one) [(mTup [(pure x11), (mOp pmulT (mTup [(pure (.int 0))]) (pure x9))])]), (mCall (ap2 m_moved_row) [(pure x15), (mOp pmulT (mTup [(pure (.int 0))]) (mOp psub (pure x9) (pure (.int 1))))])])) >>= fun x16 => (sRet (mCall (ap2 (m__law_like 12)) [(pure x16), (mLst (runs [(mOp psub (pure x9) (pure (.int 1))), (mOp pmulT (mTup [(pure (.int 0))]) (mOp psub (pure x9) (pure (.int 1)))), (pure (.int 1)), (mOp pmulT (mTup [(pure (.int 0))]) (pure x9))]))])))))))))))))))
noncomputable def m_law (d_script : PyData) : M PyData := finish (b_law d_script)
end L82
end
section
set_option Elab.async false
set_option linter.all false
set_option maxRecDepth 100000
set_option maxHeartbeats 4000000
set_option autoImplicit false
namespace DL
open PySem PySem.Spec PyProof.Rows L2 RZ
/-! ### movings: k letters, n spots -/
def eM (k n : Nat) (f : Nat → Nat → Nat) : PyData := .tuple ((List.range k).map fun l => .tuple ((List.range n).map fun s => eI (f l s)))
structure Mo (k n : Nat) (f : Nat → Nat → Nat) : Prop where
  k0 : 0 < k
  k8 : k ≤ 8
  n0 : 0 < n
  n8 : n ≤ 8
  lt : ∀ l s, l < k → s < n → f l s < n
def eWd (w : List Nat) : PyData := .tuple (w.map eI)
def Wd (k : Nat) (w : List Nat) : Prop := ∀ l ∈ w, l < k
def led (f : Nat → Nat → Nat) (s : Nat) (w : List Nat) : Nat := w.foldl (fun s l => f l s) s
theorem led_append (f : Nat → Nat → Nat) (s : Nat) (w v : List Nat) : led f s (w ++ v) = led f (led f s w) v := List.foldl_append
section
variable {k n : Nat} {f : Nat → Nat → Nat} {s t : Nat}
theorem Mo.led (o : Mo k n f) : ∀ (w : List Nat) (s : Nat), s < n → Wd k w → led f s w < n
  | [], s, h, _ => h
  | l :: w, s, h, hw => o.led w (f l s) (o.lt l s (hw l (by simp)) h) fun m hm => hw m (by simp [hm])
theorem Wd.append {w v : List Nat} (h : Wd k w) (g : Wd k v) : Wd k (w ++ v) := fun l hl => (List.mem_append.mp hl).elim (h l) (g l)
/-! ### spots reached -/
def Rch (k : Nat) (f : Nat → Nat → Nat) (s t : Nat) : Prop := ∃ w, Wd k w ∧ led f s w = t
theorem Rch.refl : Rch k f s s := ⟨[], (fun _ h => by cases h), rfl⟩
theorem Rch.step {l : Nat} (h : Rch k f s t) (hl : l < k) : Rch k f s (f l t) := by
  obtain ⟨w, hw, rfl⟩ := h
  exact ⟨w ++ [l], hw.append fun m hm => by simp at hm; omega, by rw [led_append]; rfl⟩
theorem Rch.trans {u : Nat} (h : Rch k f s t) (g : Rch k f t u) : Rch k f s u := by
  obtain ⟨w, hw, rfl⟩ := h
  obtain ⟨v, hv, rfl⟩ := g
  exact ⟨w ++ v, hw.append hv, led_append f s w v⟩
theorem Rch.lt (o : Mo k n f) (h : Rch k f s t) (hs : s < n) : t < n := by
  obtain ⟨w, hw, rfl⟩ := h
  exact o.led w s hs hw
/-- what holds at s and goes along the letters holds at all that is reached -/
theorem Rch.closed {P : Nat → Prop} (h : Rch k f s t) (h0 : P s) (hl : ∀ u l, P u → l < k → P (f l u)) : P t := by
  obtain ⟨w, hw, rfl⟩ := h
  revert s
  induction w with
  | nil => intro s h; exact h
  | cons l w ih => intro s h; exact ih (fun m hm => hw m (by simp [hm])) (hl s l h (hw l (by simp)))
open Classical in
noncomputable def RF (k n : Nat) (f : Nat → Nat → Nat) (s : Nat) : List Nat := (List.range n).filter fun t => decide (Rch k f s t)
open Classical in
theorem mem_RF : t ∈ RF k n f s ↔ t < n ∧ Rch k f s t := by unfold RF; rw [List.mem_filter, List.mem_range, decide_eq_true_eq]
/-! ### lists of ints sorted -/
def natI (k : Nat) : Int := k
theorem eI_int (ns : List Nat) : ns.map eI = (ns.map natI).map .int := by rw [List.map_map]; rfl
theorem srtI_sorted (p : Nat → Bool) (n : Nat) : srtI (((List.range n).filter p).map natI) = ((List.range n).filter p).map natI := by
  unfold srtI
  refine List.mergeSort_of_pairwise ?_
  rw [List.pairwise_map]
  refine (List.pairwise_le_range.filter p).imp fun h => ?_
  simp [natI]
  exact h
theorem nodup_natI {ns : List Nat} (h : ns.Nodup) : (ns.map natI).Nodup := by
  unfold List.Nodup at h ⊢
  rw [List.pairwise_map]
  exact h.imp fun h e => h (Int.ofNat.inj e)
theorem srtI_set {n : Nat} {p : Nat → Bool} {zs : List Int} (nd : zs.Nodup) (h : ∀ z, z ∈ zs ↔ ∃ t : Nat, z = natI t ∧ t < n ∧ p t = true) : srtI zs = ((List.range n).filter p).map natI := by
  rw [← srtI_sorted p n]
  refine srtI_perm (perm_of_mem nd (nodup_natI (List.Pairwise.filter p List.nodup_range)) fun z => ?_)
  rw [h]
  constructor
  · rintro ⟨t, rfl, ht, hp⟩
    exact List.mem_map.mpr ⟨t, List.mem_filter.mpr ⟨List.mem_range.mpr ht, hp⟩, rfl⟩
  · intro hz
    obtain ⟨t, ht, rfl⟩ := List.mem_map.mp hz
    obtain ⟨h1, h2⟩ := List.mem_filter.mp ht
    exact ⟨t, rfl, List.mem_range.mp h1, h2⟩
theorem srtD_nats {n : Nat} {p : Nat → Bool} {ns : List Nat} (nd : ns.Nodup) (h : ∀ t, t ∈ ns ↔ t < n ∧ p t = true) : srtD (ns.map eI) = ((List.range n).filter p).map eI := by
  rw [eI_int, srtD_ints, eI_int, srtI_set (nodup_natI nd) fun z => ?_]
  rw [List.mem_map]
  constructor
  · rintro ⟨t, ht, rfl⟩; exact ⟨t, rfl, (h t).mp ht⟩
  · rintro ⟨t, rfl, ht⟩; exact ⟨t, (h t).mpr ht, rfl⟩
theorem setSort_nats {n : Nat} {p : Nat → Bool} {ns : List Nat} (h : ∀ t, t ∈ ns ↔ t < n ∧ p t = true) : setSort (.inl (ns.map natI)) = ((List.range n).filter p).map eI := by
  show (srtI (nub (ns.map natI))).map PyData.int = _
  rw [srtI_set (nodup_nub _) fun z => ?_, eI_int]
  rw [mem_nub, List.mem_map]
  constructor
  · rintro ⟨t, ht, rfl⟩; exact ⟨t, rfl, (h t).mp ht⟩
  · rintro ⟨t, rfl, ht⟩; exact ⟨t, (h t).mpr ht, rfl⟩
theorem setD_nats {ns : List Nat} (h : ns.length + 1 < scanBound) : setD (.list (ns.map eI)) = pure (.inl (ns.map natI)) := by
  rw [eI_int]
  unfold setD
  dsimp only
  rw [intsOf_map]
  dsimp only
  rw [chk_true (by rw [List.length_map]; exact h), pure_bind]
theorem setD_natsT {ns : List Nat} (h : ns.length + 1 < scanBound) : setD (.tuple (ns.map eI)) = pure (.inl (ns.map natI)) := by
  rw [eI_int]
  unfold setD
  dsimp only
  rw [intsOf_map]
  dsimp only
  rw [chk_true (by rw [List.length_map]; exact h), pure_bind]
theorem alike_int (i j : Int) : W.alike (.int i) (.int j) = true := by simp only [W.alike]
theorem depth_int (i : Int) : (PyData.int i).depth = 0 := rfl
theorem sortOk_nats (ns : List Nat) : sortOk (ns.map eI) = true := by
  unfold sortOk
  rw [eI_plain, Bool.true_and]
  have h1 : alikeB (ns.map eI) = true := by
    unfold alikeB
    rw [List.all_eq_true]
    intro d hd
    obtain ⟨i, _, rfl⟩ := List.mem_map.mp hd
    rw [List.all_eq_true]
    intro e he
    obtain ⟨j, _, rfl⟩ := List.mem_map.mp he
    exact alike_int _ _
  have h2 : (ns.map eI).all isOther = true := by
    rw [List.all_eq_true]
    intro d hd
    obtain ⟨i, _, rfl⟩ := List.mem_map.mp hd
    rfl
  have h3 : (ns.map eI).all (fun d => decide (d.depth ≤ 100)) = true := by
    rw [List.all_eq_true]
    intro d hd
    obtain ⟨i, _, rfl⟩ := List.mem_map.mp hd
    rfl
  rw [h1, h2, h3, Bool.or_true]
  rfl
/-! ### dicts with True at each key -/
section
variable {α : Type} [DecidableEq α] (e : α → PyData)
def tr (ks : List α) : List (PyData × PyData) := ks.map fun a => (e a, .bool true)
theorem dGet_tr (inj : ∀ a b, e a = e b → a = b) (a : α) : ∀ ks : List α, (dGet (tr e ks) (e a)).isSome = decide (a ∈ ks)
  | [] => by simp [tr]
  | b :: ks => by
    show (dGet ((e b, .bool true) :: tr e ks) (e a)).isSome = _
    rw [dGet_cons]
    by_cases h : b = a
    · subst h; simp
    · have h2 : ¬ e b = e a := fun z => h (inj _ _ z)
      have h3 : ¬ a = b := fun z => h z.symm
      rw [if_neg h2, dGet_tr inj a ks]
      simp [h3]
open Classical in
theorem dPut_tr (inj : ∀ a b, e a = e b → a = b) (a : α) (ks : List α) : dPut (tr e ks) (e a) (.bool true) = tr e (if a ∈ ks then ks else ks ++ [a]) := by
  unfold dPut
  rw [dGet_tr e inj a ks]
  by_cases h : a ∈ ks
  · rw [if_pos (by simp [h]), if_pos h]
    unfold tr
    rw [List.map_map]
    refine List.map_congr_left fun b _ => ?_
    show (if e b = e a then (e b, PyData.bool true) else (e b, PyData.bool true)) = (e b, PyData.bool true)
    split <;> rfl
  · rw [if_neg (by simp [h]), if_neg h]
    unfold tr
    rw [List.map_append]
    rfl
theorem tr_keys (ks : List α) : (tr e ks).map (·.1) = ks.map e := by unfold tr; rw [List.map_map]; rfl
/-! ### a search: what is found, what is still to look at -/
def seek (g : Nat → α) (σ : List α × List α) (l : Nat) : List α × List α := if g l ∈ σ.1 then σ else (σ.1 ++ [g l], σ.2 ++ [g l])
theorem seek_fold (g : Nat → α) : ∀ (L : List Nat) (fs ls : List α), ∃ ad, L.foldl (seek g) (fs, ls) = (fs ++ ad, ls ++ ad) ∧ (fs.Nodup → (fs ++ ad).Nodup) ∧ (∀ t ∈ ad, ∃ l ∈ L, t = g l) ∧ ∀ l ∈ L, g l ∈ fs ++ ad
  | [], fs, ls => ⟨[], by simp, by simp, by simp, by simp⟩
  | l :: L, fs, ls => by
    rw [List.foldl_cons]
    by_cases h : g l ∈ fs
    · have e1 : seek g (fs, ls) l = (fs, ls) := by unfold seek; rw [if_pos h]
      rw [e1]
      obtain ⟨ad, h1, h2, h3, h4⟩ := seek_fold g L fs ls
      refine ⟨ad, h1, h2, fun t ht => ?_, fun m hm => ?_⟩
      · obtain ⟨m, hm, e⟩ := h3 t ht
        exact ⟨m, by simp [hm], e⟩
      · rcases List.mem_cons.mp hm with rfl | hm
        · exact List.mem_append_left _ h
        · exact h4 m hm
    · have e1 : seek g (fs, ls) l = (fs ++ [g l], ls ++ [g l]) := by unfold seek; rw [if_neg h]
      rw [e1]
      obtain ⟨ad, h1, h2, h3, h4⟩ := seek_fold g L (fs ++ [g l]) (ls ++ [g l])
      refine ⟨g l :: ad, by rw [h1]; simp, fun nd => ?_, fun t ht => ?_, fun m hm => ?_⟩
      · have := h2 (List.nodup_append.mpr ⟨nd, by simp, fun a ha b hb z => by simp at hb; subst hb; subst z; exact h ha⟩)
        simpa using this
      · rcases List.mem_cons.mp ht with rfl | ht
        · exact ⟨l, by simp, rfl⟩
        · obtain ⟨m, hm, e⟩ := h3 t ht
          exact ⟨m, by simp [hm], e⟩
      · rcases List.mem_cons.mp hm with rfl | hm
        · simp
        · have := h4 m hm
          simpa using this
end
theorem nodup_len {ns : List Nat} (nd : ns.Nodup) {n : Nat} (h : ∀ t ∈ ns, t < n) : ns.length ≤ n := by
  have := nd.length_le_of_subset (l₂ := List.range n) fun t ht => List.mem_range.mpr (h t ht)
  rwa [List.length_range] at this
/-! ### rounds -/
def RL (k : Nat) (f : Nat → Nat → Nat) (s i t : Nat) : Prop := ∃ w, Wd k w ∧ w.length ≤ i ∧ led f s w = t
theorem RL.up {i : Nat} (h : RL k f s i t) : RL k f s (i + 1) t := by obtain ⟨w, h1, h2, h3⟩ := h; exact ⟨w, h1, by omega, h3⟩
theorem RL.step {i l : Nat} (h : RL k f s i t) (hl : l < k) : RL k f s (i + 1) (f l t) := by
  obtain ⟨w, h1, h2, rfl⟩ := h
  exact ⟨w ++ [l], h1.append fun m hm => by simp at hm; omega, by simp; omega, by rw [led_append]; rfl⟩
theorem RL.cases {i : Nat} (h : RL k f s (i + 1) t) : RL k f s i t ∨ ∃ u l, RL k f s i u ∧ l < k ∧ t = f l u := by
  obtain ⟨w, h1, h2, rfl⟩ := h
  by_cases hz : w = []
  · subst hz; exact .inl ⟨[], h1, by simp, rfl⟩
  · have e := (List.dropLast_concat_getLast hz).symm
    refine .inr ⟨led f s w.dropLast, w.getLast hz, ⟨w.dropLast, fun m hm => h1 m (List.dropLast_subset _ hm), by rw [List.length_dropLast]; omega, rfl⟩, h1 _ (List.getLast_mem hz), ?_⟩
    conv => lhs; rw [e, led_append]
    rfl
theorem filter_lt {α : Type} {p q : α → Bool} : ∀ {l : List α} {x : α}, (∀ y ∈ l, p y = true → q y = true) → x ∈ l → q x = true → p x = false → (l.filter p).length < (l.filter q).length
  | [], x, _, hx, _, _ => by cases hx
  | y :: l, x, h, hx, h1, h2 => by
    have le : (l.filter p).length ≤ (l.filter q).length := by
      rw [← List.countP_eq_length_filter, ← List.countP_eq_length_filter]
      exact List.countP_mono_left fun z hz => h z (by simp [hz])
    rw [List.filter_cons, List.filter_cons]
    rcases List.mem_cons.mp hx with rfl | hx
    · rw [h2, h1]
      simp
      omega
    · have ih := filter_lt (fun z hz => h z (by simp [hz])) hx h1 h2
      cases hp : p y with
      | true => rw [h y (by simp) hp]; simp; omega
      | false => cases q y <;> simp <;> omega
open Classical in
theorem RL_rounds (o : Mo k n f) (hs : s < n) : ∀ i, i + 1 ≤ ((List.range n).filter fun t => decide (RL k f s i t)).length ∨ ∀ t l, RL k f s i t → l < k → RL k f s i (f l t)
  | 0 => .inl (List.length_pos_iff.mpr fun e => by
      have : s ∈ (List.range n).filter fun t => decide (RL k f s 0 t) := List.mem_filter.mpr ⟨List.mem_range.mpr hs, decide_eq_true ⟨[], (fun _ h => by cases h), by simp, rfl⟩⟩
      rw [e] at this
      cases this)
  | i + 1 => by
    rcases Classical.em (∀ t l, RL k f s i t → l < k → RL k f s i (f l t)) with hc | hc
    · refine .inr fun t l ht hl => ?_
      have : RL k f s i t := by
        rcases ht.cases with h | ⟨u, m, hu, hm, rfl⟩
        · exact h
        · exact hc u m hu hm
      exact (hc t l this hl).up
    · rcases RL_rounds o hs i with h | h
      · refine .inl ?_
        have : ∃ t l, RL k f s i t ∧ l < k ∧ ¬ RL k f s i (f l t) := Classical.byContradiction fun z => hc fun t l ht hl => Classical.byContradiction fun y => z ⟨t, l, ht, hl, y⟩
        obtain ⟨t, l, ht, hl, hn⟩ := this
        have htn : t < n := by
          obtain ⟨w, hw, _, rfl⟩ := ht
          exact o.led w s hs hw
        have := filter_lt (p := fun t => decide (RL k f s i t)) (q := fun t => decide (RL k f s (i + 1) t)) (l := List.range n) (x := f l t) (fun y _ hy => decide_eq_true (of_decide_eq_true hy : RL k f s i y).up) (List.mem_range.mpr (o.lt l t hl htn)) (decide_eq_true (ht.step hl)) (decide_eq_false hn)
        omega
      · exact absurd h hc
theorem RL_all (o : Mo k n f) (hs : s < n) : RL k f s n t ↔ Rch k f s t := by
  constructor
  · rintro ⟨w, h1, _, h3⟩; exact ⟨w, h1, h3⟩
  · intro h
    have hc : ∀ t l, RL k f s n t → l < k → RL k f s n (f l t) := by
      classical
      rcases RL_rounds o hs n with h | h
      · have := List.length_filter_le (fun t => decide (RL k f s n t)) (List.range n)
        rw [List.length_range] at this
        omega
      · exact h
    exact h.closed ⟨[], (fun _ h => by cases h), by simp, rfl⟩ hc
/-! ### lots that come back -/
noncomputable def lotN (k n : Nat) (f : Nat → Nat → Nat) (s : Nat) : List Nat := (RF k n f s).filter fun t => decide (s ∈ RF k n f t)
noncomputable def lotI (k n : Nat) (f : Nat → Nat → Nat) (s : Nat) : List Int := (lotN k n f s).map natI
theorem mem_lotN (hs : s < n) : t ∈ lotN k n f s ↔ t < n ∧ Rch k f s t ∧ Rch k f t s := by
  unfold lotN
  rw [List.mem_filter, mem_RF, decide_eq_true_eq, mem_RF]
  exact ⟨fun ⟨⟨h1, h2⟩, _, h3⟩ => ⟨h1, h2, h3⟩, fun ⟨h1, h2, h3⟩ => ⟨⟨h1, h2⟩, hs, h3⟩⟩
theorem eRow_lot : eRow (lotI k n f s) = .tuple ((lotN k n f s).map eI) := by unfold eRow lotI; rw [← eI_int]
noncomputable def LS (k n : Nat) (f : Nat → Nat → Nat) : List PyData := (srtR (nub ((List.range n).map (lotI k n f)))).map eRow
theorem eRow_inj {a b : List Int} (h : eRow a = eRow b) : a = b := by
  have h1 : a.map PyData.int = b.map PyData.int := by unfold eRow at h; injection h
  exact (List.map_inj_right (fun x y z => by injection z)).mp h1
end
end DL
end
section
set_option Elab.async false
set_option linter.all false
set_option maxRecDepth 100000
set_option maxHeartbeats 4000000
set_option autoImplicit false
namespace DL
open PySem PySem.Spec PyProof.Rows L2 RZ
theorem eqvAll_ints : ∀ xs ys : List Int, PyData.eqvAll (xs.map .int) (ys.map .int) = decide (xs = ys)
  | [], [] => by simp [PyData.eqvAll]
  | [], y :: ys => by simp [PyData.eqvAll]
  | x :: xs, [] => by simp [PyData.eqvAll]
  | x :: xs, y :: ys => by
    rw [List.map_cons, List.map_cons, PyData.eqvAll, eqvAll_ints xs ys, PyData.eqv]
    by_cases h : x = y <;> by_cases g : xs = ys <;> simp [h, g]
theorem depthAll_ints : ∀ xs : List Int, PyData.depthAll (xs.map .int) = 0
  | [] => rfl
  | x :: xs => by rw [List.map_cons, PyData.depthAll, depthAll_ints xs]; rfl
theorem peq_ints (xs ys : List Int) : peq (.list (xs.map .int)) (.list (ys.map .int)) = pure (.bool (decide (xs = ys))) := by
  have hp : ∀ zs : List Int, PyData.plainAll (zs.map .int) = true := fun zs => plainAll_of fun d hd => by
    obtain ⟨z, _, rfl⟩ := List.mem_map.mp hd
    rfl
  rw [peq_of]
  · congr 2
    show PyData.eqv (.list _) (.list _) = _
    rw [PyData.eqv, eqvAll_ints]
  · simp only [eqOk, PyData.plain, hp, PyData.depth, depthAll_ints]
    decide
theorem natI_inj {xs ys : List Nat} (h : xs.map natI = ys.map natI) : xs = ys := (List.map_inj_right (fun x y z => Int.ofNat.inj z)).mp h
theorem peq_nats (xs ys : List Nat) : peq (.list (xs.map eI)) (.list (ys.map eI)) = pure (.bool (decide (xs = ys))) := by
  rw [eI_int, eI_int, peq_ints]
  congr 2
  rw [decide_eq_decide]
  exact ⟨natI_inj, fun h => by rw [h]⟩
/-! ### as many as there are -/
theorem pigeon {ns : List Nat} {n : Nat} (nd : ns.Nodup) (h : ∀ t ∈ ns, t < n) (hl : n ≤ ns.length) {t : Nat} (ht : t < n) : t ∈ ns := by
  refine Classical.byContradiction fun hn => ?_
  have := nodup_len (ns := t :: ns) (List.nodup_cons.mpr ⟨hn, nd⟩) (n := n) fun u hu => by
    rcases List.mem_cons.mp hu with rfl | hu
    · exact ht
    · exact h u hu
  rw [List.length_cons] at this
  omega
theorem nub_le {α : Type} [DecidableEq α] : ∀ l : List α, (nub l).length ≤ l.length
  | [] => Nat.le_refl _
  | a :: l => by
    unfold nub
    rw [List.length_cons, List.length_cons]
    have := List.length_filter_le (fun b => decide (b ≠ a)) (nub l)
    have := nub_le l
    omega
theorem nub_full {α : Type} [DecidableEq α] : ∀ l : List α, (nub l).length = l.length → l.Nodup
  | [], _ => List.nodup_nil
  | a :: l, h => by
    unfold nub at h
    rw [List.length_cons, List.length_cons] at h
    have h1 := List.length_filter_le (fun b => decide (b ≠ a)) (nub l)
    have h2 := nub_le l
    refine List.nodup_cons.mpr ⟨fun ha => ?_, nub_full l (by omega)⟩
    have : ((nub l).filter fun b => decide (b ≠ a)).length = (nub l).length := by omega
    rw [List.length_filter_eq_length_iff] at this
    have := this a (mem_nub.mpr ha)
    simp at this
theorem nub_self {α : Type} [DecidableEq α] : ∀ {l : List α}, l.Nodup → nub l = l
  | [], _ => rfl
  | a :: l, h => by
    obtain ⟨h1, h2⟩ := List.nodup_cons.mp h
    unfold nub
    rw [nub_self h2, List.filter_eq_self.mpr fun b hb => by simp; intro e; subst e; exact h1 hb]
theorem nub_len {α : Type} [DecidableEq α] (l : List α) : (nub l).length = l.length ↔ l.Nodup := ⟨nub_full l, fun h => by rw [nub_self h]⟩
theorem natI_nodup {ns : List Nat} : (ns.map natI).Nodup ↔ ns.Nodup := ⟨fun h => by
  unfold List.Nodup at h ⊢
  rw [List.pairwise_map] at h
  exact h.imp fun h e => h (by rw [e]), nodup_natI⟩
/-- each thing once: sorted, it is the range -/
theorem srt_range {ns : List Nat} {n : Nat} (h : ∀ t ∈ ns, t < n) (hl : ns.length = n) : (srtD (ns.map eI) = (List.range n).map eI) ↔ ns.Nodup := by
  constructor
  · intro e
    rw [eI_int, srtD_ints, eI_int] at e
    have e2 : srtI (ns.map natI) = (List.range n).map natI := (List.map_inj_right (fun x y z => by injection z)).mp e
    have p : (srtI (ns.map natI)).Perm (ns.map natI) := List.mergeSort_perm _ _
    rw [e2] at p
    exact natI_nodup.mp (p.nodup (nodup_natI List.nodup_range))
  · intro nd
    rw [srtD_nats (n := n) (p := fun _ => true) nd fun t => ⟨fun ht => ⟨h t ht, rfl⟩, fun ht => pigeon nd h (by omega) ht.1⟩, List.filter_eq_self.mpr fun _ _ => rfl]
theorem peq_sorted {ns : List Nat} {n : Nat} (h : ∀ t ∈ ns, t < n) (hl : ns.length = n) : peq (.list (srtD (ns.map eI))) (.list ((List.range n).map eI)) = pure (.bool (decide ns.Nodup)) := by
  have hs := srt_range h hl
  rw [eI_int, srtD_ints, eI_int, peq_ints]
  rw [eI_int, srtD_ints, eI_int] at hs
  congr 2
  rw [decide_eq_decide, ← hs]
  exact ⟨fun h => by rw [h], fun h => (List.map_inj_right (fun x y z => by injection z)).mp h⟩
/-! ### rows sorted -/
theorem alikeAll_ints : ∀ xs ys : List Int, W.alikeAll (xs.map .int) (ys.map .int) = true
  | [], _ => by simp [W.alikeAll]
  | _ :: _, [] => by simp [W.alikeAll]
  | x :: xs, y :: ys => by
    rw [List.map_cons, List.map_cons, W.alikeAll, alike_int, alikeAll_ints xs ys]
    rfl
theorem eRow_plain (r : List Int) : (eRow r).plain = true := plainAll_of fun d hd => by
  obtain ⟨z, _, rfl⟩ := List.mem_map.mp hd
  rfl
theorem sortOk_rows {rs : List (List Int)} (h : ∀ r ∈ rs, r ≠ []) : sortOk (rs.map eRow) = true := by
  unfold sortOk
  have h0 : PyData.plainAll (rs.map eRow) = true := plainAll_of fun d hd => by
    obtain ⟨r, _, rfl⟩ := List.mem_map.mp hd
    exact eRow_plain r
  have h1 : alikeB (rs.map eRow) = true := by
    unfold alikeB
    rw [List.all_eq_true]
    intro d hd
    obtain ⟨r, _, rfl⟩ := List.mem_map.mp hd
    rw [List.all_eq_true]
    intro e he
    obtain ⟨q, _, rfl⟩ := List.mem_map.mp he
    show W.alike (.tuple _) (.tuple _) = true
    simp only [W.alike, alikeAll_ints]
  have h2 : (rs.map eRow).all isTup1 = true := by
    rw [List.all_eq_true]
    intro d hd
    obtain ⟨r, hr, rfl⟩ := List.mem_map.mp hd
    have := h r hr
    cases r with
    | nil => exact absurd rfl this
    | cons x r => rfl
  have h3 : (rs.map eRow).all (fun d => decide (d.depth ≤ 100)) = true := by
    rw [List.all_eq_true]
    intro d hd
    obtain ⟨r, _, rfl⟩ := List.mem_map.mp hd
    rw [decide_eq_true_eq]
    show PyData.depth (.tuple _) ≤ 100
    rw [PyData.depth, depthAll_ints]
    decide
  rw [h0, h1, h2, h3]
  rfl
theorem setD_rows {rs : List (List Int)} (h1 : rs.length < 64) (h2 : rs ≠ []) (h3 : [] ∉ rs) : setD (.list (rs.map eRow)) = pure (.inr rs) := by
  unfold setD
  dsimp only
  have : intsOf (rs.map eRow) = none := by
    cases rs with
    | nil => exact absurd rfl h2
    | cons r rs => rfl
  rw [this]
  dsimp only
  rw [rowsD_map]
  dsimp only
  rw [chk_true ⟨h1, h2, h3⟩, pure_bind]
section
variable {k n : Nat} {f : Nat → Nat → Nat} {s t : Nat}
open Classical in
theorem srtD_RF {fs : List Nat} (nd : fs.Nodup) (h : ∀ t, t ∈ fs ↔ t < n ∧ Rch k f s t) : srtD (fs.map eI) = (RF k n f s).map eI := by
  unfold RF
  rw [srtD_nats nd fun t => ?_]
  rw [decide_eq_true_eq]
  exact h t
open Classical in
theorem setSort_RL (o : Mo k n f) (hs : s < n) {ns : List Nat} {i : Nat} (h : ∀ t, t ∈ ns ↔ t < n ∧ RL k f s i t) : setSort (.inl (ns.map natI)) = ((List.range n).filter fun t => decide (RL k f s i t)).map eI :=
  setSort_nats fun t => by rw [decide_eq_true_eq]; exact h t
open Classical in
theorem RL_RF (o : Mo k n f) (hs : s < n) : ((List.range n).filter fun t => decide (RL k f s n t)) = RF k n f s := by
  unfold RF
  congr 1
  funext t
  rw [decide_eq_decide]
  exact RL_all o hs
theorem self_lot (hs : s < n) : s ∈ lotN k n f s := (mem_lotN hs).mpr ⟨hs, .refl, .refl⟩
theorem lotI_ne (hs : s < n) : lotI k n f s ≠ [] := fun e => by
  have : natI s ∈ lotI k n f s := List.mem_map_of_mem (self_lot hs)
  rw [e] at this
  cases this

open Classical in
theorem LS_one (n0 : 0 < n) (h : ∀ s t, s < n → t < n → Rch k f s t) : LS k n f = [.tuple ((List.range n).map eI)] := by
  have e : ∀ s ∈ List.range n, lotI k n f s = (List.range n).map natI := fun s hs => by
    unfold lotI lotN RF
    congr 1
    have hs' := List.mem_range.mp hs
    rw [List.filter_filter, List.filter_eq_self.mpr fun t ht => ?_]
    have ht' := List.mem_range.mp ht
    have : s ∈ RF k n f t := mem_RF.mpr ⟨hs', h t s ht' hs'⟩
    unfold RF at this
    rw [decide_eq_true this, Bool.true_and]
    exact decide_eq_true (h s t hs' ht')
  have e2 : nub ((List.range n).map (lotI k n f)) = [(List.range n).map natI] := by
    rw [List.map_congr_left e]
    obtain ⟨m, rfl⟩ : ∃ m, n = m + 1 := ⟨n - 1, by omega⟩
    generalize (List.range (m + 1)).map natI = R
    generalize m + 1 = j at n0
    induction j with
    | zero => omega
    | succ j ih =>
      rw [List.range_succ_eq_map, List.map_cons, List.map_map]
      unfold nub
      congr 1
      rw [List.filter_eq_nil_iff]
      intro a ha
      rw [mem_nub, List.mem_map] at ha
      obtain ⟨_, _, rfl⟩ := ha
      simp
  unfold LS
  rw [e2]
  have e3 : srtR [(List.range n).map natI] = [(List.range n).map natI] := List.mergeSort_of_pairwise (by simp)
  rw [e3]
  show [eRow _] = _
  unfold eRow
  rw [← eI_int]
/-- the lots, where there is no way back -/
theorem LS_down (h : ∀ s t, s < n → t < n → (Rch k f s t ↔ t ≤ s)) : LS k n f = (List.range n).map fun s => .tuple [eI s] := by
  have e : ∀ s ∈ List.range n, lotI k n f s = [natI s] := fun s hs => by
    have hs' := List.mem_range.mp hs
    have : lotN k n f s = [s] := by
      have hp : (lotN k n f s).Perm [s] := perm_of_mem ((List.nodup_range.filter _).filter _) (by simp) fun t => by
        rw [mem_lotN hs', List.mem_singleton]
        constructor
        · rintro ⟨ht, h1, h2⟩
          have := (h s t hs' ht).mp h1
          have := (h t s ht hs').mp h2
          omega
        · rintro rfl; exact ⟨hs', .refl, .refl⟩
      exact List.perm_singleton.mp hp
    unfold lotI
    rw [this]
    rfl
  have e1 : (List.range n).map (lotI k n f) = (List.range n).map fun s => [natI s] := List.map_congr_left e
  have nd : ((List.range n).map fun s => [natI s]).Nodup := by
    unfold List.Nodup
    rw [List.pairwise_map]
    exact List.nodup_range.imp fun h z => h (by injection z with z _; exact Int.ofNat.inj z)
  have so : srtR ((List.range n).map fun s => [natI s]) = (List.range n).map fun s => [natI s] := by
    unfold srtR
    refine List.mergeSort_of_pairwise ?_
    rw [List.pairwise_map]
    refine List.pairwise_lt_range.imp fun h => ?_
    rw [decide_eq_true_eq]
    rename_i a b
    refine List.not_lt.mp fun z => ?_
    have hab : natI a < natI b := by unfold natI; omega
    have h2 := (List.cons_lt_cons_iff (a := natI b) (b := natI a) (l₁ := []) (l₂ := [])).mp z
    rcases h2 with h2 | ⟨_, h2⟩
    · omega
    · exact absurd h2 (by simp)
  unfold LS
  rw [e1, nub_self nd, so, List.map_map]
  rfl
end
end DL
end
section
set_option Elab.async false
set_option linter.all false
set_option maxRecDepth 100000
set_option maxHeartbeats 4000000
set_option autoImplicit false
namespace DL
open PySem PySem.Spec PyProof.Rows L2 RZ
/-! ### lots led on -/
def img (n : Nat) (g : Nat → Nat) (X : List Nat) : List Nat := (List.range n).filter fun t => decide (t ∈ X.map g)
def imgW (n : Nat) (f : Nat → Nat → Nat) (X : List Nat) (w : List Nat) : List Nat := w.foldl (fun Y l => img n (f l) Y) X
section
variable {k n : Nat} {f : Nat → Nat → Nat} {g : Nat → Nat} {X Y : List Nat} {s t : Nat} {w v : List Nat}
theorem mem_img : t ∈ img n g X ↔ t < n ∧ ∃ s ∈ X, g s = t := by
  unfold img
  rw [List.mem_filter, List.mem_range, decide_eq_true_eq, List.mem_map]
theorem imgW_append : imgW n f X (w ++ v) = imgW n f (imgW n f X w) v := List.foldl_append
theorem imgW_one (l : Nat) : imgW n f X (w ++ [l]) = img n (f l) (imgW n f X w) := imgW_append
/-- a lot: in order, of spots below n -/
def Lot (n : Nat) (X : List Nat) : Prop := X = (List.range n).filter fun t => decide (t ∈ X)
theorem lot_filter (p : Nat → Bool) : Lot n ((List.range n).filter p) := by
  unfold Lot
  refine List.filter_congr fun t ht => ?_
  rw [eq_comm, Bool.eq_iff_iff, decide_eq_true_eq, List.mem_filter]
  exact ⟨fun h => h.2, fun h => ⟨ht, h⟩⟩
theorem lot_img : Lot n (img n g X) := lot_filter _
theorem Lot.lt (h : Lot n X) : ∀ t ∈ X, t < n := fun t ht => by
  unfold Lot at h
  rw [h] at ht
  exact List.mem_range.mp (List.mem_filter.mp ht).1
theorem Lot.nd (h : Lot n X) : X.Nodup := by
  unfold Lot at h
  rw [h]
  exact List.nodup_range.filter _
theorem Lot.len (h : Lot n X) : X.length ≤ n := nodup_len h.nd h.lt
theorem Lot.ext (h : Lot n X) (h' : Lot n Y) (e : ∀ t, t ∈ X ↔ t ∈ Y) : X = Y := by
  unfold Lot at h h'
  rw [h, h']
  refine List.filter_congr fun t _ => ?_
  rw [decide_eq_decide]
  exact e t
theorem lot_range : Lot n (List.range n) := by
  unfold Lot
  rw [List.filter_eq_self.mpr fun t ht => decide_eq_true ht]
theorem Lot.imgW (h : Lot n X) : ∀ (w : List Nat), Lot n (imgW n f X w) := fun w => by
  rcases List.eq_nil_or_concat w with rfl | ⟨u, l, rfl⟩
  · exact h
  · rw [List.concat_eq_append, imgW_one]; exact lot_img
theorem mem_imgW (o : Mo k n f) : ∀ (w : List Nat) (X : List Nat), (∀ s ∈ X, s < n) → Wd k w → (t ∈ imgW n f X w ↔ ∃ s ∈ X, led f s w = t)
  | [], X, _, _ => ⟨fun h => ⟨t, h, rfl⟩, fun ⟨s, h, e⟩ => by have : s = t := e; subst this; exact h⟩
  | l :: w, X, hX, hw => by
    have hl := hw l (by simp)
    show t ∈ imgW n f (img n (f l) X) w ↔ _
    rw [mem_imgW o w (img n (f l) X) (fun s hs => (mem_img.mp hs).1) fun m hm => hw m (by simp [hm])]
    constructor
    · rintro ⟨s, hs, e⟩
      obtain ⟨_, u, hu, rfl⟩ := mem_img.mp hs
      exact ⟨u, hu, e⟩
    · rintro ⟨u, hu, e⟩
      exact ⟨f l u, mem_img.mpr ⟨o.lt l u hl (hX u hu), u, hu, rfl⟩, e⟩
/-- all lots -/
def subs : List Nat → List (List Nat)
  | [] => [[]]
  | a :: l => subs l ++ (subs l).map (a :: ·)
theorem subs_len : ∀ l : List Nat, (subs l).length = 2 ^ l.length
  | [] => rfl
  | a :: l => by
    show (subs l ++ (subs l).map (a :: ·)).length = _
    rw [List.length_append, List.length_map, subs_len l, List.length_cons, Nat.pow_succ]
    omega
theorem mem_subs (p : Nat → Bool) : ∀ l : List Nat, l.filter p ∈ subs l
  | [] => by simp [subs]
  | a :: l => by
    show (a :: l).filter p ∈ subs l ++ (subs l).map (a :: ·)
    rw [List.filter_cons]
    split
    · exact List.mem_append_right _ (List.mem_map_of_mem (mem_subs p l))
    · exact List.mem_append_left _ (mem_subs p l)
theorem lots_len {L : List (List Nat)} (nd : L.Nodup) (h : ∀ X ∈ L, Lot n X) (n8 : n ≤ 8) : L.length ≤ 256 := by
  have := nd.length_le_of_subset (l₂ := subs (List.range n)) fun X hX => by
    have := h X hX
    unfold Lot at this
    rw [this]
    exact mem_subs _ _
  rw [subs_len, List.length_range] at this
  have h2 : 2 ^ n ≤ 2 ^ 8 := Nat.pow_le_pow_right (by decide) n8
  omega
/-! ### search, shortest first -/
section
variable {P : Type} (len : P → Nat) (good : List Nat → P → Prop)
/-- from the lot key on, with what is new -/
def bput (n : Nat) (f : Nat → Nat → Nat) (key : List Nat) (new : Nat → P) (fs : List (List Nat × P)) (l : Nat) : List (List Nat × P) := if img n (f l) key ∈ fs.map (·.1) then fs else fs ++ [(img n (f l) key, new l)]
theorem bput_fold (n : Nat) (f : Nat → Nat → Nat) (key : List Nat) (new : Nat → P) : ∀ (L : List Nat) (fs : List (List Nat × P)), ∃ ad, L.foldl (bput n f key new) fs = fs ++ ad ∧ ((fs.map (·.1)).Nodup → ((fs ++ ad).map (·.1)).Nodup) ∧ (∀ e ∈ ad, ∃ l ∈ L, e = (img n (f l) key, new l)) ∧ ∀ l ∈ L, img n (f l) key ∈ (fs ++ ad).map (·.1)
  | [], fs => ⟨[], by simp, by simp, by simp, by simp⟩
  | l :: L, fs => by
    rw [List.foldl_cons]
    by_cases h : img n (f l) key ∈ fs.map (·.1)
    · have e1 : bput n f key new fs l = fs := by unfold bput; rw [if_pos h]
      rw [e1]
      obtain ⟨ad, h1, h2, h3, h4⟩ := bput_fold n f key new L fs
      refine ⟨ad, h1, h2, fun t ht => ?_, fun m hm => ?_⟩
      · obtain ⟨m, hm, e⟩ := h3 t ht
        exact ⟨m, by simp [hm], e⟩
      · rcases List.mem_cons.mp hm with rfl | hm
        · rw [List.map_append]; exact List.mem_append_left _ h
        · exact h4 m hm
    · have e1 : bput n f key new fs l = fs ++ [(img n (f l) key, new l)] := by unfold bput; rw [if_neg h]
      rw [e1]
      obtain ⟨ad, h1, h2, h3, h4⟩ := bput_fold n f key new L (fs ++ [(img n (f l) key, new l)])
      have ea : fs ++ [(img n (f l) key, new l)] ++ ad = fs ++ (img n (f l) key, new l) :: ad := by simp
      rw [ea] at h1 h2 h4
      refine ⟨(img n (f l) key, new l) :: ad, h1, fun nd => h2 ?_, fun t ht => ?_, fun m hm => ?_⟩
      · rw [List.map_append]
        exact List.nodup_append.mpr ⟨nd, by simp, fun a ha b hb z => by simp at hb; subst hb; subst z; exact h ha⟩
      · rcases List.mem_cons.mp ht with rfl | ht
        · exact ⟨l, by simp, rfl⟩
        · obtain ⟨m, hm, e⟩ := h3 t ht
          exact ⟨m, by simp [hm], e⟩
      · rcases List.mem_cons.mp hm with rfl | hm
        · rw [List.map_append]; simp
        · exact h4 m hm
/-- what stands, as far as the first i are done -/
structure Bf (k n : Nat) (f : Nat → Nat → Nat) (X : List Nat) (fs : List (List Nat × P)) (i : Nat) : Prop where
  nd : (fs.map (·.1)).Nodup
  gd : ∀ e ∈ fs, Lot n e.1 ∧ good e.1 e.2
  mono : fs.Pairwise fun a b => len a.2 ≤ len b.2
  top : ∀ cur, fs[i]? = some cur → ∀ e ∈ fs, len e.2 ≤ len cur.2 + 1
  dn : ∀ j, j < i → ∀ e, fs[j]? = some e → ∀ l, l < k → ∃ e' ∈ fs, e'.1 = img n (f l) e.1 ∧ len e'.2 ≤ len e.2 + 1
  pos : ∀ j e, fs[j]? = some e → len e.2 ≤ j
  st : ∃ p, (X, p) ∈ fs ∧ len p = 0
  il : i ≤ fs.length
theorem Bf.next {fs : List (List Nat × P)} {i : Nat} (b : Bf len good k n f X fs i) {cur : List Nat × P} (hc : fs[i]? = some cur) (new : Nat → P) (hl : ∀ l, l < k → len (new l) = len cur.2 + 1) (hg : ∀ l, l < k → good (img n (f l) cur.1) (new l)) :
    ∃ ad, (List.range k).foldl (bput n f cur.1 new) fs = fs ++ ad ∧ Bf len good k n f X (fs ++ ad) (i + 1) ∧ ∀ e ∈ ad, ∃ l, l < k ∧ e = (img n (f l) cur.1, new l) := by
  obtain ⟨ad, h1, h2, h3, h4⟩ := bput_fold n f cur.1 new (List.range k) fs
  have hi := (List.getElem?_eq_some_iff.mp hc).1
  have hcm : cur ∈ fs := List.mem_of_getElem? hc
  have had : ∀ e ∈ ad, ∃ l, l < k ∧ e = (img n (f l) cur.1, new l) := fun e he => by
    obtain ⟨l, hl, e1⟩ := h3 e he
    exact ⟨l, List.mem_range.mp hl, e1⟩
  have hlen : ∀ e ∈ ad, len e.2 = len cur.2 + 1 := fun e he => by
    obtain ⟨l, hk, rfl⟩ := had e he
    exact hl l hk
  have hle : ∀ e ∈ fs ++ ad, len e.2 ≤ len cur.2 + 1 := fun e he => by
    rcases List.mem_append.mp he with he | he
    · exact b.top cur hc e he
    · exact Nat.le_of_eq (hlen e he)
  refine ⟨ad, h1, ⟨h2 b.nd, fun e he => ?_, ?_, fun c hc' e he => ?_, fun j hj e he l hk => ?_, fun j e he => ?_, ?_, by rw [List.length_append]; omega⟩, had⟩
  · rcases List.mem_append.mp he with he | he
    · exact b.gd e he
    · obtain ⟨l, hk, rfl⟩ := had e he
      exact ⟨lot_img, hg l hk⟩
  · refine List.pairwise_append.mpr ⟨b.mono, ?_, fun a ha c hc' => ?_⟩
    · refine List.pairwise_of_forall_mem_list fun a ha c hc' => ?_
      rw [hlen a ha, hlen c hc']
      exact Nat.le_refl _
    · rw [hlen c hc']
      exact b.top cur hc a ha
  · -- the next one is not shorter
    have : len cur.2 ≤ len c.2 := by
      by_cases h : i + 1 < fs.length
      · rw [List.getElem?_append_left h] at hc'
        have hp := List.pairwise_iff_getElem.mp b.mono i (i + 1) hi h (by omega)
        rw [(List.getElem?_eq_some_iff.mp hc).2, (List.getElem?_eq_some_iff.mp hc').2] at hp
        exact hp
      · rw [List.getElem?_append_right (by omega)] at hc'
        rw [hlen c (List.mem_of_getElem? hc')]
        omega
    have := hle e he
    omega
  · have hjl : j < fs.length := by omega
    rw [List.getElem?_append_left hjl] at he
    by_cases hji : j < i
    · obtain ⟨e', h5, h6, h7⟩ := b.dn j hji e he l hk
      exact ⟨e', List.mem_append_left _ h5, h6, h7⟩
    · have : j = i := by omega
      subst this
      rw [hc] at he
      cases he
      have := h4 l (List.mem_range.mpr hk)
      obtain ⟨e', h5, h6⟩ := List.mem_map.mp this
      exact ⟨e', h5, h6, hle e' h5⟩
  · by_cases hjl : j < fs.length
    · rw [List.getElem?_append_left hjl] at he
      exact b.pos j e he
    · rw [List.getElem?_append_right (by omega)] at he
      rw [hlen e (List.mem_of_getElem? he)]
      have := b.pos i cur hc
      omega
  · obtain ⟨p, h5, h6⟩ := b.st
    exact ⟨p, List.mem_append_left _ h5, h6⟩
theorem Bf.size {fs : List (List Nat × P)} {i : Nat} (b : Bf len good k n f X fs i) (n8 : n ≤ 8) : fs.length ≤ 256 := by
  have := lots_len b.nd (n := n) (fun Y hY => by
    obtain ⟨e, he, rfl⟩ := List.mem_map.mp hY
    exact (b.gd e he).1) n8
  rwa [List.length_map] at this
/-- all done: a way of least length to each -/
theorem Bf.fin {fs : List (List Nat × P)} (b : Bf len good k n f X fs fs.length) : ∀ w, Wd k w → ∃ e ∈ fs, e.1 = imgW n f X w ∧ len e.2 ≤ w.length := by
  intro w
  generalize hm : w.length = m
  induction m generalizing w with
  | zero =>
    intro _
    have : w = [] := List.length_eq_zero_iff.mp hm
    subst this
    obtain ⟨p, h1, h2⟩ := b.st
    exact ⟨_, h1, rfl, by rw [h2]; exact Nat.le_refl _⟩
  | succ m ih =>
    intro hw
    rcases List.eq_nil_or_concat w with rfl | ⟨u, l, rfl⟩
    · cases hm
    · rw [List.concat_eq_append] at *
      rw [List.length_append] at hm
      obtain ⟨e, h1, h2, h3⟩ := ih u (by simp at hm; exact hm) fun j hj => hw j (by simp [hj])
      obtain ⟨j, hj, ej⟩ := List.mem_iff_getElem.mp h1
      obtain ⟨e', h4, h5, h6⟩ := b.dn j hj e (by rw [List.getElem?_eq_getElem hj, ej]) l (hw l (by simp))
      refine ⟨e', h4, ?_, by omega⟩
      rw [h5, h2, imgW_one]
theorem Bf.start (hX : Lot n X) {p : P} (hp : len p = 0) (hg : good X p) : Bf len good k n f X [(X, p)] 0 := by
  refine ⟨by simp, fun e he => ?_, by simp, fun c hc e he => ?_, fun j hj => absurd hj (Nat.not_lt_zero _), fun j e he => ?_, ⟨p, by simp, hp⟩, Nat.zero_le _⟩
  · simp at he; subst he; exact ⟨hX, hg⟩
  · simp at he; subst he; rw [hp]; exact Nat.zero_le _
  · have : e ∈ [(X, p)] := List.mem_of_getElem? he
    simp at this
    subst this
    rw [hp]; exact Nat.zero_le _
end
end
end DL
end
section
set_option Elab.async false
set_option linter.all false
set_option maxRecDepth 100000
set_option maxHeartbeats 4000000
set_option autoImplicit false
namespace DL
/-! ### more rows than columns: a relation -/
def sumN (m : Nat) (g : Nat → Int) : Int := match m with
  | 0 => 0
  | m + 1 => sumN m g + g m
theorem sumN_congr {g h : Nat → Int} : ∀ {m : Nat}, (∀ i, i < m → g i = h i) → sumN m g = sumN m h
  | 0, _ => rfl
  | m + 1, e => by
    show sumN m g + g m = sumN m h + h m
    rw [sumN_congr fun i hi => e i (by omega), e m (by omega)]
theorem sumN_zero {g : Nat → Int} : ∀ {m : Nat}, (∀ i, i < m → g i = 0) → sumN m g = 0
  | 0, _ => rfl
  | m + 1, e => by
    show sumN m g + g m = 0
    rw [sumN_zero fun i hi => e i (by omega), e m (by omega)]
    rfl
theorem sumN_add (g h : Nat → Int) : ∀ m, sumN m (fun i => g i + h i) = sumN m g + sumN m h
  | 0 => rfl
  | m + 1 => by
    show sumN m (fun i => g i + h i) + (g m + h m) = (sumN m g + g m) + (sumN m h + h m)
    rw [sumN_add g h m]
    omega
theorem sumN_mul (a : Int) (g : Nat → Int) : ∀ m, sumN m (fun i => a * g i) = a * sumN m g
  | 0 => by show (0 : Int) = a * 0; simp
  | m + 1 => by
    show sumN m (fun i => a * g i) + a * g m = a * (sumN m g + g m)
    rw [sumN_mul a g m, Int.mul_add]
theorem sumN_mulr (a : Int) (g : Nat → Int) (m : Nat) : sumN m (fun i => g i * a) = sumN m g * a := by
  have := sumN_mul a g m
  rw [Int.mul_comm a] at this
  rw [← this]
  exact sumN_congr fun i _ => Int.mul_comm _ _
/-- all but i0 -/
def skip (i0 i : Nat) : Nat := if i < i0 then i else i + 1
theorem sumN_skip (g : Nat → Int) (i0 : Nat) : ∀ m, i0 ≤ m → sumN (m + 1) g = sumN m (fun i => g (skip i0 i)) + g i0
  | 0, h => by
    have : i0 = 0 := by omega
    subst this
    rfl
  | m + 1, h => by
    by_cases e : i0 = m + 1
    · subst e
      show sumN (m + 1) g + g (m + 1) = _
      congr 1
      refine sumN_congr fun i hi => ?_
      unfold skip
      rw [if_pos hi]
    · show sumN (m + 1) g + g (m + 1) = (sumN m (fun i => g (skip i0 i)) + g (skip i0 m)) + g i0
      rw [sumN_skip g i0 m (by omega)]
      have : skip i0 m = m + 1 := by unfold skip; rw [if_neg (by omega)]
      rw [this]
      omega
theorem relation {ι : Type} : ∀ (L : List ι) (m : Nat) (v : Nat → ι → Int), L.length < m → ∃ c : Nat → Int, (∃ i, i < m ∧ c i ≠ 0) ∧ ∀ d ∈ L, sumN m (fun i => c i * v i d) = 0
  | [], m, v, h => ⟨fun _ => 1, ⟨0, h, by decide⟩, fun d hd => by cases hd⟩
  | a :: L, m, v, h => by
    rw [List.length_cons] at h
    rcases Classical.em (∀ i, i < m → v i a = 0) with hz | hz
    · obtain ⟨c, h1, h2⟩ := relation L m v (by omega)
      refine ⟨c, h1, fun d hd => ?_⟩
      rcases List.mem_cons.mp hd with rfl | hd
      · exact sumN_zero fun i hi => by rw [hz i hi, Int.mul_zero]
      · exact h2 d hd
    · obtain ⟨i0, hi0, hne⟩ : ∃ i0, i0 < m ∧ v i0 a ≠ 0 := Classical.byContradiction fun z => hz fun i hi => Classical.byContradiction fun y => z ⟨i, hi, y⟩
      obtain ⟨m', rfl⟩ : ∃ m', m = m' + 1 := ⟨m - 1, by omega⟩
      obtain ⟨c, ⟨j, hj, hcj⟩, h2⟩ := relation L m' (fun i d => v i0 a * v (skip i0 i) d - v (skip i0 i) a * v i0 d) (by omega)
      -- the coefficients over all
      have key : ∀ d, sumN m' (fun i => c i * (v i0 a * v (skip i0 i) d - v (skip i0 i) a * v i0 d)) = sumN m' (fun i => (v i0 a * c i) * v (skip i0 i) d) - sumN m' (fun i => c i * v (skip i0 i) a) * v i0 d := fun d => by
        have e1 : sumN m' (fun i => c i * (v i0 a * v (skip i0 i) d - v (skip i0 i) a * v i0 d)) = sumN m' (fun i => (v i0 a * c i) * v (skip i0 i) d + (-1) * ((c i * v (skip i0 i) a) * v i0 d)) := sumN_congr fun i _ => by
          rw [Int.mul_sub, Int.sub_eq_add_neg]
          congr 1
          · rw [← Int.mul_assoc, Int.mul_comm (c i)]
          · rw [Int.mul_assoc]
            omega
        rw [e1, sumN_add, sumN_mul, sumN_mulr]
        omega
      refine ⟨fun i => if i < i0 then v i0 a * c i else if i = i0 then -(sumN m' fun i => c i * v (skip i0 i) a) else v i0 a * c (i - 1), ⟨skip i0 j, ?_, ?_⟩, fun d hd => ?_⟩
      · unfold skip; split <;> omega
      · have hs : (fun i => if i < i0 then v i0 a * c i else if i = i0 then -(sumN m' fun i => c i * v (skip i0 i) a) else v i0 a * c (i - 1)) (skip i0 j) = v i0 a * c j := by
          unfold skip
          by_cases h : j < i0
          · simp only [if_pos h]
          · simp only [if_neg h]
            rw [if_neg (by omega), if_neg (by omega), Nat.add_sub_cancel]
        rw [hs]
        exact Int.mul_ne_zero hne hcj
      · rw [sumN_skip _ i0 m' (by omega)]
        have hs : ∀ i, (if skip i0 i < i0 then v i0 a * c (skip i0 i) else if skip i0 i = i0 then -(sumN m' fun i => c i * v (skip i0 i) a) else v i0 a * c (skip i0 i - 1)) = v i0 a * c i := fun i => by
          unfold skip
          by_cases h : i < i0
          · simp only [if_pos h]
          · simp only [if_neg h]
            rw [if_neg (by omega), if_neg (by omega), Nat.add_sub_cancel]
        have e1 : sumN m' (fun i => (if skip i0 i < i0 then v i0 a * c (skip i0 i) else if skip i0 i = i0 then -(sumN m' fun i => c i * v (skip i0 i) a) else v i0 a * c (skip i0 i - 1)) * v (skip i0 i) d) = sumN m' (fun i => (v i0 a * c i) * v (skip i0 i) d) := sumN_congr fun i _ => by rw [hs]
        show sumN m' (fun i => (if skip i0 i < i0 then v i0 a * c (skip i0 i) else if skip i0 i = i0 then -(sumN m' fun i => c i * v (skip i0 i) a) else v i0 a * c (skip i0 i - 1)) * v (skip i0 i) d) + (if i0 < i0 then v i0 a * c i0 else if i0 = i0 then -(sumN m' fun i => c i * v (skip i0 i) a) else v i0 a * c (i0 - 1)) * v i0 d = 0
        rw [e1, if_neg (by omega), if_pos rfl]
        rcases List.mem_cons.mp hd with rfl | hd
        · have : sumN m' (fun i => (v i0 d * c i) * v (skip i0 i) d) = v i0 d * sumN m' (fun i => c i * v (skip i0 i) d) := by
            rw [← sumN_mul]
            exact sumN_congr fun i _ => Int.mul_assoc _ _ _
          rw [this, Int.neg_mul, Int.mul_comm (v i0 d)]
          omega
        · have h3 := h2 d hd
          rw [key d] at h3
          rw [Int.neg_mul]
          omega
/-- a triangle of values, out of few columns -/
theorem triangle {ι : Type} (L : List ι) (m : Nat) (v : Nat → ι → Int) (w : Nat → ι → Int) (G : Nat → Nat → Int) (hG : ∀ i j, i < m → j < m → G i j = (L.map fun d => v i d * w j d).sum) (h1 : ∀ i, i < m → G i i ≠ 0) (h2 : ∀ i j, i < j → j < m → G i j = 0) : m ≤ L.length := by
  refine Classical.byContradiction fun hn => ?_
  obtain ⟨c, ⟨i, hi, hci⟩, hr⟩ := relation L m v (by omega)
  -- the last that counts
  have hlast : ∃ j, j < m ∧ c j ≠ 0 ∧ ∀ i, j < i → i < m → c i = 0 := by
    have : ∀ q i, m - i ≤ q → i < m → c i ≠ 0 → ∃ j, j < m ∧ c j ≠ 0 ∧ ∀ i, j < i → i < m → c i = 0 := by
      intro q
      induction q with
      | zero => intro i hq hi; omega
      | succ q ih =>
        intro i hq hi hci
        rcases Classical.em (∀ i', i < i' → i' < m → c i' = 0) with h | h
        · exact ⟨i, hi, hci, h⟩
        · obtain ⟨i', h3, h4, h5⟩ : ∃ i', i < i' ∧ i' < m ∧ c i' ≠ 0 := Classical.byContradiction fun z => h fun i' h3 h4 => Classical.byContradiction fun y => z ⟨i', h3, h4, y⟩
          exact ih i' (by omega) h4 h5
    exact this m i (by omega) hi hci
  obtain ⟨j, hj, hcj, hz⟩ := hlast
  have swap : ∀ L : List ι, (∀ d ∈ L, sumN m (fun i => c i * v i d) = 0) → sumN m (fun i => c i * (L.map fun d => v i d * w j d).sum) = 0 := by
    intro L
    induction L with
    | nil => intro _; exact sumN_zero fun i _ => by simp
    | cons a L ih =>
      intro h
      have e : sumN m (fun i => c i * ((a :: L).map fun d => v i d * w j d).sum) = sumN m (fun i => c i * v i a * w j a + c i * (L.map fun d => v i d * w j d).sum) := sumN_congr fun i _ => by
        rw [List.map_cons, List.sum_cons, Int.mul_add, Int.mul_assoc]
      rw [e, sumN_add, sumN_mulr, h a (by simp), ih fun d hd => h d (by simp [hd])]
      simp
  have e1 : sumN m (fun i => c i * G i j) = 0 := by
    rw [← swap L hr]
    exact sumN_congr fun i hi => by rw [hG i j hi hj]
  have e2 : sumN m (fun i => c i * G i j) = c j * G j j := by
    have : ∀ q, q ≤ m → sumN q (fun i => c i * G i j) = if j < q then c j * G j j else 0 := by
      intro q
      induction q with
      | zero => intro _; rfl
      | succ q ih =>
        intro hq
        show sumN q (fun i => c i * G i j) + c q * G q j = _
        rw [ih (by omega)]
        by_cases h : j = q
        · subst h
          rw [if_neg (by omega), if_pos (by omega)]
          omega
        · by_cases h3 : j < q
          · rw [if_pos h3, if_pos (by omega), hz q h3 (by omega), Int.zero_mul, Int.add_zero]
          · rw [if_neg h3, if_neg (by omega), h2 q j (by omega) hj, Int.mul_zero, Int.add_zero]
    rw [this m (Nat.le_refl _), if_pos hj]
  rw [e2] at e1
  exact Int.mul_ne_zero hcj (h1 j hj) e1
/-! ### products of lines: few columns -/
def diag (s : Nat) : List (Nat × Nat) := (List.range (s + 1)).map fun i => (i, s - i)
def tri : Nat → List (Nat × Nat)
  | 0 => [(0, 0)]
  | r + 1 => tri r ++ diag (r + 1)
theorem tri_len : ∀ r, 2 * (tri r).length = (r + 1) * (r + 2)
  | 0 => rfl
  | r + 1 => by
    show 2 * (tri r ++ diag (r + 1)).length = _
    rw [List.length_append]
    have := tri_len r
    have h2 : (diag (r + 1)).length = r + 2 := by unfold diag; rw [List.length_map, List.length_range]
    rw [h2, Nat.mul_add, this]
    have e : (r + 1) * (r + 2) + 2 * (r + 2) = (r + 1 + 1) * (r + 1 + 2) := by
      rw [← Nat.add_mul, Nat.mul_comm]
    exact e
theorem mem_diag {s : Nat} {p : Nat × Nat} : p ∈ diag s ↔ p.1 + p.2 = s := by
  unfold diag
  rw [List.mem_map]
  constructor
  · rintro ⟨i, hi, rfl⟩
    have := List.mem_range.mp hi
    show i + (s - i) = s
    omega
  · intro h
    refine ⟨p.1, List.mem_range.mpr (by omega), ?_⟩
    obtain ⟨a, b⟩ := p
    simp only at h ⊢
    rw [Prod.mk.injEq]
    exact ⟨rfl, by omega⟩
theorem mem_tri {p : Nat × Nat} : ∀ {r : Nat}, p ∈ tri r ↔ p.1 + p.2 ≤ r
  | 0 => by
    show p ∈ [(0, 0)] ↔ _
    rw [List.mem_singleton]
    obtain ⟨a, b⟩ := p
    simp only [Prod.mk.injEq]
    omega
  | r + 1 => by
    show p ∈ tri r ++ diag (r + 1) ↔ _
    rw [List.mem_append, mem_tri, mem_diag]
    omega
theorem nodup_diag (s : Nat) : (diag s).Nodup := by
  unfold diag List.Nodup
  rw [List.pairwise_map]
  exact List.nodup_range.imp fun h e => h (by injection e)
theorem nodup_tri : ∀ r, (tri r).Nodup
  | 0 => by show [((0 : Nat), (0 : Nat))].Nodup; simp
  | r + 1 => List.nodup_append.mpr ⟨nodup_tri r, nodup_diag _, fun a ha b hb e => by
      subst e
      have := mem_tri.mp ha
      have := mem_diag.mp hb
      omega⟩
def mono (p : Nat × Nat) (u z : Int) : Int := u ^ p.1 * z ^ p.2
def InSp (r : Nat) (F : Int → Int → Int) : Prop := ∃ c : Nat × Nat → Int, ∀ u z, F u z = ((tri r).map fun p => c p * mono p u z).sum
theorem sum_add {ι : Type} (g h : ι → Int) : ∀ L : List ι, (L.map fun p => g p + h p).sum = (L.map g).sum + (L.map h).sum
  | [] => rfl
  | a :: L => by rw [List.map_cons, List.sum_cons, sum_add g h L, List.map_cons, List.sum_cons, List.map_cons, List.sum_cons]; omega
theorem sum_mul {ι : Type} (a : Int) (g : ι → Int) : ∀ L : List ι, (L.map fun p => a * g p).sum = a * (L.map g).sum
  | [] => by simp
  | b :: L => by rw [List.map_cons, List.sum_cons, sum_mul a g L, List.map_cons, List.sum_cons, Int.mul_add]
theorem InSp.add {r : Nat} {F G : Int → Int → Int} (h : InSp r F) (g : InSp r G) : InSp r fun u z => F u z + G u z := by
  obtain ⟨c, hc⟩ := h
  obtain ⟨d, hd⟩ := g
  refine ⟨fun p => c p + d p, fun u z => ?_⟩
  show F u z + G u z = _
  rw [hc, hd, ← sum_add]
  congr 1
  exact List.map_congr_left fun p _ => (Int.add_mul _ _ _).symm
theorem InSp.smul {r : Nat} {F : Int → Int → Int} (h : InSp r F) (a : Int) : InSp r fun u z => a * F u z := by
  obtain ⟨c, hc⟩ := h
  refine ⟨fun p => a * c p, fun u z => ?_⟩
  show a * F u z = _
  rw [hc, ← sum_mul]
  congr 1
  exact List.map_congr_left fun p _ => (Int.mul_assoc _ _ _).symm
theorem InSp.zero {r : Nat} : InSp r fun _ _ => 0 := ⟨fun _ => 0, fun u z => by
  have : ∀ L : List (Nat × Nat), (L.map fun p => (0 : Int) * mono p u z).sum = 0 := fun L => by
    induction L with
    | nil => rfl
    | cons a L ih => rw [List.map_cons, List.sum_cons, ih]; simp
  rw [this]⟩
theorem pick {q : Nat × Nat} (g : Nat × Nat → Int) : ∀ {L : List (Nat × Nat)}, L.Nodup → (L.map fun p => (if p = q then 1 else 0) * g p).sum = if q ∈ L then g q else 0
  | [], _ => by simp
  | a :: L, nd => by
    rw [List.nodup_cons] at nd
    rw [List.map_cons, List.sum_cons, pick g nd.2]
    by_cases h : a = q
    · subst h
      rw [if_neg nd.1, if_pos rfl, if_pos (by simp)]
      omega
    · have h2 : ¬ q = a := fun e => h e.symm
      rw [if_neg h]
      by_cases h3 : q ∈ L
      · rw [if_pos h3, if_pos (by simp [h3])]; omega
      · rw [if_neg h3, if_neg (by simp [h2, h3])]; omega
theorem InSp.mono {r : Nat} {q : Nat × Nat} (h : q.1 + q.2 ≤ r) : InSp r (DL.mono q) := ⟨fun p => if p = q then 1 else 0, fun u z => by rw [pick (fun p => DL.mono p u z) (nodup_tri r), if_pos (mem_tri.mpr h)]⟩
/-- what is a sum of terms led on into the next triangle -/
theorem InSp.lift {r : Nat} {F : Int → Int → Int} (h : InSp r F) {g : Int → Int → Int} (hg : ∀ p : Nat × Nat, p.1 + p.2 ≤ r → InSp (r + 1) fun u z => g u z * DL.mono p u z) : InSp (r + 1) fun u z => g u z * F u z := by
  obtain ⟨c, hc⟩ := h
  have : ∀ L : List (Nat × Nat), (∀ p ∈ L, p.1 + p.2 ≤ r) → InSp (r + 1) fun u z => g u z * (L.map fun p => c p * DL.mono p u z).sum := by
    intro L
    induction L with
    | nil => intro _; obtain ⟨d, hd⟩ := InSp.zero (r := r + 1); exact ⟨d, fun u z => by rw [← hd]; simp⟩
    | cons a L ih =>
      intro hL
      have h1 := ((hg a (hL a (by simp))).smul (c a)).add (ih fun p hp => hL p (by simp [hp]))
      obtain ⟨d, hd⟩ := h1
      refine ⟨d, fun u z => ?_⟩
      rw [← hd]
      show g u z * ((a :: L).map fun p => c p * DL.mono p u z).sum = c a * (g u z * DL.mono a u z) + g u z * (L.map fun p => c p * DL.mono p u z).sum
      rw [List.map_cons, List.sum_cons, Int.mul_add, ← Int.mul_assoc, ← Int.mul_assoc, Int.mul_comm (g u z)]
  obtain ⟨d, hd⟩ := this (tri r) fun p hp => mem_tri.mp hp
  exact ⟨d, fun u z => by rw [← hd]; show g u z * F u z = _; rw [hc]⟩
theorem InSp.line {r : Nat} {F : Int → Int → Int} (h : InSp r F) (a : Int) : InSp (r + 1) fun u z => (z - a * u + a * a) * F u z := by
  have h1 : InSp (r + 1) fun u z => z * F u z := h.lift (g := fun _ z => z) fun p hp => by
    obtain ⟨d, hd⟩ := InSp.mono (r := r + 1) (q := (p.1, p.2 + 1)) (by show p.1 + (p.2 + 1) ≤ r + 1; omega)
    refine ⟨d, fun u z => ?_⟩
    rw [← hd]
    show z * (u ^ p.1 * z ^ p.2) = u ^ p.1 * z ^ (p.2 + 1)
    rw [Int.pow_succ, ← Int.mul_assoc, ← Int.mul_assoc, Int.mul_comm z, Int.mul_assoc, Int.mul_comm z, ← Int.mul_assoc]
  have h2 : InSp (r + 1) fun u z => u * F u z := h.lift (g := fun u _ => u) fun p hp => by
    obtain ⟨d, hd⟩ := InSp.mono (r := r + 1) (q := (p.1 + 1, p.2)) (by show p.1 + 1 + p.2 ≤ r + 1; omega)
    refine ⟨d, fun u z => ?_⟩
    rw [← hd]
    show u * (u ^ p.1 * z ^ p.2) = u ^ (p.1 + 1) * z ^ p.2
    rw [Int.pow_succ, ← Int.mul_assoc, Int.mul_comm u]
  have h3 : InSp (r + 1) fun u z => 1 * F u z := h.lift (g := fun _ _ => 1) fun p hp => by
    obtain ⟨d, hd⟩ := InSp.mono (r := r + 1) (q := p) (by omega)
    exact ⟨d, fun u z => by rw [← hd]; simp⟩
  obtain ⟨d, hd⟩ := (h1.add (h2.smul (-a))).add (h3.smul (a * a))
  refine ⟨d, fun u z => ?_⟩
  rw [← hd]
  show (z - a * u + a * a) * F u z = z * F u z + -a * (u * F u z) + a * a * (1 * F u z)
  rw [Int.add_mul, Int.sub_mul, Int.one_mul, Int.mul_assoc a u, Int.neg_mul]
  omega
def lines (A : List Int) (u z : Int) : Int := match A with
  | [] => 1
  | a :: A => (z - a * u + a * a) * lines A u z
theorem lines_in : ∀ A : List Int, InSp A.length (lines A)
  | [] => by
    obtain ⟨d, hd⟩ := InSp.mono (r := 0) (q := (0, 0)) (Nat.le_refl _)
    exact ⟨d, fun u z => (show lines [] u z = mono (0, 0) u z by show (1 : Int) = u ^ 0 * z ^ 0; simp).trans (hd u z)⟩
  | a :: A => (lines_in A).line a
theorem line_two (a x y : Int) : x * y - a * (x + y) + a * a = (x - a) * (y - a) := by
  rw [Int.sub_mul, Int.mul_sub, Int.mul_sub, Int.mul_add, Int.mul_comm x a]
  omega
theorem lines_zero {x y : Int} : ∀ {A : List Int}, lines A (x + y) (x * y) = 0 ↔ x ∈ A ∨ y ∈ A
  | [] => by show (1 : Int) = 0 ↔ _; simp
  | a :: A => by
    show (x * y - a * (x + y) + a * a) * lines A (x + y) (x * y) = 0 ↔ _
    rw [line_two, Int.mul_eq_zero, Int.mul_eq_zero, lines_zero, List.mem_cons, List.mem_cons]
    constructor
    · rintro ((h | h) | (h | h))
      · exact .inl (.inl (by omega))
      · exact .inr (.inl (by omega))
      · exact .inl (.inr h)
      · exact .inr (.inr h)
    · rintro ((h | h) | (h | h))
      · exact .inl (.inl (by omega))
      · exact .inr (.inl h)
      · exact .inl (.inr (by omega))
      · exact .inr (.inr h)
/-- pairs and lots of r: each pair free of its lot, each later pair not -/
theorem frankl {r m : Nat} (A : Nat → List Int) (x y : Nat → Int) (hA : ∀ i, i < m → (A i).length = r) (h1 : ∀ i, i < m → x i ∉ A i ∧ y i ∉ A i) (h2 : ∀ i j, i < j → j < m → x j ∈ A i ∨ y j ∈ A i) : 2 * m ≤ (r + 1) * (r + 2) := by
  have hc : ∀ i, ∃ c : Nat × Nat → Int, i < m → ∀ u z, lines (A i) u z = ((tri r).map fun p => c p * mono p u z).sum := fun i => by
    by_cases hi : i < m
    · obtain ⟨c, hc⟩ := lines_in (A i)
      rw [hA i hi] at hc
      exact ⟨c, fun _ => hc⟩
    · exact ⟨fun _ => 0, fun h => absurd h hi⟩
  have := triangle (tri r) m (fun i => (hc i).choose) (fun j p => mono p (x j + y j) (x j * y j)) (fun i j => lines (A i) (x j + y j) (x j * y j)) (fun i j hi hj => (hc i).choose_spec hi _ _) (fun i hi => fun e => by
    rcases lines_zero.mp e with h | h
    · exact (h1 i hi).1 h
    · exact (h1 i hi).2 h) fun i j hij hj => lines_zero.mpr (h2 i j hij hj)
  have := tri_len r
  omega
end DL
end
section
set_option Elab.async false
set_option linter.all false
set_option maxRecDepth 100000
set_option maxHeartbeats 4000000
set_option autoImplicit false
namespace DL
open PySem PySem.Spec PyProof.Rows L2 RZ
theorem ex_min {p : List Nat → Prop} (h : ∃ w, p w) : ∃ w, p w ∧ ∀ v, p v → w.length ≤ v.length := by
  obtain ⟨w, hw⟩ := h
  generalize hm : w.length = m
  induction m using Nat.strongRecOn generalizing w with
  | _ m ih =>
    rcases Classical.em (∃ v, p v ∧ v.length < m) with ⟨v, h1, h2⟩ | h
    · exact ih v.length h2 v h1 rfl
    · exact ⟨w, hw, fun v hv => by
        refine Classical.byContradiction fun z => h ⟨v, hv, by omega⟩⟩
theorem filter_part {α : Type} (p q : α → Bool) : ∀ l : List α, (∀ x ∈ l, q x = !p x) → l.length = (l.filter p).length + (l.filter q).length
  | [], _ => rfl
  | x :: l, h => by
    have ih := filter_part p q l fun y hy => h y (by simp [hy])
    have hx := h x (by simp)
    rw [List.filter_cons, List.filter_cons, hx]
    cases p x <;> simp <;> omega
theorem ex_two {P : List Nat} (nd : P.Nodup) (h : 2 ≤ P.length) : ∃ a b, a ∈ P ∧ b ∈ P ∧ a ≠ b := by
  match P, nd, h with
  | a :: b :: r, nd, _ =>
    rw [List.nodup_cons] at nd
    exact ⟨a, b, by simp, by simp, fun e => nd.1 (by rw [e]; simp)⟩
section
variable {k n : Nat} {f : Nat → Nat → Nat} {s t : Nat} {w v P X : List Nat}
theorem img_le (o : Mo k n f) (hP : Lot n P) (hw : Wd k w) : (imgW n f P w).length ≤ P.length := by
  have := (hP.imgW (f := f) w).nd.length_le_of_subset (l₂ := P.map fun s => led f s w) fun t ht => by
    obtain ⟨s, hs, e⟩ := (mem_imgW o w P hP.lt hw).mp ht
    exact List.mem_map.mpr ⟨s, hs, e⟩
  rwa [List.length_map] at this
theorem img_inj (o : Mo k n f) (hP : Lot n P) (hw : Wd k w) (h : ∀ x ∈ P, ∀ y ∈ P, led f x w = led f y w → x = y) : P.length ≤ (imgW n f P w).length := by
  have nd : (P.map fun s => led f s w).Nodup := by
    unfold List.Nodup
    rw [List.pairwise_map]
    refine List.Pairwise.imp_of_mem ?_ hP.nd
    intro a b ha hb hne e
    exact hne (h a ha b hb e)
  have := nd.length_le_of_subset (l₂ := imgW n f P w) fun t ht => by
    obtain ⟨s, hs, e⟩ := List.mem_map.mp ht
    exact (mem_imgW o w P hP.lt hw).mpr ⟨s, hs, e⟩
  rwa [List.length_map] at this
theorem img_merge (o : Mo k n f) (hP : Lot n P) (hw : Wd k w) {x y : Nat} (hx : x ∈ P) (hy : y ∈ P) (hne : x ≠ y) (e : led f x w = led f y w) : (imgW n f P w).length < P.length := by
  have := (hP.imgW (f := f) w).nd.length_le_of_subset (l₂ := (P.erase y).map fun s => led f s w) fun t ht => by
    obtain ⟨s, hs, e2⟩ := (mem_imgW o w P hP.lt hw).mp ht
    rw [List.mem_map]
    by_cases h : s = y
    · subst h
      exact ⟨x, (List.mem_erase_of_ne hne).mpr hx, by rw [e]; exact e2⟩
    · exact ⟨s, (List.mem_erase_of_ne h).mpr hs, e2⟩
  rw [List.length_map, List.length_erase_of_mem hy] at this
  have : 0 < P.length := List.length_pos_of_mem hx
  omega
theorem img_two (o : Mo k n f) (hP : Lot n P) (hw : Wd k w) (h : (imgW n f P w).length < P.length) : ∃ x y, x ∈ P ∧ y ∈ P ∧ x ≠ y ∧ led f x w = led f y w := by
  refine Classical.byContradiction fun z => ?_
  have := img_inj o hP hw fun x hx y hy e => Classical.byContradiction fun hne => z ⟨x, y, hx, hy, hne, e⟩
  omega
theorem img_ne (o : Mo k n f) (hP : Lot n P) (hw : Wd k w) (h : P ≠ []) : imgW n f P w ≠ [] := fun e => by
  obtain ⟨s, hs⟩ := List.exists_mem_of_ne_nil P h
  have := (mem_imgW o w P hP.lt hw).mpr ⟨s, hs, rfl⟩
  rw [e] at this
  cases this
/-- one spot left: all are led alike -/
theorem img_one (o : Mo k n f) (hP : Lot n P) (hw : Wd k w) (h : P ≠ []) : (imgW n f P w).length = 1 ↔ ∀ x ∈ P, ∀ y ∈ P, led f x w = led f y w := by
  constructor
  · intro h1 x hx y hy
    obtain ⟨a, ha⟩ := List.length_eq_one_iff.mp h1
    have e1 := (mem_imgW o w P hP.lt hw).mpr ⟨x, hx, rfl⟩
    have e2 := (mem_imgW o w P hP.lt hw).mpr ⟨y, hy, rfl⟩
    rw [ha, List.mem_singleton] at e1 e2
    rw [e1, e2]
  · intro h1
    obtain ⟨s, hs⟩ := List.exists_mem_of_ne_nil P h
    have := (hP.imgW (f := f) w).nd.length_le_of_subset (l₂ := [led f s w]) fun t ht => by
      obtain ⟨u, hu, e⟩ := (mem_imgW o w P hP.lt hw).mp ht
      rw [List.mem_singleton, ← e]
      exact h1 u hu s hs
    have h2 := List.length_pos_iff.mpr (img_ne o hP hw h)
    have h3 : [led f s w].length = 1 := rfl
    omega
/-- a shortest word that makes fewer -/
theorem pf_step (o : Mo k n f) (hP : Lot n P) (h : ∃ w, Wd k w ∧ (imgW n f P w).length < P.length) : ∃ w, Wd k w ∧ (imgW n f P w).length < P.length ∧ 2 * w.length ≤ (n - P.length + 1) * (n - P.length + 2) := by
  obtain ⟨w, ⟨hw, hlt⟩, hmin⟩ := ex_min h
  refine ⟨w, hw, hlt, ?_⟩
  obtain ⟨x, y, hx, hy, hne, hxy⟩ := img_two o hP hw hlt
  have hwt : ∀ i, Wd k (w.take i) := fun i l hl => hw l (List.mem_of_mem_take hl)
  have hwd : ∀ i, Wd k (w.drop i) := fun i l hl => hw l (List.mem_of_mem_drop hl)
  -- the lots on the way are as large
  have hlen : ∀ i, i < w.length → (imgW n f P (w.take i)).length = P.length := fun i hi => by
    have h1 := img_le o hP (hwt i)
    refine Classical.byContradiction fun z => ?_
    have := hmin (w.take i) ⟨hwt i, by omega⟩
    rw [List.length_take] at this
    omega
  have hlot : ∀ i, Lot n (imgW n f P (w.take i)) := fun i => hP.imgW _
  have hmem : ∀ i s, s ∈ P → led f s (w.take i) ∈ imgW n f P (w.take i) := fun i s hs => (mem_imgW o _ P hP.lt (hwt i)).mpr ⟨s, hs, rfl⟩
  have comp : ∀ i s, s ∈ ((List.range n).filter fun t => decide (t ∉ imgW n f P (w.take i))) ↔ s < n ∧ s ∉ imgW n f P (w.take i) := fun i s => by
    rw [List.mem_filter, List.mem_range, decide_eq_true_eq]
  have clen : ∀ i, i < w.length → ((List.range n).filter fun t => decide (t ∉ imgW n f P (w.take i))).length = n - P.length := fun i hi => by
    have h1 : (List.range n).length = ((List.range n).filter fun t => decide (t ∈ imgW n f P (w.take i))).length + ((List.range n).filter fun t => decide (t ∉ imgW n f P (w.take i))).length := by
      exact filter_part _ _ _ fun t _ => by simp
    have h2 : ((List.range n).filter fun t => decide (t ∈ imgW n f P (w.take i))) = imgW n f P (w.take i) := (hlot i).symm
    rw [h2, hlen i hi, List.length_range] at h1
    omega
  have hn := hP.lt
  have key := frankl (r := n - P.length) (m := w.length) (fun i => ((List.range n).filter fun t => decide (t ∉ imgW n f P (w.take i))).map natI) (fun j => natI (led f x (w.take j))) (fun j => natI (led f y (w.take j)))
    (fun i hi => by rw [List.length_map]; exact clen i hi) (fun i hi => ⟨fun hc => ?_, fun hc => ?_⟩) fun i j hij hj => ?_
  · exact key
  · obtain ⟨s, hs, e⟩ := List.mem_map.mp hc
    have e' : s = led f x (w.take i) := Int.ofNat.inj e
    subst e'
    exact ((comp i _).mp hs).2 (hmem i x hx)
  · obtain ⟨s, hs, e⟩ := List.mem_map.mp hc
    have e' : s = led f y (w.take i) := Int.ofNat.inj e
    subst e'
    exact ((comp i _).mp hs).2 (hmem i y hy)
  · refine Classical.byContradiction fun z => ?_
    have hin : ∀ s, s ∈ P → natI (led f s (w.take j)) ∉ ((List.range n).filter fun t => decide (t ∉ imgW n f P (w.take i))).map natI → led f s (w.take j) ∈ imgW n f P (w.take i) := fun s hs h => by
      refine Classical.byContradiction fun h2 => h (List.mem_map_of_mem ((comp i _).mpr ⟨o.led _ s (hn s hs) (hwt j), h2⟩))
    have hx2 := hin x hx fun h => z (.inl h)
    have hy2 := hin y hy fun h => z (.inr h)
    have hne2 : led f x (w.take j) ≠ led f y (w.take j) := fun e => by
      have := img_merge o hP (hwt j) hx hy hne e
      have := hlen j hj
      omega
    have e2 : led f (led f x (w.take j)) (w.drop j) = led f (led f y (w.take j)) (w.drop j) := by
      rw [← led_append, ← led_append, List.take_append_drop]
      exact hxy
    have h3 := img_merge o (hlot i) (hwd j) hx2 hy2 hne2 e2
    rw [← imgW_append, hlen i (by omega)] at h3
    have := hmin (w.take i ++ w.drop j) ⟨(hwt i).append (hwd j), h3⟩
    rw [List.length_append, List.length_take, List.length_drop] at this
    omega
def pfS (n : Nat) : Nat → Nat
  | 0 => 0
  | 1 => 0
  | p + 2 => pfS n (p + 1) + 3 * ((n - (p + 2) + 1) * (n - (p + 2) + 2))
theorem pfS_up (n : Nat) : ∀ p, pfS n p ≤ pfS n (p + 1)
  | 0 => Nat.le_refl _
  | p + 1 => Nat.le_add_right _ _
theorem pfS_mono (n : Nat) {p q : Nat} (h : p ≤ q) : pfS n p ≤ pfS n q := by
  induction q with
  | zero => rw [Nat.le_zero.mp h]; exact Nat.le_refl _
  | succ q ih =>
    by_cases e : p = q + 1
    · rw [e]; exact Nat.le_refl _
    · exact Nat.le_trans (ih (by omega)) (pfS_up n q)
theorem pfS_all {n : Nat} (n8 : n ≤ 8) : pfS n n = n * n * n - n := by
  have : n = 0 ∨ n = 1 ∨ n = 2 ∨ n = 3 ∨ n = 4 ∨ n = 5 ∨ n = 6 ∨ n = 7 ∨ n = 8 := by omega
  rcases this with rfl | rfl | rfl | rfl | rfl | rfl | rfl | rfl | rfl <;> rfl
def Rs (k n : Nat) (f : Nat → Nat → Nat) (w : List Nat) : Prop := Wd k w ∧ (imgW n f (List.range n) w).length = 1
theorem pf_all (o : Mo k n f) (h : ∃ w, Rs k n f w) : ∀ (p : Nat) (P : List Nat), P.length ≤ p → Lot n P → P ≠ [] → ∃ w, Wd k w ∧ (imgW n f P w).length = 1 ∧ 6 * w.length ≤ pfS n P.length := by
  obtain ⟨w0, hw0, h0⟩ := h
  intro p
  induction p with
  | zero => intro P hp _ hne; exact absurd (List.length_eq_zero_iff.mp (by omega)) hne
  | succ p ih =>
    intro P hp hP hne
    have hpos := List.length_pos_iff.mpr hne
    by_cases h1 : P.length = 1
    · exact ⟨[], (fun _ h => by cases h), h1, Nat.zero_le _⟩
    · have hr : (imgW n f P w0).length = 1 := (img_one o hP hw0 hne).mpr fun x hx y hy => (img_one o lot_range hw0 (fun e => by have := o.n0; have := congrArg List.length e; rw [List.length_range] at this; simp at this; omega)).mp h0 x (List.mem_range.mpr (hP.lt x hx)) y (List.mem_range.mpr (hP.lt y hy))
      obtain ⟨w1, q1, q2, q3⟩ := pf_step o hP ⟨w0, hw0, by omega⟩
      obtain ⟨w2, q4, q5, q6⟩ := ih (imgW n f P w1) (by omega) (hP.imgW w1) (img_ne o hP q1 hne)
      refine ⟨w1 ++ w2, q1.append q4, by rw [imgW_append]; exact q5, ?_⟩
      obtain ⟨q, hq⟩ : ∃ q, P.length = q + 2 := ⟨P.length - 2, by omega⟩
      have h5 := pfS_mono n (show (imgW n f P w1).length ≤ q + 1 by omega)
      rw [hq] at q3 ⊢
      show 6 * (w1 ++ w2).length ≤ pfS n (q + 1) + 3 * ((n - (q + 2) + 1) * (n - (q + 2) + 2))
      rw [List.length_append]
      omega
/-- the bound of Pin and Frankl -/
theorem pin_frankl (o : Mo k n f) (h : ∃ w, Rs k n f w) : ∃ w, Rs k n f w ∧ 6 * w.length ≤ n * n * n - n := by
  have n0 := o.n0
  obtain ⟨w, h1, h2, h3⟩ := pf_all o h n (List.range n) (by rw [List.length_range]; exact Nat.le_refl _) lot_range (fun e => by have := congrArg List.length e; rw [List.length_range] at this; simp at this; omega)
  rw [List.length_range, pfS_all o.n8] at h3
  exact ⟨w, ⟨h1, h2⟩, h3⟩
/-- two spots that are never led to one -/
def Apart (k : Nat) (f : Nat → Nat → Nat) (a b : Nat) : Prop := ∀ w, Wd k w → led f a w ≠ led f b w
theorem reset_or_apart (o : Mo k n f) (h : ∀ a b, a < b → b < n → ¬ Apart k f a b) : ∀ (p : Nat) (P : List Nat), P.length ≤ p → Lot n P → P ≠ [] → ∃ w, Wd k w ∧ (imgW n f P w).length = 1 := by
  intro p
  induction p with
  | zero => intro P hp _ hne; exact absurd (List.length_eq_zero_iff.mp (by omega)) hne
  | succ p ih =>
    intro P hp hP hne
    have hpos := List.length_pos_iff.mpr hne
    by_cases h1 : P.length = 1
    · exact ⟨[], (fun _ h => by cases h), h1⟩
    · obtain ⟨a, b, ha, hb, hab⟩ := ex_two hP.nd (by omega)
      have hm : ∃ w, Wd k w ∧ led f a w = led f b w := by
        rcases Nat.lt_or_gt_of_ne hab with hlt | hlt
        · refine Classical.byContradiction fun z => h a b hlt (hP.lt b hb) fun w hw e => z ⟨w, hw, e⟩
        · refine Classical.byContradiction fun z => h b a hlt (hP.lt a ha) fun w hw e => z ⟨w, hw, e.symm⟩
      obtain ⟨w1, q1, q2⟩ := hm
      have q3 := img_merge o hP q1 ha hb hab q2
      obtain ⟨w2, q4, q5⟩ := ih (imgW n f P w1) (by omega) (hP.imgW w1) (img_ne o hP q1 hne)
      exact ⟨w1 ++ w2, q1.append q4, by rw [imgW_append]; exact q5⟩
theorem range_ne (n0 : 0 < n) : List.range n ≠ [] := fun e => by
  have := congrArg List.length e
  rw [List.length_range] at this
  simp at this
  omega
theorem reset_iff (o : Mo k n f) : (∃ w, Rs k n f w) ↔ ∀ a b, a < b → b < n → ¬ Apart k f a b := by
  constructor
  · rintro ⟨w, hw, h1⟩ a b hab hb hap
    exact hap w hw ((img_one o lot_range hw (range_ne o.n0)).mp h1 a (List.mem_range.mpr (by omega)) b (List.mem_range.mpr hb))
  · intro h
    exact reset_or_apart o h n (List.range n) (by rw [List.length_range]; exact Nat.le_refl _) lot_range (range_ne o.n0)
end
end DL
end
section
set_option Elab.async false
set_option linter.all false
set_option maxRecDepth 100000
set_option maxHeartbeats 4000000
set_option autoImplicit false
namespace DL
open PySem PySem.Spec PyProof.Rows L2 RZ
/-! ### the slowest ones: a ring, and a letter that joins the last spot to the first -/
def fC (n l s : Nat) : Nat := if l = 0 then (s + 1) % n else if s = n - 1 then 0 else s
/-- how far a lot is from one spot, by its spots as bits -/
def tblC : Nat → List Nat
  | 2 => [0, 0, 0, 1]
  | 3 => [0, 0, 0, 3, 0, 1, 2, 4]
  | 4 => [0, 0, 0, 4, 0, 6, 3, 8, 0, 1, 5, 5, 2, 6, 7, 9]
  | 5 => [0, 0, 0, 5, 0, 10, 4, 10, 0, 7, 9, 12, 3, 13, 9, 15, 0, 1, 6, 6, 8, 11, 11, 11, 2, 7, 12, 12, 8, 13, 14, 16]
  | 6 => [0, 0, 0, 6, 0, 12, 5, 12, 0, 15, 11, 18, 4, 18, 11, 18, 0, 8, 14, 14, 10, 20, 17, 20, 3, 15, 17, 21, 10, 22, 17, 24, 0, 1, 7, 7, 13, 13, 13, 13, 9, 15, 19, 19, 16, 19, 19, 19, 2, 8, 14, 14, 16, 20, 20, 20, 9, 15, 21, 21, 16, 22, 23, 25]
  | 7 => [0, 0, 0, 7, 0, 14, 6, 14, 0, 21, 13, 21, 5, 21, 13, 21, 0, 17, 20, 24, 12, 28, 20, 28, 4, 25, 20, 28, 12, 28, 20, 28, 0, 9, 16, 16, 19, 23, 23, 23, 11, 25, 27, 30, 19, 30, 27, 30, 3, 17, 24, 24, 19, 31, 27, 31, 11, 25, 27, 32, 19, 33, 27, 35, 0, 1, 8, 8, 15, 15, 15, 15, 18, 22, 22, 22, 22, 22, 22, 22, 10, 17, 24, 24, 26, 29, 29, 29, 18, 25, 29, 29, 26, 29, 29, 29, 2, 9, 16, 16, 23, 23, 23, 23, 18, 25, 30, 30, 26, 30, 30, 30, 10, 17, 24, 24, 26, 31, 31, 31, 18, 25, 32, 32, 26, 33, 34, 36]
  | 8 => [0, 0, 0, 8, 0, 16, 7, 16, 0, 24, 15, 24, 6, 24, 15, 24, 0, 28, 23, 32, 14, 32, 23, 32, 5, 32, 23, 32, 14, 32, 23, 32, 0, 19, 27, 27, 22, 35, 31, 35, 13, 37, 31, 40, 22, 40, 31, 40, 4, 28, 31, 36, 22, 40, 31, 40, 13, 37, 31, 40, 22, 40, 31, 40, 0, 10, 18, 18, 26, 26, 26, 26, 21, 34, 34, 34, 30, 34, 34, 34, 12, 28, 36, 36, 30, 42, 39, 42, 21, 37, 39, 42, 30, 42, 39, 42, 3, 19, 27, 27, 30, 35, 35, 35, 21, 37, 39, 43, 30, 43, 39, 43, 12, 28, 36, 36, 30, 44, 39, 44, 21, 37, 39, 45, 30, 46, 39, 48, 0, 1, 9, 9, 17, 17, 17, 17, 25, 25, 25, 25, 25, 25, 25, 25, 20, 28, 33, 33, 33, 33, 33, 33, 29, 33, 33, 33, 33, 33, 33, 33, 11, 19, 27, 27, 35, 35, 35, 35, 29, 37, 41, 41, 38, 41, 41, 41, 20, 28, 36, 36, 38, 41, 41, 41, 29, 37, 41, 41, 38, 41, 41, 41, 2, 10, 18, 18, 26, 26, 26, 26, 29, 34, 34, 34, 34, 34, 34, 34, 20, 28, 36, 36, 38, 42, 42, 42, 29, 37, 42, 42, 38, 42, 42, 42, 11, 19, 27, 27, 35, 35, 35, 35, 29, 37, 43, 43, 38, 43, 43, 43, 20, 28, 36, 36, 38, 44, 44, 44, 29, 37, 45, 45, 38, 46, 47, 49]
  | _ => []
def bitsC (X : List Nat) : Nat := X.foldl (fun m x => m + 2 ^ x) 0
def distC (n : Nat) (X : List Nat) : Nat := (tblC n).getD (bitsC X) 0
def chkC (n : Nat) : Bool := (subs (List.range n)).all fun X => (X.isEmpty || (Nat.ble (distC n X) (distC n (img n (fC n 0) X) + 1) && Nat.ble (distC n X) (distC n (img n (fC n 1) X) + 1))) && (!(Nat.beq X.length 1) || Nat.beq (distC n X) 0)
theorem chk2 : chkC 2 = true := by decide +kernel
theorem chk3 : chkC 3 = true := by decide +kernel
theorem chk4 : chkC 4 = true := by decide +kernel
theorem chk5 : chkC 5 = true := by decide +kernel
theorem chk6 : chkC 6 = true := by decide +kernel
theorem chk7 : chkC 7 = true := by decide +kernel
theorem chk8 : chkC 8 = true := by decide +kernel
theorem eight {n : Nat} (h2 : 2 ≤ n) (h8 : n ≤ 8) : n = 2 ∨ n = 3 ∨ n = 4 ∨ n = 5 ∨ n = 6 ∨ n = 7 ∨ n = 8 := by omega
theorem chk_all {n : Nat} (h2 : 2 ≤ n) (h8 : n ≤ 8) : chkC n = true := by
  rcases eight h2 h8 with rfl | rfl | rfl | rfl | rfl | rfl | rfl
  · exact chk2
  · exact chk3
  · exact chk4
  · exact chk5
  · exact chk6
  · exact chk7
  · exact chk8
theorem dist_full {n : Nat} (h2 : 2 ≤ n) (h8 : n ≤ 8) : distC n (List.range n) = (n - 1) * (n - 1) := by
  rcases eight h2 h8 with rfl | rfl | rfl | rfl | rfl | rfl | rfl <;> decide +kernel
/-- a word that leaves one spot -/
def wC (n : Nat) : List Nat := ((List.replicate (n - 2) (1 :: List.replicate (n - 1) 0)).flatten) ++ [1]
theorem wC_len {n : Nat} (h2 : 2 ≤ n) (h8 : n ≤ 8) : (wC n).length = (n - 1) * (n - 1) := by
  rcases eight h2 h8 with rfl | rfl | rfl | rfl | rfl | rfl | rfl <;> decide +kernel
def onC (n : Nat) : Bool := (List.range n).all fun s => Nat.beq (led (fC n) s (wC n)) (led (fC n) 0 (wC n))
theorem wC_one {n : Nat} (h2 : 2 ≤ n) (h8 : n ≤ 8) : onC n = true := by
  rcases eight h2 h8 with rfl | rfl | rfl | rfl | rfl | rfl | rfl <;> decide +kernel
theorem wC_wd {n : Nat} : ∀ l ∈ wC n, l < 2 := fun l hl => by
  unfold wC at hl
  rcases List.mem_append.mp hl with hl | hl
  · obtain ⟨L, hL, hl⟩ := List.mem_flatten.mp hl
    rw [(List.mem_replicate.mp hL).2] at hl
    rcases List.mem_cons.mp hl with rfl | hl
    · decide
    · rw [(List.mem_replicate.mp hl).2]; decide
  · simp at hl; omega
theorem mo_C {n : Nat} (h2 : 2 ≤ n) (h8 : n ≤ 8) : Mo 2 n (fC n) := ⟨by decide, by decide, by omega, h8, fun l s _ hs => by
  unfold fC
  split
  · exact Nat.mod_lt _ (by omega)
  · split <;> omega⟩
/-- no word is quicker than told -/
theorem low_C {n : Nat} (h2 : 2 ≤ n) (h8 : n ≤ 8) : ∀ (w X : List Nat), Lot n X → X ≠ [] → Wd 2 w → distC n X ≤ w.length + distC n (imgW n (fC n) X w)
  | [], X, _, _, _ => by show _ ≤ 0 + _; rw [Nat.zero_add]; exact Nat.le_refl _
  | l :: w, X, hX, hne, hw => by
    have hmem : X ∈ subs (List.range n) := by unfold Lot at hX; rw [hX]; exact mem_subs _ _
    have hc := List.all_eq_true.mp (chk_all h2 h8) X hmem
    rw [Bool.and_eq_true, Bool.or_eq_true, Bool.and_eq_true] at hc
    have hne' : X.isEmpty = false := by cases X with | nil => exact absurd rfl hne | cons a r => rfl
    have h1 := hc.1.resolve_left (by rw [hne']; simp)
    have hl := hw l (by simp)
    have hi : img n (fC n l) X ≠ [] := img_ne (w := [l]) (mo_C h2 h8) hX (fun m hm => by simp at hm; omega) hne
    have ih := low_C h2 h8 w (img n (fC n l) X) lot_img hi fun m hm => hw m (by simp [hm])
    have hl' : l = 0 ∨ l = 1 := by omega
    have hstep : distC n X ≤ distC n (img n (fC n l) X) + 1 := by
      rcases hl' with rfl | rfl
      · exact Nat.le_of_ble_eq_true h1.1
      · exact Nat.le_of_ble_eq_true h1.2
    show _ ≤ (w.length + 1) + distC n (imgW n (fC n) (img n (fC n l) X) w)
    omega
theorem low_reset {n : Nat} (h2 : 2 ≤ n) (h8 : n ≤ 8) {w : List Nat} (h : Rs 2 n (fC n) w) : (n - 1) * (n - 1) ≤ w.length := by
  have hne := range_ne (n := n) (by omega)
  have := low_C h2 h8 w (List.range n) lot_range hne h.1
  have hlot := (lot_range (n := n)).imgW (f := fC n) w
  have hmem : imgW n (fC n) (List.range n) w ∈ subs (List.range n) := by unfold Lot at hlot; rw [hlot]; exact mem_subs _ _
  have hc := List.all_eq_true.mp (chk_all h2 h8) _ hmem
  rw [Bool.and_eq_true] at hc
  have h3 : distC n (imgW n (fC n) (List.range n) w) = 0 := by
    have h5 := hc.2
    rw [h.2] at h5
    exact Nat.eq_of_beq_eq_true (show Nat.beq (distC n (imgW n (fC n) (List.range n) w)) 0 = true from h5)
  rw [h3, dist_full h2 h8] at this
  exact this
/-- .. with letters between that lead nothing on -/
def fL (n r l s : Nat) : Nat := if l = 0 then (s + 1) % n else if l = r + 1 then (if s = n - 1 then 0 else s) else s
theorem mo_L {n r : Nat} (h2 : 2 ≤ n) (h8 : n ≤ 8) (hr : r ≤ 6) : Mo (r + 2) n (fL n r) := ⟨by omega, by omega, by omega, h8, fun l s _ hs => by
  unfold fL
  split
  · exact Nat.mod_lt _ (by omega)
  · split
    · split <;> omega
    · exact hs⟩
theorem led_up {n r : Nat} : ∀ (w : List Nat) (s : Nat), (∀ l ∈ w, l < 2) → led (fL n r) s (w.map fun l => if l = 0 then 0 else r + 1) = led (fC n) s w
  | [], _, _ => rfl
  | l :: w, s, h => by
    have hl := h l (by simp)
    have hl' : l = 0 ∨ l = 1 := by omega
    have e : fL n r (if l = 0 then 0 else r + 1) s = fC n l s := by
      unfold fL fC
      rcases hl' with rfl | rfl
      · simp
      · simp
    show led (fL n r) (fL n r (if l = 0 then 0 else r + 1) s) _ = led (fC n) (fC n l s) w
    rw [e]
    exact led_up w _ fun m hm => h m (by simp [hm])
theorem led_down {n r : Nat} : ∀ (w : List Nat), ∃ v : List Nat, (∀ l ∈ v, l < 2) ∧ v.length ≤ w.length ∧ ∀ s, led (fL n r) s w = led (fC n) s v
  | [] => ⟨[], (fun _ h => by cases h), Nat.le_refl _, fun _ => rfl⟩
  | l :: w => by
    obtain ⟨v, h1, h2, h3⟩ := led_down (n := n) (r := r) w
    by_cases h0 : l = 0
    · refine ⟨0 :: v, fun m hm => ?_, by simp; exact h2, fun s => ?_⟩
      · rcases List.mem_cons.mp hm with rfl | hm
        · decide
        · exact h1 m hm
      · subst h0
        show led (fL n r) (fL n r 0 s) w = led (fC n) (fC n 0 s) v
        rw [h3]
        rfl
    · by_cases h4 : l = r + 1
      · refine ⟨1 :: v, fun m hm => ?_, by simp; exact h2, fun s => ?_⟩
        · rcases List.mem_cons.mp hm with rfl | hm
          · decide
          · exact h1 m hm
        · show led (fL n r) (fL n r l s) w = led (fC n) (fC n 1 s) v
          rw [h3]
          have : fL n r l s = fC n 1 s := by
            unfold fL fC
            rw [if_neg h0, if_pos h4]
            rfl
          rw [this]
      · refine ⟨v, h1, by simp; omega, fun s => ?_⟩
        show led (fL n r) (fL n r l s) w = _
        have : fL n r l s = s := by unfold fL; rw [if_neg h0, if_neg h4]
        rw [this, h3]
theorem rs_of_led {k n : Nat} {f : Nat → Nat → Nat} {w : List Nat} (o : Mo k n f) (hw : Wd k w) : Rs k n f w ↔ ∀ x, x < n → ∀ y, y < n → led f x w = led f y w := by
  unfold Rs
  rw [img_one o lot_range hw (range_ne o.n0)]
  exact ⟨fun h x hx y hy => h.2 x (List.mem_range.mpr hx) y (List.mem_range.mpr hy), fun h => ⟨hw, fun x hx y hy => h x (List.mem_range.mp hx) y (List.mem_range.mp hy)⟩⟩
/-- the shortest words of the slow ones -/
theorem slow {n r : Nat} (h2 : 2 ≤ n) (h8 : n ≤ 8) (hr : r ≤ 6) : (∃ w, Rs (r + 2) n (fL n r) w ∧ w.length = (n - 1) * (n - 1)) ∧ ∀ w, Rs (r + 2) n (fL n r) w → (n - 1) * (n - 1) ≤ w.length := by
  have o := mo_L h2 h8 hr
  constructor
  · refine ⟨(wC n).map fun l => if l = 0 then 0 else r + 1, ?_, by rw [List.length_map, wC_len h2 h8]⟩
    have hw : Wd (r + 2) ((wC n).map fun l => if l = 0 then 0 else r + 1) := fun l hl => by
      obtain ⟨m, _, rfl⟩ := List.mem_map.mp hl
      split <;> omega
    rw [rs_of_led o hw]
    intro x hx y hy
    rw [led_up _ _ wC_wd, led_up _ _ wC_wd]
    have := List.all_eq_true.mp (wC_one h2 h8)
    rw [Nat.eq_of_beq_eq_true (this x (List.mem_range.mpr hx)), Nat.eq_of_beq_eq_true (this y (List.mem_range.mpr hy))]
  · intro w hw
    obtain ⟨v, h1, h3, h4⟩ := led_down (n := n) (r := r) w
    have hv : Rs 2 n (fC n) v := by
      rw [rs_of_led (mo_C h2 h8) h1]
      intro x hx y hy
      rw [← h4, ← h4]
      exact (rs_of_led o hw.1).mp hw x hx y hy
    have := low_reset h2 h8 hv
    omega
end DL
end
section
set_option Elab.async false
set_option linter.all false
set_option maxRecDepth 100000
set_option maxHeartbeats 4000000
set_option autoImplicit false
namespace L82
open PySem PySem.Spec PyProof.Rows L2 RZ DL
theorem t_roll {m : Int} (h1 : 1 ≤ m) (h2 : m < 1073741824) : Tri IC (m__law_roll (.int m)) fun d => ∃ r : Nat, d = .int (r : Nat) ∧ (r : Int) < m := by
  rintro cs ⟨x, y, rfl, hy1, hy2⟩
  have nn : ∀ z : Int, ∃ r : Nat, (PyData.int (z % m)) = .int (r : Nat) ∧ (r : Int) < m := fun z => by
    have a := Int.emod_nonneg z (show m ≠ 0 by omega)
    have b := Int.emod_lt_of_pos z (show 0 < m by omega)
    exact ⟨(z % m).toNat, by rw [Int.toNat_of_nonneg a], by rw [Int.toNat_of_nonneg a]; exact b⟩
  by_cases hx : 0 < x
  · refine ⟨.int (x % m), [.int (x / m), .int y], ?_, ⟨_, _, rfl, hy1, hy2⟩, nn x⟩
    have e0 : atI [PyData.int x, PyData.int y] 0 = some (.int x) := rfl
    unfold m__law_roll b__law_roll
    simp only [e0, decide_eq_true hx, if_true, DL.finish, castF, sIfR, DL.tCmp, mOp, mUn, sCupSet, sRet, mCup, pure_bind, M.bind_run, cupIx, pcmp_int, pint_int, pmod_ok' (show 0 < m by omega), pfdiv_ok' (show 0 < m by omega) h2, M.pure_run, asB_bool, cup_set0, cup_at0]
  · have hb1 := Int.emod_nonneg (y * 31051 + 7993) (show (2147483543 : Int) ≠ 0 by decide)
    have hb2 := Int.emod_lt_of_pos (y * 31051 + 7993) (show (0 : Int) < 2147483543 by decide)
    refine ⟨.int (((y * 31051 + 7993) % 2147483543 * ((y * 31051 + 7993) % 2147483543 + 229)) % 2147483587 / 821 % m), [.int x, .int ((y * 31051 + 7993) % 2147483543)], ?_, ⟨_, _, rfl, by omega, by omega⟩, nn _⟩
    have c1 : CMul y 31051 := .inr (by omega)
    generalize hz : (y * 31051 + 7993) % 2147483543 = z at *
    have c2 : CMul z (z + 229) := .inl (by omega)
    unfold m__law_roll b__law_roll
    have e0 : atI [PyData.int x, PyData.int y] 0 = some (.int x) := rfl
    have e1 : atI [PyData.int x, PyData.int y] 1 = some (.int y) := rfl
    have e2 : atI [PyData.int x, PyData.int z] 1 = some (.int z) := rfl
    simp only [DL.finish, castF, sIfR, DL.tCmp, mOp, mUn, sCupSet, sRet, mCup, pure_bind, M.bind_run, cupIx, pcmp_int, pint_int, M.pure_run, asB_bool, cup_set1, e0, e1, decide_eq_false hx, Bool.false_eq_true, if_false, pmul_ok' c1, padd_int, pmod_ok' (show (0 : Int) < 2147483543 by decide), hz, e2, pmul_ok' c2, pmod_ok' (show (0 : Int) < 2147483587 by decide), pfdiv_ok' (show (0 : Int) < 821 by decide) (by decide), pmod_ok' (show 0 < m by omega)]
theorem t_rollN {n : Nat} (h : 0 < n) (h2 : n ≤ 1000000) : Tri IC (m__law_roll (eI n)) fun d => ∃ r : Nat, d = eI r ∧ r < n :=
  (t_roll (m := n) (by omega) (by omega)).mono fun d ⟨r, e, hr⟩ => ⟨r, e, by omega⟩
theorem e_is_integer {d : PyData} (h : d.plain = true) : m_is_integer d = pure (.bool (isI d)) := by
  unfold m_is_integer b_is_integer
  cases d with
  | dict _ => simp [PyData.plain] at h
  | _ => rfl
theorem e_is_whole {d : PyData} (h : d.plain = true) (k : Int) : m_is_whole d (.int 0) (.int k) = pure (.bool (wholeB k d)) := by
  unfold m_is_whole b_is_whole
  simp only [sRet, mCall, runs_cons, runs_nil, pure_bind, e_is_integer h, liftP_pure]
  cases d with
  | int i =>
    simp only [isI, asB_bool, pure_bind, if_true]
    have := chain_le 0 i k
    unfold mChain at this
    simp only [pure_bind, pcmp_int, asB_bool] at this
    simp only [mAnd, mChain, pure_bind, pcmp_int, asB_bool, if_true]
    cases h1 : decide (0 ≤ i) <;> simp [wholeB, h1]
  | _ => rfl
theorem e_is_tuple_of {v : PyData} (h : v.plain = true) (lo hi : Int) : m_is_tuple_of v (.int lo) (.int hi) = pure (.bool (tupB lo hi v)) := by
  unfold m_is_tuple_of b_is_tuple_of
  cases v with
  | tuple ds =>
    have := chain_le lo ds.length hi
    show finish (sRet (mAnd (pure (.bool true)) (mChain ple ple (pure (.int lo)) (pure (.int ds.length)) (pure (.int hi))))) = _
    rw [this]
    rfl
  | dict _ => simp [PyData.plain] at h
  | _ => rfl
theorem e_are_things {v : PyData} (h : v.plain = true) (n lo hi : Int) : m_are_things (.int n) v (.int lo) (.int hi) = pure (.bool (thingsB n lo hi v)) := by
  unfold m_are_things b_are_things
  have e1 : mCall (ap3 m_is_tuple_of) [pure v, pure (.int lo), pure (.int hi)] = pure (.bool (tupB lo hi v)) := by
    simp only [mCall, runs_cons, runs_nil, pure_bind, e_is_tuple_of h, liftP_pure]
  rw [e1]
  cases v with
  | tuple ds =>
    have hp : ∀ d ∈ ds, d.plain = true := plainAll_mem (by simpa [PyData.plain] using h)
    have e2 : mUn pall (mLst (oLc (iAll (pure (.tuple ds))) (fun d => pure d) (fun t1 => pure true) (fun t1 => mCall (ap3 m_is_whole) [pure t1, pure (.int 0), mOp psub (pure (.int n)) (pure (.int 1))]))) = pure (.bool (ds.all (wholeB (n - 1)))) := by
      simp only [mUn, mLst, oLc, iAll, pure_bind, pitems_tuple]
      rw [lcM_all (fun d => .bool (wholeB (n - 1) d)) ds fun d hd => ?_]
      · rw [pure_bind, pure_bind, all_map]
      · simp only [mCall, mOp, runs_cons, runs_nil, pure_bind, psub_int, e_is_whole (hp d hd), liftP_pure]
    rw [e2, andB]
    rfl
  | dict _ => simp [PyData.plain] at h
  | _ => rfl
theorem e_law_sort {d : PyData} (h : d.plain = true) : m__law_sort d = pure (.int (srt d)) := by
  unfold m__law_sort b__law_sort
  cases d with
  | dict _ => simp [PyData.plain] at h
  | _ => rfl
theorem like_refl : ∀ (j : Nat) {d : PyData}, Sm j d → m__law_like (j + 1) d d = pure (.bool true) := by
  have seqs : ∀ (r : PyData → PyData → M PyData) (ds : List PyData) (d : PyData), (d = .tuple ds ∨ d = .list ds) → d.plain = true → ds.length ≤ 4096 → (∀ e ∈ ds, r e e = pure (.bool true)) → finish (b__law_like r d d) = pure (.bool true) := by
    intro r ds d hd hp hl hr
    have hw := like_walk (f := fun _ => pure (.int 1)) ds hr
    have hz : pzip d d = pure (zipD ds ds) := by
      rcases hd with rfl | rfl
      · show (do chk (ds.length ≤ sizeLine); pure (zipD ds ds) : M (List PyData)) = _
        rw [chk_true (by rw [sizeLine_eq]; omega), pure_bind]
      · show (do chk (ds.length ≤ sizeLine); pure (zipD ds ds) : M (List PyData)) = _
        rw [chk_true (by rw [sizeLine_eq]; omega), pure_bind]
    have hlen : plen d = pure (.int ds.length) := by rcases hd with rfl | rfl <;> rfl
    have hs : srt d = 4 ∨ srt d = 5 := by rcases hd with rfl | rfl; exact .inl rfl; exact .inr rfl
    unfold b__law_like
    simp only [mCall, runs_cons, runs_nil, pure_bind, e_law_sort hp, liftP_pure, sIfR, DL.tOr, DL.tCmp, pne_int, peq_int, asB_bool, decide_true, Bool.not_true, Bool.false_eq_true, if_false, bind_assoc]
    have h6 : decide (srt d = 6) = false := decide_eq_false (by rcases hs with h | h <;> rw [h] <;> decide)
    rw [h6, if_neg (by simp)]
    have hin : pin (.int (srt d)) (.tuple [.int 4, .int 5]) = pure (.bool true) := by rcases hs with h | h <;> rw [h] <;> rfl
    simp only [mTup, runs_cons, runs_nil, pure_bind, hin, asB_bool, if_true, mAnd, mOp, mUn, hlen, peq_int, decide_true, mLst, oLc, iZip', hz, sRet]
    simp only [tNo, tVal, mCall, runs_cons, runs_nil, pure_bind, bind_assoc] at hw
    rw [hw]
    simp only [pure_bind, peq_lists_nil, castF_rt, DL.finish_rt]
  have scs : ∀ (r : PyData → PyData → M PyData) (d : PyData), DL.scal d = true → finish (b__law_like r d d) = pure (.bool true) := by
    intro r d h
    have hp := scal_plain h
    have hs : srt d = 0 ∨ srt d = 1 ∨ srt d = 2 ∨ srt d = 3 := by cases d <;> first | (simp [srt]; done) | cases h
    unfold b__law_like
    simp only [mCall, runs_cons, runs_nil, pure_bind, e_law_sort hp, liftP_pure, sIfR, DL.tOr, DL.tCmp, pne_int, peq_int, asB_bool, decide_true, Bool.not_true, Bool.false_eq_true, if_false, bind_assoc]
    have h6 : decide (srt d = 6) = false := decide_eq_false (by rcases hs with h | h | h | h <;> rw [h] <;> decide)
    rw [h6, if_neg (by simp)]
    have hin : pin (.int (srt d)) (.tuple [.int 4, .int 5]) = pure (.bool false) := by rcases hs with h | h | h | h <;> rw [h] <;> rfl
    simp only [mTup, runs_cons, runs_nil, pure_bind, hin, asB_bool, Bool.false_eq_true, if_false, mOp, eqv_scal h, sRet, DL.finish_rt]
  intro j
  induction j with
  | zero => intro d h; exact scs _ d h
  | succ j ih =>
    intro d h
    rcases h with h | ⟨ds, h1, h2, hd⟩
    · exact scs _ d h
    · exact seqs _ ds d h1 (Sm.plain (j := j + 1) (.inr ⟨ds, h1, h2, hd⟩)) h2 fun e he => ih (hd e he)
theorem like12 {d : PyData} {j : Nat} (h : Sm j d) (l : j ≤ 11 := by decide) : m__law_like 12 d d = pure (.bool true) := like_refl 11 (h.le l)
theorem like_no {X Y : M PyData} {d : PyData} {j : Nat} (hx : X = pure d) (hy : Y = pure d) (h : Sm j d) (l : j ≤ 11 := by decide) : tNo (tVal (mCall (ap2 (m__law_like 12)) [X, Y])) = pure false := by
  rw [hx, hy, call2, like12 h l]
  rfl
theorem e_cup (ns : List Int) (hl : ns.length ≤ 63) : ∃ x y : Int, m__law_cup (.list (ns.map .int)) = pure (.list [.int x, .int y]) ∧ 0 ≤ y ∧ y < 4294967296 := by
  have hz : ∃ z : Int, mOp pidx (mOp padd (mLst (oList (pure (.list (ns.map .int))))) (mLst (runs [pure (.int 0)]))) (pure (.int 0)) = pure (.int z) := by
    have h1 : mOp padd (mLst (oList (pure (.list (ns.map .int))))) (mLst (runs [pure (.int 0)])) = pure (.list (ns.map .int ++ [.int 0])) := by
      simp only [mOp, mLst, oList, runs_cons, runs_nil, pure_bind, seqOf_list, padd_list]
      rw [chk_true (by rw [List.length_map, sizeLine_eq]; show _ + 1 ≤ _; omega), pure_bind]
    rw [h1]
    cases ns with
    | nil => exact ⟨0, by simp only [mOp, pure_bind]; exact idx_list (atI_nat (j := 0) rfl)⟩
    | cons z r => exact ⟨z, by simp only [mOp, pure_bind]; exact idx_list (atI_nat (j := 0) rfl)⟩
  obtain ⟨z, hz⟩ := hz
  have ha : mUn pabs (pure (.int z)) = pure (.int (if z < 0 then -z else z)) := by simp only [mUn, pure_bind, pabs_int]
  generalize hc : (if z < 0 then -z else z) = c at ha
  have hp : mOp ppow (pure (.int 10)) (pure (.int 18)) = pure (.int (10 ^ (18 : Int).toNat)) := by
    simp only [mOp, pure_bind]
    unfold ppow
    dsimp only
    rw [chk_true (by decide), pure_bind]
  have h3 : ∃ x, mIf (DL.tCmp pge (pure (.int c)) (mOp ppow (pure (.int 10)) (pure (.int 18)))) (mOp pfdiv (pure (.int c)) (pure (.int 73))) (pure (.int 0)) = pure (.int x) := by
    rw [hp]
    simp only [mIf, DL.tCmp, mOp, pure_bind, pcmp_int, asB_bool, pfdiv_ok' (show (0 : Int) < 73 by decide) (by decide)]
    cases decide ((10 : Int) ^ (18 : Int).toNat ≤ c)
    · exact ⟨0, rfl⟩
    · exact ⟨c / 73, rfl⟩
  obtain ⟨x, h3⟩ := h3
  have h4 : mOp padd (mOp pmod (mUn pint (mOp padd (mOp pmulT (pure (.int c)) (pure (.int 283))) (pure (.int 3907)))) (pure (.int 2077503167))) (pure (.int 167)) = pure (.int ((c * 283 + 3907) % 2077503167 + 167)) := by
    simp only [mOp, mUn, pure_bind, pmul_ok' (show CMul c 283 from .inr (by omega)), padd_int, pint_int, pmod_ok' (show (0 : Int) < 2077503167 by decide)]
  have b1 := Int.emod_nonneg (c * 283 + 3907) (show (2077503167 : Int) ≠ 0 by decide)
  have b2 := Int.emod_lt_of_pos (c * 283 + 3907) (show (0 : Int) < 2077503167 by decide)
  refine ⟨x, (c * 283 + 3907) % 2077503167 + 167, ?_, by omega, by omega⟩
  unfold m__law_cup b__law_cup
  rw [hz, ha, pure_bind, h3, h4]
  simp only [sRetO, runs_cons, runs_nil, pure_bind, DL.finish_rt]
theorem run_cup {k : List PyData → M (Fl Unit Empty)} {mo : M (List PyData)} {x y : Int} (h : mo = pure [.int x, .int y]) (h1 : 0 ≤ y) (h2 : y < 4294967296) (t : Tri IC (k [.int x, .int y]) fun fl => fl = .rt (.bool true)) : DL.finish (sNewCup mo k) [] = .ok (.bool true, []) := by
  subst h
  obtain ⟨fl, cs', e, _, rfl⟩ := t [.int x, .int y] ⟨x, y, rfl, h1, h2⟩
  show DL.finish (withCup [.int x, .int y] (k [.int x, .int y])) [] = _
  unfold DL.finish
  rw [M.bind_run]
  unfold withCup
  rw [e]
  rfl
end L82
end
section
set_option Elab.async false
set_option linter.all false
set_option maxRecDepth 100000
set_option maxHeartbeats 4000000
set_option autoImplicit false
namespace L82
open PySem PySem.Spec PyProof.Rows L2 RZ DL
def rowD (n : Nat) (g : Nat → Nat) : PyData := .tuple ((List.range n).map fun s => eI (g s))
def isTupB : PyData → Bool
  | .tuple _ => true
  | _ => false
/-- whether a value is a moving -/
def movB : PyData → Bool
  | .tuple (.tuple r :: ds) => decide ((1 : Int) ≤ ((PyData.tuple r :: ds).length : Nat)) && decide (((PyData.tuple r :: ds).length : Int) ≤ 8) && ((PyData.tuple r :: ds).all (tupB 1 8) && (PyData.tuple r :: ds).all (thingsB r.length r.length r.length))
  | _ => false
theorem all_tupB {v : PyData} (lo hi : Int) : tupB lo hi v = true → isTupB v = true := by cases v <;> simp [tupB, isTupB]
theorem e_fits_moving {v : PyData} (hv : v.plain = true) : m_fits_moving v = pure (.bool (movB v)) := by
  unfold m_fits_moving b_fits_moving
  have e1 : mCall (ap3 m_is_tuple_of) [pure v, pure (.int 1), pure (.int 8)] = pure (.bool (tupB 1 8 v)) := by
    rw [call3, e_is_tuple_of hv]; rfl
  rw [e1]
  cases v with
  | tuple ds =>
    have hp : ∀ d ∈ ds, d.plain = true := plainAll_mem (by simpa [PyData.plain] using hv)
    have e2 : mUn pall (mLst (oLc (iAll (pure (.tuple ds))) (fun d => pure d) (fun t1 => pure true) (fun t1 => mCall (ap3 m_is_tuple_of) [pure t1, pure (.int 1), pure (.int 8)]))) = pure (.bool (ds.all (tupB 1 8))) := by
      simp only [mUn, mLst, oLc, iAll, pure_bind, pitems_tuple]
      rw [lcM_all (fun d => .bool (tupB 1 8 d)) ds fun d hd => by rw [call3, e_is_tuple_of (hp d hd)]; rfl, pure_bind, pure_bind, all_map]
    rw [e2, or_not]
    have hno : tupB 1 8 (.tuple ds) = false ∨ ds.all (tupB 1 8) = false → movB (.tuple ds) = false := fun h => by
      unfold movB
      split
      · rename_i r ds' e
        cases e
        rcases h with h | h
        · have : (decide ((1 : Int) ≤ ((PyData.tuple r :: ds').length : Nat)) && decide (((PyData.tuple r :: ds').length : Int) ≤ 8)) = false := h
          rw [this]; rfl
        · rw [h]; simp
      · rfl
    cases h1 : tupB 1 8 (.tuple ds) with
    | false => rw [ifR_pure, hno (.inl h1)]; rfl
    | true =>
      cases h2 : ds.all (tupB 1 8) with
      | false => rw [ifR_pure, hno (.inr h2)]; rfl
      | true =>
        rw [ifR_pure, if_neg (by simp)]
        cases ds with
        | nil => cases h1
        | cons d ds =>
          have hd : tupB 1 8 d = true := by rw [List.all_cons, Bool.and_eq_true] at h2; exact h2.1
          cases d with
          | tuple r =>
            have e0 : mUn plen (mOp pidx (pure (.tuple (.tuple r :: ds))) (pure (.int 0))) = pure (.int (r.length : Nat)) := by
              simp only [mOp, mUn, pure_bind, idx0, plen_tuple]
            have e3 : mUn pall (mLst (oLc (iAll (pure (.tuple (.tuple r :: ds)))) (fun d => pure d) (fun t3 => pure true) (fun t3 => mCall (ap4 m_are_things) [pure (.int (r.length : Nat)), pure t3, pure (.int (r.length : Nat)), pure (.int (r.length : Nat))]))) = pure (.bool ((PyData.tuple r :: ds).all (thingsB r.length r.length r.length))) := by
              simp only [mUn, mLst, oLc, iAll, pure_bind, pitems_tuple]
              rw [lcM_all (fun d => .bool (thingsB r.length r.length r.length d)) _ fun d hd => by rw [call4, e_are_things (hp d hd)]; rfl, pure_bind, pure_bind, all_map]
            rw [e0, pure_bind, e3]
            have : movB (.tuple (.tuple r :: ds)) = ((tupB 1 8 (.tuple (.tuple r :: ds))) && ((PyData.tuple r :: ds).all (tupB 1 8) && (PyData.tuple r :: ds).all (thingsB r.length r.length r.length))) := rfl
            rw [this, h1, h2]
            rfl
          | _ => cases hd
  | dict _ => simp [PyData.plain] at hv
  | _ => rfl
section
variable {k n : Nat} {f : Nat → Nat → Nat} {s t l : Nat} {w : List Nat}
theorem eM_plain : (eM k n f).plain = true := plainAll_of fun d hd => by
  obtain ⟨i, _, rfl⟩ := List.mem_map.mp hd
  exact plainAll_of fun e he => by
    obtain ⟨j, _, rfl⟩ := List.mem_map.mp he
    rfl
theorem eP_eM : eP n f = eM n n f := rfl
theorem len_eM : plen (eM k n f) = pure (eI k) := by unfold eM; rw [plen_tuple, List.length_map, List.length_range]; rfl
theorem len_row (g : Nat → Nat) : plen (rowD n g) = pure (eI n) := by unfold rowD; rw [plen_tuple, List.length_map, List.length_range]; rfl
theorem idx_eM (h : l < k) : pidx (eM k n f) (eI l) = pure (rowD n (f l)) := idx_tuple (atI_range (fun l => rowD n (f l)) h)
theorem idx_row' {g : Nat → Nat} (h : s < n) : pidx (rowD n g) (eI s) = pure (eI (g s)) := idx_tuple (atI_range (fun s => eI (g s)) h)
theorem first_eM (h : 0 < k) : pidx (eM k n f) (.int 0) = pure (rowD n (f 0)) := idx_eM (l := 0) h
theorem lenrow_eM (h : 0 < k) : mUn plen (mOp pidx (pure (eM k n f)) (pure (.int 0))) = pure (eI n) := by
  simp only [mUn, mOp, pure_bind, first_eM h, len_row]
theorem items_eM : pitems (eM k n f) = pure ((List.range k).map fun l => rowD n (f l)) := rfl
theorem things_row {g : Nat → Nat} (h : ∀ s, s < n → g s < n) : thingsB n n n (rowD n g) = true := by
  unfold rowD thingsB
  simp only [List.length_map, List.length_range]
  rw [decide_eq_true (Int.le_refl _), List.all_map]
  show List.all _ _ = true
  rw [List.all_eq_true]
  intro j hj
  have := h j (List.mem_range.mp hj)
  show (decide (0 ≤ ((g j : Nat) : Int)) && decide (((g j : Nat) : Int) ≤ (n : Int) - 1)) = true
  rw [decide_eq_true (by omega), decide_eq_true (by omega)]
  rfl
theorem movB_eM (o : Mo k n f) : movB (eM k n f) = true := by
  obtain ⟨m, rfl⟩ : ∃ m, k = m + 1 := ⟨k - 1, by have := o.k0; omega⟩
  have e : eM (m + 1) n f = .tuple (rowD n (f 0) :: ((List.range m).map fun l => rowD n (f (l + 1)))) := by
    unfold eM
    rw [List.range_succ_eq_map, List.map_cons, List.map_map]
    rfl
  have hall : ∀ p : PyData → Bool, (∀ l, l < m + 1 → p (rowD n (f l)) = true) → (rowD n (f 0) :: ((List.range m).map fun l => rowD n (f (l + 1)))).all p = true := fun p h => by
    rw [List.all_cons, h 0 (by omega), Bool.true_and, List.all_eq_true]
    intro d hd
    obtain ⟨l, hl, rfl⟩ := List.mem_map.mp hd
    exact h (l + 1) (by have := List.mem_range.mp hl; omega)
  have hlen : (rowD n (f 0) :: ((List.range m).map fun l => rowD n (f (l + 1)))).length = m + 1 := by simp
  have n0 := o.n0
  have n8 := o.n8
  have k8 := o.k8
  rw [e]
  show (decide ((1 : Int) ≤ ((rowD n (f 0) :: ((List.range m).map fun l => rowD n (f (l + 1)))).length : Nat)) && decide (((rowD n (f 0) :: ((List.range m).map fun l => rowD n (f (l + 1)))).length : Int) ≤ 8) && ((rowD n (f 0) :: ((List.range m).map fun l => rowD n (f (l + 1)))).all (tupB 1 8) && (rowD n (f 0) :: ((List.range m).map fun l => rowD n (f (l + 1)))).all (thingsB (((List.range n).map fun s => eI (f 0 s)).length : Nat) (((List.range n).map fun s => eI (f 0 s)).length : Nat) (((List.range n).map fun s => eI (f 0 s)).length : Nat)))) = true
  rw [hlen, List.length_map, List.length_range, decide_eq_true (by omega), decide_eq_true (by omega), hall (tupB 1 8) fun l hl => ?_, hall (thingsB n n n) fun l hl => things_row fun s hs => o.lt l s hl hs]
  · rfl
  · unfold rowD tupB
    simp only [List.length_map, List.length_range]
    rw [decide_eq_true (by omega), decide_eq_true (by omega)]
    rfl
theorem e_need_moving (o : Mo k n f) : m_need_moving (eM k n f) = pure .none := by
  unfold m_need_moving b_need_moving
  simp only [sIfR, tNo, tVal, call1, e_fits_moving eM_plain, movB_eM o, liftP_pure, pure_bind, asB_bool, bind_assoc]
  rfl
theorem wd_plain : (eWd w).plain = true := eI_plain w
theorem e_fits_letters (hw : Wd k w) (hl : w.length ≤ 200) : m_fits_letters (eM k n f) (eWd w) = pure (.bool true) := by
  unfold m_fits_letters b_fits_letters
  have e1 : mCall (ap3 m_is_tuple_of) [pure (eWd w), pure (.int 0), pure (.int 200)] = pure (.bool true) := by
    rw [call3, e_is_tuple_of wd_plain]
    unfold eWd tupB
    simp only [List.length_map]
    rw [decide_eq_true (by omega), decide_eq_true (by omega)]
    rfl
  have e2 : mOp psub (mUn plen (pure (eM k n f))) (pure (.int 1)) = pure (.int ((k : Int) - 1)) := by
    simp only [mOp, mUn, pure_bind, len_eM]
    rfl
  rw [e1, e2]
  have e3 : mUn pall (mLst (oLc (iAll (pure (eWd w))) (fun d => pure d) (fun t1 => pure true) (fun t1 => mCall (ap3 m_is_whole) [pure t1, pure (.int 0), pure (.int ((k : Int) - 1))]))) = pure (.bool ((w.map eI).all (wholeB ((k : Int) - 1)))) := by
    unfold eWd
    simp only [mUn, mLst, oLc, iAll, pure_bind, pitems_tuple]
    rw [lcM_all (fun d => .bool (wholeB ((k : Int) - 1) d)) _ fun d hd => by rw [call3, e_is_whole (plainAll_mem (eI_plain w) d hd)]; rfl, pure_bind, pure_bind, all_map]
  rw [e3, andB]
  have : (w.map eI).all (wholeB ((k : Int) - 1)) = true := by
    rw [List.all_eq_true]
    intro d hd
    obtain ⟨l, hl, rfl⟩ := List.mem_map.mp hd
    have := hw l hl
    show (decide (0 ≤ ((l : Nat) : Int)) && decide (((l : Nat) : Int) ≤ (k : Int) - 1)) = true
    rw [decide_eq_true (by omega), decide_eq_true (by omega)]
    rfl
  rw [this]
  rfl
theorem e_need_letters (hw : Wd k w) (hl : w.length ≤ 200) : m_need_letters (eM k n f) (eWd w) = pure .none := by
  unfold m_need_letters b_need_letters
  simp only [sIfR, tNo, tVal, call2, e_fits_letters hw hl, liftP_pure, pure_bind, asB_bool, bind_assoc]
  rfl
/-- a walk along a word -/
theorem run_led (o : Mo k n f) (hs : s < n) (hw : Wd k w) : pFor (υ := PyData) (fun d => pure d) (fun x2 t1 => ((mOp pidx (mOp pidx (pure (eM k n f)) (pure x2)) (pure t1)) >>= fun x3 => (pure (.nx x3) : M (Fl PyData PyData)))) (w.map eI) (eI s) = pure (.inl (eI (led f s w))) := by
  rw [pFor_st eI eI (fun s l => f l s) (fun _ s => s < n) w 0 s hs fun l hl j s _ hs => ?_]
  · rfl
  · have hl' := hw l hl
    refine ⟨?_, o.lt l s hl' hs⟩
    simp only [mOp, pure_bind, idx_eM hl', idx_row' hs]
theorem e_led_to (o : Mo k n f) (hs : s < n) (hw : Wd k w) : m_led_to (eM k n f) (eI s) (eWd w) = pure (eI (led f s w)) := by
  unfold m_led_to b_led_to
  have := run_led o hs hw
  simp only [sFor, iAll]
  unfold eWd
  rw [pure_bind, pitems_tuple, pure_bind, this, pure_bind, contL_inl]
  rfl
theorem e_row_by (o : Mo k n f) (hw : Wd k w) : m_row_by (eM k n f) (eWd w) = pure (rowD n fun s => led f s w) := by
  unfold m_row_by b_row_by
  rw [lenrow_eM o.k0]
  have := tab_row (g := fun t1 => mCall (ap3 m_led_to) [pure (eM k n f), pure t1, pure (eWd w)]) (y := fun s => eI (led f s w)) o.n8 fun s hs => by rw [call3, e_led_to o hs hw]; rfl
  rw [this]
  rfl
end
end L82
end
section
set_option Elab.async false
set_option linter.all false
set_option maxRecDepth 100000
set_option maxHeartbeats 4000000
set_option autoImplicit false
namespace L82
open PySem PySem.Spec PyProof.Rows L2 RZ DL
section
variable {k n : Nat} {f : Nat → Nat → Nat} {s t l : Nat} {w v X : List Nat}
theorem setSort_img {g : Nat → Nat} {Y : List Nat} (h : ∀ t, t ∈ Y ↔ t ∈ X.map g) (hg : ∀ t ∈ X, g t < n) : setSort (.inl (Y.map natI)) = (img n g X).map eI := by
  unfold img
  refine setSort_nats fun t => ?_
  rw [decide_eq_true_eq, h]
  refine ⟨fun ht => ⟨?_, ht⟩, fun ht => ht.2⟩
  obtain ⟨u, hu, rfl⟩ := List.mem_map.mp ht
  exact hg u hu
theorem wd_nats (w : List Nat) : eWd w = .tuple (w.map eI) := rfl
theorem eWd_inj {a b : List Nat} (h : eWd a = eWd b) : a = b := by
  unfold eWd at h
  injection h with h
  exact (List.map_inj_right (fun x y z => by unfold eI at z; injection z with z; exact Int.ofNat.inj z)).mp h
theorem sort_lot {Y : List Nat} (hl : Y.length ≤ 100) {Z : List Nat} (h : setSort (.inl (Y.map natI)) = Z.map eI) : mUn ptuple (mLst (oSortSet (pure (.list (Y.map eI))))) = pure (eWd Z) := by
  simp only [mUn, mLst, oSortSet, pure_bind]
  rw [setD_nats (by unfold scanBound; omega), pure_bind, h]
  rfl
theorem e_lot_by (o : Mo k n f) (hl : l < k) (hX : ∀ t ∈ X, t < n) (hXl : X.length ≤ 100) : m_lot_by (rowD n (f l)) (eWd X) = pure (eWd (img n (f l) X)) := by
  unfold m_lot_by b_lot_by
  have e1 : oLc (iAll (pure (eWd X))) (fun d => pure d) (fun t1 => (pure true)) (fun t1 => (mOp pidx (pure (rowD n (f l))) (pure t1))) = pure ((X.map (f l)).map eI) := by
    unfold oLc
    have : iAll (pure (eWd X)) = pure (X.map eI) := rfl
    rw [this, pure_bind, lcM_map eI (fun t => eI (f l t)) X fun t ht => by simp only [mOp, pure_bind]; exact idx_row' (hX t ht), List.map_map]
    rfl
  have e2 := sort_lot (Y := X.map (f l)) (by rw [List.length_map]; exact hXl) (setSort_img (n := n) (g := f l) (X := X) (fun t => Iff.rfl) fun t ht => o.lt l t hl (hX t ht))
  have e3 : mUn ptuple (mLst (oSortSet (mLst (oLc (iAll (pure (eWd X))) (fun d => pure d) (fun t1 => (pure true)) (fun t1 => (mOp pidx (pure (rowD n (f l))) (pure t1))))))) = pure (eWd (img n (f l) X)) := by
    rw [e1]
    exact e2
  rw [e3]
  rfl
theorem e_all_spots (o : Mo k n f) : m_all_spots (eM k n f) = pure (eWd (List.range n)) := by
  unfold m_all_spots b_all_spots
  have n8 := o.n8
  rw [lenrow_eM o.k0]
  have : mTupRg (pure (eI n)) = pure (eWd (List.range n)) := by
    simp only [mTupRg, pure_bind]
    show (do chk ((0 : Int) ≤ (n : Int) ∧ (n : Int) ≤ 16777216); pure (.tuple (rangeD 0 (n : Int))) : M PyData) = _
    rw [chk_true ⟨by omega, by omega⟩, pure_bind, rangeD_nat]
    rfl
  rw [this]
  rfl
/-! ### the dict of words -/
section
variable {P : Type} (eP' : P → PyData)
noncomputable def dD (fs : List (List Nat × P)) : List (PyData × PyData) := fs.map fun e => (eWd e.1, eP' e.2)
theorem okT_wd (X : List Nat) : okT (eWd X) = true := by
  have : ∀ ns : List Nat, (keysA (ns.map eI)).isSome = true := fun ns => by
    induction ns with
    | nil => rfl
    | cons z ns ih =>
      show (keysA (PyData.int z :: ns.map eI)).isSome = true
      unfold keysA
      cases h : keysA (ns.map eI) with
      | none => rw [h] at ih; cases ih
      | some ks => rfl
  exact this X
theorem dGet_dD (Y : List Nat) : ∀ fs : List (List Nat × P), (dGet (dD eP' fs) (eWd Y)).isSome = decide (Y ∈ fs.map (·.1))
  | [] => by simp [dD]
  | e :: fs => by
    show (dGet ((eWd e.1, eP' e.2) :: dD eP' fs) (eWd Y)).isSome = _
    rw [dGet_cons]
    by_cases h : e.1 = Y
    · rw [if_pos (by rw [h])]; simp [h]
    · have h2 : ¬ eWd e.1 = eWd Y := fun z => h (eWd_inj z)
      have h3 : ¬ Y = e.1 := fun z => h z.symm
      rw [if_neg h2, dGet_dD Y fs]
      simp [h3]
theorem dGet_at {e : List Nat × P} : ∀ {fs : List (List Nat × P)}, (fs.map (·.1)).Nodup → e ∈ fs → dGet (dD eP' fs) (eWd e.1) = some (eP' e.2)
  | [], _, h => by cases h
  | a :: fs, nd, h => by
    rw [List.map_cons, List.nodup_cons] at nd
    show dGet ((eWd a.1, eP' a.2) :: dD eP' fs) (eWd e.1) = _
    rw [dGet_cons]
    rcases List.mem_cons.mp h with rfl | h
    · rw [if_pos rfl]
    · have : ¬ eWd a.1 = eWd e.1 := fun z => nd.1 (by rw [eWd_inj z]; exact List.mem_map_of_mem h)
      rw [if_neg this]
      exact dGet_at nd.2 h
open Classical in
theorem dPut_new {fs : List (List Nat × P)} {Y : List Nat} {p : P} (h : Y ∉ fs.map (·.1)) : dPut (dD eP' fs) (eWd Y) (eP' p) = dD eP' (fs ++ [(Y, p)]) := by
  unfold dPut
  rw [dGet_dD, if_neg (by rw [decide_eq_false h]; simp)]
  unfold dD
  rw [List.map_append]
  rfl
theorem dD_keys (fs : List (List Nat × P)) : (dD eP' fs).map (·.1) = (fs.map (·.1)).map eWd := by
  unfold dD
  rw [List.map_map, List.map_map]
  rfl
theorem dD_len (fs : List (List Nat × P)) : (dD eP' fs).length = fs.length := List.length_map _
end
abbrev StW := List (PyData × PyData) × List PyData
/-- the words found, those still to do: from i on -/
noncomputable def esW (fs : List (List Nat × List Nat)) (i : Nat) : StW := (dD eWd fs, ((fs.drop i).map (·.1)).map eWd)
noncomputable def bodyB (x5 : PyData) (x8 : PyData × PyData) (t7 : StW) : M (Fl StW StW) := ((mCall (ap2 m_lot_by) [(pure x8.2), (pure x5)]) >>= fun x9 => (sIf (τ' := List (PyData × PyData) × List PyData) (tVal (mDninT t7.1 (pure x9))) (sDPutT (mOp padd (mDGetT t7.1 (pure x5)) (mTup [(pure x8.1)])) (pure x9) t7.1 fun x11 x12 => (sApp (pure x9) t7.2 fun x13 => (pure (.nx ((dPut t7.1 x11 x12), (t7.2 ++ [x13])))))) (pure (.nx (t7.1, t7.2))) fun t10 => (pure (.nx (t10.1, t10.2)))))
noncomputable def condB (t3 : StW) : M Bool := (peekB (DL.tCmp pne (pure (.list t3.2)) (mLst (runs []))))
noncomputable def bodyC (mv : PyData) (t3 : StW) : M (Fl StW StW) := (sPar (mUn (pidx (.list t3.2)) (pure (.int 0))) (oSlO t3.2 (pSome (pure (.int 1))) (pure none)) fun x5 x6 => (sFor (τ' := List (PyData × PyData) × List PyData) (iEnum (pure mv)) unp2 (fun x8 t7 => bodyB x5 x8 t7) (t3.1, x6) fun t7 => (pure (.nx (t7.1, t7.2)))))
theorem wds_plain (L : List (List Nat)) : PyData.plainAll (L.map eWd) = true := plainAll_of fun d hd => by
  obtain ⟨w, _, rfl⟩ := List.mem_map.mp hd
  exact eI_plain w
/-- one letter: the list behind stays the pending one -/
theorem word_step (o : Mo k n f) {fs : List (List Nat × List Nat)} {i : Nat} (nd : (fs.map (·.1)).Nodup) {cur : List Nat × List Nat} (hc : cur ∈ fs) (hX : ∀ t ∈ cur.1, t < n) (hXl : cur.1.length ≤ 100) (hw : cur.2.length ≤ 1000) (hi : i ≤ fs.length) (hl : l < k) (hz : fs.length ≤ 4096) :
    bodyB (eWd cur.1) (eI l, rowD n (f l)) (esW fs i) = pure (.nx (esW (bput n f cur.1 (fun l => cur.2 ++ [l]) fs l) i)) := by
  unfold bodyB esW
  dsimp only
  rw [call2, e_lot_by o hl hX hXl, liftP_pure, pure_bind]
  have hok := okT_wd (img n (f l) cur.1)
  have hok2 := okT_wd cur.1
  have hc1 : tVal (mDninT (dD eWd fs) (pure (eWd (img n (f l) cur.1)))) = pure (!decide (img n (f l) cur.1 ∈ fs.map (·.1))) := by
    simp only [tVal, mDninT, pure_bind, chk_true hok, dGet_dD, asB_bool]
  simp only [sIf]
  rw [hc1, pure_bind]
  unfold bput
  by_cases h : img n (f l) cur.1 ∈ fs.map (·.1)
  · rw [if_neg (by simp [h]), if_pos h]
    rfl
  · rw [if_pos (by simp [h]), if_neg h]
    have e1 : mOp padd (mDGetT (dD eWd fs) (pure (eWd cur.1))) (mTup [pure (eI l)]) = pure (eWd (cur.2 ++ [l])) := by
      simp only [mOp, mDGetT, mTup, runs_cons, runs_nil, pure_bind, chk_true hok2, dGet_at eWd nd hc, optM_some]
      unfold eWd
      rw [padd_tuple, chk_true (by rw [List.length_map, sizeLine_eq]; show _ + 1 ≤ _; omega), pure_bind, List.map_append]
      rfl
    have e2 : chk (okT (eWd (img n (f l) cur.1)) = true ∧ (dD eWd fs).length < sizeLine) = pure () := chk_true ⟨hok, by rw [dD_len, sizeLine_eq]; omega⟩
    have e3 : chk ((((fs.drop i).map (·.1)).map eWd).length < sizeLine) = pure () := chk_true (by rw [List.length_map, List.length_map, List.length_drop, sizeLine_eq]; omega)
    simp only [sDPutT, sApp]
    rw [e1]
    simp only [pure_bind, e2, e3, thenF_nx]
    rw [dPut_new eWd h, List.drop_append_of_le_length hi, List.map_append, List.map_append]
    rfl
theorem enum_eM (o : Mo k n f) : iEnum (pure (eM k n f)) = pure ((List.range k).map fun l => .tuple [eI l, rowD n (f l)]) := by
  have k8 := o.k8
  show (do chk (((List.range k).map fun l => rowD n (f l)).length ≤ sizeLine); pure (enumD ((List.range k).map fun l => rowD n (f l))) : M (List PyData)) = _
  rw [chk_true (by rw [List.length_map, List.length_range, sizeLine_eq]; omega), pure_bind]
  congr 1
  refine List.ext_getElem? fun i => ?_
  unfold enumD
  rw [List.length_map, List.length_range]
  by_cases h : i < k
  · rw [List.getElem?_zipWith, List.getElem?_map, List.getElem?_map, List.getElem?_range h]
    rfl
  · rw [List.getElem?_eq_none (by simp; omega), List.getElem?_eq_none (by simp; omega)]
/-- a loop over pairs -/
theorem pFor_pairs {σ τ : Type} {b : PyData × PyData → τ → M (Fl τ τ)} (e1 e2 : Nat → PyData) (es : σ → τ) (st : σ → Nat → σ) (R : σ → Prop) : ∀ (xs : List Nat) (s0 : σ), R s0 → (∀ i ∈ xs, ∀ s, R s → b (e1 i, e2 i) (es s) = pure (.nx (es (st s i))) ∧ R (st s i)) → pFor unp2 b (xs.map fun i => .tuple [e1 i, e2 i]) (es s0) = pure (.inl (es (xs.foldl st s0)))
  | [], _, _, _ => rfl
  | i :: xs, s0, r, hb => by
    rw [List.map_cons]
    unfold pFor
    have hu : unp2 (.tuple [e1 i, e2 i]) = pure (e1 i, e2 i) := rfl
    obtain ⟨h1, h2⟩ := hb i (by simp) s0 r
    rw [hu, pure_bind, h1, pure_bind]
    exact pFor_pairs e1 e2 es st R xs (st s0 i) h2 fun j hj => hb j (by simp [hj])
def goodW (k n : Nat) (f : Nat → Nat → Nat) (X : List Nat) (Y w : List Nat) : Prop := Wd k w ∧ imgW n f X w = Y
abbrev BW (k n : Nat) (f : Nat → Nat → Nat) (X : List Nat) (fs : List (List Nat × List Nat)) (i : Nat) : Prop := Bf (fun w : List Nat => w.length) (goodW k n f X) k n f X fs i
theorem body_words (o : Mo k n f) {fs : List (List Nat × List Nat)} {i : Nat} (b : BW k n f X fs i) (hi : i < fs.length) : ∃ ad, bodyC (eM k n f) (esW fs i) = pure (.nx (esW (fs ++ ad) (i + 1))) ∧ BW k n f X (fs ++ ad) (i + 1) := by
  have hc : fs[i]? = some fs[i] := List.getElem?_eq_getElem hi
  generalize hcur : fs[i] = cur at hc
  have hcm : cur ∈ fs := List.mem_of_getElem? hc
  have gd := b.gd cur hcm
  have n8 := o.n8
  have hsz := b.size _ _ n8
  have hpos := b.pos i cur hc
  obtain ⟨ad, h1, h2, h3⟩ := Bf.next (fun w : List Nat => w.length) (goodW k n f X) b hc (fun l => cur.2 ++ [l]) (fun l _ => by simp) fun l hl => ⟨gd.2.1.append fun m hm => by simp at hm; omega, by rw [imgW_one, gd.2.2]⟩
  refine ⟨ad, ?_, h2⟩
  have hsz2 := h2.size _ _ n8
  have hd : (fs.drop i).map (·.1) = cur.1 :: (fs.drop (i + 1)).map (·.1) := by
    rw [List.drop_eq_getElem_cons hi, hcur]
    rfl
  unfold bodyC
  have e0 : (esW fs i).2 = eWd cur.1 :: ((fs.drop (i + 1)).map (·.1)).map eWd := by
    show ((fs.drop i).map (·.1)).map eWd = _
    rw [hd]
    rfl
  rw [e0]
  have e1 : mUn (pidx (.list (eWd cur.1 :: ((fs.drop (i + 1)).map (·.1)).map eWd))) (pure (.int 0)) = pure (eWd cur.1) := by
    simp only [mUn, pure_bind]
    exact idx_list (atI_nat (j := 0) rfl)
  have e2 : oSlO (eWd cur.1 :: ((fs.drop (i + 1)).map (·.1)).map eWd) (pSome (pure (.int 1))) (pure none) = pure (((fs.drop (i + 1)).map (·.1)).map eWd) := by
    simp only [oSlO, pSome, pure_bind, asI_int]
    rw [show (1 : Int) = ((1 : Nat) : Int) from rfl, cut_from _ 1 (by simp)]
    rfl
  simp only [sPar]
  rw [e1, pure_bind, e2, pure_bind]
  simp only [sFor]
  rw [enum_eM o, pure_bind]
  have e3 : ((esW fs i).1, ((fs.drop (i + 1)).map (·.1)).map eWd) = esW fs (i + 1) := rfl
  rw [e3]
  have hlot : ∀ t ∈ cur.1, t < n := gd.1.lt
  have hll := gd.1.len
  have := pFor_pairs (b := fun x8 t7 => bodyB (eWd cur.1) x8 t7) eI (fun l => rowD n (f l)) (fun fs : List (List Nat × List Nat) => esW fs (i + 1)) (bput n f cur.1 fun l => cur.2 ++ [l])
    (fun gs => (gs.map (·.1)).Nodup ∧ cur ∈ gs ∧ i + 1 ≤ gs.length ∧ gs.length ≤ 256 ∧ ∀ e ∈ gs, Lot n e.1) (List.range k) fs ⟨b.nd, hcm, hi, hsz, fun e he => (b.gd e he).1⟩ fun l hl gs ⟨r1, r2, r3, r4, r5⟩ => by
      have hlk := List.mem_range.mp hl
      refine ⟨word_step o r1 r2 hlot (by omega) (by omega) r3 hlk (by omega), ?_⟩
      obtain ⟨ad', q1, q2, q3, q4⟩ := bput_fold n f cur.1 (fun l => cur.2 ++ [l]) [l] gs
      have q1' : bput n f cur.1 (fun l => cur.2 ++ [l]) gs l = gs ++ ad' := q1
      rw [q1']
      have r5' : ∀ e ∈ gs ++ ad', Lot n e.1 := fun e he => by
        rcases List.mem_append.mp he with he | he
        · exact r5 e he
        · obtain ⟨m, _, rfl⟩ := q3 e he
          exact lot_img
      have q2' := q2 r1
      refine ⟨q2', List.mem_append_left _ r2, by rw [List.length_append]; omega, ?_, r5'⟩
      have := lots_len q2' (n := n) (fun Y hY => by
        obtain ⟨e, he, rfl⟩ := List.mem_map.mp hY
        exact r5' e he) n8
      rwa [List.length_map] at this
  rw [this, h1, pure_bind, contL_inl]
theorem run_words (o : Mo k n f) : ∀ (m : Nat) (fs : List (List Nat × List Nat)) (i : Nat), 256 - i ≤ m → BW k n f X fs i → ∃ fs', pWhile condB (bodyC (eM k n f)) (esW fs i) = pure (.inl (esW fs' fs'.length)) ∧ BW k n f X fs' fs'.length := by
  intro m
  induction m with
  | zero =>
    intro fs i hm b
    have := b.size _ _ o.n8
    have hil := b.il
    have : i = fs.length := by omega
    subst this
    refine ⟨fs, while_end ?_, b⟩
    have : condB (esW fs fs.length) = pure (!(((fs.drop fs.length).map (·.1)).map eWd).isEmpty) := todo_t (wds_plain _)
    rw [this, List.drop_length]
    rfl
  | succ m ih =>
    intro fs i hm b
    have hil := b.il
    have hcond : condB (esW fs i) = pure (!(((fs.drop i).map (·.1)).map eWd).isEmpty) := todo_t (wds_plain _)
    by_cases hi : i < fs.length
    · obtain ⟨ad, h1, h2⟩ := body_words o b hi
      rw [while_step (t' := esW (fs ++ ad) (i + 1)) (by rw [hcond, List.drop_eq_getElem_cons hi]; rfl) h1]
      exact ih _ _ (by omega) h2
    · have : i = fs.length := by omega
      subst this
      refine ⟨fs, while_end ?_, b⟩
      rw [hcond, List.drop_length]
      rfl
/-- all lots to which X may be led, each with a shortest word -/
structure WordsOf (k n : Nat) (f : Nat → Nat → Nat) (X : List Nat) (fs : List (List Nat × List Nat)) : Prop where
  nd : (fs.map (·.1)).Nodup
  gd : ∀ e ∈ fs, Lot n e.1 ∧ Wd k e.2 ∧ imgW n f X e.2 = e.1
  all : ∀ w, Wd k w → ∃ e ∈ fs, e.1 = imgW n f X w ∧ e.2.length ≤ w.length
  sz : fs.length ≤ 256
  wl : ∀ e ∈ fs, e.2.length ≤ 256
theorem e_words_from (o : Mo k n f) (hX : Lot n X) : ∃ fs, m_words_from (eM k n f) (eWd X) = pure (.dict (dD eWd fs)) ∧ WordsOf k n f X fs := by
  have e0 : m_words_from (eM k n f) (eWd X) = DL.finish (sPar (oDictT (pure (eWd X)) (mTup [])) (runs [(pure (eWd X))]) fun x1 x2 => (sWhile (τ' := StW) condB (bodyC (eM k n f)) (x1, x2) fun t3 => (sRet (pure (.dict t3.1))))) := rfl
  rw [e0]
  have e1 : oDictT (pure (eWd X)) (mTup []) = pure (dD eWd [(X, [])]) := by
    simp only [oDictT, mTup, runs_nil, pure_bind]
    rw [chk_true (okT_wd X), pure_bind]
    rfl
  have e2 : runs [(pure (eWd X))] = pure (([(X, ([] : List Nat))].map (·.1)).map eWd) := rfl
  simp only [sPar]
  rw [e1, pure_bind, e2, pure_bind]
  simp only [sWhile]
  have e3 : (dD eWd [(X, [])], ([(X, ([] : List Nat))].map (·.1)).map eWd) = esW [(X, [])] 0 := rfl
  obtain ⟨fs, h1, b⟩ := run_words (X := X) o 256 [(X, [])] 0 (Nat.le_refl _) (Bf.start _ _ hX rfl ⟨(fun _ h => by cases h), rfl⟩)
  rw [e3, h1, pure_bind, contL_inl]
  have hsz := b.size _ _ o.n8
  refine ⟨fs, rfl, ⟨b.nd, b.gd, b.fin, hsz, fun e he => ?_⟩⟩
  obtain ⟨j, hj, ej⟩ := List.mem_iff_getElem.mp he
  have := b.pos j e (by rw [List.getElem?_eq_getElem hj, ej])
  omega
end
end L82
end
section
set_option Elab.async false
set_option linter.all false
set_option maxRecDepth 100000
set_option maxHeartbeats 4000000
set_option autoImplicit false
namespace L82
open PySem PySem.Spec PyProof.Rows L2 RZ DL
section
variable {k n : Nat} {f : Nat → Nat → Nat} {s t l : Nat} {w v X : List Nat}
theorem e_law_lot_by (o : Mo k n f) (hX : Lot n X) (hw : Wd k w) : m__law_lot_by (eM k n f) (eWd X) (eWd w) = pure (eWd (imgW n f X w)) := by
  unfold m__law_lot_by b__law_lot_by
  have n8 := o.n8
  have := pFor_st (b := fun x2 t1 => ((mUn ptuple (mLst (oSortSet (mLst (oLc (iAll (pure t1)) (fun d => pure d) (fun t3 => (pure true)) (fun t3 => (mOp pidx (mOp pidx (pure (eM k n f)) (pure x2)) (pure t3)))))))) >>= fun x4 => (pure (.nx x4) : M (Fl PyData PyData)))) eI eWd (fun Y l => img n (f l) Y) (fun _ Y => Lot n Y) w 0 X hX fun l hl j Y _ hY => by
    have hlk := hw l hl
    have hYl := hY.len
    refine ⟨?_, lot_img⟩
    have e1 : oLc (iAll (pure (eWd Y))) (fun d => pure d) (fun t1 => (pure true)) (fun t3 => (mOp pidx (mOp pidx (pure (eM k n f)) (pure (eI l))) (pure t3))) = pure ((Y.map (f l)).map eI) := by
      unfold oLc
      have : iAll (pure (eWd Y)) = pure (Y.map eI) := rfl
      rw [this, pure_bind, lcM_map eI (fun t => eI (f l t)) Y fun t ht => by simp only [mOp, pure_bind, idx_eM hlk]; exact idx_row' (hY.lt t ht), List.map_map]
      rfl
    have e2 := sort_lot (Y := Y.map (f l)) (by rw [List.length_map]; omega) (setSort_img (n := n) (g := f l) (X := Y) (fun t => Iff.rfl) fun t ht => o.lt l t hlk (hY.lt t ht))
    rw [e1]
    have e3 : mUn ptuple (mLst (oSortSet (mLst (pure ((Y.map (f l)).map eI))))) = pure (eWd (img n (f l) Y)) := e2
    rw [e3, pure_bind]
  simp only [sFor, iAll]
  have e0 : pitems (eWd w) = pure (w.map eI) := rfl
  rw [pure_bind, e0, pure_bind]
  rw [this, pure_bind, contL_inl]
  rfl
noncomputable def esL (gs : List (List Nat × Nat)) (L : Nat) : StW := (dD eI gs, ((gs.drop L).map (·.1)).map eWd)
noncomputable def bodyP (mv x7 x9 x11 : PyData) (t10 : StW) : M (Fl StW StW) := ((mCall (ap3 m__law_lot_by) [(pure mv), (pure x9), (mTup [(pure x11)])]) >>= fun x12 => (sIf (τ' := List (PyData × PyData) × List PyData) (tVal (mDninT t10.1 (pure x12))) (sDPutT (pure x7) (pure x12) t10.1 fun x14 x15 => (sApp (pure x12) t10.2 fun x16 => (pure (.nx ((dPut t10.1 x14 x15), (t10.2 ++ [x16])))))) (pure (.nx (t10.1, t10.2))) fun t13 => (pure (.nx (t13.1, t13.2)))))
noncomputable def bodyQ (mv x7 x9 : PyData) (t8 : StW) : M (Fl StW StW) := (sFor (τ' := List (PyData × PyData) × List PyData) (iRange1 (mUn plen (pure mv))) (fun d => pure d) (fun x11 t10 => bodyP mv x7 x9 x11 t10) (t8.1, t8.2) fun t10 => (pure (.nx (t10.1, t10.2))))
abbrev StL := List (PyData × PyData) × PyData × PyData
noncomputable def bodyR (mv : PyData) (t4 : StL) : M (Fl StL StL) := (sPar (runs []) (mOp padd (pure t4.2.2) (pure (.int 1))) fun x6 x7 => (sFor (τ' := List (PyData × PyData) × List PyData) (iAll (pure t4.2.1)) (fun d => pure d) (fun x9 t8 => bodyQ mv x7 x9 t8) (t4.1, x6) fun t8 => ((pure (.list t8.2)) >>= fun x17 => (pure (.nx (t8.1, x17, x7))))))
noncomputable def condR (t4 : StL) : M Bool := (DL.tCmp pne (pure t4.2.1) (mLst (runs [])))
theorem len_step (o : Mo k n f) {gs : List (List Nat × Nat)} {L d : Nat} {Y : List Nat} (hY : Lot n Y) (hL : L ≤ gs.length) (hl : l < k) (hz : gs.length ≤ 4096) :
    bodyP (eM k n f) (eI d) (eWd Y) (eI l) (esL gs L) = pure (.nx (esL (bput n f Y (fun _ => d) gs l) L)) := by
  unfold bodyP esL
  dsimp only
  have w1 : mTup [pure (eI l)] = pure (eWd [l]) := rfl
  have e0 : m__law_lot_by (eM k n f) (eWd Y) (eWd [l]) = pure (eWd (img n (f l) Y)) := e_law_lot_by o hY fun m hm => by simp at hm; omega
  rw [w1, call3, e0, liftP_pure, pure_bind]
  have hok := okT_wd (img n (f l) Y)
  have hc1 : tVal (mDninT (dD eI gs) (pure (eWd (img n (f l) Y)))) = pure (!decide (img n (f l) Y ∈ gs.map (·.1))) := by
    simp only [tVal, mDninT, pure_bind, chk_true hok, dGet_dD, asB_bool]
  simp only [sIf]
  rw [hc1, pure_bind]
  unfold bput
  by_cases h : img n (f l) Y ∈ gs.map (·.1)
  · rw [if_neg (by simp [h]), if_pos h]
    rfl
  · rw [if_pos (by simp [h]), if_neg h]
    have e2 : chk (okT (eWd (img n (f l) Y)) = true ∧ (dD eI gs).length < sizeLine) = pure () := chk_true ⟨hok, by rw [dD_len, sizeLine_eq]; omega⟩
    have e3 : chk ((((gs.drop L).map (·.1)).map eWd).length < sizeLine) = pure () := chk_true (by rw [List.length_map, List.length_map, List.length_drop, sizeLine_eq]; omega)
    simp only [sDPutT, sApp, pure_bind, e2, e3, thenF_nx]
    rw [dPut_new eI h, List.drop_append_of_le_length hL, List.map_append, List.map_append]
    rfl
def goodL (k n : Nat) (f : Nat → Nat → Nat) (X : List Nat) (Y : List Nat) (d : Nat) : Prop := ∃ w, Wd k w ∧ w.length = d ∧ imgW n f X w = Y
abbrev BL (k n : Nat) (f : Nat → Nat → Nat) (X : List Nat) (gs : List (List Nat × Nat)) (i : Nat) : Prop := Bf (fun d : Nat => d) (goodL k n f X) k n f X gs i
theorem item_run (o : Mo k n f) {gs : List (List Nat × Nat)} {L p d : Nat} (b : BL k n f X gs p) {cur : List Nat × Nat} (hc : gs[p]? = some cur) (hd : cur.2 = d) (hL : L ≤ gs.length) :
    ∃ ad, bodyQ (eM k n f) (eI (d + 1)) (eWd cur.1) (esL gs L) = pure (.nx (esL (gs ++ ad) L)) ∧ BL k n f X (gs ++ ad) (p + 1) ∧ ∀ e ∈ ad, e.2 = d + 1 := by
  have hcm : cur ∈ gs := List.mem_of_getElem? hc
  have gd := b.gd cur hcm
  have k8 := o.k8
  have n8 := o.n8
  have hsz := b.size _ _ n8
  obtain ⟨u, hu1, hu2, hu3⟩ := gd.2
  obtain ⟨ad, h1, h2, h3⟩ := Bf.next (fun d : Nat => d) (goodL k n f X) b hc (fun _ => d + 1) (fun l _ => by show d + 1 = cur.2 + 1; rw [hd]) fun l hl => ⟨u ++ [l], hu1.append fun m hm => by simp at hm; omega, by rw [List.length_append, hu2, hd]; rfl, by rw [imgW_one, hu3]⟩
  refine ⟨ad, ?_, h2, fun e he => by obtain ⟨l, _, rfl⟩ := h3 e he; rfl⟩
  unfold bodyQ
  have hr : iRange1 (mUn plen (pure (eM k n f))) = pure ((List.range k).map eI) := by
    have : mUn plen (pure (eM k n f)) = pure (eI k) := by simp only [mUn, pure_bind, len_eM]
    rw [this]
    exact range1_nat (by omega)
  simp only [sFor]
  rw [hr, pure_bind]
  have := pFor_st (b := fun x11 t10 => bodyP (eM k n f) (eI (d + 1)) (eWd cur.1) x11 t10) eI (fun gs : List (List Nat × Nat) => esL gs L) (bput n f cur.1 fun _ => d + 1) (fun _ gs => (gs.map (·.1)).Nodup ∧ L ≤ gs.length ∧ gs.length ≤ 256 ∧ ∀ e ∈ gs, Lot n e.1) (List.range k) 0 gs ⟨b.nd, hL, hsz, fun e he => (b.gd e he).1⟩ fun l hl j gs' _ ⟨r1, r3, r4, r5⟩ => by
    have hlk := List.mem_range.mp hl
    refine ⟨len_step o gd.1 r3 hlk (by omega), ?_⟩
    obtain ⟨ad', q1, q2, q3, q4⟩ := bput_fold n f cur.1 (fun _ => d + 1) [l] gs'
    have q1' : bput n f cur.1 (fun _ => d + 1) gs' l = gs' ++ ad' := q1
    rw [q1']
    have r5' : ∀ e ∈ gs' ++ ad', Lot n e.1 := fun e he => by
      rcases List.mem_append.mp he with he | he
      · exact r5 e he
      · obtain ⟨m, _, rfl⟩ := q3 e he
        exact lot_img
    have q2' := q2 r1
    refine ⟨q2', by rw [List.length_append]; omega, ?_, r5'⟩
    have := lots_len q2' (n := n) (fun Y hY => by
      obtain ⟨e, he, rfl⟩ := List.mem_map.mp hY
      exact r5' e he) n8
    rwa [List.length_map] at this
  have e4 : ((esL gs L).1, (esL gs L).2) = esL gs L := rfl
  rw [e4, this, h1, pure_bind, contL_inl]
theorem round_run (o : Mo k n f) {L d : Nat} : ∀ (m p : Nat) (gs : List (List Nat × Nat)), L - p = m → p ≤ L → L ≤ gs.length → BL k n f X gs p → (∀ j e, p ≤ j → j < L → gs[j]? = some e → e.2 = d) → (∀ j e, L ≤ j → gs[j]? = some e → e.2 = d + 1) →
    ∃ gs', pFor (υ := PyData) (fun d => pure d) (fun x9 t8 => bodyQ (eM k n f) (eI (d + 1)) x9 t8) ((((gs.take L).drop p).map (·.1)).map eWd) (esL gs L) = pure (.inl (esL gs' L)) ∧ BL k n f X gs' L ∧ L ≤ gs'.length ∧ ∀ j e, L ≤ j → gs'[j]? = some e → e.2 = d + 1 := by
  intro m
  induction m with
  | zero =>
    intro p gs hm hp hL b _ h2
    have : p = L := by omega
    subst this
    refine ⟨gs, ?_, b, hL, h2⟩
    rw [List.drop_eq_nil_of_le (by rw [List.length_take]; omega)]
    rfl
  | succ m ih =>
    intro p gs hm hp hL b h1 h2
    have hpl : p < gs.length := by omega
    have hc : gs[p]? = some gs[p] := List.getElem?_eq_getElem hpl
    generalize hcur : gs[p] = cur at hc
    have hd := h1 p cur (Nat.le_refl _) (by omega) hc
    obtain ⟨ad, q1, q2, q3⟩ := item_run o b hc hd hL
    have htl : p < (gs.take L).length := by rw [List.length_take]; omega
    have hdr : (gs.take L).drop p = cur :: (gs.take L).drop (p + 1) := by
      rw [List.drop_eq_getElem_cons htl, List.getElem_take, hcur]
    rw [hdr, List.map_cons, List.map_cons]
    unfold pFor
    rw [pure_bind, q1, pure_bind]
    have ht : (gs ++ ad).take L = gs.take L := List.take_append_of_le_length hL
    have := ih (p + 1) (gs ++ ad) (by omega) (by omega) (by rw [List.length_append]; omega) q2 (fun j e hj hjL he => by
      rw [List.getElem?_append_left (by omega)] at he
      exact h1 j e (by omega) hjL he) (fun j e hj he => by
      by_cases hjl : j < gs.length
      · rw [List.getElem?_append_left hjl] at he
        exact h2 j e hj he
      · rw [List.getElem?_append_right (by omega)] at he
        exact q3 e (List.mem_of_getElem? he))
    rw [ht] at this
    exact this
noncomputable def esR (fs : List (List Nat × Nat)) (i d : Nat) : StL := (dD eI fs, .list (((fs.drop i).map (·.1)).map eWd), eI d)
theorem body_round (o : Mo k n f) {fs : List (List Nat × Nat)} {i d : Nat} (b : BL k n f X fs i) (hd : ∀ j e, i ≤ j → fs[j]? = some e → e.2 = d) : ∃ fs', bodyR (eM k n f) (esR fs i d) = pure (.nx (esR fs' fs.length (d + 1))) ∧ BL k n f X fs' fs.length ∧ fs.length ≤ fs'.length ∧ ∀ j e, fs.length ≤ j → fs'[j]? = some e → e.2 = d + 1 := by
  obtain ⟨fs', h1, h2, h3, h4⟩ := round_run (L := fs.length) (d := d) o _ i fs rfl b.il (Nat.le_refl _) b (fun j e hj _ he => hd j e hj he) fun j e hj he => by
    rw [List.getElem?_eq_none hj] at he
    cases he
  refine ⟨fs', ?_, h2, h3, h4⟩
  rw [List.take_length] at h1
  unfold bodyR esR
  dsimp only
  have e1 : mOp padd (pure (eI d)) (pure (.int 1)) = pure (eI (d + 1)) := by simp only [mOp, pure_bind]; rfl
  simp only [sPar]
  rw [runs_nil, pure_bind, e1, pure_bind]
  simp only [sFor, iAll]
  have e2 : (dD eI fs, ([] : List PyData)) = esL fs fs.length := by unfold esL; rw [List.drop_length]; rfl
  rw [pure_bind, pitems_list, pure_bind, e2, h1, pure_bind, contL_inl]
  rfl
theorem run_rounds (o : Mo k n f) : ∀ (m : Nat) (fs : List (List Nat × Nat)) (i d : Nat), 256 - i ≤ m → BL k n f X fs i → (∀ j e, i ≤ j → fs[j]? = some e → e.2 = d) → ∃ fs' d', pWhile condR (bodyR (eM k n f)) (esR fs i d) = pure (.inl (esR fs' fs'.length d')) ∧ BL k n f X fs' fs'.length := by
  intro m
  induction m with
  | zero =>
    intro fs i d hm b hd
    have := b.size _ _ o.n8
    have hil := b.il
    have : i = fs.length := by omega
    subst this
    refine ⟨fs, d, while_end ?_, b⟩
    have : condR (esR fs fs.length d) = (do let z ← pne (.list (((fs.drop fs.length).map (·.1)).map eWd)) (.list []); asB z) := rfl
    rw [this, ne_nil (wds_plain _), List.drop_length]
    rfl
  | succ m ih =>
    intro fs i d hm b hd
    have hil := b.il
    have hcond : condR (esR fs i d) = pure (!(((fs.drop i).map (·.1)).map eWd).isEmpty) := by
      have : condR (esR fs i d) = (do let z ← pne (.list (((fs.drop i).map (·.1)).map eWd)) (.list []); asB z) := rfl
      rw [this, ne_nil (wds_plain _), pure_bind, asB_bool]
    by_cases hi : i < fs.length
    · obtain ⟨fs', h1, h2, h3, h4⟩ := body_round o b hd
      rw [while_step (t' := esR fs' fs.length (d + 1)) (by rw [hcond, List.drop_eq_getElem_cons hi]; rfl) h1]
      exact ih _ _ _ (by omega) h2 h4
    · have : i = fs.length := by omega
      subst this
      refine ⟨fs, d, while_end ?_, b⟩
      rw [hcond, List.drop_length]
      rfl
/-- all lots to which X may be led, each with the least length of a word -/
structure LensOf (k n : Nat) (f : Nat → Nat → Nat) (X : List Nat) (fs : List (List Nat × Nat)) : Prop where
  nd : (fs.map (·.1)).Nodup
  gd : ∀ e ∈ fs, Lot n e.1 ∧ ∃ w, Wd k w ∧ w.length = e.2 ∧ imgW n f X w = e.1
  all : ∀ w, Wd k w → ∃ e ∈ fs, e.1 = imgW n f X w ∧ e.2 ≤ w.length
  sz : fs.length ≤ 256
theorem e_law_lengths_of (o : Mo k n f) (hX : Lot n X) : ∃ fs, m__law_lengths_of (eM k n f) (eWd X) = pure (.dict (dD eI fs)) ∧ LensOf k n f X fs := by
  have e0 : m__law_lengths_of (eM k n f) (eWd X) = DL.finish (sPar_3 (oDictT (pure (eWd X)) (pure (.int 0))) (mLst (runs [(pure (eWd X))])) (pure (.int 0)) fun x1 x2 x3 => (sWhile (τ' := StL) condR (bodyR (eM k n f)) (x1, x2, x3) fun t4 => (sRet (pure (.dict t4.1))))) := rfl
  rw [e0]
  have e1 : oDictT (pure (eWd X)) (pure (.int 0)) = pure (dD eI [(X, 0)]) := by
    simp only [oDictT, pure_bind]
    rw [chk_true (okT_wd X), pure_bind]
    rfl
  have e2 : mLst (runs [(pure (eWd X))]) = pure (.list (([(X, 0)].map (·.1)).map eWd)) := rfl
  simp only [sPar_3]
  rw [e1, pure_bind, e2, pure_bind, pure_bind]
  simp only [sWhile]
  have e3 : (dD eI [(X, 0)], PyData.list (([(X, 0)].map (·.1)).map eWd), PyData.int 0) = esR [(X, 0)] 0 0 := rfl
  obtain ⟨fs, d, h1, b⟩ := run_rounds (X := X) o 256 [(X, 0)] 0 0 (Nat.le_refl _) (Bf.start _ _ hX rfl ⟨[], (fun _ h => by cases h), rfl, rfl⟩) fun j e _ he => by
    have := List.mem_of_getElem? he
    simp at this
    rw [this]
  rw [e3, h1, pure_bind, contL_inl]
  exact ⟨fs, rfl, ⟨b.nd, b.gd, b.fin, b.size _ _ o.n8⟩⟩
end
end L82
end
section
set_option Elab.async false
set_option linter.all false
set_option maxRecDepth 100000
set_option maxHeartbeats 4000000
set_option autoImplicit false
namespace L82
open PySem PySem.Spec PyProof.Rows L2 RZ PySem.W DL
theorem lcM_pairs {ι : Type} {t : PyData × PyData → M Bool} {g : PyData × PyData → M PyData} (e1 e2 : ι → PyData) (b : ι → Bool) (y : ι → PyData) : ∀ xs : List ι, (∀ i ∈ xs, t (e1 i, e2 i) = pure (b i)) → (∀ i ∈ xs, b i = true → g (e1 i, e2 i) = pure (y i)) → lcM unp2 t g (xs.map fun i => .tuple [e1 i, e2 i]) = pure ((xs.filter b).map y)
  | [], _, _ => rfl
  | i :: xs, ht, hg => by
    have ih := lcM_pairs (t := t) (g := g) e1 e2 b y xs (fun j hj => ht j (by simp [hj])) (fun j hj => hg j (by simp [hj]))
    have hu : unp2 (.tuple [e1 i, e2 i]) = pure (e1 i, e2 i) := rfl
    rw [List.map_cons]
    unfold lcM
    rw [hu, noexc_pure, pure_bind, ht i (by simp), noexc_pure, pure_bind]
    cases hb : b i with
    | true => rw [if_pos rfl, hg i (by simp) hb, noexc_pure, pure_bind, ih, pure_bind, List.filter_cons, if_pos hb, List.map_cons]
    | false => rw [if_neg (by simp), ih, List.filter_cons, if_neg (by simp [hb])]
/-- a word with its length ahead -/
def pw (w : List Nat) : PyData := .tuple [eI w.length, eWd w]
theorem minD_pw : ∀ (ws : List (List Nat)) (w : List Nat), ∃ v ∈ w :: ws, minD (pw w) (ws.map pw) = pw v ∧ ∀ u ∈ w :: ws, v.length ≤ u.length
  | [], w => ⟨w, by simp, rfl, by simp⟩
  | a :: ws, w => by
    have lt : ∀ x y : List Nat, (dataLt (pw x) (pw y) = true → x.length ≤ y.length) ∧ (dataLt (pw x) (pw y) = false → y.length ≤ x.length) := fun x y => by
      have e : dataLt (pw x) (pw y) = if PyData.eqv (eI x.length) (eI y.length) = true then PyProof.Rows.lexLt itemOrd (keyToksAll [eWd x]) (keyToksAll [eWd y]) else dataLt (eI x.length) (eI y.length) := by
        unfold pw
        rw [dataLt_tuple, dataLt_cons (x := eI x.length) (y := eI y.length) (alike_int _ _)]
      have e2 : PyData.eqv (eI x.length) (eI y.length) = decide ((x.length : Int) = y.length) := by
        show (((x.length : Int) == (y.length : Int)) : Bool) = _
        rw [Bool.eq_iff_iff, beq_iff_eq, decide_eq_true_eq]
      have e3 : dataLt (eI x.length) (eI y.length) = decide ((x.length : Int) < y.length) := dataLt_int _ _
      rw [e, e2, e3]
      by_cases h : (x.length : Int) = y.length
      · exact ⟨fun _ => by omega, fun _ => by omega⟩
      · rw [if_neg (by simp [h])]
        exact ⟨fun z => by rw [decide_eq_true_eq] at z; omega, fun z => by rw [decide_eq_false_iff_not] at z; omega⟩
    have hs : minD (pw w) ((a :: ws).map pw) = minD (if dataLt (pw a) (pw w) then pw a else pw w) (ws.map pw) := rfl
    rw [hs]
    cases h : dataLt (pw a) (pw w) with
    | true =>
      rw [if_pos rfl]
      obtain ⟨v, h1, h2, h3⟩ := minD_pw ws a
      have := (lt a w).1 h
      have ha := h3 a (by simp)
      exact ⟨v, List.mem_cons_of_mem _ h1, h2, fun u hu => by
        rcases List.mem_cons.mp hu with rfl | hu
        · omega
        · exact h3 u hu⟩
    | false =>
      rw [if_neg (by simp)]
      obtain ⟨v, h1, h2, h3⟩ := minD_pw ws w
      have := (lt a w).2 h
      have ha := h3 w (by simp)
      refine ⟨v, ?_, h2, fun u hu => ?_⟩
      · rcases List.mem_cons.mp h1 with rfl | h1
        · simp
        · simp [h1]
      · rcases List.mem_cons.mp hu with rfl | hu
        · exact h3 u (by simp)
        · rcases List.mem_cons.mp hu with rfl | hu
          · omega
          · exact h3 u (by simp [hu])
theorem minD_eI : ∀ (ds : List Nat) (d : Nat), ∃ v ∈ d :: ds, minD (eI d) (ds.map eI) = eI v ∧ ∀ u ∈ d :: ds, v ≤ u
  | [], d => ⟨d, by simp, rfl, by simp⟩
  | a :: ds, d => by
    have hs : minD (eI d) ((a :: ds).map eI) = minD (if dataLt (eI a) (eI d) then eI a else eI d) (ds.map eI) := rfl
    have e3 : dataLt (eI a) (eI d) = decide ((a : Int) < d) := dataLt_int _ _
    rw [hs, e3]
    by_cases h : (a : Int) < d
    · rw [if_pos (decide_eq_true h)]
      obtain ⟨v, h1, h2, h3⟩ := minD_eI ds a
      have ha := h3 a (by simp)
      exact ⟨v, List.mem_cons_of_mem _ h1, h2, fun u hu => by
        rcases List.mem_cons.mp hu with rfl | hu
        · omega
        · exact h3 u hu⟩
    · rw [if_neg (by simpa using h)]
      obtain ⟨v, h1, h2, h3⟩ := minD_eI ds d
      have ha := h3 d (by simp)
      refine ⟨v, ?_, h2, fun u hu => ?_⟩
      · rcases List.mem_cons.mp h1 with rfl | h1
        · simp
        · simp [h1]
      · rcases List.mem_cons.mp hu with rfl | hu
        · exact h3 u (by simp)
        · rcases List.mem_cons.mp hu with rfl | hu
          · omega
          · exact h3 u (by simp [hu])
theorem depth_wd (w : List Nat) : (eWd w).depth = 1 := by
  unfold eWd
  rw [eI_int, PyData.depth, DL.depthAll_ints]
theorem depth_pw (w : List Nat) : (pw w).depth = 2 := by
  unfold pw
  rw [PyData.depth, PyData.depthAll, PyData.depthAll, PyData.depthAll, depth_wd]
  rfl
theorem depthAll_le {m : Nat} : ∀ {ds : List PyData}, (∀ d ∈ ds, d.depth ≤ m) → PyData.depthAll ds ≤ m
  | [], _ => Nat.zero_le _
  | d :: ds, h => by
    rw [PyData.depthAll]
    exact Nat.max_le.mpr ⟨h d (by simp), depthAll_le fun e he => h e (by simp [he])⟩
theorem minOk_pw (ws : List (List Nat)) : minOk (ws.map pw) = true := by
  unfold minOk
  have h0 : PyData.plainAll (ws.map pw) = true := plainAll_of fun d hd => by
    obtain ⟨w, _, rfl⟩ := List.mem_map.mp hd
    show PyData.plainAll [eI w.length, eWd w] = true
    rw [PyData.plainAll, PyData.plainAll]
    show (true && ((eWd w).plain && true)) = true
    rw [show (eWd w).plain = true from eI_plain w]
    rfl
  have h1 : alikeB (ws.map pw) = true := by
    unfold alikeB
    rw [List.all_eq_true]
    intro d hd
    obtain ⟨w, _, rfl⟩ := List.mem_map.mp hd
    rw [List.all_eq_true]
    intro e he
    obtain ⟨v, _, rfl⟩ := List.mem_map.mp he
    show W.alike (.tuple [eI w.length, eWd w]) (.tuple [eI v.length, eWd v]) = true
    have e1 : W.alike (eWd w) (eWd v) = true := by
      unfold eWd
      rw [eI_int, eI_int]
      show W.alike (.tuple _) (.tuple _) = true
      simp only [W.alike, alikeAll_ints]
    have e2 : W.alike (eI w.length) (eI v.length) = true := alike_int _ _
    simp only [W.alike, W.alikeAll, e1, e2]
    rfl
  have h3 : PyData.depthAll (ws.map pw) ≤ 100 := depthAll_le fun d hd => by
    obtain ⟨w, _, rfl⟩ := List.mem_map.mp hd
    rw [depth_pw]
    decide
  simp only [Bool.and_eq_true, decide_eq_true_eq]
  refine ⟨⟨⟨h0, h1⟩, ?_⟩, h3⟩
  rw [List.all_eq_true]
  intro d hd
  obtain ⟨w, _, rfl⟩ := List.mem_map.mp hd
  rfl
theorem minOk_eI (ns : List Nat) : minOk (ns.map eI) = true := by
  unfold minOk
  have h1 : alikeB (ns.map eI) = true := by
    unfold alikeB
    rw [List.all_eq_true]
    intro d hd
    obtain ⟨i, _, rfl⟩ := List.mem_map.mp hd
    rw [List.all_eq_true]
    intro e he
    obtain ⟨j, _, rfl⟩ := List.mem_map.mp he
    exact alike_int _ _
  have h3 : PyData.depthAll (ns.map eI) ≤ 100 := by rw [eI_int, DL.depthAll_ints]; decide
  simp only [Bool.and_eq_true, decide_eq_true_eq]
  refine ⟨⟨⟨eI_plain ns, h1⟩, ?_⟩, h3⟩
  rw [List.all_eq_true]
  intro d hd
  obtain ⟨w, _, rfl⟩ := List.mem_map.mp hd
  rfl
section
variable {k n : Nat} {f : Nat → Nat → Nat} {s t l a b : Nat} {w v X : List Nat}
theorem peq_len (a b : Nat) : peq (eI a) (eI b) = pure (.bool (decide (a = b))) := by
  unfold eI
  rw [peq_int]
  exact congrArg (fun z => pure (PyData.bool z)) (decide_eq_decide.mpr ⟨fun h => by omega, fun h => by omega⟩)
theorem len_wd (w : List Nat) : plen (eWd w) = pure (eI w.length) := by unfold eWd; rw [plen_tuple, List.length_map]; rfl
theorem items_dD {P : Type} (e' : P → PyData) (fs : List (List Nat × P)) : iItems (pure (.dict (dD e' fs))) = pure (fs.map fun e => .tuple [eWd e.1, e' e.2]) := by
  show (pure ((dD e' fs).map fun p => .tuple [p.1, p.2]) : M (List PyData)) = _
  unfold dD
  rw [List.map_map]
  rfl
/-- the able words of a size -/
theorem e_able (o : Mo k n f) (size : Nat) {fs : List (List Nat × List Nat)} (he : m_words_from (eM k n f) (eWd (List.range n)) = pure (.dict (dD eWd fs))) :
    oLc (iItems (mCall (ap2 m_words_from) [(pure (eM k n f)), (mCall (ap1 m_all_spots) [(pure (eM k n f))])])) unp2 (fun t1 => (DL.tCmp peq (mUn plen (pure t1.1)) (pure (eI size)))) (fun t1 => (mTup [(mUn plen (pure t1.2)), (pure t1.2)])) = pure (((fs.filter fun e => decide (e.1.length = size)).map (·.2)).map pw) := by
  have e1 : mCall (ap2 m_words_from) [(pure (eM k n f)), (mCall (ap1 m_all_spots) [(pure (eM k n f))])] = pure (.dict (dD eWd fs)) := by
    rw [call1, e_all_spots o, liftP_pure, call2, he]; rfl
  rw [e1]
  unfold oLc
  rw [items_dD, pure_bind, lcM_pairs (fun e : List Nat × List Nat => eWd e.1) (fun e => eWd e.2) (fun e => decide (e.1.length = size)) (fun e => pw e.2) fs (fun e _ => ?_) fun e _ _ => ?_, List.map_map]
  · rfl
  · simp only [DL.tCmp, mUn, pure_bind, len_wd, peq_len, asB_bool]
  · simp only [mTup, mUn, runs_cons, runs_nil, pure_bind, len_wd]
    rfl
/-- the least word that leaves one spot -/
theorem e_word_to_size (o : Mo k n f) : (m_word_to_size (eM k n f) (.int 1) = pure .none ∧ ¬ ∃ w, Rs k n f w) ∨ ∃ w, m_word_to_size (eM k n f) (.int 1) = pure (eWd w) ∧ Rs k n f w ∧ ∀ v, Rs k n f v → w.length ≤ v.length := by
  obtain ⟨fs, he, W⟩ := e_words_from o (lot_range (n := n))
  have hab := e_able o 1 he
  have e0 : m_word_to_size (eM k n f) (.int 1) = DL.finish ((oLc (iItems (mCall (ap2 m_words_from) [(pure (eM k n f)), (mCall (ap1 m_all_spots) [(pure (eM k n f))])])) unp2 (fun t1 => (DL.tCmp peq (mUn plen (pure t1.1)) (pure (eI 1)))) (fun t1 => (mTup [(mUn plen (pure t1.2)), (pure t1.2)]))) >>= fun xs2 => (sRet (mIf (DL.tCmp pne (pure (.list xs2)) (mLst (runs []))) (mOp pidx (mUn pmin1 (pure (.list xs2))) (pure (.int 1))) (pure .none)))) := rfl
  rw [e0, hab, pure_bind]
  generalize hws : ((fs.filter fun e => decide (e.1.length = 1)).map (·.2)) = ws
  have mem : ∀ w, w ∈ ws ↔ ∃ e ∈ fs, e.1.length = 1 ∧ e.2 = w := fun w => by
    rw [← hws, List.mem_map]
    constructor
    · rintro ⟨e, h, rfl⟩
      obtain ⟨h1, h2⟩ := List.mem_filter.mp h
      exact ⟨e, h1, of_decide_eq_true h2, rfl⟩
    · rintro ⟨e, h1, h2, rfl⟩
      exact ⟨e, List.mem_filter.mpr ⟨h1, decide_eq_true h2⟩, rfl⟩
  have hpl : PyData.plainAll (ws.map pw) = true := by
    have := minOk_pw ws
    exact (minOk_iff this).1
  have hne : DL.tCmp pne (pure (.list (ws.map pw))) (mLst (runs [])) = pure (!(ws.map pw).isEmpty) := by
    simp only [DL.tCmp, mLst, runs_nil, pure_bind]
    rw [ne_nil hpl, pure_bind, asB_bool]
  simp only [mIf]
  rw [hne, pure_bind]
  cases ws with
  | nil =>
    refine .inl ⟨rfl, ?_⟩
    rintro ⟨w, hw, h1⟩
    obtain ⟨e, q1, q2, _⟩ := W.all w hw
    have := (mem e.2).mpr ⟨e, q1, by rw [q2]; exact h1, rfl⟩
    cases this
  | cons w ws =>
    obtain ⟨v, h1, h2, h3⟩ := minD_pw ws w
    obtain ⟨e, q1, q2, q3⟩ := (mem v).mp h1
    have gd := W.gd e q1
    refine .inr ⟨v, ?_, ⟨q3 ▸ gd.2.1, ?_⟩, ?_⟩
    · have hmin : mUn pmin1 (pure (.list ((w :: ws).map pw))) = pure (pw v) := by
        simp only [mUn, pure_bind]
        have := minOk_pw (w :: ws)
        rw [List.map_cons] at this
        show (do chk (minOk (pw w :: ws.map pw) = true); pure (minD (pw w) (ws.map pw)) : M PyData) = _
        rw [chk_true this, pure_bind, h2]
      rw [hmin]
      rfl
    · rw [← q3, gd.2.2]; exact q2
    · intro u hu
      obtain ⟨e', r1, r2, r3⟩ := W.all u hu.1
      have := h3 e'.2 ((mem e'.2).mpr ⟨e', r1, by rw [r2]; exact hu.2, rfl⟩)
      omega
theorem e_word_to_one (o : Mo k n f) {d : PyData} (h : m_word_to_size (eM k n f) (.int 1) = pure d) : m_word_to_one (eM k n f) = pure d := by
  unfold m_word_to_one b_word_to_one
  rw [call1, e_need_moving o, call2, h]
  rfl
theorem e_fewest_none (o : Mo k n f) (h : m_word_to_size (eM k n f) (.int 1) = pure .none) : m_fewest_to_one (eM k n f) = pure .none := by
  unfold m_fewest_to_one b_fewest_to_one
  rw [call1, e_need_moving o, call2, h]
  rfl
theorem e_fewest_some (o : Mo k n f) (h : m_word_to_size (eM k n f) (.int 1) = pure (eWd w)) : m_fewest_to_one (eM k n f) = pure (eI w.length) := by
  unfold m_fewest_to_one b_fewest_to_one
  rw [call1, e_need_moving o, call2, h, liftP_pure, pure_bind, liftP_pure, pure_bind]
  have : mIf (DL.tCmp pnotN (pure (eWd w)) (pure .none)) (mUn plen (pure (eWd w))) (pure .none) = pure (eI w.length) := by
    have e1 : DL.tCmp pnotN (pure (eWd w)) (pure .none) = pure true := rfl
    simp only [mIf]
    rw [e1, pure_bind, if_pos rfl]
    simp only [mUn, pure_bind, len_wd]
  rw [this]
  rfl
/-! ### spots never led to one -/
theorem lot_two (hab : a < b) (hb : b < n) : Lot n [a, b] := by
  unfold Lot
  refine List.Perm.eq_of_pairwise (le := fun a b : Nat => a ≤ b) (fun a b _ _ h1 h2 => by omega) ?_ (List.pairwise_le_range.filter _) (perm_of_mem ?_ (List.nodup_range.filter _) fun t => ?_)
  · simp; omega
  · simp; omega
  · rw [List.mem_filter, List.mem_range, decide_eq_true_eq]
    refine ⟨fun h => ⟨?_, h⟩, fun h => h.2⟩
    simp at h
    omega
theorem two_len (o : Mo k n f) (hab : a < b) (hb : b < n) (hw : Wd k w) : (imgW n f [a, b] w).length = 1 ↔ led f a w = led f b w := by
  rw [img_one o (lot_two hab hb) hw (by simp)]
  constructor
  · intro h; exact h a (by simp) b (by simp)
  · intro h x hx y hy
    simp at hx hy
    rcases hx with rfl | rfl <;> rcases hy with rfl | rfl <;> first | rfl | exact h | exact h.symm
open Classical in
theorem e_are_apart (o : Mo k n f) (hab : a < b) (hb : b < n) : m_are_apart (eM k n f) (eI a) (eI b) = pure (.bool (decide (Apart k f a b))) := by
  obtain ⟨fs, he, W⟩ := e_words_from o (lot_two hab hb)
  unfold m_are_apart b_are_apart
  have e1 : mCall (ap2 m_words_from) [(pure (eM k n f)), (mTup [(pure (eI a)), (pure (eI b))])] = pure (.dict (dD eWd fs)) := by
    have : mTup [(pure (eI a)), (pure (eI b))] = pure (eWd [a, b]) := rfl
    rw [this, call2, he]; rfl
  have e2 : oLc (iAll (pure (.dict (dD eWd fs)))) (fun d => pure d) (fun t1 => (pure true)) (fun t1 => (mOp peq (mUn plen (pure t1)) (pure (.int 2)))) = pure (fs.map fun e => .bool (decide (e.1.length = 2))) := by
    unfold oLc
    have : iAll (pure (.dict (dD eWd fs))) = pure (fs.map fun e => eWd e.1) := by
      show (pure ((dD eWd fs).map (·.1)) : M (List PyData)) = _
      rw [dD_keys, List.map_map]
      rfl
    rw [this, pure_bind, lcM_map (fun e : List Nat × List Nat => eWd e.1) (fun e => .bool (decide (e.1.length = 2))) fs fun e _ => ?_]
    simp only [mOp, mUn, pure_bind, len_wd]
    exact peq_len _ 2
  have e3 : mUn pall (mLst (pure (fs.map fun e => PyData.bool (decide (e.1.length = 2))))) = pure (.bool (fs.all fun e => decide (e.1.length = 2))) := by
    simp only [mUn, mLst, pure_bind]
    unfold pall
    dsimp only
    have : fs.map (fun e => PyData.bool (decide (e.1.length = 2))) = (fs.map fun e => decide (e.1.length = 2)).map .bool := by rw [List.map_map]; rfl
    rw [this, boolsOf_map, optM_some, pure_bind, List.all_map]
    rfl
  have e4 : mUn pall (mLst (oLc (iAll (mCall (ap2 m_words_from) [(pure (eM k n f)), (mTup [(pure (eI a)), (pure (eI b))])])) (fun d => pure d) (fun t1 => (pure true)) (fun t1 => (mOp peq (mUn plen (pure t1)) (pure (.int 2)))))) = pure (.bool (decide (Apart k f a b))) := by
    rw [e1, e2, e3]
    congr 2
    rw [Bool.eq_iff_iff, List.all_eq_true, decide_eq_true_eq]
    constructor
    · intro h w hw e
      obtain ⟨x, q1, q2, _⟩ := W.all w hw
      have h2 := of_decide_eq_true (h x q1)
      have h1 := (two_len o hab hb hw).mpr e
      rw [q2, h1] at h2
      cases h2
    · intro h x hx
      have gd := W.gd x hx
      rw [decide_eq_true_eq, ← gd.2.2]
      have h1 := img_le o (lot_two hab hb) gd.2.1
      have h2 := List.length_pos_iff.mpr (img_ne o (lot_two hab hb) gd.2.1 (by simp))
      have h3 : (imgW n f [a, b] x.2).length ≠ 1 := fun e => h x.2 gd.2.1 ((two_len o hab hb gd.2.1).mp e)
      have h4 : [a, b].length = 2 := rfl
      omega
  rw [e4]
  rfl
end
end L82
end
section
set_option Elab.async false
set_option linter.all false
set_option maxRecDepth 100000
set_option maxHeartbeats 4000000
set_option autoImplicit false
namespace L82
open PySem PySem.Spec PyProof.Rows L2 RZ PySem.W DL
theorem pitems_t (ds : List PyData) : iAll (pure (.tuple ds)) = pure ds := rfl
theorem filt_nil {ds : List PyData} {p : PyData → Bool} {t : PyData → M Bool} (hp : ∀ d ∈ ds, d.plain = true) (ht : ∀ d ∈ ds, t d = pure (!p d)) : mOp peq (mLst (oLc (iAll (pure (.tuple ds))) (fun d => pure d) t (fun t1 => pure t1))) (mLst (runs [])) = pure (.bool (ds.all p)) := by
  have hl := lcM_filter (t := t) (fun d : PyData => d) (fun d => !p d) ds ht
  simp only [List.map_id'] at hl
  unfold oLc
  rw [pitems_t, pure_bind, hl]
  simp only [mOp, mLst, runs_nil, pure_bind]
  rw [peq_nil (plainAll_of fun d hd => hp d (List.mem_filter.mp hd).1)]
  congr 2
  rw [Bool.eq_iff_iff, List.isEmpty_iff, List.filter_eq_nil_iff, List.all_eq_true]
  simp
theorem filt_ne {ds : List PyData} {p : PyData → Bool} {t : PyData → M Bool} (hp : ∀ d ∈ ds, d.plain = true) (ht : ∀ d ∈ ds, t d = pure (!p d)) : DL.tCmp pne (mLst (oLc (iAll (pure (.tuple ds))) (fun d => pure d) t (fun t1 => pure t1))) (mLst (runs [])) = pure (!ds.all p) := by
  have hl := lcM_filter (t := t) (fun d : PyData => d) (fun d => !p d) ds ht
  simp only [List.map_id'] at hl
  unfold oLc
  rw [pitems_t, pure_bind, hl]
  simp only [DL.tCmp, mLst, runs_nil, pure_bind]
  rw [ne_nil (plainAll_of fun d hd => hp d (List.mem_filter.mp hd).1), pure_bind, asB_bool]
  congr 2
  rw [Bool.eq_iff_iff, List.isEmpty_iff, List.filter_eq_nil_iff, List.all_eq_true]
  simp
theorem sort_whole {d : PyData} (hd : d.plain = true) {X : M PyData} {k : Int} (hX : X = pure (.int k)) : DL.tOr (DL.tCmp pne (mCall (ap1 m__law_sort) [pure d]) (pure (.int 2))) (tNo (tVal (mChain ple plt (pure (.int 0)) (pure d) X))) = pure (!wholeB (k - 1) d) := by
  subst hX
  simp only [call1, DL.tOr, DL.tCmp, e_law_sort hd, liftP_pure, pure_bind, pne_int, asB_bool]
  cases d with
  | int i =>
    show (if (!decide ((2 : Int) = 2)) = true then pure true else tNo (tVal (mChain ple plt (pure (.int 0)) (pure (.int i)) (pure (.int k))))) = _
    rw [if_neg (by simp)]
    simp only [tNo, tVal, mChain, pure_bind, pcmp_int, asB_bool, bind_assoc]
    show _ = pure (!(decide (0 ≤ i) && decide (i ≤ k - 1)))
    have e : decide (i < k) = decide (i ≤ k - 1) := by
      by_cases h : i < k
      · rw [decide_eq_true h, decide_eq_true (by omega)]
      · rw [decide_eq_false h, decide_eq_false (by omega)]
    rw [e]
    cases decide (0 ≤ i) <;> rfl
  | _ => rfl
section
variable {k n : Nat} {f : Nat → Nat → Nat} {s t l a b : Nat} {w v X : List Nat}
theorem mUnlen (k n : Nat) (f : Nat → Nat → Nat) : mUn plen (pure (eM k n f)) = pure (eI k) := by simp only [mUn, pure_bind, len_eM]
/-! ### values that are words -/
def wordB (k : Nat) : PyData → Bool
  | .tuple ds => decide ((ds.length : Int) ≤ 200) && ds.all (wholeB ((k : Int) - 1))
  | _ => false
theorem nats_of {m : Nat} : ∀ {ds : List PyData}, ds.all (wholeB ((m : Int) - 1)) = true → ∃ w : List Nat, ds = w.map eI ∧ ∀ l ∈ w, l < m
  | [], _ => ⟨[], rfl, fun _ h => by cases h⟩
  | d :: ds, h => by
    rw [List.all_cons, Bool.and_eq_true] at h
    obtain ⟨x, rfl, hx⟩ := whole_nat h.1
    obtain ⟨w, rfl, hw⟩ := nats_of h.2
    exact ⟨x :: w, rfl, fun l hl => by
      rcases List.mem_cons.mp hl with rfl | hl
      · omega
      · exact hw l hl⟩
theorem word_of {d : PyData} (h : wordB k d = true) : ∃ w, d = eWd w ∧ Wd k w ∧ w.length ≤ 200 := by
  cases d with
  | tuple ds =>
    have h : (decide ((ds.length : Int) ≤ 200) && ds.all (wholeB ((k : Int) - 1))) = true := h
    rw [Bool.and_eq_true, decide_eq_true_eq] at h
    obtain ⟨w, rfl, hw⟩ := nats_of h.2
    rw [List.length_map] at h
    exact ⟨w, rfl, hw, by omega⟩
  | _ => cases h
theorem wordB_wd (hw : Wd k w) (hl : w.length ≤ 200) : wordB k (eWd w) = true := by
  show (decide (((w.map eI).length : Int) ≤ 200) && (w.map eI).all (wholeB ((k : Int) - 1))) = true
  rw [List.length_map, decide_eq_true (by omega), Bool.true_and, List.all_eq_true]
  intro d hd
  obtain ⟨l, hl, rfl⟩ := List.mem_map.mp hd
  have := hw l hl
  show (decide (0 ≤ ((l : Nat) : Int)) && decide (((l : Nat) : Int) ≤ (k : Int) - 1)) = true
  rw [decide_eq_true (by omega), decide_eq_true (by omega)]
  rfl
theorem e_fits_any {d : PyData} (hd : d.plain = true) : m_fits_letters (eM k n f) d = pure (.bool (wordB k d)) := by
  unfold m_fits_letters b_fits_letters
  rw [call3, e_is_tuple_of hd, mUnlen]
  cases d with
  | tuple ds =>
    have hp : ∀ d ∈ ds, d.plain = true := plainAll_mem (by simpa [PyData.plain] using hd)
    have e2 : mOp psub (pure (eI k)) (pure (.int 1)) = pure (.int ((k : Int) - 1)) := rfl
    have e3 : mUn pall (mLst (oLc (iAll (pure (.tuple ds))) (fun d => pure d) (fun t1 => pure true) (fun t1 => mCall (ap3 m_is_whole) [pure t1, pure (.int 0), pure (.int ((k : Int) - 1))]))) = pure (.bool (ds.all (wholeB ((k : Int) - 1)))) := by
      simp only [mUn, mLst, oLc, iAll, pure_bind, pitems_tuple]
      rw [lcM_all (fun d => .bool (wholeB ((k : Int) - 1) d)) _ fun d hd => by rw [call3, e_is_whole (hp d hd)]; rfl, pure_bind, pure_bind, all_map]
    rw [e2, e3]
    have e4 : tupB 0 200 (.tuple ds) = decide ((ds.length : Int) ≤ 200) := by
      show (decide ((0 : Int) ≤ ds.length) && decide ((ds.length : Int) ≤ 200)) = _
      rw [decide_eq_true (by omega), Bool.true_and]
    rw [e4, liftP_pure, andB]
    rfl
  | dict _ => simp [PyData.plain] at hd
  | _ => rfl
theorem e_law_is_word {d : PyData} (hd : d.plain = true) : m__law_is_word (eM k n f) d = pure (.bool (wordB k d)) := by
  unfold m__law_is_word b__law_is_word
  cases d with
  | tuple ds =>
    have hp : ∀ d ∈ ds, d.plain = true := plainAll_mem (by simpa [PyData.plain] using hd)
    have h1 : tNo (tVal (mUn (pisT "tuple") (pure (.tuple ds)))) = pure false := rfl
    have h2 : DL.tCmp pgt (mUn plen (pure (.tuple ds))) (pure (.int 200)) = pure (decide ((200 : Int) < ds.length)) := by
      have e : pgt (.int (ds.length : Nat)) (.int 200) = pure (.bool (decide ((200 : Int) < (ds.length : Nat)))) := rfl
      simp only [DL.tCmp, mUn, pure_bind, plen_tuple]
      rw [e, pure_bind, asB_bool]
    have h5 := filt_nil (ds := ds) (p := wholeB ((k : Int) - 1)) hp fun d hd' => sort_whole (hp d hd') (mUnlen k n f)
    rw [h1, or_f, h2, ifR_pure]
    by_cases h : (200 : Int) < ds.length
    · rw [if_pos (decide_eq_true h)]
      have : wordB k (.tuple ds) = false := by
        show (decide ((ds.length : Int) ≤ 200) && _) = false
        rw [decide_eq_false (by omega)]; rfl
      rw [this]
      rfl
    · rw [if_neg (by simpa using h), h5]
      have : wordB k (.tuple ds) = ds.all (wholeB ((k : Int) - 1)) := by
        show (decide ((ds.length : Int) ≤ 200) && _) = _
        rw [decide_eq_true (by omega), Bool.true_and]
      rw [this]
      rfl
  | dict _ => simp [PyData.plain] at hd
  | _ => rfl
/-- how many things a word leaves -/
def leftN (n : Nat) (f : Nat → Nat → Nat) (w : List Nat) : Nat := (nub (((List.range n).map fun s => led f s w).map natI)).length
theorem nub_one {α : Type} [DecidableEq α] {L : List α} (h : L ≠ []) : (nub L).length = 1 ↔ ∀ x ∈ L, ∀ y ∈ L, x = y := by
  constructor
  · intro h1 x hx y hy
    obtain ⟨a, ha⟩ := List.length_eq_one_iff.mp h1
    have e1 := mem_nub.mpr hx
    have e2 := mem_nub.mpr hy
    rw [ha, List.mem_singleton] at e1 e2
    rw [e1, e2]
  · intro h1
    obtain ⟨s, hs⟩ := List.exists_mem_of_ne_nil L h
    have := (nodup_nub L).length_le_of_subset (l₂ := [s]) fun t ht => by
      rw [List.mem_singleton]
      exact h1 t (mem_nub.mp ht) s hs
    have h2 : 0 < (nub L).length := List.length_pos_of_mem (mem_nub.mpr hs)
    have h3 : [s].length = 1 := rfl
    omega
theorem left_one (o : Mo k n f) (hw : Wd k w) : leftN n f w = 1 ↔ Rs k n f w := by
  unfold leftN Rs
  have hne : ((List.range n).map fun s => led f s w).map natI ≠ [] := fun e => range_ne o.n0 (List.map_eq_nil_iff.mp (List.map_eq_nil_iff.mp e))
  rw [nub_one hne, img_one o lot_range hw (range_ne o.n0)]
  constructor
  · intro h
    exact ⟨hw, fun x hx y hy => Int.ofNat.inj (h _ (List.mem_map_of_mem (List.mem_map_of_mem hx)) _ (List.mem_map_of_mem (List.mem_map_of_mem hy)))⟩
  · rintro ⟨_, h⟩ x1 hx1 y1 hy1
    obtain ⟨p, hp, rfl⟩ := List.mem_map.mp hx1
    obtain ⟨q, hq, rfl⟩ := List.mem_map.mp hy1
    obtain ⟨x2, hx2, rfl⟩ := List.mem_map.mp hp
    obtain ⟨y2, hy2, rfl⟩ := List.mem_map.mp hq
    rw [h x2 hx2 y2 hy2]
theorem len_set_row (n8 : n ≤ 8) (g : Nat → Nat) : mLenSet (pure (rowD n g)) = pure (eI (nub (((List.range n).map g).map natI)).length) := by
  have e : rowD n g = .tuple (((List.range n).map g).map eI) := by unfold rowD; rw [List.map_map]; rfl
  rw [e]
  simp only [mLenSet, pure_bind]
  rw [setD_natsT (by rw [List.length_map, List.length_range]; unfold scanBound; omega), pure_bind]
  rfl
theorem len_set_list (n8 : n ≤ 8) (g : Nat → Nat) : mLenSet (pure (.list ((List.range n).map fun s => eI (g s)))) = pure (eI (nub (((List.range n).map g).map natI)).length) := by
  have e : ((List.range n).map fun s => eI (g s)) = ((List.range n).map g).map eI := by rw [List.map_map]; rfl
  rw [e]
  simp only [mLenSet, pure_bind]
  rw [setD_nats (by rw [List.length_map, List.length_range]; unfold scanBound; omega), pure_bind]
  rfl
/-- whether a value is a word that leaves one spot -/
def oneB (k n : Nat) (f : Nat → Nat → Nat) (d : PyData) : Bool := match d with
  | .tuple ds => wordB k d && decide (leftN n f (ds.map fun e => match e with | .int i => i.toNat | _ => 0) = 1)
  | _ => false
theorem oneB_wd (hw : Wd k w) (hl : w.length ≤ 200) : oneB k n f (eWd w) = decide (leftN n f w = 1) := by
  have e : (w.map eI).map (fun e => match e with | .int i => i.toNat | _ => 0) = w := by
    rw [List.map_map]
    have : ((fun e => match e with | PyData.int i => i.toNat | _ => 0) ∘ eI) = id := by funext j; show (j : Int).toNat = j; omega
    rw [this, List.map_id]
  show (wordB k (eWd w) && decide (leftN n f ((w.map eI).map fun e => match e with | .int i => i.toNat | _ => 0) = 1)) = _
  rw [wordB_wd hw hl, e, Bool.true_and]
theorem oneB_no {d : PyData} (h : wordB k d = false) : oneB k n f d = false := by
  unfold oneB
  split
  · rw [h]; rfl
  · rfl
theorem e_led_to' (o : Mo k n f) (hs : s < n) (hw : Wd k w) : m__law_led_by (eM k n f) (eI s) (eWd w) = pure (eI (led f s w)) := by
  unfold m__law_led_by b__law_led_by
  have := run_led o hs hw
  simp only [sFor, iAll]
  unfold eWd
  rw [pure_bind, pitems_tuple, pure_bind, this, pure_bind, contL_inl]
  rfl
theorem e_is_word_to_one (o : Mo k n f) {d : PyData} (hd : d.plain = true) : m_is_word_to_one (eM k n f) d = pure (.bool (oneB k n f d)) := by
  unfold m_is_word_to_one b_is_word_to_one
  rw [call1, e_need_moving o, call2, e_fits_any hd]
  cases h : wordB k d with
  | false => rw [oneB_no h]; rfl
  | true =>
    obtain ⟨w, rfl, hw, hl⟩ := word_of h
    have e1 : mOp peq (mLenSet (mCall (ap2 m_row_by) [(pure (eM k n f)), (pure (eWd w))])) (pure (.int 1)) = pure (.bool (decide (leftN n f w = 1))) := by
      rw [call2, e_row_by o hw, liftP_pure, len_set_row o.n8]
      simp only [mOp, pure_bind]
      exact peq_len _ 1
    rw [e1, liftP_pure, liftP_pure, andB, oneB_wd hw hl, Bool.true_and]
    rfl
theorem e_law_is_to_one (o : Mo k n f) {d : PyData} (hd : d.plain = true) : m__law_is_to_one (eM k n f) d = pure (.bool (oneB k n f d)) := by
  unfold m__law_is_to_one b__law_is_to_one
  rw [call2, e_law_is_word hd]
  cases h : wordB k d with
  | false => rw [oneB_no h]; rfl
  | true =>
    obtain ⟨w, rfl, hw, hl⟩ := word_of h
    have n8 := o.n8
    have e0 : oLc (iRange1 (mUn plen (mOp pidx (pure (eM k n f)) (pure (.int 0))))) (fun d => pure d) (fun t1 => (pure true)) (fun t1 => (mCall (ap3 m__law_led_by) [(pure (eM k n f)), (pure t1), (pure (eWd w))])) = pure ((List.range n).map fun s => eI (led f s w)) := by
      have hr : iRange1 (pure (eI n)) = pure ((List.range n).map eI) := range1_nat (by omega)
      unfold oLc
      rw [lenrow_eM o.k0, hr, pure_bind, lcM_map eI (fun s => eI (led f s w)) _ fun s hs => by rw [call3, e_led_to' o (List.mem_range.mp hs) hw]; rfl]
    have e1 : mOp peq (mLenSet (mLst (oLc (iRange1 (mUn plen (mOp pidx (pure (eM k n f)) (pure (.int 0))))) (fun d => pure d) (fun t1 => (pure true)) (fun t1 => (mCall (ap3 m__law_led_by) [(pure (eM k n f)), (pure t1), (pure (eWd w))]))))) (pure (.int 1)) = pure (.bool (decide (leftN n f w = 1))) := by
      rw [e0]
      have := len_set_list n8 fun s => led f s w
      have e2 : mLst (pure ((List.range n).map fun s => eI (led f s w))) = pure (.list ((List.range n).map fun s => eI (led f s w))) := rfl
      rw [e2, this]
      simp only [mOp, pure_bind]
      exact peq_len _ 1
    rw [e1, liftP_pure, andB, oneB_wd hw hl, Bool.true_and]
    rfl
/-! ### pairs -/
open Classical in
noncomputable def aptB (k n : Nat) (f : Nat → Nat → Nat) (d : PyData) : Bool := match d with
  | .tuple [.int x, .int y] => thingsB n 2 2 d && (decide (x < y) && decide (Apart k f x.toNat y.toNat))
  | _ => false
theorem things_two {d : PyData} (h : thingsB n 2 2 d = true) : ∃ a b : Nat, d = .tuple [eI a, eI b] ∧ a < n ∧ b < n := by
  cases d with
  | tuple ds =>
    have h : (decide ((2 : Int) ≤ ds.length) && decide ((ds.length : Int) ≤ 2) && ds.all (wholeB (n - 1))) = true := h
    rw [Bool.and_eq_true, Bool.and_eq_true, decide_eq_true_eq, decide_eq_true_eq] at h
    obtain ⟨⟨h1, h2⟩, h3⟩ := h
    match ds, h1, h2, h3 with
    | [], h1, _, _ => simp at h1
    | [_], h1, _, _ => simp at h1
    | [d, e], _, _, h3 =>
      rw [List.all_cons, List.all_cons, Bool.and_eq_true, Bool.and_eq_true] at h3
      obtain ⟨x, rfl, hx⟩ := whole_nat h3.1
      obtain ⟨y, rfl, hy⟩ := whole_nat h3.2.1
      exact ⟨x, y, rfl, by omega, by omega⟩
    | _ :: _ :: _ :: _, _, h2, _ => simp at h2; omega
  | _ => cases h
theorem things_pair (ha : a < n) (hb : b < n) : thingsB n 2 2 (.tuple [eI a, eI b]) = true := by
  show (decide ((2 : Int) ≤ 2) && decide ((2 : Int) ≤ 2) && ((decide (0 ≤ (a : Int)) && decide ((a : Int) ≤ n - 1)) && ((decide (0 ≤ (b : Int)) && decide ((b : Int) ≤ n - 1)) && true))) = true
  rw [decide_eq_true (show (0 : Int) ≤ (a : Int) by omega), decide_eq_true (show (a : Int) ≤ n - 1 by omega), decide_eq_true (show (0 : Int) ≤ (b : Int) by omega), decide_eq_true (show (b : Int) ≤ n - 1 by omega)]
  rfl
open Classical in
theorem aptB_pair (ha : a < n) (hb : b < n) : aptB k n f (.tuple [eI a, eI b]) = (decide (a < b) && decide (Apart k f a b)) := by
  show (thingsB n 2 2 (.tuple [eI a, eI b]) && (decide ((a : Int) < b) && decide (Apart k f (a : Int).toNat (b : Int).toNat))) = _
  rw [things_pair ha hb, Bool.true_and, Int.toNat_natCast, Int.toNat_natCast]
  congr 1
  rw [decide_eq_decide]
  omega
theorem aptB_no {d : PyData} (h : thingsB n 2 2 d = false) : aptB k n f d = false := by
  unfold aptB
  split
  · rw [h]; rfl
  · rfl
open Classical in
theorem e_are_apart_spots (o : Mo k n f) {d : PyData} (hd : d.plain = true) : m_are_apart_spots (eM k n f) d = pure (.bool (aptB k n f d)) := by
  unfold m_are_apart_spots b_are_apart_spots
  rw [call1, e_need_moving o, lenrow_eM o.k0, call4]
  have e1 : m_are_things (eI n) d (.int 2) (.int 2) = pure (.bool (thingsB n 2 2 d)) := e_are_things hd n 2 2
  rw [e1, liftP_pure, liftP_pure, pure_bind, no_val]
  cases h : thingsB n 2 2 d with
  | false => rw [aptB_no h]; rfl
  | true =>
    obtain ⟨a, b, rfl, ha, hb⟩ := things_two h
    have i0 : mOp pidx (pure (.tuple [eI a, eI b])) (pure (.int 0)) = pure (eI a) := rfl
    have i1 : mOp pidx (pure (.tuple [eI a, eI b])) (pure (.int 1)) = pure (eI b) := rfl
    have hge : DL.tCmp pge (pure (eI a)) (pure (eI b)) = pure (decide (b ≤ a)) := by
      have e : pge (eI a) (eI b) = pure (.bool (decide ((b : Int) ≤ a))) := rfl
      simp only [DL.tCmp, pure_bind]
      rw [e, pure_bind, asB_bool]
      exact congrArg pure (decide_eq_decide.mpr (by omega))
    rw [i0, i1, hge, aptB_pair ha hb]
    show DL.finish (sIfR (DL.tOr (pure false) (pure (decide (b ≤ a)))) _ _) = _
    rw [or_f, ifR_pure]
    by_cases hab : a < b
    · rw [if_neg (by simp; omega), call3, e_are_apart o hab hb, decide_eq_true hab, Bool.true_and]
      rfl
    · rw [if_pos (by simp; omega), decide_eq_false hab]
      rfl
open Classical in
theorem e_law_are_apart (o : Mo k n f) {d : PyData} (hd : d.plain = true) : m__law_are_apart (eM k n f) d = pure (.bool (aptB k n f d)) := by
  unfold m__law_are_apart b__law_are_apart
  cases d with
  | tuple ds =>
    have hp : ∀ d ∈ ds, d.plain = true := plainAll_mem (by simpa [PyData.plain] using hd)
    have h1 : tNo (tVal (mUn (pisT "tuple") (pure (.tuple ds)))) = pure false := rfl
    have h2 : DL.tCmp pne (mUn plen (pure (.tuple ds))) (pure (.int 2)) = pure (!decide ((ds.length : Int) = 2)) := by
      simp only [DL.tCmp, mUn, pure_bind, plen_tuple, pne_int, asB_bool]
    have h3 := filt_ne (ds := ds) (p := wholeB ((n : Int) - 1)) hp fun d hd' => sort_whole (hp d hd') (lenrow_eM (n := n) (f := f) o.k0)
    rw [h1, or_f, h2, h3, or_b, ifR_pure]
    have ht : thingsB n 2 2 (.tuple ds) = (decide ((ds.length : Int) = 2) && ds.all (wholeB ((n : Int) - 1))) := by
      show (decide ((2 : Int) ≤ ds.length) && decide ((ds.length : Int) ≤ 2) && ds.all _) = _
      congr 1
      by_cases h : (ds.length : Int) = 2
      · rw [h]; rfl
      · rw [decide_eq_false h]
        by_cases h4 : (2 : Int) ≤ ds.length
        · rw [decide_eq_true h4, decide_eq_false (by omega)]; rfl
        · rw [decide_eq_false h4]; rfl
    have hn : (!decide ((ds.length : Int) = 2) || !ds.all (wholeB ((n : Int) - 1))) = !thingsB n 2 2 (.tuple ds) := by
      rw [ht]
      cases decide ((ds.length : Int) = 2) <;> cases ds.all (wholeB ((n : Int) - 1)) <;> rfl
    rw [hn]
    cases h : thingsB n 2 2 (.tuple ds) with
    | false => rw [aptB_no h]; rfl
    | true =>
      obtain ⟨a, b, e, ha, hb⟩ := things_two h
      rw [e, if_neg (by simp)]
      have i0 : mOp pidx (pure (.tuple [eI a, eI b])) (pure (.int 0)) = pure (eI a) := rfl
      have i1 : mOp pidx (pure (.tuple [eI a, eI b])) (pure (.int 1)) = pure (eI b) := rfl
      have hlt : mOp plt (pure (eI a)) (pure (eI b)) = pure (.bool (decide (a < b))) := by
        have e : plt (eI a) (eI b) = pure (.bool (decide ((a : Int) < b))) := rfl
        simp only [mOp, pure_bind]
        rw [e]
        exact congrArg (fun z => pure (PyData.bool z)) (decide_eq_decide.mpr (by omega))
      rw [i0, i1, hlt, aptB_pair ha hb]
      have hand : mAnd (pure (.bool (decide (a < b)))) (mOp peq (mLst (oLc (iAll (mCall (ap2 m__law_lengths_of) [(pure (eM k n f)), (pure (.tuple [eI a, eI b]))])) (fun d => pure d) (fun t2 => (DL.tCmp peq (mUn plen (pure t2)) (pure (.int 1)))) (fun t2 => (pure t2)))) (mLst (runs []))) = pure (.bool (decide (a < b) && decide (Apart k f a b))) := and_ft fun h => by
        have hab := of_decide_eq_true h
        obtain ⟨fs, he, W⟩ := e_law_lengths_of o (lot_two hab hb)
        have e1 : mCall (ap2 m__law_lengths_of) [(pure (eM k n f)), (pure (.tuple [eI a, eI b]))] = pure (.dict (dD eI fs)) := by
          rw [call2]
          exact congrArg liftP he
        rw [e1]
        have e2 : iAll (pure (.dict (dD eI fs))) = pure (fs.map fun e => eWd e.1) := by
          show (pure ((dD eI fs).map (·.1)) : M (List PyData)) = _
          rw [dD_keys, List.map_map]
          rfl
        have e3 := lcM_filter (t := fun t2 => (DL.tCmp peq (mUn plen (pure t2)) (pure (.int 1)))) (fun e : List Nat × Nat => eWd e.1) (fun e => decide (e.1.length = 1)) fs fun e _ => by
          simp only [DL.tCmp, mUn, pure_bind, len_wd]
          rw [show peq (eI e.1.length) (.int 1) = pure (.bool (decide (e.1.length = 1))) from peq_len _ 1, pure_bind, asB_bool]
        unfold oLc
        rw [e2, pure_bind, e3]
        simp only [mOp, mLst, runs_nil, pure_bind]
        rw [peq_nil (plainAll_of fun d hd => by
          obtain ⟨e, _, rfl⟩ := List.mem_map.mp hd
          exact eI_plain _)]
        congr 2
        rw [Bool.eq_iff_iff, List.isEmpty_iff, List.map_eq_nil_iff, List.filter_eq_nil_iff, decide_eq_true_eq]
        constructor
        · intro h w hw e
          obtain ⟨x, q1, q2, _⟩ := W.all w hw
          exact h x q1 (by rw [decide_eq_true_eq, q2]; exact (two_len o hab hb hw).mpr e)
        · intro h x hx hx1
          obtain ⟨w, q1, _, q3⟩ := (W.gd x hx).2
          rw [decide_eq_true_eq, ← q3] at hx1
          exact h w q1 ((two_len o hab hb q1).mp hx1)
      rw [hand]
      rfl
  | dict _ => simp [PyData.plain] at hd
  | _ => rfl
open Classical in
theorem e_apart_spots (o : Mo k n f) : (m_apart_spots (eM k n f) = pure .none ∧ ∀ a b, a < b → b < n → ¬ Apart k f a b) ∨ ∃ a b, m_apart_spots (eM k n f) = pure (.tuple [eI a, eI b]) ∧ a < b ∧ b < n ∧ Apart k f a b := by
  unfold m_apart_spots b_apart_spots
  have n8 := o.n8
  have hr : ∀ m : Nat, m ≤ 8 → iRange1 (pure (eI m)) = pure ((List.range m).map eI) := fun m hm => range1_nat (by omega)
  rw [call1, e_need_moving o, liftP_pure, pure_bind, call1]
  unfold m_apart_in b_apart_in
  rw [lenrow_eM o.k0]
  simp only [sFor]
  rw [hr n n8, pure_bind]
  have outer := pFor_find (τ := Unit) (u := fun d => pure d) (b := fun x2 t1 => (iRange1 (pure x2) >>= fun ds => pFor (fun d => pure d) (fun x4 t3 => (sIfR (tVal (mCall (ap3 m_are_apart) [(pure (eM k n f)), (pure x4), (pure x2)])) (sRet (mTup [(pure x4), (pure x2)])) (pure (.nx ())))) ds () >>= fun r => contL r fun t3 => (pure (.nx ()) : M (Fl Unit Unit))))
    eI (fun b => ((List.range b).find? fun a => decide (Apart k f a b)).isSome) (fun b => .tuple [eI (((List.range b).find? fun a => decide (Apart k f a b)).getD 0), eI b]) () (List.range n) (fun _ _ => rfl) fun b hb => by
      have hbn := List.mem_range.mp hb
      rw [hr b (by omega), pure_bind]
      rw [pFor_find (τ := Unit) eI (fun a => decide (Apart k f a b)) (fun a => .tuple [eI a, eI b]) () (List.range b) (fun _ _ => rfl) fun a ha => by
        have hab := List.mem_range.mp ha
        rw [call3, e_are_apart o hab hbn]
        have : ∀ z : Bool, sIfR (τ := Unit) (β := Unit) (tVal (liftP (pure (.bool z)))) (sRet (mTup [pure (eI a), pure (eI b)])) (pure (.nx ())) = pure (if z then .rt (.tuple [eI a, eI b]) else .nx ()) := fun z => by cases z <;> rfl
        exact this _]
      cases (List.range b).find? fun a => decide (Apart k f a b) with
      | some a => rfl
      | none => rfl
  rw [outer]
  cases hf : (List.range n).find? fun b => ((List.range b).find? fun a => decide (Apart k f a b)).isSome with
  | none =>
    refine .inl ⟨rfl, fun a b hab hb hap => ?_⟩
    have := List.find?_eq_none.mp hf b (List.mem_range.mpr hb)
    refine this ?_
    rw [List.find?_isSome]
    exact ⟨a, List.mem_range.mpr hab, decide_eq_true hap⟩
  | some b =>
    have h1 := List.find?_some hf
    have hb := List.mem_range.mp (List.mem_of_find?_eq_some hf)
    obtain ⟨a, ha⟩ := Option.isSome_iff_exists.mp h1
    have h2 := List.find?_some ha
    have hab := List.mem_range.mp (List.mem_of_find?_eq_some ha)
    refine .inr ⟨a, b, ?_, hab, hb, of_decide_eq_true h2⟩
    dsimp only
    rw [ha]
    rfl
end
end L82
end
section
set_option Elab.async false
set_option linter.all false
set_option maxRecDepth 100000
set_option maxHeartbeats 4000000
set_option autoImplicit false
namespace L82
open PySem PySem.Spec PyProof.Rows L2 RZ DL
/-! ### draws -/
theorem Tri.while {τ : Type} {I : List PyData → Prop} {c : τ → M Bool} {b : τ → M (Fl τ τ)} (Inv : Nat → τ → Prop) (h0 : ∀ t, Inv 0 t → c t = pure false) (h1 : ∀ m t, Inv (m + 1) t → c t = pure true ∧ Tri I (b t) fun fl => ∃ t', fl = .nx t' ∧ Inv m t') :
    ∀ (m : Nat) (t : τ), Inv m t → Tri I (pWhile c b t) fun r => ∃ t', r = .inl t' ∧ Inv 0 t'
  | 0, t, h => Tri.of (while_end (h0 t h)) ⟨t, rfl, h⟩
  | m + 1, t, h => by
    obtain ⟨hc, hb⟩ := h1 m t h
    rw [pWhile_eq, hc, pure_bind, if_pos rfl]
    refine hb.bind fun fl ⟨t', e, hi⟩ => ?_
    subst e
    exact Tri.while Inv h0 h1 m t' hi
theorem mem_nat {n : Nat} {d : PyData} : d ∈ (List.range n).map eI → ∃ v, v < n ∧ d = eI v := fun h => by
  obtain ⟨v, hv, rfl⟩ := List.mem_map.mp h
  exact ⟨v, List.mem_range.mp hv, rfl⟩
theorem nats_plain {n : Nat} {ds : List PyData} (h : ∀ d ∈ ds, ∃ v, v < n ∧ d = eI v) : PyData.plainAll ds = true := plainAll_of fun d hd => by
  obtain ⟨v, _, rfl⟩ := h d hd
  rfl
/-- a row of n things below n -/
def RowD (n : Nat) (d : PyData) : Prop := ∃ g : Nat → Nat, (∀ j, j < n → g j < n) ∧ d = rowD n g
theorem row_of {n : Nat} {ds : List PyData} (hl : ds.length = n) (h : ∀ d ∈ ds, ∃ v, v < n ∧ d = eI v) : RowD n (.tuple ds) := by
  obtain ⟨g, hg, e⟩ := list_choose 0 (fun v => v < n) eI ds h
  rw [hl] at hg e
  exact ⟨g, hg, congrArg PyData.tuple e⟩
theorem t_order {n : Nat} (h0 : 0 < n) (h8 : n ≤ 8) : Tri IC (m__law_order (eI n)) (RowD n) := by
  unfold m__law_order
  refine Tri.finish ?_
  unfold b__law_order
  have e1 : oListRg (pure (eI n)) = pure ((List.range n).map eI) := by
    simp only [oListRg, pure_bind]
    show (do chk ((0 : Int) ≤ (n : Int) ∧ (n : Int) ≤ 16777216); pure (rangeD 0 (n : Int)) : M (List PyData)) = _
    rw [chk_true ⟨by omega, by omega⟩, pure_bind, rangeD_nat]
  simp only [sPar]
  rw [e1, pure_bind]
  refine Tri.then (x := ([] : List PyData)) rfl ?_
  simp only [sWhile]
  refine (Tri.while (I := IC) (τ := List PyData × List PyData) (fun m t => t.1.length = m ∧ m + t.2.length = n ∧ (∀ d ∈ t.1, ∃ v, v < n ∧ d = eI v) ∧ ∀ d ∈ t.2, ∃ v, v < n ∧ d = eI v) (fun t ht => ?_) (fun m t ht => ?_) n ((List.range n).map eI, []) ⟨by simp, by simp, fun d hd => mem_nat hd, fun d hd => by cases hd⟩).bind fun r ⟨t, hr, h1, h2, h3, h4⟩ => ?_
  · rw [todo_t (nats_plain ht.2.2.1), List.length_eq_zero_iff.mp ht.1]
    rfl
  · obtain ⟨h1, h2, h3, h4⟩ := ht
    have hne : t.1.isEmpty = false := by
      cases e : t.1 with
      | nil => rw [e] at h1; simp at h1
      | cons a r => rfl
    refine ⟨by rw [todo_t (nats_plain h3), hne]; rfl, ?_⟩
    have e2 : mCallC (ap1 m__law_roll) [peekM (mUn plen (pure (.list t.1)))] = m__law_roll (eI (m + 1)) := by
      have : peekM (mUn plen (pure (.list t.1))) = pure (eI (m + 1)) := by
        simp only [mUn, pure_bind, plen_list, h1]
        rfl
      rw [this, callC1]
    simp only [sAppPop]
    rw [e2]
    refine (t_rollN (n := m + 1) (by omega) (by omega)).bind fun x ⟨r, hx, hr⟩ => ?_
    subst hx
    have e3 : asI (eI r) = pure (r : Int) := rfl
    have hat : t.1[r]? = some (t.1[r]'(by omega)) := List.getElem?_eq_getElem _
    rw [e3, pure_bind, chk_true ⟨by omega, by omega, by rw [sizeLine_eq]; omega⟩, pure_bind, Int.toNat_natCast, hat, optM_some, pure_bind]
    refine Tri.pure ⟨_, rfl, ?_, ?_, fun d hd => ?_, fun d hd => ?_⟩
    · show (t.1.eraseIdx r).length = m
      rw [List.length_eraseIdx, if_pos (by omega)]
      omega
    · rw [List.length_append]
      show m + (t.2.length + 1) = n
      omega
    · exact h3 d (List.mem_of_mem_eraseIdx hd)
    · rcases List.mem_append.mp hd with hd | hd
      · exact h4 d hd
      · have : d = t.1[r]'(by omega) := by simpa using hd
        subst this
        exact h3 _ (List.getElem_mem _)
  · subst hr
    rw [contL_inl]
    simp only [sRet, mUn, pure_bind, ptuple_list]
    exact Tri.pure (row_of (by omega) h4)
theorem t_row {n m : Nat} (h0 : 0 < m) (h2 : m ≤ 1000000) (h : n ≤ 4096) : Tri IC (mUn ptuple (mLst (oLc (iRange1 (pure (eI n))) (fun d => pure d) (fun t9 => (pure true)) (fun t9 => (mCallC (ap1 m__law_roll) [(pure (eI m))]))))) fun d => ∃ w : List Nat, w.length = n ∧ (∀ l ∈ w, l < m) ∧ d = eWd w := by
  have hr : iRange1 (pure (eI n)) = pure ((List.range n).map eI) := range1_nat (by omega)
  unfold oLc
  rw [hr, pure_bind]
  simp only [mUn, mLst]
  refine Tri.bind (p := fun d => ∃ ds, d = .list ds ∧ ds.length = n ∧ ∀ d ∈ ds, ∃ v, v < m ∧ d = eI v) ?_ ?_
  · refine (Tri.lc (py := fun d => ∃ v, v < m ∧ d = eI v) fun d _ => ?_).bind fun ys ⟨hl, hy⟩ => Tri.pure ⟨ys, rfl, ?_, hy⟩
    · rw [callC1]
      exact (t_rollN h0 h2).mono fun d ⟨r, e, hr⟩ => ⟨r, hr, e⟩
    · rw [hl, List.length_map, List.length_range]
  · rintro d ⟨ds, rfl, hl, hd⟩
    obtain ⟨g, hg, e⟩ := list_choose 0 (fun v => v < m) eI ds hd
    rw [hl] at hg e
    refine Tri.pure (x := PyData.tuple ds) ⟨(List.range n).map g, by simp, fun l hl => ?_, ?_⟩
    · obtain ⟨j, hj, rfl⟩ := List.mem_map.mp hl
      exact hg j (List.mem_range.mp hj)
    · unfold eWd
      rw [List.map_map]
      exact congrArg PyData.tuple e
theorem t_word {k n m : Nat} {f : Nat → Nat → Nat} (o : Mo k n f) (h : m ≤ 1000) : Tri IC (m__law_word (eM k n f) (.int (m : Nat))) fun d => ∃ w : List Nat, d = eWd w ∧ Wd k w ∧ w.length ≤ m := by
  unfold m__law_word
  refine Tri.finish ?_
  unfold b__law_word
  have e1 : mOp padd (pure (.int (m : Nat))) (pure (.int 1)) = pure (eI (m + 1)) := by simp only [mOp, pure_bind, padd_int]; unfold eI; congr 2
  have e2 : mUn plen (pure (eM k n f)) = pure (eI k) := by simp only [mUn, pure_bind, len_eM]
  rw [e1, callC1, e2]
  have e3 : (sRet (mUn ptuple (mLst (oLc (iRange1 (m__law_roll (eI (m + 1)))) (fun d => pure d) (fun t1 => pure true) (fun t1 => mCallC (ap1 m__law_roll) [pure (eI k)])))) : M (Fl Unit Empty)) = (m__law_roll (eI (m + 1)) >>= fun r => sRet (mUn ptuple (mLst (oLc (iRange1 (pure r)) (fun d => pure d) (fun t1 => pure true) (fun t1 => mCallC (ap1 m__law_roll) [pure (eI k)]))))) := by
    simp only [sRet, mUn, mLst, oLc, iRange1, bind_assoc, pure_bind]
  rw [e3]
  refine (t_rollN (n := m + 1) (by omega) (by omega)).bind fun x ⟨r, hx, hr⟩ => ?_
  subst hx
  refine (t_row (n := r) (m := k) o.k0 (by have := o.k8; omega) (by omega)).bind fun d ⟨w, h1, h2, h3⟩ => Tri.pure ⟨w, h3, h2, by omega⟩
theorem t_one {X : M PyData} {a : Nat} (h : Tri IC X fun d => ∃ r : Nat, d = eI r ∧ r < a) : Tri IC (mOp padd (pure (.int 1)) X) fun d => ∃ n : Nat, d = eI n ∧ 0 < n ∧ n ≤ a := by
  simp only [mOp, pure_bind]
  refine h.bind fun x ⟨r, hx, hr⟩ => ?_
  subst hx
  refine Tri.of (x := eI (1 + r)) ?_ ⟨1 + r, rfl, by omega, by omega⟩
  unfold eI
  rw [padd_int]
  congr 2
theorem t_moving {m : Nat} (h1 : 1 ≤ m) (h2 : m ≤ 8) : Tri IC (m__law_moving (.int (m : Nat))) fun d => ∃ k n f, Mo k n f ∧ d = eM k n f := by
  unfold m__law_moving
  refine Tri.finish ?_
  unfold b__law_moving
  simp only [sPar]
  rw [callC1]
  refine (t_one (t_rollN (n := m) h1 (by omega))).bind fun x ⟨n, hx, hn0, hn⟩ => ?_
  subst hx
  have hq : Tri IC (mCallC (ap1 m__law_roll) [(mIf (DL.tCmp peq (mCallC (ap1 m__law_roll) [(pure (.int 2))]) (pure (.int 0))) (pure (.int 3)) (pure (.int 8)))]) fun d => ∃ r : Nat, d = eI r ∧ r < 8 := by
    have e : mCallC (ap1 m__law_roll) [(mIf (DL.tCmp peq (mCallC (ap1 m__law_roll) [(pure (.int 2))]) (pure (.int 0))) (pure (.int 3)) (pure (.int 8)))] = (m__law_roll (.int 2) >>= fun r => (mIf (DL.tCmp peq (pure r) (pure (.int 0))) (pure (.int 3)) (pure (.int 8))) >>= fun z => m__law_roll z) := by
      simp only [mCallC, mIf, DL.tCmp, runs_cons, runs_nil, pure_bind, bind_assoc]
    rw [e]
    refine (t_rollN (n := 2) (by decide) (by decide)).bind fun x ⟨r, hx, hr⟩ => ?_
    subst hx
    have : ∃ q : Nat, 1 ≤ q ∧ q ≤ 8 ∧ mIf (DL.tCmp peq (pure (eI r)) (pure (.int 0))) (pure (.int 3)) (pure (.int 8)) = pure (eI q) := by
      have hr' : r = 0 ∨ r = 1 := by omega
      rcases hr' with rfl | rfl
      · exact ⟨3, by decide, by decide, rfl⟩
      · exact ⟨8, by decide, by decide, rfl⟩
    obtain ⟨q, q1, q2, eq⟩ := this
    rw [eq, pure_bind]
    exact (t_rollN (n := q) q1 (by omega)).mono fun d ⟨r, e, hr⟩ => ⟨r, e, by omega⟩
  refine (t_one hq).bind fun x ⟨k, hx, hk0, hk⟩ => ?_
  subst hx
  rw [callC1]
  refine (t_rollN (n := 4) (by decide) (by decide)).bind fun x3 ⟨way, hx, hway⟩ => ?_
  subst hx
  rw [runs_nil, pure_bind]
  have hr : iRange1 (pure (eI k)) = pure ((List.range k).map eI) := range1_nat (by omega)
  have hrn : iRange1 (pure (eI n)) = pure ((List.range n).map eI) := range1_nat (by omega)
  simp only [sFor]
  rw [hr, pure_bind]
  refine (Tri.for (fun j (t : List PyData) => t.length = j ∧ ∀ x ∈ t, RowD n x) 0 ⟨rfl, fun x hx => by cases hx⟩ fun i d t hd hI => ?_).bind fun r ⟨t, hr', hl, ht'⟩ => ?_
  · obtain ⟨hi, rfl⟩ : i < k ∧ d = eI i := by
      rw [List.getElem?_map, Option.map_eq_some_iff] at hd
      obtain ⟨j, hj, rfl⟩ := hd
      have hi := (List.getElem?_eq_some_iff.mp hj).1
      rw [List.length_range] at hi
      rw [List.getElem?_range hi] at hj
      cases hj
      exact ⟨hi, rfl⟩
    rw [pure_bind, callC1]
    refine (t_order hn0 (by omega)).bind fun x7 hx7 => ?_
    have cEq : ∀ a b : Nat, DL.tCmp peq (pure (eI a)) (pure (.int (b : Nat))) = pure (decide (a = b)) := fun a b => by
      simp only [DL.tCmp, pure_bind]
      unfold eI
      rw [peq_int, pure_bind, asB_bool]
      exact congrArg _ (decide_eq_decide.mpr ⟨fun h => by omega, fun h => by omega⟩)
    have cGt : DL.tCmp pgt (pure (eI i)) (pure (.int 0)) = pure (decide (0 < i)) := by
      have : pgt (eI i) (.int 0) = pure (.bool (decide ((0 : Int) < i))) := rfl
      simp only [DL.tCmp, pure_bind]
      rw [this, pure_bind, asB_bool]
      exact congrArg _ (decide_eq_decide.mpr ⟨fun h => by omega, fun h => by omega⟩)
    have andB2 : ∀ a b : Bool, DL.tAnd (pure a) (pure b) = pure (a && b) := fun a b => by cases a <;> rfl
    have c1 : DL.tOr (DL.tCmp peq (pure (eI way)) (pure (.int 0))) (DL.tAnd (DL.tCmp peq (pure (eI way)) (pure (.int 1))) (DL.tCmp pgt (pure (eI i)) (pure (.int 0)))) = pure (decide (way = 0) || (decide (way = 1) && decide (0 < i))) := by
      rw [cGt, show DL.tCmp peq (pure (eI way)) (pure (.int 0)) = pure (decide (way = 0)) from cEq way 0, show DL.tCmp peq (pure (eI way)) (pure (.int 1)) = pure (decide (way = 1)) from cEq way 1, andB2, or_b]
    have c2 : DL.tAnd (DL.tCmp peq (pure (eI way)) (pure (.int 3))) (DL.tCmp pgt (pure (eI i)) (pure (.int 0))) = pure (decide (way = 3) && decide (0 < i)) := by
      rw [cGt, show DL.tCmp peq (pure (eI way)) (pure (.int 3)) = pure (decide (way = 3)) from cEq way 3, andB2]
    simp only [sIf]
    rw [c1, pure_bind]
    have fin : ∀ x : PyData, RowD n x → Tri IC (thenF (do
        let b ← DL.tAnd (DL.tCmp peq (pure (eI way)) (pure (.int 3))) (DL.tCmp pgt (pure (eI i)) (pure (.int 0)))
        (if b = true then ((mUn ptuple (mLst (oLc (iRange1 (pure (eI n))) (fun d => pure d) (fun t12 => (pure true)) (fun t12 => (mIf (DL.tCmp peq (pure t12) (mOp psub (pure (eI n)) (pure (.int 1)))) (pure (.int 0)) (pure t12)))))) >>= fun x13 => (pure (.nx x13) : M (Fl PyData (List PyData)))) else (pure (.nx x)))) fun t11 => (sApp (pure t11) t fun x14 => (pure (.nx (t ++ [x14])) : M (Fl (List PyData) (List PyData))))) fun fl => ∃ t', (fl = .nx t' ∨ fl = .ct t') ∧ t'.length = 0 + i + 1 ∧ ∀ x ∈ t', RowD n x := by
      intro x hx
      have app : ∀ x : PyData, RowD n x → Tri IC (sApp (pure x) t fun x14 => (pure (.nx (t ++ [x14])) : M (Fl (List PyData) (List PyData)))) fun fl => ∃ t', (fl = .nx t' ∨ fl = .ct t') ∧ t'.length = 0 + i + 1 ∧ ∀ x ∈ t', RowD n x := fun x hx => by
        simp only [sApp, pure_bind]
        rw [chk_true (by rw [sizeLine_eq, hI.1]; omega), pure_bind]
        refine Tri.pure ⟨_, .inl rfl, by rw [List.length_append, hI.1]; rfl, fun y hy => ?_⟩
        rcases List.mem_append.mp hy with hy | hy
        · exact hI.2 y hy
        · have : y = x := by simpa using hy
          subst this
          exact hx
      rw [c2, pure_bind]
      cases (decide (way = 3) && decide (0 < i)) with
      | false =>
        rw [if_neg (by simp), thenF_nx]
        exact app x hx
      | true =>
        rw [if_pos rfl]
        have e12 := tab_row (n := n) (g := fun t12 => (mIf (DL.tCmp peq (pure t12) (mOp psub (pure (eI n)) (pure (.int 1)))) (pure (.int 0)) (pure t12))) (y := fun j => eI (if j = n - 1 then 0 else j)) (by omega) fun j hj => by
          have hs : mOp psub (pure (eI n)) (pure (.int 1)) = pure (.int ((n - 1 : Nat) : Int)) := by
            simp only [mOp, pure_bind]
            unfold eI
            rw [psub_int]
            congr 2
            omega
          simp only [mIf]
          rw [hs, cEq, pure_bind]
          by_cases h : j = n - 1
          · rw [if_pos (decide_eq_true h), if_pos h]; rfl
          · rw [if_neg (by simp [h]), if_neg h]
        rw [e12, pure_bind, thenF_nx]
        refine app _ ⟨fun j => if j = n - 1 then 0 else j, fun j hj => ?_, rfl⟩
        show (if j = n - 1 then 0 else j) < n
        split <;> omega
    cases (decide (way = 0) || (decide (way = 1) && decide (0 < i))) with
    | false =>
      rw [if_neg (by simp), thenF_nx]
      exact fin x7 hx7
    | true =>
      rw [if_pos rfl]
      refine Tri.thenF ?_
      refine (t_row (n := n) (m := n) hn0 (by omega) (by omega)).bind fun d ⟨w, w1, w2, w3⟩ => ?_
      subst w3
      have hw : RowD n (eWd w) := row_of (ds := w.map eI) (by rw [List.length_map]; exact w1) fun d hd => by
        obtain ⟨v, hv, rfl⟩ := List.mem_map.mp hd
        exact ⟨v, w2 v hv, rfl⟩
      exact Tri.pure (fin _ hw)
  · subst hr'
    rw [List.length_map, List.length_range, Nat.zero_add] at hl
    rw [contL_inl]
    simp only [sRet, mUn, pure_bind, ptuple_list]
    obtain ⟨f, hf, ef⟩ := list_choose (fun _ => 0) (fun g : Nat → Nat => ∀ j, j < n → g j < n) (fun g => rowD n g) t ht'
    rw [hl] at hf ef
    exact Tri.pure ⟨k, n, f, ⟨hk0, hk, hn0, by omega, fun l s hl hs => hf l hl s hs⟩, congrArg PyData.tuple ef⟩
end L82
end
section
set_option Elab.async false
set_option linter.all false
set_option maxRecDepth 100000
set_option maxHeartbeats 4000000
set_option autoImplicit false
namespace L82
open PySem PySem.Spec PyProof.Rows L2 RZ PySem.W DL
/-- a plain tuple of at most N things -/
def PT (N : Nat) (m : M PyData) : Prop := ∃ ds, m = pure (.tuple ds) ∧ PyData.plainAll ds = true ∧ ds.length ≤ N
def PP (m : M PyData) : Prop := ∃ d, m = pure d ∧ d.plain = true
theorem PT.pp {N : Nat} {m : M PyData} (h : PT N m) : PP m := by obtain ⟨ds, e, p, _⟩ := h; exact ⟨_, e, p⟩
theorem PT.cutTo {N : Nat} {m : M PyData} (h : PT N m) (a : Nat) : PT N (mSl m (pure none) (pSome (pure (eI a)))) := by
  obtain ⟨ds, rfl, p, l⟩ := h
  exact ⟨cutP ds none (some (a : Int)), rfl, cut_plain p _ _, Nat.le_trans (cut_len _ _ _) l⟩
theorem PT.cutFrom {N : Nat} {m : M PyData} (h : PT N m) (a : Nat) : PT N (mSl m (pSome (mOp padd (pure (eI a)) (pure (.int 1)))) (pure none)) := by
  obtain ⟨ds, rfl, p, l⟩ := h
  exact ⟨cutP ds (some ((a : Int) + 1)) none, rfl, cut_plain p _ _, Nat.le_trans (cut_len _ _ _) l⟩
theorem PT.cutAt {N : Nat} {m : M PyData} (h : PT N m) (a : Nat) : PT N (mSl m (pSome (pure (eI a))) (pure none)) := by
  obtain ⟨ds, rfl, p, l⟩ := h
  exact ⟨cutP ds (some (a : Int)) none, rfl, cut_plain p _ _, Nat.le_trans (cut_len _ _ _) l⟩
theorem PT.rev {N : Nat} {m : M PyData} (h : PT N m) : PT N (mUn prev m) := by
  obtain ⟨ds, rfl, p, l⟩ := h
  exact ⟨ds.reverse, rfl, plainAll_of fun d hd => plainAll_mem p d (List.mem_reverse.mp hd), by rw [List.length_reverse]; exact l⟩
theorem PT.cat {N N' : Nat} {m m' : M PyData} (h : PT N m) (h' : PT N' m') (hN : N + N' ≤ 4096) : PT (N + N') (mOp padd m m') := by
  obtain ⟨ds, rfl, p, l⟩ := h
  obtain ⟨es, rfl, q, k⟩ := h'
  refine ⟨ds ++ es, ?_, plainAll_app p q, by rw [List.length_append]; omega⟩
  simp only [mOp, pure_bind, padd_tuple]
  rw [chk_true (by rw [sizeLine_eq]; omega), pure_bind]
theorem PT.one {m : M PyData} (h : PP m) : PT 1 (mTup [m]) := by
  obtain ⟨d, rfl, p⟩ := h
  exact ⟨[d], rfl, by rw [PyData.plainAll, p]; rfl, Nat.le_refl _⟩
theorem PT.rep {N : Nat} {m : M PyData} (h : PT N m) (a : Nat) (h2 : a ≤ 9) (hN : N ≤ 1000) : PT (9 * N) (mOp pmulT m (pure (eI a))) := by
  obtain ⟨ds, rfl, p, l⟩ := h
  by_cases h0 : ds = [] ∨ (a : Int) ≤ 0
  · refine ⟨[], ?_, rfl, Nat.zero_le _⟩
    simp only [mOp, pure_bind]
    show (if ds = [] ∨ (a : Int) ≤ 0 then do chk (-1000 ≤ (a : Int) ∧ (a : Int) ≤ 1000); pure (.tuple []) else pmul (.tuple ds) (.int a) : M PyData) = _
    rw [if_pos h0, chk_true ⟨by omega, by omega⟩, pure_bind]
  · have hne : ds ≠ [] := fun e => h0 (.inl e)
    have hpos : ¬ (a : Int) ≤ 0 := fun e => h0 (.inr e)
    have e0 : mOp pmulT (pure (.tuple ds)) (pure (eI a)) = (if (a : Int) = 1 then pure (.tuple ds) else do chk (ds ≠ [] ∧ 2 ≤ (a : Int) ∧ (a : Int) ≤ 1000 ∧ ds.length ≤ 1000); pure (.tuple (List.replicate (a : Int).toNat ds).flatten) : M PyData) := by
      simp only [mOp, pure_bind]
      show (if ds = [] ∨ (a : Int) ≤ 0 then do chk (-1000 ≤ (a : Int) ∧ (a : Int) ≤ 1000); pure (.tuple []) else pmul (.tuple ds) (.int a) : M PyData) = _
      rw [if_neg h0]
      rfl
    by_cases h1 : (a : Int) = 1
    · refine ⟨ds, ?_, p, by omega⟩
      rw [e0, if_pos h1]
    · refine ⟨(List.replicate a ds).flatten, ?_, plainAll_of fun d hd => ?_, ?_⟩
      · rw [e0, if_neg h1, chk_true ⟨hne, by omega, by omega, by omega⟩, pure_bind, Int.toNat_natCast]
      · obtain ⟨es, he, hd⟩ := List.mem_flatten.mp hd
        rw [(List.mem_replicate.mp he).2] at hd
        exact plainAll_mem p d hd
      · rw [List.length_flatten, List.map_replicate, List.sum_replicate_nat]
        exact Nat.mul_le_mul h2 l
section
variable {k n : Nat} {f : Nat → Nat → Nat} {s t l a b : Nat} {w v u X : List Nat}
theorem pt_wd {w : List Nat} {N : Nat} (h : w.length ≤ N) : PT N (pure (eWd w)) := ⟨w.map eI, rfl, eI_plain w, by rw [List.length_map]; exact h⟩
theorem three (x y z : PyData) : mLst (runs [pure x, pure y, pure z]) = pure (.list [x, y, z]) := rfl
/-- words that leave one spot, told by both -/
theorem all_one (o : Mo k n f) {ds : List PyData} (h : ∀ d ∈ ds, d.plain = true) : DL.tCmp pne (mLst (oLc (iAll (pure (.list ds))) (fun d => pure d) (fun t15 => (tNo (tVal (mCall (ap2 (m__law_like 12)) [(mCall (ap2 m_is_word_to_one) [(pure (eM k n f)), (pure t15)]), (mCall (ap2 m__law_is_to_one) [(pure (eM k n f)), (pure t15)])])))) (fun t15 => (pure t15)))) (mLst (runs [])) = pure false := by
  have hl := lcM_filter (t := fun t15 => (tNo (tVal (mCall (ap2 (m__law_like 12)) [(mCall (ap2 m_is_word_to_one) [(pure (eM k n f)), (pure t15)]), (mCall (ap2 m__law_is_to_one) [(pure (eM k n f)), (pure t15)])])))) (fun d : PyData => d) (fun _ => false) ds fun d hd => like_no (d := .bool (oneB k n f d)) (by rw [call2, e_is_word_to_one o (h d hd)]; rfl) (by rw [call2, e_law_is_to_one o (h d hd)]; rfl) (sm_bool 0 _)
  have e : iAll (pure (.list ds)) = pure ds := rfl
  simp only [List.map_id'] at hl
  unfold oLc
  rw [e, pure_bind, hl, List.filter_eq_nil_iff.mpr (by simp)]
  rfl
theorem all_apart (o : Mo k n f) {ds : List PyData} (h : ∀ d ∈ ds, d.plain = true) : mOp peq (mLst (oLc (iAll (pure (.list ds))) (fun d => pure d) (fun t20 => (tNo (tVal (mCall (ap2 (m__law_like 12)) [(mCall (ap2 m_are_apart_spots) [(pure (eM k n f)), (pure t20)]), (mCall (ap2 m__law_are_apart) [(pure (eM k n f)), (pure t20)])])))) (fun t20 => (pure t20)))) (mLst (runs [])) = pure (.bool true) := by
  have hl := lcM_filter (t := fun t20 => (tNo (tVal (mCall (ap2 (m__law_like 12)) [(mCall (ap2 m_are_apart_spots) [(pure (eM k n f)), (pure t20)]), (mCall (ap2 m__law_are_apart) [(pure (eM k n f)), (pure t20)])])))) (fun d : PyData => d) (fun _ => false) ds fun d hd => like_no (d := .bool (aptB k n f d)) (by rw [call2, e_are_apart_spots o (h d hd)]; rfl) (by rw [call2, e_law_are_apart o (h d hd)]; rfl) (sm_bool 0 _)
  have e : iAll (pure (.list ds)) = pure ds := rfl
  simp only [List.map_id'] at hl
  unfold oLc
  rw [e, pure_bind, hl, List.filter_eq_nil_iff.mpr (by simp)]
  rfl
/-- the second half: values near words and pairs -/
theorem t_values (o : Mo k n f) {pd : PyData} (hpd : pd.plain = true) {u v : List Nat} (hu : u.length ≤ 200) (hv : v.length ≤ 20) {p : Fl Unit Empty → Prop} (hp : p (.rt (.bool true))) :
    Tri IC ((mCallC (ap1 m__law_roll) [(mOp padd (mUn plen (pure (eWd u))) (pure (.int 1)))]) >>= fun x10 => ((runs [(pure (eWd u)), (mUn prev (pure (eWd u))), (mLst (oList (pure (eWd u)))), (mSl (pure (eWd u)) (pSome (pure (.int 1))) (pure none)), (mOp padd (mSl (pure (eWd u)) (pure none) (pSome (pure x10))) (mSl (pure (eWd u)) (pSome (mOp padd (pure x10) (pure (.int 1)))) (pure none))), (mOp padd (pure (eWd u)) (pure (eWd v))), (mOp padd (pure (eWd v)) (pure (eWd u))), (pure (eWd v)), (pure .none), (mTup []), (pure (.int 5))]) >>= fun xs11 => ((oAdd (pure (.list xs11)) (mLst (oLc (iAll (mTup [(pure .none), (pure (.bool true)), (mUn plen (pure (eM k n f))), (mUn pneg (pure (.int 1))), (pure (.str "0")), (pure (.int 0))])) (fun d => pure d) (fun t12 => (pure true)) (fun t12 => (mOp padd (mOp padd (mSl (pure (eWd u)) (pure none) (pSome (pure x10))) (mTup [(pure t12)])) (mSl (pure (eWd u)) (pSome (pure x10)) (pure none))))))) >>= fun xs13 => (sApp (mIf (DL.tCmp plt (mUn plen (mOp padd (pure (eWd u)) (pure (eWd v)))) (pure (.int 29))) (mOp pmulT (mOp padd (pure (eWd u)) (pure (eWd v))) (pure (.int 7))) (pure (eWd v))) xs13 fun x14 => (sIfR (DL.tCmp pne (mLst (oLc (iAll (pure (.list (xs13 ++ [x14])))) (fun d => pure d) (fun t15 => (tNo (tVal (mCall (ap2 (m__law_like 12)) [(mCall (ap2 m_is_word_to_one) [(pure (eM k n f)), (pure t15)]), (mCall (ap2 m__law_is_to_one) [(pure (eM k n f)), (pure t15)])])))) (fun t15 => (pure t15)))) (mLst (runs []))) (sRet (pure (.bool false))) ((runs [(pure pd), (pure .none), (mTup []), (pure (.int 5)), (mTup [(pure (.int 0))]), (mTup [(pure (.int 0)), (pure (.int 0))]), (mTup [(pure (.int 0)), (pure (eI n))]), (mTup [(pure (.bool true)), (pure (.int 0))]), (mTup [(pure (.int 0)), (pure (.bool true))]), (mLst (runs [(pure (.int 0)), (pure (.int 1))])), (mTup [(pure (.int 0)), (pure (.int 1)), (pure (.int 2))]), (mTup [(mUn pneg (pure (.int 1))), (pure (.int 0))])]) >>= fun xs16 => (sFor (τ' := List PyData) (iRange1 (pure (.int 5))) (fun d => pure d) (fun x18 t17 => (sApp (mTup [(mCallC (ap1 m__law_roll) [(pure (eI n))]), (mCallC (ap1 m__law_roll) [(pure (eI n))])]) t17 fun x19 => (pure (.nx (t17 ++ [x19]))))) xs16 fun t17 => (sRet (mOp peq (mLst (oLc (iAll (pure (.list t17))) (fun d => pure d) (fun t20 => (tNo (tVal (mCall (ap2 (m__law_like 12)) [(mCall (ap2 m_are_apart_spots) [(pure (eM k n f)), (pure t20)]), (mCall (ap2 m__law_are_apart) [(pure (eM k n f)), (pure t20)])])))) (fun t20 => (pure t20)))) (mLst (runs [])))))))))) : M (Fl Unit Empty)) p := by
  have n0 := o.n0
  have n8 := o.n8
  have hlen : mOp padd (mUn plen (pure (eWd u))) (pure (.int 1)) = pure (eI (u.length + 1)) := by
    simp only [mOp, mUn, pure_bind, len_wd]
    rfl
  rw [hlen, callC1]
  refine (t_rollN (n := u.length + 1) (by omega) (by omega)).bind fun x ⟨at', hx, hat⟩ => ?_
  subst hx
  have pu : PT 200 (pure (eWd u)) := pt_wd hu
  have pv : PT 20 (pure (eWd v)) := pt_wd hv
  obtain ⟨d2, e2, q2⟩ := pu.rev.pp
  have e3 : mLst (oList (pure (eWd u))) = pure (.list (u.map eI)) := rfl
  have q3 : (PyData.list (u.map eI)).plain = true := eI_plain u
  have e4 : ∃ d4, mSl (pure (eWd u)) (pSome (pure (.int 1))) (pure none) = pure d4 ∧ d4.plain = true := ⟨.tuple (cutP (u.map eI) (some 1) none), rfl, cut_plain (eI_plain u) _ _⟩
  obtain ⟨d4, e4, q4⟩ := e4
  obtain ⟨d5, e5, q5⟩ := ((pu.cutTo at').cat (pu.cutFrom at') (by decide)).pp
  obtain ⟨d6, e6, q6⟩ := (pu.cat pv (by decide)).pp
  obtain ⟨d7, e7, q7⟩ := (pv.cat pu (by decide)).pp
  have e11 : runs [(pure (eWd u)), (mUn prev (pure (eWd u))), (mLst (oList (pure (eWd u)))), (mSl (pure (eWd u)) (pSome (pure (.int 1))) (pure none)), (mOp padd (mSl (pure (eWd u)) (pure none) (pSome (pure (eI at')))) (mSl (pure (eWd u)) (pSome (mOp padd (pure (eI at')) (pure (.int 1)))) (pure none))), (mOp padd (pure (eWd u)) (pure (eWd v))), (mOp padd (pure (eWd v)) (pure (eWd u))), (pure (eWd v)), (pure .none), (mTup []), (pure (.int 5))] = pure [eWd u, d2, .list (u.map eI), d4, d5, d6, d7, eWd v, .none, .tuple [], .int 5] := by
    rw [e2, e3, e4, e5, e6, e7]
    rfl
  rw [e11, pure_bind]
  have q11 : ∀ d ∈ [eWd u, d2, .list (u.map eI), d4, d5, d6, d7, eWd v, .none, .tuple [], .int 5], d.plain = true := fun d hd => by
    simp only [List.mem_cons, List.not_mem_nil, or_false] at hd
    rcases hd with rfl | rfl | rfl | rfl | rfl | rfl | rfl | rfl | rfl | rfl | rfl
    · exact eI_plain u
    · exact q2
    · exact q3
    · exact q4
    · exact q5
    · exact q6
    · exact q7
    · exact eI_plain v
    · rfl
    · rfl
    · rfl
  -- odd letters put in
  have hodd : ∃ ds, oLc (iAll (mTup [(pure .none), (pure (.bool true)), (mUn plen (pure (eM k n f))), (mUn pneg (pure (.int 1))), (pure (.str "0")), (pure (.int 0))])) (fun d => pure d) (fun t12 => (pure true)) (fun t12 => (mOp padd (mOp padd (mSl (pure (eWd u)) (pure none) (pSome (pure (eI at')))) (mTup [(pure t12)])) (mSl (pure (eWd u)) (pSome (pure (eI at'))) (pure none)))) = pure ds ∧ ds.length = 6 ∧ ∀ d ∈ ds, d.plain = true := by
    have eit : iAll (mTup [(pure .none), (pure (.bool true)), (mUn plen (pure (eM k n f))), (mUn pneg (pure (.int 1))), (pure (.str "0")), (pure (.int 0))]) = pure [.none, .bool true, eI k, .int (-1), .str "0", .int 0] := by
      rw [mUnlen]
      rfl
    unfold oLc
    rw [eit, pure_bind]
    have hstep : ∀ d ∈ [PyData.none, .bool true, eI k, .int (-1), .str "0", .int 0], PP (mOp padd (mOp padd (mSl (pure (eWd u)) (pure none) (pSome (pure (eI at')))) (mTup [(pure d)])) (mSl (pure (eWd u)) (pSome (pure (eI at'))) (pure none))) := fun d hd => by
      have hdp : d.plain = true := by
        simp only [List.mem_cons, List.not_mem_nil, or_false] at hd
        rcases hd with rfl | rfl | rfl | rfl | rfl | rfl <;> rfl
      exact (((pu.cutTo at').cat (PT.one ⟨d, rfl, hdp⟩) (by decide)).cat (pu.cutAt at') (by decide)).pp
    have run : ∀ L : List PyData, (∀ d ∈ L, PP (mOp padd (mOp padd (mSl (pure (eWd u)) (pure none) (pSome (pure (eI at')))) (mTup [(pure d)])) (mSl (pure (eWd u)) (pSome (pure (eI at'))) (pure none)))) → ∃ ds, lcM (fun d => pure d) (fun t12 => pure true) (fun t12 => (mOp padd (mOp padd (mSl (pure (eWd u)) (pure none) (pSome (pure (eI at')))) (mTup [(pure t12)])) (mSl (pure (eWd u)) (pSome (pure (eI at'))) (pure none)))) L = pure ds ∧ ds.length = L.length ∧ ∀ d ∈ ds, d.plain = true := by
      intro L
      induction L with
      | nil => intro _; exact ⟨[], rfl, rfl, fun d hd => by cases hd⟩
      | cons a L ih =>
        intro h
        obtain ⟨d, ed, qd⟩ := h a (by simp)
        obtain ⟨ds, es, hl, hq⟩ := ih fun d hd => h d (by simp [hd])
        refine ⟨d :: ds, ?_, by rw [List.length_cons, hl, List.length_cons], fun x hx => by
          rcases List.mem_cons.mp hx with rfl | hx
          · exact qd
          · exact hq x hx⟩
        unfold lcM
        rw [noexc_pure, pure_bind, noexc_pure, pure_bind, if_pos rfl, ed, noexc_pure, pure_bind, es, pure_bind]
    exact run _ hstep
  obtain ⟨ods, eo, lo, qo⟩ := hodd
  rw [eo]
  have e13 : oAdd (pure (.list [eWd u, d2, .list (u.map eI), d4, d5, d6, d7, eWd v, .none, .tuple [], .int 5])) (mLst (pure ods)) = pure ([eWd u, d2, .list (u.map eI), d4, d5, d6, d7, eWd v, .none, .tuple [], .int 5] ++ ods) := by
    have := addL [eWd u, d2, .list (u.map eI), d4, d5, d6, d7, eWd v, .none, .tuple [], .int 5] ods (by rw [lo]; show 11 + 6 ≤ 4096; decide)
    have e3 : mLst (pure ods) = pure (.list ods) := rfl
    simp only [mOp, pure_bind] at this
    rw [e3]
    simp only [oAdd, pure_bind]
    rw [this]
    rfl
  rw [e13, pure_bind]
  have h14 : PP (mIf (DL.tCmp plt (mUn plen (mOp padd (pure (eWd u)) (pure (eWd v)))) (pure (.int 29))) (mOp pmulT (mOp padd (pure (eWd u)) (pure (eWd v))) (pure (.int 7))) (pure (eWd v))) := by
    obtain ⟨es, ee, qe, le⟩ := pu.cat pv (by decide)
    rw [ee]
    have hc : ∃ z, DL.tCmp plt (mUn plen (pure (.tuple es))) (pure (.int 29)) = pure z := ⟨_, by
      simp only [DL.tCmp, mUn, pure_bind, plen_tuple]
      rfl⟩
    obtain ⟨z, hz⟩ := hc
    simp only [mIf]
    rw [hz, pure_bind]
    cases z with
    | true =>
      rw [if_pos rfl]
      exact (PT.rep (a := 7) ⟨es, rfl, qe, le⟩ (by decide) (by decide)).pp
    | false =>
      rw [if_neg (by simp)]
      exact pv.pp
  obtain ⟨d14, e14, q14⟩ := h14
  simp only [sApp]
  rw [e14, pure_bind, chk_true (by rw [List.length_append, lo, sizeLine_eq]; show 11 + 6 < 16777216; decide), pure_bind]
  rw [all_one o fun d hd => by
    rcases List.mem_append.mp hd with hd | hd
    · rcases List.mem_append.mp hd with hd | hd
      · exact q11 d hd
      · exact qo d hd
    · have : d = d14 := by simpa using hd
      subst this
      exact q14]
  rw [ifR_no rfl]
  have e16 : runs [(pure pd), (pure .none), (mTup []), (pure (.int 5)), (mTup [(pure (.int 0))]), (mTup [(pure (.int 0)), (pure (.int 0))]), (mTup [(pure (.int 0)), (pure (eI n))]), (mTup [(pure (.bool true)), (pure (.int 0))]), (mTup [(pure (.int 0)), (pure (.bool true))]), (mLst (runs [(pure (.int 0)), (pure (.int 1))])), (mTup [(pure (.int 0)), (pure (.int 1)), (pure (.int 2))]), (mTup [(mUn pneg (pure (.int 1))), (pure (.int 0))])] = pure [pd, .none, .tuple [], .int 5, .tuple [.int 0], .tuple [.int 0, .int 0], .tuple [.int 0, eI n], .tuple [.bool true, .int 0], .tuple [.int 0, .bool true], .list [.int 0, .int 1], .tuple [.int 0, .int 1, .int 2], .tuple [.int (-1), .int 0]] := rfl
  rw [e16, pure_bind]
  have q16 : ∀ d ∈ [pd, .none, .tuple [], .int 5, .tuple [.int 0], .tuple [.int 0, .int 0], .tuple [.int 0, eI n], .tuple [.bool true, .int 0], .tuple [.int 0, .bool true], .list [.int 0, .int 1], .tuple [.int 0, .int 1, .int 2], .tuple [.int (-1), .int 0]], d.plain = true := fun d hd => by
    simp only [List.mem_cons, List.not_mem_nil, or_false] at hd
    rcases hd with rfl | rfl | rfl | rfl | rfl | rfl | rfl | rfl | rfl | rfl | rfl | rfl
    · exact hpd
    all_goals rfl
  have hr : iRange1 (pure (.int 5)) = pure ((List.range 5).map eI) := range1_nat (n := 5) (by decide)
  simp only [sFor]
  rw [hr, pure_bind]
  refine (Tri.for (fun j (t : List PyData) => t.length = 12 + j ∧ ∀ d ∈ t, d.plain = true) 0 ⟨rfl, q16⟩ fun i d t hd hI => ?_).bind fun r' ⟨t, hr', hl, ht'⟩ => ?_
  · have hi : i < 5 := (List.getElem?_eq_some_iff.mp hd).1
    rw [pure_bind, callC1]
    have e19 : mTup [m__law_roll (eI n), m__law_roll (eI n)] = (do let x ← m__law_roll (eI n); let y ← m__law_roll (eI n); pure (.tuple [x, y])) := by
      simp only [mTup, runs_cons, runs_nil, pure_bind, bind_assoc]
    rw [e19]
    simp only [bind_assoc]
    refine (t_rollN (n := n) n0 (by omega)).bind fun x ⟨r1, hx, _⟩ => ?_
    subst hx
    refine (t_rollN (n := n) n0 (by omega)).bind fun y ⟨r2, hy, _⟩ => ?_
    subst hy
    rw [pure_bind, chk_true (by rw [sizeLine_eq, hI.1]; omega), pure_bind]
    refine Tri.pure ⟨_, .inl rfl, by rw [List.length_append, hI.1]; show 12 + (0 + i) + 1 = _; omega, fun y hy => ?_⟩
    rcases List.mem_append.mp hy with hy | hy
    · exact hI.2 y hy
    · have : y = .tuple [eI r1, eI r2] := by simpa using hy
      subst this
      rfl
  · subst hr'
    rw [contL_inl]
    simp only [sRet]
    rw [all_apart o ht', pure_bind]
    exact Tri.pure hp
end
end L82
end
section
set_option Elab.async false
set_option linter.all false
set_option maxRecDepth 100000
set_option maxHeartbeats 4000000
set_option autoImplicit false
namespace L82
open PySem PySem.Spec PyProof.Rows L2 RZ PySem.W DL
section
variable {k n : Nat} {f : Nat → Nat → Nat} {s t l a b : Nat} {w v u X : List Nat}
/-- a number or None -/
def dueD : Option Nat → PyData
  | some m => eI m
  | none => .none
theorem e_ones (o : Mo k n f) {fs : List (List Nat × Nat)} (W : LensOf k n f (List.range n) fs) :
    (oLc (iAll (pure (.dict (dD eI fs)))) (fun d => pure d) (fun t3 => (DL.tCmp peq (mUn plen (pure t3)) (pure (.int 1)))) (fun t3 => (mOp pidx (pure (.dict (dD eI fs))) (pure t3)))) = pure (((fs.filter fun e => decide (e.1.length = 1)).map (·.2)).map eI) := by
  have e2 : iAll (pure (.dict (dD eI fs))) = pure (fs.map fun e => eWd e.1) := by
    show (pure ((dD eI fs).map (·.1)) : M (List PyData)) = _
    rw [dD_keys, List.map_map]
    rfl
  unfold oLc
  rw [e2, pure_bind, lcM_pure (fun e : List Nat × Nat => eWd e.1) (fun e => eI e.2) (fun e => decide (e.1.length = 1)) fs (fun _ _ => rfl) (fun e _ => ?_) fun e he _ => ?_, List.map_map]
  · rfl
  · simp only [DL.tCmp, mUn, pure_bind, len_wd]
    rw [show peq (eI e.1.length) (.int 1) = pure (.bool (decide (e.1.length = 1))) from peq_len _ 1, pure_bind, asB_bool]
  · simp only [mOp, pure_bind]
    show (do chk (keyFits (dD eI fs) (eWd e.1) = true); match dGet (dD eI fs) (eWd e.1) with | some d => pure d | none => stuck : M PyData) = _
    have hk : keyFits (dD eI fs) (eWd e.1) = true := by
      unfold keyFits
      have h1 : keyOk (eWd e.1) = true := okT_wd e.1
      have h2 : (dD eI fs).all (fun p => isTupD p.1 == isTupD (eWd e.1)) = true := by
        rw [List.all_eq_true]
        intro p hp
        obtain ⟨x, _, rfl⟩ := List.mem_map.mp hp
        rfl
      have h3 : (dD eI fs).isEmpty = false := by
        cases fs with
        | nil => cases he
        | cons a fs => rfl
      rw [h1, h2, h3]
      rfl
    rw [chk_true hk, pure_bind, dGet_at eI W.nd he]
/-- the least length, told by the law -/
theorem e_due (o : Mo k n f) {fs : List (List Nat × Nat)} (W : LensOf k n f (List.range n) fs) :
    (mIf (DL.tCmp pne (pure (.list (((fs.filter fun e => decide (e.1.length = 1)).map (·.2)).map eI))) (mLst (runs []))) (mUn pmin1 (pure (.list (((fs.filter fun e => decide (e.1.length = 1)).map (·.2)).map eI)))) (pure .none) = pure .none ∧ ¬ ∃ w, Rs k n f w) ∨
    ∃ m, mIf (DL.tCmp pne (pure (.list (((fs.filter fun e => decide (e.1.length = 1)).map (·.2)).map eI))) (mLst (runs []))) (mUn pmin1 (pure (.list (((fs.filter fun e => decide (e.1.length = 1)).map (·.2)).map eI)))) (pure .none) = pure (eI m) ∧ (∃ w, Rs k n f w ∧ w.length = m) ∧ ∀ w, Rs k n f w → m ≤ w.length := by
  generalize hws : ((fs.filter fun e => decide (e.1.length = 1)).map (·.2)) = ws
  have mem : ∀ d, d ∈ ws ↔ ∃ e ∈ fs, e.1.length = 1 ∧ e.2 = d := fun d => by
    rw [← hws, List.mem_map]
    constructor
    · rintro ⟨e, h, rfl⟩
      obtain ⟨h1, h2⟩ := List.mem_filter.mp h
      exact ⟨e, h1, of_decide_eq_true h2, rfl⟩
    · rintro ⟨e, h1, h2, rfl⟩
      exact ⟨e, List.mem_filter.mpr ⟨h1, decide_eq_true h2⟩, rfl⟩
  have hne : DL.tCmp pne (pure (.list (ws.map eI))) (mLst (runs [])) = pure (!(ws.map eI).isEmpty) := by
    simp only [DL.tCmp, mLst, runs_nil, pure_bind]
    rw [ne_nil (eI_plain ws), pure_bind, asB_bool]
  simp only [mIf]
  rw [hne, pure_bind]
  cases ws with
  | nil =>
    refine .inl ⟨rfl, ?_⟩
    rintro ⟨w, hw, h1⟩
    obtain ⟨e, q1, q2, _⟩ := W.all w hw
    have := (mem e.2).mpr ⟨e, q1, by rw [q2]; exact h1, rfl⟩
    cases this
  | cons d ds =>
    obtain ⟨m, h1, h2, h3⟩ := minD_eI ds d
    obtain ⟨e, q1, q2, q3⟩ := (mem m).mp h1
    obtain ⟨w, r1, r2, r3⟩ := (W.gd e q1).2
    refine .inr ⟨m, ?_, ⟨w, ⟨r1, by rw [r3]; exact q2⟩, by rw [r2, q3]⟩, fun w hw => ?_⟩
    · have := minOk_eI (d :: ds)
      rw [List.map_cons] at this
      simp only [mUn, pure_bind]
      show (do chk (minOk (eI d :: ds.map eI) = true); pure (minD (eI d) (ds.map eI)) : M PyData) = _
      rw [chk_true this, pure_bind, h2]
    · obtain ⟨e', s1, s2, s3⟩ := W.all w hw.1
      have := h3 e'.2 ((mem e'.2).mpr ⟨e', s1, by rw [s2]; exact hw.2, rfl⟩)
      omega
theorem mulN (i j : Nat) (h : i ≤ 1000) : mOp pmulT (pure (eI i)) (pure (eI j)) = pure (eI (i * j)) := by
  simp only [mOp, pure_bind]
  unfold eI
  rw [pmul_ok' (small_mul (i := i) (n := 1001) (by omega) (by decide)), Int.natCast_mul]
theorem t_right (o : Mo k n f) : Tri IC (m__law_right (eM k n f)) fun d => d = .bool true := by
  have n0 := o.n0
  have n8 := o.n8
  have k8 := o.k8
  unfold m__law_right
  refine Tri.finish ?_
  unfold b__law_right
  rw [lenrow_eM o.k0, pure_bind]
  obtain ⟨fs, he, W⟩ := e_law_lengths_of o (lot_range (n := n))
  have e2 : mCall (ap2 m__law_lengths_of) [(pure (eM k n f)), (mTupRg (pure (eI n)))] = pure (.dict (dD eI fs)) := by
    have : mTupRg (pure (eI n)) = pure (eWd (List.range n)) := by
      simp only [mTupRg, pure_bind]
      show (do chk ((0 : Int) ≤ (n : Int) ∧ (n : Int) ≤ 16777216); pure (.tuple (rangeD 0 (n : Int))) : M PyData) = _
      rw [chk_true ⟨by omega, by omega⟩, pure_bind, rangeD_nat]
      rfl
    rw [this, call2, he]
    rfl
  rw [e2, pure_bind, e_ones o W, pure_bind]
  have cw : ∀ m : Nat, mCallC (ap2 m__law_word) [pure (eM k n f), pure (.int (m : Nat))] = m__law_word (eM k n f) (.int (m : Nat)) := fun m => by simp only [mCallC, runs_cons, runs_nil, pure_bind]
  simp only [sPar]
  rcases e_word_to_size o with ⟨hs, hno⟩ | ⟨w, hs, hw, hmin⟩
  · -- no word leaves one spot
    have x5 : mCall (ap1 m_word_to_one) [(pure (eM k n f))] = pure .none := by rw [call1, e_word_to_one o hs]; rfl
    have fe : mCall (ap1 m_fewest_to_one) [(pure (eM k n f))] = pure .none := by rw [call1, e_fewest_none o hs]; rfl
    have x7 : mIf (DL.tCmp pne (pure (.list (((fs.filter fun e => decide (e.1.length = 1)).map (·.2)).map eI))) (mLst (runs []))) (mUn pmin1 (pure (.list (((fs.filter fun e => decide (e.1.length = 1)).map (·.2)).map eI)))) (pure .none) = pure .none := by
      rcases e_due o W with h | ⟨m, _, ⟨w, hw, _⟩, _⟩
      · exact h.1
      · exact absurd ⟨w, hw⟩ hno
    rcases e_apart_spots o with ⟨_, h⟩ | ⟨a, b, h, hab, hb, hap⟩
    · exact absurd ((reset_iff o).mpr h) hno
    have x6 : mCall (ap1 m_apart_spots) [(pure (eM k n f))] = pure (.tuple [eI a, eI b]) := by rw [call1, h]; rfl
    have la : mCall (ap2 m__law_are_apart) [(pure (eM k n f)), (pure (.tuple [eI a, eI b]))] = pure (.bool true) := by
      rw [call2, e_law_are_apart o rfl, aptB_pair (by omega) hb]
      have : (decide (a < b) && @decide (Apart k f a b) (Classical.propDecidable _)) = true := by simp [hab, hap]
      rw [this]
      rfl
    rw [x5, pure_bind, x6, pure_bind, x7, pure_bind, fe]
    have i1 : mOp pisN (pure .none) (pure .none) = pure (.bool true) := rfl
    have i2 : mOp pisN (pure (.tuple [eI a, eI b])) (pure .none) = pure (.bool false) := rfl
    have i3 : mOp pnotN (pure .none) (pure .none) = pure (.bool false) := rfl
    have i4 : DL.tCmp pnotN (pure .none) (pure .none) = pure false := rfl
    have i5 : DL.tCmp pnotN (pure (.tuple [eI a, eI b])) (pure .none) = pure true := rfl
    rw [i1, i2, i3, three, ifR_no (like_no rfl rfl (sm_list (j := 0) (by show 3 ≤ 4096; decide) fun d hd => by
      simp only [List.mem_cons, List.not_mem_nil, or_false] at hd
      rcases hd with rfl | rfl | rfl <;> rfl))]
    rw [i4, i5, la]
    have c1 : ∀ m : M Bool, DL.tAnd (pure false) m = pure false := fun _ => rfl
    have c2 : DL.tAnd (pure true) (tNo (tVal (pure (.bool true)))) = pure false := rfl
    rw [c1, ifR_no rfl, c2, ifR_no rfl]
    have c3 : ∀ m : M PyData, mIf (pure false) (pure .none) m = m := fun _ => rfl
    rw [c3, show mCallC (ap2 m__law_word) [pure (eM k n f), pure (.int 6)] = m__law_word (eM k n f) (.int 6) from cw 6, show mCallC (ap2 m__law_word) [pure (eM k n f), pure (.int 20)] = m__law_word (eM k n f) (.int 20) from cw 20]
    refine (t_word (m := 6) o (by decide)).bind fun x ⟨u, hx, hu, hul⟩ => ?_
    subst hx
    refine (t_word (m := 20) o (by decide)).bind fun x ⟨v, hx, hv, hvl⟩ => ?_
    subst hx
    exact t_values o rfl (by omega) hvl rfl
  · have x5 : mCall (ap1 m_word_to_one) [(pure (eM k n f))] = pure (eWd w) := by rw [call1, e_word_to_one o hs]; rfl
    have fe : mCall (ap1 m_fewest_to_one) [(pure (eM k n f))] = pure (eI w.length) := by rw [call1, e_fewest_some o hs]; rfl
    have x7 : mIf (DL.tCmp pne (pure (.list (((fs.filter fun e => decide (e.1.length = 1)).map (·.2)).map eI))) (mLst (runs []))) (mUn pmin1 (pure (.list (((fs.filter fun e => decide (e.1.length = 1)).map (·.2)).map eI)))) (pure .none) = pure (eI w.length) := by
      rcases e_due o W with h | ⟨m, h1, ⟨v, hv, hvl⟩, h2⟩
      · exact absurd ⟨w, hw⟩ h.2
      · have : m = w.length := by
          have := hmin v hv
          have := h2 w hw
          omega
        rw [h1, this]
    rcases e_apart_spots o with ⟨h, _⟩ | ⟨a, b, _, hab, hb, hap⟩
    rotate_left
    · exact absurd hap ((reset_iff o).mp ⟨w, hw⟩ a b hab hb)
    have x6 : mCall (ap1 m_apart_spots) [(pure (eM k n f))] = pure .none := by rw [call1, h]; rfl
    obtain ⟨v, hv, hvl⟩ := pin_frankl o ⟨w, hw⟩
    have hpf : 6 * w.length ≤ n * n * n - n := by
      have := hmin v hv
      omega
    have hwl : w.length ≤ 200 := by
      have : n * n * n ≤ 8 * 8 * 8 := Nat.mul_le_mul (Nat.mul_le_mul n8 n8) n8
      omega
    have lo : mCall (ap2 m__law_is_to_one) [(pure (eM k n f)), (pure (eWd w))] = pure (.bool true) := by
      rw [call2, e_law_is_to_one o (wd_plain (w := w)), oneB_wd hw.1 hwl, decide_eq_true ((left_one o hw.1).mpr hw)]
      rfl
    rw [x5, pure_bind, x6, pure_bind, x7, pure_bind, fe]
    have i1 : mOp pisN (pure (eWd w)) (pure .none) = pure (.bool false) := rfl
    have i2 : mOp pisN (pure .none) (pure .none) = pure (.bool true) := rfl
    have i3 : mOp pisN (pure (eI w.length)) (pure .none) = pure (.bool false) := rfl
    have i3' : mOp pnotN (pure (eI w.length)) (pure .none) = pure (.bool true) := rfl
    have i4 : DL.tCmp pnotN (pure (eWd w)) (pure .none) = pure true := rfl
    have i5 : DL.tCmp pnotN (pure .none) (pure .none) = pure false := rfl
    rw [i1, i2, i3, i3', three, ifR_no (like_no rfl rfl (sm_list (j := 0) (by show 3 ≤ 4096; decide) fun d hd => by
      simp only [List.mem_cons, List.not_mem_nil, or_false] at hd
      rcases hd with rfl | rfl | rfl <;> rfl))]
    have hne : DL.tCmp pne (mUn plen (pure (eWd w))) (pure (eI w.length)) = pure false := by
      simp only [DL.tCmp, mUn, pure_bind, len_wd]
      have : pne (eI w.length) (eI w.length) = pure (.bool false) := by
        unfold eI
        rw [pne_int]
        simp
      rw [this]
      rfl
    have hgt : DL.tCmp pgt (mOp pmulT (pure (.int 6)) (pure (eI w.length))) (mOp psub (mOp pmulT (mOp pmulT (pure (eI n)) (pure (eI n))) (pure (eI n))) (pure (eI n))) = pure false := by
      rw [show mOp pmulT (pure (.int 6)) (pure (eI w.length)) = pure (eI (6 * w.length)) from mulN 6 w.length (by decide), mulN n n (by omega), mulN (n * n) n (by have : n * n ≤ 8 * 8 := Nat.mul_le_mul n8 n8; omega)]
      have hsub : mOp psub (pure (eI (n * n * n))) (pure (eI n)) = pure (.int (((n * n * n : Nat) : Int) - (n : Int))) := rfl
      rw [hsub]
      have hle : n ≤ n * n * n := by
        have h1 : 1 * n ≤ n * n := Nat.mul_le_mul_right n n0
        have h2 : n * n * 1 ≤ n * n * n := Nat.mul_le_mul_left (n * n) n0
        omega
      have e : pgt (eI (6 * w.length)) (.int (((n * n * n : Nat) : Int) - (n : Int))) = pure (.bool (decide (((n * n * n : Nat) : Int) - (n : Int) < ((6 * w.length : Nat) : Int)))) := rfl
      simp only [DL.tCmp, pure_bind]
      rw [e, pure_bind, asB_bool, decide_eq_false (by omega)]
    rw [i4, i5, lo, hne, hgt]
    have c1 : DL.tAnd (pure true) (DL.tOr (tNo (tVal (pure (.bool true)))) (DL.tOr (pure false) (pure false))) = pure false := rfl
    have c2 : ∀ m : M Bool, DL.tAnd (pure false) m = pure false := fun _ => rfl
    have c3 : ∀ m : M PyData, mIf (pure true) (pure (eWd w)) m = pure (eWd w) := fun _ => rfl
    rw [c1, ifR_no rfl, c2, ifR_no rfl, c3, pure_bind, show mCallC (ap2 m__law_word) [pure (eM k n f), pure (.int 20)] = m__law_word (eM k n f) (.int 20) from cw 20]
    refine (t_word (m := 20) o (by decide)).bind fun x ⟨v, hx, hv, hvl⟩ => ?_
    subst hx
    exact t_values o rfl hwl hvl rfl
end
end L82
end
section
set_option Elab.async false
set_option linter.all false
set_option maxRecDepth 100000
set_option maxHeartbeats 4000000
set_option autoImplicit false
namespace L82
open PySem PySem.Spec PyProof.Rows L2 RZ PySem.W DL
section
variable {k n : Nat} {f : Nat → Nat → Nat} {s t l a b : Nat} {w v u X : List Nat}
/-- a least word of known length -/
theorem wts_len (o : Mo k n f) {m : Nat} (h1 : ∃ w, Rs k n f w ∧ w.length = m) (h2 : ∀ w, Rs k n f w → m ≤ w.length) : ∃ w, m_word_to_size (eM k n f) (.int 1) = pure (eWd w) ∧ Rs k n f w ∧ w.length = m := by
  obtain ⟨v, hv, hvl⟩ := h1
  rcases e_word_to_size o with ⟨_, hno⟩ | ⟨w, hs, hw, hmin⟩
  · exact absurd ⟨v, hv⟩ hno
  · refine ⟨w, hs, hw, ?_⟩
    have := hmin v hv
    have := h2 w hw
    omega
theorem fewest_len (o : Mo k n f) {m : Nat} (h1 : ∃ w, Rs k n f w ∧ w.length = m) (h2 : ∀ w, Rs k n f w → m ≤ w.length) : mCall (ap1 m_fewest_to_one) [pure (eM k n f)] = pure (eI m) := by
  obtain ⟨w, hs, _, hl⟩ := wts_len o h1 h2
  rw [call1, e_fewest_some o hs, hl]
  rfl
/-! ### the examples -/
theorem g_five : mTup [(mTup [(pure (.int 1)), (pure (.int 2)), (pure (.int 3)), (pure (.int 4)), (pure (.int 0))]), (mTup [(pure (.int 0)), (pure (.int 1)), (pure (.int 2)), (pure (.int 3)), (pure (.int 0))])] = pure (eM 2 5 (fL 5 0)) := rfl
theorem g_some : mTup [(mTup [(pure (.int 1)), (pure (.int 2)), (pure (.int 0))]), (mTup [(pure (.int 0)), (pure (.int 1)), (pure (.int 0))])] = pure (eM 2 3 (fL 3 0)) := rfl
def fT (l s : Nat) : Nat := if l = 0 then 1 - s else s
theorem g_turn : mTup [(mTup [(pure (.int 1)), (pure (.int 0))]), (mTup [(pure (.int 0)), (pure (.int 1))])] = pure (eM 2 2 fT) := rfl
theorem mo_T : Mo 2 2 fT := ⟨by decide, by decide, by decide, by decide, fun l s _ hs => by unfold fT; split <;> omega⟩
theorem apart_T : Apart 2 fT 0 1 := by
  have key : ∀ (w : List Nat) (x y : Nat), x < 2 → y < 2 → x ≠ y → led fT x w ≠ led fT y w := by
    intro w
    induction w with
    | nil => intro x y _ _ h; exact h
    | cons l w ih =>
      intro x y hx hy h
      refine ih (fT l x) (fT l y) ?_ ?_ ?_
      · unfold fT; split <;> omega
      · unfold fT; split <;> omega
      · unfold fT; split <;> omega
  exact fun w _ => key w 0 1 (by decide) (by decide) (by decide)
theorem none_T : ¬ ∃ w, Rs 2 2 fT w := fun h => (reset_iff mo_T).mp h 0 1 (by decide) (by decide) apart_T
theorem one_S : ∀ w, Rs 2 3 (fL 3 0) w → w.length = 4 → w = [1, 0, 0, 1] := by
  intro w hw hl
  have h := (rs_of_led (mo_L (by decide) (by decide) (by decide)) hw.1).mp hw
  have h1 := h 0 (by decide) 1 (by decide)
  have h2 := h 0 (by decide) 2 (by decide)
  match w, hl, hw.1, h1, h2 with
  | [a, b, c, d], _, hwd, h1, h2 =>
    have ha : a = 0 ∨ a = 1 := by have := hwd a (by simp); omega
    have hb : b = 0 ∨ b = 1 := by have := hwd b (by simp); omega
    have hc : c = 0 ∨ c = 1 := by have := hwd c (by simp); omega
    have hd : d = 0 ∨ d = 1 := by have := hwd d (by simp); omega
    rcases ha with rfl | rfl <;> rcases hb with rfl | rfl <;> rcases hc with rfl | rfl <;> rcases hd with rfl | rfl <;> first | rfl | (exact absurd h1 (by decide)) | (exact absurd h2 (by decide))
theorem mo_1 : Mo 1 1 (fun _ _ => 0) := ⟨by decide, by decide, by decide, by decide, fun _ _ _ _ => by decide⟩
def told10 : List PyData := [.int 4, .tuple [.int 1, .int 0, .int 0, .int 1], .bool true, .bool false, .tuple [], .none, .tuple [.int 0, .int 1], .none, .bool true, .bool false]
theorem sm_told : Sm 2 (.list told10) := sm_list (by decide) fun d hd => by
  have hints : ∀ ds : List PyData, ds.length ≤ 4096 → (∀ e ∈ ds, DL.scal e = true) → Sm 1 (.tuple ds) := fun ds h1 h2 => .inr ⟨ds, .inl rfl, h1, h2⟩
  simp only [told10, List.mem_cons, List.not_mem_nil, or_false] at hd
  rcases hd with rfl | rfl | rfl | rfl | rfl | rfl | rfl | rfl | rfl | rfl
  · exact .inl rfl
  · exact hints _ (by decide) (by decide)
  · exact .inl rfl
  · exact .inl rfl
  · exact hints _ (by decide) (by decide)
  · exact .inl rfl
  · exact hints _ (by decide) (by decide)
  · exact .inl rfl
  · exact .inl rfl
  · exact .inl rfl
theorem told_a : mLst (runs [(mCall (ap1 m_fewest_to_one) [(pure (eM 2 3 (fL 3 0)))]), (mCall (ap1 m_word_to_one) [(pure (eM 2 3 (fL 3 0)))]), (mCall (ap2 m_is_word_to_one) [(pure (eM 2 3 (fL 3 0))), (mTup [(pure (.int 1)), (pure (.int 0)), (pure (.int 0)), (pure (.int 1))])]), (mCall (ap2 m_is_word_to_one) [(pure (eM 2 3 (fL 3 0))), (mTup [(pure (.int 1)), (pure (.int 0)), (pure (.int 1))])]), (mCall (ap1 m_word_to_one) [(mTup [(mTup [(pure (.int 0))])])])]) = pure (.list [.int 4, .tuple [.int 1, .int 0, .int 0, .int 1], .bool true, .bool false, .tuple []]) := by
  have o := mo_L (n := 3) (r := 0) (by decide) (by decide) (by decide)
  obtain ⟨h1, h2⟩ := slow (n := 3) (r := 0) (by decide) (by decide) (by decide)
  have e1 : mCall (ap1 m_fewest_to_one) [(pure (eM 2 3 (fL 3 0)))] = pure (.int 4) := fewest_len o h1 h2
  obtain ⟨w, hs, hw, hl⟩ := wts_len o h1 h2
  have := one_S w hw hl
  subst this
  have e2 : mCall (ap1 m_word_to_one) [(pure (eM 2 3 (fL 3 0)))] = pure (.tuple [.int 1, .int 0, .int 0, .int 1]) := by
    rw [call1, e_word_to_one o hs]; rfl
  have g3 : mTup [(pure (.int 1)), (pure (.int 0)), (pure (.int 0)), (pure (.int 1))] = pure (eWd [1, 0, 0, 1]) := rfl
  have e3 : mCall (ap2 m_is_word_to_one) [(pure (eM 2 3 (fL 3 0))), (pure (eWd [1, 0, 0, 1]))] = pure (.bool true) := by
    rw [call2, e_is_word_to_one o (wd_plain (w := [1, 0, 0, 1])), oneB_wd hw.1 (by decide), decide_eq_true ((left_one o hw.1).mpr hw)]; rfl
  have g4 : mTup [(pure (.int 1)), (pure (.int 0)), (pure (.int 1))] = pure (eWd [1, 0, 1]) := rfl
  have e4 : mCall (ap2 m_is_word_to_one) [(pure (eM 2 3 (fL 3 0))), (pure (eWd [1, 0, 1]))] = pure (.bool false) := by
    have hwd : Wd 2 [1, 0, 1] := by unfold Wd; decide
    rw [call2, e_is_word_to_one o (wd_plain (w := [1, 0, 1])), oneB_wd hwd (by decide), decide_eq_false fun e => by
      have := h2 [1, 0, 1] ((left_one o hwd).mp e)
      exact absurd this (by decide)]; rfl
  have g5 : mTup [(mTup [(pure (.int 0))])] = pure (eM 1 1 fun _ _ => 0) := rfl
  have r1 : Rs 1 1 (fun _ _ => 0) [] := ⟨(fun _ h => by cases h), rfl⟩
  obtain ⟨w5, hs5, hw5, hl5⟩ := wts_len (m := 0) mo_1 ⟨[], r1, rfl⟩ fun _ _ => Nat.zero_le _
  have : w5 = [] := List.length_eq_zero_iff.mp hl5
  subst this
  have e5 : mCall (ap1 m_word_to_one) [(pure (eM 1 1 fun _ _ => 0))] = pure (.tuple []) := by
    rw [call1, e_word_to_one mo_1 hs5]; rfl
  rw [e1, e2, g3, e3, g4, e4, g5, e5]
  rfl
theorem told_b : mLst (runs [(mCall (ap1 m_fewest_to_one) [(pure (eM 2 2 fT))]), (mCall (ap1 m_apart_spots) [(pure (eM 2 2 fT))]), (mCall (ap1 m_apart_spots) [(pure (eM 2 3 (fL 3 0)))]), (mCall (ap2 m_are_apart_spots) [(pure (eM 2 2 fT)), (mTup [(pure (.int 0)), (pure (.int 1))])]), (mCall (ap2 m_are_apart_spots) [(pure (eM 2 2 fT)), (mTup [(pure (.int 1)), (pure (.int 0))])])]) = pure (.list [.none, .tuple [.int 0, .int 1], .none, .bool true, .bool false]) := by
  have o := mo_L (n := 3) (r := 0) (by decide) (by decide) (by decide)
  have e1 : mCall (ap1 m_fewest_to_one) [(pure (eM 2 2 fT))] = pure .none := by
    rcases e_word_to_size mo_T with ⟨h, _⟩ | ⟨w, _, hw, _⟩
    · rw [call1, e_fewest_none mo_T h]; rfl
    · exact absurd ⟨w, hw⟩ none_T
  have e2 : mCall (ap1 m_apart_spots) [(pure (eM 2 2 fT))] = pure (.tuple [.int 0, .int 1]) := by
    rcases e_apart_spots mo_T with ⟨_, h⟩ | ⟨a, b, h, hab, hb, _⟩
    · exact absurd apart_T (h 0 1 (by decide) (by decide))
    · have : a = 0 := by omega
      have : b = 1 := by omega
      subst a b
      rw [call1, h]; rfl
  have e3 : mCall (ap1 m_apart_spots) [(pure (eM 2 3 (fL 3 0)))] = pure .none := by
    rcases e_apart_spots o with ⟨h, _⟩ | ⟨a, b, _, hab, hb, hap⟩
    · rw [call1, h]; rfl
    · obtain ⟨⟨w, hw, _⟩, _⟩ := slow (n := 3) (r := 0) (by decide) (by decide) (by decide)
      exact absurd hap ((reset_iff o).mp ⟨w, hw⟩ a b hab hb)
  have g4 : mTup [(pure (.int 0)), (pure (.int 1))] = pure (.tuple [eI 0, eI 1]) := rfl
  have e4 : mCall (ap2 m_are_apart_spots) [(pure (eM 2 2 fT)), (pure (.tuple [eI 0, eI 1]))] = pure (.bool true) := by
    rw [call2, e_are_apart_spots mo_T rfl, aptB_pair (by decide) (by decide)]
    have : (decide (0 < 1) && @decide (Apart 2 fT 0 1) (Classical.propDecidable _)) = true := by simp [apart_T]
    rw [this]; rfl
  have g5 : mTup [(pure (.int 1)), (pure (.int 0))] = pure (.tuple [eI 1, eI 0]) := rfl
  have e5 : mCall (ap2 m_are_apart_spots) [(pure (eM 2 2 fT)), (pure (.tuple [eI 1, eI 0]))] = pure (.bool false) := by
    rw [call2, e_are_apart_spots mo_T rfl, aptB_pair (by decide) (by decide), decide_eq_false (by decide)]; rfl
  rw [e1, e2, e3, g4, e4, g5, e5]
  rfl
/-! ### what goes down -/
def fD (_ s : Nat) : Nat := s - 1
theorem mo_D (h0 : 0 < n) (h8 : n ≤ 8) : Mo 1 n fD := ⟨by decide, by decide, h0, h8, fun _ s _ h => by unfold fD; omega⟩
theorem led_D : ∀ (m s : Nat), led fD s (List.replicate m 0) = s - m
  | 0, s => rfl
  | m + 1, s => by
    show led fD (s - 1) (List.replicate m 0) = _
    rw [led_D m]
    omega
theorem wd_rep {k : Nat} (h : 0 < k) (m : Nat) : Wd k (List.replicate m 0) := fun l hl => by rw [(List.mem_replicate.mp hl).2]; exact h
theorem one_letter (h : Wd 1 w) : w = List.replicate w.length 0 := List.eq_replicate_iff.mpr ⟨rfl, fun l hl => by have := h l hl; omega⟩
theorem reset_D (h2 : 2 ≤ n) (h8 : n ≤ 8) : Rs 1 n fD (List.replicate (n - 1) 0) ∧ ∀ w, Rs 1 n fD w → n - 1 ≤ w.length := by
  have o := mo_D (n := n) (by omega) h8
  constructor
  · rw [rs_of_led o (wd_rep (by decide) _)]
    intro x hx y hy
    rw [led_D, led_D]
    omega
  · intro w hw
    have h := (rs_of_led o hw.1).mp hw 0 (by omega) (n - 1) (by omega)
    rw [one_letter hw.1, led_D, led_D] at h
    omega
theorem repZ (m : Nat) (h : m ≤ 1000) : mOp pmulT (mTup [(pure (.int 0))]) (pure (eI m)) = pure (eWd (List.replicate m 0)) := by
  have e0 : mTup [(pure (.int 0))] = pure (.tuple [eI 0]) := rfl
  rw [e0]
  simp only [mOp, pure_bind]
  show (if [eI 0] = [] ∨ (m : Int) ≤ 0 then do chk (-1000 ≤ (m : Int) ∧ (m : Int) ≤ 1000); pure (.tuple []) else pmul (.tuple [eI 0]) (.int m) : M PyData) = _
  by_cases h0 : m = 0
  · subst h0
    rw [if_pos (.inr (by decide)), chk_true ⟨by decide, by decide⟩, pure_bind]
    rfl
  · rw [if_neg (by rintro (h | h); cases h; omega)]
    show (if (m : Int) = 1 then pure (.tuple [eI 0]) else do chk ([eI 0] ≠ [] ∧ 2 ≤ (m : Int) ∧ (m : Int) ≤ 1000 ∧ [eI 0].length ≤ 1000); pure (.tuple (List.replicate (m : Int).toNat [eI 0]).flatten) : M PyData) = _
    by_cases h1 : (m : Int) = 1
    · have : m = 1 := by omega
      subst this
      rfl
    · rw [if_neg h1, chk_true ⟨by simp, by omega, by omega, by show 1 ≤ 1000; decide⟩, pure_bind, Int.toNat_natCast]
      have flat : ∀ q : Nat, (List.replicate q [eI 0]).flatten = (List.replicate q 0).map eI := fun q => by
        induction q with
        | zero => rfl
        | succ q ih => rw [List.replicate_succ, List.flatten_cons, ih, List.replicate_succ]; rfl
      rw [flat]
      rfl
/-- (row,) * r -/
theorem repRow (d : PyData) (r : Nat) (h : r ≤ 6) : mOp pmulT (mTup [pure d]) (pure (eI r)) = pure (.tuple (List.replicate r d)) := by
  have e0 : mTup [pure d] = pure (.tuple [d]) := rfl
  rw [e0]
  simp only [mOp, pure_bind]
  show (if [d] = [] ∨ (r : Int) ≤ 0 then do chk (-1000 ≤ (r : Int) ∧ (r : Int) ≤ 1000); pure (.tuple []) else pmul (.tuple [d]) (.int r) : M PyData) = _
  by_cases h0 : r = 0
  · subst h0
    rw [if_pos (.inr (by decide)), chk_true ⟨by decide, by decide⟩, pure_bind]
    rfl
  · rw [if_neg (by rintro (h | h); cases h; omega)]
    show (if (r : Int) = 1 then pure (.tuple [d]) else do chk ([d] ≠ [] ∧ 2 ≤ (r : Int) ∧ (r : Int) ≤ 1000 ∧ [d].length ≤ 1000); pure (.tuple (List.replicate (r : Int).toNat [d]).flatten) : M PyData) = _
    by_cases h1 : (r : Int) = 1
    · have : r = 1 := by omega
      subst this
      rfl
    · rw [if_neg h1, chk_true ⟨by simp, by omega, by omega, by show 1 ≤ 1000; decide⟩, pure_bind, Int.toNat_natCast]
      have flat : ∀ q : Nat, (List.replicate q [d]).flatten = List.replicate q d := fun q => by
        induction q with
        | zero => rfl
        | succ q ih => rw [List.replicate_succ, List.flatten_cons, ih, List.replicate_succ]; rfl
      rw [flat]
theorem eM_L (r : Nat) : eM (r + 2) n (fL n r) = .tuple ([rowD n fun s => (s + 1) % n] ++ List.replicate r (eWd (List.range n)) ++ [rowD n fun s => if s = n - 1 then 0 else s]) := by
  unfold eM
  congr 1
  rw [List.range_succ, List.map_append]
  congr 1
  · rw [List.range_succ_eq_map, List.map_cons, List.map_map]
    show [_] ++ _ = _
    congr 1
    refine List.eq_replicate_iff.mpr ⟨by rw [List.length_map, List.length_range], fun d hd => ?_⟩
    obtain ⟨j, hj, rfl⟩ := List.mem_map.mp hd
    have hj' := List.mem_range.mp hj
    show PyData.tuple ((List.range n).map fun s => eI (fL n r (j + 1) s)) = .tuple ((List.range n).map eI)
    congr 1
    refine List.map_congr_left fun s _ => ?_
    unfold fL
    rw [if_neg (by omega), if_neg (by omega)]
  · show [PyData.tuple ((List.range n).map fun s => eI (fL n r (r + 1) s))] = [rowD n fun s => if s = n - 1 then 0 else s]
    congr 1
    unfold rowD
    congr 1
    refine List.map_congr_left fun s _ => ?_
    unfold fL
    rw [if_neg (by omega), if_pos rfl]
def fZ (n l s : Nat) : Nat := if l = 0 then (s + 1) % n else 0
theorem mo_Z (h0 : 0 < n) (h8 : n ≤ 8) : Mo 2 n (fZ n) := ⟨by decide, by decide, h0, h8, fun l s _ _ => by unfold fZ; split; exact Nat.mod_lt _ h0; exact h0⟩
theorem reset_Z (h2 : 2 ≤ n) (h8 : n ≤ 8) : (∃ w, Rs 2 n (fZ n) w ∧ w.length = 1) ∧ ∀ w, Rs 2 n (fZ n) w → 1 ≤ w.length := by
  have o := mo_Z (n := n) (by omega) h8
  constructor
  · refine ⟨[1], ?_, rfl⟩
    rw [rs_of_led o (by unfold Wd; decide)]
    intro x _ y _
    rfl
  · intro w hw
    cases w with
    | nil =>
      have h := (rs_of_led o hw.1).mp hw 0 (by omega) 1 (by omega)
      exact absurd (show (0 : Nat) = 1 from h) (by decide)
    | cons a w => simp
end
theorem law_true (ns : List Int) (hl : ns.length ≤ 63) : (ap1 m_law) [.list (ns.map .int)] [] = .ok (.bool true, []) := by
  obtain ⟨cx, cy, hcup, hy1, hy2⟩ := e_cup ns hl
  show DL.finish (b_law (.list (ns.map .int))) [] = _
  unfold b_law
  refine run_cup (x := cx) (y := cy) ?_ hy1 hy2 ?_
  · simp only [oCall, runs_cons, runs_nil, pure_bind, hcup, liftP_pure, asL_list]
  have f5 : mCall (ap1 m_fewest_to_one) [pure (eM 2 5 (fL 5 0))] = pure (.int 16) := fewest_len (mo_L (by decide) (by decide) (by decide)) (slow (n := 5) (r := 0) (by decide) (by decide) (by decide)).1 (slow (n := 5) (r := 0) (by decide) (by decide) (by decide)).2
  rw [g_five, f5, ifR_no (like_no (d := .int 16) (j := 0) rfl rfl rfl)]
  simp only [sPar]
  rw [g_some, pure_bind, g_turn, pure_bind, told_a, pure_bind, told_b, addL _ _ (by show 5 + 5 ≤ 4096; decide), pure_bind]
  have e10 : mLst (runs [(pure (.int 4)), (mTup [(pure (.int 1)), (pure (.int 0)), (pure (.int 0)), (pure (.int 1))]), (pure (.bool true)), (pure (.bool false)), (mTup []), (pure .none), (mTup [(pure (.int 0)), (pure (.int 1))]), (pure .none), (pure (.bool true)), (pure (.bool false))]) = pure (.list told10) := rfl
  have hap : ([PyData.int 4, .tuple [.int 1, .int 0, .int 0, .int 1], .bool true, .bool false, .tuple []] ++ [PyData.none, .tuple [.int 0, .int 1], .none, .bool true, .bool false]) = told10 := rfl
  rw [e10, hap, ifR_no (like_no (d := .list told10) rfl rfl sm_told)]
  -- movings drawn
  have hit : iAll (mTup [pure (.int 2), pure (.int 4), pure (.int 6), pure (.int 7), pure (.int 8)]) = pure [.int 2, .int 4, .int 6, .int 7, .int 8] := rfl
  simp only [sFor]
  rw [hit, pure_bind]
  refine (Tri.for (fun _ (_ : Unit) => True) 0 trivial fun i d t hd _ => ?_).bind fun r ⟨t, hr, _⟩ => ?_
  · have hm : ∃ m : Nat, d = .int (m : Nat) ∧ 1 ≤ m ∧ m ≤ 8 := by
      have := List.mem_of_getElem? hd
      simp only [List.mem_cons, List.not_mem_nil, or_false] at this
      rcases this with rfl | rfl | rfl | rfl | rfl
      · exact ⟨2, rfl, by decide, by decide⟩
      · exact ⟨4, rfl, by decide, by decide⟩
      · exact ⟨6, rfl, by decide, by decide⟩
      · exact ⟨7, rfl, by decide, by decide⟩
      · exact ⟨8, rfl, by decide, by decide⟩
    obtain ⟨m, rfl, h1, h2⟩ := hm
    rw [pure_bind]
    have e : sIfR (τ := Unit) (β := Unit) (tNo (tVal (mCallC (ap1 m__law_right) [mCallC (ap1 m__law_moving) [pure (.int (m : Nat))]]))) (sRet (pure (.bool false))) (pure (.nx ())) =
        (do let p ← m__law_moving (.int (m : Nat)); let z ← m__law_right p; let b ← asB z; if (!b) = true then castF (sRet (pure (.bool false))) else pure (.nx ())) := by
      simp only [sIfR, tNo, tVal, mCallC, runs_cons, runs_nil, pure_bind, bind_assoc]
    rw [e]
    refine (t_moving h1 h2).bind fun p ⟨k, n, f, o, hp⟩ => ?_
    subst hp
    refine (t_right o).bind fun z hz => ?_
    subst hz
    rw [asB_bool, pure_bind, if_neg (by simp)]
    exact Tri.pure ⟨(), .inl rfl, trivial⟩
  subst hr
  rw [contL_inl]
  -- the slow one
  have hq : Tri IC (mOp padd (pure (.int 2)) (mCallC (ap1 m__law_roll) [pure (.int 7)])) fun d => ∃ n : Nat, d = eI n ∧ 2 ≤ n ∧ n ≤ 8 := by
    simp only [mOp, pure_bind, callC1]
    refine (t_rollN (n := 7) (by decide) (by decide)).bind fun x ⟨r, hx, hr⟩ => ?_
    subst hx
    refine Tri.of (x := eI (2 + r)) ?_ ⟨2 + r, rfl, by omega, by omega⟩
    unfold eI
    rw [padd_int]
    congr 2
  refine hq.bind fun x ⟨n, hx, h2, h8⟩ => ?_
  subst hx
  have hpi : ∀ i : Nat, pint (eI i) = pure (eI i) := fun _ => rfl
  have hmd : ∀ (i m : Nat), 0 < m → pmod (eI i) (eI m) = pure (eI (i % m)) := fun i m h => by
    unfold eI
    rw [pmod_ok' (by omega), Int.natCast_emod]
  have hadd : ∀ i j : Nat, padd (eI i) (eI j) = pure (eI (i + j)) := fun i j => by unfold eI; rw [padd_int, Int.natCast_add]
  have gring : mUn ptuple (mLst (oLc (iRange1 (pure (eI n))) (fun d => pure d) (fun t10 => (pure true)) (fun t10 => (mOp pmod (mUn pint (mOp padd (pure t10) (pure (.int 1)))) (pure (eI n)))))) = pure (rowD n fun s => (s + 1) % n) :=
    tab_row h8 fun s hs => by
      simp only [mOp, mUn, pure_bind]
      rw [show padd (eI s) (.int 1) = pure (eI (s + 1)) from hadd s 1, pure_bind, hpi, pure_bind, hmd _ n (by omega)]
  rw [gring, pure_bind]
  have grg : mTupRg (pure (eI n)) = pure (eWd (List.range n)) := by
    simp only [mTupRg, pure_bind]
    show (do chk ((0 : Int) ≤ (n : Int) ∧ (n : Int) ≤ 16777216); pure (.tuple (rangeD 0 (n : Int))) : M PyData) = _
    rw [chk_true ⟨by omega, by omega⟩, pure_bind, rangeD_nat]
    rfl
  have hsub : mOp psub (pure (eI n)) (pure (.int 1)) = pure (eI (n - 1)) := by
    simp only [mOp, pure_bind]
    unfold eI
    rw [psub_int]
    congr 2
    omega
  have gjoin : mUn ptuple (mLst (oLc (iRange1 (pure (eI n))) (fun d => pure d) (fun t12 => (pure true)) (fun t12 => (mIf (DL.tCmp peq (pure t12) (mOp psub (pure (eI n)) (pure (.int 1)))) (pure (.int 0)) (pure t12))))) = pure (rowD n fun s => if s = n - 1 then 0 else s) :=
    tab_row h8 fun s hs => by
      simp only [mIf]
      rw [hsub]
      simp only [DL.tCmp, pure_bind]
      rw [peq_len, pure_bind, asB_bool, pure_bind]
      by_cases h : s = n - 1
      · rw [if_pos (decide_eq_true h), if_pos h]; rfl
      · rw [if_neg (by simp [h]), if_neg h]
  rw [grg, gjoin]
  have hslow : Tri IC (mOp padd (mOp padd (mTup [(pure (rowD n fun s => (s + 1) % n))]) (mOp pmulT (mTup [pure (eWd (List.range n))]) (mCallC (ap1 m__law_roll) [(pure (.int 7))]))) (mTup [pure (rowD n fun s => if s = n - 1 then 0 else s)])) fun d => ∃ r, r ≤ 6 ∧ d = eM (r + 2) n (fL n r) := by
    have e : mOp padd (mOp padd (mTup [(pure (rowD n fun s => (s + 1) % n))]) (mOp pmulT (mTup [pure (eWd (List.range n))]) (mCallC (ap1 m__law_roll) [(pure (.int 7))]))) (mTup [pure (rowD n fun s => if s = n - 1 then 0 else s)]) =
        (do let q ← m__law_roll (.int 7); mOp padd (mOp padd (mTup [(pure (rowD n fun s => (s + 1) % n))]) (mOp pmulT (mTup [pure (eWd (List.range n))]) (pure q))) (mTup [pure (rowD n fun s => if s = n - 1 then 0 else s)])) := by
      simp only [mOp, mTup, mCallC, runs_cons, runs_nil, pure_bind, bind_assoc]
    rw [e]
    refine (t_rollN (n := 7) (by decide) (by decide)).bind fun x ⟨r, hx, hr⟩ => ?_
    subst hx
    rw [repRow _ r (by omega)]
    have e1 : ∀ d : PyData, mTup [pure d] = pure (.tuple [d]) := fun _ => rfl
    rw [e1, e1]
    simp only [mOp, pure_bind, padd_tuple]
    rw [chk_true (by rw [List.length_replicate, sizeLine_eq]; show 1 + r ≤ 16777216; omega), pure_bind, pure_bind, padd_tuple, chk_true (by rw [List.length_append, List.length_replicate, sizeLine_eq]; show 1 + r + 1 ≤ 16777216; omega), pure_bind]
    exact Tri.pure ⟨r, by omega, (eM_L r).symm⟩
  refine hslow.bind fun x ⟨r, hr6, hx⟩ => ?_
  subst hx
  have oL := mo_L (n := n) (r := r) h2 h8 hr6
  obtain ⟨sl1, sl2⟩ := slow (n := n) (r := r) h2 h8 hr6
  rw [fewest_len oL sl1 sl2, hsub, mulN (n - 1) (n - 1) (by omega)]
  have hlk : tNo (tVal (mCall (ap2 (m__law_like 12)) [pure (eI ((n - 1) * (n - 1))), pure (eI ((n - 1) * (n - 1)))])) = pure false := like_no (d := eI ((n - 1) * (n - 1))) (j := 0) rfl rfl rfl
  rw [hlk, or_f, callC1]
  have e : ∀ (K : M (Fl Unit Empty)), sIfR (tNo (tVal (m__law_right (eM (r + 2) n (fL n r))))) (sRet (pure (.bool false))) K = (do let z ← m__law_right (eM (r + 2) n (fL n r)); let b ← asB z; if (!b) = true then castF (sRet (pure (.bool false))) else K) := fun K => by
    simp only [sIfR, tNo, tVal, bind_assoc, pure_bind]
  rw [e]
  refine (t_right oL).bind fun z hz => ?_
  subst hz
  rw [asB_bool, pure_bind, if_neg (by simp)]
  -- what goes down
  have gD : mTup [(mUn ptuple (mLst (oLc (iRange1 (pure (eI n))) (fun d => pure d) (fun t14 => (pure true)) (fun t14 => (mTwo pmax2 (pure (.int 0)) (mOp psub (pure t14) (pure (.int 1))))))))] = pure (eM 1 n fD) := by
    have := tab_row (n := n) (g := fun t14 => (mTwo pmax2 (pure (.int 0)) (mOp psub (pure t14) (pure (.int 1))))) (y := fun s => eI (s - 1)) h8 fun s hs => by
      have : ∀ i j : Int, pmax2 (.int i) (.int j) = pure (.int (if i < j then j else i)) := fun _ _ => rfl
      simp only [mOp, mTwo, pure_bind]
      unfold eI
      rw [psub_int, pure_bind, this]
      congr 2
      split <;> omega
    rw [this]
    rfl
  rw [gD, pure_bind]
  have oD := mo_D (n := n) (by omega) h8
  obtain ⟨rd1, rd2⟩ := reset_D h2 h8
  have d1 : mCall (ap1 m_fewest_to_one) [(pure (eM 1 n fD))] = pure (eI (n - 1)) := fewest_len oD ⟨_, rd1, by rw [List.length_replicate]⟩ rd2
  obtain ⟨w, hs, hw, hwl⟩ := wts_len oD ⟨_, rd1, by rw [List.length_replicate]⟩ rd2
  have d2 : mCall (ap1 m_word_to_one) [(pure (eM 1 n fD))] = pure (eWd (List.replicate (n - 1) 0)) := by
    rw [call1, e_word_to_one oD hs, one_letter hw.1, hwl]; rfl
  have gZ : mTup [(pure (rowD n fun s => (s + 1) % n)), (mOp pmulT (mTup [(pure (.int 0))]) (pure (eI n)))] = pure (eM 2 n (fZ n)) := by
    rw [repZ n (by omega)]
    have : eWd (List.replicate n 0) = rowD n fun _ => 0 := by
      unfold eWd rowD
      congr 1
      rw [List.map_replicate]
      symm
      refine List.eq_replicate_iff.mpr ⟨by rw [List.length_map, List.length_range], fun d hd => ?_⟩
      obtain ⟨j, _, rfl⟩ := List.mem_map.mp hd
      rfl
    rw [this]
    rfl
  have oZ := mo_Z (n := n) (by omega) h8
  have d3 : mCall (ap1 m_fewest_to_one) [(pure (eM 2 n (fZ n)))] = pure (eI 1) := fewest_len oZ (reset_Z h2 h8).1 (reset_Z h2 h8).2
  have d4 : mCall (ap2 m_moved_row) [(pure (eM 1 n fD)), (pure (eWd (List.replicate (n - 1) 0)))] = pure (eWd (List.replicate n 0)) := by
    rw [call2]
    have e1 : m_moved_row (eM 1 n fD) (eWd (List.replicate (n - 1) 0)) = pure (rowD n fun s => led fD s (List.replicate (n - 1) 0)) := by
      unfold m_moved_row b_moved_row
      rw [call1, e_need_moving oD, call2, e_need_letters (wd_rep (by decide) _) (by rw [List.length_replicate]; omega), call2, e_row_by oD (wd_rep (by decide) _)]
      rfl
    rw [e1]
    have : rowD n (fun s => led fD s (List.replicate (n - 1) 0)) = eWd (List.replicate n 0) := by
      unfold eWd rowD
      congr 1
      rw [List.map_replicate]
      refine List.eq_replicate_iff.mpr ⟨by rw [List.length_map, List.length_range], fun d hd => ?_⟩
      obtain ⟨j, hj, rfl⟩ := List.mem_map.mp hd
      have hj' := List.mem_range.mp hj
      show eI (led fD j (List.replicate (n - 1) 0)) = eI 0
      rw [led_D, show j - (n - 1) = 0 by omega]
    rw [this]
    rfl
  have four : ∀ x y z u : PyData, mLst (runs [pure x, pure y, pure z, pure u]) = pure (.list [x, y, z, u]) := fun _ _ _ _ => rfl
  have smw : ∀ m : Nat, m ≤ 8 → Sm 1 (eWd (List.replicate m 0)) := fun m hm => .inr ⟨_, .inl rfl, by rw [List.length_map, List.length_replicate]; omega, fun e he => by
    obtain ⟨j, _, rfl⟩ := List.mem_map.mp he
    exact sm_eI _⟩
  rw [gZ, repZ (n - 1) (by omega), repZ n (by omega), d1, d2, d3, d4, four, pure_bind]
  have i1 : (PyData.int 1) = eI 1 := rfl
  rw [i1, four, call2, like12 (j := 2) (sm_list (by show 4 ≤ 4096; decide) fun d hd => by
    simp only [List.mem_cons, List.not_mem_nil, or_false] at hd
    rcases hd with rfl | rfl | rfl | rfl
    · exact Sm.le (sm_eI _) (by decide)
    · exact smw _ (by omega)
    · exact Sm.le (sm_eI _) (by decide)
    · exact smw _ (by omega))]
  exact Tri.of (x := .rt (.bool true)) rfl rfl
end L82
end
section
set_option Elab.async false
set_option linter.all false
set_option maxRecDepth 100000
set_option maxHeartbeats 0
set_option autoImplicit false
namespace L82
open PySem PySem.Spec PyProof.Rows L2 RZ DL
def top (i : Nat) : Stmt := PySem.Challenge.pw_productstold_k82_whole_words_to_one_spot.main.body.getD i (.Pass ⟨0, 0, 0, 0⟩)
structure Top (K : PySem.W.Frag) (mg : Str → Option Value) : Prop where
  d__law_cup : DefF K mg "_law_cup" (top 33)
  d__law_sort : DefF K mg "_law_sort" (top 35)
  d__law_like : DefF K mg "_law_like" (top 36)
  d_is_tuple_of : DefF K mg "is_tuple_of" (top 7)
  d_is_integer : DefF K mg "is_integer" (top 5)
  d_is_whole : DefF K mg "is_whole" (top 6)
  d_are_things : DefF K mg "are_things" (top 8)
  d_fits_moving : DefF K mg "fits_moving" (top 12)
  d_need_moving : DefF K mg "need_moving" (top 13)
  d_lot_by : DefF K mg "lot_by" (top 20)
  d_words_from : DefF K mg "words_from" (top 21)
  d_all_spots : DefF K mg "all_spots" (top 22)
  d_word_to_size : DefF K mg "word_to_size" (top 23)
  d_fewest_to_one : DefF K mg "fewest_to_one" (top 28)
  d_word_to_one : DefF K mg "word_to_one" (top 27)
  d_fits_letters : DefF K mg "fits_letters" (top 14)
  d_led_to : DefF K mg "led_to" (top 16)
  d_row_by : DefF K mg "row_by" (top 17)
  d_is_word_to_one : DefF K mg "is_word_to_one" (top 29)
  d__law_roll : DefF K mg "_law_roll" (top 34)
  d_need_letters : DefF K mg "need_letters" (top 15)
  d_moved_row : DefF K mg "moved_row" (top 18)
  d_are_apart : DefF K mg "are_apart" (top 25)
  d_apart_in : DefF K mg "apart_in" (top 26)
  d_apart_spots : DefF K mg "apart_spots" (top 30)
  d_are_apart_spots : DefF K mg "are_apart_spots" (top 31)
  d__law_lot_by : DefF K mg "_law_lot_by" (top 42)
  d__law_lengths_of : DefF K mg "_law_lengths_of" (top 43)
  d__law_word : DefF K mg "_law_word" (top 40)
  d__law_are_apart : DefF K mg "_law_are_apart" (top 45)
  d__law_is_word : DefF K mg "_law_is_word" (top 41)
  d__law_led_by : DefF K mg "_law_led_by" (top 39)
  d__law_is_to_one : DefF K mg "_law_is_to_one" (top 44)
  d__law_right : DefF K mg "_law_right" (top 46)
  d__law_order : DefF K mg "_law_order" (top 37)
  d__law_moving : DefF K mg "_law_moving" (top 38)
  d_law : DefF K mg "law" (top 47)
  z_abs : mg "abs" = none
  z_all : mg "all" = none
  z_bool : mg "bool" = none
  z_enumerate : mg "enumerate" = none
  z_int : mg "int" = none
  z_isinstance : mg "isinstance" = none
  z_len : mg "len" = none
  z_list : mg "list" = none
  z_max : mg "max" = none
  z_min : mg "min" = none
  z_range : mg "range" = none
  z_set : mg "set" = none
  z_sorted : mg "sorted" = none
  z_str : mg "str" = none
  z_tuple : mg "tuple" = none
  z_zip : mg "zip" = none
  g_LONGEST : GlobF K mg "LONGEST" (.int 200)
  g_MOST : GlobF K mg "MOST" (.int 8)
section
variable {P : Program} {w : World} {K : PySem.W.Frag} {mg : Str → Option Value} {base : Heap}
/-! _law_cup -/
abbrev sD__law_cup : Stmt := top 33
theorem sc__law_cup : FnScope ["script", "cell"] ["script"] (defScope sD__law_cup) := ⟨rfl, rfl, rfl, by decide +kernel, rfl, by decide +kernel, by decide +kernel⟩
theorem w__law_cup (T : Top K mg) {d_script : PyData} {f : Addr} {cdv : Value} {A : Around} {outer : List Env} {s : Shared} {H : Hp} {E : XK} {C : Ct} (hr : Room 0 (A.deeper (envOfC "_law_cup" (defScope sD__law_cup) s.heap.objs.size f cdv))) (tk : Takes (cxD P w K mg base ["script", "cell"] "_law_cup" (defScope sD__law_cup) f cdv A outer s H E) C.W) (po : PassesOwn (model P w) (cxD P w K mg base ["script", "cell"] "_law_cup" (defScope sD__law_cup) f cdv A outer s H E).A (cxD P w K mg base ["script", "cell"] "_law_cup" (defScope sD__law_cup) f cdv A outer s H E).env (cxD P w K mg base ["script", "cell"] "_law_cup" (defScope sD__law_cup) f cdv A outer s H E).xe) (hrx : C.rx = []) (hc0 : C.c.isSome = false) :
    FB (cxD P w K mg base ["script", "cell"] "_law_cup" (defScope sD__law_cup) f cdv A outer s H E) C (slots0 false [d_script] 1) (fun _ : Unit => []) (fun b : Empty => nomatch b) true (defBody sD__law_cup) (b__law_cup d_script) := by
  have S := sc__law_cup
  unfold b__law_cup
  exact (fb_set 1 S.nd (fe_abs T.z_abs (fe_idx (hu64 hr) (fe_op op_addAll (padd_ok _) (fe_of (fo_list T.z_list (fe_name 0))) (fe_of (fo_lst (fa_cons fe_int fa_nil) (by show 1 ≤ sizeLine; decide)))) fe_int)) fun x1 => (fb_retO (fo_lst (fa_cons (fe_ifExp (ft_cmp op_ge (pcmp_ok _ _) (nomark _) (fe_name 1) (fe_op op_pow (ppow_ok _) fe_int fe_int)) (fe_op op_fdiv (pfdiv_ok _) (fe_name 1) fe_int) fe_int) (fa_cons (fe_op op_addAll (padd_ok _) (fe_op op_mod (pmod_ok _) (fe_intOf T.z_int (fe_op op_addAll (padd_ok _) (fe_op op_mulT (pmulT_ok _) (fe_name 1) fe_int) fe_int)) fe_int) fe_int) fa_nil)) (by show 2 ≤ sizeLine; decide))))
theorem ok__law_cup (T : Top K mg) : Pr P w K mg base 1 "_law_cup" ["script"] (spD K mg false true 1 (ap1 m__law_cup)) := by
  have S := sc__law_cup
  exact pr_d (un := 1) T.d__law_cup S (fun _ _ _ _ _ _ us hl => match us, hl with | [_], _ => rfl) rfl rfl (fun f cdv A outer s H E C ds hr tk po hrx hc0 hd => by
    match ds, hd with
    | [d_script], _ => exact ⟨b__law_cup d_script, fun _ => rfl, w__law_cup T hr tk po hrx hc0⟩) (fun _ ds cs cs2 hd => match ds, hd with | [d_script], _ => hrk_of (by unfold b__law_cup; repeat (first | exact RtL.ret | refine RtL.bind fun _ => ?_)))
/-! _law_sort -/
abbrev sD__law_sort : Stmt := top 35
theorem sc__law_sort : FnScope ["value"] ["value"] (defScope sD__law_sort) := ⟨rfl, rfl, rfl, by decide +kernel, rfl, by decide +kernel, by decide +kernel⟩
theorem w__law_sort (T : Top K mg) {d_value : PyData} {f : Addr} {cdv : Value} {A : Around} {outer : List Env} {s : Shared} {H : Hp} {E : XK} {C : Ct} (hr : Room 0 (A.deeper (envOfC "_law_sort" (defScope sD__law_sort) s.heap.objs.size f cdv))) (tk : Takes (cxD P w K mg base ["value"] "_law_sort" (defScope sD__law_sort) f cdv A outer s H E) C.W) (po : PassesOwn (model P w) (cxD P w K mg base ["value"] "_law_sort" (defScope sD__law_sort) f cdv A outer s H E).A (cxD P w K mg base ["value"] "_law_sort" (defScope sD__law_sort) f cdv A outer s H E).env (cxD P w K mg base ["value"] "_law_sort" (defScope sD__law_sort) f cdv A outer s H E).xe) (hrx : C.rx = []) (hc0 : C.c.isSome = false) :
    FB (cxD P w K mg base ["value"] "_law_sort" (defScope sD__law_sort) f cdv A outer s H E) C (slots0 false [d_value] 0) (fun _ : Unit => []) (fun b : Empty => nomatch b) false (defBody sD__law_sort) (b__law_sort d_value) := by
  have S := sc__law_sort
  unfold b__law_sort
  exact (fb_ifR (emb0 := fun z : Empty => nomatch z) (FW.ft (fw_or (ft_cmp op_isN (pisN_ok _) (nomark _) (fe_name 0) fe_non) (fw_or1 (ft_val (fe_isinst "bool" (.inr (.inl rfl)) T.z_isinstance T.z_bool (by decide +kernel) (fe_name 0)))))) (fb_ret (fe_ifExp (ft_cmp op_isN (pisN_ok _) (nomark _) (fe_name 0) fe_non) fe_int fe_int)) (fb_ifR (emb0 := fun z : Empty => nomatch z) (FW.ft (fw_or (ft_val (fe_isinst "int" (.inl rfl) T.z_isinstance T.z_int (by decide +kernel) (fe_name 0))) (fw_or1 (ft_val (fe_isinst "str" (.inr (.inr (.inl rfl))) T.z_isinstance T.z_str (by decide +kernel) (fe_name 0)))))) (fb_ret (fe_ifExp (ft_val (fe_isinst "int" (.inl rfl) T.z_isinstance T.z_int (by decide +kernel) (fe_name 0))) fe_int fe_int)) (fb_ret (fe_ifExp (ft_val (fe_isinst "tuple" (.inr (.inr (.inr (.inl rfl)))) T.z_isinstance T.z_tuple (by decide +kernel) (fe_name 0))) fe_int (fe_ifExp (ft_val (fe_isinst "list" (.inr (.inr (.inr (.inr (.inl rfl))))) T.z_isinstance T.z_list (by decide +kernel) (fe_name 0))) fe_int fe_int)))))
theorem ok__law_sort (T : Top K mg) : Pr P w K mg base 1 "_law_sort" ["value"] (spD K mg false false 1 (ap1 m__law_sort)) := by
  have S := sc__law_sort
  exact pr_d (un := 0) T.d__law_sort S (fun _ _ _ _ _ _ us hl => match us, hl with | [_], _ => rfl) rfl rfl (fun f cdv A outer s H E C ds hr tk po hrx hc0 hd => by
    match ds, hd with
    | [d_value], _ => exact ⟨b__law_sort d_value, fun _ => rfl, w__law_sort T hr tk po hrx hc0⟩) (fun z => nomatch z)
/-! _law_like -/
abbrev sD__law_like : Stmt := top 36
theorem sc__law_like : FnScope ["one", "other", "sort", "first", "second"] ["one", "other"] (defScope sD__law_like) := ⟨rfl, rfl, rfl, by decide +kernel, rfl, by decide +kernel, by decide +kernel⟩
theorem w__law_like (T : Top K mg) {j : Nat} {r : PyData → PyData → M PyData} (ih : Pr P w K mg base (2 + j) "_law_like" ["one", "other"] (spD K mg false false 2 (ap2 r))) {d_one : PyData} {d_other : PyData} {f : Addr} {cdv : Value} {A : Around} {outer : List Env} {s : Shared} {H : Hp} {E : XK} {C : Ct} (hr : Room (2 + j) (A.deeper (envOfC "_law_like" (defScope sD__law_like) s.heap.objs.size f cdv))) (tk : Takes (cxD P w K mg base ["one", "other", "sort", "first", "second"] "_law_like" (defScope sD__law_like) f cdv A outer s H E) C.W) (po : PassesOwn (model P w) (cxD P w K mg base ["one", "other", "sort", "first", "second"] "_law_like" (defScope sD__law_like) f cdv A outer s H E).A (cxD P w K mg base ["one", "other", "sort", "first", "second"] "_law_like" (defScope sD__law_like) f cdv A outer s H E).env (cxD P w K mg base ["one", "other", "sort", "first", "second"] "_law_like" (defScope sD__law_like) f cdv A outer s H E).xe) (hrx : C.rx = []) (hc0 : C.c.isSome = false) :
    FB (cxD P w K mg base ["one", "other", "sort", "first", "second"] "_law_like" (defScope sD__law_like) f cdv A outer s H E) C (slots0 false [d_one, d_other] 3) (fun _ : Unit => []) (fun b : Empty => nomatch b) false (defBody sD__law_like) (b__law_like r d_one d_other) := by
  have S := sc__law_like
  unfold b__law_like
  exact (fb_set 2 S.nd (fe_callP (ok__law_sort T) (hr.mono (by omega)) tk (wk0 hrx) (fa_cons (fe_name 1) fa_nil)) fun x1 => (fb_ifR (emb0 := fun z : Empty => nomatch z) (FW.ft (fw_or (ft_cmp (op_neP (hu64 hr)) (pne_ok _) (nomark _) (fe_callP (ok__law_sort T) (hr.mono (by omega)) tk (wk0 hrx) (fa_cons (fe_name 0) fa_nil)) (fe_name 2)) (fw_or1 (ft_cmp (op_eqP (hu64 hr)) (peq_ok _) (nomark _) (fe_name 2) fe_int)))) (fb_ret fe_bl) (fb_ifR (emb0 := fun z : Empty => nomatch z) (ft_cmp (op_inP (hu64 hr)) (pin_ok _) (by with_unfolding_all rfl) (fe_name 2) (fe_tup (fa_cons fe_int (fa_cons fe_int fa_nil)) (by show 2 ≤ sizeLine; decide))) (fb_ret (fe_and (fe_cmp (op_eqP (hu64 hr)) (peq_ok _) (nomark _) (fe_len T.z_len (fe_name 0)) (fe_len T.z_len (fe_name 1))) (fe_one (fe_cmp (op_eqP (hu64 hr)) (peq_ok _) (nomark _) (fe_of (fo_lc (own := [("first", 3), ("second", 4)]) rfl S.nd (fi_zip T.z_zip (fe_name 0) (fe_name 1)) (blkOk_by (by first | rfl | with_unfolding_all rfl)) (fun s0 H0 Ca cl fp => fg_tup2' K rfl 3 4 rfl S.nd) (fun t2 s0 H0 Ca cl fp => (fts_one (ft_not (ft_val (fe_callP ih (hr) takes0 .nil (fa_cons (fe_name 3) (fa_cons (fe_name 4) fa_nil))))))) (fun t2 s0 H0 Ca cl fp => fe_int))) (fe_of (fo_lst fa_nil (by show 0 ≤ sizeLine; decide))))))) (fb_ret (fe_cmp (op_eqP (hu64 hr)) (peq_ok _) (nomark _) (fe_name 0) (fe_name 1))))))
theorem ok__law_like (T : Top K mg) : ∀ j : Nat, Pr P w K mg base (2 + j) "_law_like" ["one", "other"] (spD K mg false false 2 (ap2 (m__law_like j)))
  | 0 => pr_stuckG T.d__law_like (fun _ _ _ _ _ _ us hl => match us, hl with | [_, _], _ => rfl) (fun ds hd => match ds, hd with | [_, _], _ => rfl)
  | j + 1 => by
    have S := sc__law_like
    have ih := ok__law_like T j
    exact pr_d (un := 3) T.d__law_like S (fun _ _ _ _ _ _ us hl => match us, hl with | [_, _], _ => rfl) rfl rfl (fun f cdv A outer s H E C ds hr tk po hrx hc0 hd => by
    match ds, hd with
    | [d_one, d_other], _ => exact ⟨b__law_like (m__law_like j) d_one d_other, fun _ => rfl, w__law_like T ih hr tk po hrx hc0⟩) (fun z => nomatch z)
/-! is_tuple_of -/
abbrev sD_is_tuple_of : Stmt := top 7
theorem sc_is_tuple_of : FnScope ["value", "low", "high"] ["value", "low", "high"] (defScope sD_is_tuple_of) := ⟨rfl, rfl, rfl, by decide +kernel, rfl, by decide +kernel, by decide +kernel⟩
theorem w_is_tuple_of (T : Top K mg) {d_value : PyData} {d_low : PyData} {d_high : PyData} {f : Addr} {cdv : Value} {A : Around} {outer : List Env} {s : Shared} {H : Hp} {E : XK} {C : Ct} (hr : Room 0 (A.deeper (envOfC "is_tuple_of" (defScope sD_is_tuple_of) s.heap.objs.size f cdv))) (tk : Takes (cxD P w K mg base ["value", "low", "high"] "is_tuple_of" (defScope sD_is_tuple_of) f cdv A outer s H E) C.W) (po : PassesOwn (model P w) (cxD P w K mg base ["value", "low", "high"] "is_tuple_of" (defScope sD_is_tuple_of) f cdv A outer s H E).A (cxD P w K mg base ["value", "low", "high"] "is_tuple_of" (defScope sD_is_tuple_of) f cdv A outer s H E).env (cxD P w K mg base ["value", "low", "high"] "is_tuple_of" (defScope sD_is_tuple_of) f cdv A outer s H E).xe) (hrx : C.rx = []) (hc0 : C.c.isSome = false) :
    FB (cxD P w K mg base ["value", "low", "high"] "is_tuple_of" (defScope sD_is_tuple_of) f cdv A outer s H E) C (slots0 false [d_value, d_low, d_high] 0) (fun _ : Unit => []) (fun b : Empty => nomatch b) false (defBody sD_is_tuple_of) (b_is_tuple_of d_value d_low d_high) := by
  have S := sc_is_tuple_of
  unfold b_is_tuple_of
  exact (fb_ret (fe_and (fe_isinst "tuple" (.inr (.inr (.inr (.inl rfl)))) T.z_isinstance T.z_tuple (by decide +kernel) (fe_name 0)) (fe_one (fe_chain op_le op_le (pcmp_ok _ _) (pcmp_ok _ _) (fe_name 1) (fe_len T.z_len (fe_name 0)) (fe_name 2)))))
theorem ok_is_tuple_of (T : Top K mg) : Pr P w K mg base 1 "is_tuple_of" ["value", "low", "high"] (spD K mg false false 3 (ap3 m_is_tuple_of)) := by
  have S := sc_is_tuple_of
  exact pr_d (un := 0) T.d_is_tuple_of S (fun _ _ _ _ _ _ us hl => match us, hl with | [_, _, _], _ => rfl) rfl rfl (fun f cdv A outer s H E C ds hr tk po hrx hc0 hd => by
    match ds, hd with
    | [d_value, d_low, d_high], _ => exact ⟨b_is_tuple_of d_value d_low d_high, fun _ => rfl, w_is_tuple_of T hr tk po hrx hc0⟩) (fun z => nomatch z)
/-! is_integer -/
abbrev sD_is_integer : Stmt := top 5
theorem sc_is_integer : FnScope ["value"] ["value"] (defScope sD_is_integer) := ⟨rfl, rfl, rfl, by decide +kernel, rfl, by decide +kernel, by decide +kernel⟩
theorem w_is_integer (T : Top K mg) {d_value : PyData} {f : Addr} {cdv : Value} {A : Around} {outer : List Env} {s : Shared} {H : Hp} {E : XK} {C : Ct} (hr : Room 0 (A.deeper (envOfC "is_integer" (defScope sD_is_integer) s.heap.objs.size f cdv))) (tk : Takes (cxD P w K mg base ["value"] "is_integer" (defScope sD_is_integer) f cdv A outer s H E) C.W) (po : PassesOwn (model P w) (cxD P w K mg base ["value"] "is_integer" (defScope sD_is_integer) f cdv A outer s H E).A (cxD P w K mg base ["value"] "is_integer" (defScope sD_is_integer) f cdv A outer s H E).env (cxD P w K mg base ["value"] "is_integer" (defScope sD_is_integer) f cdv A outer s H E).xe) (hrx : C.rx = []) (hc0 : C.c.isSome = false) :
    FB (cxD P w K mg base ["value"] "is_integer" (defScope sD_is_integer) f cdv A outer s H E) C (slots0 false [d_value] 0) (fun _ : Unit => []) (fun b : Empty => nomatch b) false (defBody sD_is_integer) (b_is_integer d_value) := by
  have S := sc_is_integer
  unfold b_is_integer
  exact (fb_ret (fe_and (fe_isinst "int" (.inl rfl) T.z_isinstance T.z_int (by decide +kernel) (fe_name 0)) (fe_one (fe_not (fe_isinst "bool" (.inr (.inl rfl)) T.z_isinstance T.z_bool (by decide +kernel) (fe_name 0))))))
theorem ok_is_integer (T : Top K mg) : Pr P w K mg base 1 "is_integer" ["value"] (spD K mg false false 1 (ap1 m_is_integer)) := by
  have S := sc_is_integer
  exact pr_d (un := 0) T.d_is_integer S (fun _ _ _ _ _ _ us hl => match us, hl with | [_], _ => rfl) rfl rfl (fun f cdv A outer s H E C ds hr tk po hrx hc0 hd => by
    match ds, hd with
    | [d_value], _ => exact ⟨b_is_integer d_value, fun _ => rfl, w_is_integer T hr tk po hrx hc0⟩) (fun z => nomatch z)
/-! is_whole -/
abbrev sD_is_whole : Stmt := top 6
theorem sc_is_whole : FnScope ["value", "low", "high"] ["value", "low", "high"] (defScope sD_is_whole) := ⟨rfl, rfl, rfl, by decide +kernel, rfl, by decide +kernel, by decide +kernel⟩
theorem w_is_whole (T : Top K mg) {d_value : PyData} {d_low : PyData} {d_high : PyData} {f : Addr} {cdv : Value} {A : Around} {outer : List Env} {s : Shared} {H : Hp} {E : XK} {C : Ct} (hr : Room 1 (A.deeper (envOfC "is_whole" (defScope sD_is_whole) s.heap.objs.size f cdv))) (tk : Takes (cxD P w K mg base ["value", "low", "high"] "is_whole" (defScope sD_is_whole) f cdv A outer s H E) C.W) (po : PassesOwn (model P w) (cxD P w K mg base ["value", "low", "high"] "is_whole" (defScope sD_is_whole) f cdv A outer s H E).A (cxD P w K mg base ["value", "low", "high"] "is_whole" (defScope sD_is_whole) f cdv A outer s H E).env (cxD P w K mg base ["value", "low", "high"] "is_whole" (defScope sD_is_whole) f cdv A outer s H E).xe) (hrx : C.rx = []) (hc0 : C.c.isSome = false) :
    FB (cxD P w K mg base ["value", "low", "high"] "is_whole" (defScope sD_is_whole) f cdv A outer s H E) C (slots0 false [d_value, d_low, d_high] 0) (fun _ : Unit => []) (fun b : Empty => nomatch b) false (defBody sD_is_whole) (b_is_whole d_value d_low d_high) := by
  have S := sc_is_whole
  unfold b_is_whole
  exact (fb_ret (fe_and (fe_callP (ok_is_integer T) (hr.mono (by decide)) tk (wk0 hrx) (fa_cons (fe_name 0) fa_nil)) (fe_one (fe_chain op_le op_le (pcmp_ok _ _) (pcmp_ok _ _) (fe_name 1) (fe_name 0) (fe_name 2)))))
theorem ok_is_whole (T : Top K mg) : Pr P w K mg base 2 "is_whole" ["value", "low", "high"] (spD K mg false false 3 (ap3 m_is_whole)) := by
  have S := sc_is_whole
  exact pr_d (un := 0) T.d_is_whole S (fun _ _ _ _ _ _ us hl => match us, hl with | [_, _, _], _ => rfl) rfl rfl (fun f cdv A outer s H E C ds hr tk po hrx hc0 hd => by
    match ds, hd with
    | [d_value, d_low, d_high], _ => exact ⟨b_is_whole d_value d_low d_high, fun _ => rfl, w_is_whole T hr tk po hrx hc0⟩) (fun z => nomatch z)
/-! are_things -/
abbrev sD_are_things : Stmt := top 8
theorem sc_are_things : FnScope ["many", "value", "low", "high", "thing"] ["many", "value", "low", "high"] (defScope sD_are_things) := ⟨rfl, rfl, rfl, by decide +kernel, rfl, by decide +kernel, by decide +kernel⟩
theorem w_are_things (T : Top K mg) {d_many : PyData} {d_value : PyData} {d_low : PyData} {d_high : PyData} {f : Addr} {cdv : Value} {A : Around} {outer : List Env} {s : Shared} {H : Hp} {E : XK} {C : Ct} (hr : Room 2 (A.deeper (envOfC "are_things" (defScope sD_are_things) s.heap.objs.size f cdv))) (tk : Takes (cxD P w K mg base ["many", "value", "low", "high", "thing"] "are_things" (defScope sD_are_things) f cdv A outer s H E) C.W) (po : PassesOwn (model P w) (cxD P w K mg base ["many", "value", "low", "high", "thing"] "are_things" (defScope sD_are_things) f cdv A outer s H E).A (cxD P w K mg base ["many", "value", "low", "high", "thing"] "are_things" (defScope sD_are_things) f cdv A outer s H E).env (cxD P w K mg base ["many", "value", "low", "high", "thing"] "are_things" (defScope sD_are_things) f cdv A outer s H E).xe) (hrx : C.rx = []) (hc0 : C.c.isSome = false) :
    FB (cxD P w K mg base ["many", "value", "low", "high", "thing"] "are_things" (defScope sD_are_things) f cdv A outer s H E) C (slots0 false [d_many, d_value, d_low, d_high] 1) (fun _ : Unit => []) (fun b : Empty => nomatch b) false (defBody sD_are_things) (b_are_things d_many d_value d_low d_high) := by
  have S := sc_are_things
  unfold b_are_things
  exact (fb_ret (fe_and (fe_callP (ok_is_tuple_of T) (hr.mono (by decide)) tk (wk0 hrx) (fa_cons (fe_name 1) (fa_cons (fe_name 2) (fa_cons (fe_name 3) fa_nil)))) (fe_one (fe_all rfl T.z_all (fe_of (fo_lc (own := [("thing", 4)]) rfl S.nd (fi_any (fe_name 1)) (blkOk_by (by first | rfl | with_unfolding_all rfl)) (fun s0 H0 Ca cl fp => fg_name 4 S.nd) (fun t1 s0 H0 Ca cl fp => fts_nil) (fun t1 s0 H0 Ca cl fp => (fe_callP (ok_is_whole T) (hr.mono (by decide)) takes0 .nil (fa_cons (fe_name 4) (fa_cons fe_int (fa_cons (fe_op op_sub (psub_ok _) (fe_name 0) fe_int) fa_nil)))))))))))
theorem ok_are_things (T : Top K mg) : Pr P w K mg base 3 "are_things" ["many", "value", "low", "high"] (spD K mg false false 4 (ap4 m_are_things)) := by
  have S := sc_are_things
  exact pr_d (un := 1) T.d_are_things S (fun _ _ _ _ _ _ us hl => match us, hl with | [_, _, _, _], _ => rfl) rfl rfl (fun f cdv A outer s H E C ds hr tk po hrx hc0 hd => by
    match ds, hd with
    | [d_many, d_value, d_low, d_high], _ => exact ⟨b_are_things d_many d_value d_low d_high, fun _ => rfl, w_are_things T hr tk po hrx hc0⟩) (fun z => nomatch z)
/-! fits_moving -/
abbrev sD_fits_moving : Stmt := top 12
theorem sc_fits_moving : FnScope ["value", "many", "letter"] ["value"] (defScope sD_fits_moving) := ⟨rfl, rfl, rfl, by decide +kernel, rfl, by decide +kernel, by decide +kernel⟩
theorem w_fits_moving (T : Top K mg) {d_value : PyData} {f : Addr} {cdv : Value} {A : Around} {outer : List Env} {s : Shared} {H : Hp} {E : XK} {C : Ct} (hr : Room 3 (A.deeper (envOfC "fits_moving" (defScope sD_fits_moving) s.heap.objs.size f cdv))) (tk : Takes (cxD P w K mg base ["value", "many", "letter"] "fits_moving" (defScope sD_fits_moving) f cdv A outer s H E) C.W) (po : PassesOwn (model P w) (cxD P w K mg base ["value", "many", "letter"] "fits_moving" (defScope sD_fits_moving) f cdv A outer s H E).A (cxD P w K mg base ["value", "many", "letter"] "fits_moving" (defScope sD_fits_moving) f cdv A outer s H E).env (cxD P w K mg base ["value", "many", "letter"] "fits_moving" (defScope sD_fits_moving) f cdv A outer s H E).xe) (hrx : C.rx = []) (hc0 : C.c.isSome = false) :
    FB (cxD P w K mg base ["value", "many", "letter"] "fits_moving" (defScope sD_fits_moving) f cdv A outer s H E) C (slots0 false [d_value] 2) (fun _ : Unit => []) (fun b : Empty => nomatch b) false (defBody sD_fits_moving) (b_fits_moving d_value) := by
  have S := sc_fits_moving
  unfold b_fits_moving
  exact (fb_ifR (emb0 := fun z : Empty => nomatch z) (FW.ft (fw_or (ft_not (ft_val (fe_callP (ok_is_tuple_of T) (hr.mono (by decide)) tk (wk0 hrx) (fa_cons (fe_name 0) (fa_cons fe_int (fa_cons (fe_globF T.g_MOST) fa_nil)))))) (fw_or1 (ft_not (ft_val (fe_all rfl T.z_all (fe_of (fo_lc (own := [("letter", 2)]) rfl S.nd (fi_any (fe_name 0)) (blkOk_by (by first | rfl | with_unfolding_all rfl)) (fun s0 H0 Ca cl fp => fg_name 2 S.nd) (fun t1 s0 H0 Ca cl fp => fts_nil) (fun t1 s0 H0 Ca cl fp => (fe_callP (ok_is_tuple_of T) (hr.mono (by decide)) takes0 .nil (fa_cons (fe_name 2) (fa_cons fe_int (fa_cons (fe_globF T.g_MOST) fa_nil))))))))))))) (fb_ret fe_bl) (fb_set 1 S.nd (fe_len T.z_len (fe_idx (hu64 hr) (fe_name 0) fe_int)) fun x2 => (fb_ret (fe_all rfl T.z_all (fe_of (fo_lc (own := [("letter", 2)]) rfl S.nd (fi_any (fe_name 0)) (blkOk_by (by first | rfl | with_unfolding_all rfl)) (fun s0 H0 Ca cl fp => fg_name 2 S.nd) (fun t3 s0 H0 Ca cl fp => fts_nil) (fun t3 s0 H0 Ca cl fp => (fe_callP (ok_are_things T) (hr.mono (by decide)) takes0 .nil (fa_cons (fe_name 1) (fa_cons (fe_name 2) (fa_cons (fe_name 1) (fa_cons (fe_name 1) fa_nil))))))))))))
theorem ok_fits_moving (T : Top K mg) : Pr P w K mg base 4 "fits_moving" ["value"] (spD K mg false false 1 (ap1 m_fits_moving)) := by
  have S := sc_fits_moving
  exact pr_d (un := 2) T.d_fits_moving S (fun _ _ _ _ _ _ us hl => match us, hl with | [_], _ => rfl) rfl rfl (fun f cdv A outer s H E C ds hr tk po hrx hc0 hd => by
    match ds, hd with
    | [d_value], _ => exact ⟨b_fits_moving d_value, fun _ => rfl, w_fits_moving T hr tk po hrx hc0⟩) (fun z => nomatch z)
/-! need_moving -/
abbrev sD_need_moving : Stmt := top 13
theorem sc_need_moving : FnScope ["value"] ["value"] (defScope sD_need_moving) := ⟨rfl, rfl, rfl, by decide +kernel, rfl, by decide +kernel, by decide +kernel⟩
theorem w_need_moving (T : Top K mg) {d_value : PyData} {f : Addr} {cdv : Value} {A : Around} {outer : List Env} {s : Shared} {H : Hp} {E : XK} {C : Ct} (hr : Room 4 (A.deeper (envOfC "need_moving" (defScope sD_need_moving) s.heap.objs.size f cdv))) (tk : Takes (cxD P w K mg base ["value"] "need_moving" (defScope sD_need_moving) f cdv A outer s H E) C.W) (po : PassesOwn (model P w) (cxD P w K mg base ["value"] "need_moving" (defScope sD_need_moving) f cdv A outer s H E).A (cxD P w K mg base ["value"] "need_moving" (defScope sD_need_moving) f cdv A outer s H E).env (cxD P w K mg base ["value"] "need_moving" (defScope sD_need_moving) f cdv A outer s H E).xe) (hrx : C.rx = []) (hc0 : C.c.isSome = false) :
    FB (cxD P w K mg base ["value"] "need_moving" (defScope sD_need_moving) f cdv A outer s H E) C (slots0 false [d_value] 0) (fun _ : Unit => []) (fun b : Empty => nomatch b) false (defBody sD_need_moving) (b_need_moving d_value) := by
  have S := sc_need_moving
  unfold b_need_moving
  exact (fb_ifR (emb0 := fun z : Empty => nomatch z) (ft_not (ft_val (fe_callP (ok_fits_moving T) (hr.mono (by decide)) tk (wk0 hrx) (fa_cons (fe_name 0) fa_nil)))) fb_stuck (fb_nil () .nil))
theorem ok_need_moving (T : Top K mg) : Pr P w K mg base 5 "need_moving" ["value"] (spD K mg false false 1 (ap1 m_need_moving)) := by
  have S := sc_need_moving
  exact pr_d (un := 0) T.d_need_moving S (fun _ _ _ _ _ _ us hl => match us, hl with | [_], _ => rfl) rfl rfl (fun f cdv A outer s H E C ds hr tk po hrx hc0 hd => by
    match ds, hd with
    | [d_value], _ => exact ⟨b_need_moving d_value, fun _ => rfl, w_need_moving T hr tk po hrx hc0⟩) (fun z => nomatch z)
/-! lot_by -/
abbrev sD_lot_by : Stmt := top 20
theorem sc_lot_by : FnScope ["letter", "lot", "spot"] ["letter", "lot"] (defScope sD_lot_by) := ⟨rfl, rfl, rfl, by decide +kernel, rfl, by decide +kernel, by decide +kernel⟩
theorem w_lot_by (T : Top K mg) {d_letter : PyData} {d_lot : PyData} {f : Addr} {cdv : Value} {A : Around} {outer : List Env} {s : Shared} {H : Hp} {E : XK} {C : Ct} (hr : Room 0 (A.deeper (envOfC "lot_by" (defScope sD_lot_by) s.heap.objs.size f cdv))) (tk : Takes (cxD P w K mg base ["letter", "lot", "spot"] "lot_by" (defScope sD_lot_by) f cdv A outer s H E) C.W) (po : PassesOwn (model P w) (cxD P w K mg base ["letter", "lot", "spot"] "lot_by" (defScope sD_lot_by) f cdv A outer s H E).A (cxD P w K mg base ["letter", "lot", "spot"] "lot_by" (defScope sD_lot_by) f cdv A outer s H E).env (cxD P w K mg base ["letter", "lot", "spot"] "lot_by" (defScope sD_lot_by) f cdv A outer s H E).xe) (hrx : C.rx = []) (hc0 : C.c.isSome = false) :
    FB (cxD P w K mg base ["letter", "lot", "spot"] "lot_by" (defScope sD_lot_by) f cdv A outer s H E) C (slots0 false [d_letter, d_lot] 1) (fun _ : Unit => []) (fun b : Empty => nomatch b) false (defBody sD_lot_by) (b_lot_by d_letter d_lot) := by
  have S := sc_lot_by
  unfold b_lot_by
  exact (fb_ret (fe_tuple T.z_tuple (fe_of (fo_sortSet rfl (hu200 hr) T.z_sorted T.z_set (fe_of (fo_lc (own := [("spot", 2)]) rfl S.nd (fi_any (fe_name 1)) (blkOk_by (by first | rfl | with_unfolding_all rfl)) (fun s0 H0 Ca cl fp => fg_name 2 S.nd) (fun t1 s0 H0 Ca cl fp => fts_nil) (fun t1 s0 H0 Ca cl fp => (fe_idx (hu64 hr) (fe_name 0) (fe_name 2)))))))))
theorem ok_lot_by (T : Top K mg) : Pr P w K mg base 1 "lot_by" ["letter", "lot"] (spD K mg false false 2 (ap2 m_lot_by)) := by
  have S := sc_lot_by
  exact pr_d (un := 1) T.d_lot_by S (fun _ _ _ _ _ _ us hl => match us, hl with | [_, _], _ => rfl) rfl rfl (fun f cdv A outer s H E C ds hr tk po hrx hc0 hd => by
    match ds, hd with
    | [d_letter, d_lot], _ => exact ⟨b_lot_by d_letter d_lot, fun _ => rfl, w_lot_by T hr tk po hrx hc0⟩) (fun z => nomatch z)
/-! words_from -/
abbrev sD_words_from : Stmt := top 21
theorem sc_words_from : FnScope ["moving", "lot", "found", "line", "here", "number", "letter", "later"] ["moving", "lot"] (defScope sD_words_from) := ⟨rfl, rfl, rfl, by decide +kernel, rfl, by decide +kernel, by decide +kernel⟩
theorem w_words_from (T : Top K mg) {d_moving : PyData} {d_lot : PyData} {f : Addr} {cdv : Value} {A : Around} {outer : List Env} {s : Shared} {H : Hp} {E : XK} {C : Ct} (hr : Room 1 (A.deeper (envOfC "words_from" (defScope sD_words_from) s.heap.objs.size f cdv))) (tk : Takes (cxD P w K mg base ["moving", "lot", "found", "line", "here", "number", "letter", "later"] "words_from" (defScope sD_words_from) f cdv A outer s H E) C.W) (po : PassesOwn (model P w) (cxD P w K mg base ["moving", "lot", "found", "line", "here", "number", "letter", "later"] "words_from" (defScope sD_words_from) f cdv A outer s H E).A (cxD P w K mg base ["moving", "lot", "found", "line", "here", "number", "letter", "later"] "words_from" (defScope sD_words_from) f cdv A outer s H E).env (cxD P w K mg base ["moving", "lot", "found", "line", "here", "number", "letter", "later"] "words_from" (defScope sD_words_from) f cdv A outer s H E).xe) (hrx : C.rx = []) (hc0 : C.c.isSome = false) :
    FB (cxD P w K mg base ["moving", "lot", "found", "line", "here", "number", "letter", "later"] "words_from" (defScope sD_words_from) f cdv A outer s H E) C (slots0 false [d_moving, d_lot] 6) (fun _ : Unit => []) (fun b : Empty => nomatch b) false (defBody sD_words_from) (b_words_from d_moving d_lot) := by
  have S := sc_words_from
  unfold b_words_from
  exact (fb_par 2 3 rfl S.nd (by decide) (fv_dT1 (hu64 hr) (fe_name 1) (fe_tup fa_nil (by show 0 ≤ sizeLine; decide))) (fv_o (fo_lst (fa_cons (fe_name 1) fa_nil) (by show 1 ≤ sizeLine; decide))) fun x1 x2 => (fb_while (e0 := fun t3 : List (PyData × PyData) × List PyData => [.d d_moving, .d d_lot, .odT t3.1, .own t3.2, .un, .un, .un, .un]) (x1, x2) po (.keep (.keep (.keep (.keep (.drop (.drop (.drop (.drop .nil)))))))) (fun t3 => (ft_peek fun F0 E0 => (ft_cmp (op_neP (hu64 hr)) (pne_ok _) (nomark _) (fe_name 3) (fe_of (fo_lst fa_nil (by show 0 ≤ sizeLine; decide)))))) (fun t3 => (fb_par 4 3 rfl S.nd (by decide) (fv_d (fe_oidx 3 fe_int)) (fv_o (fo_oslice 3 (fp_some fe_int) fp_none)) fun x5 x6 => (fb_for (e0 := fun t7 : List (PyData × PyData) × List PyData => [.d d_moving, .d d_lot, .odT t7.1, .own t7.2, .d x5, .un, .un, .un]) (t3.1, x6) po rfl (fi_enum T.z_enumerate (fe_name 0)) (fg_tup2' K rfl 5 6 rfl S.nd) (.keep (.keep (.keep (.keep (.keep (.drop (.drop (.drop .nil)))))))) (fun x8 t7 => (fb_set 7 S.nd (fe_callP (ok_lot_by T) (hr.mono (by decide)) tk (wk0 hrx) (fa_cons (fe_name 6) (fa_cons (fe_name 4) fa_nil))) fun x9 => (fb_if (emb' := fun t10 : List (PyData × PyData) × List PyData => [.d d_moving, .d d_lot, .odT t10.1, .own t10.2, .d x5, .d x8.1, .d x8.2, .d x9]) (FC.ft (fc_dninT 2 (hu64 hr) (fe_name 7)) (by with_unfolding_all rfl)) (fb_dputT 2 (hu64 hr) (fe_op op_addAll (padd_ok _) (fe_dgetT 2 (hu64 hr) (fe_name 4)) (fe_tup (fa_cons (fe_name 5) fa_nil) (by show 1 ≤ sizeLine; decide))) (fe_name 7) fun x11 x12 => (fb_append 3 (fe_name 7) fun x13 => (fb_nil ((dPut t7.1 x11 x12), (t7.2 ++ [x13])) (.keep (.keep (.keep (.keep (.keep (.keep (.keep (.keep .nil))))))))))) (fb_nil (t7.1, t7.2) (.keep (.keep (.keep (.keep (.keep (.keep (.keep (.keep .nil))))))))) fun t10 => (fb_nil (t10.1, t10.2) (.keep (.keep (.keep (.keep (.keep (.drop (.drop (.drop .nil)))))))))))) fun t7 => (fb_nil (t7.1, t7.2) (.keep (.keep (.keep (.keep (.drop (.drop (.drop (.drop .nil)))))))))))) fun t3 => (fb_frzT 2 (fb_ret (fe_name 2)))))
theorem ok_words_from (T : Top K mg) : Pr P w K mg base 2 "words_from" ["moving", "lot"] (spD K mg false false 2 (ap2 m_words_from)) := by
  have S := sc_words_from
  exact pr_d (un := 6) T.d_words_from S (fun _ _ _ _ _ _ us hl => match us, hl with | [_, _], _ => rfl) rfl rfl (fun f cdv A outer s H E C ds hr tk po hrx hc0 hd => by
    match ds, hd with
    | [d_moving, d_lot], _ => exact ⟨b_words_from d_moving d_lot, fun _ => rfl, w_words_from T hr tk po hrx hc0⟩) (fun z => nomatch z)
/-! all_spots -/
abbrev sD_all_spots : Stmt := top 22
theorem sc_all_spots : FnScope ["moving"] ["moving"] (defScope sD_all_spots) := ⟨rfl, rfl, rfl, by decide +kernel, rfl, by decide +kernel, by decide +kernel⟩
theorem w_all_spots (T : Top K mg) {d_moving : PyData} {f : Addr} {cdv : Value} {A : Around} {outer : List Env} {s : Shared} {H : Hp} {E : XK} {C : Ct} (hr : Room 0 (A.deeper (envOfC "all_spots" (defScope sD_all_spots) s.heap.objs.size f cdv))) (tk : Takes (cxD P w K mg base ["moving"] "all_spots" (defScope sD_all_spots) f cdv A outer s H E) C.W) (po : PassesOwn (model P w) (cxD P w K mg base ["moving"] "all_spots" (defScope sD_all_spots) f cdv A outer s H E).A (cxD P w K mg base ["moving"] "all_spots" (defScope sD_all_spots) f cdv A outer s H E).env (cxD P w K mg base ["moving"] "all_spots" (defScope sD_all_spots) f cdv A outer s H E).xe) (hrx : C.rx = []) (hc0 : C.c.isSome = false) :
    FB (cxD P w K mg base ["moving"] "all_spots" (defScope sD_all_spots) f cdv A outer s H E) C (slots0 false [d_moving] 0) (fun _ : Unit => []) (fun b : Empty => nomatch b) false (defBody sD_all_spots) (b_all_spots d_moving) := by
  have S := sc_all_spots
  unfold b_all_spots
  exact (fb_ret (fe_tupRg rfl T.z_tuple T.z_range (fe_len T.z_len (fe_idx (hu64 hr) (fe_name 0) fe_int))))
theorem ok_all_spots (T : Top K mg) : Pr P w K mg base 1 "all_spots" ["moving"] (spD K mg false false 1 (ap1 m_all_spots)) := by
  have S := sc_all_spots
  exact pr_d (un := 0) T.d_all_spots S (fun _ _ _ _ _ _ us hl => match us, hl with | [_], _ => rfl) rfl rfl (fun f cdv A outer s H E C ds hr tk po hrx hc0 hd => by
    match ds, hd with
    | [d_moving], _ => exact ⟨b_all_spots d_moving, fun _ => rfl, w_all_spots T hr tk po hrx hc0⟩) (fun z => nomatch z)
/-! word_to_size -/
abbrev sD_word_to_size : Stmt := top 23
theorem sc_word_to_size : FnScope ["moving", "size", "able", "lot", "word"] ["moving", "size"] (defScope sD_word_to_size) := ⟨rfl, rfl, rfl, by decide +kernel, rfl, by decide +kernel, by decide +kernel⟩
theorem w_word_to_size (T : Top K mg) {d_moving : PyData} {d_size : PyData} {f : Addr} {cdv : Value} {A : Around} {outer : List Env} {s : Shared} {H : Hp} {E : XK} {C : Ct} (hr : Room 2 (A.deeper (envOfC "word_to_size" (defScope sD_word_to_size) s.heap.objs.size f cdv))) (tk : Takes (cxD P w K mg base ["moving", "size", "able", "lot", "word"] "word_to_size" (defScope sD_word_to_size) f cdv A outer s H E) C.W) (po : PassesOwn (model P w) (cxD P w K mg base ["moving", "size", "able", "lot", "word"] "word_to_size" (defScope sD_word_to_size) f cdv A outer s H E).A (cxD P w K mg base ["moving", "size", "able", "lot", "word"] "word_to_size" (defScope sD_word_to_size) f cdv A outer s H E).env (cxD P w K mg base ["moving", "size", "able", "lot", "word"] "word_to_size" (defScope sD_word_to_size) f cdv A outer s H E).xe) (hrx : C.rx = []) (hc0 : C.c.isSome = false) :
    FB (cxD P w K mg base ["moving", "size", "able", "lot", "word"] "word_to_size" (defScope sD_word_to_size) f cdv A outer s H E) C (slots0 false [d_moving, d_size] 3) (fun _ : Unit => []) (fun b : Empty => nomatch b) false (defBody sD_word_to_size) (b_word_to_size d_moving d_size) := by
  have S := sc_word_to_size
  unfold b_word_to_size
  exact (fb_setLc 2 (own := [("lot", 3), ("word", 4)]) rfl S.nd (fi_items (fe_callP (ok_words_from T) (hr.mono (by decide)) tk (wk0 hrx) (fa_cons (fe_name 0) (fa_cons (fe_callP (ok_all_spots T) (hr.mono (by decide)) tk (wk0 hrx) (fa_cons (fe_name 0) fa_nil)) fa_nil)))) (blkOk_by (by first | rfl | with_unfolding_all rfl)) (fun s0 H0 Ca cl fp => fg_tup2' K rfl 3 4 rfl S.nd) (fun t1 s0 H0 Ca cl fp => (fts_one (ft_cmp (op_eqP (hu64 hr)) (peq_ok _) (nomark _) (fe_len T.z_len (fe_name 3)) (fe_name 1)))) (fun t1 s0 H0 Ca cl fp => (fe_tup (fa_cons (fe_len T.z_len (fe_name 4)) (fa_cons (fe_name 4) fa_nil)) (by show 2 ≤ sizeLine; decide))) fun xs2 => (fb_frz 2 (fb_ret (fe_ifExp (ft_cmp (op_neP (hu64 hr)) (pne_ok _) (nomark _) (fe_name 2) (fe_of (fo_lst fa_nil (by show 0 ≤ sizeLine; decide)))) (fe_idx (hu64 hr) (fe_min1 rfl (hu200 hr) T.z_min (fe_name 2)) fe_int) fe_non))))
theorem ok_word_to_size (T : Top K mg) : Pr P w K mg base 3 "word_to_size" ["moving", "size"] (spD K mg false false 2 (ap2 m_word_to_size)) := by
  have S := sc_word_to_size
  exact pr_d (un := 3) T.d_word_to_size S (fun _ _ _ _ _ _ us hl => match us, hl with | [_, _], _ => rfl) rfl rfl (fun f cdv A outer s H E C ds hr tk po hrx hc0 hd => by
    match ds, hd with
    | [d_moving, d_size], _ => exact ⟨b_word_to_size d_moving d_size, fun _ => rfl, w_word_to_size T hr tk po hrx hc0⟩) (fun z => nomatch z)
/-! fewest_to_one -/
abbrev sD_fewest_to_one : Stmt := top 28
theorem sc_fewest_to_one : FnScope ["moving", "found"] ["moving"] (defScope sD_fewest_to_one) := ⟨rfl, rfl, rfl, by decide +kernel, rfl, by decide +kernel, by decide +kernel⟩
theorem w_fewest_to_one (T : Top K mg) {d_moving : PyData} {f : Addr} {cdv : Value} {A : Around} {outer : List Env} {s : Shared} {H : Hp} {E : XK} {C : Ct} (hr : Room 5 (A.deeper (envOfC "fewest_to_one" (defScope sD_fewest_to_one) s.heap.objs.size f cdv))) (tk : Takes (cxD P w K mg base ["moving", "found"] "fewest_to_one" (defScope sD_fewest_to_one) f cdv A outer s H E) C.W) (po : PassesOwn (model P w) (cxD P w K mg base ["moving", "found"] "fewest_to_one" (defScope sD_fewest_to_one) f cdv A outer s H E).A (cxD P w K mg base ["moving", "found"] "fewest_to_one" (defScope sD_fewest_to_one) f cdv A outer s H E).env (cxD P w K mg base ["moving", "found"] "fewest_to_one" (defScope sD_fewest_to_one) f cdv A outer s H E).xe) (hrx : C.rx = []) (hc0 : C.c.isSome = false) :
    FB (cxD P w K mg base ["moving", "found"] "fewest_to_one" (defScope sD_fewest_to_one) f cdv A outer s H E) C (slots0 false [d_moving] 1) (fun _ : Unit => []) (fun b : Empty => nomatch b) false (defBody sD_fewest_to_one) (b_fewest_to_one d_moving) := by
  have S := sc_fewest_to_one
  unfold b_fewest_to_one
  exact (fb_expr (fe_callP (ok_need_moving T) (hr.mono (by decide)) tk (wk0 hrx) (fa_cons (fe_name 0) fa_nil)) fun _u2 => (fb_set 1 S.nd (fe_callP (ok_word_to_size T) (hr.mono (by decide)) tk (wk0 hrx) (fa_cons (fe_name 0) (fa_cons fe_int fa_nil))) fun x1 => (fb_ret (fe_ifExp (ft_cmp op_notN (pnotN_ok _) (nomark _) (fe_name 1) fe_non) (fe_len T.z_len (fe_name 1)) fe_non))))
theorem ok_fewest_to_one (T : Top K mg) : Pr P w K mg base 6 "fewest_to_one" ["moving"] (spD K mg false false 1 (ap1 m_fewest_to_one)) := by
  have S := sc_fewest_to_one
  exact pr_d (un := 1) T.d_fewest_to_one S (fun _ _ _ _ _ _ us hl => match us, hl with | [_], _ => rfl) rfl rfl (fun f cdv A outer s H E C ds hr tk po hrx hc0 hd => by
    match ds, hd with
    | [d_moving], _ => exact ⟨b_fewest_to_one d_moving, fun _ => rfl, w_fewest_to_one T hr tk po hrx hc0⟩) (fun z => nomatch z)
/-! word_to_one -/
abbrev sD_word_to_one : Stmt := top 27
theorem sc_word_to_one : FnScope ["moving"] ["moving"] (defScope sD_word_to_one) := ⟨rfl, rfl, rfl, by decide +kernel, rfl, by decide +kernel, by decide +kernel⟩
theorem w_word_to_one (T : Top K mg) {d_moving : PyData} {f : Addr} {cdv : Value} {A : Around} {outer : List Env} {s : Shared} {H : Hp} {E : XK} {C : Ct} (hr : Room 5 (A.deeper (envOfC "word_to_one" (defScope sD_word_to_one) s.heap.objs.size f cdv))) (tk : Takes (cxD P w K mg base ["moving"] "word_to_one" (defScope sD_word_to_one) f cdv A outer s H E) C.W) (po : PassesOwn (model P w) (cxD P w K mg base ["moving"] "word_to_one" (defScope sD_word_to_one) f cdv A outer s H E).A (cxD P w K mg base ["moving"] "word_to_one" (defScope sD_word_to_one) f cdv A outer s H E).env (cxD P w K mg base ["moving"] "word_to_one" (defScope sD_word_to_one) f cdv A outer s H E).xe) (hrx : C.rx = []) (hc0 : C.c.isSome = false) :
    FB (cxD P w K mg base ["moving"] "word_to_one" (defScope sD_word_to_one) f cdv A outer s H E) C (slots0 false [d_moving] 0) (fun _ : Unit => []) (fun b : Empty => nomatch b) false (defBody sD_word_to_one) (b_word_to_one d_moving) := by
  have S := sc_word_to_one
  unfold b_word_to_one
  exact (fb_expr (fe_callP (ok_need_moving T) (hr.mono (by decide)) tk (wk0 hrx) (fa_cons (fe_name 0) fa_nil)) fun _u1 => (fb_ret (fe_callP (ok_word_to_size T) (hr.mono (by decide)) tk (wk0 hrx) (fa_cons (fe_name 0) (fa_cons fe_int fa_nil)))))
theorem ok_word_to_one (T : Top K mg) : Pr P w K mg base 6 "word_to_one" ["moving"] (spD K mg false false 1 (ap1 m_word_to_one)) := by
  have S := sc_word_to_one
  exact pr_d (un := 0) T.d_word_to_one S (fun _ _ _ _ _ _ us hl => match us, hl with | [_], _ => rfl) rfl rfl (fun f cdv A outer s H E C ds hr tk po hrx hc0 hd => by
    match ds, hd with
    | [d_moving], _ => exact ⟨b_word_to_one d_moving, fun _ => rfl, w_word_to_one T hr tk po hrx hc0⟩) (fun z => nomatch z)
/-! fits_letters -/
abbrev sD_fits_letters : Stmt := top 14
theorem sc_fits_letters : FnScope ["moving", "value", "letter"] ["moving", "value"] (defScope sD_fits_letters) := ⟨rfl, rfl, rfl, by decide +kernel, rfl, by decide +kernel, by decide +kernel⟩
theorem w_fits_letters (T : Top K mg) {d_moving : PyData} {d_value : PyData} {f : Addr} {cdv : Value} {A : Around} {outer : List Env} {s : Shared} {H : Hp} {E : XK} {C : Ct} (hr : Room 2 (A.deeper (envOfC "fits_letters" (defScope sD_fits_letters) s.heap.objs.size f cdv))) (tk : Takes (cxD P w K mg base ["moving", "value", "letter"] "fits_letters" (defScope sD_fits_letters) f cdv A outer s H E) C.W) (po : PassesOwn (model P w) (cxD P w K mg base ["moving", "value", "letter"] "fits_letters" (defScope sD_fits_letters) f cdv A outer s H E).A (cxD P w K mg base ["moving", "value", "letter"] "fits_letters" (defScope sD_fits_letters) f cdv A outer s H E).env (cxD P w K mg base ["moving", "value", "letter"] "fits_letters" (defScope sD_fits_letters) f cdv A outer s H E).xe) (hrx : C.rx = []) (hc0 : C.c.isSome = false) :
    FB (cxD P w K mg base ["moving", "value", "letter"] "fits_letters" (defScope sD_fits_letters) f cdv A outer s H E) C (slots0 false [d_moving, d_value] 1) (fun _ : Unit => []) (fun b : Empty => nomatch b) false (defBody sD_fits_letters) (b_fits_letters d_moving d_value) := by
  have S := sc_fits_letters
  unfold b_fits_letters
  exact (fb_ret (fe_and (fe_callP (ok_is_tuple_of T) (hr.mono (by decide)) tk (wk0 hrx) (fa_cons (fe_name 1) (fa_cons fe_int (fa_cons (fe_globF T.g_LONGEST) fa_nil)))) (fe_one (fe_all rfl T.z_all (fe_of (fo_lc (own := [("letter", 2)]) rfl S.nd (fi_any (fe_name 1)) (blkOk_by (by first | rfl | with_unfolding_all rfl)) (fun s0 H0 Ca cl fp => fg_name 2 S.nd) (fun t1 s0 H0 Ca cl fp => fts_nil) (fun t1 s0 H0 Ca cl fp => (fe_callP (ok_is_whole T) (hr.mono (by decide)) takes0 .nil (fa_cons (fe_name 2) (fa_cons fe_int (fa_cons (fe_op op_sub (psub_ok _) (fe_len T.z_len (fe_name 0)) fe_int) fa_nil)))))))))))
theorem ok_fits_letters (T : Top K mg) : Pr P w K mg base 3 "fits_letters" ["moving", "value"] (spD K mg false false 2 (ap2 m_fits_letters)) := by
  have S := sc_fits_letters
  exact pr_d (un := 1) T.d_fits_letters S (fun _ _ _ _ _ _ us hl => match us, hl with | [_, _], _ => rfl) rfl rfl (fun f cdv A outer s H E C ds hr tk po hrx hc0 hd => by
    match ds, hd with
    | [d_moving, d_value], _ => exact ⟨b_fits_letters d_moving d_value, fun _ => rfl, w_fits_letters T hr tk po hrx hc0⟩) (fun z => nomatch z)
/-! led_to -/
abbrev sD_led_to : Stmt := top 16
theorem sc_led_to : FnScope ["moving", "spot", "word", "letter"] ["moving", "spot", "word"] (defScope sD_led_to) := ⟨rfl, rfl, rfl, by decide +kernel, rfl, by decide +kernel, by decide +kernel⟩
theorem w_led_to (T : Top K mg) {d_moving : PyData} {d_spot : PyData} {d_word : PyData} {f : Addr} {cdv : Value} {A : Around} {outer : List Env} {s : Shared} {H : Hp} {E : XK} {C : Ct} (hr : Room 0 (A.deeper (envOfC "led_to" (defScope sD_led_to) s.heap.objs.size f cdv))) (tk : Takes (cxD P w K mg base ["moving", "spot", "word", "letter"] "led_to" (defScope sD_led_to) f cdv A outer s H E) C.W) (po : PassesOwn (model P w) (cxD P w K mg base ["moving", "spot", "word", "letter"] "led_to" (defScope sD_led_to) f cdv A outer s H E).A (cxD P w K mg base ["moving", "spot", "word", "letter"] "led_to" (defScope sD_led_to) f cdv A outer s H E).env (cxD P w K mg base ["moving", "spot", "word", "letter"] "led_to" (defScope sD_led_to) f cdv A outer s H E).xe) (hrx : C.rx = []) (hc0 : C.c.isSome = false) :
    FB (cxD P w K mg base ["moving", "spot", "word", "letter"] "led_to" (defScope sD_led_to) f cdv A outer s H E) C (slots0 false [d_moving, d_spot, d_word] 1) (fun _ : Unit => []) (fun b : Empty => nomatch b) false (defBody sD_led_to) (b_led_to d_moving d_spot d_word) := by
  have S := sc_led_to
  unfold b_led_to
  exact (fb_for (e0 := fun t1 : PyData => [.d d_moving, .d t1, .d d_word, .un]) d_spot po rfl (fi_any (fe_name 2)) (fg_name 3 S.nd) (.keep (.keep (.keep (.drop .nil)))) (fun x2 t1 => (fb_set 1 S.nd (fe_idx (hu64 hr) (fe_idx (hu64 hr) (fe_name 0) (fe_name 3)) (fe_name 1)) fun x3 => (fb_nil x3 (.keep (.keep (.keep (.drop .nil))))))) fun t1 => (fb_ret (fe_name 1)))
theorem ok_led_to (T : Top K mg) : Pr P w K mg base 1 "led_to" ["moving", "spot", "word"] (spD K mg false false 3 (ap3 m_led_to)) := by
  have S := sc_led_to
  exact pr_d (un := 1) T.d_led_to S (fun _ _ _ _ _ _ us hl => match us, hl with | [_, _, _], _ => rfl) rfl rfl (fun f cdv A outer s H E C ds hr tk po hrx hc0 hd => by
    match ds, hd with
    | [d_moving, d_spot, d_word], _ => exact ⟨b_led_to d_moving d_spot d_word, fun _ => rfl, w_led_to T hr tk po hrx hc0⟩) (fun z => nomatch z)
/-! row_by -/
abbrev sD_row_by : Stmt := top 17
theorem sc_row_by : FnScope ["moving", "word", "spot"] ["moving", "word"] (defScope sD_row_by) := ⟨rfl, rfl, rfl, by decide +kernel, rfl, by decide +kernel, by decide +kernel⟩
theorem w_row_by (T : Top K mg) {d_moving : PyData} {d_word : PyData} {f : Addr} {cdv : Value} {A : Around} {outer : List Env} {s : Shared} {H : Hp} {E : XK} {C : Ct} (hr : Room 1 (A.deeper (envOfC "row_by" (defScope sD_row_by) s.heap.objs.size f cdv))) (tk : Takes (cxD P w K mg base ["moving", "word", "spot"] "row_by" (defScope sD_row_by) f cdv A outer s H E) C.W) (po : PassesOwn (model P w) (cxD P w K mg base ["moving", "word", "spot"] "row_by" (defScope sD_row_by) f cdv A outer s H E).A (cxD P w K mg base ["moving", "word", "spot"] "row_by" (defScope sD_row_by) f cdv A outer s H E).env (cxD P w K mg base ["moving", "word", "spot"] "row_by" (defScope sD_row_by) f cdv A outer s H E).xe) (hrx : C.rx = []) (hc0 : C.c.isSome = false) :
    FB (cxD P w K mg base ["moving", "word", "spot"] "row_by" (defScope sD_row_by) f cdv A outer s H E) C (slots0 false [d_moving, d_word] 1) (fun _ : Unit => []) (fun b : Empty => nomatch b) false (defBody sD_row_by) (b_row_by d_moving d_word) := by
  have S := sc_row_by
  unfold b_row_by
  exact (fb_ret (fe_tuple T.z_tuple (fe_of (fo_lc (own := [("spot", 2)]) rfl S.nd (fi_range1 T.z_range (fe_len T.z_len (fe_idx (hu64 hr) (fe_name 0) fe_int))) (blkOk_by (by first | rfl | with_unfolding_all rfl)) (fun s0 H0 Ca cl fp => fg_name 2 S.nd) (fun t1 s0 H0 Ca cl fp => fts_nil) (fun t1 s0 H0 Ca cl fp => (fe_callP (ok_led_to T) (hr.mono (by decide)) takes0 .nil (fa_cons (fe_name 0) (fa_cons (fe_name 2) (fa_cons (fe_name 1) fa_nil)))))))))
theorem ok_row_by (T : Top K mg) : Pr P w K mg base 2 "row_by" ["moving", "word"] (spD K mg false false 2 (ap2 m_row_by)) := by
  have S := sc_row_by
  exact pr_d (un := 1) T.d_row_by S (fun _ _ _ _ _ _ us hl => match us, hl with | [_, _], _ => rfl) rfl rfl (fun f cdv A outer s H E C ds hr tk po hrx hc0 hd => by
    match ds, hd with
    | [d_moving, d_word], _ => exact ⟨b_row_by d_moving d_word, fun _ => rfl, w_row_by T hr tk po hrx hc0⟩) (fun z => nomatch z)
/-! is_word_to_one -/
abbrev sD_is_word_to_one : Stmt := top 29
theorem sc_is_word_to_one : FnScope ["moving", "value"] ["moving", "value"] (defScope sD_is_word_to_one) := ⟨rfl, rfl, rfl, by decide +kernel, rfl, by decide +kernel, by decide +kernel⟩
theorem w_is_word_to_one (T : Top K mg) {d_moving : PyData} {d_value : PyData} {f : Addr} {cdv : Value} {A : Around} {outer : List Env} {s : Shared} {H : Hp} {E : XK} {C : Ct} (hr : Room 5 (A.deeper (envOfC "is_word_to_one" (defScope sD_is_word_to_one) s.heap.objs.size f cdv))) (tk : Takes (cxD P w K mg base ["moving", "value"] "is_word_to_one" (defScope sD_is_word_to_one) f cdv A outer s H E) C.W) (po : PassesOwn (model P w) (cxD P w K mg base ["moving", "value"] "is_word_to_one" (defScope sD_is_word_to_one) f cdv A outer s H E).A (cxD P w K mg base ["moving", "value"] "is_word_to_one" (defScope sD_is_word_to_one) f cdv A outer s H E).env (cxD P w K mg base ["moving", "value"] "is_word_to_one" (defScope sD_is_word_to_one) f cdv A outer s H E).xe) (hrx : C.rx = []) (hc0 : C.c.isSome = false) :
    FB (cxD P w K mg base ["moving", "value"] "is_word_to_one" (defScope sD_is_word_to_one) f cdv A outer s H E) C (slots0 false [d_moving, d_value] 0) (fun _ : Unit => []) (fun b : Empty => nomatch b) false (defBody sD_is_word_to_one) (b_is_word_to_one d_moving d_value) := by
  have S := sc_is_word_to_one
  unfold b_is_word_to_one
  exact (fb_expr (fe_callP (ok_need_moving T) (hr.mono (by decide)) tk (wk0 hrx) (fa_cons (fe_name 0) fa_nil)) fun _u1 => (fb_ret (fe_and (fe_callP (ok_fits_letters T) (hr.mono (by decide)) tk (wk0 hrx) (fa_cons (fe_name 0) (fa_cons (fe_name 1) fa_nil))) (fe_one (fe_cmp (op_eqP (hu64 hr)) (peq_ok _) (nomark _) (fe_lenSet rfl (hu200 hr) T.z_len T.z_set (fe_callP (ok_row_by T) (hr.mono (by decide)) tk (wk0 hrx) (fa_cons (fe_name 0) (fa_cons (fe_name 1) fa_nil)))) fe_int)))))
theorem ok_is_word_to_one (T : Top K mg) : Pr P w K mg base 6 "is_word_to_one" ["moving", "value"] (spD K mg false false 2 (ap2 m_is_word_to_one)) := by
  have S := sc_is_word_to_one
  exact pr_d (un := 0) T.d_is_word_to_one S (fun _ _ _ _ _ _ us hl => match us, hl with | [_, _], _ => rfl) rfl rfl (fun f cdv A outer s H E C ds hr tk po hrx hc0 hd => by
    match ds, hd with
    | [d_moving, d_value], _ => exact ⟨b_is_word_to_one d_moving d_value, fun _ => rfl, w_is_word_to_one T hr tk po hrx hc0⟩) (fun z => nomatch z)
/-! _law_roll -/
abbrev sD__law_roll : Stmt := top 34
theorem sc__law_roll : FnScope ["cup", "many", "found", "deep"] ["cup", "many"] (defScope sD__law_roll) := ⟨rfl, rfl, rfl, by decide +kernel, rfl, by decide +kernel, by decide +kernel⟩
theorem w__law_roll (T : Top K mg) {d_many : PyData} {f : Addr} {cdv : Value} {A : Around} {outer : List Env} {s : Shared} {H : Hp} {E : XK} {C : Ct} (hr : Room 0 (A.deeper (envOfC "_law_roll" (defScope sD__law_roll) s.heap.objs.size f cdv))) (tk : Takes (cxD P w K mg base ["cup", "many", "found", "deep"] "_law_roll" (defScope sD__law_roll) f cdv A outer s H E) C.W) (po : PassesOwn (model P w) (cxD P w K mg base ["cup", "many", "found", "deep"] "_law_roll" (defScope sD__law_roll) f cdv A outer s H E).A (cxD P w K mg base ["cup", "many", "found", "deep"] "_law_roll" (defScope sD__law_roll) f cdv A outer s H E).env (cxD P w K mg base ["cup", "many", "found", "deep"] "_law_roll" (defScope sD__law_roll) f cdv A outer s H E).xe) (hrx : C.rx = []) (hc0 : C.c.isSome = true) :
    FB (cxD P w K mg base ["cup", "many", "found", "deep"] "_law_roll" (defScope sD__law_roll) f cdv A outer s H E) C (slots0 true [d_many] 2) (fun _ : Unit => []) (fun b : Empty => nomatch b) false (defBody sD__law_roll) (b__law_roll d_many) := by
  have S := sc__law_roll
  unfold b__law_roll
  exact (fb_ifR (emb0 := fun z : Empty => nomatch z) (ft_cmp op_gt (pcmp_ok _ _) (nomark _) (fe_cupget 0 fe_int) fe_int) (fb_set 2 S.nd (fe_op op_mod (pmod_ok _) (fe_intOf T.z_int (fe_cupget 0 fe_int)) (fe_name 1)) fun x1 => (fb_cupset 0 (fe_op op_fdiv (pfdiv_ok _) (fe_cupget 0 fe_int) (fe_name 1)) fe_int (fb_ret (fe_name 2)))) (fb_cupset 0 (fe_op op_mod (pmod_ok _) (fe_intOf T.z_int (fe_op op_addAll (padd_ok _) (fe_op op_mulT (pmulT_ok _) (fe_cupget 0 fe_int) fe_int) fe_int)) fe_int) fe_int (fb_set 3 S.nd (fe_op op_mod (pmod_ok _) (fe_intOf T.z_int (fe_op op_mulT (pmulT_ok _) (fe_cupget 0 fe_int) (fe_op op_addAll (padd_ok _) (fe_cupget 0 fe_int) fe_int))) fe_int) fun x2 => (fb_ret (fe_op op_mod (pmod_ok _) (fe_intOf T.z_int (fe_op op_fdiv (pfdiv_ok _) (fe_name 3) fe_int)) (fe_name 1))))))
theorem ok__law_roll (T : Top K mg) : Pr P w K mg base 1 "_law_roll" ["cup", "many"] (spD K mg true false 1 (ap1 m__law_roll)) := by
  have S := sc__law_roll
  exact pr_d (un := 2) T.d__law_roll S (fun _ _ _ _ _ _ us hl => match us, hl with | [_, _], _ => rfl) rfl rfl (fun f cdv A outer s H E C ds hr tk po hrx hc0 hd => by
    match ds, hd with
    | [d_many], _ => exact ⟨b__law_roll d_many, fun _ => rfl, w__law_roll T hr tk po hrx hc0⟩) (fun z => nomatch z)
/-! need_letters -/
abbrev sD_need_letters : Stmt := top 15
theorem sc_need_letters : FnScope ["moving", "word"] ["moving", "word"] (defScope sD_need_letters) := ⟨rfl, rfl, rfl, by decide +kernel, rfl, by decide +kernel, by decide +kernel⟩
theorem w_need_letters (T : Top K mg) {d_moving : PyData} {d_word : PyData} {f : Addr} {cdv : Value} {A : Around} {outer : List Env} {s : Shared} {H : Hp} {E : XK} {C : Ct} (hr : Room 3 (A.deeper (envOfC "need_letters" (defScope sD_need_letters) s.heap.objs.size f cdv))) (tk : Takes (cxD P w K mg base ["moving", "word"] "need_letters" (defScope sD_need_letters) f cdv A outer s H E) C.W) (po : PassesOwn (model P w) (cxD P w K mg base ["moving", "word"] "need_letters" (defScope sD_need_letters) f cdv A outer s H E).A (cxD P w K mg base ["moving", "word"] "need_letters" (defScope sD_need_letters) f cdv A outer s H E).env (cxD P w K mg base ["moving", "word"] "need_letters" (defScope sD_need_letters) f cdv A outer s H E).xe) (hrx : C.rx = []) (hc0 : C.c.isSome = false) :
    FB (cxD P w K mg base ["moving", "word"] "need_letters" (defScope sD_need_letters) f cdv A outer s H E) C (slots0 false [d_moving, d_word] 0) (fun _ : Unit => []) (fun b : Empty => nomatch b) false (defBody sD_need_letters) (b_need_letters d_moving d_word) := by
  have S := sc_need_letters
  unfold b_need_letters
  exact (fb_ifR (emb0 := fun z : Empty => nomatch z) (ft_not (ft_val (fe_callP (ok_fits_letters T) (hr.mono (by decide)) tk (wk0 hrx) (fa_cons (fe_name 0) (fa_cons (fe_name 1) fa_nil))))) fb_stuck (fb_nil () .nil))
theorem ok_need_letters (T : Top K mg) : Pr P w K mg base 4 "need_letters" ["moving", "word"] (spD K mg false false 2 (ap2 m_need_letters)) := by
  have S := sc_need_letters
  exact pr_d (un := 0) T.d_need_letters S (fun _ _ _ _ _ _ us hl => match us, hl with | [_, _], _ => rfl) rfl rfl (fun f cdv A outer s H E C ds hr tk po hrx hc0 hd => by
    match ds, hd with
    | [d_moving, d_word], _ => exact ⟨b_need_letters d_moving d_word, fun _ => rfl, w_need_letters T hr tk po hrx hc0⟩) (fun z => nomatch z)
/-! moved_row -/
abbrev sD_moved_row : Stmt := top 18
theorem sc_moved_row : FnScope ["moving", "word"] ["moving", "word"] (defScope sD_moved_row) := ⟨rfl, rfl, rfl, by decide +kernel, rfl, by decide +kernel, by decide +kernel⟩
theorem w_moved_row (T : Top K mg) {d_moving : PyData} {d_word : PyData} {f : Addr} {cdv : Value} {A : Around} {outer : List Env} {s : Shared} {H : Hp} {E : XK} {C : Ct} (hr : Room 5 (A.deeper (envOfC "moved_row" (defScope sD_moved_row) s.heap.objs.size f cdv))) (tk : Takes (cxD P w K mg base ["moving", "word"] "moved_row" (defScope sD_moved_row) f cdv A outer s H E) C.W) (po : PassesOwn (model P w) (cxD P w K mg base ["moving", "word"] "moved_row" (defScope sD_moved_row) f cdv A outer s H E).A (cxD P w K mg base ["moving", "word"] "moved_row" (defScope sD_moved_row) f cdv A outer s H E).env (cxD P w K mg base ["moving", "word"] "moved_row" (defScope sD_moved_row) f cdv A outer s H E).xe) (hrx : C.rx = []) (hc0 : C.c.isSome = false) :
    FB (cxD P w K mg base ["moving", "word"] "moved_row" (defScope sD_moved_row) f cdv A outer s H E) C (slots0 false [d_moving, d_word] 0) (fun _ : Unit => []) (fun b : Empty => nomatch b) false (defBody sD_moved_row) (b_moved_row d_moving d_word) := by
  have S := sc_moved_row
  unfold b_moved_row
  exact (fb_expr (fe_callP (ok_need_moving T) (hr.mono (by decide)) tk (wk0 hrx) (fa_cons (fe_name 0) fa_nil)) fun _u2 => (fb_expr (fe_callP (ok_need_letters T) (hr.mono (by decide)) tk (wk0 hrx) (fa_cons (fe_name 0) (fa_cons (fe_name 1) fa_nil))) fun _u1 => (fb_ret (fe_callP (ok_row_by T) (hr.mono (by decide)) tk (wk0 hrx) (fa_cons (fe_name 0) (fa_cons (fe_name 1) fa_nil))))))
theorem ok_moved_row (T : Top K mg) : Pr P w K mg base 6 "moved_row" ["moving", "word"] (spD K mg false false 2 (ap2 m_moved_row)) := by
  have S := sc_moved_row
  exact pr_d (un := 0) T.d_moved_row S (fun _ _ _ _ _ _ us hl => match us, hl with | [_, _], _ => rfl) rfl rfl (fun f cdv A outer s H E C ds hr tk po hrx hc0 hd => by
    match ds, hd with
    | [d_moving, d_word], _ => exact ⟨b_moved_row d_moving d_word, fun _ => rfl, w_moved_row T hr tk po hrx hc0⟩) (fun z => nomatch z)
/-! are_apart -/
abbrev sD_are_apart : Stmt := top 25
theorem sc_are_apart : FnScope ["moving", "one", "other", "lot"] ["moving", "one", "other"] (defScope sD_are_apart) := ⟨rfl, rfl, rfl, by decide +kernel, rfl, by decide +kernel, by decide +kernel⟩
theorem w_are_apart (T : Top K mg) {d_moving : PyData} {d_one : PyData} {d_other : PyData} {f : Addr} {cdv : Value} {A : Around} {outer : List Env} {s : Shared} {H : Hp} {E : XK} {C : Ct} (hr : Room 2 (A.deeper (envOfC "are_apart" (defScope sD_are_apart) s.heap.objs.size f cdv))) (tk : Takes (cxD P w K mg base ["moving", "one", "other", "lot"] "are_apart" (defScope sD_are_apart) f cdv A outer s H E) C.W) (po : PassesOwn (model P w) (cxD P w K mg base ["moving", "one", "other", "lot"] "are_apart" (defScope sD_are_apart) f cdv A outer s H E).A (cxD P w K mg base ["moving", "one", "other", "lot"] "are_apart" (defScope sD_are_apart) f cdv A outer s H E).env (cxD P w K mg base ["moving", "one", "other", "lot"] "are_apart" (defScope sD_are_apart) f cdv A outer s H E).xe) (hrx : C.rx = []) (hc0 : C.c.isSome = false) :
    FB (cxD P w K mg base ["moving", "one", "other", "lot"] "are_apart" (defScope sD_are_apart) f cdv A outer s H E) C (slots0 false [d_moving, d_one, d_other] 1) (fun _ : Unit => []) (fun b : Empty => nomatch b) false (defBody sD_are_apart) (b_are_apart d_moving d_one d_other) := by
  have S := sc_are_apart
  unfold b_are_apart
  exact (fb_ret (fe_all rfl T.z_all (fe_of (fo_lc (own := [("lot", 3)]) rfl S.nd (fi_any (fe_callP (ok_words_from T) (hr.mono (by decide)) tk (wk0 hrx) (fa_cons (fe_name 0) (fa_cons (fe_tup (fa_cons (fe_name 1) (fa_cons (fe_name 2) fa_nil)) (by show 2 ≤ sizeLine; decide)) fa_nil)))) (blkOk_by (by first | rfl | with_unfolding_all rfl)) (fun s0 H0 Ca cl fp => fg_name 3 S.nd) (fun t1 s0 H0 Ca cl fp => fts_nil) (fun t1 s0 H0 Ca cl fp => (fe_cmp (op_eqP (hu64 hr)) (peq_ok _) (nomark _) (fe_len T.z_len (fe_name 3)) fe_int))))))
theorem ok_are_apart (T : Top K mg) : Pr P w K mg base 3 "are_apart" ["moving", "one", "other"] (spD K mg false false 3 (ap3 m_are_apart)) := by
  have S := sc_are_apart
  exact pr_d (un := 1) T.d_are_apart S (fun _ _ _ _ _ _ us hl => match us, hl with | [_, _, _], _ => rfl) rfl rfl (fun f cdv A outer s H E C ds hr tk po hrx hc0 hd => by
    match ds, hd with
    | [d_moving, d_one, d_other], _ => exact ⟨b_are_apart d_moving d_one d_other, fun _ => rfl, w_are_apart T hr tk po hrx hc0⟩) (fun z => nomatch z)
/-! apart_in -/
abbrev sD_apart_in : Stmt := top 26
theorem sc_apart_in : FnScope ["moving", "other", "one"] ["moving"] (defScope sD_apart_in) := ⟨rfl, rfl, rfl, by decide +kernel, rfl, by decide +kernel, by decide +kernel⟩
theorem w_apart_in (T : Top K mg) {d_moving : PyData} {f : Addr} {cdv : Value} {A : Around} {outer : List Env} {s : Shared} {H : Hp} {E : XK} {C : Ct} (hr : Room 3 (A.deeper (envOfC "apart_in" (defScope sD_apart_in) s.heap.objs.size f cdv))) (tk : Takes (cxD P w K mg base ["moving", "other", "one"] "apart_in" (defScope sD_apart_in) f cdv A outer s H E) C.W) (po : PassesOwn (model P w) (cxD P w K mg base ["moving", "other", "one"] "apart_in" (defScope sD_apart_in) f cdv A outer s H E).A (cxD P w K mg base ["moving", "other", "one"] "apart_in" (defScope sD_apart_in) f cdv A outer s H E).env (cxD P w K mg base ["moving", "other", "one"] "apart_in" (defScope sD_apart_in) f cdv A outer s H E).xe) (hrx : C.rx = []) (hc0 : C.c.isSome = false) :
    FB (cxD P w K mg base ["moving", "other", "one"] "apart_in" (defScope sD_apart_in) f cdv A outer s H E) C (slots0 false [d_moving] 2) (fun _ : Unit => []) (fun b : Empty => nomatch b) false (defBody sD_apart_in) (b_apart_in d_moving) := by
  have S := sc_apart_in
  unfold b_apart_in
  exact (fb_for (e0 := fun t1 : Unit => [.d d_moving, .un, .un]) () po rfl (fi_range1 T.z_range (fe_len T.z_len (fe_idx (hu64 hr) (fe_name 0) fe_int))) (fg_name 1 S.nd) (.keep (.drop (.drop .nil))) (fun x2 t1 => (fb_for (e0 := fun t3 : Unit => [.d d_moving, .d x2, .un]) () po rfl (fi_range1 T.z_range (fe_name 1)) (fg_name 2 S.nd) (.keep (.keep (.drop .nil))) (fun x4 t3 => (fb_ifR (emb0 := fun z : Empty => nomatch z) (ft_val (fe_callP (ok_are_apart T) (hr.mono (by decide)) tk (wk0 hrx) (fa_cons (fe_name 0) (fa_cons (fe_name 2) (fa_cons (fe_name 1) fa_nil))))) (fb_ret (fe_tup (fa_cons (fe_name 2) (fa_cons (fe_name 1) fa_nil)) (by show 2 ≤ sizeLine; decide))) (fb_nil () (.keep (.keep (.drop .nil)))))) fun t3 => (fb_nil () (.keep (.drop (.drop .nil)))))) fun t1 => (fb_ret fe_non))
theorem ok_apart_in (T : Top K mg) : Pr P w K mg base 4 "apart_in" ["moving"] (spD K mg false false 1 (ap1 m_apart_in)) := by
  have S := sc_apart_in
  exact pr_d (un := 2) T.d_apart_in S (fun _ _ _ _ _ _ us hl => match us, hl with | [_], _ => rfl) rfl rfl (fun f cdv A outer s H E C ds hr tk po hrx hc0 hd => by
    match ds, hd with
    | [d_moving], _ => exact ⟨b_apart_in d_moving, fun _ => rfl, w_apart_in T hr tk po hrx hc0⟩) (fun z => nomatch z)
/-! apart_spots -/
abbrev sD_apart_spots : Stmt := top 30
theorem sc_apart_spots : FnScope ["moving"] ["moving"] (defScope sD_apart_spots) := ⟨rfl, rfl, rfl, by decide +kernel, rfl, by decide +kernel, by decide +kernel⟩
theorem w_apart_spots (T : Top K mg) {d_moving : PyData} {f : Addr} {cdv : Value} {A : Around} {outer : List Env} {s : Shared} {H : Hp} {E : XK} {C : Ct} (hr : Room 5 (A.deeper (envOfC "apart_spots" (defScope sD_apart_spots) s.heap.objs.size f cdv))) (tk : Takes (cxD P w K mg base ["moving"] "apart_spots" (defScope sD_apart_spots) f cdv A outer s H E) C.W) (po : PassesOwn (model P w) (cxD P w K mg base ["moving"] "apart_spots" (defScope sD_apart_spots) f cdv A outer s H E).A (cxD P w K mg base ["moving"] "apart_spots" (defScope sD_apart_spots) f cdv A outer s H E).env (cxD P w K mg base ["moving"] "apart_spots" (defScope sD_apart_spots) f cdv A outer s H E).xe) (hrx : C.rx = []) (hc0 : C.c.isSome = false) :
    FB (cxD P w K mg base ["moving"] "apart_spots" (defScope sD_apart_spots) f cdv A outer s H E) C (slots0 false [d_moving] 0) (fun _ : Unit => []) (fun b : Empty => nomatch b) false (defBody sD_apart_spots) (b_apart_spots d_moving) := by
  have S := sc_apart_spots
  unfold b_apart_spots
  exact (fb_expr (fe_callP (ok_need_moving T) (hr.mono (by decide)) tk (wk0 hrx) (fa_cons (fe_name 0) fa_nil)) fun _u1 => (fb_ret (fe_callP (ok_apart_in T) (hr.mono (by decide)) tk (wk0 hrx) (fa_cons (fe_name 0) fa_nil))))
theorem ok_apart_spots (T : Top K mg) : Pr P w K mg base 6 "apart_spots" ["moving"] (spD K mg false false 1 (ap1 m_apart_spots)) := by
  have S := sc_apart_spots
  exact pr_d (un := 0) T.d_apart_spots S (fun _ _ _ _ _ _ us hl => match us, hl with | [_], _ => rfl) rfl rfl (fun f cdv A outer s H E C ds hr tk po hrx hc0 hd => by
    match ds, hd with
    | [d_moving], _ => exact ⟨b_apart_spots d_moving, fun _ => rfl, w_apart_spots T hr tk po hrx hc0⟩) (fun z => nomatch z)
/-! are_apart_spots -/
abbrev sD_are_apart_spots : Stmt := top 31
theorem sc_are_apart_spots : FnScope ["moving", "value"] ["moving", "value"] (defScope sD_are_apart_spots) := ⟨rfl, rfl, rfl, by decide +kernel, rfl, by decide +kernel, by decide +kernel⟩
theorem w_are_apart_spots (T : Top K mg) {d_moving : PyData} {d_value : PyData} {f : Addr} {cdv : Value} {A : Around} {outer : List Env} {s : Shared} {H : Hp} {E : XK} {C : Ct} (hr : Room 5 (A.deeper (envOfC "are_apart_spots" (defScope sD_are_apart_spots) s.heap.objs.size f cdv))) (tk : Takes (cxD P w K mg base ["moving", "value"] "are_apart_spots" (defScope sD_are_apart_spots) f cdv A outer s H E) C.W) (po : PassesOwn (model P w) (cxD P w K mg base ["moving", "value"] "are_apart_spots" (defScope sD_are_apart_spots) f cdv A outer s H E).A (cxD P w K mg base ["moving", "value"] "are_apart_spots" (defScope sD_are_apart_spots) f cdv A outer s H E).env (cxD P w K mg base ["moving", "value"] "are_apart_spots" (defScope sD_are_apart_spots) f cdv A outer s H E).xe) (hrx : C.rx = []) (hc0 : C.c.isSome = false) :
    FB (cxD P w K mg base ["moving", "value"] "are_apart_spots" (defScope sD_are_apart_spots) f cdv A outer s H E) C (slots0 false [d_moving, d_value] 0) (fun _ : Unit => []) (fun b : Empty => nomatch b) false (defBody sD_are_apart_spots) (b_are_apart_spots d_moving d_value) := by
  have S := sc_are_apart_spots
  unfold b_are_apart_spots
  exact (fb_expr (fe_callP (ok_need_moving T) (hr.mono (by decide)) tk (wk0 hrx) (fa_cons (fe_name 0) fa_nil)) fun _u1 => (fb_ifR (emb0 := fun z : Empty => nomatch z) (FW.ft (fw_or (ft_not (ft_val (fe_callP (ok_are_things T) (hr.mono (by decide)) tk (wk0 hrx) (fa_cons (fe_len T.z_len (fe_idx (hu64 hr) (fe_name 0) fe_int)) (fa_cons (fe_name 1) (fa_cons fe_int (fa_cons fe_int fa_nil))))))) (fw_or1 (ft_cmp op_ge (pcmp_ok _ _) (nomark _) (fe_idx (hu64 hr) (fe_name 1) fe_int) (fe_idx (hu64 hr) (fe_name 1) fe_int))))) (fb_ret fe_bl) (fb_ret (fe_callP (ok_are_apart T) (hr.mono (by decide)) tk (wk0 hrx) (fa_cons (fe_name 0) (fa_cons (fe_idx (hu64 hr) (fe_name 1) fe_int) (fa_cons (fe_idx (hu64 hr) (fe_name 1) fe_int) fa_nil)))))))
theorem ok_are_apart_spots (T : Top K mg) : Pr P w K mg base 6 "are_apart_spots" ["moving", "value"] (spD K mg false false 2 (ap2 m_are_apart_spots)) := by
  have S := sc_are_apart_spots
  exact pr_d (un := 0) T.d_are_apart_spots S (fun _ _ _ _ _ _ us hl => match us, hl with | [_, _], _ => rfl) rfl rfl (fun f cdv A outer s H E C ds hr tk po hrx hc0 hd => by
    match ds, hd with
    | [d_moving, d_value], _ => exact ⟨b_are_apart_spots d_moving d_value, fun _ => rfl, w_are_apart_spots T hr tk po hrx hc0⟩) (fun z => nomatch z)
/-! _law_lot_by -/
abbrev sD__law_lot_by : Stmt := top 42
theorem sc__law_lot_by : FnScope ["moving", "lot", "word", "letter", "spot"] ["moving", "lot", "word"] (defScope sD__law_lot_by) := ⟨rfl, rfl, rfl, by decide +kernel, rfl, by decide +kernel, by decide +kernel⟩
theorem w__law_lot_by (T : Top K mg) {d_moving : PyData} {d_lot : PyData} {d_word : PyData} {f : Addr} {cdv : Value} {A : Around} {outer : List Env} {s : Shared} {H : Hp} {E : XK} {C : Ct} (hr : Room 0 (A.deeper (envOfC "_law_lot_by" (defScope sD__law_lot_by) s.heap.objs.size f cdv))) (tk : Takes (cxD P w K mg base ["moving", "lot", "word", "letter", "spot"] "_law_lot_by" (defScope sD__law_lot_by) f cdv A outer s H E) C.W) (po : PassesOwn (model P w) (cxD P w K mg base ["moving", "lot", "word", "letter", "spot"] "_law_lot_by" (defScope sD__law_lot_by) f cdv A outer s H E).A (cxD P w K mg base ["moving", "lot", "word", "letter", "spot"] "_law_lot_by" (defScope sD__law_lot_by) f cdv A outer s H E).env (cxD P w K mg base ["moving", "lot", "word", "letter", "spot"] "_law_lot_by" (defScope sD__law_lot_by) f cdv A outer s H E).xe) (hrx : C.rx = []) (hc0 : C.c.isSome = false) :
    FB (cxD P w K mg base ["moving", "lot", "word", "letter", "spot"] "_law_lot_by" (defScope sD__law_lot_by) f cdv A outer s H E) C (slots0 false [d_moving, d_lot, d_word] 2) (fun _ : Unit => []) (fun b : Empty => nomatch b) false (defBody sD__law_lot_by) (b__law_lot_by d_moving d_lot d_word) := by
  have S := sc__law_lot_by
  unfold b__law_lot_by
  exact (fb_for (e0 := fun t1 : PyData => [.d d_moving, .d t1, .d d_word, .un, .un]) d_lot po rfl (fi_any (fe_name 2)) (fg_name 3 S.nd) (.keep (.keep (.keep (.drop (.drop .nil))))) (fun x2 t1 => (fb_set 1 S.nd (fe_tuple T.z_tuple (fe_of (fo_sortSet rfl (hu200 hr) T.z_sorted T.z_set (fe_of (fo_lc (own := [("spot", 4)]) rfl S.nd (fi_any (fe_name 1)) (blkOk_by (by first | rfl | with_unfolding_all rfl)) (fun s0 H0 Ca cl fp => fg_name 4 S.nd) (fun t3 s0 H0 Ca cl fp => fts_nil) (fun t3 s0 H0 Ca cl fp => (fe_idx (hu64 hr) (fe_idx (hu64 hr) (fe_name 0) (fe_name 3)) (fe_name 4)))))))) fun x4 => (fb_nil x4 (.keep (.keep (.keep (.drop (.drop .nil)))))))) fun t1 => (fb_ret (fe_name 1)))
theorem ok__law_lot_by (T : Top K mg) : Pr P w K mg base 1 "_law_lot_by" ["moving", "lot", "word"] (spD K mg false false 3 (ap3 m__law_lot_by)) := by
  have S := sc__law_lot_by
  exact pr_d (un := 2) T.d__law_lot_by S (fun _ _ _ _ _ _ us hl => match us, hl with | [_, _, _], _ => rfl) rfl rfl (fun f cdv A outer s H E C ds hr tk po hrx hc0 hd => by
    match ds, hd with
    | [d_moving, d_lot, d_word], _ => exact ⟨b__law_lot_by d_moving d_lot d_word, fun _ => rfl, w__law_lot_by T hr tk po hrx hc0⟩) (fun z => nomatch z)
/-! _law_lengths_of -/
abbrev sD__law_lengths_of : Stmt := top 43
theorem sc__law_lengths_of : FnScope ["moving", "lot", "found", "line", "steps", "later", "here", "number", "more"] ["moving", "lot"] (defScope sD__law_lengths_of) := ⟨rfl, rfl, rfl, by decide +kernel, rfl, by decide +kernel, by decide +kernel⟩
theorem w__law_lengths_of (T : Top K mg) {d_moving : PyData} {d_lot : PyData} {f : Addr} {cdv : Value} {A : Around} {outer : List Env} {s : Shared} {H : Hp} {E : XK} {C : Ct} (hr : Room 1 (A.deeper (envOfC "_law_lengths_of" (defScope sD__law_lengths_of) s.heap.objs.size f cdv))) (tk : Takes (cxD P w K mg base ["moving", "lot", "found", "line", "steps", "later", "here", "number", "more"] "_law_lengths_of" (defScope sD__law_lengths_of) f cdv A outer s H E) C.W) (po : PassesOwn (model P w) (cxD P w K mg base ["moving", "lot", "found", "line", "steps", "later", "here", "number", "more"] "_law_lengths_of" (defScope sD__law_lengths_of) f cdv A outer s H E).A (cxD P w K mg base ["moving", "lot", "found", "line", "steps", "later", "here", "number", "more"] "_law_lengths_of" (defScope sD__law_lengths_of) f cdv A outer s H E).env (cxD P w K mg base ["moving", "lot", "found", "line", "steps", "later", "here", "number", "more"] "_law_lengths_of" (defScope sD__law_lengths_of) f cdv A outer s H E).xe) (hrx : C.rx = []) (hc0 : C.c.isSome = false) :
    FB (cxD P w K mg base ["moving", "lot", "found", "line", "steps", "later", "here", "number", "more"] "_law_lengths_of" (defScope sD__law_lengths_of) f cdv A outer s H E) C (slots0 false [d_moving, d_lot] 7) (fun _ : Unit => []) (fun b : Empty => nomatch b) false (defBody sD__law_lengths_of) (b__law_lengths_of d_moving d_lot) := by
  have S := sc__law_lengths_of
  unfold b__law_lengths_of
  exact (fb_par_3 2 3 4 rfl S.nd (by decide) (by decide) (by decide) (fv_dT1 (hu64 hr) (fe_name 1) fe_int) (fv_d (fe_of (fo_lst (fa_cons (fe_name 1) fa_nil) (by show 1 ≤ sizeLine; decide)))) (fv_d fe_int) fun x1 x2 x3 => (fb_while (e0 := fun t4 : List (PyData × PyData) × PyData × PyData => [.d d_moving, .d d_lot, .odT t4.1, .d t4.2.1, .d t4.2.2, .un, .un, .un, .un]) (x1, x2, x3) po (.keep (.keep (.keep (.keep (.keep (.drop (.drop (.drop (.drop .nil))))))))) (fun t4 => (ft_cmp (op_neP (hu64 hr)) (pne_ok _) (nomark _) (fe_name 3) (fe_of (fo_lst fa_nil (by show 0 ≤ sizeLine; decide))))) (fun t4 => (fb_par 5 4 rfl S.nd (by decide) (fv_o (fo_lst fa_nil (by show 0 ≤ sizeLine; decide))) (fv_d (fe_op op_addAll (padd_ok _) (fe_name 4) fe_int)) fun x6 x7 => (fb_for (e0 := fun t8 : List (PyData × PyData) × List PyData => [.d d_moving, .d d_lot, .odT t8.1, .d t4.2.1, .d x7, .own t8.2, .un, .un, .un]) (t4.1, x6) po rfl (fi_any (fe_name 3)) (fg_name 6 S.nd) (.keep (.keep (.keep (.keep (.keep (.keep (.drop (.drop (.drop .nil))))))))) (fun x9 t8 => (fb_for (e0 := fun t10 : List (PyData × PyData) × List PyData => [.d d_moving, .d d_lot, .odT t10.1, .d t4.2.1, .d x7, .own t10.2, .d x9, .un, .un]) (t8.1, t8.2) po rfl (fi_range1 T.z_range (fe_len T.z_len (fe_name 0))) (fg_name 7 S.nd) (.keep (.keep (.keep (.keep (.keep (.keep (.keep (.drop (.drop .nil))))))))) (fun x11 t10 => (fb_set 8 S.nd (fe_callP (ok__law_lot_by T) (hr.mono (by decide)) tk (wk0 hrx) (fa_cons (fe_name 0) (fa_cons (fe_name 6) (fa_cons (fe_tup (fa_cons (fe_name 7) fa_nil) (by show 1 ≤ sizeLine; decide)) fa_nil)))) fun x12 => (fb_if (emb' := fun t13 : List (PyData × PyData) × List PyData => [.d d_moving, .d d_lot, .odT t13.1, .d t4.2.1, .d x7, .own t13.2, .d x9, .d x11, .d x12]) (FC.ft (fc_dninT 2 (hu64 hr) (fe_name 8)) (by with_unfolding_all rfl)) (fb_dputT 2 (hu64 hr) (fe_name 4) (fe_name 8) fun x14 x15 => (fb_append 5 (fe_name 8) fun x16 => (fb_nil ((dPut t10.1 x14 x15), (t10.2 ++ [x16])) (.keep (.keep (.keep (.keep (.keep (.keep (.keep (.keep (.keep .nil)))))))))))) (fb_nil (t10.1, t10.2) (.keep (.keep (.keep (.keep (.keep (.keep (.keep (.keep (.keep .nil)))))))))) fun t13 => (fb_nil (t13.1, t13.2) (.keep (.keep (.keep (.keep (.keep (.keep (.keep (.drop (.drop .nil))))))))))))) fun t10 => (fb_nil (t10.1, t10.2) (.keep (.keep (.keep (.keep (.keep (.keep (.drop (.drop (.drop .nil)))))))))))) fun t8 => (fb_frz 5 (fb_set 3 S.nd (fe_name 5) fun x17 => (fb_nil (t8.1, x17, x7) (.keep (.keep (.keep (.keep (.keep (.drop (.drop (.drop (.drop .nil))))))))))))))) fun t4 => (fb_frzT 2 (fb_ret (fe_name 2)))))
theorem ok__law_lengths_of (T : Top K mg) : Pr P w K mg base 2 "_law_lengths_of" ["moving", "lot"] (spD K mg false false 2 (ap2 m__law_lengths_of)) := by
  have S := sc__law_lengths_of
  exact pr_d (un := 7) T.d__law_lengths_of S (fun _ _ _ _ _ _ us hl => match us, hl with | [_, _], _ => rfl) rfl rfl (fun f cdv A outer s H E C ds hr tk po hrx hc0 hd => by
    match ds, hd with
    | [d_moving, d_lot], _ => exact ⟨b__law_lengths_of d_moving d_lot, fun _ => rfl, w__law_lengths_of T hr tk po hrx hc0⟩) (fun z => nomatch z)
/-! _law_word -/
abbrev sD__law_word : Stmt := top 40
theorem sc__law_word : FnScope ["cup", "moving", "most", "turn"] ["cup", "moving", "most"] (defScope sD__law_word) := ⟨rfl, rfl, rfl, by decide +kernel, rfl, by decide +kernel, by decide +kernel⟩
theorem w__law_word (T : Top K mg) {d_moving : PyData} {d_most : PyData} {f : Addr} {cdv : Value} {A : Around} {outer : List Env} {s : Shared} {H : Hp} {E : XK} {C : Ct} (hr : Room 1 (A.deeper (envOfC "_law_word" (defScope sD__law_word) s.heap.objs.size f cdv))) (tk : Takes (cxD P w K mg base ["cup", "moving", "most", "turn"] "_law_word" (defScope sD__law_word) f cdv A outer s H E) C.W) (po : PassesOwn (model P w) (cxD P w K mg base ["cup", "moving", "most", "turn"] "_law_word" (defScope sD__law_word) f cdv A outer s H E).A (cxD P w K mg base ["cup", "moving", "most", "turn"] "_law_word" (defScope sD__law_word) f cdv A outer s H E).env (cxD P w K mg base ["cup", "moving", "most", "turn"] "_law_word" (defScope sD__law_word) f cdv A outer s H E).xe) (hrx : C.rx = []) (hc0 : C.c.isSome = true) :
    FB (cxD P w K mg base ["cup", "moving", "most", "turn"] "_law_word" (defScope sD__law_word) f cdv A outer s H E) C (slots0 true [d_moving, d_most] 1) (fun _ : Unit => []) (fun b : Empty => nomatch b) false (defBody sD__law_word) (b__law_word d_moving d_most) := by
  have S := sc__law_word
  unfold b__law_word
  exact (fb_ret (fe_tuple T.z_tuple (fe_of (fo_lc (own := [("turn", 3)]) rfl S.nd (fi_range1 T.z_range (fe_callPC 0 (ok__law_roll T) (hr.mono (by decide)) tk (wk0 hrx) (fa_cons (fe_op op_addAll (padd_ok _) (fe_name 2) fe_int) fa_nil))) (blkOk_by (by first | rfl | with_unfolding_all rfl)) (fun s0 H0 Ca cl fp => fg_name 3 S.nd) (fun t1 s0 H0 Ca cl fp => fts_nil) (fun t1 s0 H0 Ca cl fp => (fe_callPC 0 (ok__law_roll T) (hr.mono (by decide)) takes0 .nil (fa_cons (fe_len T.z_len (fe_name 1)) fa_nil)))))))
theorem ok__law_word (T : Top K mg) : Pr P w K mg base 2 "_law_word" ["cup", "moving", "most"] (spD K mg true false 2 (ap2 m__law_word)) := by
  have S := sc__law_word
  exact pr_d (un := 1) T.d__law_word S (fun _ _ _ _ _ _ us hl => match us, hl with | [_, _, _], _ => rfl) rfl rfl (fun f cdv A outer s H E C ds hr tk po hrx hc0 hd => by
    match ds, hd with
    | [d_moving, d_most], _ => exact ⟨b__law_word d_moving d_most, fun _ => rfl, w__law_word T hr tk po hrx hc0⟩) (fun z => nomatch z)
/-! _law_are_apart -/
abbrev sD__law_are_apart : Stmt := top 45
theorem sc__law_are_apart : FnScope ["moving", "value", "spot", "lot"] ["moving", "value"] (defScope sD__law_are_apart) := ⟨rfl, rfl, rfl, by decide +kernel, rfl, by decide +kernel, by decide +kernel⟩
theorem w__law_are_apart (T : Top K mg) {d_moving : PyData} {d_value : PyData} {f : Addr} {cdv : Value} {A : Around} {outer : List Env} {s : Shared} {H : Hp} {E : XK} {C : Ct} (hr : Room 2 (A.deeper (envOfC "_law_are_apart" (defScope sD__law_are_apart) s.heap.objs.size f cdv))) (tk : Takes (cxD P w K mg base ["moving", "value", "spot", "lot"] "_law_are_apart" (defScope sD__law_are_apart) f cdv A outer s H E) C.W) (po : PassesOwn (model P w) (cxD P w K mg base ["moving", "value", "spot", "lot"] "_law_are_apart" (defScope sD__law_are_apart) f cdv A outer s H E).A (cxD P w K mg base ["moving", "value", "spot", "lot"] "_law_are_apart" (defScope sD__law_are_apart) f cdv A outer s H E).env (cxD P w K mg base ["moving", "value", "spot", "lot"] "_law_are_apart" (defScope sD__law_are_apart) f cdv A outer s H E).xe) (hrx : C.rx = []) (hc0 : C.c.isSome = false) :
    FB (cxD P w K mg base ["moving", "value", "spot", "lot"] "_law_are_apart" (defScope sD__law_are_apart) f cdv A outer s H E) C (slots0 false [d_moving, d_value] 2) (fun _ : Unit => []) (fun b : Empty => nomatch b) false (defBody sD__law_are_apart) (b__law_are_apart d_moving d_value) := by
  have S := sc__law_are_apart
  unfold b__law_are_apart
  exact (fb_ifR (emb0 := fun z : Empty => nomatch z) (FW.ft (fw_or (ft_not (ft_val (fe_isinst "tuple" (.inr (.inr (.inr (.inl rfl)))) T.z_isinstance T.z_tuple (by decide +kernel) (fe_name 1)))) (fw_or (ft_cmp (op_neP (hu64 hr)) (pne_ok _) (nomark _) (fe_len T.z_len (fe_name 1)) fe_int) (fw_or1 (ft_cmp (op_neP (hu64 hr)) (pne_ok _) (nomark _) (fe_of (fo_lc (own := [("spot", 2)]) rfl S.nd (fi_any (fe_name 1)) (blkOk_by (by first | rfl | with_unfolding_all rfl)) (fun s0 H0 Ca cl fp => fg_name 2 S.nd) (fun t1 s0 H0 Ca cl fp => (fts_one (FW.ft (fw_or (ft_cmp (op_neP (hu64 hr)) (pne_ok _) (nomark _) (fe_callP (ok__law_sort T) (hr.mono (by decide)) takes0 .nil (fa_cons (fe_name 2) fa_nil)) fe_int) (fw_or1 (ft_not (ft_chain op_le op_lt (pcmp_ok _ _) (pcmp_ok _ _) fe_int (fe_name 2) (fe_len T.z_len (fe_idx (hu64 hr) (fe_name 0) fe_int))))))))) (fun t1 s0 H0 Ca cl fp => (fe_name 2)))) (fe_of (fo_lst fa_nil (by show 0 ≤ sizeLine; decide)))))))) (fb_ret fe_bl) (fb_ret (fe_and (fe_cmp op_lt (pcmp_ok _ _) (nomark _) (fe_idx (hu64 hr) (fe_name 1) fe_int) (fe_idx (hu64 hr) (fe_name 1) fe_int)) (fe_one (fe_cmp (op_eqP (hu64 hr)) (peq_ok _) (nomark _) (fe_of (fo_lc (own := [("lot", 3)]) rfl S.nd (fi_any (fe_callP (ok__law_lengths_of T) (hr.mono (by decide)) tk (wk0 hrx) (fa_cons (fe_name 0) (fa_cons (fe_name 1) fa_nil)))) (blkOk_by (by first | rfl | with_unfolding_all rfl)) (fun s0 H0 Ca cl fp => fg_name 3 S.nd) (fun t2 s0 H0 Ca cl fp => (fts_one (ft_cmp (op_eqP (hu64 hr)) (peq_ok _) (nomark _) (fe_len T.z_len (fe_name 3)) fe_int))) (fun t2 s0 H0 Ca cl fp => (fe_name 3)))) (fe_of (fo_lst fa_nil (by show 0 ≤ sizeLine; decide))))))))
theorem ok__law_are_apart (T : Top K mg) : Pr P w K mg base 3 "_law_are_apart" ["moving", "value"] (spD K mg false false 2 (ap2 m__law_are_apart)) := by
  have S := sc__law_are_apart
  exact pr_d (un := 2) T.d__law_are_apart S (fun _ _ _ _ _ _ us hl => match us, hl with | [_, _], _ => rfl) rfl rfl (fun f cdv A outer s H E C ds hr tk po hrx hc0 hd => by
    match ds, hd with
    | [d_moving, d_value], _ => exact ⟨b__law_are_apart d_moving d_value, fun _ => rfl, w__law_are_apart T hr tk po hrx hc0⟩) (fun z => nomatch z)
/-! _law_is_word -/
abbrev sD__law_is_word : Stmt := top 41
theorem sc__law_is_word : FnScope ["moving", "value", "letter"] ["moving", "value"] (defScope sD__law_is_word) := ⟨rfl, rfl, rfl, by decide +kernel, rfl, by decide +kernel, by decide +kernel⟩
theorem w__law_is_word (T : Top K mg) {d_moving : PyData} {d_value : PyData} {f : Addr} {cdv : Value} {A : Around} {outer : List Env} {s : Shared} {H : Hp} {E : XK} {C : Ct} (hr : Room 1 (A.deeper (envOfC "_law_is_word" (defScope sD__law_is_word) s.heap.objs.size f cdv))) (tk : Takes (cxD P w K mg base ["moving", "value", "letter"] "_law_is_word" (defScope sD__law_is_word) f cdv A outer s H E) C.W) (po : PassesOwn (model P w) (cxD P w K mg base ["moving", "value", "letter"] "_law_is_word" (defScope sD__law_is_word) f cdv A outer s H E).A (cxD P w K mg base ["moving", "value", "letter"] "_law_is_word" (defScope sD__law_is_word) f cdv A outer s H E).env (cxD P w K mg base ["moving", "value", "letter"] "_law_is_word" (defScope sD__law_is_word) f cdv A outer s H E).xe) (hrx : C.rx = []) (hc0 : C.c.isSome = false) :
    FB (cxD P w K mg base ["moving", "value", "letter"] "_law_is_word" (defScope sD__law_is_word) f cdv A outer s H E) C (slots0 false [d_moving, d_value] 1) (fun _ : Unit => []) (fun b : Empty => nomatch b) false (defBody sD__law_is_word) (b__law_is_word d_moving d_value) := by
  have S := sc__law_is_word
  unfold b__law_is_word
  exact (fb_ifR (emb0 := fun z : Empty => nomatch z) (FW.ft (fw_or (ft_not (ft_val (fe_isinst "tuple" (.inr (.inr (.inr (.inl rfl)))) T.z_isinstance T.z_tuple (by decide +kernel) (fe_name 1)))) (fw_or1 (ft_cmp op_gt (pcmp_ok _ _) (nomark _) (fe_len T.z_len (fe_name 1)) fe_int)))) (fb_ret fe_bl) (fb_ret (fe_cmp (op_eqP (hu64 hr)) (peq_ok _) (nomark _) (fe_of (fo_lc (own := [("letter", 2)]) rfl S.nd (fi_any (fe_name 1)) (blkOk_by (by first | rfl | with_unfolding_all rfl)) (fun s0 H0 Ca cl fp => fg_name 2 S.nd) (fun t1 s0 H0 Ca cl fp => (fts_one (FW.ft (fw_or (ft_cmp (op_neP (hu64 hr)) (pne_ok _) (nomark _) (fe_callP (ok__law_sort T) (hr.mono (by decide)) takes0 .nil (fa_cons (fe_name 2) fa_nil)) fe_int) (fw_or1 (ft_not (ft_chain op_le op_lt (pcmp_ok _ _) (pcmp_ok _ _) fe_int (fe_name 2) (fe_len T.z_len (fe_name 0))))))))) (fun t1 s0 H0 Ca cl fp => (fe_name 2)))) (fe_of (fo_lst fa_nil (by show 0 ≤ sizeLine; decide))))))
theorem ok__law_is_word (T : Top K mg) : Pr P w K mg base 2 "_law_is_word" ["moving", "value"] (spD K mg false false 2 (ap2 m__law_is_word)) := by
  have S := sc__law_is_word
  exact pr_d (un := 1) T.d__law_is_word S (fun _ _ _ _ _ _ us hl => match us, hl with | [_, _], _ => rfl) rfl rfl (fun f cdv A outer s H E C ds hr tk po hrx hc0 hd => by
    match ds, hd with
    | [d_moving, d_value], _ => exact ⟨b__law_is_word d_moving d_value, fun _ => rfl, w__law_is_word T hr tk po hrx hc0⟩) (fun z => nomatch z)
/-! _law_led_by -/
abbrev sD__law_led_by : Stmt := top 39
theorem sc__law_led_by : FnScope ["moving", "spot", "word", "letter"] ["moving", "spot", "word"] (defScope sD__law_led_by) := ⟨rfl, rfl, rfl, by decide +kernel, rfl, by decide +kernel, by decide +kernel⟩
theorem w__law_led_by (T : Top K mg) {d_moving : PyData} {d_spot : PyData} {d_word : PyData} {f : Addr} {cdv : Value} {A : Around} {outer : List Env} {s : Shared} {H : Hp} {E : XK} {C : Ct} (hr : Room 0 (A.deeper (envOfC "_law_led_by" (defScope sD__law_led_by) s.heap.objs.size f cdv))) (tk : Takes (cxD P w K mg base ["moving", "spot", "word", "letter"] "_law_led_by" (defScope sD__law_led_by) f cdv A outer s H E) C.W) (po : PassesOwn (model P w) (cxD P w K mg base ["moving", "spot", "word", "letter"] "_law_led_by" (defScope sD__law_led_by) f cdv A outer s H E).A (cxD P w K mg base ["moving", "spot", "word", "letter"] "_law_led_by" (defScope sD__law_led_by) f cdv A outer s H E).env (cxD P w K mg base ["moving", "spot", "word", "letter"] "_law_led_by" (defScope sD__law_led_by) f cdv A outer s H E).xe) (hrx : C.rx = []) (hc0 : C.c.isSome = false) :
    FB (cxD P w K mg base ["moving", "spot", "word", "letter"] "_law_led_by" (defScope sD__law_led_by) f cdv A outer s H E) C (slots0 false [d_moving, d_spot, d_word] 1) (fun _ : Unit => []) (fun b : Empty => nomatch b) false (defBody sD__law_led_by) (b__law_led_by d_moving d_spot d_word) := by
  have S := sc__law_led_by
  unfold b__law_led_by
  exact (fb_for (e0 := fun t1 : PyData => [.d d_moving, .d t1, .d d_word, .un]) d_spot po rfl (fi_any (fe_name 2)) (fg_name 3 S.nd) (.keep (.keep (.keep (.drop .nil)))) (fun x2 t1 => (fb_set 1 S.nd (fe_idx (hu64 hr) (fe_idx (hu64 hr) (fe_name 0) (fe_name 3)) (fe_name 1)) fun x3 => (fb_nil x3 (.keep (.keep (.keep (.drop .nil))))))) fun t1 => (fb_ret (fe_name 1)))
theorem ok__law_led_by (T : Top K mg) : Pr P w K mg base 1 "_law_led_by" ["moving", "spot", "word"] (spD K mg false false 3 (ap3 m__law_led_by)) := by
  have S := sc__law_led_by
  exact pr_d (un := 1) T.d__law_led_by S (fun _ _ _ _ _ _ us hl => match us, hl with | [_, _, _], _ => rfl) rfl rfl (fun f cdv A outer s H E C ds hr tk po hrx hc0 hd => by
    match ds, hd with
    | [d_moving, d_spot, d_word], _ => exact ⟨b__law_led_by d_moving d_spot d_word, fun _ => rfl, w__law_led_by T hr tk po hrx hc0⟩) (fun z => nomatch z)
/-! _law_is_to_one -/
abbrev sD__law_is_to_one : Stmt := top 44
theorem sc__law_is_to_one : FnScope ["moving", "value", "spot"] ["moving", "value"] (defScope sD__law_is_to_one) := ⟨rfl, rfl, rfl, by decide +kernel, rfl, by decide +kernel, by decide +kernel⟩
theorem w__law_is_to_one (T : Top K mg) {d_moving : PyData} {d_value : PyData} {f : Addr} {cdv : Value} {A : Around} {outer : List Env} {s : Shared} {H : Hp} {E : XK} {C : Ct} (hr : Room 2 (A.deeper (envOfC "_law_is_to_one" (defScope sD__law_is_to_one) s.heap.objs.size f cdv))) (tk : Takes (cxD P w K mg base ["moving", "value", "spot"] "_law_is_to_one" (defScope sD__law_is_to_one) f cdv A outer s H E) C.W) (po : PassesOwn (model P w) (cxD P w K mg base ["moving", "value", "spot"] "_law_is_to_one" (defScope sD__law_is_to_one) f cdv A outer s H E).A (cxD P w K mg base ["moving", "value", "spot"] "_law_is_to_one" (defScope sD__law_is_to_one) f cdv A outer s H E).env (cxD P w K mg base ["moving", "value", "spot"] "_law_is_to_one" (defScope sD__law_is_to_one) f cdv A outer s H E).xe) (hrx : C.rx = []) (hc0 : C.c.isSome = false) :
    FB (cxD P w K mg base ["moving", "value", "spot"] "_law_is_to_one" (defScope sD__law_is_to_one) f cdv A outer s H E) C (slots0 false [d_moving, d_value] 1) (fun _ : Unit => []) (fun b : Empty => nomatch b) false (defBody sD__law_is_to_one) (b__law_is_to_one d_moving d_value) := by
  have S := sc__law_is_to_one
  unfold b__law_is_to_one
  exact (fb_ret (fe_and (fe_callP (ok__law_is_word T) (hr.mono (by decide)) tk (wk0 hrx) (fa_cons (fe_name 0) (fa_cons (fe_name 1) fa_nil))) (fe_one (fe_cmp (op_eqP (hu64 hr)) (peq_ok _) (nomark _) (fe_lenSet rfl (hu200 hr) T.z_len T.z_set (fe_of (fo_lc (own := [("spot", 2)]) rfl S.nd (fi_range1 T.z_range (fe_len T.z_len (fe_idx (hu64 hr) (fe_name 0) fe_int))) (blkOk_by (by first | rfl | with_unfolding_all rfl)) (fun s0 H0 Ca cl fp => fg_name 2 S.nd) (fun t1 s0 H0 Ca cl fp => fts_nil) (fun t1 s0 H0 Ca cl fp => (fe_callP (ok__law_led_by T) (hr.mono (by decide)) takes0 .nil (fa_cons (fe_name 0) (fa_cons (fe_name 2) (fa_cons (fe_name 1) fa_nil)))))))) fe_int))))
theorem ok__law_is_to_one (T : Top K mg) : Pr P w K mg base 3 "_law_is_to_one" ["moving", "value"] (spD K mg false false 2 (ap2 m__law_is_to_one)) := by
  have S := sc__law_is_to_one
  exact pr_d (un := 1) T.d__law_is_to_one S (fun _ _ _ _ _ _ us hl => match us, hl with | [_, _], _ => rfl) rfl rfl (fun f cdv A outer s H E C ds hr tk po hrx hc0 hd => by
    match ds, hd with
    | [d_moving, d_value], _ => exact ⟨b__law_is_to_one d_moving d_value, fun _ => rfl, w__law_is_to_one T hr tk po hrx hc0⟩) (fun z => nomatch z)
/-! _law_right -/
abbrev sD__law_right : Stmt := top 46
theorem sc__law_right : FnScope ["cup", "moving", "many", "lengths", "ones", "word", "pair", "due", "some", "drawn", "at", "values", "turn", "lot", "odd", "value"] ["cup", "moving"] (defScope sD__law_right) := ⟨rfl, rfl, rfl, by decide +kernel, rfl, by decide +kernel, by decide +kernel⟩
theorem w__law_right (T : Top K mg) {d_moving : PyData} {f : Addr} {cdv : Value} {A : Around} {outer : List Env} {s : Shared} {H : Hp} {E : XK} {C : Ct} (hr : Room 14 (A.deeper (envOfC "_law_right" (defScope sD__law_right) s.heap.objs.size f cdv))) (tk : Takes (cxD P w K mg base ["cup", "moving", "many", "lengths", "ones", "word", "pair", "due", "some", "drawn", "at", "values", "turn", "lot", "odd", "value"] "_law_right" (defScope sD__law_right) f cdv A outer s H E) C.W) (po : PassesOwn (model P w) (cxD P w K mg base ["cup", "moving", "many", "lengths", "ones", "word", "pair", "due", "some", "drawn", "at", "values", "turn", "lot", "odd", "value"] "_law_right" (defScope sD__law_right) f cdv A outer s H E).A (cxD P w K mg base ["cup", "moving", "many", "lengths", "ones", "word", "pair", "due", "some", "drawn", "at", "values", "turn", "lot", "odd", "value"] "_law_right" (defScope sD__law_right) f cdv A outer s H E).env (cxD P w K mg base ["cup", "moving", "many", "lengths", "ones", "word", "pair", "due", "some", "drawn", "at", "values", "turn", "lot", "odd", "value"] "_law_right" (defScope sD__law_right) f cdv A outer s H E).xe) (hrx : C.rx = []) (hc0 : C.c.isSome = true) :
    FB (cxD P w K mg base ["cup", "moving", "many", "lengths", "ones", "word", "pair", "due", "some", "drawn", "at", "values", "turn", "lot", "odd", "value"] "_law_right" (defScope sD__law_right) f cdv A outer s H E) C (slots0 true [d_moving] 14) (fun _ : Unit => []) (fun b : Empty => nomatch b) false (defBody sD__law_right) (b__law_right d_moving) := by
  have S := sc__law_right
  unfold b__law_right
  exact (fb_set 2 S.nd (fe_len T.z_len (fe_idx (hu64 hr) (fe_name 1) fe_int)) fun x1 => (fb_set 3 S.nd (fe_callP (ok__law_lengths_of T) (hr.mono (by decide)) tk (wk0 hrx) (fa_cons (fe_name 1) (fa_cons (fe_tupRg rfl T.z_tuple T.z_range (fe_name 2)) fa_nil))) fun x2 => (fb_setLc 4 (own := [("lot", 13)]) rfl S.nd (fi_any (fe_name 3)) (blkOk_by (by first | rfl | with_unfolding_all rfl)) (fun s0 H0 Ca cl fp => fg_name 13 S.nd) (fun t3 s0 H0 Ca cl fp => (fts_one (ft_cmp (op_eqP (hu64 hr)) (peq_ok _) (nomark _) (fe_len T.z_len (fe_name 13)) fe_int))) (fun t3 s0 H0 Ca cl fp => (fe_idx (hu64 hr) (fe_name 3) (fe_name 13))) fun xs4 => (fb_frz 4 (fb_par 5 6 rfl S.nd (by decide) (fv_d (fe_callP (ok_word_to_one T) (hr.mono (by decide)) tk (wk0 hrx) (fa_cons (fe_name 1) fa_nil))) (fv_d (fe_callP (ok_apart_spots T) (hr.mono (by decide)) tk (wk0 hrx) (fa_cons (fe_name 1) fa_nil))) fun x5 x6 => (fb_set 7 S.nd (fe_ifExp (ft_cmp (op_neP (hu64 hr)) (pne_ok _) (nomark _) (fe_name 4) (fe_of (fo_lst fa_nil (by show 0 ≤ sizeLine; decide)))) (fe_min1 rfl (hu200 hr) T.z_min (fe_name 4)) fe_non) fun x7 => (fb_ifR (emb0 := fun z : Empty => nomatch z) (ft_not (ft_val (fe_callP (ok__law_like T 12) (hr.mono (by decide)) tk (wk0 hrx) (fa_cons (fe_of (fo_lst (fa_cons (fe_callP (ok_fewest_to_one T) (hr.mono (by decide)) tk (wk0 hrx) (fa_cons (fe_name 1) fa_nil)) (fa_cons (fe_cmp op_isN (pisN_ok _) (nomark _) (fe_name 5) fe_non) (fa_cons (fe_cmp op_isN (pisN_ok _) (nomark _) (fe_name 6) fe_non) fa_nil))) (by show 3 ≤ sizeLine; decide))) (fa_cons (fe_of (fo_lst (fa_cons (fe_name 7) (fa_cons (fe_cmp op_isN (pisN_ok _) (nomark _) (fe_name 7) fe_non) (fa_cons (fe_cmp op_notN (pnotN_ok _) (nomark _) (fe_name 7) fe_non) fa_nil))) (by show 3 ≤ sizeLine; decide))) fa_nil))))) (fb_ret fe_bl) (fb_ifR (emb0 := fun z : Empty => nomatch z) (FW.ft (fw_and (ft_cmp op_notN (pnotN_ok _) (nomark _) (fe_name 5) fe_non) (fw_and1 (FW.ft (fw_or (ft_not (ft_val (fe_callP (ok__law_is_to_one T) (hr.mono (by decide)) tk (wk0 hrx) (fa_cons (fe_name 1) (fa_cons (fe_name 5) fa_nil))))) (fw_or (ft_cmp (op_neP (hu64 hr)) (pne_ok _) (nomark _) (fe_len T.z_len (fe_name 5)) (fe_name 7)) (fw_or1 (ft_cmp op_gt (pcmp_ok _ _) (nomark _) (fe_op op_mulT (pmulT_ok _) fe_int (fe_name 7)) (fe_op op_sub (psub_ok _) (fe_op op_mulT (pmulT_ok _) (fe_op op_mulT (pmulT_ok _) (fe_name 2) (fe_name 2)) (fe_name 2)) (fe_name 2)))))))))) (fb_ret fe_bl) (fb_ifR (emb0 := fun z : Empty => nomatch z) (FW.ft (fw_and (ft_cmp op_notN (pnotN_ok _) (nomark _) (fe_name 6) fe_non) (fw_and1 (ft_not (ft_val (fe_callP (ok__law_are_apart T) (hr.mono (by decide)) tk (wk0 hrx) (fa_cons (fe_name 1) (fa_cons (fe_name 6) fa_nil)))))))) (fb_ret fe_bl) (fb_tup 8 9 rfl S.nd (by decide) (fv_d (fe_ifExp (ft_cmp op_notN (pnotN_ok _) (nomark _) (fe_name 5) fe_non) (fe_name 5) (fe_callPC 0 (ok__law_word T) (hr.mono (by decide)) tk (wk0 hrx) (fa_cons (fe_name 1) (fa_cons fe_int fa_nil))))) (fv_d (fe_callPC 0 (ok__law_word T) (hr.mono (by decide)) tk (wk0 hrx) (fa_cons (fe_name 1) (fa_cons fe_int fa_nil)))) fun x8 x9 => (fb_set 10 S.nd (fe_callPC 0 (ok__law_roll T) (hr.mono (by decide)) tk (wk0 hrx) (fa_cons (fe_op op_addAll (padd_ok _) (fe_len T.z_len (fe_name 8)) fe_int) fa_nil)) fun x10 => (fb_setO 11 S.nd (fo_lst (fa_cons (fe_name 8) (fa_cons (fe_rev (fe_name 8)) (fa_cons (fe_of (fo_list T.z_list (fe_name 8))) (fa_cons (fe_slice (fe_name 8) (fp_some fe_int) fp_none) (fa_cons (fe_op op_addAll (padd_ok _) (fe_slice (fe_name 8) fp_none (fp_some (fe_name 10))) (fe_slice (fe_name 8) (fp_some (fe_op op_addAll (padd_ok _) (fe_name 10) fe_int)) fp_none)) (fa_cons (fe_op op_addAll (padd_ok _) (fe_name 8) (fe_name 9)) (fa_cons (fe_op op_addAll (padd_ok _) (fe_name 9) (fe_name 8)) (fa_cons (fe_name 9) (fa_cons fe_non (fa_cons (fe_tup fa_nil (by show 0 ≤ sizeLine; decide)) (fa_cons fe_int fa_nil))))))))))) (by show 11 ≤ sizeLine; decide)) fun xs11 => (fb_frz 11 (fb_setO 11 S.nd (fo_add (fe_name 11) (fe_of (fo_lc (own := [("odd", 14)]) rfl S.nd (fi_any (fe_tup (fa_cons fe_non (fa_cons fe_bl (fa_cons (fe_len T.z_len (fe_name 1)) (fa_cons (fe_un un_neg (pneg_ok _) fe_int) (fa_cons fe_str (fa_cons fe_int fa_nil)))))) (by show 6 ≤ sizeLine; decide))) (blkOk_by (by first | rfl | with_unfolding_all rfl)) (fun s0 H0 Ca cl fp => fg_name 14 S.nd) (fun t12 s0 H0 Ca cl fp => fts_nil) (fun t12 s0 H0 Ca cl fp => (fe_op op_addAll (padd_ok _) (fe_op op_addAll (padd_ok _) (fe_slice (fe_name 8) fp_none (fp_some (fe_name 10))) (fe_tup (fa_cons (fe_name 14) fa_nil) (by show 1 ≤ sizeLine; decide))) (fe_slice (fe_name 8) (fp_some (fe_name 10)) fp_none)))))) fun xs13 => (fb_append 11 (fe_ifExp (ft_cmp op_lt (pcmp_ok _ _) (nomark _) (fe_len T.z_len (fe_op op_addAll (padd_ok _) (fe_name 8) (fe_name 9))) fe_int) (fe_op op_mulT (pmulT_ok _) (fe_op op_addAll (padd_ok _) (fe_name 8) (fe_name 9)) fe_int) (fe_name 9)) fun x14 => (fb_frz 11 (fb_ifR (emb0 := fun z : Empty => nomatch z) (ft_cmp (op_neP (hu64 hr)) (pne_ok _) (nomark _) (fe_of (fo_lc (own := [("value", 15)]) rfl S.nd (fi_any (fe_name 11)) (blkOk_by (by first | rfl | with_unfolding_all rfl)) (fun s0 H0 Ca cl fp => fg_name 15 S.nd) (fun t15 s0 H0 Ca cl fp => (fts_one (ft_not (ft_val (fe_callP (ok__law_like T 12) (hr.mono (by decide)) takes0 .nil (fa_cons (fe_callP (ok_is_word_to_one T) (hr.mono (by decide)) takes0 .nil (fa_cons (fe_name 1) (fa_cons (fe_name 15) fa_nil))) (fa_cons (fe_callP (ok__law_is_to_one T) (hr.mono (by decide)) takes0 .nil (fa_cons (fe_name 1) (fa_cons (fe_name 15) fa_nil))) fa_nil))))))) (fun t15 s0 H0 Ca cl fp => (fe_name 15)))) (fe_of (fo_lst fa_nil (by show 0 ≤ sizeLine; decide)))) (fb_ret fe_bl) (fb_setO 11 S.nd (fo_lst (fa_cons (fe_name 6) (fa_cons fe_non (fa_cons (fe_tup fa_nil (by show 0 ≤ sizeLine; decide)) (fa_cons fe_int (fa_cons (fe_tup (fa_cons fe_int fa_nil) (by show 1 ≤ sizeLine; decide)) (fa_cons (fe_tup (fa_cons fe_int (fa_cons fe_int fa_nil)) (by show 2 ≤ sizeLine; decide)) (fa_cons (fe_tup (fa_cons fe_int (fa_cons (fe_name 2) fa_nil)) (by show 2 ≤ sizeLine; decide)) (fa_cons (fe_tup (fa_cons fe_bl (fa_cons fe_int fa_nil)) (by show 2 ≤ sizeLine; decide)) (fa_cons (fe_tup (fa_cons fe_int (fa_cons fe_bl fa_nil)) (by show 2 ≤ sizeLine; decide)) (fa_cons (fe_of (fo_lst (fa_cons fe_int (fa_cons fe_int fa_nil)) (by show 2 ≤ sizeLine; decide))) (fa_cons (fe_tup (fa_cons fe_int (fa_cons fe_int (fa_cons fe_int fa_nil))) (by show 3 ≤ sizeLine; decide)) (fa_cons (fe_tup (fa_cons (fe_un un_neg (pneg_ok _) fe_int) (fa_cons fe_int fa_nil)) (by show 2 ≤ sizeLine; decide)) fa_nil)))))))))))) (by show 12 ≤ sizeLine; decide)) fun xs16 => (fb_for (e0 := fun t17 : List PyData => [.cup, .d d_moving, .d x1, .d x2, .d (.list xs4), .d x5, .d x6, .d x7, .d x8, .d x9, .d x10, .own t17, .un, .un, .un, .un]) xs16 po rfl (fi_range1 T.z_range fe_int) (fg_name 12 S.nd) (.keep (.keep (.keep (.keep (.keep (.keep (.keep (.keep (.keep (.keep (.keep (.keep (.drop (.drop (.drop (.drop .nil)))))))))))))))) (fun x18 t17 => (fb_append 11 (fe_tup (fa_cons (fe_callPC 0 (ok__law_roll T) (hr.mono (by decide)) tk (wk0 hrx) (fa_cons (fe_name 2) fa_nil)) (fa_cons (fe_callPC 0 (ok__law_roll T) (hr.mono (by decide)) tk (wk0 hrx) (fa_cons (fe_name 2) fa_nil)) fa_nil)) (by show 2 ≤ sizeLine; decide)) fun x19 => (fb_nil (t17 ++ [x19]) (.keep (.keep (.keep (.keep (.keep (.keep (.keep (.keep (.keep (.keep (.keep (.keep (.drop (.drop (.drop (.drop .nil))))))))))))))))))) fun t17 => (fb_frz 11 (fb_ret (fe_cmp (op_eqP (hu64 hr)) (peq_ok _) (nomark _) (fe_of (fo_lc (own := [("value", 15)]) rfl S.nd (fi_any (fe_name 11)) (blkOk_by (by first | rfl | with_unfolding_all rfl)) (fun s0 H0 Ca cl fp => fg_name 15 S.nd) (fun t20 s0 H0 Ca cl fp => (fts_one (ft_not (ft_val (fe_callP (ok__law_like T 12) (hr.mono (by decide)) takes0 .nil (fa_cons (fe_callP (ok_are_apart_spots T) (hr.mono (by decide)) takes0 .nil (fa_cons (fe_name 1) (fa_cons (fe_name 15) fa_nil))) (fa_cons (fe_callP (ok__law_are_apart T) (hr.mono (by decide)) takes0 .nil (fa_cons (fe_name 1) (fa_cons (fe_name 15) fa_nil))) fa_nil))))))) (fun t20 s0 H0 Ca cl fp => (fe_name 15)))) (fe_of (fo_lst fa_nil (by show 0 ≤ sizeLine; decide)))))))))))))))))))))))))
theorem ok__law_right (T : Top K mg) : Pr P w K mg base 15 "_law_right" ["cup", "moving"] (spD K mg true false 1 (ap1 m__law_right)) := by
  have S := sc__law_right
  exact pr_d (un := 14) T.d__law_right S (fun _ _ _ _ _ _ us hl => match us, hl with | [_, _], _ => rfl) rfl rfl (fun f cdv A outer s H E C ds hr tk po hrx hc0 hd => by
    match ds, hd with
    | [d_moving], _ => exact ⟨b__law_right d_moving, fun _ => rfl, w__law_right T hr tk po hrx hc0⟩) (fun z => nomatch z)
/-! _law_order -/
abbrev sD__law_order : Stmt := top 37
theorem sc__law_order : FnScope ["cup", "many", "left", "found"] ["cup", "many"] (defScope sD__law_order) := ⟨rfl, rfl, rfl, by decide +kernel, rfl, by decide +kernel, by decide +kernel⟩
theorem w__law_order (T : Top K mg) {d_many : PyData} {f : Addr} {cdv : Value} {A : Around} {outer : List Env} {s : Shared} {H : Hp} {E : XK} {C : Ct} (hr : Room 1 (A.deeper (envOfC "_law_order" (defScope sD__law_order) s.heap.objs.size f cdv))) (tk : Takes (cxD P w K mg base ["cup", "many", "left", "found"] "_law_order" (defScope sD__law_order) f cdv A outer s H E) C.W) (po : PassesOwn (model P w) (cxD P w K mg base ["cup", "many", "left", "found"] "_law_order" (defScope sD__law_order) f cdv A outer s H E).A (cxD P w K mg base ["cup", "many", "left", "found"] "_law_order" (defScope sD__law_order) f cdv A outer s H E).env (cxD P w K mg base ["cup", "many", "left", "found"] "_law_order" (defScope sD__law_order) f cdv A outer s H E).xe) (hrx : C.rx = []) (hc0 : C.c.isSome = true) :
    FB (cxD P w K mg base ["cup", "many", "left", "found"] "_law_order" (defScope sD__law_order) f cdv A outer s H E) C (slots0 true [d_many] 2) (fun _ : Unit => []) (fun b : Empty => nomatch b) false (defBody sD__law_order) (b__law_order d_many) := by
  have S := sc__law_order
  unfold b__law_order
  exact (fb_par 2 3 rfl S.nd (by decide) (fv_o (fo_listRg rfl T.z_list T.z_range (fe_name 1))) (fv_o (fo_lst fa_nil (by show 0 ≤ sizeLine; decide))) fun x1 x2 => (fb_while (e0 := fun t3 : List PyData × List PyData => [.cup, .d d_many, .own t3.1, .own t3.2]) (x1, x2) po (.keep (.keep (.keep (.keep .nil)))) (fun t3 => (ft_peek fun F0 E0 => (ft_cmp (op_neP (hu64 hr)) (pne_ok _) (nomark _) (fe_name 2) (fe_of (fo_lst fa_nil (by show 0 ≤ sizeLine; decide)))))) (fun t3 => (fb_appPop 3 2 (by decide) (fe_callPC 0 (ok__law_roll T) (hr.mono (by decide)) tk (wk0 hrx) (fa_cons (fe_peek fun F0 E0 => (fe_len T.z_len (fe_name 2))) fa_nil)) fun n5 x6 => (fb_nil ((erI t3.1 n5), (t3.2 ++ [x6])) (.keep (.keep (.keep (.keep .nil))))))) fun t3 => (fb_frz 3 (fb_ret (fe_tuple T.z_tuple (fe_name 3))))))
theorem ok__law_order (T : Top K mg) : Pr P w K mg base 2 "_law_order" ["cup", "many"] (spD K mg true false 1 (ap1 m__law_order)) := by
  have S := sc__law_order
  exact pr_d (un := 2) T.d__law_order S (fun _ _ _ _ _ _ us hl => match us, hl with | [_, _], _ => rfl) rfl rfl (fun f cdv A outer s H E C ds hr tk po hrx hc0 hd => by
    match ds, hd with
    | [d_many], _ => exact ⟨b__law_order d_many, fun _ => rfl, w__law_order T hr tk po hrx hc0⟩) (fun z => nomatch z)
/-! _law_moving -/
abbrev sD__law_moving : Stmt := top 38
theorem sc__law_moving : FnScope ["cup", "most", "many", "letters", "way", "found", "letter", "row", "spot"] ["cup", "most"] (defScope sD__law_moving) := ⟨rfl, rfl, rfl, by decide +kernel, rfl, by decide +kernel, by decide +kernel⟩
theorem w__law_moving (T : Top K mg) {d_most : PyData} {f : Addr} {cdv : Value} {A : Around} {outer : List Env} {s : Shared} {H : Hp} {E : XK} {C : Ct} (hr : Room 2 (A.deeper (envOfC "_law_moving" (defScope sD__law_moving) s.heap.objs.size f cdv))) (tk : Takes (cxD P w K mg base ["cup", "most", "many", "letters", "way", "found", "letter", "row", "spot"] "_law_moving" (defScope sD__law_moving) f cdv A outer s H E) C.W) (po : PassesOwn (model P w) (cxD P w K mg base ["cup", "most", "many", "letters", "way", "found", "letter", "row", "spot"] "_law_moving" (defScope sD__law_moving) f cdv A outer s H E).A (cxD P w K mg base ["cup", "most", "many", "letters", "way", "found", "letter", "row", "spot"] "_law_moving" (defScope sD__law_moving) f cdv A outer s H E).env (cxD P w K mg base ["cup", "most", "many", "letters", "way", "found", "letter", "row", "spot"] "_law_moving" (defScope sD__law_moving) f cdv A outer s H E).xe) (hrx : C.rx = []) (hc0 : C.c.isSome = true) :
    FB (cxD P w K mg base ["cup", "most", "many", "letters", "way", "found", "letter", "row", "spot"] "_law_moving" (defScope sD__law_moving) f cdv A outer s H E) C (slots0 true [d_most] 7) (fun _ : Unit => []) (fun b : Empty => nomatch b) false (defBody sD__law_moving) (b__law_moving d_most) := by
  have S := sc__law_moving
  unfold b__law_moving
  exact (fb_tup 2 3 rfl S.nd (by decide) (fv_d (fe_op op_addAll (padd_ok _) fe_int (fe_callPC 0 (ok__law_roll T) (hr.mono (by decide)) tk (wk0 hrx) (fa_cons (fe_name 1) fa_nil)))) (fv_d (fe_op op_addAll (padd_ok _) fe_int (fe_callPC 0 (ok__law_roll T) (hr.mono (by decide)) tk (wk0 hrx) (fa_cons (fe_ifExp (ft_cmp (op_eqP (hu64 hr)) (peq_ok _) (nomark _) (fe_callPC 0 (ok__law_roll T) (hr.mono (by decide)) tk (wk0 hrx) (fa_cons fe_int fa_nil)) fe_int) fe_int fe_int) fa_nil)))) fun x1 x2 => (fb_par 4 5 rfl S.nd (by decide) (fv_d (fe_callPC 0 (ok__law_roll T) (hr.mono (by decide)) tk (wk0 hrx) (fa_cons fe_int fa_nil))) (fv_o (fo_lst fa_nil (by show 0 ≤ sizeLine; decide))) fun x3 x4 => (fb_for (e0 := fun t5 : List PyData => [.cup, .d d_most, .d x1, .d x2, .d x3, .own t5, .un, .un, .un]) x4 po rfl (fi_range1 T.z_range (fe_name 3)) (fg_name 6 S.nd) (.keep (.keep (.keep (.keep (.keep (.keep (.drop (.drop (.drop .nil))))))))) (fun x6 t5 => (fb_set 7 S.nd (fe_callPC 0 (ok__law_order T) (hr.mono (by decide)) tk (wk0 hrx) (fa_cons (fe_name 2) fa_nil)) fun x7 => (fb_if (emb' := fun t8 : PyData => [.cup, .d d_most, .d x1, .d x2, .d x3, .own t5, .d x6, .d t8, .un]) (FW.ft (fw_or (ft_cmp (op_eqP (hu64 hr)) (peq_ok _) (nomark _) (fe_name 4) fe_int) (fw_or1 (FW.ft (fw_and (ft_cmp (op_eqP (hu64 hr)) (peq_ok _) (nomark _) (fe_name 4) fe_int) (fw_and1 (ft_cmp op_gt (pcmp_ok _ _) (nomark _) (fe_name 6) fe_int))))))) (fb_set 7 S.nd (fe_tuple T.z_tuple (fe_of (fo_lc (own := [("spot", 8)]) rfl S.nd (fi_range1 T.z_range (fe_name 2)) (blkOk_by (by first | rfl | with_unfolding_all rfl)) (fun s0 H0 Ca cl fp => fg_name 8 S.nd) (fun t9 s0 H0 Ca cl fp => fts_nil) (fun t9 s0 H0 Ca cl fp => (fe_callPC 0 (ok__law_roll T) (hr.mono (by decide)) takes0 .nil (fa_cons (fe_name 2) fa_nil)))))) fun x10 => (fb_nil x10 (.keep (.keep (.keep (.keep (.keep (.keep (.keep (.keep (.drop .nil))))))))))) (fb_nil x7 (.keep (.keep (.keep (.keep (.keep (.keep (.keep (.keep (.drop .nil)))))))))) fun t8 => (fb_if (emb' := fun t11 : PyData => [.cup, .d d_most, .d x1, .d x2, .d x3, .own t5, .d x6, .d t11, .un]) (FW.ft (fw_and (ft_cmp (op_eqP (hu64 hr)) (peq_ok _) (nomark _) (fe_name 4) fe_int) (fw_and1 (ft_cmp op_gt (pcmp_ok _ _) (nomark _) (fe_name 6) fe_int)))) (fb_set 7 S.nd (fe_tuple T.z_tuple (fe_of (fo_lc (own := [("spot", 8)]) rfl S.nd (fi_range1 T.z_range (fe_name 2)) (blkOk_by (by first | rfl | with_unfolding_all rfl)) (fun s0 H0 Ca cl fp => fg_name 8 S.nd) (fun t12 s0 H0 Ca cl fp => fts_nil) (fun t12 s0 H0 Ca cl fp => (fe_ifExp (ft_cmp (op_eqP (hu64 hr)) (peq_ok _) (nomark _) (fe_name 8) (fe_op op_sub (psub_ok _) (fe_name 2) fe_int)) fe_int (fe_name 8)))))) fun x13 => (fb_nil x13 (.keep (.keep (.keep (.keep (.keep (.keep (.keep (.keep (.drop .nil))))))))))) (fb_nil t8 (.keep (.keep (.keep (.keep (.keep (.keep (.keep (.keep (.drop .nil)))))))))) fun t11 => (fb_append 5 (fe_name 7) fun x14 => (fb_nil (t5 ++ [x14]) (.keep (.keep (.keep (.keep (.keep (.keep (.drop (.drop (.drop .nil))))))))))))))) fun t5 => (fb_frz 5 (fb_ret (fe_tuple T.z_tuple (fe_name 5)))))))
theorem ok__law_moving (T : Top K mg) : Pr P w K mg base 3 "_law_moving" ["cup", "most"] (spD K mg true false 1 (ap1 m__law_moving)) := by
  have S := sc__law_moving
  exact pr_d (un := 7) T.d__law_moving S (fun _ _ _ _ _ _ us hl => match us, hl with | [_, _], _ => rfl) rfl rfl (fun f cdv A outer s H E C ds hr tk po hrx hc0 hd => by
    match ds, hd with
    | [d_most], _ => exact ⟨b__law_moving d_most, fun _ => rfl, w__law_moving T hr tk po hrx hc0⟩) (fun z => nomatch z)
/-! law -/
abbrev sD_law : Stmt := top 47
theorem sc_law : FnScope ["script", "cup", "some", "turn", "told", "most", "size", "ring", "slow", "down", "spot"] ["script"] (defScope sD_law) := ⟨rfl, rfl, rfl, by decide +kernel, rfl, by decide +kernel, by decide +kernel⟩
theorem w_law (T : Top K mg) {d_script : PyData} {f : Addr} {cdv : Value} {A : Around} {outer : List Env} {s : Shared} {H : Hp} {E : XK} {C : Ct} (hr : Room 15 (A.deeper (envOfC "law" (defScope sD_law) s.heap.objs.size f cdv))) (tk : Takes (cxD P w K mg base ["script", "cup", "some", "turn", "told", "most", "size", "ring", "slow", "down", "spot"] "law" (defScope sD_law) f cdv A outer s H E) C.W) (po : PassesOwn (model P w) (cxD P w K mg base ["script", "cup", "some", "turn", "told", "most", "size", "ring", "slow", "down", "spot"] "law" (defScope sD_law) f cdv A outer s H E).A (cxD P w K mg base ["script", "cup", "some", "turn", "told", "most", "size", "ring", "slow", "down", "spot"] "law" (defScope sD_law) f cdv A outer s H E).env (cxD P w K mg base ["script", "cup", "some", "turn", "told", "most", "size", "ring", "slow", "down", "spot"] "law" (defScope sD_law) f cdv A outer s H E).xe) (hrx : C.rx = []) (hc0 : C.c.isSome = false) :
    FB (cxD P w K mg base ["script", "cup", "some", "turn", "told", "most", "size", "ring", "slow", "down", "spot"] "law" (defScope sD_law) f cdv A outer s H E) C (slots0 false [d_script] 10) (fun _ : Unit => []) (fun b : Empty => nomatch b) false (defBody sD_law) (b_law d_script) := by
  have S := sc_law
  have hc0 := Option.isNone_iff_eq_none.mp (by simpa using hc0)
  unfold b_law
  exact (fb_newcup 1 (fun _ => rfl) hc0 hrx (noCup_of rfl) S.nd (fo_callP (ok__law_cup T) (hr.mono (by decide)) tk (wk0 hrx) (fa_cons (fe_name 0) fa_nil)) fun a2 cs1 => (fb_ifR (emb0 := fun z : Empty => nomatch z) (ft_not (ft_val (fe_callP (ok__law_like T 12) (hr.mono (by decide)) tk (wk0 hrx) (fa_cons (fe_callP (ok_fewest_to_one T) (hr.mono (by decide)) tk (wk0 hrx) (fa_cons (fe_tup (fa_cons (fe_tup (fa_cons fe_int (fa_cons fe_int (fa_cons fe_int (fa_cons fe_int (fa_cons fe_int fa_nil))))) (by show 5 ≤ sizeLine; decide)) (fa_cons (fe_tup (fa_cons fe_int (fa_cons fe_int (fa_cons fe_int (fa_cons fe_int (fa_cons fe_int fa_nil))))) (by show 5 ≤ sizeLine; decide)) fa_nil)) (by show 2 ≤ sizeLine; decide)) fa_nil)) (fa_cons fe_int fa_nil))))) (fb_ret fe_bl) (fb_tup 2 3 rfl S.nd (by decide) (fv_d (fe_tup (fa_cons (fe_tup (fa_cons fe_int (fa_cons fe_int (fa_cons fe_int fa_nil))) (by show 3 ≤ sizeLine; decide)) (fa_cons (fe_tup (fa_cons fe_int (fa_cons fe_int (fa_cons fe_int fa_nil))) (by show 3 ≤ sizeLine; decide)) fa_nil)) (by show 2 ≤ sizeLine; decide))) (fv_d (fe_tup (fa_cons (fe_tup (fa_cons fe_int (fa_cons fe_int fa_nil)) (by show 2 ≤ sizeLine; decide)) (fa_cons (fe_tup (fa_cons fe_int (fa_cons fe_int fa_nil)) (by show 2 ≤ sizeLine; decide)) fa_nil)) (by show 2 ≤ sizeLine; decide))) fun x3 x4 => (fb_set 4 S.nd (fe_of (fo_lst (fa_cons (fe_callP (ok_fewest_to_one T) (hr.mono (by decide)) tk (wk0 hrx) (fa_cons (fe_name 2) fa_nil)) (fa_cons (fe_callP (ok_word_to_one T) (hr.mono (by decide)) tk (wk0 hrx) (fa_cons (fe_name 2) fa_nil)) (fa_cons (fe_callP (ok_is_word_to_one T) (hr.mono (by decide)) tk (wk0 hrx) (fa_cons (fe_name 2) (fa_cons (fe_tup (fa_cons fe_int (fa_cons fe_int (fa_cons fe_int (fa_cons fe_int fa_nil)))) (by show 4 ≤ sizeLine; decide)) fa_nil))) (fa_cons (fe_callP (ok_is_word_to_one T) (hr.mono (by decide)) tk (wk0 hrx) (fa_cons (fe_name 2) (fa_cons (fe_tup (fa_cons fe_int (fa_cons fe_int (fa_cons fe_int fa_nil))) (by show 3 ≤ sizeLine; decide)) fa_nil))) (fa_cons (fe_callP (ok_word_to_one T) (hr.mono (by decide)) tk (wk0 hrx) (fa_cons (fe_tup (fa_cons (fe_tup (fa_cons fe_int fa_nil) (by show 1 ≤ sizeLine; decide)) fa_nil) (by show 1 ≤ sizeLine; decide)) fa_nil)) fa_nil))))) (by show 5 ≤ sizeLine; decide))) fun x5 => (fb_set 4 S.nd (fe_op op_addAll (padd_ok _) (fe_name 4) (fe_of (fo_lst (fa_cons (fe_callP (ok_fewest_to_one T) (hr.mono (by decide)) tk (wk0 hrx) (fa_cons (fe_name 3) fa_nil)) (fa_cons (fe_callP (ok_apart_spots T) (hr.mono (by decide)) tk (wk0 hrx) (fa_cons (fe_name 3) fa_nil)) (fa_cons (fe_callP (ok_apart_spots T) (hr.mono (by decide)) tk (wk0 hrx) (fa_cons (fe_name 2) fa_nil)) (fa_cons (fe_callP (ok_are_apart_spots T) (hr.mono (by decide)) tk (wk0 hrx) (fa_cons (fe_name 3) (fa_cons (fe_tup (fa_cons fe_int (fa_cons fe_int fa_nil)) (by show 2 ≤ sizeLine; decide)) fa_nil))) (fa_cons (fe_callP (ok_are_apart_spots T) (hr.mono (by decide)) tk (wk0 hrx) (fa_cons (fe_name 3) (fa_cons (fe_tup (fa_cons fe_int (fa_cons fe_int fa_nil)) (by show 2 ≤ sizeLine; decide)) fa_nil))) fa_nil))))) (by show 5 ≤ sizeLine; decide)))) fun x6 => (fb_ifR (emb0 := fun z : Empty => nomatch z) (ft_not (ft_val (fe_callP (ok__law_like T 12) (hr.mono (by decide)) tk (wk0 hrx) (fa_cons (fe_name 4) (fa_cons (fe_of (fo_lst (fa_cons fe_int (fa_cons (fe_tup (fa_cons fe_int (fa_cons fe_int (fa_cons fe_int (fa_cons fe_int fa_nil)))) (by show 4 ≤ sizeLine; decide)) (fa_cons fe_bl (fa_cons fe_bl (fa_cons (fe_tup fa_nil (by show 0 ≤ sizeLine; decide)) (fa_cons fe_non (fa_cons (fe_tup (fa_cons fe_int (fa_cons fe_int fa_nil)) (by show 2 ≤ sizeLine; decide)) (fa_cons fe_non (fa_cons fe_bl (fa_cons fe_bl fa_nil)))))))))) (by show 10 ≤ sizeLine; decide))) fa_nil))))) (fb_ret fe_bl) (fb_for (e0 := fun t7 : Unit => [.d d_script, .cup, .d x3, .d x4, .d x6, .un, .un, .un, .un, .un, .un]) () po rfl (fi_any (fe_tup (fa_cons fe_int (fa_cons fe_int (fa_cons fe_int (fa_cons fe_int (fa_cons fe_int fa_nil))))) (by show 5 ≤ sizeLine; decide))) (fg_name 5 S.nd) (.keep (.keep (.keep (.keep (.keep (.drop (.drop (.drop (.drop (.drop (.drop .nil))))))))))) (fun x8 t7 => (fb_ifR (emb0 := fun z : Empty => nomatch z) (ft_not (ft_val (fe_callPC 1 (ok__law_right T) (hr.mono (by decide)) tk (wk0 hrx) (fa_cons (fe_callPC 1 (ok__law_moving T) (hr.mono (by decide)) tk (wk0 hrx) (fa_cons (fe_name 5) fa_nil)) fa_nil)))) (fb_ret fe_bl) (fb_nil () (.keep (.keep (.keep (.keep (.keep (.drop (.drop (.drop (.drop (.drop (.drop .nil)))))))))))))) fun t7 => (fb_set 6 S.nd (fe_op op_addAll (padd_ok _) fe_int (fe_callPC 1 (ok__law_roll T) (hr.mono (by decide)) tk (wk0 hrx) (fa_cons fe_int fa_nil))) fun x9 => (fb_set 7 S.nd (fe_tuple T.z_tuple (fe_of (fo_lc (own := [("spot", 10)]) rfl S.nd (fi_range1 T.z_range (fe_name 6)) (blkOk_by (by first | rfl | with_unfolding_all rfl)) (fun s0 H0 Ca cl fp => fg_name 10 S.nd) (fun t10 s0 H0 Ca cl fp => fts_nil) (fun t10 s0 H0 Ca cl fp => (fe_op op_mod (pmod_ok _) (fe_intOf T.z_int (fe_op op_addAll (padd_ok _) (fe_name 10) fe_int)) (fe_name 6)))))) fun x11 => (fb_set 8 S.nd (fe_op op_addAll (padd_ok _) (fe_op op_addAll (padd_ok _) (fe_tup (fa_cons (fe_name 7) fa_nil) (by show 1 ≤ sizeLine; decide)) (fe_op op_mulT (pmulT_ok _) (fe_tup (fa_cons (fe_tupRg rfl T.z_tuple T.z_range (fe_name 6)) fa_nil) (by show 1 ≤ sizeLine; decide)) (fe_callPC 1 (ok__law_roll T) (hr.mono (by decide)) tk (wk0 hrx) (fa_cons fe_int fa_nil)))) (fe_tup (fa_cons (fe_tuple T.z_tuple (fe_of (fo_lc (own := [("spot", 10)]) rfl S.nd (fi_range1 T.z_range (fe_name 6)) (blkOk_by (by first | rfl | with_unfolding_all rfl)) (fun s0 H0 Ca cl fp => fg_name 10 S.nd) (fun t12 s0 H0 Ca cl fp => fts_nil) (fun t12 s0 H0 Ca cl fp => (fe_ifExp (ft_cmp (op_eqP (hu64 hr)) (peq_ok _) (nomark _) (fe_name 10) (fe_op op_sub (psub_ok _) (fe_name 6) fe_int)) fe_int (fe_name 10)))))) fa_nil) (by show 1 ≤ sizeLine; decide))) fun x13 => (fb_ifR (emb0 := fun z : Empty => nomatch z) (FW.ft (fw_or (ft_not (ft_val (fe_callP (ok__law_like T 12) (hr.mono (by decide)) tk (wk0 hrx) (fa_cons (fe_callP (ok_fewest_to_one T) (hr.mono (by decide)) tk (wk0 hrx) (fa_cons (fe_name 8) fa_nil)) (fa_cons (fe_op op_mulT (pmulT_ok _) (fe_op op_sub (psub_ok _) (fe_name 6) fe_int) (fe_op op_sub (psub_ok _) (fe_name 6) fe_int)) fa_nil))))) (fw_or1 (ft_not (ft_val (fe_callPC 1 (ok__law_right T) (hr.mono (by decide)) tk (wk0 hrx) (fa_cons (fe_name 8) fa_nil))))))) (fb_ret fe_bl) (fb_set 9 S.nd (fe_tup (fa_cons (fe_tuple T.z_tuple (fe_of (fo_lc (own := [("spot", 10)]) rfl S.nd (fi_range1 T.z_range (fe_name 6)) (blkOk_by (by first | rfl | with_unfolding_all rfl)) (fun s0 H0 Ca cl fp => fg_name 10 S.nd) (fun t14 s0 H0 Ca cl fp => fts_nil) (fun t14 s0 H0 Ca cl fp => (fe_max2 rfl T.z_max fe_int (fe_op op_sub (psub_ok _) (fe_name 10) fe_int)))))) fa_nil) (by show 1 ≤ sizeLine; decide)) fun x15 => (fb_set 4 S.nd (fe_of (fo_lst (fa_cons (fe_callP (ok_fewest_to_one T) (hr.mono (by decide)) tk (wk0 hrx) (fa_cons (fe_name 9) fa_nil)) (fa_cons (fe_callP (ok_word_to_one T) (hr.mono (by decide)) tk (wk0 hrx) (fa_cons (fe_name 9) fa_nil)) (fa_cons (fe_callP (ok_fewest_to_one T) (hr.mono (by decide)) tk (wk0 hrx) (fa_cons (fe_tup (fa_cons (fe_name 7) (fa_cons (fe_op op_mulT (pmulT_ok _) (fe_tup (fa_cons fe_int fa_nil) (by show 1 ≤ sizeLine; decide)) (fe_name 6)) fa_nil)) (by show 2 ≤ sizeLine; decide)) fa_nil)) (fa_cons (fe_callP (ok_moved_row T) (hr.mono (by decide)) tk (wk0 hrx) (fa_cons (fe_name 9) (fa_cons (fe_op op_mulT (pmulT_ok _) (fe_tup (fa_cons fe_int fa_nil) (by show 1 ≤ sizeLine; decide)) (fe_op op_sub (psub_ok _) (fe_name 6) fe_int)) fa_nil))) fa_nil)))) (by show 4 ≤ sizeLine; decide))) fun x16 => (fb_ret (fe_callP (ok__law_like T 12) (hr.mono (by decide)) tk (wk0 hrx) (fa_cons (fe_name 4) (fa_cons (fe_of (fo_lst (fa_cons (fe_op op_sub (psub_ok _) (fe_name 6) fe_int) (fa_cons (fe_op op_mulT (pmulT_ok _) (fe_tup (fa_cons fe_int fa_nil) (by show 1 ≤ sizeLine; decide)) (fe_op op_sub (psub_ok _) (fe_name 6) fe_int)) (fa_cons fe_int (fa_cons (fe_op op_mulT (pmulT_ok _) (fe_tup (fa_cons fe_int fa_nil) (by show 1 ≤ sizeLine; decide)) (fe_name 6)) fa_nil)))) (by show 4 ≤ sizeLine; decide))) fa_nil)))))))))))))))))
theorem ok_law (T : Top K mg) : Pr P w K mg base 16 "law" ["script"] (spD K mg false false 1 (ap1 m_law)) := by
  have S := sc_law
  exact pr_d (un := 10) T.d_law S (fun _ _ _ _ _ _ us hl => match us, hl with | [_], _ => rfl) rfl rfl (fun f cdv A outer s H E C ds hr tk po hrx hc0 hd => by
    match ds, hd with
    | [d_script], _ => exact ⟨b_law d_script, fun _ => rfl, w_law T hr tk po hrx hc0⟩) (fun z => nomatch z)
theorem top_mk {h : Heap} (X : K.In h) (G : h.Ns mainGlobals mg) {f0 : Addr} {oc0 kv0 dc0 pm0 cd0 ct0 : Value} {od0 an0 : Option Addr} {sl0 : Array (Option Value)} {f1 : Addr} {oc1 kv1 dc1 pm1 cd1 ct1 : Value} {od1 an1 : Option Addr} {sl1 : Array (Option Value)} {f2 : Addr} {oc2 kv2 dc2 pm2 cd2 ct2 : Value} {od2 an2 : Option Addr} {sl2 : Array (Option Value)} {f3 : Addr} {oc3 kv3 dc3 pm3 cd3 ct3 : Value} {od3 an3 : Option Addr} {sl3 : Array (Option Value)} {f4 : Addr} {oc4 kv4 dc4 pm4 cd4 ct4 : Value} {od4 an4 : Option Addr} {sl4 : Array (Option Value)} {f5 : Addr} {oc5 kv5 dc5 pm5 cd5 ct5 : Value} {od5 an5 : Option Addr} {sl5 : Array (Option Value)} {f6 : Addr} {oc6 kv6 dc6 pm6 cd6 ct6 : Value} {od6 an6 : Option Addr} {sl6 : Array (Option Value)} {f7 : Addr} {oc7 kv7 dc7 pm7 cd7 ct7 : Value} {od7 an7 : Option Addr} {sl7 : Array (Option Value)} {f8 : Addr} {oc8 kv8 dc8 pm8 cd8 ct8 : Value} {od8 an8 : Option Addr} {sl8 : Array (Option Value)} {f9 : Addr} {oc9 kv9 dc9 pm9 cd9 ct9 : Value} {od9 an9 : Option Addr} {sl9 : Array (Option Value)} {f10 : Addr} {oc10 kv10 dc10 pm10 cd10 ct10 : Value} {od10 an10 : Option Addr} {sl10 : Array (Option Value)} {f11 : Addr} {oc11 kv11 dc11 pm11 cd11 ct11 : Value} {od11 an11 : Option Addr} {sl11 : Array (Option Value)} {f12 : Addr} {oc12 kv12 dc12 pm12 cd12 ct12 : Value} {od12 an12 : Option Addr} {sl12 : Array (Option Value)} {f13 : Addr} {oc13 kv13 dc13 pm13 cd13 ct13 : Value} {od13 an13 : Option Addr} {sl13 : Array (Option Value)} {f14 : Addr} {oc14 kv14 dc14 pm14 cd14 ct14 : Value} {od14 an14 : Option Addr} {sl14 : Array (Option Value)} {f15 : Addr} {oc15 kv15 dc15 pm15 cd15 ct15 : Value} {od15 an15 : Option Addr} {sl15 : Array (Option Value)} {f16 : Addr} {oc16 kv16 dc16 pm16 cd16 ct16 : Value} {od16 an16 : Option Addr} {sl16 : Array (Option Value)} {f17 : Addr} {oc17 kv17 dc17 pm17 cd17 ct17 : Value} {od17 an17 : Option Addr} {sl17 : Array (Option Value)} {f18 : Addr} {oc18 kv18 dc18 pm18 cd18 ct18 : Value} {od18 an18 : Option Addr} {sl18 : Array (Option Value)} {f19 : Addr} {oc19 kv19 dc19 pm19 cd19 ct19 : Value} {od19 an19 : Option Addr} {sl19 : Array (Option Value)} {f20 : Addr} {oc20 kv20 dc20 pm20 cd20 ct20 : Value} {od20 an20 : Option Addr} {sl20 : Array (Option Value)} {f21 : Addr} {oc21 kv21 dc21 pm21 cd21 ct21 : Value} {od21 an21 : Option Addr} {sl21 : Array (Option Value)} {f22 : Addr} {oc22 kv22 dc22 pm22 cd22 ct22 : Value} {od22 an22 : Option Addr} {sl22 : Array (Option Value)} {f23 : Addr} {oc23 kv23 dc23 pm23 cd23 ct23 : Value} {od23 an23 : Option Addr} {sl23 : Array (Option Value)} {f24 : Addr} {oc24 kv24 dc24 pm24 cd24 ct24 : Value} {od24 an24 : Option Addr} {sl24 : Array (Option Value)} {f25 : Addr} {oc25 kv25 dc25 pm25 cd25 ct25 : Value} {od25 an25 : Option Addr} {sl25 : Array (Option Value)} {f26 : Addr} {oc26 kv26 dc26 pm26 cd26 ct26 : Value} {od26 an26 : Option Addr} {sl26 : Array (Option Value)} {f27 : Addr} {oc27 kv27 dc27 pm27 cd27 ct27 : Value} {od27 an27 : Option Addr} {sl27 : Array (Option Value)} {f28 : Addr} {oc28 kv28 dc28 pm28 cd28 ct28 : Value} {od28 an28 : Option Addr} {sl28 : Array (Option Value)} {f29 : Addr} {oc29 kv29 dc29 pm29 cd29 ct29 : Value} {od29 an29 : Option Addr} {sl29 : Array (Option Value)} {f30 : Addr} {oc30 kv30 dc30 pm30 cd30 ct30 : Value} {od30 an30 : Option Addr} {sl30 : Array (Option Value)} {f31 : Addr} {oc31 kv31 dc31 pm31 cd31 ct31 : Value} {od31 an31 : Option Addr} {sl31 : Array (Option Value)} {f32 : Addr} {oc32 kv32 dc32 pm32 cd32 ct32 : Value} {od32 an32 : Option Addr} {sl32 : Array (Option Value)} {f33 : Addr} {oc33 kv33 dc33 pm33 cd33 ct33 : Value} {od33 an33 : Option Addr} {sl33 : Array (Option Value)} {f34 : Addr} {oc34 kv34 dc34 pm34 cd34 ct34 : Value} {od34 an34 : Option Addr} {sl34 : Array (Option Value)} {f35 : Addr} {oc35 kv35 dc35 pm35 cd35 ct35 : Value} {od35 an35 : Option Addr} {sl35 : Array (Option Value)} {f36 : Addr} {oc36 kv36 dc36 pm36 cd36 ct36 : Value} {od36 an36 : Option Addr} {sl36 : Array (Option Value)} {t_LONGEST : Tok} {t_MOST : Tok}
  (a0 : PySem.W.nsIn K mainGlobals "_law_cup" = some (some (.ref f0)))
  (l0 : K.lookup f0 = some ⟨oc0, od0, .func (PySem.W.fnOf "_law_cup" "_law_cup" (defArgs (top 33)) (defBody (top 33)) (defScope (top 33)) .none kv0 dc0 pm0 an0 cd0 ct0), sl0⟩)
  (c0 : PySem.W.codeIn K cd0 "_law_cup" = true)
  (k0 : PySem.W.keepIn K (.ref f0) = true)
  (a1 : PySem.W.nsIn K mainGlobals "_law_sort" = some (some (.ref f1)))
  (l1 : K.lookup f1 = some ⟨oc1, od1, .func (PySem.W.fnOf "_law_sort" "_law_sort" (defArgs (top 35)) (defBody (top 35)) (defScope (top 35)) .none kv1 dc1 pm1 an1 cd1 ct1), sl1⟩)
  (c1 : PySem.W.codeIn K cd1 "_law_sort" = true)
  (k1 : PySem.W.keepIn K (.ref f1) = true)
  (a2 : PySem.W.nsIn K mainGlobals "_law_like" = some (some (.ref f2)))
  (l2 : K.lookup f2 = some ⟨oc2, od2, .func (PySem.W.fnOf "_law_like" "_law_like" (defArgs (top 36)) (defBody (top 36)) (defScope (top 36)) .none kv2 dc2 pm2 an2 cd2 ct2), sl2⟩)
  (c2 : PySem.W.codeIn K cd2 "_law_like" = true)
  (k2 : PySem.W.keepIn K (.ref f2) = true)
  (a3 : PySem.W.nsIn K mainGlobals "is_tuple_of" = some (some (.ref f3)))
  (l3 : K.lookup f3 = some ⟨oc3, od3, .func (PySem.W.fnOf "is_tuple_of" "is_tuple_of" (defArgs (top 7)) (defBody (top 7)) (defScope (top 7)) .none kv3 dc3 pm3 an3 cd3 ct3), sl3⟩)
  (c3 : PySem.W.codeIn K cd3 "is_tuple_of" = true)
  (k3 : PySem.W.keepIn K (.ref f3) = true)
  (a4 : PySem.W.nsIn K mainGlobals "is_integer" = some (some (.ref f4)))
  (l4 : K.lookup f4 = some ⟨oc4, od4, .func (PySem.W.fnOf "is_integer" "is_integer" (defArgs (top 5)) (defBody (top 5)) (defScope (top 5)) .none kv4 dc4 pm4 an4 cd4 ct4), sl4⟩)
  (c4 : PySem.W.codeIn K cd4 "is_integer" = true)
  (k4 : PySem.W.keepIn K (.ref f4) = true)
  (a5 : PySem.W.nsIn K mainGlobals "is_whole" = some (some (.ref f5)))
  (l5 : K.lookup f5 = some ⟨oc5, od5, .func (PySem.W.fnOf "is_whole" "is_whole" (defArgs (top 6)) (defBody (top 6)) (defScope (top 6)) .none kv5 dc5 pm5 an5 cd5 ct5), sl5⟩)
  (c5 : PySem.W.codeIn K cd5 "is_whole" = true)
  (k5 : PySem.W.keepIn K (.ref f5) = true)
  (a6 : PySem.W.nsIn K mainGlobals "are_things" = some (some (.ref f6)))
  (l6 : K.lookup f6 = some ⟨oc6, od6, .func (PySem.W.fnOf "are_things" "are_things" (defArgs (top 8)) (defBody (top 8)) (defScope (top 8)) .none kv6 dc6 pm6 an6 cd6 ct6), sl6⟩)
  (c6 : PySem.W.codeIn K cd6 "are_things" = true)
  (k6 : PySem.W.keepIn K (.ref f6) = true)
  (a7 : PySem.W.nsIn K mainGlobals "fits_moving" = some (some (.ref f7)))
  (l7 : K.lookup f7 = some ⟨oc7, od7, .func (PySem.W.fnOf "fits_moving" "fits_moving" (defArgs (top 12)) (defBody (top 12)) (defScope (top 12)) .none kv7 dc7 pm7 an7 cd7 ct7), sl7⟩)
  (c7 : PySem.W.codeIn K cd7 "fits_moving" = true)
  (k7 : PySem.W.keepIn K (.ref f7) = true)
  (a8 : PySem.W.nsIn K mainGlobals "need_moving" = some (some (.ref f8)))
  (l8 : K.lookup f8 = some ⟨oc8, od8, .func (PySem.W.fnOf "need_moving" "need_moving" (defArgs (top 13)) (defBody (top 13)) (defScope (top 13)) .none kv8 dc8 pm8 an8 cd8 ct8), sl8⟩)
  (c8 : PySem.W.codeIn K cd8 "need_moving" = true)
  (k8 : PySem.W.keepIn K (.ref f8) = true)
  (a9 : PySem.W.nsIn K mainGlobals "lot_by" = some (some (.ref f9)))
  (l9 : K.lookup f9 = some ⟨oc9, od9, .func (PySem.W.fnOf "lot_by" "lot_by" (defArgs (top 20)) (defBody (top 20)) (defScope (top 20)) .none kv9 dc9 pm9 an9 cd9 ct9), sl9⟩)
  (c9 : PySem.W.codeIn K cd9 "lot_by" = true)
  (k9 : PySem.W.keepIn K (.ref f9) = true)
  (a10 : PySem.W.nsIn K mainGlobals "words_from" = some (some (.ref f10)))
  (l10 : K.lookup f10 = some ⟨oc10, od10, .func (PySem.W.fnOf "words_from" "words_from" (defArgs (top 21)) (defBody (top 21)) (defScope (top 21)) .none kv10 dc10 pm10 an10 cd10 ct10), sl10⟩)
  (c10 : PySem.W.codeIn K cd10 "words_from" = true)
  (k10 : PySem.W.keepIn K (.ref f10) = true)
  (a11 : PySem.W.nsIn K mainGlobals "all_spots" = some (some (.ref f11)))
  (l11 : K.lookup f11 = some ⟨oc11, od11, .func (PySem.W.fnOf "all_spots" "all_spots" (defArgs (top 22)) (defBody (top 22)) (defScope (top 22)) .none kv11 dc11 pm11 an11 cd11 ct11), sl11⟩)
  (c11 : PySem.W.codeIn K cd11 "all_spots" = true)
  (k11 : PySem.W.keepIn K (.ref f11) = true)
  (a12 : PySem.W.nsIn K mainGlobals "word_to_size" = some (some (.ref f12)))
  (l12 : K.lookup f12 = some ⟨oc12, od12, .func (PySem.W.fnOf "word_to_size" "word_to_size" (defArgs (top 23)) (defBody (top 23)) (defScope (top 23)) .none kv12 dc12 pm12 an12 cd12 ct12), sl12⟩)
  (c12 : PySem.W.codeIn K cd12 "word_to_size" = true)
  (k12 : PySem.W.keepIn K (.ref f12) = true)
  (a13 : PySem.W.nsIn K mainGlobals "fewest_to_one" = some (some (.ref f13)))
  (l13 : K.lookup f13 = some ⟨oc13, od13, .func (PySem.W.fnOf "fewest_to_one" "fewest_to_one" (defArgs (top 28)) (defBody (top 28)) (defScope (top 28)) .none kv13 dc13 pm13 an13 cd13 ct13), sl13⟩)
  (c13 : PySem.W.codeIn K cd13 "fewest_to_one" = true)
  (k13 : PySem.W.keepIn K (.ref f13) = true)
  (a14 : PySem.W.nsIn K mainGlobals "word_to_one" = some (some (.ref f14)))
  (l14 : K.lookup f14 = some ⟨oc14, od14, .func (PySem.W.fnOf "word_to_one" "word_to_one" (defArgs (top 27)) (defBody (top 27)) (defScope (top 27)) .none kv14 dc14 pm14 an14 cd14 ct14), sl14⟩)
  (c14 : PySem.W.codeIn K cd14 "word_to_one" = true)
  (k14 : PySem.W.keepIn K (.ref f14) = true)
  (a15 : PySem.W.nsIn K mainGlobals "fits_letters" = some (some (.ref f15)))
  (l15 : K.lookup f15 = some ⟨oc15, od15, .func (PySem.W.fnOf "fits_letters" "fits_letters" (defArgs (top 14)) (defBody (top 14)) (defScope (top 14)) .none kv15 dc15 pm15 an15 cd15 ct15), sl15⟩)
  (c15 : PySem.W.codeIn K cd15 "fits_letters" = true)
  (k15 : PySem.W.keepIn K (.ref f15) = true)
  (a16 : PySem.W.nsIn K mainGlobals "led_to" = some (some (.ref f16)))
  (l16 : K.lookup f16 = some ⟨oc16, od16, .func (PySem.W.fnOf "led_to" "led_to" (defArgs (top 16)) (defBody (top 16)) (defScope (top 16)) .none kv16 dc16 pm16 an16 cd16 ct16), sl16⟩)
  (c16 : PySem.W.codeIn K cd16 "led_to" = true)
  (k16 : PySem.W.keepIn K (.ref f16) = true)
  (a17 : PySem.W.nsIn K mainGlobals "row_by" = some (some (.ref f17)))
  (l17 : K.lookup f17 = some ⟨oc17, od17, .func (PySem.W.fnOf "row_by" "row_by" (defArgs (top 17)) (defBody (top 17)) (defScope (top 17)) .none kv17 dc17 pm17 an17 cd17 ct17), sl17⟩)
  (c17 : PySem.W.codeIn K cd17 "row_by" = true)
  (k17 : PySem.W.keepIn K (.ref f17) = true)
  (a18 : PySem.W.nsIn K mainGlobals "is_word_to_one" = some (some (.ref f18)))
  (l18 : K.lookup f18 = some ⟨oc18, od18, .func (PySem.W.fnOf "is_word_to_one" "is_word_to_one" (defArgs (top 29)) (defBody (top 29)) (defScope (top 29)) .none kv18 dc18 pm18 an18 cd18 ct18), sl18⟩)
  (c18 : PySem.W.codeIn K cd18 "is_word_to_one" = true)
  (k18 : PySem.W.keepIn K (.ref f18) = true)
  (a19 : PySem.W.nsIn K mainGlobals "_law_roll" = some (some (.ref f19)))
  (l19 : K.lookup f19 = some ⟨oc19, od19, .func (PySem.W.fnOf "_law_roll" "_law_roll" (defArgs (top 34)) (defBody (top 34)) (defScope (top 34)) .none kv19 dc19 pm19 an19 cd19 ct19), sl19⟩)
  (c19 : PySem.W.codeIn K cd19 "_law_roll" = true)
  (k19 : PySem.W.keepIn K (.ref f19) = true)
  (a20 : PySem.W.nsIn K mainGlobals "need_letters" = some (some (.ref f20)))
  (l20 : K.lookup f20 = some ⟨oc20, od20, .func (PySem.W.fnOf "need_letters" "need_letters" (defArgs (top 15)) (defBody (top 15)) (defScope (top 15)) .none kv20 dc20 pm20 an20 cd20 ct20), sl20⟩)
  (c20 : PySem.W.codeIn K cd20 "need_letters" = true)
  (k20 : PySem.W.keepIn K (.ref f20) = true)
  (a21 : PySem.W.nsIn K mainGlobals "moved_row" = some (some (.ref f21)))
  (l21 : K.lookup f21 = some ⟨oc21, od21, .func (PySem.W.fnOf "moved_row" "moved_row" (defArgs (top 18)) (defBody (top 18)) (defScope (top 18)) .none kv21 dc21 pm21 an21 cd21 ct21), sl21⟩)
  (c21 : PySem.W.codeIn K cd21 "moved_row" = true)
  (k21 : PySem.W.keepIn K (.ref f21) = true)
  (a22 : PySem.W.nsIn K mainGlobals "are_apart" = some (some (.ref f22)))
  (l22 : K.lookup f22 = some ⟨oc22, od22, .func (PySem.W.fnOf "are_apart" "are_apart" (defArgs (top 25)) (defBody (top 25)) (defScope (top 25)) .none kv22 dc22 pm22 an22 cd22 ct22), sl22⟩)
  (c22 : PySem.W.codeIn K cd22 "are_apart" = true)
  (k22 : PySem.W.keepIn K (.ref f22) = true)
  (a23 : PySem.W.nsIn K mainGlobals "apart_in" = some (some (.ref f23)))
  (l23 : K.lookup f23 = some ⟨oc23, od23, .func (PySem.W.fnOf "apart_in" "apart_in" (defArgs (top 26)) (defBody (top 26)) (defScope (top 26)) .none kv23 dc23 pm23 an23 cd23 ct23), sl23⟩)
  (c23 : PySem.W.codeIn K cd23 "apart_in" = true)
  (k23 : PySem.W.keepIn K (.ref f23) = true)
  (a24 : PySem.W.nsIn K mainGlobals "apart_spots" = some (some (.ref f24)))
  (l24 : K.lookup f24 = some ⟨oc24, od24, .func (PySem.W.fnOf "apart_spots" "apart_spots" (defArgs (top 30)) (defBody (top 30)) (defScope (top 30)) .none kv24 dc24 pm24 an24 cd24 ct24), sl24⟩)
  (c24 : PySem.W.codeIn K cd24 "apart_spots" = true)
  (k24 : PySem.W.keepIn K (.ref f24) = true)
  (a25 : PySem.W.nsIn K mainGlobals "are_apart_spots" = some (some (.ref f25)))
  (l25 : K.lookup f25 = some ⟨oc25, od25, .func (PySem.W.fnOf "are_apart_spots" "are_apart_spots" (defArgs (top 31)) (defBody (top 31)) (defScope (top 31)) .none kv25 dc25 pm25 an25 cd25 ct25), sl25⟩)
  (c25 : PySem.W.codeIn K cd25 "are_apart_spots" = true)
  (k25 : PySem.W.keepIn K (.ref f25) = true)
  (a26 : PySem.W.nsIn K mainGlobals "_law_lot_by" = some (some (.ref f26)))
  (l26 : K.lookup f26 = some ⟨oc26, od26, .func (PySem.W.fnOf "_law_lot_by" "_law_lot_by" (defArgs (top 42)) (defBody (top 42)) (defScope (top 42)) .none kv26 dc26 pm26 an26 cd26 ct26), sl26⟩)
  (c26 : PySem.W.codeIn K cd26 "_law_lot_by" = true)
  (k26 : PySem.W.keepIn K (.ref f26) = true)
  (a27 : PySem.W.nsIn K mainGlobals "_law_lengths_of" = some (some (.ref f27)))
  (l27 : K.lookup f27 = some ⟨oc27, od27, .func (PySem.W.fnOf "_law_lengths_of" "_law_lengths_of" (defArgs (top 43)) (defBody (top 43)) (defScope (top 43)) .none kv27 dc27 pm27 an27 cd27 ct27), sl27⟩)
  (c27 : PySem.W.codeIn K cd27 "_law_lengths_of" = true)
  (k27 : PySem.W.keepIn K (.ref f27) = true)
  (a28 : PySem.W.nsIn K mainGlobals "_law_word" = some (some (.ref f28)))
  (l28 : K.lookup f28 = some ⟨oc28, od28, .func (PySem.W.fnOf "_law_word" "_law_word" (defArgs (top 40)) (defBody (top 40)) (defScope (top 40)) .none kv28 dc28 pm28 an28 cd28 ct28), sl28⟩)
  (c28 : PySem.W.codeIn K cd28 "_law_word" = true)
  (k28 : PySem.W.keepIn K (.ref f28) = true)
  (a29 : PySem.W.nsIn K mainGlobals "_law_are_apart" = some (some (.ref f29)))
  (l29 : K.lookup f29 = some ⟨oc29, od29, .func (PySem.W.fnOf "_law_are_apart" "_law_are_apart" (defArgs (top 45)) (defBody (top 45)) (defScope (top 45)) .none kv29 dc29 pm29 an29 cd29 ct29), sl29⟩)
  (c29 : PySem.W.codeIn K cd29 "_law_are_apart" = true)
  (k29 : PySem.W.keepIn K (.ref f29) = true)
  (a30 : PySem.W.nsIn K mainGlobals "_law_is_word" = some (some (.ref f30)))
  (l30 : K.lookup f30 = some ⟨oc30, od30, .func (PySem.W.fnOf "_law_is_word" "_law_is_word" (defArgs (top 41)) (defBody (top 41)) (defScope (top 41)) .none kv30 dc30 pm30 an30 cd30 ct30), sl30⟩)
  (c30 : PySem.W.codeIn K cd30 "_law_is_word" = true)
  (k30 : PySem.W.keepIn K (.ref f30) = true)
  (a31 : PySem.W.nsIn K mainGlobals "_law_led_by" = some (some (.ref f31)))
  (l31 : K.lookup f31 = some ⟨oc31, od31, .func (PySem.W.fnOf "_law_led_by" "_law_led_by" (defArgs (top 39)) (defBody (top 39)) (defScope (top 39)) .none kv31 dc31 pm31 an31 cd31 ct31), sl31⟩)
  (c31 : PySem.W.codeIn K cd31 "_law_led_by" = true)
  (k31 : PySem.W.keepIn K (.ref f31) = true)
  (a32 : PySem.W.nsIn K mainGlobals "_law_is_to_one" = some (some (.ref f32)))
  (l32 : K.lookup f32 = some ⟨oc32, od32, .func (PySem.W.fnOf "_law_is_to_one" "_law_is_to_one" (defArgs (top 44)) (defBody (top 44)) (defScope (top 44)) .none kv32 dc32 pm32 an32 cd32 ct32), sl32⟩)
  (c32 : PySem.W.codeIn K cd32 "_law_is_to_one" = true)
  (k32 : PySem.W.keepIn K (.ref f32) = true)
  (a33 : PySem.W.nsIn K mainGlobals "_law_right" = some (some (.ref f33)))
  (l33 : K.lookup f33 = some ⟨oc33, od33, .func (PySem.W.fnOf "_law_right" "_law_right" (defArgs (top 46)) (defBody (top 46)) (defScope (top 46)) .none kv33 dc33 pm33 an33 cd33 ct33), sl33⟩)
  (c33 : PySem.W.codeIn K cd33 "_law_right" = true)
  (k33 : PySem.W.keepIn K (.ref f33) = true)
  (a34 : PySem.W.nsIn K mainGlobals "_law_order" = some (some (.ref f34)))
  (l34 : K.lookup f34 = some ⟨oc34, od34, .func (PySem.W.fnOf "_law_order" "_law_order" (defArgs (top 37)) (defBody (top 37)) (defScope (top 37)) .none kv34 dc34 pm34 an34 cd34 ct34), sl34⟩)
  (c34 : PySem.W.codeIn K cd34 "_law_order" = true)
  (k34 : PySem.W.keepIn K (.ref f34) = true)
  (a35 : PySem.W.nsIn K mainGlobals "_law_moving" = some (some (.ref f35)))
  (l35 : K.lookup f35 = some ⟨oc35, od35, .func (PySem.W.fnOf "_law_moving" "_law_moving" (defArgs (top 38)) (defBody (top 38)) (defScope (top 38)) .none kv35 dc35 pm35 an35 cd35 ct35), sl35⟩)
  (c35 : PySem.W.codeIn K cd35 "_law_moving" = true)
  (k35 : PySem.W.keepIn K (.ref f35) = true)
  (a36 : PySem.W.nsIn K mainGlobals "law" = some (some (.ref f36)))
  (l36 : K.lookup f36 = some ⟨oc36, od36, .func (PySem.W.fnOf "law" "law" (defArgs (top 47)) (defBody (top 47)) (defScope (top 47)) .none kv36 dc36 pm36 an36 cd36 ct36), sl36⟩)
  (c36 : PySem.W.codeIn K cd36 "law" = true)
  (k36 : PySem.W.keepIn K (.ref f36) = true)
  (z_abs : PySem.W.nsIn K mainGlobals "abs" = some none)
  (z_all : PySem.W.nsIn K mainGlobals "all" = some none)
  (z_bool : PySem.W.nsIn K mainGlobals "bool" = some none)
  (z_enumerate : PySem.W.nsIn K mainGlobals "enumerate" = some none)
  (z_int : PySem.W.nsIn K mainGlobals "int" = some none)
  (z_isinstance : PySem.W.nsIn K mainGlobals "isinstance" = some none)
  (z_len : PySem.W.nsIn K mainGlobals "len" = some none)
  (z_list : PySem.W.nsIn K mainGlobals "list" = some none)
  (z_max : PySem.W.nsIn K mainGlobals "max" = some none)
  (z_min : PySem.W.nsIn K mainGlobals "min" = some none)
  (z_range : PySem.W.nsIn K mainGlobals "range" = some none)
  (z_set : PySem.W.nsIn K mainGlobals "set" = some none)
  (z_sorted : PySem.W.nsIn K mainGlobals "sorted" = some none)
  (z_str : PySem.W.nsIn K mainGlobals "str" = some none)
  (z_tuple : PySem.W.nsIn K mainGlobals "tuple" = some none)
  (z_zip : PySem.W.nsIn K mainGlobals "zip" = some none)
  (g_LONGEST : PySem.W.nsIn K mainGlobals "LONGEST" = some (some (.int 200 t_LONGEST)))
  (g_MOST : PySem.W.nsIn K mainGlobals "MOST" = some (some (.int 8 t_MOST))) : Top K mg :=
  ⟨defF_mk X G a0 l0 c0 k0,
   defF_mk X G a1 l1 c1 k1,
   defF_mk X G a2 l2 c2 k2,
   defF_mk X G a3 l3 c3 k3,
   defF_mk X G a4 l4 c4 k4,
   defF_mk X G a5 l5 c5 k5,
   defF_mk X G a6 l6 c6 k6,
   defF_mk X G a7 l7 c7 k7,
   defF_mk X G a8 l8 c8 k8,
   defF_mk X G a9 l9 c9 k9,
   defF_mk X G a10 l10 c10 k10,
   defF_mk X G a11 l11 c11 k11,
   defF_mk X G a12 l12 c12 k12,
   defF_mk X G a13 l13 c13 k13,
   defF_mk X G a14 l14 c14 k14,
   defF_mk X G a15 l15 c15 k15,
   defF_mk X G a16 l16 c16 k16,
   defF_mk X G a17 l17 c17 k17,
   defF_mk X G a18 l18 c18 k18,
   defF_mk X G a19 l19 c19 k19,
   defF_mk X G a20 l20 c20 k20,
   defF_mk X G a21 l21 c21 k21,
   defF_mk X G a22 l22 c22 k22,
   defF_mk X G a23 l23 c23 k23,
   defF_mk X G a24 l24 c24 k24,
   defF_mk X G a25 l25 c25 k25,
   defF_mk X G a26 l26 c26 k26,
   defF_mk X G a27 l27 c27 k27,
   defF_mk X G a28 l28 c28 k28,
   defF_mk X G a29 l29 c29 k29,
   defF_mk X G a30 l30 c30 k30,
   defF_mk X G a31 l31 c31 k31,
   defF_mk X G a32 l32 c32 k32,
   defF_mk X G a33 l33 c33 k33,
   defF_mk X G a34 l34 c34 k34,
   defF_mk X G a35 l35 c35 k35,
   defF_mk X G a36 l36 c36 k36,
   PySem.W.mg_none_of X G z_abs,
   PySem.W.mg_none_of X G z_all,
   PySem.W.mg_none_of X G z_bool,
   PySem.W.mg_none_of X G z_enumerate,
   PySem.W.mg_none_of X G z_int,
   PySem.W.mg_none_of X G z_isinstance,
   PySem.W.mg_none_of X G z_len,
   PySem.W.mg_none_of X G z_list,
   PySem.W.mg_none_of X G z_max,
   PySem.W.mg_none_of X G z_min,
   PySem.W.mg_none_of X G z_range,
   PySem.W.mg_none_of X G z_set,
   PySem.W.mg_none_of X G z_sorted,
   PySem.W.mg_none_of X G z_str,
   PySem.W.mg_none_of X G z_tuple,
   PySem.W.mg_none_of X G z_zip,
   globI_mk X G g_LONGEST,
   globI_mk X G g_MOST⟩
end
end L82
end

open PySem PySem.W PyProof.Rows
set_option maxHeartbeats 0 in
theorem PySem.Challenge.cw_productstold_k82_whole_words_to_one_spot_holds : PySem.Challenge.rw_productstold_k82_whole_words_to_one_spot.Holds := by
  w_on; o_law; k_head; (case hw => w_witness2)
  k_fill
  refine DL.end_law (l := PySem.Challenge.rw_productstold_k82_whole_words_to_one_spot) (n := 63) (k := 16) (st := L82.top 47) rfl (by decide) rfl ⟨rfl, by decide, by decide⟩ rfl (fun w h Y => PySem.W.kIn_of Y) ?F ?D (fun _ _ _ _ _ _ us hl => match us, hl with | [_], _ => rfl) L82.law_true
  case F =>
    intro w mg h KX G base KB GB
    refine' L82.ok_law ?T
    refine' L82.top_mk KX G ?a0 ?l0 ?c0 ?k0 ?a1 ?l1 ?c1 ?k1 ?a2 ?l2 ?c2 ?k2 ?a3 ?l3 ?c3 ?k3 ?a4 ?l4 ?c4 ?k4 ?a5 ?l5 ?c5 ?k5 ?a6 ?l6 ?c6 ?k6 ?a7 ?l7 ?c7 ?k7 ?a8 ?l8 ?c8 ?k8 ?a9 ?l9 ?c9 ?k9 ?a10 ?l10 ?c10 ?k10 ?a11 ?l11 ?c11 ?k11 ?a12 ?l12 ?c12 ?k12 ?a13 ?l13 ?c13 ?k13 ?a14 ?l14 ?c14 ?k14 ?a15 ?l15 ?c15 ?k15 ?a16 ?l16 ?c16 ?k16 ?a17 ?l17 ?c17 ?k17 ?a18 ?l18 ?c18 ?k18 ?a19 ?l19 ?c19 ?k19 ?a20 ?l20 ?c20 ?k20 ?a21 ?l21 ?c21 ?k21 ?a22 ?l22 ?c22 ?k22 ?a23 ?l23 ?c23 ?k23 ?a24 ?l24 ?c24 ?k24 ?a25 ?l25 ?c25 ?k25 ?a26 ?l26 ?c26 ?k26 ?a27 ?l27 ?c27 ?k27 ?a28 ?l28 ?c28 ?k28 ?a29 ?l29 ?c29 ?k29 ?a30 ?l30 ?c30 ?k30 ?a31 ?l31 ?c31 ?k31 ?a32 ?l32 ?c32 ?k32 ?a33 ?l33 ?c33 ?k33 ?a34 ?l34 ?c34 ?k34 ?a35 ?l35 ?c35 ?k35 ?a36 ?l36 ?c36 ?k36 ?z_abs ?z_all ?z_bool ?z_enumerate ?z_int ?z_isinstance ?z_len ?z_list ?z_max ?z_min ?z_range ?z_set ?z_sorted ?z_str ?z_tuple ?z_zip ?g_LONGEST ?g_MOST
    (case a0 => k_is); (case l0 => k_is); (case c0 => k_is); (case k0 => k_is); (case a1 => k_is); (case l1 => k_is); (case c1 => k_is); (case k1 => k_is); (case a2 => k_is); (case l2 => k_is); (case c2 => k_is); (case k2 => k_is); (case a3 => k_is); (case l3 => k_is); (case c3 => k_is); (case k3 => k_is); (case a4 => k_is); (case l4 => k_is); (case c4 => k_is); (case k4 => k_is); (case a5 => k_is); (case l5 => k_is); (case c5 => k_is); (case k5 => k_is); (case a6 => k_is); (case l6 => k_is); (case c6 => k_is); (case k6 => k_is); (case a7 => k_is); (case l7 => k_is); (case c7 => k_is); (case k7 => k_is); (case a8 => k_is); (case l8 => k_is); (case c8 => k_is); (case k8 => k_is); (case a9 => k_is); (case l9 => k_is); (case c9 => k_is); (case k9 => k_is); (case a10 => k_is); (case l10 => k_is); (case c10 => k_is); (case k10 => k_is); (case a11 => k_is); (case l11 => k_is); (case c11 => k_is); (case k11 => k_is); (case a12 => k_is); (case l12 => k_is); (case c12 => k_is); (case k12 => k_is); (case a13 => k_is); (case l13 => k_is); (case c13 => k_is); (case k13 => k_is); (case a14 => k_is); (case l14 => k_is); (case c14 => k_is); (case k14 => k_is); (case a15 => k_is); (case l15 => k_is); (case c15 => k_is); (case k15 => k_is); (case a16 => k_is); (case l16 => k_is); (case c16 => k_is); (case k16 => k_is); (case a17 => k_is); (case l17 => k_is); (case c17 => k_is); (case k17 => k_is); (case a18 => k_is); (case l18 => k_is); (case c18 => k_is); (case k18 => k_is); (case a19 => k_is); (case l19 => k_is); (case c19 => k_is); (case k19 => k_is); (case a20 => k_is); (case l20 => k_is); (case c20 => k_is); (case k20 => k_is); (case a21 => k_is); (case l21 => k_is); (case c21 => k_is); (case k21 => k_is); (case a22 => k_is); (case l22 => k_is); (case c22 => k_is); (case k22 => k_is); (case a23 => k_is); (case l23 => k_is); (case c23 => k_is); (case k23 => k_is); (case a24 => k_is); (case l24 => k_is); (case c24 => k_is); (case k24 => k_is); (case a25 => k_is); (case l25 => k_is); (case c25 => k_is); (case k25 => k_is); (case a26 => k_is); (case l26 => k_is); (case c26 => k_is); (case k26 => k_is); (case a27 => k_is); (case l27 => k_is); (case c27 => k_is); (case k27 => k_is); (case a28 => k_is); (case l28 => k_is); (case c28 => k_is); (case k28 => k_is); (case a29 => k_is); (case l29 => k_is); (case c29 => k_is); (case k29 => k_is); (case a30 => k_is); (case l30 => k_is); (case c30 => k_is); (case k30 => k_is); (case a31 => k_is); (case l31 => k_is); (case c31 => k_is); (case k31 => k_is); (case a32 => k_is); (case l32 => k_is); (case c32 => k_is); (case k32 => k_is); (case a33 => k_is); (case l33 => k_is); (case c33 => k_is); (case k33 => k_is); (case a34 => k_is); (case l34 => k_is); (case c34 => k_is); (case k34 => k_is); (case a35 => k_is); (case l35 => k_is); (case c35 => k_is); (case k35 => k_is); (case a36 => k_is); (case l36 => k_is); (case c36 => k_is); (case k36 => k_is); (case z_abs => k_is); (case z_all => k_is); (case z_bool => k_is); (case z_enumerate => k_is); (case z_int => k_is); (case z_isinstance => k_is); (case z_len => k_is); (case z_list => k_is); (case z_max => k_is); (case z_min => k_is); (case z_range => k_is); (case z_set => k_is); (case z_sorted => k_is); (case z_str => k_is); (case z_tuple => k_is); (case z_zip => k_is); (case g_LONGEST => k_is); (case g_MOST => k_is)
  case D =>
    intro w mg h KX G
    refine' DL.defF_mk KX G ?a ?l ?c ?k
    (case a => k_is); (case l => k_is); (case c => k_is); (case k => k_is)
