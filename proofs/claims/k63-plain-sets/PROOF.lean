import PyProof.Rows.All
import Wide.All
import OpenK.AllK
import Wide.FinOn
import PySem.Challenge.RW_countrealm_k63_plain_sets
import HandS.Base
import HandS.Call
import HandS.List
import HandS.Comp
import HandS.Ends
import HandS.EndBits
import HandS.Exc
import HandS.TryOnly
import HandS.ExcOwn
import HandS.ExcIs
import HandS.IsInst
import HandS.Iter
import HandS.Zip
import HandS.Conv
import HandS.TupAny
import HandS.TupMul
import HandS.TupLe
import HandS.Deep
import HandS.Style
import HandS.Wide
import HandS.Words
import HandS.WordsExc
import HandS.SortInts
import HandS.Defaults
import HandS.Head0
import HandS.Head1
import HandS.Head2
import HandS.HeadEnd
import HandS.HeadHook1
import HandS.HeadHook2
import HandS.TupSets
import KE.KStateDown
set_option Elab.async false
set_option linter.all false
set_option maxRecDepth 100000
/-! CR1: data, the monad, what a value stands for. -/
namespace CR
open PySem PySem.Spec PyProof.Rows L2

/-! ### data -/
inductive D where
  | non | bl (b : Bool) | int (i : Int) | str (x : Str) | tup (xs : List D) | lst (xs : List D)

/-! ### the monad: a normal and an exceptional wish -/
structure M (α : Type) where
  wp : (α → Prop) → (Str → Prop) → Prop
  mono : ∀ {Q Q' : α → Prop} {E E' : Str → Prop}, (∀ a, Q a → Q' a) → (∀ x, E x → E' x) → wp Q E → wp Q' E'
namespace M
def pure {α : Type} (a : α) : M α := ⟨fun Q _ => Q a, fun h _ q => h a q⟩
def bind {α β : Type} (m : M α) (f : α → M β) : M β :=
  ⟨fun Q E => m.wp (fun a => (f a).wp Q E) E, fun h h' q => m.mono (fun a z => (f a).mono h h' z) h' q⟩
def stuck {α : Type} : M α := ⟨fun _ _ => False, fun _ _ q => q⟩
def raise {α : Type} (x : Str) : M α := ⟨fun _ E => E x, fun _ h q => h x q⟩
/-- any value that P tells of -/
def any {α : Type} (P : α → Prop) : M α := ⟨fun Q _ => ∀ a, P a → Q a, fun h _ q a p => h a (q a p)⟩
def opt {α : Type} : Option α → M α
  | some a => pure a
  | none => stuck
def ite {α : Type} (b : Bool) (x y : M α) : M α := match b with
  | true => x
  | false => y
def guard (b : Bool) : M Unit := match b with
  | true => pure ()
  | false => stuck
theorem ext {α : Type} {m n : M α} (h : ∀ Q E, m.wp Q E = n.wp Q E) : m = n := by
  cases m with
  | mk p _ => cases n with
    | mk q _ =>
      have e : p = q := funext fun Q => funext fun E => h Q E
      subst e
      rfl
theorem pure_bind {α β : Type} (a : α) (f : α → M β) : bind (pure a) f = f a := rfl
theorem bind_pure {α : Type} (m : M α) : bind m pure = m := rfl
theorem bind_assoc {α β γ : Type} (m : M α) (f : α → M β) (g : β → M γ) : bind (bind m f) g = bind m fun a => bind (f a) g := rfl
theorem stuck_bind {α β : Type} (f : α → M β) : bind stuck f = stuck := rfl
theorem raise_bind {α β : Type} (x : Str) (f : α → M β) : bind (raise x) f = raise x := rfl
/-- no exception may be let out of here -/
def nox {α : Type} (m : M α) : M α := ⟨fun Q _ => m.wp Q fun _ => False, fun h _ q => m.mono h (fun _ z => z) q⟩
theorem nox_pure {α : Type} (a : α) : nox (pure a) = pure a := rfl
end M
instance : Monad M where
  pure := M.pure
  bind := M.bind

/-! ### a value stands for a datum -/
/-- a text of signs, not too long -/
def SOk (x : Str) : Prop := x.length ≤ sizeLine ∧ (x.cps.all fun c => decide (c < 0x110000)) = true
/-- a list that is not written any more (Z: the addresses of those that may be) -/
def FzL (K : PySem.W.Frag) (H : Hp) (Z : Addr → Prop) (a : Addr) (vs : List V) : Prop :=
  (H a = some (.lst vs) ∧ ¬ Z a) ∨ ∃ o, H a = some (.frz o (.lst vs))
mutual
def Rp (K : PySem.W.Frag) (H : Hp) (Z : Addr → Prop) : D → V → Prop
  | .non, v => v = .non
  | .bl b, v => v = .bl b
  | .int i, v => v = .int i
  | .str x, v => v = .str x ∧ SOk x
  | .tup ds, v => ∃ a vs, v = .ref a ∧ SqT K H a vs ∧ Rps K H Z ds vs ∧ ds.length ≤ sizeLine
  | .lst ds, v => ∃ a vs, v = .ref a ∧ FzL K H Z a vs ∧ Rps K H Z ds vs ∧ ds.length ≤ sizeLine
def Rps (K : PySem.W.Frag) (H : Hp) (Z : Addr → Prop) : List D → List V → Prop
  | [], vs => vs = []
  | d :: ds, vs => ∃ v r, vs = v :: r ∧ Rp K H Z d v ∧ Rps K H Z ds r
end
section
variable {K : PySem.W.Frag} {H H' : Hp} {Z Z' : Addr → Prop}
theorem FzL.sq {a : Addr} {vs : List V} (h : FzL K H Z a vs) : SqL K H a vs := by
  rcases h with ⟨h, _⟩ | ⟨o, h⟩
  · exact .inl (.inl h)
  · exact .inl (.inr ⟨o, h⟩)
theorem FzL.rd {a : Addr} {vs : List V} (h : FzL K H Z a vs) : Rd H a (.lst vs) := by
  rcases h with ⟨h, _⟩ | ⟨o, h⟩
  · exact .inl h
  · exact .inr ⟨o, h⟩
theorem rps_len : ∀ {ds : List D} {vs : List V}, Rps K H Z ds vs → vs.length = ds.length
  | [], vs, h => by
    have e : vs = [] := h
    rw [e]; rfl
  | d :: ds, vs, h => by
    obtain ⟨v, r, e, _, h2⟩ := (show ∃ v r, vs = v :: r ∧ Rp K H Z d v ∧ Rps K H Z ds r from h)
    rw [e, List.length_cons, List.length_cons, rps_len h2]
theorem rps_get : ∀ {ds : List D} {vs : List V} {i : Nat} {d : D}, Rps K H Z ds vs → ds[i]? = some d → ∃ v, vs[i]? = some v ∧ Rp K H Z d v
  | [], _, _, _, _, e => by simp at e
  | d :: ds, vs, i, d', h, e => by
    obtain ⟨v, r, rfl, h1, h2⟩ := (show ∃ v r, vs = v :: r ∧ Rp K H Z d v ∧ Rps K H Z ds r from h)
    cases i with
    | zero =>
      simp at e
      subst e
      exact ⟨v, rfl, h1⟩
    | succ i =>
      simp at e
      obtain ⟨w, e1, h3⟩ := rps_get h2 e
      exact ⟨w, by simpa using e1, h3⟩
theorem rps_get_none {ds : List D} {vs : List V} {i : Nat} (h : Rps K H Z ds vs) (e : ds[i]? = none) : vs[i]? = none := by
  have l := rps_len h
  have e' := List.getElem?_eq_none_iff.mp e
  exact List.getElem?_eq_none_iff.mpr (by omega)
theorem rps_append : ∀ {ds es : List D} {vs ws : List V}, Rps K H Z ds vs → Rps K H Z es ws → Rps K H Z (ds ++ es) (vs ++ ws)
  | [], es, vs, ws, h, g => by
    have e : vs = [] := h
    rw [e]; exact g
  | d :: ds, es, vs, ws, h, g => by
    obtain ⟨v, r, rfl, h1, h2⟩ := (show ∃ v r, vs = v :: r ∧ Rp K H Z d v ∧ Rps K H Z ds r from h)
    exact ⟨v, r ++ ws, rfl, h1, rps_append h2 g⟩
theorem rps_drop : ∀ {ds : List D} {vs : List V} (n : Nat), Rps K H Z ds vs → Rps K H Z (ds.drop n) (vs.drop n)
  | _, _, 0, h => h
  | [], vs, n + 1, h => by
    have e : vs = [] := h
    rw [e]; rfl
  | d :: ds, vs, n + 1, h => by
    obtain ⟨v, r, rfl, h1, h2⟩ := (show ∃ v r, vs = v :: r ∧ Rp K H Z d v ∧ Rps K H Z ds r from h)
    exact rps_drop n h2
theorem rps_take : ∀ {ds : List D} {vs : List V} (n : Nat), Rps K H Z ds vs → Rps K H Z (ds.take n) (vs.take n)
  | _, _, 0, h => rfl
  | [], vs, n + 1, h => by
    have e : vs = [] := h
    rw [e]; rfl
  | d :: ds, vs, n + 1, h => by
    obtain ⟨v, r, rfl, h1, h2⟩ := (show ∃ v r, vs = v :: r ∧ Rp K H Z d v ∧ Rps K H Z ds r from h)
    exact ⟨v, r.take n, rfl, h1, rps_take n h2⟩
theorem rps_set : ∀ {ds : List D} {vs : List V} {d : D} {v : V} (n : Nat), Rps K H Z ds vs → Rp K H Z d v → Rps K H Z (ds.set n d) (vs.set n v)
  | [], vs, _, _, n, h, _ => by
    have e : vs = [] := h
    rw [e]; rfl
  | d :: ds, vs, d', v', 0, h, g => by
    obtain ⟨v, r, rfl, h1, h2⟩ := (show ∃ v r, vs = v :: r ∧ Rp K H Z d v ∧ Rps K H Z ds r from h)
    exact ⟨v', r, rfl, g, h2⟩
  | d :: ds, vs, d', v', n + 1, h, g => by
    obtain ⟨v, r, rfl, h1, h2⟩ := (show ∃ v r, vs = v :: r ∧ Rp K H Z d v ∧ Rps K H Z ds r from h)
    exact ⟨v, r.set n v', rfl, h1, rps_set n h2 g⟩
theorem rps_eraseIdx : ∀ {ds : List D} {vs : List V} (n : Nat), Rps K H Z ds vs → Rps K H Z (ds.eraseIdx n) (vs.eraseIdx n)
  | [], vs, n, h => by
    have e : vs = [] := h
    rw [e]; rfl
  | d :: ds, vs, 0, h => by
    obtain ⟨v, r, rfl, h1, h2⟩ := (show ∃ v r, vs = v :: r ∧ Rp K H Z d v ∧ Rps K H Z ds r from h)
    exact h2
  | d :: ds, vs, n + 1, h => by
    obtain ⟨v, r, rfl, h1, h2⟩ := (show ∃ v r, vs = v :: r ∧ Rp K H Z d v ∧ Rps K H Z ds r from h)
    exact ⟨v, r.eraseIdx n, rfl, h1, rps_eraseIdx n h2⟩
theorem rps_reverse : ∀ {ds : List D} {vs : List V}, Rps K H Z ds vs → Rps K H Z ds.reverse vs.reverse
  | [], vs, h => by
    have e : vs = [] := h
    rw [e]; rfl
  | d :: ds, vs, h => by
    obtain ⟨v, r, rfl, h1, h2⟩ := (show ∃ v r, vs = v :: r ∧ Rp K H Z d v ∧ Rps K H Z ds r from h)
    rw [List.reverse_cons, List.reverse_cons]
    exact rps_append (rps_reverse h2) ⟨v, [], rfl, h1, rfl⟩
theorem rps_mem : ∀ {ds : List D} {vs : List V} {v : V}, Rps K H Z ds vs → v ∈ vs → ∃ d, d ∈ ds ∧ Rp K H Z d v
  | [], vs, v, h, hm => by
    have e : vs = [] := h
    rw [e] at hm; cases hm
  | d :: ds, vs, w, h, hm => by
    obtain ⟨v, r, rfl, h1, h2⟩ := (show ∃ v r, vs = v :: r ∧ Rp K H Z d v ∧ Rps K H Z ds r from h)
    rcases List.mem_cons.mp hm with rfl | hm
    · exact ⟨d, List.mem_cons_self, h1⟩
    · obtain ⟨e, m, q⟩ := rps_mem h2 hm
      exact ⟨e, List.mem_cons_of_mem _ m, q⟩

/-- what a move from H to H' must bear so that data stay -/
structure Bears (H H' : Hp) (Z Z' : Addr → Prop) : Prop where
  tup : ∀ a vs, H a = some (.tup vs) → H' a = some (.tup vs)
  frz : ∀ a o u, H a = some (.frz o u) → H' a = some (.frz o u)
  lst : ∀ a vs, H a = some (.lst vs) → ¬ Z a → H' a = some (.lst vs) ∧ ¬ Z' a
mutual
theorem Rp.go (b : Bears H H' Z Z') : ∀ {d : D} {v : V}, Rp K H Z d v → Rp K H' Z' d v
  | .non, _, h => h
  | .bl _, _, h => h
  | .int _, _, h => h
  | .str _, _, h => h
  | .tup ds, v, h => by
    obtain ⟨a, vs, e, q, r, l⟩ := (show ∃ a vs, v = V.ref a ∧ SqT K H a vs ∧ Rps K H Z ds vs ∧ ds.length ≤ sizeLine from h)
    refine ⟨a, vs, e, ?_, Rps.go b r, l⟩
    rcases q with (q | ⟨o, q⟩) | q
    · exact .inl (.inl (b.tup _ _ q))
    · exact .inl (.inr ⟨o, b.frz _ _ _ q⟩)
    · exact .inr q
  | .lst ds, v, h => by
    obtain ⟨a, vs, e, q, r, l⟩ := (show ∃ a vs, v = V.ref a ∧ FzL K H Z a vs ∧ Rps K H Z ds vs ∧ ds.length ≤ sizeLine from h)
    refine ⟨a, vs, e, ?_, Rps.go b r, l⟩
    rcases q with ⟨q, n⟩ | ⟨o, q⟩
    · exact .inl (b.lst _ _ q n)
    · exact .inr ⟨o, b.frz _ _ _ q⟩
theorem Rps.go (b : Bears H H' Z Z') : ∀ {ds : List D} {vs : List V}, Rps K H Z ds vs → Rps K H' Z' ds vs
  | [], _, h => h
  | d :: ds, vs, h => by
    obtain ⟨v, r, e, h1, h2⟩ := (show ∃ v r, vs = v :: r ∧ Rp K H Z d v ∧ Rps K H Z ds r from h)
    exact ⟨v, r, e, Rp.go b h1, Rps.go b h2⟩
end
theorem Bears.same (s : Same H H') (z : ∀ a, Z' a → Z a) : Bears H H' Z Z' :=
  ⟨fun a vs e => s a _ e, fun a o u e => s a _ e, fun a vs e n => ⟨s a _ e, fun q => n (z a q)⟩⟩
theorem Bears.weak (z : ∀ a, Z' a → Z a) : Bears H H Z Z' := .same (.refl _) z
/-- a new address among those that may be written -/
theorem Bears.new {p : Addr} {o : HO} (n : H p = none) (z : ∀ a, Z' a → Z a ∨ a = p) : Bears H (upd H p o) Z Z' := by
  have ne : ∀ {a u}, H a = some u → a ≠ p := fun {a u} e => ne_of_none e n
  refine ⟨fun a vs e => by rw [upd_ne (ne e)]; exact e, fun a o u e => by rw [upd_ne (ne e)]; exact e, fun a vs e nz => ⟨by rw [upd_ne (ne e)]; exact e, fun q => ?_⟩⟩
  rcases z a q with q | q
  · exact nz q
  · exact ne e q
/-- a list that may be written is written -/
theorem Bears.wr {p : Addr} {o : HO} {vs : List V} (e0 : H p = some (.lst vs)) (zp : Z p) (z : ∀ a, Z' a → Z a) : Bears H (upd H p o) Z Z' := by
  refine ⟨fun a vs e => ?_, fun a o u e => ?_, fun a vs e nz => ?_⟩
  · have ne : a ≠ p := fun q => by subst q; rw [e0] at e; cases e
    rw [upd_ne ne]; exact e
  · have ne : a ≠ p := fun q => by subst q; rw [e0] at e; cases e
    rw [upd_ne ne]; exact e
  · have ne : a ≠ p := fun q => by subst q; exact nz zp
    exact ⟨by rw [upd_ne ne]; exact e, fun q => nz (z a q)⟩
end

/-! ### slots -/
inductive Slot where
  /-- not known -/
  | un
  /-- a datum, not written any more -/
  | pl (d : D)
  /-- a list of this def's own -/
  | ow (xs : List D)
  /-- a list at a told address of which P is known -/
  | ab (a : Addr) (P : List D → Prop)
def Slot.own : Slot → Bool
  | .ow _ => true
  | .ab _ _ => true
  | _ => false
/-- T: the addresses that may be written by this def; U: those that are not its business -/
def SlotOk (K : PySem.W.Frag) (U T : Addr → Prop) (H : Hp) : Slot → Option V → Prop
  | .un, _ => True
  | .pl d, ov => ∃ v, ov = some v ∧ Rp K H (fun a => U a ∨ T a) d v
  | .ow xs, ov => ∃ a vs, ov = some (.ref a) ∧ H a = some (.lst vs) ∧ T a ∧ Rps K H (fun a => U a ∨ T a) xs vs ∧ xs.length ≤ sizeLine
  | .ab a P, ov => ov = some (.ref a) ∧ ∃ vs xs, H a = some (.lst vs) ∧ T a ∧ Rps K H (fun a => U a ∨ T a) xs vs ∧ xs.length ≤ sizeLine ∧ P xs
def OwnAt (ρ : List Slot) (σ : L2.St) (i : Nat) (a : Addr) : Prop := ∃ s, ρ[i]? = some s ∧ s.own = true ∧ σ[i]? = some (some (.ref a))
structure Rep (K : PySem.W.Frag) (U T : Addr → Prop) (H : Hp) (ρ : List Slot) (σ : L2.St) : Prop where
  len : σ.length = ρ.length
  sl : ∀ (i : Nat) s, ρ[i]? = some s → ∃ ov, σ[i]? = some ov ∧ SlotOk K U T H s ov
  ne : ∀ (i j : Nat) a, i ≠ j → OwnAt ρ σ i a → OwnAt ρ σ j a → False
  uok : ∀ a, U a → (H a).isSome = true
  tok : ∀ a, T a → ∃ vs, H a = some (.lst vs)
  ut : ∀ a, T a → ¬ U a
/-- what is tracked stays, but for what may be written -/
def Ext (T : Addr → Prop) (H H' : Hp) : Prop := ∀ a o, H a = some o → ¬ T a → H' a = some o
theorem Ext.refl (T : Addr → Prop) (H : Hp) : Ext T H H := fun _ _ e _ => e
theorem Ext.of {T : Addr → Prop} {H H' : Hp} (s : Same H H') : Ext T H H' := fun a o e _ => s a o e
theorem Ext.trans {T T' : Addr → Prop} {H H1 H2 : Hp} (a : Ext T H H1) (b : Ext T' H1 H2) (h : ∀ p, T' p → T p ∨ H p = none) : Ext T H H2 := fun p o e n =>
  b p o (a p o e n) fun q => by
    rcases h p q with q | q
    · exact n q
    · rw [q] at e; cases e
theorem Ext.trans1 {T : Addr → Prop} {H H1 H2 : Hp} (a : Ext T H H1) (b : Ext T H1 H2) : Ext T H H2 := a.trans b fun _ q => .inl q
theorem Ext.bears {T U : Addr → Prop} {H H' : Hp} (e : Ext T H H') (tok : ∀ a, T a → ∃ vs, H a = some (.lst vs)) : Bears H H' (fun a => U a ∨ T a) (fun a => U a ∨ T a) :=
  ⟨fun a vs h => e a _ h (fun t => by obtain ⟨ws, q⟩ := tok a t; rw [q] at h; cases h),
   fun a o u h => e a _ h (fun t => by obtain ⟨ws, q⟩ := tok a t; rw [q] at h; cases h),
   fun a vs h n => ⟨e a _ h fun t => n (.inr t), n⟩⟩
section
variable {K : PySem.W.Frag} {U T T' : Addr → Prop} {H H' : Hp} {ρ ρ' : List Slot} {σ : L2.St}
theorem Rep.own (r : Rep K U T H ρ σ) {i : Nat} {a : Addr} (o : OwnAt ρ σ i a) : T a ∧ ∃ vs, H a = some (.lst vs) := by
  obtain ⟨s, e, ho, es⟩ := o
  obtain ⟨ov, e1, ok⟩ := r.sl i s e
  rw [es] at e1; cases e1
  cases s with
  | un => cases ho
  | pl d => cases ho
  | ow xs =>
    obtain ⟨b, vs, q, h1, h2, _⟩ := ok
    cases q
    exact ⟨h2, vs, h1⟩
  | ab b P =>
    obtain ⟨q, vs, xs, h1, h2, _⟩ := ok
    cases q
    exact ⟨h2, vs, h1⟩
/-- the heap moves, the own lists staying -/
theorem Rep.move (r : Rep K U T H ρ σ) (b : Bears H H' (fun a => U a ∨ T a) (fun a => U a ∨ T' a)) (own : ∀ i a, OwnAt ρ σ i a → H' a = H a ∧ T' a)
    (uok : ∀ a, U a → (H' a).isSome = true) (tok : ∀ a, T' a → ∃ vs, H' a = some (.lst vs)) (ut : ∀ a, T' a → ¬ U a) : Rep K U T' H' ρ σ := by
  refine ⟨r.len, fun i s e => ?_, r.ne, uok, tok, ut⟩
  obtain ⟨ov, e1, ok⟩ := r.sl i s e
  refine ⟨ov, e1, ?_⟩
  cases s with
  | un => trivial
  | pl d =>
    obtain ⟨v, e2, h⟩ := ok
    exact ⟨v, e2, h.go b⟩
  | ow xs =>
    obtain ⟨a, vs, rfl, h1, h2, h3, h4⟩ := ok
    obtain ⟨q1, q2⟩ := own i a ⟨_, e, rfl, e1⟩
    exact ⟨a, vs, rfl, by rw [q1]; exact h1, q2, Rps.go b h3, h4⟩
  | ab a P =>
    obtain ⟨rfl, vs, xs, h1, h2, h3, h4⟩ := ok
    obtain ⟨q1, q2⟩ := own i a ⟨_, e, rfl, e1⟩
    exact ⟨rfl, vs, xs, by rw [q1]; exact h1, q2, Rps.go b h3, h4⟩
theorem Rep.same (r : Rep K U T H ρ σ) (s : Same H H') : Rep K U T H' ρ σ := by
  refine r.move (.same s fun _ z => z) (fun i a o => ?_) (fun a h => ?_) (fun a h => ?_) r.ut
  · obtain ⟨t, vs, e⟩ := r.own o
    exact ⟨by rw [e]; exact s _ _ e, t⟩
  · obtain ⟨o, e⟩ := Option.isSome_iff_exists.mp (r.uok a h)
    rw [s _ _ e]; rfl
  · obtain ⟨vs, e⟩ := r.tok a h
    exact ⟨vs, s _ _ e⟩
theorem Rep.zok (r : Rep K U T H ρ σ) : ∀ a, U a ∨ T a → (H a).isSome = true := fun a h => by
  rcases h with h | h
  · exact r.uok a h
  · obtain ⟨vs, e⟩ := r.tok a h
    rw [e]; rfl
theorem Rep.pl (r : Rep K U T H ρ σ) {i : Nat} {d : D} (e : ρ[i]? = some (.pl d)) : ∃ v, σ[i]? = some (some v) ∧ Rp K H (fun a => U a ∨ T a) d v := by
  obtain ⟨ov, e1, v, rfl, h⟩ := r.sl i _ e
  exact ⟨v, e1, h⟩
theorem Rep.ow (r : Rep K U T H ρ σ) {i : Nat} {xs : List D} (e : ρ[i]? = some (.ow xs)) : ∃ a vs, σ[i]? = some (some (.ref a)) ∧ H a = some (.lst vs) ∧ T a ∧ Rps K H (fun a => U a ∨ T a) xs vs ∧ xs.length ≤ sizeLine := by
  obtain ⟨ov, e1, a, vs, rfl, h⟩ := r.sl i _ e
  exact ⟨a, vs, e1, h⟩
theorem Rep.ab (r : Rep K U T H ρ σ) {i : Nat} {a : Addr} {P : List D → Prop} (e : ρ[i]? = some (.ab a P)) : σ[i]? = some (some (.ref a)) ∧ ∃ vs xs, H a = some (.lst vs) ∧ T a ∧ Rps K H (fun a => U a ∨ T a) xs vs ∧ xs.length ≤ sizeLine ∧ P xs := by
  obtain ⟨ov, e1, rfl, h⟩ := r.sl i _ e
  exact ⟨e1, h⟩
theorem set_get {α : Type} {l : List α} {i j : Nat} {x y : α} (e : (l.set i x)[j]? = some y) : (j = i ∧ y = x ∧ i < l.length) ∨ (j ≠ i ∧ l[j]? = some y) := by
  by_cases q : j = i
  · subst q
    by_cases hl : j < l.length
    · rw [List.getElem?_set_self hl] at e
      exact .inl ⟨rfl, (Option.some.inj e).symm, hl⟩
    · rw [List.getElem?_eq_none (by simpa using hl)] at e; cases e
  · rw [List.getElem?_set_ne (Ne.symm q)] at e
    exact .inr ⟨q, e⟩
/-- a slot is set -/
theorem Rep.setg (r : Rep K U T H ρ σ) {i : Nat} {s : Slot} {ov : Option V} (h : SlotOk K U T H s ov) (hn : s.own = true → ∀ a, ov = some (.ref a) → ∀ j, j ≠ i → ¬ OwnAt ρ σ j a) : Rep K U T H (ρ.set i s) (σ.set i ov) := by
  have old : ∀ {j : Nat} {a : Addr}, OwnAt (ρ.set i s) (σ.set i ov) j a → (j = i ∧ s.own = true ∧ ov = some (.ref a)) ∨ (j ≠ i ∧ OwnAt ρ σ j a) := fun {j a} ⟨t, e, ho, es⟩ => by
    rcases set_get e with ⟨q, e1, l⟩ | ⟨q, e1⟩
    · subst q e1
      rw [List.getElem?_set_self (by rw [r.len]; exact l)] at es
      exact .inl ⟨rfl, ho, Option.some.inj es⟩
    · rw [List.getElem?_set_ne (Ne.symm q)] at es
      exact .inr ⟨q, t, e1, ho, es⟩
  refine ⟨by rw [List.length_set, List.length_set]; exact r.len, fun j t e => ?_, fun j k a n hj hk => ?_, r.uok, r.tok, r.ut⟩
  · rcases set_get e with ⟨q, e1, l⟩ | ⟨q, e1⟩
    · subst q e1
      exact ⟨ov, List.getElem?_set_self (by rw [r.len]; exact l), h⟩
    · obtain ⟨w, e2, ok⟩ := r.sl j t e1
      exact ⟨w, by rw [List.getElem?_set_ne (Ne.symm q)]; exact e2, ok⟩
  · rcases old hj with ⟨q1, o1, e1⟩ | ⟨q1, o1⟩
    · rcases old hk with ⟨q2, o2, e2⟩ | ⟨q2, o2⟩
      · exact n (q1.trans q2.symm)
      · exact hn o1 a e1 k q2 o2
    · rcases old hk with ⟨q2, o2, e2⟩ | ⟨q2, o2⟩
      · exact hn o2 a e2 j q1 o1
      · exact r.ne j k a n o1 o2
/-- a datum stored at a slot -/
theorem Rep.put (r : Rep K U T H ρ σ) {i : Nat} {d : D} {v : V} (h : Rp K H (fun a => U a ∨ T a) d v) : Rep K U T H (ρ.set i (.pl d)) (σ.set i (some v)) :=
  r.setg (s := .pl d) ⟨v, rfl, h⟩ fun o => by cases o
/-- a slot is forgotten (σ as it is) -/
theorem Rep.drop (r : Rep K U T H ρ σ) (i : Nat) : Rep K U T H (ρ.set i .un) σ := by
  refine ⟨by rw [List.length_set]; exact r.len, fun j t e => ?_, fun j k a n hj hk => ?_, r.uok, r.tok, r.ut⟩
  · rcases set_get e with ⟨q, e1, l⟩ | ⟨q, e1⟩
    · subst q e1
      have l' : j < σ.length := by rw [r.len]; exact l
      exact ⟨σ[j], by simp [l'], trivial⟩
    · exact r.sl j t e1
  · have old : ∀ {j : Nat} {a : Addr}, OwnAt (ρ.set i .un) σ j a → OwnAt ρ σ j a := fun {j a} ⟨t, e, ho, es⟩ => by
      rcases set_get e with ⟨q, e1, l⟩ | ⟨q, e1⟩
      · subst e1; cases ho
      · exact ⟨t, e1, ho, es⟩
    exact r.ne j k a n (old hj) (old hk)
/-- less is known -/
def LeE : List Slot → List Slot → Prop
  | [], [] => True
  | .un :: r, _ :: r' => LeE r r'
  | s :: r, s' :: r' => s = s' ∧ LeE r r'
  | _, _ => False
theorem LeE.len : ∀ {ρ' ρ : List Slot}, LeE ρ' ρ → ρ'.length = ρ.length
  | [], [], _ => rfl
  | .un :: r, _ :: r', h => congrArg (· + 1) (LeE.len (ρ' := r) (ρ := r') h)
  | .pl d :: r, s' :: r', h => congrArg (· + 1) (LeE.len (ρ' := r) (ρ := r') h.2)
  | .ow d :: r, s' :: r', h => congrArg (· + 1) (LeE.len (ρ' := r) (ρ := r') h.2)
  | .ab d _ :: r, s' :: r', h => congrArg (· + 1) (LeE.len (ρ' := r) (ρ := r') h.2)
  | [], _ :: _, h => h.elim
  | .un :: _, [], h => h.elim
  | .pl _ :: _, [], h => h.elim
  | .ow _ :: _, [], h => h.elim
  | .ab _ _ :: _, [], h => h.elim
theorem LeE.get : ∀ {ρ' ρ : List Slot} {i : Nat} {s : Slot}, LeE ρ' ρ → ρ'[i]? = some s → s = .un ∨ ρ[i]? = some s
  | [], [], _, _, _, e => by simp at e
  | .un :: r, _ :: r', i, s, h, e => by
    cases i with
    | zero => simp at e; exact .inl e.symm
    | succ i => exact LeE.get (ρ' := r) (ρ := r') (i := i) h (by simpa using e)
  | .pl d :: r, s' :: r', i, s, h, e => by
    cases i with
    | zero => simp at e; subst e; rw [← h.1]; exact .inr rfl
    | succ i => exact LeE.get (ρ' := r) (ρ := r') (i := i) h.2 (by simpa using e)
  | .ow d :: r, s' :: r', i, s, h, e => by
    cases i with
    | zero => simp at e; subst e; rw [← h.1]; exact .inr rfl
    | succ i => exact LeE.get (ρ' := r) (ρ := r') (i := i) h.2 (by simpa using e)
  | .ab d _ :: r, s' :: r', i, s, h, e => by
    cases i with
    | zero => simp at e; subst e; rw [← h.1]; exact .inr rfl
    | succ i => exact LeE.get (ρ' := r) (ρ := r') (i := i) h.2 (by simpa using e)
  | [], _ :: _, _, _, h, _ => h.elim
  | .un :: _, [], _, _, h, _ => h.elim
  | .pl _ :: _, [], _, _, h, _ => h.elim
  | .ow _ :: _, [], _, _, h, _ => h.elim
  | .ab _ _ :: _, [], _, _, h, _ => h.elim
theorem Rep.le (r : Rep K U T H ρ σ) (h : LeE ρ' ρ) : Rep K U T H ρ' σ := by
  have old : ∀ {j : Nat} {a : Addr}, OwnAt ρ' σ j a → OwnAt ρ σ j a := fun {j a} ⟨t, e, ho, es⟩ => by
    rcases h.get e with q | q
    · subst q; cases ho
    · exact ⟨t, q, ho, es⟩
  refine ⟨r.len.trans h.len.symm, fun j t e => ?_, fun j k a n hj hk => r.ne j k a n (old hj) (old hk), r.uok, r.tok, r.ut⟩
  rcases h.get e with q | q
  · subst q
    have l : j < ρ'.length := (List.getElem?_eq_some_iff.mp e).1
    have l' : j < σ.length := by rw [r.len, ← h.len]; exact l
    exact ⟨σ[j], by simp [l'], trivial⟩
  · exact r.sl j t q
theorem Rep.newS (r : Rep K U T H ρ σ) (s : Same H H') {p : Addr} (hp : H p = none) (hq : (H' p).isSome = true) : Rep K (fun a => U a ∨ a = p) T H' ρ σ := by
  have b : Bears H H' (fun a => U a ∨ T a) (fun a => (U a ∨ a = p) ∨ T a) := by
    refine ⟨fun a vs e => s a _ e, fun a o u e => s a _ e, fun a vs e n => ⟨s a _ e, fun z => ?_⟩⟩
    rcases z with (z | z) | z
    · exact n (.inl z)
    · rw [z, hp] at e; cases e
    · exact n (.inr z)
  have r1 := r.same s
  refine ⟨r.len, fun i t e => ?_, r.ne, fun a ha => ?_, r1.tok, fun a t z => ?_⟩
  · obtain ⟨ov, e1, ok⟩ := r.sl i t e
    refine ⟨ov, e1, ?_⟩
    cases t with
    | un => trivial
    | pl d =>
      obtain ⟨v, e2, h⟩ := ok
      exact ⟨v, e2, h.go b⟩
    | ow xs =>
      obtain ⟨a, ws, e2, h1, h2, h3, h4⟩ := ok
      exact ⟨a, ws, e2, s _ _ h1, h2, Rps.go b h3, h4⟩
    | ab a P =>
      obtain ⟨e2, ws, xs, h1, h2, h3, h4⟩ := ok
      exact ⟨e2, ws, xs, s _ _ h1, h2, Rps.go b h3, h4⟩
  · rcases ha with ha | ha
    · exact r1.uok a ha
    · rw [ha]; exact hq
  · rcases z with z | z
    · exact r.ut a t z
    · obtain ⟨vs, e⟩ := r.tok a t
      rw [z, hp] at e; cases e
/-- the same with other U, T of the same sum or a smaller one -/
theorem Rep.weak {U' T' : Addr → Prop} (r : Rep K U T H ρ σ) (hz : ∀ a, U' a ∨ T' a → U a ∨ T a) (ht : ∀ a, T a → T' a) (hu : ∀ a, U' a → U a) (htok : ∀ a, T' a → ∃ vs, H a = some (.lst vs)) (hut : ∀ a, T' a → ¬ U' a) : Rep K U' T' H ρ σ := by
  have b : Bears H H (fun a => U a ∨ T a) (fun a => U' a ∨ T' a) := .weak hz
  refine ⟨r.len, fun i t e => ?_, r.ne, fun a ha => r.uok a (hu a ha), htok, hut⟩
  obtain ⟨ov, e1, ok⟩ := r.sl i t e
  refine ⟨ov, e1, ?_⟩
  cases t with
  | un => trivial
  | pl d =>
    obtain ⟨v, e2, h⟩ := ok
    exact ⟨v, e2, h.go b⟩
  | ow xs =>
    obtain ⟨a, ws, e2, h1, h2, h3, h4⟩ := ok
    exact ⟨a, ws, e2, h1, ht _ h2, Rps.go b h3, h4⟩
  | ab a P =>
    obtain ⟨e2, ws, xs, h1, h2, h3, h4⟩ := ok
    exact ⟨e2, ws, xs, h1, ht _ h2, Rps.go b h3, h4⟩
theorem Rep.lessU {p : Addr} (r : Rep K (fun a => U a ∨ a = p) T H ρ σ) : Rep K U T H ρ σ :=
  r.weak (fun a z => z.imp .inl id) (fun _ z => z) (fun _ z => .inl z) r.tok fun a t z => r.ut a t (.inl z)
theorem Rep.toT {p : Addr} {vs : List V} (r : Rep K (fun a => U a ∨ a = p) T H ρ σ) (h : H p = some (.lst vs)) (hnu : ¬ U p) : Rep K U (fun a => T a ∨ a = p) H ρ σ :=
  r.weak (fun a z => by
    rcases z with z | z | z
    · exact .inl (.inl z)
    · exact .inr z
    · exact .inl (.inr z)) (fun _ z => .inl z) (fun _ z => .inl z) (fun a z => by
    rcases z with z | z
    · exact r.tok a z
    · rw [z]; exact ⟨vs, h⟩) fun a t z => by
    rcases t with t | t
    · exact r.ut a t (.inl z)
    · rw [t] at z; exact hnu z
end
end CR

set_option Elab.async false
set_option linter.all false
set_option maxRecDepth 100000
/-! CR2: contexts, judgements, expressions. -/
namespace CR
open PySem PySem.Spec PyProof.Rows L2

theorem PE.imp {X : Cx} {e : Expr} {t t' : TE} (h : PE X e t) (f : ∀ σ H Q, t' σ H Q → t σ H Q) : PE X e t' := ⟨fun pins s σ H Q I q => h.run pins s σ H Q I (f _ _ _ q)⟩
theorem PT.imp {X : Cx} {e : Expr} {t t' : TT} (h : PT X e t) (f : ∀ σ H Q, t' σ H Q → t σ H Q) : PT X e t' := ⟨fun pins s σ H Q I q => h.run pins s σ H Q I (f _ _ _ q)⟩
theorem PW.imp {X : Cx} {e : Expr} {t t' : TT} (h : PW X e t) (f : ∀ σ H Q, t' σ H Q → t σ H Q) : PW X e t' := ⟨fun wh pins s σ H Q I q => h.run wh pins s σ H Q I (f _ _ _ q)⟩
theorem PA.imp {X : Cx} {e : List Expr} {t t' : TA} (h : PA X e t) (f : ∀ σ H Q, t' σ H Q → t σ H Q) : PA X e t' := ⟨fun p pins s σ H Q I q => h.run p pins s σ H Q I (f _ _ _ q)⟩
theorem PS.imp {X : Cx} {e : Stmt} {t t' : TS} (h : PS X e t) (f : ∀ D σ H, t' D σ H → t D σ H) : PS X e t' := ⟨fun pins s σ H D I q => h.run pins s σ H D I (f _ _ _ q)⟩
theorem PSs.imp {X : Cx} {e : List Stmt} {t t' : TS} (h : PSs X e t) (f : ∀ D σ H, t' D σ H → t D σ H) : PSs X e t' := ⟨fun pins s σ H D I q => h.run pins s σ H D I (f _ _ _ q)⟩
theorem PG.imp {X : Cx} {e : Expr} {t t' : TG} (h : PG X e t) (f : ∀ v σ H Q, t' v σ H Q → t v σ H Q) : PG X e t' := ⟨fun pins s σ H v u Q I r q => h.run pins s σ H v u Q I r (f _ _ _ _ q)⟩
theorem PGs.imp {X : Cx} {e : List Expr} {t t' : TGs} (h : PGs X e t) (f : ∀ v σ H Q, t' v σ H Q → t v σ H Q) : PGs X e t' := ⟨fun pins s σ H v u Q I r q => h.run pins s σ H v u Q I r (f _ _ _ _ q)⟩
theorem PI.imp {X : Cx} {tg e : Expr} {t t' : TI} (h : PI X tg e t) (f : ∀ σ H Q, t' σ H Q → t σ H Q) : PI X tg e t' := ⟨fun pins s σ H R I q => h.run pins s σ H R I (f _ _ _ q)⟩

/-! ### contexts -/
/-- what a context is told by: the def's names by slot, the scope, the slots that are seen, stored, plain locals; the global names -/
structure Cp where
  N : List Str
  sc : Scope
  vis : List Nat
  loc : List Nat
  isl : List Nat
  G : List Str
  cal : Bool := true
def visB (sc : Scope) (x : Str) : Bool := (match sc.names.lookup x with
  | some .local => true
  | some .cell => true
  | some .free => true
  | _ => false) && (!(x == ("__debug__" : Str)) && !(x == ("__classdict__" : Str)))
def locB (sc : Scope) (x : Str) : Bool := match sc.names.lookup x with
  | some .local => true
  | some .cell => true
  | _ => false
def islB (sc : Scope) (x : Str) : Bool := match sc.names.lookup x with
  | some .local => true
  | _ => false
def glB (sc : Scope) (x : Str) : Bool := (match sc.names.lookup x with
  | some .globalImplicit => true
  | _ => false) && (!(x == ("__debug__" : Str)) && !(x == ("__name__" : Str)))
def nodupB : List Str → Bool
  | [] => true
  | x :: r => !(r.any fun y => x == y) && nodupB r
def ckB (p : Cp) : Bool := nodupB p.N && ((p.vis.all fun i => (p.N[i]?).any (visB p.sc)) && ((p.loc.all fun i => (p.N[i]?).any (locB p.sc)) && ((p.isl.all fun i => (p.N[i]?).any (islB p.sc)) && p.G.all (glB p.sc))))
theorem nodup_of : ∀ {l : List Str}, nodupB l = true → l.Nodup
  | [], _ => List.nodup_nil
  | x :: r, h => by
    unfold nodupB at h
    rw [Bool.and_eq_true] at h
    refine List.nodup_cons.mpr ⟨fun m => ?_, nodup_of h.2⟩
    have h1 := h.1
    rw [Bool.not_eq_true'] at h1
    have := List.any_eq_false.mp h1 x m
    simp at this
structure Ck (p : Cp) : Prop where
  nd : p.N.Nodup
  vis : ∀ {i : Nat} {x : Str}, p.N[i]? = some x → p.vis.contains i = true → Vis p.sc x ∧ (x == ("__debug__" : Str)) = false ∧ (x == ("__classdict__" : Str)) = false
  loc : ∀ {i : Nat} {x : Str}, p.N[i]? = some x → p.loc.contains i = true → Loc p.sc x
  isl : ∀ {i : Nat} {x : Str}, p.N[i]? = some x → p.isl.contains i = true → p.sc.names.lookup x = some .local
  gl : ∀ {j : Nat} {x : Str}, p.G[j]? = some x → p.sc.names.lookup x = some .globalImplicit ∧ (x == ("__debug__" : Str)) = false ∧ x ≠ "__name__"
theorem Ck.of {p : Cp} (h : ckB p = true) : Ck p := by
  unfold ckB at h
  simp only [Bool.and_eq_true] at h
  obtain ⟨h0, h1, h2, h3, h4⟩ := h
  have at_ : ∀ {l : List Nat} {f : Str → Bool} {i : Nat} {x : Str}, (l.all fun i => (p.N[i]?).any f) = true → p.N[i]? = some x → l.contains i = true → f x = true := fun {l f i x} h e c => by
    have z := List.all_eq_true.mp h i (by simpa using c)
    rw [e] at z
    simpa using z
  refine ⟨nodup_of h0, fun {i x} e c => ?_, fun {i x} e c => ?_, fun {i x} e c => ?_, fun {j x} e => ?_⟩
  · have z := at_ h1 e c
    unfold visB at z
    simp only [Bool.and_eq_true, Bool.not_eq_true'] at z
    obtain ⟨z1, z2, z3⟩ := z
    refine ⟨?_, z2, z3⟩
    cases q : p.sc.names.lookup x with
    | none => rw [q] at z1; cases z1
    | some k =>
      rw [q] at z1
      cases k <;> first | exact .inl q | exact .inr (.inl q) | exact .inr (.inr q) | cases z1
  · have z := at_ h2 e c
    unfold locB at z
    cases q : p.sc.names.lookup x with
    | none => rw [q] at z; cases z
    | some k =>
      rw [q] at z
      cases k <;> first | exact .inl q | exact .inr q | cases z
  · have z := at_ h3 e c
    unfold islB at z
    cases q : p.sc.names.lookup x with
    | none => rw [q] at z; cases z
    | some k =>
      rw [q] at z
      cases k <;> first | rfl | cases z
  · have z := List.all_eq_true.mp h4 x (List.mem_of_getElem? e)
    unfold glB at z
    simp only [Bool.and_eq_true, Bool.not_eq_true'] at z
    obtain ⟨z1, z2, z3⟩ := z
    refine ⟨?_, z2, fun q => by subst q; simp at z3⟩
    cases q : p.sc.names.lookup x with
    | none => rw [q] at z1; cases z1
    | some k =>
      rw [q] at z1
      cases k <;> first | rfl | cases z1
/-- a built-in name -/
def bltNames : List Str := ["len", "list", "tuple", "sum", "max", "min", "all", "any", "abs", "int", "isinstance", "sorted", "set", "range", "zip", "enumerate", "repr", "bool", "str", "dict", "ValueError"]
/-- the module has no such names of its own -/
def Blt (mg : Str → Option Value) : Prop := ∀ x ∈ bltNames, mg x = none
/-- a context that is told by p; W: what is wanted of an exception -/
structure GX (X : Cx) (W : WX) (p : Cp) : Prop where
  eN : X.N = p.N
  esc : X.env.scope = p.sc
  ck : Ck p
  calm : p.cal = true → X.calm = true
  tk : Takes X W
  ps : PassesOwn (model X.prog X.w) X.A X.env X.xe
  hu : X.A.units + 65 < cLine
  fn : ∀ {i : Nat} {x : Str}, p.N[i]? = some x → p.loc.contains i = true → X.fn x = true ∨ X.env.scope.names.lookup x = some .local
  blt : Blt X.mg
section
variable {X : Cx} {W : WX} {p : Cp}
theorem GX.nd (g : GX X W p) : X.N.Nodup := by rw [g.eN]; exact g.ck.nd
theorem GX.n (g : GX X W p) {i : Nat} {x : Str} (h : p.N[i]? = some x) : X.N[i]? = some x := by rw [g.eN]; exact h
theorem GX.vis (g : GX X W p) {i : Nat} {x : Str} (h : p.N[i]? = some x) (c : p.vis.contains i = true) : Vis X.env.scope x := by rw [g.esc]; exact (g.ck.vis h c).1
theorem GX.loc (g : GX X W p) {i : Nat} {x : Str} (h : p.N[i]? = some x) (c : p.loc.contains i = true) : Loc X.env.scope x := by rw [g.esc]; exact g.ck.loc h c
theorem GX.isl (g : GX X W p) {i : Nat} {x : Str} (h : p.N[i]? = some x) (c : p.isl.contains i = true) : X.env.scope.names.lookup x = some .local := by rw [g.esc]; exact g.ck.isl h c
theorem GX.gl (g : GX X W p) {j : Nat} {x : Str} (h : p.G[j]? = some x) : Gl X x := by
  show X.env.scope.names.lookup x = _
  rw [g.esc]; exact (g.ck.gl h).1
end

/-! ### judgements -/
section
variable {X : Cx} {W : WX} {p : Cp} {S : Type} {ρ : S → List Slot}
/-- what may be wanted of an exception of the class that the name x tells -/
def wx (X : Cx) (W : WX) (T : Addr → Prop) (σ : L2.St) (H : Hp) (x : Str) : Prop := ∀ cls H', X.mg x = some cls → Ext T H H' → (∀ a, T a → ∃ vs, H' a = some (.lst vs)) → W cls none σ H'
def tE (X : Cx) (W : WX) {S : Type} (ρ : S → List Slot) (m : S → M D) : TE := fun σ H Q =>
  ∃ c U T, Rep X.K U T H (ρ c) σ ∧ (m c).wp (fun d => ∀ v H', Rep X.K U T H' (ρ c) σ → Rp X.K H' (fun a => U a ∨ T a) d v → Ext T H H' → Q v H') (wx X W T σ H)
def tT (X : Cx) (W : WX) {S : Type} (ρ : S → List Slot) (m : S → M Bool) : TT := fun σ H Q =>
  ∃ c U T, Rep X.K U T H (ρ c) σ ∧ (m c).wp (fun d => ∀ H', Rep X.K U T H' (ρ c) σ → Ext T H H' → Q d H') (wx X W T σ H)
def tAr (X : Cx) (W : WX) {S : Type} (ρ : S → List Slot) (n : Nat) (m : S → M (List D)) : TA := fun σ H Q =>
  ∃ c U T, Rep X.K U T H (ρ c) σ ∧ (m c).wp (fun ds => ds.length = n → ∀ vs H', Rep X.K U T H' (ρ c) σ → Rps X.K H' (fun a => U a ∨ T a) ds vs → Ext T H H' → Q vs H') (wx X W T σ H)
/-- a new list -/
def tL (X : Cx) (W : WX) {S : Type} (ρ : S → List Slot) (m : S → M (List D)) : TE := fun σ H Q =>
  ∃ c U T, Rep X.K U T H (ρ c) σ ∧ (m c).wp (fun ds => ∀ a vs H', H a = none → Rep X.K (fun b => U b ∨ b = a) T H' (ρ c) σ → H' a = some (.lst vs) → Rps X.K H' (fun b => (U b ∨ T b) ∨ b = a) ds vs → ds.length ≤ sizeLine → Ext T H H' → Q (.ref a) H') (wx X W T σ H)
/-- a value that may be read as a datum: it stands for it, or it is an own list -/
def RV (K : PySem.W.Frag) (U T : Addr → Prop) (H : Hp) (ρc : List Slot) (σ : L2.St) (d : D) (v : V) : Prop :=
  Rp K H (fun a => U a ∨ T a) d v ∨ ∃ (i : Nat) (xs : List D), d = .lst xs ∧ ρc[i]? = some (.ow xs) ∧ σ[i]? = some (some v)
/-- .. at the heap: its items may not be written, it itself may -/
def Rq (K : PySem.W.Frag) (H : Hp) (Z : Addr → Prop) : D → V → Prop
  | .lst ds, v => ∃ a vs, v = .ref a ∧ Rd H a (.lst vs) ∧ Rps K H Z ds vs ∧ ds.length ≤ sizeLine
  | d, v => Rp K H Z d v
theorem Rp.rq {K : PySem.W.Frag} {H : Hp} {Z : Addr → Prop} : ∀ {d : D} {v : V}, Rp K H Z d v → Rq K H Z d v
  | .non, _, h => h
  | .bl _, _, h => h
  | .int _, _, h => h
  | .str _, _, h => h
  | .tup _, _, h => h
  | .lst ds, v, h => by
    obtain ⟨a, vs, e, q, r, l⟩ := (show ∃ a vs, v = V.ref a ∧ FzL K H Z a vs ∧ Rps K H Z ds vs ∧ ds.length ≤ sizeLine from h)
    exact ⟨a, vs, e, q.rd, r, l⟩
theorem RV.rq {K : PySem.W.Frag} {U T : Addr → Prop} {H : Hp} {ρc : List Slot} {σ : L2.St} {d : D} {v : V} (r : Rep K U T H ρc σ) (h : RV K U T H ρc σ d v) : Rq K H (fun a => U a ∨ T a) d v := by
  rcases h with h | ⟨i, xs, rfl, e, es⟩
  · exact h.rq
  · obtain ⟨a, vs, e1, e2, _, h, l⟩ := r.ow e
    rw [es] at e1
    cases e1
    exact ⟨a, vs, rfl, .inl e2, h, l⟩
theorem RV.go {K : PySem.W.Frag} {U T : Addr → Prop} {H H' : Hp} {ρc : List Slot} {σ : L2.St} {d : D} {v : V} (r : Rep K U T H ρc σ) (e : Ext T H H') (h : RV K U T H ρc σ d v) : RV K U T H' ρc σ d v := by
  rcases h with h | h
  · exact .inl (h.go (e.bears r.tok))
  · exact .inr h
def tR (X : Cx) (W : WX) {S : Type} (ρ : S → List Slot) (m : S → M D) : TE := fun σ H Q =>
  ∃ c U T, Rep X.K U T H (ρ c) σ ∧ (m c).wp (fun d => ∀ v H', Rep X.K U T H' (ρ c) σ → RV X.K U T H' (ρ c) σ d v → Ext T H H' → Q v H') (wx X W T σ H)
/-- read only -/
abbrev Er (X : Cx) (W : WX) {S : Type} (ρ : S → List Slot) (e : Expr) (m : S → M D) : Prop := PE X e (tR X W ρ m)
abbrev Ee (X : Cx) (W : WX) {S : Type} (ρ : S → List Slot) (e : Expr) (m : S → M D) : Prop := PE X e (tE X W ρ m)
abbrev Et (X : Cx) (W : WX) {S : Type} (ρ : S → List Slot) (e : Expr) (m : S → M Bool) : Prop := PT X e (tT X W ρ m)
abbrev Ew (X : Cx) (W : WX) {S : Type} (ρ : S → List Slot) (e : Expr) (m : S → M Bool) : Prop := PW X e (tT X W ρ m)
abbrev Ea (X : Cx) (W : WX) {S : Type} (ρ : S → List Slot) (es : List Expr) (m : S → M (List D)) : Prop := PA X es (tAr X W ρ es.length m)
abbrev El (X : Cx) (W : WX) {S : Type} (ρ : S → List Slot) (e : Expr) (m : S → M (List D)) : Prop := PE X e (tL X W ρ m)

theorem wx.ext {T : Addr → Prop} {σ : L2.St} {H H' : Hp} (e : Ext T H H') {x : Str} (h : wx X W T σ H x) : wx X W T σ H' x := fun cls H'' q e' t => h cls H'' q (e.trans1 e') t
theorem Same.ext1 {T : Addr → Prop} {H H' H'' : Hp} (e : Ext T H H') (s : Same H' H'') : Ext T H H'' := e.trans1 (.of s)

/-! ### names, constants -/
theorem ee_var (g : GX X W p) (i : Nat) {x : Str} {pos : Pos} (hN : p.N[i]? = some x) (hv : p.vis.contains i = true) {val : S → D} (h : ∀ c, (ρ c)[i]? = some (.pl (val c))) : Ee X W ρ (.Name x pos) fun c => M.pure (val c) := by
  refine PE.imp (pe_var (g.n hN) (g.vis hN hv) (g.ck.vis hN hv).2.1 (g.ck.vis hN hv).2.2) fun σ H Q ⟨c, U, T, r, q⟩ => ?_
  obtain ⟨v, e, rp⟩ := r.pl (h c)
  exact ⟨v, e, q v H r rp (.refl _ _)⟩
theorem ee_int {i : Int} {j pos} : Ee X W ρ (.Constant (.int i) j pos) fun _ => M.pure (.int i) :=
  PE.imp pe_int fun _ H Q ⟨_, _, _, r, q⟩ => q _ H r rfl (.refl _ _)
theorem ee_bl {b : Bool} {j pos} : Ee X W ρ (.Constant (.bool b) j pos) fun _ => M.pure (.bl b) :=
  PE.imp pe_bl fun _ H Q ⟨_, _, _, r, q⟩ => q _ H r rfl (.refl _ _)
theorem ee_non {j pos} : Ee X W ρ (.Constant .none j pos) fun _ => M.pure .non :=
  PE.imp pe_non fun _ H Q ⟨_, _, _, r, q⟩ => q _ H r rfl (.refl _ _)
def sokB (x : Str) : Bool := decide (x.cps.size ≤ 1000) && x.cps.all fun c => decide (c < 0x110000)
theorem sok_of {x : Str} (h : sokB x = true) : SOk x := by
  unfold sokB at h
  rw [Bool.and_eq_true] at h
  have h1 : x.cps.size ≤ 1000 := of_decide_eq_true h.1
  exact ⟨Nat.le_trans h1 (by decide), h.2⟩
theorem ee_str {x : Str} {j pos} (h : sokB x = true) : Ee X W ρ (.Constant (.str x) j pos) fun _ => M.pure (.str x) :=
  PE.imp pe_str fun _ H Q ⟨_, _, _, r, q⟩ => q _ H r ⟨rfl, sok_of h⟩ (.refl _ _)
/-- a module's constant -/
def GlobD (X : Cx) (x : Str) (d : D) : Prop := ∃ u v, X.mg x = some u ∧ RelV v u ∧ ∀ H Z, Rp X.K H Z d v
theorem ee_glob (g : GX X W p) (j : Nat) {x : Str} {pos : Pos} (hG : p.G[j]? = some x) {d : D} (h : GlobD X x d) : Ee X W ρ (.Name x pos) fun _ => M.pure d := by
  obtain ⟨u, v, hm, r, rp⟩ := h
  exact PE.imp (pe_glob (g.gl hG) hm r (g.ck.gl hG).2.1) fun _ H Q ⟨_, _, _, r, q⟩ => q v H r (rp _ _) (.refl _ _)

theorem er_of {e : Expr} {m : S → M D} (h : Ee X W ρ e m) : Er X W ρ e m :=
  PE.imp h fun σ H Q ⟨c, U, T, r, q⟩ => ⟨c, U, T, r, (m c).mono (fun d q1 v H' r1 h e1 => q1 v H' r1 (.inl h) e1) (fun _ z => z) q⟩
theorem er_own (g : GX X W p) (i : Nat) {x : Str} {pos : Pos} (hN : p.N[i]? = some x) (hv : p.vis.contains i = true) {val : S → List D} (h : ∀ c, (ρ c)[i]? = some (.ow (val c))) : Er X W ρ (.Name x pos) fun c => M.pure (.lst (val c)) := by
  refine PE.imp (pe_var (g.n hN) (g.vis hN hv) (g.ck.vis hN hv).2.1 (g.ck.vis hN hv).2.2) fun σ H Q ⟨c, U, T, r, q⟩ => ?_
  obtain ⟨a, vs, e, _⟩ := r.ow (h c)
  exact ⟨_, e, q _ H r (.inr ⟨i, _, rfl, h c, e⟩) (.refl _ _)⟩

/-! ### operators by data -/
/-- a datum out, what is tracked stays -/
def rD (K : PySem.W.Frag) (f : D → D → Option D) : R2 := fun x y H Q => ∃ Z d1 d2 d, (∀ a, Z a → (H a).isSome = true) ∧ Rq K H Z d1 x ∧ Rq K H Z d2 y ∧ f d1 d2 = some d ∧ ∀ v H', Same H H' → Rp K H' Z d v → Q v H'
def OpD (X : Cx) (f : Value → Value → Sem Value) (h : D → D → Option D) : Prop := OpR X f (rD X.K h)
/-- a new list out -/
def rDL (K : PySem.W.Frag) (f : D → D → Option (List D)) : R2 := fun x y H Q => ∃ Z d1 d2 ds, (∀ a, Z a → (H a).isSome = true) ∧ Rq K H Z d1 x ∧ Rq K H Z d2 y ∧ f d1 d2 = some ds ∧ ∀ a vs, H a = none → Rps K H Z ds vs → ds.length ≤ sizeLine → Q (.ref a) (upd H a (.lst vs))
def OpL (X : Cx) (f : Value → Value → Sem Value) (h : D → D → Option (List D)) : Prop := OpR X f (rDL X.K h)
/-- a truth value out -/
def rDB (K : PySem.W.Frag) (f : D → D → Option Bool) : R2 := fun x y H Q => ∃ Z d1 d2 b, Rq K H Z d1 x ∧ Rq K H Z d2 y ∧ f d1 d2 = some b ∧ Q (.bl b) H
def OpB (X : Cx) (f : Value → Value → Sem Value) (h : D → D → Option Bool) : Prop := OpR X f (rDB X.K h)
theorem opt_wp {α : Type} {o : Option α} {Q : α → Prop} {E : Str → Prop} (h : (M.opt o).wp Q E) : ∃ a, o = some a ∧ Q a := by
  cases o with
  | none => exact h.elim
  | some a => exact ⟨a, rfl, h⟩
/-- a new object at p -/
theorem same_new {H : Hp} {p : Addr} {o : HO} (hp : H p = none) : Same H (upd H p o) := fun b u e => by rw [upd_ne (ne_of_none e hp)]; exact e
theorem new_none {K : PySem.W.Frag} {U T : Addr → Prop} {H H' : Hp} {ρc : List Slot} {σ : L2.St} (r : Rep K U T H' ρc σ) (e : Ext T H H') {p : Addr} (hp : H' p = none) : H p = none := by
  cases q : H p with
  | none => rfl
  | some o =>
    by_cases t : T p
    · obtain ⟨ws, z⟩ := r.tok p t
      rw [z] at hp; cases hp
    · rw [e p o q t] at hp; cases hp
/-- two operands, one behind the other -/
theorem two {r : R2} {σ : L2.St} {H : Hp} {Q : VK} {ma mb : S → M D} {g : D → D → M D} {h : S → (D → D → Prop)} {a b : TE} (c : S) {U T : Addr → Prop} {P : D → Prop} {f : D → D → (D → Prop) → Prop}
    (rep : Rep X.K U T H (ρ c) σ) (q : (ma c).wp (fun x => (mb c).wp (fun y => f x y P) (wx X W T σ H)) (wx X W T σ H))
    (k : ∀ d1 d2 v1 v2 H2, Rep X.K U T H2 (ρ c) σ → RV X.K U T H2 (ρ c) σ d1 v1 → RV X.K U T H2 (ρ c) σ d2 v2 → Ext T H H2 → f d1 d2 P → r v1 v2 H2 Q) :
    tOp r (tR X W ρ ma) (tR X W ρ mb) σ H Q := by
  refine ⟨c, U, T, rep, (ma c).mono (fun d1 q1 v1 H1 r1 p1 e1 => ?_) (fun _ z => z) q⟩
  refine ⟨c, U, T, r1, (mb c).mono (fun d2 q2 v2 H2 r2 p2 e2 => ?_) (fun _ z => wx.ext e1 z) q1⟩
  exact k d1 d2 v1 v2 H2 r2 (p1.go r1 e2) p2 (e1.trans1 e2) q2
theorem ee_bin {op : Operator} {f : D → D → Option D} {a b : Expr} {pos : Pos} {ma mb : S → M D} (ho : OpD X (binaryOp op) f) (ha : Er X W ρ a ma) (hb : Er X W ρ b mb) :
    Ee X W ρ (.BinOp a op b pos) fun c => M.bind (ma c) fun x => M.bind (mb c) fun y => M.opt (f x y) := by
  refine PE.imp (pe_op ho ha hb) fun σ H Q ⟨c, U, T, r, q⟩ => ?_
  refine ⟨c, U, T, r, (ma c).mono (fun d1 q1 v1 H1 r1 p1 e1 => ?_) (fun _ z => z) q⟩
  refine ⟨c, U, T, r1, (mb c).mono (fun d2 q2 v2 H2 r2 p2 e2 => ?_) (fun _ z => wx.ext e1 z) q1⟩
  obtain ⟨d, hd, q3⟩ := opt_wp q2
  exact ⟨_, d1, d2, d, r2.zok, (p1.go r1 e2).rq r2, p2.rq r2, hd, fun v H' s rp => q3 v H' (r2.same s) rp (Same.ext1 (e1.trans1 e2) s)⟩
theorem el_bin {op : Operator} {f : D → D → Option (List D)} {a b : Expr} {pos : Pos} {ma mb : S → M D} (ho : OpL X (binaryOp op) f) (ha : Er X W ρ a ma) (hb : Er X W ρ b mb) :
    El X W ρ (.BinOp a op b pos) fun c => M.bind (ma c) fun x => M.bind (mb c) fun y => M.opt (f x y) := by
  refine PE.imp (pe_op ho ha hb) fun σ H Q ⟨c, U, T, r, q⟩ => ?_
  refine ⟨c, U, T, r, (ma c).mono (fun d1 q1 v1 H1 r1 p1 e1 => ?_) (fun _ z => z) q⟩
  refine ⟨c, U, T, r1, (mb c).mono (fun d2 q2 v2 H2 r2 p2 e2 => ?_) (fun _ z => wx.ext e1 z) q1⟩
  obtain ⟨d, hd, q3⟩ := opt_wp q2
  refine ⟨_, d1, d2, d, r2.zok, (p1.go r1 e2).rq r2, p2.rq r2, hd, fun p vs hp rp hl => ?_⟩
  exact q3 p vs _ (new_none r2 (e1.trans1 e2) hp) (r2.newS (same_new hp) hp (by rw [upd_same]; rfl)) upd_same (Rps.go (.new hp fun b z => z) rp) hl (Same.ext1 (e1.trans1 e2) (same_new hp))
/-- a new list as a datum -/
theorem el_ee {e : Expr} {m : S → M (List D)} (h : El X W ρ e m) : Ee X W ρ e fun c => M.bind (m c) fun xs => M.pure (.lst xs) := by
  refine PE.imp h fun σ H Q ⟨c, U, T, r, q⟩ => ⟨c, U, T, r, (m c).mono (fun ds q1 a vs H' hn r1 ha rp hl e1 => ?_) (fun _ z => z) q⟩
  refine q1 (.ref a) H' r1.lessU ⟨a, vs, rfl, .inl ⟨ha, fun z => ?_⟩, Rps.go (.weak fun b z => .inl z) rp, hl⟩ e1
  have := r.zok a z
  rw [hn] at this; cases this
/-- a comparison as a value -/
theorem ee_cmp {op : CmpOp} {f : D → D → Option Bool} {a b : Expr} {pos : Pos} {ma mb : S → M D} (ho : OpB X (compareOp op) f) (hm : behindInMarks op b = false) (ha : Er X W ρ a ma) (hb : Er X W ρ b mb) :
    Ee X W ρ (.Compare a [op] [b] pos) fun c => M.bind (ma c) fun x => M.bind (mb c) fun y => M.bind (M.opt (f x y)) fun k => M.pure (.bl k) := by
  refine PE.imp (pe_cmpR ho ha hb hm) fun σ H Q ⟨c, U, T, r, q⟩ => ?_
  refine ⟨c, U, T, r, (ma c).mono (fun d1 q1 v1 H1 r1 p1 e1 => ?_) (fun _ z => z) q⟩
  refine ⟨c, U, T, r1, (mb c).mono (fun d2 q2 v2 H2 r2 p2 e2 => ?_) (fun _ z => wx.ext e1 z) q1⟩
  obtain ⟨d, hd, q3⟩ := opt_wp q2
  exact ⟨_, d1, d2, d, (p1.go r1 e2).rq r2, p2.rq r2, hd, q3 _ H2 r2 rfl (e1.trans1 e2)⟩
/-- .. as a test -/
theorem et_cmp {op : CmpOp} {f : D → D → Option Bool} {a b : Expr} {pos : Pos} {ma mb : S → M D} (ho : OpB X (compareOp op) f) (hm : behindInMarks op b = false) (ha : Er X W ρ a ma) (hb : Er X W ρ b mb) :
    Et X W ρ (.Compare a [op] [b] pos) fun c => M.bind (ma c) fun x => M.bind (mb c) fun y => M.opt (f x y) := by
  refine PT.imp (pt_cmpR ho ha hb hm) fun σ H Q ⟨c, U, T, r, q⟩ => ?_
  refine ⟨c, U, T, r, (ma c).mono (fun d1 q1 v1 H1 r1 p1 e1 => ?_) (fun _ z => z) q⟩
  refine ⟨c, U, T, r1, (mb c).mono (fun d2 q2 v2 H2 r2 p2 e2 => ?_) (fun _ z => wx.ext e1 z) q1⟩
  obtain ⟨d, hd, q3⟩ := opt_wp q2
  exact ⟨_, d1, d2, d, (p1.go r1 e2).rq r2, p2.rq r2, hd, _, rfl, q3 H2 r2 (e1.trans1 e2)⟩
/-- a < b < c -/
theorem ee_chain {op op' : CmpOp} {f f' : D → D → Option Bool} {a b b' : Expr} {pos : Pos} {ma mb mc : S → M D} (ho : OpB X (compareOp op) f) (ho' : OpB X (compareOp op') f') (ha : Er X W ρ a ma) (hb : Er X W ρ b mb) (hc : Er X W ρ b' mc) (hm : lastMarks [op, op'] [b, b'] = false := by rfl) :
    Ee X W ρ (.Compare a [op, op'] [b, b'] pos) fun c => M.bind (ma c) fun x => M.bind (mb c) fun y => M.bind (M.opt (f x y)) fun k => M.ite k (M.bind (mc c) fun z => M.bind (M.opt (f' y z)) fun k => M.pure (.bl k)) (M.pure (.bl false)) := by
  refine PE.imp (pe_chain ho ho' ha hb hc hm) fun σ H Q ⟨c, U, T, r, q⟩ => ?_
  refine ⟨c, U, T, r, (ma c).mono (fun d1 q1 v1 H1 r1 p1 e1 => ?_) (fun _ z => z) q⟩
  refine ⟨c, U, T, r1, (mb c).mono (fun d2 q2 v2 H2 r2 p2 e2 => ?_) (fun _ z => wx.ext e1 z) q1⟩
  obtain ⟨k, hd, q3⟩ := opt_wp q2
  refine ⟨_, d1, d2, k, (p1.go r1 e2).rq r2, p2.rq r2, hd, k, rfl, ?_⟩
  cases k with
  | false => exact q3 _ H2 r2 rfl (e1.trans1 e2)
  | true =>
    refine ⟨c, U, T, r2, (mc c).mono (fun d3 q4 v3 H3 r3 p3 e3 => ?_) (fun _ z => wx.ext (e1.trans1 e2) z) q3⟩
    obtain ⟨k, hd, q5⟩ := opt_wp q4
    exact ⟨_, d2, d3, k, (p2.go r2 e3).rq r3, p3.rq r3, hd, q5 _ H3 r3 rfl ((e1.trans1 e2).trans1 e3)⟩
theorem et_chain {op op' : CmpOp} {f f' : D → D → Option Bool} {a b b' : Expr} {pos : Pos} {ma mb mc : S → M D} (ho : OpB X (compareOp op) f) (ho' : OpB X (compareOp op') f') (ha : Er X W ρ a ma) (hb : Er X W ρ b mb) (hc : Er X W ρ b' mc) (hm : lastMarks [op, op'] [b, b'] = false := by rfl) :
    Et X W ρ (.Compare a [op, op'] [b, b'] pos) fun c => M.bind (ma c) fun x => M.bind (mb c) fun y => M.bind (M.opt (f x y)) fun k => M.ite k (M.bind (mc c) fun z => M.opt (f' y z)) (M.pure false) := by
  refine PT.imp (pt_chain ho ho' ha hb hc hm) fun σ H Q ⟨c, U, T, r, q⟩ => ?_
  refine ⟨c, U, T, r, (ma c).mono (fun d1 q1 v1 H1 r1 p1 e1 => ?_) (fun _ z => z) q⟩
  refine ⟨c, U, T, r1, (mb c).mono (fun d2 q2 v2 H2 r2 p2 e2 => ?_) (fun _ z => wx.ext e1 z) q1⟩
  obtain ⟨k, hd, q3⟩ := opt_wp q2
  refine ⟨_, d1, d2, k, (p1.go r1 e2).rq r2, p2.rq r2, hd, k, rfl, ?_⟩
  cases k with
  | false => exact ⟨_, rfl, q3 H2 r2 (e1.trans1 e2)⟩
  | true =>
    refine ⟨c, U, T, r2, (mc c).mono (fun d3 q4 v3 H3 r3 p3 e3 => ?_) (fun _ z => wx.ext (e1.trans1 e2) z) q3⟩
    obtain ⟨k, hd, q5⟩ := opt_wp q4
    exact ⟨_, d2, d3, k, (p2.go r2 e3).rq r3, p3.rq r3, hd, k, rfl, q5 H3 r3 ((e1.trans1 e2).trans1 e3)⟩

/-! ### tests, and, or, not -/
def boolD : D → Option Bool
  | .bl b => some b
  | _ => none
theorem rp_bool {K : PySem.W.Frag} {H : Hp} {Z : Addr → Prop} {d : D} {v : V} {b : Bool} (h : Rp K H Z d v) (e : boolD d = some b) : v = .bl b := by
  cases d <;> first | cases e | skip
  exact h
theorem et_val {e : Expr} {m : S → M D} (h : Ee X W ρ e m) (he : ∀ whole, isTrue e X.env whole = (do let v ← whole; standAt e.pos; holding [v] (truthy v)) := by intro _; rfl) : Et X W ρ e fun c => M.bind (m c) fun d => M.opt (boolD d) := by
  refine PT.imp (pt_val h he) fun σ H Q ⟨c, U, T, r, q⟩ => ?_
  refine ⟨c, U, T, r, (m c).mono (fun d1 q1 v1 H1 r1 p1 e1 => ?_) (fun _ z => z) q⟩
  obtain ⟨k, hd, q3⟩ := opt_wp q1
  exact ⟨k, rp_bool p1 hd, q3 H1 r1 e1⟩
theorem et_not {a : Expr} {pos : Pos} {m : S → M Bool} (h : Et X W ρ a m) : Et X W ρ (.UnaryOp .Not a pos) fun c => M.bind (m c) fun b => M.pure (!b) :=
  PT.imp (pt_not h) fun σ H Q ⟨c, U, T, r, q⟩ => ⟨c, U, T, r, (m c).mono (fun d1 q1 H1 r1 e1 => q1 H1 r1 e1) (fun _ z => z) q⟩
theorem ew_and1 {a : Expr} {pos : Pos} {m : S → M Bool} (h : Et X W ρ a m) : Ew X W ρ (.BoolOp .And [a] pos) m := pw_and1 h
theorem ew_or1 {a : Expr} {pos : Pos} {m : S → M Bool} (h : Et X W ρ a m) : Ew X W ρ (.BoolOp .Or [a] pos) m := pw_or1 h
theorem ew_and {a b : Expr} {rest : List Expr} {pos : Pos} {m n : S → M Bool} (h : Et X W ρ a m) (k : Ew X W ρ (.BoolOp .And (b :: rest) pos) n) :
    Ew X W ρ (.BoolOp .And (a :: b :: rest) pos) fun c => M.bind (m c) fun t => M.ite t (n c) (M.pure false) := by
  refine PW.imp (pw_and h k) fun σ H Q ⟨c, U, T, r, q⟩ => ?_
  refine ⟨c, U, T, r, (m c).mono (fun t q1 H1 r1 e1 => ?_) (fun _ z => z) q⟩
  cases t with
  | true => exact ⟨c, U, T, r1, (n c).mono (fun d q2 H2 r2 e2 => q2 H2 r2 (e1.trans1 e2)) (fun _ z => wx.ext e1 z) q1⟩
  | false => exact q1 H1 r1 e1
theorem ew_or {a b : Expr} {rest : List Expr} {pos : Pos} {m n : S → M Bool} (h : Et X W ρ a m) (k : Ew X W ρ (.BoolOp .Or (b :: rest) pos) n) :
    Ew X W ρ (.BoolOp .Or (a :: b :: rest) pos) fun c => M.bind (m c) fun t => M.ite t (M.pure true) (n c) := by
  refine PW.imp (pw_or h k) fun σ H Q ⟨c, U, T, r, q⟩ => ?_
  refine ⟨c, U, T, r, (m c).mono (fun t q1 H1 r1 e1 => ?_) (fun _ z => z) q⟩
  cases t with
  | false => exact ⟨c, U, T, r1, (n c).mono (fun d q2 H2 r2 e2 => q2 H2 r2 (e1.trans1 e2)) (fun _ z => wx.ext e1 z) q1⟩
  | true => exact q1 H1 r1 e1
theorem et_w {e : Expr} {m : S → M Bool} (h : Ew X W ρ e m) : Et X W ρ e m := h.pt
theorem ee_one {op} {a : Expr} {pos : Pos} {m : S → M D} (h : Ee X W ρ a m) : Ee X W ρ (.BoolOp op [a] pos) m := pe_one h
theorem ee_and {a b : Expr} {rest : List Expr} {pos : Pos} {m n : S → M D} (h : Ee X W ρ a m) (k : Ee X W ρ (.BoolOp .And (b :: rest) pos) n) :
    Ee X W ρ (.BoolOp .And (a :: b :: rest) pos) fun c => M.bind (m c) fun d => M.bind (M.opt (boolD d)) fun t => M.ite t (n c) (M.pure (.bl false)) := by
  refine PE.imp (pe_and h k) fun σ H Q ⟨c, U, T, r, q⟩ => ?_
  refine ⟨c, U, T, r, (m c).mono (fun d1 q1 v1 H1 r1 p1 e1 => ?_) (fun _ z => z) q⟩
  obtain ⟨t, hd, q3⟩ := opt_wp q1
  refine ⟨t, rp_bool p1 hd, ?_⟩
  cases t with
  | true => exact ⟨c, U, T, r1, (n c).mono (fun d q2 v2 H2 r2 p2 e2 => q2 v2 H2 r2 p2 (e1.trans1 e2)) (fun _ z => wx.ext e1 z) q3⟩
  | false => exact q3 _ H1 r1 rfl e1
theorem ee_or {a b : Expr} {rest : List Expr} {pos : Pos} {m n : S → M D} (h : Ee X W ρ a m) (k : Ee X W ρ (.BoolOp .Or (b :: rest) pos) n) :
    Ee X W ρ (.BoolOp .Or (a :: b :: rest) pos) fun c => M.bind (m c) fun d => M.bind (M.opt (boolD d)) fun t => M.ite t (M.pure (.bl true)) (n c) := by
  refine PE.imp (pe_or h k) fun σ H Q ⟨c, U, T, r, q⟩ => ?_
  refine ⟨c, U, T, r, (m c).mono (fun d1 q1 v1 H1 r1 p1 e1 => ?_) (fun _ z => z) q⟩
  obtain ⟨t, hd, q3⟩ := opt_wp q1
  refine ⟨t, rp_bool p1 hd, ?_⟩
  cases t with
  | false => exact ⟨c, U, T, r1, (n c).mono (fun d q2 v2 H2 r2 p2 e2 => q2 v2 H2 r2 p2 (e1.trans1 e2)) (fun _ z => wx.ext e1 z) q3⟩
  | true => exact q3 _ H1 r1 rfl e1
theorem ee_not {a : Expr} {pos : Pos} {m : S → M D} (h : Ee X W ρ a m) : Ee X W ρ (.UnaryOp .Not a pos) fun c => M.bind (m c) fun d => M.bind (M.opt (boolD d)) fun t => M.pure (.bl (!t)) := by
  refine PE.imp (pe_not h) fun σ H Q ⟨c, U, T, r, q⟩ => ?_
  refine ⟨c, U, T, r, (m c).mono (fun d1 q1 v1 H1 r1 p1 e1 => ?_) (fun _ z => z) q⟩
  obtain ⟨t, hd, q3⟩ := opt_wp q1
  exact ⟨t, rp_bool p1 hd, q3 _ H1 r1 rfl e1⟩
/-- a if t else b -/
theorem ee_if {t a b : Expr} {pos : Pos} {mt : S → M Bool} {ma mb : S → M D} (ht : Et X W ρ t mt) (ha : Ee X W ρ a ma) (hb : Ee X W ρ b mb) :
    Ee X W ρ (.IfExp t a b pos) fun c => M.bind (mt c) fun t => M.ite t (ma c) (mb c) := by
  refine PE.imp (pe_ifExp ht ha hb) fun σ H Q ⟨c, U, T, r, q⟩ => ?_
  refine ⟨c, U, T, r, (mt c).mono (fun t q1 H1 r1 e1 => ?_) (fun _ z => z) q⟩
  cases t with
  | true => exact ⟨c, U, T, r1, (ma c).mono (fun d q2 v2 H2 r2 p2 e2 => q2 v2 H2 r2 p2 (e1.trans1 e2)) (fun _ z => wx.ext e1 z) q1⟩
  | false => exact ⟨c, U, T, r1, (mb c).mono (fun d q2 v2 H2 r2 p2 e2 => q2 v2 H2 r2 p2 (e1.trans1 e2)) (fun _ z => wx.ext e1 z) q1⟩
theorem el_if {t a b : Expr} {pos : Pos} {mt : S → M Bool} {ma mb : S → M (List D)} (ht : Et X W ρ t mt) (ha : El X W ρ a ma) (hb : El X W ρ b mb) :
    El X W ρ (.IfExp t a b pos) fun c => M.bind (mt c) fun t => M.ite t (ma c) (mb c) := by
  refine PE.imp (pe_ifExp ht ha hb) fun σ H Q ⟨c, U, T, r, q⟩ => ?_
  refine ⟨c, U, T, r, (mt c).mono (fun t q1 H1 r1 e1 => ?_) (fun _ z => z) q⟩
  cases t with
  | true => exact ⟨c, U, T, r1, (ma c).mono (fun d q2 a vs H2 hn r2 p2 rp hl e2 => q2 a vs H2 (new_none r1 e1 hn) r2 p2 rp hl (e1.trans1 e2)) (fun _ z => wx.ext e1 z) q1⟩
  | false => exact ⟨c, U, T, r1, (mb c).mono (fun d q2 a vs H2 hn r2 p2 rp hl e2 => q2 a vs H2 (new_none r1 e1 hn) r2 p2 rp hl (e1.trans1 e2)) (fun _ z => wx.ext e1 z) q1⟩

/-! ### displays, arguments -/
theorem ea_nil : Ea X W ρ [] fun _ => M.pure [] :=
  PA.imp pa_nil fun σ H Q ⟨c, U, T, r, q⟩ => q rfl [] H r rfl (.refl _ _)
theorem ea_cons {e : Expr} {es : List Expr} {m : S → M D} {n : S → M (List D)} (h : Ee X W ρ e m) (k : Ea X W ρ es n)
    (hs : starEach (e :: es) X.env = (false, eval e X.env) :: starEach es X.env := by rfl) : Ea X W ρ (e :: es) fun c => M.bind (m c) fun d => M.bind (n c) fun ds => M.pure (d :: ds) := by
  refine PA.imp (pa_cons h k hs) fun σ H Q ⟨c, U, T, r, q⟩ => ?_
  refine ⟨c, U, T, r, (m c).mono (fun d q1 v1 H1 r1 p1 e1 => ?_) (fun _ z => z) q⟩
  refine ⟨c, U, T, r1, (n c).mono (fun ds q2 l vs H2 r2 p2 e2 => ?_) (fun _ z => wx.ext e1 z) q1⟩
  exact q2 (by rw [List.length_cons, List.length_cons, l]) (v1 :: vs) H2 r2 ⟨v1, vs, rfl, p1.go (e2.bears r1.tok), p2⟩ (e1.trans1 e2)
theorem ee_tup {es : List Expr} {k : Nat} {pos : Pos} {m : S → M (List D)} (h : Ea X W ρ es m) (hl : Nat.ble es.length 1000 = true) : Ee X W ρ (.Tuple es k pos) fun c => M.bind (m c) fun ds => M.pure (.tup ds) := by
  have hl' : es.length ≤ sizeLine := Nat.le_trans (Nat.le_of_ble_eq_true hl) (by decide)
  refine PE.imp (pe_tup h) fun σ H Q ⟨c, U, T, r, q⟩ => ?_
  refine ⟨c, U, T, r, (m c).mono (fun ds q1 l vs H1 r1 p1 e1 => ?_) (fun _ z => z) q⟩
  refine ⟨by rw [rps_len p1, l]; exact hl', fun p hp => ?_⟩
  exact q1 (.ref p) _ (r1.same (same_new hp)) ⟨p, vs, rfl, .of upd_same, Rps.go (.same (same_new hp) fun _ z => z) p1, by rw [l]; exact hl'⟩ (Same.ext1 e1 (same_new hp))
theorem el_lst {es : List Expr} {pos : Pos} {m : S → M (List D)} (h : Ea X W ρ es m) (hl : Nat.ble es.length 1000 = true) : El X W ρ (.List es pos) m := by
  have hl' : es.length ≤ sizeLine := Nat.le_trans (Nat.le_of_ble_eq_true hl) (by decide)
  refine PE.imp (pe_lst h) fun σ H Q ⟨c, U, T, r, q⟩ => ?_
  refine ⟨c, U, T, r, (m c).mono (fun ds q1 l vs H1 r1 p1 e1 => ?_) (fun _ z => z) q⟩
  refine ⟨by rw [rps_len p1, l]; exact hl', fun p hp => ?_⟩
  exact q1 p vs _ (new_none r1 e1 hp) (r1.newS (same_new hp) hp (by rw [upd_same]; rfl)) upd_same (Rps.go (.new hp fun b z => z) p1) (by rw [l]; exact hl') (Same.ext1 e1 (same_new hp))
end
end CR

set_option Elab.async false
set_option linter.all false
set_option maxRecDepth 100000
/-! CR3: operations by data. -/
namespace CR
open PySem PySem.Spec PyProof.Rows L2

/-! ### equality, depth -/
mutual
def eqD : D → D → Bool
  | .non, .non => true
  | .bl a, .bl b => a == b
  | .bl a, .int j => (if a then 1 else 0) == j
  | .int i, .bl b => i == (if b then 1 else 0)
  | .int i, .int j => i == j
  | .str x, .str y => x == y
  | .lst xs, .lst ys => eqDs xs ys
  | .tup xs, .tup ys => eqDs xs ys
  | _, _ => false
def eqDs : List D → List D → Bool
  | [], [] => true
  | x :: xs, y :: ys => eqD x y && eqDs xs ys
  | _, _ => false
end
mutual
def dep : D → Nat
  | .lst xs => depS xs + 1
  | .tup xs => depS xs + 1
  | _ => 0
def depS : List D → Nat
  | [] => 0
  | x :: xs => max (dep x) (depS xs)
end
mutual
def toPD : D → PyData
  | .non => .none
  | .bl b => .bool b
  | .int i => .int i
  | .str x => .str x
  | .lst xs => .list (toPDs xs)
  | .tup xs => .tuple (toPDs xs)
def toPDs : List D → List PyData
  | [] => []
  | x :: xs => toPD x :: toPDs xs
end
mutual
theorem dep_pd : ∀ d : D, (toPD d).depth = dep d
  | .non | .bl _ | .int _ | .str _ => by simp only [toPD, PyData.depth, dep]
  | .lst xs => by simp only [toPD, PyData.depth, dep, depS_pd xs]
  | .tup xs => by simp only [toPD, PyData.depth, dep, depS_pd xs]
theorem depS_pd : ∀ ds : List D, PyData.depthAll (toPDs ds) = depS ds
  | [] => by simp only [toPDs, PyData.depthAll, depS]
  | x :: xs => by simp only [toPDs, PyData.depthAll, depS, dep_pd x, depS_pd xs]
end
mutual
theorem eqD_pd : ∀ d e : D, PyData.eqv (toPD d) (toPD e) = eqD d e
  | .lst xs, .lst ys => by simp only [toPD, PyData.eqv, eqD]; exact eqDs_pd xs ys
  | .tup xs, .tup ys => by simp only [toPD, PyData.eqv, eqD]; exact eqDs_pd xs ys
  | .non, e | .bl _, e | .int _, e | .str _, e => by cases e <;> simp [toPD, PyData.eqv, eqD]
  | .lst xs, .non | .lst xs, .bl _ | .lst xs, .int _ | .lst xs, .str _ | .lst xs, .tup _ => by simp [toPD, PyData.eqv, eqD]
  | .tup xs, .non | .tup xs, .bl _ | .tup xs, .int _ | .tup xs, .str _ | .tup xs, .lst _ => by simp [toPD, PyData.eqv, eqD]
theorem eqDs_pd : ∀ ds es : List D, PyData.eqvAll (toPDs ds) (toPDs es) = eqDs ds es
  | [], [] => by simp [toPDs, PyData.eqvAll, eqDs]
  | [], _ :: _ => by simp [toPDs, PyData.eqvAll, eqDs]
  | _ :: _, [] => by simp [toPDs, PyData.eqvAll, eqDs]
  | x :: xs, y :: ys => by simp only [toPDs, PyData.eqvAll, eqDs, eqD_pd x y, eqDs_pd xs ys]
end
mutual
theorem Rp.dp {K : PySem.W.Frag} {H : Hp} {Z : Addr → Prop} : ∀ {d : D} {v : V}, Rp K H Z d v → Dp K H v (toPD d) ∧ (toPD d).canLay0 = true
  | .non, v, h => by
    cases (show v = V.non from h)
    exact ⟨by simp only [toPD]; exact .non, by simp [toPD, PyData.canLay0]⟩
  | .bl b, v, h => by
    cases (show v = V.bl b from h)
    exact ⟨by simp only [toPD]; exact .bl b, by simp [toPD, PyData.canLay0]⟩
  | .int b, v, h => by
    cases (show v = V.int b from h)
    exact ⟨by simp only [toPD]; exact .int b, by simp [toPD, PyData.canLay0]⟩
  | .str b, v, h => by
    obtain ⟨e, l⟩ := (show v = V.str b ∧ SOk b from h)
    subst e
    refine ⟨by simp only [toPD]; exact .str b, ?_⟩
    simp only [toPD, PyData.canLay0]
    exact l.2
  | .tup ds, v, h => by
    obtain ⟨a, vs, e, q, r, l⟩ := (show ∃ a vs, v = V.ref a ∧ SqT K H a vs ∧ Rps K H Z ds vs ∧ ds.length ≤ sizeLine from h)
    subst e
    obtain ⟨h1, h2⟩ := Rps.dp r
    exact ⟨by simp only [toPD]; exact .tup q h1, by simp only [toPD, PyData.canLay0]; exact h2⟩
  | .lst ds, v, h => by
    obtain ⟨a, vs, e, q, r, l⟩ := (show ∃ a vs, v = V.ref a ∧ FzL K H Z a vs ∧ Rps K H Z ds vs ∧ ds.length ≤ sizeLine from h)
    subst e
    obtain ⟨h1, h2⟩ := Rps.dp r
    exact ⟨by simp only [toPD]; exact .lst q.sq h1, by simp only [toPD, PyData.canLay0]; exact h2⟩
theorem Rps.dp {K : PySem.W.Frag} {H : Hp} {Z : Addr → Prop} : ∀ {ds : List D} {vs : List V}, Rps K H Z ds vs → DpAll K H vs (toPDs ds) ∧ PyData.canLayAll0 (toPDs ds) = true
  | [], vs, h => by
    cases (show vs = [] from h)
    exact ⟨by simp only [toPDs]; exact .nil, by simp [toPDs, PyData.canLayAll0]⟩
  | d :: ds, vs, h => by
    obtain ⟨v, r, e, h1, h2⟩ := (show ∃ v r, vs = v :: r ∧ Rp K H Z d v ∧ Rps K H Z ds r from h)
    subst e
    obtain ⟨a1, a2⟩ := Rp.dp h1
    obtain ⟨b1, b2⟩ := Rps.dp h2
    exact ⟨by simp only [toPDs]; exact .cons a1 b1, by simp only [toPDs, PyData.canLayAll0, a2, b2, Bool.and_self]⟩
end
theorem Rq.dp {K : PySem.W.Frag} {H : Hp} {Z : Addr → Prop} {d : D} {v : V} (h : Rq K H Z d v) : Dp K H v (toPD d) ∧ (toPD d).canLay0 = true := by
  cases d with
  | lst ds =>
    obtain ⟨a, vs, e, q, r, l⟩ := h
    subst e
    obtain ⟨h1, h2⟩ := Rps.dp r
    exact ⟨by simp only [toPD]; exact .lst (.inl q) h1, by simp only [toPD, PyData.canLay0]; exact h2⟩
  | _ => exact Rp.dp (Z := Z) h
section
variable {X : Cx} {W : WX} {p : Cp}
def eqB (d e : D) : Option Bool := if min (dep d) (dep e) ≤ 64 then some (eqD d e) else none
def neB (d e : D) : Option Bool := if min (dep d) (dep e) ≤ 64 then some (!eqD d e) else none
theorem ob_eq (g : GX X W p) : OpB X (compareOp .Eq) eqB := by
  intro pins s σ H x y v u Q I rx ry ⟨Z, d, e, b, h1, h2, hb, q⟩
  obtain ⟨a1, a2⟩ := h1.dp
  obtain ⟨b1, b2⟩ := h2.dp
  obtain ⟨as, r1⟩ := Dp.reads I _ x v a1 rx
  obtain ⟨bs, r2⟩ := Dp.reads I _ y u b1 ry
  unfold eqB at hb
  split at hb
  · rename_i hd
    cases hb
    have hu := g.hu
    exact SeqAt.compareEq_reads r1 r2 a2 b2 (by rw [dep_pd, dep_pd]; omega) ⟨.bl _, H, I, by rw [eqD_pd]; rfl, q⟩
  · cases hb
theorem ob_ne (g : GX X W p) : OpB X (compareOp .NotEq) neB := by
  intro pins s σ H x y v u Q I rx ry ⟨Z, d, e, b, h1, h2, hb, q⟩
  obtain ⟨a1, a2⟩ := h1.dp
  obtain ⟨b1, b2⟩ := h2.dp
  obtain ⟨as, r1⟩ := Dp.reads I _ x v a1 rx
  obtain ⟨bs, r2⟩ := Dp.reads I _ y u b1 ry
  unfold neB at hb
  split at hb
  · rename_i hd
    cases hb
    have hu := g.hu
    exact SeqAt.compareNe_reads r1 r2 a2 b2 (by rw [dep_pd, dep_pd]; omega) ⟨.bl _, H, I, by rw [eqD_pd]; rfl, q⟩
  · cases hb

/-! ### ints -/
theorem rq_int {K : PySem.W.Frag} {H : Hp} {Z : Addr → Prop} {i : Int} {v : V} (h : Rq K H Z (.int i) v) : v = .int i := h
theorem rq_bl {K : PySem.W.Frag} {H : Hp} {Z : Addr → Prop} {i : Bool} {v : V} (h : Rq K H Z (.bl i) v) : v = .bl i := h
theorem rq_str {K : PySem.W.Frag} {H : Hp} {Z : Addr → Prop} {i : Str} {v : V} (h : Rq K H Z (.str i) v) : v = .str i ∧ SOk i := h
theorem rq_tup {K : PySem.W.Frag} {H : Hp} {Z : Addr → Prop} {ds : List D} {v : V} (h : Rq K H Z (.tup ds) v) : ∃ a vs, v = V.ref a ∧ SqT K H a vs ∧ Rps K H Z ds vs ∧ ds.length ≤ sizeLine := h
theorem rq_lst {K : PySem.W.Frag} {H : Hp} {Z : Addr → Prop} {ds : List D} {v : V} (h : Rq K H Z (.lst ds) v) : ∃ a vs, v = .ref a ∧ Rd H a (.lst vs) ∧ Rps K H Z ds vs ∧ ds.length ≤ sizeLine := h
def ltB : D → D → Option Bool
  | .int i, .int j => some (decide (i < j))
  | _, _ => none
def leB : D → D → Option Bool
  | .int i, .int j => some (decide (i ≤ j))
  | _, _ => none
def gtB : D → D → Option Bool
  | .int i, .int j => some (decide (j < i))
  | _, _ => none
def geB : D → D → Option Bool
  | .int i, .int j => some (decide (j ≤ i))
  | _, _ => none
theorem ob_int {op : CmpOp} {f : D → D → Option Bool} {r : Int → Int → Bool} (hf : ∀ d e b, f d e = some b → ∃ i j, d = .int i ∧ e = .int j ∧ b = r i j)
    (ho : OpR X (compareOp op) (rI0 fun i j => .bl (r i j))) : OpB X (compareOp op) f := by
  intro pins s σ H x y v u Q I rx ry ⟨Z, d, e, b, h1, h2, hb, q⟩
  obtain ⟨i, j, rfl, rfl, rfl⟩ := hf d e b hb
  exact ho pins s σ H x y v u Q I rx ry ⟨i, j, rq_int h1, rq_int h2, q⟩
theorem ob_lt : OpB X (compareOp .Lt) ltB := ob_int (fun d e b h => by
  cases d <;> cases e <;> first | cases h | skip
  exact ⟨_, _, rfl, rfl, rfl⟩) op_lt
theorem ob_le : OpB X (compareOp .LtE) leB := ob_int (fun d e b h => by
  cases d <;> cases e <;> first | cases h | skip
  exact ⟨_, _, rfl, rfl, rfl⟩) op_le
theorem ob_gt : OpB X (compareOp .Gt) gtB := ob_int (fun d e b h => by
  cases d <;> cases e <;> first | cases h | skip
  exact ⟨_, _, rfl, rfl, rfl⟩) op_gt
theorem ob_ge : OpB X (compareOp .GtE) geB := ob_int (fun d e b h => by
  cases d <;> cases e <;> first | cases h | skip
  exact ⟨_, _, rfl, rfl, rfl⟩) op_ge
/-- is None, is True, is False -/
def isNon : D → Bool
  | .non => true
  | _ => false
def isB : D → D → Option Bool
  | d, .non => some (isNon d)
  | .bl a, .bl b => some (decide (a = b))
  | _, _ => none
def isntB : D → D → Option Bool
  | d, .non => some (!isNon d)
  | .bl a, .bl b => some (!decide (a = b))
  | _, _ => none
theorem rq_non {K : PySem.W.Frag} {H : Hp} {Z : Addr → Prop} {d : D} {v : V} (h : Rq K H Z d v) : decide (v = .non) = isNon d := by
  cases d with
  | non => cases (show v = V.non from h); rfl
  | bl b => cases (show v = V.bl b from h); rfl
  | int b => cases (show v = V.int b from h); rfl
  | str b => cases (rq_str h).1; rfl
  | tup b => obtain ⟨a, vs, e, _⟩ := rq_tup h; cases e; rfl
  | lst b => obtain ⟨a, vs, e, _⟩ := rq_lst h; cases e; rfl
theorem ob_is : OpB X (compareOp .Is) isB := by
  intro pins s σ H x y v u Q I rx ry ⟨Z, d, e, b, h1, h2, hb, q⟩
  cases e with
  | non =>
    have ey : y = .non := h2
    have e1 : isB d .non = some (isNon d) := by cases d <;> rfl
    rw [e1] at hb
    cases hb
    exact op_isN pins s σ H x y v u Q I rx ry ⟨ey, by rw [rq_non h1]; exact q⟩
  | bl c =>
    cases d with
    | bl a =>
      cases hb
      exact op_is_bl pins s σ H x y v u Q I rx ry ⟨a, c, rq_bl h1, rq_bl h2, q⟩
    | _ => cases hb
  | _ => cases d <;> cases hb
theorem ob_isnt : OpB X (compareOp .IsNot) isntB := by
  intro pins s σ H x y v u Q I rx ry ⟨Z, d, e, b, h1, h2, hb, q⟩
  cases e with
  | non =>
    have ey : y = .non := h2
    have e1 : isntB d .non = some (!isNon d) := by cases d <;> rfl
    rw [e1] at hb
    cases hb
    exact op_notN pins s σ H x y v u Q I rx ry ⟨ey, by rw [rq_non h1]; exact q⟩
  | bl c =>
    cases d with
    | bl a =>
      cases hb
      exact op_isnot_bl pins s σ H x y v u Q I rx ry ⟨a, c, rq_bl h1, rq_bl h2, q⟩
    | _ => cases hb
  | _ => cases d <;> cases hb

/-! ### in -/
def flatD : D → Bool
  | .tup _ => false
  | .lst _ => false
  | _ => true
def seqD : D → Option (List D)
  | .tup xs => some xs
  | .lst xs => some xs
  | _ => none
def inD (d : D) (e : D) : Option Bool := match e with
  | .tup es => if flatD d && es.all flatD then some (es.any fun z => eqD z d) else none
  | .lst es => if flatD d && es.all flatD then some (es.any fun z => eqD z d) else if dep d ≤ 64 ∧ depS es ≤ 63 then some (es.any fun z => eqD z d) else none
  | _ => none
def notInD (d : D) (e : D) : Option Bool := (inD d e).map fun b => !b
theorem rp_flat {K : PySem.W.Frag} {H : Hp} {Z : Addr → Prop} {d : D} {v : V} (h : Rp K H Z d v) (f : flatD d = true) : flatV v = true ∧ ∀ {e : D} {w : V}, flatD e = true → Rp K H Z e w → eqV v w = eqD d e := by
  cases d with
  | non =>
    cases (show v = V.non from h)
    refine ⟨rfl, fun {e w} fe he => ?_⟩
    cases e with
    | non => cases (show w = V.non from he); simp [eqV, eqD]
    | bl b => cases (show w = V.bl b from he); simp [eqV, eqD]
    | int b => cases (show w = V.int b from he); simp [eqV, eqD]
    | str b => cases (show w = V.str b ∧ SOk b from he).1; simp [eqV, eqD]
    | _ => cases fe
  | bl b =>
    cases (show v = V.bl b from h)
    refine ⟨rfl, fun {e w} fe he => ?_⟩
    cases e with
    | non => cases (show w = V.non from he); simp [eqV, eqD]
    | bl b => cases (show w = V.bl b from he); simp [eqV, eqD]
    | int b => cases (show w = V.int b from he); simp [eqV, eqD]
    | str b => cases (show w = V.str b ∧ SOk b from he).1; simp [eqV, eqD]
    | _ => cases fe
  | int b =>
    cases (show v = V.int b from h)
    refine ⟨rfl, fun {e w} fe he => ?_⟩
    cases e with
    | non => cases (show w = V.non from he); simp [eqV, eqD]
    | bl b => cases (show w = V.bl b from he); simp [eqV, eqD]
    | int b => cases (show w = V.int b from he); simp [eqV, eqD]
    | str b => cases (show w = V.str b ∧ SOk b from he).1; simp [eqV, eqD]
    | _ => cases fe
  | str b =>
    cases (show v = V.str b ∧ SOk b from h).1
    refine ⟨rfl, fun {e w} fe he => ?_⟩
    cases e with
    | non => cases (show w = V.non from he); simp [eqV, eqD]
    | bl b => cases (show w = V.bl b from he); simp [eqV, eqD]
    | int b => cases (show w = V.int b from he); simp [eqV, eqD]
    | str b => cases (show w = V.str b ∧ SOk b from he).1; simp [eqV, eqD]
    | _ => cases fe
  | _ => cases f
theorem rp_of_rq_flat {K : PySem.W.Frag} {H : Hp} {Z : Addr → Prop} {d : D} {v : V} (h : Rq K H Z d v) (f : flatD d = true) : Rp K H Z d v := by
  cases d <;> first | exact h | cases f
theorem any_flat {K : PySem.W.Frag} {H : Hp} {Z : Addr → Prop} {d : D} {v : V} (h : Rp K H Z d v) (f : flatD d = true) : ∀ {es : List D} {vs : List V}, Rps K H Z es vs → es.all flatD = true → vs.all flatV = true ∧ inV v vs = es.any fun z => eqD z d
  | [], vs, r, _ => by
    cases (show vs = [] from r)
    exact ⟨rfl, rfl⟩
  | e :: es, vs, r, fs => by
    obtain ⟨w, t, rfl, h1, h2⟩ := (show ∃ w t, vs = w :: t ∧ Rp K H Z e w ∧ Rps K H Z es t from r)
    rw [List.all_cons, Bool.and_eq_true] at fs
    obtain ⟨a1, a2⟩ := any_flat h f h2 fs.2
    obtain ⟨b1, b2⟩ := rp_flat h1 fs.1
    refine ⟨by rw [List.all_cons, b1, a1]; rfl, ?_⟩
    unfold inV at a2 ⊢
    rw [List.any_cons, List.any_cons, a2, b2 f h]
theorem shaped_of {d : D} (c : (toPD d).canLay0 = true) (h : dep d ≤ 64) : SeqAt.shaped (toPD d) = true := by
  unfold SeqAt.shaped
  rw [c, dep_pd]
  simp [h]
theorem any_pd (d : D) : ∀ es : List D, ((toPDs es).any fun z => PyData.eqv z (toPD d)) = es.any fun z => eqD z d
  | [] => by simp [toPDs]
  | e :: es => by simp only [toPDs, List.any_cons, any_pd d es, eqD_pd]
theorem ob_in (g : GX X W p) : OpB X (compareOp .In) inD := by
  intro pins s σ H x y v u Q I rx ry ⟨Z, d, e, b, h1, h2, hb, q⟩
  cases e with
  | tup es =>
    obtain ⟨a, vs, rfl, hq, r, l⟩ := rq_tup h2
    simp only [inD] at hb
    split at hb
    · rename_i hf
      cases hb
      rw [Bool.and_eq_true] at hf
      obtain ⟨f1, f2⟩ := any_flat (rp_of_rq_flat h1 hf.1) hf.1 r hf.2
      exact op_in_seq pins s σ H x _ v u Q I rx ry ⟨a, vs, rfl, .inr hq, (rp_flat (rp_of_rq_flat h1 hf.1) hf.1).1, f1, by rw [f2]; exact q⟩
    · cases hb
  | lst es =>
    obtain ⟨a, vs, rfl, hq, r, l⟩ := rq_lst h2
    simp only [inD] at hb
    split at hb
    · rename_i hf
      cases hb
      rw [Bool.and_eq_true] at hf
      obtain ⟨f1, f2⟩ := any_flat (rp_of_rq_flat h1 hf.1) hf.1 r hf.2
      exact op_in_seq pins s σ H x _ v u Q I rx ry ⟨a, vs, rfl, .inl (.inl hq), (rp_flat (rp_of_rq_flat h1 hf.1) hf.1).1, f1, by rw [f2]; exact q⟩
    · split at hb
      · rename_i hd
        cases hb
        obtain ⟨c1, c2⟩ := h1.dp
        obtain ⟨e1, e2⟩ := h2.dp
        have e1' : Dp X.K H (V.ref a) (.list (toPDs es)) := by simpa only [toPD] using e1
        refine op_inD g.hu pins s σ H x _ v u Q I rx ry ⟨_, _, c1, e1', shaped_of c2 hd.1, ?_, by rw [any_pd]; exact q⟩
        have := shaped_of (d := .lst es) e2 (by simp only [dep]; omega)
        simpa only [toPD] using this
      · cases hb
  | _ => cases hb
theorem ob_notIn (g : GX X W p) : OpB X (compareOp .NotIn) notInD := by
  intro pins s σ H x y v u Q I rx ry ⟨Z, d, e, b, h1, h2, hb, q⟩
  obtain ⟨b0, hb0, rfl⟩ : ∃ b0, inD d e = some b0 ∧ b = !b0 := by
    unfold notInD at hb
    cases z : inD d e with
    | none => rw [z] at hb; cases hb
    | some b0 => rw [z] at hb; cases hb; exact ⟨b0, rfl, rfl⟩
  have hb := hb0
  cases e with
  | tup es =>
    obtain ⟨a, vs, rfl, hq, r, l⟩ := rq_tup h2
    simp only [inD] at hb
    split at hb
    · rename_i hf
      cases hb
      rw [Bool.and_eq_true] at hf
      obtain ⟨f1, f2⟩ := any_flat (rp_of_rq_flat h1 hf.1) hf.1 r hf.2
      exact op_notIn_seq pins s σ H x _ v u Q I rx ry ⟨a, vs, rfl, .inr hq, (rp_flat (rp_of_rq_flat h1 hf.1) hf.1).1, f1, by rw [f2]; exact q⟩
    · cases hb
  | lst es =>
    obtain ⟨a, vs, rfl, hq, r, l⟩ := rq_lst h2
    simp only [inD] at hb
    split at hb
    · rename_i hf
      cases hb
      rw [Bool.and_eq_true] at hf
      obtain ⟨f1, f2⟩ := any_flat (rp_of_rq_flat h1 hf.1) hf.1 r hf.2
      exact op_notIn_seq pins s σ H x _ v u Q I rx ry ⟨a, vs, rfl, .inl (.inl hq), (rp_flat (rp_of_rq_flat h1 hf.1) hf.1).1, f1, by rw [f2]; exact q⟩
    · split at hb
      · rename_i hd
        cases hb
        obtain ⟨c1, c2⟩ := h1.dp
        obtain ⟨e1, e2⟩ := h2.dp
        have e1' : Dp X.K H (V.ref a) (.list (toPDs es)) := by simpa only [toPD] using e1
        refine op_notInD g.hu pins s σ H x _ v u Q I rx ry ⟨_, _, c1, e1', shaped_of c2 hd.1, ?_, by rw [any_pd]; exact q⟩
        have := shaped_of (d := .lst es) e2 (by simp only [dep]; omega)
        simpa only [toPD] using this
      · cases hb
  | _ => cases hb

/-! ### arithmetic -/
def catT (xs ys : List D) : Option D := if xs.length + ys.length ≤ sizeLine then some (.tup (xs ++ ys)) else none
def catL (xs ys : List D) : Option (List D) := if xs.length + ys.length ≤ sizeLine then some (xs ++ ys) else none
def addD : D → D → Option D
  | .int i, .int j => some (.int (i + j))
  | .str x, .str y => if x.length + y.length ≤ sizeLine then some (.str (x ++ y)) else none
  | .tup xs, .tup ys => catT xs ys
  | .lst xs, .lst ys => (catL xs ys).map .lst
  | _, _ => none
/-- list + list, new -/
def addL : D → D → Option (List D)
  | .lst xs, .lst ys => catL xs ys
  | _, _ => none
def subD : D → D → Option D
  | .int i, .int j => some (.int (i - j))
  | _, _ => none
def mulOk (i j : Int) : Bool := decide (i.natAbs < 2 ^ 64) || (decide (j.natAbs < 2 ^ 64) || (decide (i.natAbs < 2 ^ 4000) && decide (j.natAbs < 2 ^ 4000)))
def repT (xs : List D) (k : Int) : Option D := if xs ≠ [] ∧ 2 ≤ k ∧ (xs.length : Int) * k ≤ 1000000 then some (.tup (List.replicate k.toNat xs).flatten) else none
def mulD : D → D → Option D
  | .int i, .int j => if mulOk i j then some (.int (i * j)) else none
  | .tup xs, .int k => repT xs k
  | _, _ => none
def repL (xs : List D) (k : Int) : Option (List D) := if -(2 ^ 63) ≤ k ∧ k < 2 ^ 63 ∧ xs.length * k.toNat ≤ sizeLine then some (List.replicate k.toNat xs).flatten else none
def mulL : D → D → Option (List D)
  | .lst xs, .int k => repL xs k
  | _, _ => none
def divOk (j : Int) : Bool := (decide (j ≠ 0) && decide (j.natAbs < 1073741824)) || (decide (0 < j) && decide (j.natAbs < 2 ^ 4000))
def divD : D → D → Option D
  | .int i, .int j => if divOk j then some (.int (i.fdiv j)) else none
  | _, _ => none
def modD : D → D → Option D
  | .int i, .int j => if j = 0 then none else some (.int (i.fmod j))
  | _, _ => none
def powD : D → D → Option D
  | .int i, .int j => if 0 ≤ j ∧ j ≤ 1000000 ∧ i.natAbs < 2 ^ 64 then some (.int (i ^ j.toNat)) else none
  | _, _ => none
def negD : D → Option D
  | .int i => some (.int (-i))
  | _ => none
theorem lstR {pins : List (Addr × Obj)} {σ : L2.St} {H : Hp} {s : Shared} (I : Inv X pins σ H s) {a : Addr} {vs : List V} (h : Rd H a (.lst vs)) : vs.length ≤ sizeLine ∧ ∃ (its : List Value) (n : Nat), Vals vs its ∧ vs.length = its.length ∧ s.heap.get? a = some { cls := .type "list", data := .seq its.toArray n } := by
  obtain ⟨z, its, n, r, e⟩ := h.ok I.hok
  exact ⟨z, its, n, r, r.length, e⟩
theorem op_catR : OpR X (binaryOp .Add) (fun x y H Q => ∃ l b xs zs, x = .ref l ∧ y = .ref b ∧ Rd H l (.lst xs) ∧ Rd H b (.lst zs) ∧ xs.length + zs.length ≤ sizeLine ∧ ∀ p, H p = none → Q (.ref p) (upd H p (.lst (xs ++ zs)))) := by
  intro pins s σ H x y v u Q I rx ry ⟨l, b, xs, zs, ex, ey, h1, h2, hz, q⟩
  subst ex ey
  cases rx
  cases ry
  obtain ⟨_, i1, _, r1, n1, e1⟩ := lstR I h1
  obtain ⟨_, i2, _, r2, n2, e2⟩ := lstR I h2
  refine PySem.P.add_list e1 e2 ?_ (by rw [List.size_toArray, List.size_toArray, ← n1, ← n2]; exact hz)
  have ea : i1.toArray ++ i2.toArray = (i1 ++ i2).toArray := by simp
  rw [ea]
  exact ⟨.ref _, _, I.lnew (t' := s.toks) (r1.append r2) (by rw [List.length_append]; exact hz), rfl, q _ I.fresh⟩
theorem catL_some {xs ys zs : List D} (h : catL xs ys = some zs) : zs = xs ++ ys ∧ xs.length + ys.length ≤ sizeLine := by
  unfold catL at h
  split at h
  · cases h
    exact ⟨rfl, by assumption⟩
  · cases h
theorem ol_add : OpL X (binaryOp .Add) addL := by
  intro pins s σ H x y v u Q I rx ry ⟨Z, d, e, ds, zok, h1, h2, hd, q⟩
  cases d <;> cases e <;> first | cases hd | skip
  rename_i xs ys
  obtain ⟨rfl, hl⟩ := catL_some hd
  obtain ⟨a, vs, rfl, k1, r1, l1⟩ := rq_lst h1
  obtain ⟨b, ws, rfl, k2, r2, l2⟩ := rq_lst h2
  refine op_catR pins s σ H _ _ v u Q I rx ry ⟨a, b, vs, ws, rfl, rfl, k1, k2, by rw [rps_len r1, rps_len r2]; exact hl, fun p hp => ?_⟩
  exact q p _ hp (rps_append r1 r2) (by rw [List.length_append]; exact hl)
theorem rp_new_lst {K : PySem.W.Frag} {H : Hp} {Z : Addr → Prop} {p : Addr} {ds : List D} {vs : List V} (zok : ∀ a, Z a → (H a).isSome = true) (hp : H p = none) (r : Rps K H Z ds vs) (l : ds.length ≤ sizeLine) : Rp K (upd H p (.lst vs)) Z (.lst ds) (.ref p) := by
  refine ⟨p, vs, rfl, .inl ⟨upd_same, fun z => ?_⟩, Rps.go (.same (same_new hp) fun _ z => z) r, l⟩
  have := zok p z
  rw [hp] at this; cases this
theorem rp_new_tup {K : PySem.W.Frag} {H : Hp} {Z : Addr → Prop} {p : Addr} {ds : List D} {vs : List V} (hp : H p = none) (r : Rps K H Z ds vs) (l : ds.length ≤ sizeLine) : Rp K (upd H p (.tup vs)) Z (.tup ds) (.ref p) :=
  ⟨p, vs, rfl, .of upd_same, Rps.go (.same (same_new hp) fun _ z => z) r, l⟩
theorem sok_append {x y : Str} (hx : SOk x) (hy : SOk y) (h : x.length + y.length ≤ sizeLine) : SOk (x ++ y) := by
  have e : (x ++ y).cps = x.cps ++ y.cps := by first | rfl | simp [HAppend.hAppend, Append.append]
  refine ⟨?_, ?_⟩
  · show (x ++ y).cps.size ≤ sizeLine
    rw [e, Array.size_append]
    exact h
  · rw [e, Array.all_append, hx.2, hy.2]
    rfl
theorem od_add : OpD X (binaryOp .Add) addD := by
  intro pins s σ H x y v u Q I rx ry ⟨Z, d, e, r, zok, h1, h2, hd, q⟩
  cases d with
  | int i =>
    cases e <;> first | cases hd | skip
    exact op_add pins s σ H x y v u Q I rx ry ⟨i, _, rq_int h1, rq_int h2, q _ H (.refl _) rfl⟩
  | str i =>
    cases e <;> first | cases hd | skip
    rename_i j
    have hd' : (if i.length + j.length ≤ sizeLine then some (D.str (i ++ j)) else none) = some r := hd
    split at hd'
    · rename_i hl
      cases hd'
      obtain ⟨e1, s1⟩ := rq_str h1
      obtain ⟨e2, s2⟩ := rq_str h2
      exact op_add_str pins s σ H x y v u Q I rx ry ⟨i, j, e1, e2, hl, q _ H (.refl _) ⟨rfl, sok_append s1 s2 hl⟩⟩
    · cases hd'
  | tup xs =>
    cases e <;> first | cases hd | skip
    rename_i ys
    have hd' : (if xs.length + ys.length ≤ sizeLine then some (D.tup (xs ++ ys)) else none) = some r := hd
    split at hd'
    · rename_i hl
      cases hd'
      obtain ⟨a, vs, rfl, k1, r1, l1⟩ := rq_tup h1
      obtain ⟨b, ws, rfl, k2, r2, l2⟩ := rq_tup h2
      have n1 := rps_len r1
      have n2 := rps_len r2
      refine op_catA pins s σ H _ _ v u Q I rx ry ⟨a, b, vs, ws, rfl, rfl, k1, k2, by rw [n1, n2]; exact hl, fun e0 => ?_, fun _ e0 => ?_, fun _ _ p hp => ?_⟩
      · have : xs = [] := List.eq_nil_of_length_eq_zero (by rw [← n1, e0]; rfl)
        subst this
        exact q _ H (.refl _) ⟨b, ws, rfl, k2, r2, l2⟩
      · have : ys = [] := List.eq_nil_of_length_eq_zero (by rw [← n2, e0]; rfl)
        subst this
        rw [List.append_nil] at q
        exact q _ H (.refl _) ⟨a, vs, rfl, k1, r1, l1⟩
      · exact q _ _ (same_new hp) (rp_new_tup hp (rps_append r1 r2) (by rw [List.length_append]; exact hl))
    · cases hd'
  | lst xs =>
    cases e <;> first | cases hd | skip
    rename_i ys
    have hd' : (catL xs ys).map D.lst = some r := hd
    obtain ⟨zs, e1, rfl⟩ := Option.map_eq_some_iff.mp hd'
    exact ol_add pins s σ H x y v u Q I rx ry ⟨Z, _, _, zs, zok, h1, h2, e1, fun p vs hp rp hl => q _ _ (same_new hp) (rp_new_lst zok hp rp hl)⟩
  | _ => cases e <;> cases hd
theorem od_sub : OpD X (binaryOp .Sub) subD := by
  intro pins s σ H x y v u Q I rx ry ⟨Z, d, e, r, zok, h1, h2, hd, q⟩
  cases d <;> cases e <;> first | cases hd | skip
  exact op_sub pins s σ H x y v u Q I rx ry ⟨_, _, rq_int h1, rq_int h2, q _ H (.refl _) rfl⟩
theorem mul_ok {i j : Int} (h : mulOk i j = true) : IntMulOk i j := by
  unfold mulOk at h
  simp only [Bool.or_eq_true, Bool.and_eq_true, decide_eq_true_eq] at h
  rcases h with h | h | ⟨h1, h2⟩
  · exact CMul.ok (.inl ⟨by omega, by omega⟩)
  · exact CMul.ok (.inr ⟨by omega, by omega⟩)
  · exact CMulW.ok (wide_mul h1 h2 (by decide) (by decide) (by decide))
theorem op_mulOk : OpR X (binaryOp .Mult) (rI (fun i j => mulOk i j = true) fun i j => .int (i * j)) := opI fun _ _ _ _ _ _ _ hc q => mul_int q (mul_ok hc)
theorem op_divOk : OpR X (binaryOp .FloorDiv) (rI (fun _ j => divOk j = true) fun i j => .int (i.fdiv j)) := opI fun i j _ _ _ _ _ hc q => by
  unfold divOk at hc
  simp only [Bool.or_eq_true, Bool.and_eq_true, decide_eq_true_eq] at hc
  rcases hc with ⟨h1, h2⟩ | ⟨h1, h2⟩
  · exact floordiv_int h1 q (.inl (PyProof.noPylong_small h2))
  · exact floordiv_int (by omega) q (.inl (PyProof.noPylong_of_log2 (wide_div (i := i) h1 h2 (by decide) (by decide)).2))
theorem op_repW : OpR X (binaryOp .Mult) (fun x y H Q => ∃ l k xs, x = .ref l ∧ y = .int k ∧ SqT X.K H l xs ∧ xs ≠ [] ∧ 2 ≤ k ∧ (xs.length : Int) * k ≤ 1000000 ∧ ∀ p, H p = none → Q (.ref p) (upd H p (.tup (List.replicate k.toNat xs).flatten))) := by
  intro pins s σ H x y v u Q I rx ry ⟨l, k, xs, ex, ey, hT, hne, h1, h2, q⟩
  subst ex ey
  cases rx
  obtain ⟨t, rfl⟩ := ry
  obtain ⟨its, r, ⟨ob, ho, hc, n, hd⟩, hs⟩ := I.tuple hT
  obtain ⟨cls, dd, data, sl⟩ := ob
  dsimp only at hc hd
  subst hc hd
  have len : xs.length = its.length := r.length
  have pos : 0 < xs.length := List.length_pos_iff.mpr hne
  have emp : its.toArray.isEmpty = false := by
    cases its with
    | nil => rw [len] at pos; cases pos
    | cons a b => rfl
  have asz : its.toArray.size = xs.length := by rw [List.size_toArray, len]
  have kle : k ≤ 1000000 := by
    have : (1 : Int) * k ≤ (xs.length : Int) * k := Int.mul_le_mul_of_nonneg_right (by omega) (by omega)
    omega
  have cnt : xs.length * k.toNat ≤ 1000000 := by
    have e : ((xs.length * k.toNat : Nat) : Int) = (xs.length : Int) * k := by
      rw [Int.natCast_mul, Int.toNat_of_nonneg (by omega)]
    omega
  have fl : (List.replicate k.toNat its).flatten.length ≤ sizeLine := by
    rw [PyProof.Rows.lm_len_rep_flat, ← len, Nat.mul_comm]
    exact Nat.le_trans cnt (by decide)
  have t0 : (decide (k < -(2 ^ 63)) || decide (k ≥ 2 ^ 63)) = false := by
    simp only [Bool.or_eq_false_iff, decide_eq_false_iff_not]
    constructor <;> omega
  have t1 : (its.toArray.isEmpty || k == 1) = false := by
    rw [emp, Bool.false_or, beq_eq_false_iff_ne]
    omega
  have t2 : (decide (k ≤ 0) || its.toArray.isEmpty) = false := by
    rw [emp, Bool.or_false, decide_eq_false_iff_not]
    omega
  have t4 : Builtin.Tuple.tupleTooMany (((its.toArray.size : Nat) : Int) * k) = false := by
    unfold Builtin.Tuple.tupleTooMany
    rw [asz, sizeLine_eq, decide_eq_false_iff_not]
    omega
  have go := tuple_mulW l its.toArray n dd sl k t t0 t1 t2 (by rw [asz]; omega) t4 (by rw [size_rep, List.size_toArray]; exact fl)
  have go2 := int_rmul_tuple k t l its.toArray n dd sl
  refine wpAny_binaryOp_repeat_ref (T := "tuple") (U := "int") (by decide) ⟨_, ho, rfl⟩ (fun s' => typeIs_int s' k t) noFill_tuple_mul F.fills_int_mul F.slot_int_rmul repeat_tuple F.slot_int_index.lookup ?_
  refine call_meets F.slot_int_rmul (typeIs_int s k t) F.entry_int_rmul (F.args_int_rmul_2 _ _) go2 ⟨ho, rfl, ⟨_, ho, rfl⟩, ?_⟩
  refine call_meets F.slot_tuple_mul ⟨_, ho, rfl⟩ F.entry_tuple_mul (F.args_tuple_mul_2 _ _) go ⟨ho, ?_⟩
  rw [size_rep]
  have rr := r.rep k.toNat
  have rl : (List.replicate k.toNat xs).flatten.length ≤ sizeLine := by
    rw [PyProof.Rows.lm_len_rep_flat, Nat.mul_comm]
    exact Nat.le_trans cnt (by decide)
  exact ⟨.ref s.heap.objs.size, _, I.laid (t' := s.toks) (o := .tup (List.replicate k.toNat xs).flatten) (fun b ob q => Heap.get?_push_of_some _ q) (Nat.le_refl _) ⟨rl, _, rr, IsTup.new _ _⟩, rfl, q _ (I.hok.fresh (Nat.le_refl _))⟩
theorem rps_rep {K : PySem.W.Frag} {H : Hp} {Z : Addr → Prop} {ds : List D} {vs : List V} (r : Rps K H Z ds vs) : ∀ n : Nat, Rps K H Z (List.replicate n ds).flatten (List.replicate n vs).flatten
  | 0 => rfl
  | n + 1 => by
    rw [List.replicate_succ, List.replicate_succ, List.flatten_cons, List.flatten_cons]
    exact rps_append r (rps_rep r n)
theorem od_mul : OpD X (binaryOp .Mult) mulD := by
  intro pins s σ H x y v u Q I rx ry ⟨Z, d, e, r, zok, h1, h2, hd, q⟩
  cases d with
  | int i =>
    cases e <;> first | cases hd | skip
    rename_i j
    have hd' : (if mulOk i j = true then some (D.int (i * j)) else none) = some r := hd
    split at hd'
    · rename_i hl
      cases hd'
      exact op_mulOk pins s σ H x y v u Q I rx ry ⟨i, j, rq_int h1, rq_int h2, hl, q _ H (.refl _) rfl⟩
    · cases hd'
  | tup xs =>
    cases e <;> first | cases hd | skip
    rename_i k
    have hd' : (if xs ≠ [] ∧ 2 ≤ k ∧ (xs.length : Int) * k ≤ 1000000 then some (D.tup (List.replicate k.toNat xs).flatten) else none) = some r := hd
    split at hd'
    · rename_i hl
      cases hd'
      obtain ⟨a, vs, rfl, k1, r1, l1⟩ := rq_tup h1
      have n1 := rps_len r1
      refine op_repW pins s σ H _ y v u Q I rx ry ⟨a, k, vs, rfl, rq_int h2, k1, fun e0 => hl.1 (List.eq_nil_of_length_eq_zero (by rw [← n1, e0]; rfl)), hl.2.1, by rw [n1]; exact hl.2.2, fun p hp => ?_⟩
      refine q _ _ (same_new hp) (rp_new_tup hp (rps_rep r1 _) ?_)
      rw [PyProof.Rows.lm_len_rep_flat]
      have e : ((k.toNat * xs.length : Nat) : Int) = (xs.length : Int) * k := by
        rw [Int.natCast_mul, Int.toNat_of_nonneg (by omega), Int.mul_comm]
      have : (1000000 : Nat) ≤ sizeLine := by decide
      omega
    · cases hd'
  | _ => cases e <;> cases hd
theorem op_repR : OpR X (binaryOp .Mult) (fun x y H Q => ∃ l k xs, x = .ref l ∧ y = .int k ∧ Rd H l (.lst xs) ∧ -(2 ^ 63) ≤ k ∧ k < 2 ^ 63 ∧ xs.length * k.toNat ≤ sizeLine ∧ ∀ p, H p = none → Q (.ref p) (upd H p (.lst (List.replicate k.toNat xs).flatten))) := by
  intro pins s σ H x y v u Q I rx ry ⟨l, k, xs, ex, ey, hH, h1, h2, hz, q⟩
  subst ex ey
  cases rx
  obtain ⟨t, rfl⟩ := ry
  obtain ⟨_, its, n, r, hl, e⟩ := lstR I hH
  have sz : its.toArray.size * k.toNat ≤ sizeLine := by rw [List.size_toArray, ← hl]; exact hz
  have cap : ¬ its.toArray.size * k.toNat > (2 ^ 63 - 1) / 8 := by
    have : (sizeLine : Nat) ≤ (2 ^ 63 - 1) / 8 := by decide
    omega
  have fit : ¬ (!Builtin.List.listFitsIndex k) = true := by
    rw [fitsIndex_both h1 h2]
    exact Bool.false_ne_true
  have long : ¬ Builtin.List.listTooLong (its.toArray.size * k.toNat) = true := by
    rw [notLongL sz]
    exact Bool.false_ne_true
  have new : List.foldl (fun x1 x2 => x1 ++ x2) #[] (List.replicate (if its.toArray.isEmpty = true then 0 else k.toNat) its.toArray) = (List.replicate k.toNat its).flatten.toArray := by
    rw [size_rep]
    cases its with
    | nil => simp
    | cons a r' => rw [if_neg (by simp)]
  have m1 := int___rmul___int_list k t l its.toArray n
  have m2 := AutoListH.list___mul___list_int_3 l its.toArray n k t fit cap long
  refine wpAny_binaryOp_repeat_ref (T := "list") (U := "int") (by decide) ⟨_, e, rfl⟩ (fun s' => typeIs_int s' k t) noFill_list_mul F.fills_int_mul F.slot_int_rmul repeat_list F.slot_int_index.lookup ?_
  refine call_meets F.slot_int_rmul (typeIs_int s k t) F.entry_int_rmul (F.args_int_rmul_2 _ _) m1 ⟨e, rfl, ⟨_, e, rfl⟩, ?_⟩
  refine call_meets F.slot_list_mul ⟨_, e, rfl⟩ F.entry_list_mul (F.args_list_mul_2 _ _) m2 ⟨e, ?_⟩
  rw [new]
  have rl : (List.replicate k.toNat xs).flatten.length ≤ sizeLine := by
    rw [PyProof.Rows.lm_len_rep_flat, Nat.mul_comm]
    exact hz
  exact ⟨.ref _, _, I.lnew (t' := s.toks) (r.rep k.toNat) rl, rfl, q _ I.fresh⟩
theorem ol_mul : OpL X (binaryOp .Mult) mulL := by
  intro pins s σ H x y v u Q I rx ry ⟨Z, d, e, ds, zok, h1, h2, hd, q⟩
  cases d <;> cases e <;> first | cases hd | skip
  rename_i xs k
  have hd' : (if -(2 ^ 63) ≤ k ∧ k < 2 ^ 63 ∧ xs.length * k.toNat ≤ sizeLine then some (List.replicate k.toNat xs).flatten else none) = some ds := hd
  split at hd'
  · rename_i hl
    cases hd'
    obtain ⟨a, vs, rfl, k1, r1, l1⟩ := rq_lst h1
    refine op_repR pins s σ H _ y v u Q I rx ry ⟨a, k, vs, rfl, rq_int h2, k1, hl.1, hl.2.1, by rw [rps_len r1]; exact hl.2.2, fun p hp => ?_⟩
    refine q p _ hp (rps_rep r1 _) ?_
    rw [PyProof.Rows.lm_len_rep_flat, Nat.mul_comm]
    exact hl.2.2
  · cases hd'
theorem od_div : OpD X (binaryOp .FloorDiv) divD := by
  intro pins s σ H x y v u Q I rx ry ⟨Z, d, e, r, zok, h1, h2, hd, q⟩
  cases d <;> cases e <;> first | cases hd | skip
  rename_i i j
  have hd' : (if divOk j = true then some (D.int (i.fdiv j)) else none) = some r := hd
  split at hd'
  · rename_i hl
    cases hd'
    exact op_divOk pins s σ H x y v u Q I rx ry ⟨i, j, rq_int h1, rq_int h2, hl, q _ H (.refl _) rfl⟩
  · cases hd'
theorem od_mod : OpD X (binaryOp .Mod) modD := by
  intro pins s σ H x y v u Q I rx ry ⟨Z, d, e, r, zok, h1, h2, hd, q⟩
  cases d <;> cases e <;> first | cases hd | skip
  rename_i i j
  have hd' : (if j = 0 then none else some (D.int (i.fmod j))) = some r := hd
  split at hd'
  · cases hd'
  · rename_i hl
    cases hd'
    exact op_modN pins s σ H x y v u Q I rx ry ⟨i, j, rq_int h1, rq_int h2, hl, q _ H (.refl _) rfl⟩
theorem od_pow : OpD X (binaryOp .Pow) powD := by
  intro pins s σ H x y v u Q I rx ry ⟨Z, d, e, r, zok, h1, h2, hd, q⟩
  cases d <;> cases e <;> first | cases hd | skip
  rename_i i j
  have hd' : (if 0 ≤ j ∧ j ≤ 1000000 ∧ i.natAbs < 2 ^ 64 then some (D.int (i ^ j.toNat)) else none) = some r := hd
  split at hd'
  · rename_i hl
    cases hd'
    exact op_pow pins s σ H x y v u Q I rx ry ⟨i, j, rq_int h1, rq_int h2, hl, q _ H (.refl _) rfl⟩
  · cases hd'
theorem ee_neg {S : Type} {ρ : S → List Slot} {a : Expr} {pos : Pos} {m : S → M D} (h : Ee X W ρ a m) : Ee X W ρ (.UnaryOp .USub a pos) fun c => M.bind (m c) fun d => M.opt (negD d) := by
  refine PE.imp (pe_un un_neg h) fun σ H Q ⟨c, U, T, r, q⟩ => ?_
  refine ⟨c, U, T, r, (m c).mono (fun d1 q1 v1 H1 r1 p1 e1 => ?_) (fun _ z => z) q⟩
  obtain ⟨d, hd, q3⟩ := opt_wp q1
  cases d1 <;> first | cases hd | skip
  exact ⟨_, p1, q3 _ H1 r1 rfl e1⟩
end
end CR

set_option Elab.async false
set_option linter.all false
set_option maxRecDepth 100000
/-! CR4: items, slices, built-in functions. -/
namespace CR
open PySem PySem.Spec PyProof.Rows L2
section
variable {X : Cx} {W : WX} {p : Cp} {S : Type} {ρ : S → List Slot}

/-! ### items -/
def getD (d i : D) : Option D := match i with
  | .int i => (match d with
    | .tup xs => atI xs i
    | .lst xs => atI xs i
    | _ => none)
  | _ => none
theorem atI_rps {K : PySem.W.Frag} {H : Hp} {Z : Addr → Prop} {ds : List D} {vs : List V} {i : Int} {d : D} (r : Rps K H Z ds vs) (h : atI ds i = some d) : ∃ v, atI vs i = some v ∧ Rp K H Z d v := by
  unfold atI at h ⊢
  rw [rps_len r]
  cases e : ixN ds.length i with
  | none => rw [e] at h; cases h
  | some j =>
    rw [e] at h
    exact rps_get r h
theorem ee_ix {a b : Expr} {pos : Pos} {ma mb : S → M D} (ha : Er X W ρ a ma) (hb : Ee X W ρ b mb) (hs : PlainIx b := by exact fun _ _ => rfl) : Ee X W ρ (.Subscript a b pos) fun c => M.bind (ma c) fun x => M.bind (mb c) fun y => M.opt (getD x y) := by
  refine PE.imp (pe_ix ix_seq ha hb hs) fun σ H Q ⟨c, U, T, r, q⟩ => ?_
  refine ⟨c, U, T, r, (ma c).mono (fun d1 q1 v1 H1 r1 p1 e1 => ?_) (fun _ z => z) q⟩
  refine ⟨c, U, T, r1, (mb c).mono (fun d2 q2 v2 H2 r2 p2 e2 => ?_) (fun _ z => wx.ext e1 z) q1⟩
  obtain ⟨d, hd, q3⟩ := opt_wp q2
  have p1' := (p1.go r1 e2).rq r2
  cases d2 <;> first | cases hd | skip
  rename_i i
  cases d1 <;> first | cases hd | skip
  · obtain ⟨a', vs, rfl, k1, h1, l1⟩ := rq_tup p1'
    obtain ⟨v, e3, h3⟩ := atI_rps h1 hd
    exact .inr (.inl ⟨a', vs, i, v, rfl, p2, k1, e3, q3 v H2 r2 h3 (e1.trans1 e2)⟩)
  · obtain ⟨a', vs, rfl, k1, h1, l1⟩ := rq_lst p1'
    obtain ⟨v, e3, h3⟩ := atI_rps h1 hd
    exact .inl ⟨a', vs, i, v, rfl, p2, .inl k1, e3, q3 v H2 r2 h3 (e1.trans1 e2)⟩

/-! ### slices -/
def cut {α : Type} (xs : List α) (lo hi : Option Int) : List α := (xs.drop (HT.sIx xs.length 0 lo)).take (HT.sIx xs.length xs.length hi - HT.sIx xs.length 0 lo)
theorem cut_rps {K : PySem.W.Frag} {H : Hp} {Z : Addr → Prop} {ds : List D} {vs : List V} (r : Rps K H Z ds vs) (lo hi : Option Int) : Rps K H Z (cut ds lo hi) (cutV vs lo hi) := by
  unfold cut cutV
  rw [rps_len r]
  exact rps_take _ (rps_drop _ r)
theorem cut_len {α : Type} (xs : List α) (lo hi : Option Int) : (cut xs lo hi).length ≤ xs.length := by
  unfold cut
  rw [List.length_take, List.length_drop]
  omega
def tPo (X : Cx) (W : WX) {S : Type} (ρ : S → List Slot) (m : S → M (Option Int)) : TO := fun σ H Q =>
  ∃ c U T, Rep X.K U T H (ρ c) σ ∧ (m c).wp (fun d => ∀ H', Rep X.K U T H' (ρ c) σ → Ext T H H' → Q d H') (wx X W T σ H)
theorem PO.imp {X : Cx} {e : Option Expr} {t t' : TO} (h : PO X e t) (f : ∀ σ H Q, t' σ H Q → t σ H Q) : PO X e t' := ⟨fun pins s σ H Q I q => h.run pins s σ H Q I (f _ _ _ q)⟩
abbrev Eo (X : Cx) (W : WX) {S : Type} (ρ : S → List Slot) (e : Option Expr) (m : S → M (Option Int)) : Prop := PO X e (tPo X W ρ m)
theorem eo_none : Eo X W ρ none fun _ => M.pure none :=
  PO.imp po_none fun σ H Q ⟨c, U, T, r, q⟩ => q H r (.refl _ _)
def intO : D → Option (Option Int)
  | .int i => some (some i)
  | _ => none
theorem eo_some {e : Expr} {m : S → M D} (h : Ee X W ρ e m) : Eo X W ρ (some e) fun c => M.bind (m c) fun d => M.opt (intO d) := by
  refine PO.imp (po_some h) fun σ H Q ⟨c, U, T, r, q⟩ => ?_
  refine ⟨c, U, T, r, (m c).mono (fun d1 q1 v1 H1 r1 p1 e1 => ?_) (fun _ z => z) q⟩
  obtain ⟨d, hd, q3⟩ := opt_wp q1
  cases d1 <;> first | cases hd | skip
  exact ⟨_, p1, q3 H1 r1 e1⟩
def cutT (d : D) (lo hi : Option Int) : Option D := match d with
  | .tup xs => some (.tup (cut xs lo hi))
  | .lst xs => some (.lst (cut xs lo hi))
  | _ => none
def cutLs (d : D) (lo hi : Option Int) : Option (List D) := match d with
  | .lst xs => some (cut xs lo hi)
  | _ => none
theorem el_slice {e : Expr} {lo hi : Option Expr} {p2 pos : Pos} {me : S → M D} {ml mh : S → M (Option Int)} (he : Er X W ρ e me) (hl : Eo X W ρ lo ml) (hh : Eo X W ρ hi mh) :
    El X W ρ (.Subscript e (.Slice lo hi none p2) pos) fun c => M.bind (me c) fun d => M.bind (ml c) fun l => M.bind (mh c) fun h => M.opt (cutLs d l h) := by
  refine PE.imp (pe_slice sl_list he hl hh) fun σ H Q ⟨c, U, T, r, q⟩ => ?_
  refine ⟨c, U, T, r, (me c).mono (fun d1 q1 v1 H1 r1 p1 e1 => ?_) (fun _ z => z) q⟩
  refine ⟨c, U, T, r1, (ml c).mono (fun l q2 H2 r2 e2 => ?_) (fun _ z => wx.ext e1 z) q1⟩
  refine ⟨c, U, T, r2, (mh c).mono (fun h q3 H3 r3 e3 => ?_) (fun _ z => wx.ext (e1.trans1 e2) z) q2⟩
  obtain ⟨d, hd, q4⟩ := opt_wp q3
  cases d1 <;> first | cases hd | skip
  obtain ⟨a', vs, rfl, k1, h1, l1⟩ := rq_lst (((p1.go r1 e2).go r2 e3).rq r3)
  refine ⟨a', vs, rfl, .inl k1, fun p hp => ?_⟩
  have e := (e1.trans1 e2).trans1 e3
  exact q4 p _ _ (new_none r3 e hp) (r3.newS (same_new hp) hp (by rw [upd_same]; rfl)) upd_same (Rps.go (.new hp fun b z => z) (cut_rps h1 _ _)) (Nat.le_trans (cut_len _ _ _) l1) (Same.ext1 e (same_new hp))
theorem ee_slice {e : Expr} {lo hi : Option Expr} {p2 pos : Pos} {me : S → M D} {ml mh : S → M (Option Int)} (he : Er X W ρ e me) (hl : Eo X W ρ lo ml) (hh : Eo X W ρ hi mh) :
    Ee X W ρ (.Subscript e (.Slice lo hi none p2) pos) fun c => M.bind (me c) fun d => M.bind (ml c) fun l => M.bind (mh c) fun h => M.opt (cutT d l h) := by
  refine PE.imp (pe_slice (SlR.or sl_list sl_tupA) he hl hh) fun σ H Q ⟨c, U, T, r, q⟩ => ?_
  refine ⟨c, U, T, r, (me c).mono (fun d1 q1 v1 H1 r1 p1 e1 => ?_) (fun _ z => z) q⟩
  refine ⟨c, U, T, r1, (ml c).mono (fun l q2 H2 r2 e2 => ?_) (fun _ z => wx.ext e1 z) q1⟩
  refine ⟨c, U, T, r2, (mh c).mono (fun h q3 H3 r3 e3 => ?_) (fun _ z => wx.ext (e1.trans1 e2) z) q2⟩
  obtain ⟨d, hd, q4⟩ := opt_wp q3
  have e := (e1.trans1 e2).trans1 e3
  have pq := ((p1.go r1 e2).go r2 e3).rq r3
  cases d1 <;> first | cases hd | skip
  · obtain ⟨a', vs, rfl, k1, h1, l1⟩ := rq_tup pq
    refine .inr ⟨a', vs, rfl, k1, fun hw => ?_, fun _ p hp => ?_⟩
    · refine q4 _ H3 r3 ⟨a', vs, rfl, k1, ?_, Nat.le_trans (cut_len _ _ _) l1⟩ e
      have z := cut_rps h1 l h
      have : cutV vs l h = vs := by
        unfold cutV
        rw [hw.1, hw.2, List.drop_zero, Nat.sub_zero, List.take_length]
      rw [this] at z
      exact z
    · exact q4 _ _ (r3.same (same_new hp)) (rp_new_tup hp (cut_rps h1 _ _) (Nat.le_trans (cut_len _ _ _) l1)) (Same.ext1 e (same_new hp))
  · obtain ⟨a', vs, rfl, k1, h1, l1⟩ := rq_lst pq
    refine .inl ⟨a', vs, rfl, .inl k1, fun p hp => ?_⟩
    exact q4 _ _ (r3.same (same_new hp)) (rp_new_lst r3.zok hp (cut_rps h1 _ _) (Nat.le_trans (cut_len _ _ _) l1)) (Same.ext1 e (same_new hp))

/-! ### built-in functions of one and two values -/
def rC1 (K : PySem.W.Frag) (f : D → Option D) : List V → Hp → VK → Prop := fun vs H Q => ∃ Z d x r, (∀ a, Z a → (H a).isSome = true) ∧ vs = [x] ∧ Rq K H Z d x ∧ f d = some r ∧ ∀ v H', Same H H' → Rp K H' Z r v → Q v H'
def rC1L (K : PySem.W.Frag) (f : D → Option (List D)) : List V → Hp → VK → Prop := fun vs H Q => ∃ Z d x ds, (∀ a, Z a → (H a).isSome = true) ∧ vs = [x] ∧ Rq K H Z d x ∧ f d = some ds ∧ ∀ a ws, H a = none → Rps K H Z ds ws → ds.length ≤ sizeLine → Q (.ref a) (upd H a (.lst ws))
def rC2 (K : PySem.W.Frag) (f : D → D → Option D) : List V → Hp → VK → Prop := fun vs H Q => ∃ Z d e x y r, (∀ a, Z a → (H a).isSome = true) ∧ vs = [x, y] ∧ Rq K H Z d x ∧ Rq K H Z e y ∧ f d e = some r ∧ ∀ v H', Same H H' → Rp K H' Z r v → Q v H'
theorem Blt.of {mg : Str → Option Value} (h : Blt mg) {x : Str} (c : bltNames.contains x = true) : mg x = none := h x (by simpa using c)
theorem ee_c1 {f : D → Option D} {x : Str} {q pos : Pos} {a : Expr} {m : S → M D} (ht : ∀ t, PA X [a] t → PE X (.Call (.Name x q) [a] [] pos) (tCB (rC1 X.K f) t)) (ha : Er X W ρ a m)
    (hs : starEach [a] X.env = (false, eval a X.env) :: starEach [] X.env) : Ee X W ρ (.Call (.Name x q) [a] [] pos) fun c => M.bind (m c) fun d => M.opt (f d) := by
  refine PE.imp (ht _ (pa_cons ha pa_nil hs)) fun σ H Q ⟨c, U, T, r, q⟩ => ?_
  refine ⟨c, U, T, r, (m c).mono (fun d1 q1 v1 H1 r1 p1 e1 => ?_) (fun _ z => z) q⟩
  obtain ⟨d, hd, q3⟩ := opt_wp q1
  exact ⟨_, d1, v1, d, r1.zok, rfl, p1.rq r1, hd, fun v H' s rp => q3 v H' (r1.same s) rp (Same.ext1 e1 s)⟩
theorem el_c1 {f : D → Option (List D)} {x : Str} {q pos : Pos} {a : Expr} {m : S → M D} (ht : ∀ t, PA X [a] t → PE X (.Call (.Name x q) [a] [] pos) (tCB (rC1L X.K f) t)) (ha : Er X W ρ a m)
    (hs : starEach [a] X.env = (false, eval a X.env) :: starEach [] X.env) : El X W ρ (.Call (.Name x q) [a] [] pos) fun c => M.bind (m c) fun d => M.opt (f d) := by
  refine PE.imp (ht _ (pa_cons ha pa_nil hs)) fun σ H Q ⟨c, U, T, r, q⟩ => ?_
  refine ⟨c, U, T, r, (m c).mono (fun d1 q1 v1 H1 r1 p1 e1 => ?_) (fun _ z => z) q⟩
  obtain ⟨d, hd, q3⟩ := opt_wp q1
  exact ⟨_, d1, v1, d, r1.zok, rfl, p1.rq r1, hd, fun p ws hp rp hl => q3 p ws _ (new_none r1 e1 hp) (r1.newS (same_new hp) hp (by rw [upd_same]; rfl)) upd_same (Rps.go (.new hp fun b z => z) rp) hl (Same.ext1 e1 (same_new hp))⟩
theorem ee_c2 {f : D → D → Option D} {x : Str} {q pos : Pos} {a b : Expr} {m n : S → M D} (ht : ∀ t, PA X [a, b] t → PE X (.Call (.Name x q) [a, b] [] pos) (tCB (rC2 X.K f) t)) (ha : Er X W ρ a m) (hb : Er X W ρ b n)
    (hs : starEach [a, b] X.env = (false, eval a X.env) :: starEach [b] X.env) (hs2 : starEach [b] X.env = (false, eval b X.env) :: starEach [] X.env) : Ee X W ρ (.Call (.Name x q) [a, b] [] pos) fun c => M.bind (m c) fun d => M.bind (n c) fun e => M.opt (f d e) := by
  refine PE.imp (ht _ (pa_cons ha (pa_cons hb pa_nil hs2) hs)) fun σ H Q ⟨c, U, T, r, q⟩ => ?_
  refine ⟨c, U, T, r, (m c).mono (fun d1 q1 v1 H1 r1 p1 e1 => ?_) (fun _ z => z) q⟩
  refine ⟨c, U, T, r1, (n c).mono (fun d2 q2 v2 H2 r2 p2 e2 => ?_) (fun _ z => wx.ext e1 z) q1⟩
  obtain ⟨d, hd, q3⟩ := opt_wp q2
  exact ⟨_, d1, d2, v1, v2, d, r2.zok, rfl, (p1.go r1 e2).rq r2, p2.rq r2, hd, fun v H' s rp => q3 v H' (r2.same s) rp (Same.ext1 (e1.trans1 e2) s)⟩
/-- len -/
def lenD : D → Option D
  | .tup xs => some (.int xs.length)
  | .lst xs => some (.int xs.length)
  | .str x => some (.int x.length)
  | _ => none
theorem cd_len : CallR X (.builtin "len") (rC1 X.K lenD) := by
  intro pins s σ H vs us Q I r ⟨Z, d, x, e, zok, ev, h, hd, q⟩
  subst ev
  cases d <;> first | cases hd | skip
  · obtain ⟨e1, s1⟩ := rq_str h
    exact call_len_str pins s σ H _ us Q I r ⟨_, by rw [e1], s1.1, q _ H (.refl _) rfl⟩
  · obtain ⟨a, vs, rfl, k, h1, l⟩ := rq_tup h
    exact call_len_seq pins s σ H _ us Q I r ⟨a, vs, rfl, .inr k, by rw [rps_len h1]; exact q _ H (.refl _) rfl⟩
  · obtain ⟨a, vs, rfl, k, h1, l⟩ := rq_lst h
    exact call_len_seq pins s σ H _ us Q I r ⟨a, vs, rfl, .inl (.inl k), by rw [rps_len h1]; exact q _ H (.refl _) rfl⟩
/-- list -/
theorem cl_list : CallR X (.type "list") (rC1L X.K seqD) := by
  intro pins s σ H vs us Q I r ⟨Z, d, x, e, zok, ev, h, hd, q⟩
  subst ev
  cases d <;> first | cases hd | skip
  · obtain ⟨a, vs, rfl, k, h1, l⟩ := rq_tup h
    exact call_list_of pins s σ H _ us Q I r ⟨a, vs, rfl, .inr k, fun p hp => q p vs hp h1 l⟩
  · obtain ⟨a, vs, rfl, k, h1, l⟩ := rq_lst h
    exact call_list_of pins s σ H _ us Q I r ⟨a, vs, rfl, .inl (.inl k), fun p hp => q p vs hp h1 l⟩
def tupD (d : D) : Option D := (seqD d).map .tup
theorem cd_tuple : CallR X (.type "tuple") (rC1 X.K tupD) := by
  intro pins s σ H vs us Q I r ⟨Z, d, x, e, zok, ev, h, hd, q⟩
  subst ev
  cases d <;> first | cases hd | skip
  · obtain ⟨a, vs, rfl, k, h1, l⟩ := rq_tup h
    exact call_tuple_of pins s σ H _ us Q I r ⟨a, vs, rfl, .inr ⟨k, q _ H (.refl _) ⟨a, vs, rfl, k, h1, l⟩⟩⟩
  · obtain ⟨a, vs, rfl, k, h1, l⟩ := rq_lst h
    exact call_tuple_of pins s σ H _ us Q I r ⟨a, vs, rfl, .inl ⟨.inl k, fun p hp => q _ _ (same_new hp) (rp_new_tup hp h1 l)⟩⟩
/-- lists of ints, of truth values -/
def intsD : List D → Option (List Int)
  | [] => some []
  | .int i :: r => (intsD r).map fun l => i :: l
  | _ => none
def blsD : List D → Option (List Bool)
  | [] => some []
  | .bl i :: r => (blsD r).map fun l => i :: l
  | _ => none
theorem ints_rps {K : PySem.W.Frag} {H : Hp} {Z : Addr → Prop} : ∀ {ds : List D} {vs : List V} {ns : List Int}, Rps K H Z ds vs → intsD ds = some ns → vs = ns.map V.int ∧ ds = ns.map D.int
  | [], vs, ns, r, h => by
    cases h
    exact ⟨r, rfl⟩
  | d :: ds, vs, ns, r, h => by
    obtain ⟨v, t, rfl, h1, h2⟩ := (show ∃ v t, vs = v :: t ∧ Rp K H Z d v ∧ Rps K H Z ds t from r)
    cases d <;> first | cases h | skip
    rename_i i
    obtain ⟨l, e, rfl⟩ := Option.map_eq_some_iff.mp (show (intsD ds).map (fun l => i :: l) = some ns from h)
    obtain ⟨a1, a2⟩ := ints_rps h2 e
    have e1 : v = V.int i := h1
    exact ⟨by rw [e1, a1]; rfl, by rw [a2]; rfl⟩
theorem bls_rps {K : PySem.W.Frag} {H : Hp} {Z : Addr → Prop} : ∀ {ds : List D} {vs : List V} {ns : List Bool}, Rps K H Z ds vs → blsD ds = some ns → vs = ns.map V.bl ∧ ds = ns.map D.bl
  | [], vs, ns, r, h => by
    cases h
    exact ⟨r, rfl⟩
  | d :: ds, vs, ns, r, h => by
    obtain ⟨v, t, rfl, h1, h2⟩ := (show ∃ v t, vs = v :: t ∧ Rp K H Z d v ∧ Rps K H Z ds t from r)
    cases d <;> first | cases h | skip
    rename_i i
    obtain ⟨l, e, rfl⟩ := Option.map_eq_some_iff.mp (show (blsD ds).map (fun l => i :: l) = some ns from h)
    obtain ⟨a1, a2⟩ := bls_rps h2 e
    have e1 : v = V.bl i := h1
    exact ⟨by rw [e1, a1]; rfl, by rw [a2]; rfl⟩
theorem intsD_map (ns : List Int) : intsD (ns.map D.int) = some ns := by
  induction ns with
  | nil => rfl
  | cons n r ih => rw [List.map_cons]; show (intsD (r.map D.int)).map _ = _; rw [ih]; rfl
theorem blsD_map (ns : List Bool) : blsD (ns.map D.bl) = some ns := by
  induction ns with
  | nil => rfl
  | cons n r ih => rw [List.map_cons]; show (blsD (r.map D.bl)).map _ = _; rw [ih]; rfl
theorem rps_ints {K : PySem.W.Frag} {H : Hp} {Z : Addr → Prop} : ∀ ns : List Int, Rps K H Z (ns.map D.int) (ns.map V.int)
  | [] => rfl
  | n :: r => ⟨_, _, rfl, rfl, rps_ints r⟩
def sumD : D → Option D
  | .lst xs => (intsD xs).map fun ns => .int ns.sum
  | _ => none
def maxI : List Int → Option Int
  | [] => none
  | n :: r => some (r.foldl (fun a b => if b > a then b else a) n)
def minI : List Int → Option Int
  | [] => none
  | n :: r => some (r.foldl (fun a b => if b < a then b else a) n)
theorem foldMax_le : ∀ (r : List Int) (n : Int), n ≤ r.foldl (fun a b => if b > a then b else a) n ∧ (∀ y ∈ r, y ≤ r.foldl (fun a b => if b > a then b else a) n) ∧ (r.foldl (fun a b => if b > a then b else a) n = n ∨ r.foldl (fun a b => if b > a then b else a) n ∈ r)
  | [], n => ⟨Int.le_refl _, fun _ h => (nomatch h), .inl rfl⟩
  | y :: r, n => by
    rw [List.foldl_cons]
    by_cases c : y > n
    · obtain ⟨h1, h2, h3⟩ := foldMax_le r y
      rw [if_pos c]
      refine ⟨by omega, fun z hz => ?_, .inr ?_⟩
      · rcases List.mem_cons.mp hz with e | hz
        · rw [e]; exact h1
        · exact h2 z hz
      · rcases h3 with h3 | h3
        · rw [h3]; exact List.mem_cons_self
        · exact List.mem_cons_of_mem _ h3
    · obtain ⟨h1, h2, h3⟩ := foldMax_le r n
      rw [if_neg c]
      refine ⟨h1, fun z hz => ?_, ?_⟩
      · rcases List.mem_cons.mp hz with e | hz
        · rw [e]; omega
        · exact h2 z hz
      · rcases h3 with h3 | h3
        · exact .inl h3
        · exact .inr (List.mem_cons_of_mem _ h3)
theorem foldMin_le : ∀ (r : List Int) (n : Int), r.foldl (fun a b => if b < a then b else a) n ≤ n ∧ (∀ y ∈ r, r.foldl (fun a b => if b < a then b else a) n ≤ y) ∧ (r.foldl (fun a b => if b < a then b else a) n = n ∨ r.foldl (fun a b => if b < a then b else a) n ∈ r)
  | [], n => ⟨Int.le_refl _, fun _ h => (nomatch h), .inl rfl⟩
  | y :: r, n => by
    rw [List.foldl_cons]
    by_cases c : y < n
    · obtain ⟨h1, h2, h3⟩ := foldMin_le r y
      rw [if_pos c]
      refine ⟨by omega, fun z hz => ?_, .inr ?_⟩
      · rcases List.mem_cons.mp hz with e | hz
        · rw [e]; exact h1
        · exact h2 z hz
      · rcases h3 with h3 | h3
        · rw [h3]; exact List.mem_cons_self
        · exact List.mem_cons_of_mem _ h3
    · obtain ⟨h1, h2, h3⟩ := foldMin_le r n
      rw [if_neg c]
      refine ⟨h1, fun z hz => ?_, ?_⟩
      · rcases List.mem_cons.mp hz with e | hz
        · rw [e]; omega
        · exact h2 z hz
      · rcases h3 with h3 | h3
        · exact .inl h3
        · exact .inr (List.mem_cons_of_mem _ h3)
theorem maxI_spec {ns : List Int} {m : Int} (h : maxI ns = some m) : m ∈ ns ∧ ∀ y ∈ ns, y ≤ m := by
  cases ns with
  | nil => cases h
  | cons n r =>
    cases h
    obtain ⟨h1, h2, h3⟩ := foldMax_le r n
    refine ⟨?_, fun y hy => ?_⟩
    · rcases h3 with h3 | h3
      · rw [h3]; exact List.mem_cons_self
      · exact List.mem_cons_of_mem _ h3
    · rcases List.mem_cons.mp hy with e | hy
      · subst e; exact h1
      · exact h2 y hy
theorem minI_spec {ns : List Int} {m : Int} (h : minI ns = some m) : m ∈ ns ∧ ∀ y ∈ ns, m ≤ y := by
  cases ns with
  | nil => cases h
  | cons n r =>
    cases h
    obtain ⟨h1, h2, h3⟩ := foldMin_le r n
    refine ⟨?_, fun y hy => ?_⟩
    · rcases h3 with h3 | h3
      · rw [h3]; exact List.mem_cons_self
      · exact List.mem_cons_of_mem _ h3
    · rcases List.mem_cons.mp hy with e | hy
      · subst e; exact h1
      · exact h2 y hy
def maxD : D → Option D
  | .lst xs => ((intsD xs).bind maxI).map .int
  | _ => none
def minD : D → Option D
  | .lst xs => ((intsD xs).bind minI).map .int
  | _ => none
theorem cd_sum (g : GX X W p) (hcal : p.cal = true) : CallR X (.builtin "sum") (rC1 X.K sumD) := by
  intro pins s σ H vs us Q I r ⟨Z, d, x, e, zok, ev, h, hd, q⟩
  subst ev
  cases d <;> first | cases hd | skip
  rename_i xs
  obtain ⟨a, vs, rfl, k, h1, l⟩ := rq_lst h
  obtain ⟨ns, e1, rfl⟩ := Option.map_eq_some_iff.mp (show (intsD xs).map (fun ns => D.int ns.sum) = some e from hd)
  obtain ⟨rfl, _⟩ := ints_rps h1 e1
  exact cr_sum (g.calm hcal) pins s σ H _ us Q I r ⟨a, ns, rfl, .inl k, q _ H (.refl _) rfl⟩
theorem cd_max (g : GX X W p) (hcal : p.cal = true) : CallR X (.builtin "max") (rC1 X.K maxD) := by
  intro pins s σ H vs us Q I r ⟨Z, d, x, e, zok, ev, h, hd, q⟩
  subst ev
  cases d <;> first | cases hd | skip
  rename_i xs
  obtain ⟨a, vs, rfl, k, h1, l⟩ := rq_lst h
  obtain ⟨m, e1, rfl⟩ := Option.map_eq_some_iff.mp (show ((intsD xs).bind maxI).map D.int = some e from hd)
  obtain ⟨ns, e2, e3⟩ := Option.bind_eq_some_iff.mp e1
  obtain ⟨rfl, _⟩ := ints_rps h1 e2
  obtain ⟨m1, m2⟩ := maxI_spec e3
  refine cr_max (g.calm hcal) pins s σ H _ us Q I r ⟨a, ns, rfl, .inl k, List.length_pos_iff.mpr (fun z => by rw [z] at m1; cases m1), fun m' h1 h2 => ?_⟩
  have : m' = m := Int.le_antisymm (m2 m' h1) (h2 m m1)
  subst this
  exact q _ H (.refl _) rfl
theorem cd_min (g : GX X W p) (hcal : p.cal = true) : CallR X (.builtin "min") (rC1 X.K minD) := by
  intro pins s σ H vs us Q I r ⟨Z, d, x, e, zok, ev, h, hd, q⟩
  subst ev
  cases d <;> first | cases hd | skip
  rename_i xs
  obtain ⟨a, vs, rfl, k, h1, l⟩ := rq_lst h
  obtain ⟨m, e1, rfl⟩ := Option.map_eq_some_iff.mp (show ((intsD xs).bind minI).map D.int = some e from hd)
  obtain ⟨ns, e2, e3⟩ := Option.bind_eq_some_iff.mp e1
  obtain ⟨rfl, _⟩ := ints_rps h1 e2
  obtain ⟨m1, m2⟩ := minI_spec e3
  refine cr_min (g.calm hcal) pins s σ H _ us Q I r ⟨a, ns, rfl, .inl k, List.length_pos_iff.mpr (fun z => by rw [z] at m1; cases m1), fun m' h1 h2 => ?_⟩
  have : m' = m := Int.le_antisymm (h2 m m1) (m2 m' h1)
  subst this
  exact q _ H (.refl _) rfl
def allD : D → Option D
  | .lst xs => (blsD xs).map fun bs => .bl (bs.all id)
  | _ => none
def anyD : D → Option D
  | .lst xs => (blsD xs).map fun bs => .bl (bs.any id)
  | _ => none
theorem cd_all (g : GX X W p) (hcal : p.cal = true) : CallR X (.builtin "all") (rC1 X.K allD) := by
  intro pins s σ H vs us Q I r ⟨Z, d, x, e, zok, ev, h, hd, q⟩
  subst ev
  cases d <;> first | cases hd | skip
  rename_i xs
  obtain ⟨a, vs, rfl, k, h1, l⟩ := rq_lst h
  obtain ⟨ns, e1, rfl⟩ := Option.map_eq_some_iff.mp (show (blsD xs).map (fun bs => D.bl (bs.all id)) = some e from hd)
  obtain ⟨rfl, _⟩ := bls_rps h1 e1
  exact cr_all (g.calm hcal) pins s σ H _ us Q I r ⟨a, ns, rfl, .inl k, q _ H (.refl _) rfl⟩
theorem cd_any (g : GX X W p) (hcal : p.cal = true) : CallR X (.builtin "any") (rC1 X.K anyD) := by
  intro pins s σ H vs us Q I r ⟨Z, d, x, e, zok, ev, h, hd, q⟩
  subst ev
  cases d <;> first | cases hd | skip
  rename_i xs
  obtain ⟨a, vs, rfl, k, h1, l⟩ := rq_lst h
  obtain ⟨ns, e1, rfl⟩ := Option.map_eq_some_iff.mp (show (blsD xs).map (fun bs => D.bl (bs.any id)) = some e from hd)
  obtain ⟨rfl, _⟩ := bls_rps h1 e1
  exact cr_any (g.calm hcal) pins s σ H _ us Q I r ⟨a, ns, rfl, .inl k, q _ H (.refl _) rfl⟩
def absD : D → Option D
  | .int i => some (.int (if i < 0 then -i else i))
  | _ => none
theorem cd_abs : CallR X (.builtin "abs") (rC1 X.K absD) := by
  intro pins s σ H vs us Q I r ⟨Z, d, x, e, zok, ev, h, hd, q⟩
  subst ev
  cases d <;> first | cases hd | skip
  rename_i i
  have hx : x = V.int i := h
  exact call_abs pins s σ H _ us Q I r ⟨i, by rw [hx], q _ H (.refl _) rfl⟩
def intD : D → Option D
  | .int i => some (.int i)
  | .bl b => some (.int (if b then 1 else 0))
  | _ => none
theorem cd_int : CallR X (.type "int") (rC1 X.K intD) := by
  intro pins s σ H vs us Q I r ⟨Z, d, x, e, zok, ev, h, hd, q⟩
  subst ev
  cases d <;> first | cases hd | skip
  · rename_i i
    have hx : x = V.bl i := h
    exact call_int1 pins s σ H _ us Q I r (.inr ⟨i, by rw [hx], q _ H (.refl _) rfl⟩)
  · rename_i i
    have hx : x = V.int i := h
    exact call_int1 pins s σ H _ us Q I r (.inl ⟨i, by rw [hx], q _ H (.refl _) rfl⟩)
def max2D : D → D → Option D
  | .int i, .int j => some (.int (if j > i then j else i))
  | _, _ => none
def min2D : D → D → Option D
  | .int i, .int j => some (.int (if j < i then j else i))
  | _, _ => none
theorem cd_max2 (g : GX X W p) (hcal : p.cal = true) : CallR X (.builtin "max") (rC2 X.K max2D) := by
  intro pins s σ H vs us Q I r ⟨Z, d, e, x, y, z, zok, ev, h1, h2, hd, q⟩
  subst ev
  cases d <;> cases e <;> first | cases hd | skip
  rename_i i j
  have hx : x = V.int i := h1
  have hy : y = V.int j := h2
  exact call_max2 (g.calm hcal) pins s σ H _ us Q I r ⟨i, j, by rw [hx, hy], q _ H (.refl _) rfl⟩
theorem cd_min2 (g : GX X W p) (hcal : p.cal = true) : CallR X (.builtin "min") (rC2 X.K min2D) := by
  intro pins s σ H vs us Q I r ⟨Z, d, e, x, y, z, zok, ev, h1, h2, hd, q⟩
  subst ev
  cases d <;> cases e <;> first | cases hd | skip
  rename_i i j
  have hx : x = V.int i := h1
  have hy : y = V.int j := h2
  exact call_min2 (g.calm hcal) pins s σ H _ us Q I r ⟨i, j, by rw [hx, hy], q _ H (.refl _) rfl⟩

/-! ### isinstance of a built-in type -/
def tyD : D → String
  | .non => "NoneType"
  | .bl _ => "bool"
  | .int _ => "int"
  | .str _ => "str"
  | .tup _ => "tuple"
  | .lst _ => "list"
def isiD (t : String) (d : D) : Option D := (kitB (tyD d) t).map .bl
theorem rq_ty {K : PySem.W.Frag} {H : Hp} {Z : Addr → Prop} {d : D} {v : V} (h : Rq K H Z d v) : TyX K H v (.type (tyD d)) := by
  cases d with
  | non => cases (show v = V.non from h); exact .base .non
  | bl b => cases (show v = V.bl b from h); exact .base (.bl b)
  | int b => cases (show v = V.int b from h); exact .base (.int b)
  | str b => cases (rq_str h).1; exact .base (.str b)
  | tup b =>
    obtain ⟨a, vs, rfl, k, _⟩ := rq_tup h
    rcases k with (k | ⟨o, k⟩) | ⟨o, its, n, k, c, _⟩
    · exact .base (.tup k)
    · exact .fTuple k
    · exact .kTuple k c
  | lst b =>
    obtain ⟨a, vs, rfl, k, _⟩ := rq_lst h
    rcases k with k | ⟨o, k⟩
    · exact .base (.lst k)
    · exact .base (.frz k)
/-! ### by their names -/
variable {a b : Expr} {q pos : Pos} {m n : S → M D}
theorem b_len : bltNames.contains "len" = true := by decide +kernel
theorem b_list : bltNames.contains "list" = true := by decide +kernel
theorem b_tuple : bltNames.contains "tuple" = true := by decide +kernel
theorem b_sum : bltNames.contains "sum" = true := by decide +kernel
theorem b_max : bltNames.contains "max" = true := by decide +kernel
theorem b_min : bltNames.contains "min" = true := by decide +kernel
theorem b_all : bltNames.contains "all" = true := by decide +kernel
theorem b_any : bltNames.contains "any" = true := by decide +kernel
theorem b_abs : bltNames.contains "abs" = true := by decide +kernel
theorem b_int : bltNames.contains "int" = true := by decide +kernel
theorem b_isinstance : bltNames.contains "isinstance" = true := by decide +kernel
theorem b_sorted : bltNames.contains "sorted" = true := by decide +kernel
theorem b_set : bltNames.contains "set" = true := by decide +kernel
theorem b_range : bltNames.contains "range" = true := by decide +kernel
theorem b_zip : bltNames.contains "zip" = true := by decide +kernel
theorem b_enumerate : bltNames.contains "enumerate" = true := by decide +kernel
theorem b_repr : bltNames.contains "repr" = true := by decide +kernel
theorem b_bool : bltNames.contains "bool" = true := by decide +kernel
theorem b_str : bltNames.contains "str" = true := by decide +kernel
theorem b_dict : bltNames.contains "dict" = true := by decide +kernel
theorem b_ValueError : bltNames.contains "ValueError" = true := by decide +kernel
theorem ee_len (g : GX X W p) (j : Nat) (hG : p.G[j]? = some "len") (ha : Er X W ρ a m) (hs : starEach [a] X.env = (false, eval a X.env) :: starEach [] X.env := by rfl) : Ee X W ρ (.Call (.Name "len" q) [a] [] pos) fun c => M.bind (m c) fun d => M.opt (lenD d) :=
  ee_c1 (fun t h => pe_callB cd_len (g.gl hG) (g.blt.of b_len) boot_len h (by decide +kernel) (by decide +kernel) hs rfl) ha hs
theorem ee_tuple (g : GX X W p) (j : Nat) (hG : p.G[j]? = some "tuple") (ha : Er X W ρ a m) (hs : starEach [a] X.env = (false, eval a X.env) :: starEach [] X.env := by rfl) : Ee X W ρ (.Call (.Name "tuple" q) [a] [] pos) fun c => M.bind (m c) fun d => M.opt (tupD d) :=
  ee_c1 (fun t h => pe_callTy cd_tuple (g.gl hG) (g.blt.of b_tuple) boot_tuple h (by decide +kernel) (by decide +kernel) hs rfl) ha hs
theorem ee_sum (g : GX X W p) (j : Nat) (hG : p.G[j]? = some "sum") (ha : Er X W ρ a m) (hs : starEach [a] X.env = (false, eval a X.env) :: starEach [] X.env := by rfl) (hcal : p.cal = true := by rfl) : Ee X W ρ (.Call (.Name "sum" q) [a] [] pos) fun c => M.bind (m c) fun d => M.opt (sumD d) :=
  ee_c1 (fun t h => pe_callB (cd_sum g hcal) (g.gl hG) (g.blt.of b_sum) boot_sum h (by decide +kernel) (by decide +kernel) hs rfl) ha hs
theorem ee_max (g : GX X W p) (j : Nat) (hG : p.G[j]? = some "max") (ha : Er X W ρ a m) (hs : starEach [a] X.env = (false, eval a X.env) :: starEach [] X.env := by rfl) (hcal : p.cal = true := by rfl) : Ee X W ρ (.Call (.Name "max" q) [a] [] pos) fun c => M.bind (m c) fun d => M.opt (maxD d) :=
  ee_c1 (fun t h => pe_callB (cd_max g hcal) (g.gl hG) (g.blt.of b_max) boot_max h (by decide +kernel) (by decide +kernel) hs rfl) ha hs
theorem ee_min (g : GX X W p) (j : Nat) (hG : p.G[j]? = some "min") (ha : Er X W ρ a m) (hs : starEach [a] X.env = (false, eval a X.env) :: starEach [] X.env := by rfl) (hcal : p.cal = true := by rfl) : Ee X W ρ (.Call (.Name "min" q) [a] [] pos) fun c => M.bind (m c) fun d => M.opt (minD d) :=
  ee_c1 (fun t h => pe_callB (cd_min g hcal) (g.gl hG) (g.blt.of b_min) boot_min h (by decide +kernel) (by decide +kernel) hs rfl) ha hs
theorem ee_all (g : GX X W p) (j : Nat) (hG : p.G[j]? = some "all") (ha : Er X W ρ a m) (hs : starEach [a] X.env = (false, eval a X.env) :: starEach [] X.env := by rfl) (hcal : p.cal = true := by rfl) : Ee X W ρ (.Call (.Name "all" q) [a] [] pos) fun c => M.bind (m c) fun d => M.opt (allD d) :=
  ee_c1 (fun t h => pe_callB (cd_all g hcal) (g.gl hG) (g.blt.of b_all) boot_all h (by decide +kernel) (by decide +kernel) hs rfl) ha hs
theorem ee_any (g : GX X W p) (j : Nat) (hG : p.G[j]? = some "any") (ha : Er X W ρ a m) (hs : starEach [a] X.env = (false, eval a X.env) :: starEach [] X.env := by rfl) (hcal : p.cal = true := by rfl) : Ee X W ρ (.Call (.Name "any" q) [a] [] pos) fun c => M.bind (m c) fun d => M.opt (anyD d) :=
  ee_c1 (fun t h => pe_callB (cd_any g hcal) (g.gl hG) (g.blt.of b_any) boot_any h (by decide +kernel) (by decide +kernel) hs rfl) ha hs
theorem ee_abs (g : GX X W p) (j : Nat) (hG : p.G[j]? = some "abs") (ha : Er X W ρ a m) (hs : starEach [a] X.env = (false, eval a X.env) :: starEach [] X.env := by rfl) : Ee X W ρ (.Call (.Name "abs" q) [a] [] pos) fun c => M.bind (m c) fun d => M.opt (absD d) :=
  ee_c1 (fun t h => pe_callB cd_abs (g.gl hG) (g.blt.of b_abs) boot_abs h (by decide +kernel) (by decide +kernel) hs rfl) ha hs
theorem ee_fint (g : GX X W p) (j : Nat) (hG : p.G[j]? = some "int") (ha : Er X W ρ a m) (hs : starEach [a] X.env = (false, eval a X.env) :: starEach [] X.env := by rfl) : Ee X W ρ (.Call (.Name "int" q) [a] [] pos) fun c => M.bind (m c) fun d => M.opt (intD d) :=
  ee_c1 (fun t h => pe_callTy cd_int (g.gl hG) (g.blt.of b_int) boot_int h (by decide +kernel) (by decide +kernel) hs rfl) ha hs
theorem el_list (g : GX X W p) (j : Nat) (hG : p.G[j]? = some "list") (ha : Er X W ρ a m) (hs : starEach [a] X.env = (false, eval a X.env) :: starEach [] X.env := by rfl) : El X W ρ (.Call (.Name "list" q) [a] [] pos) fun c => M.bind (m c) fun d => M.opt (seqD d) :=
  el_c1 (fun t h => pe_callTy cl_list (g.gl hG) (g.blt.of b_list) boot_list h (by decide +kernel) (by decide +kernel) hs rfl) ha hs
theorem ee_max2 (g : GX X W p) (j : Nat) (hG : p.G[j]? = some "max") (ha : Er X W ρ a m) (hb : Er X W ρ b n) (hs : starEach [a, b] X.env = (false, eval a X.env) :: starEach [b] X.env := by rfl) (hs2 : starEach [b] X.env = (false, eval b X.env) :: starEach [] X.env := by rfl)
    (hcal : p.cal = true := by rfl) (hpl : (backTo pos (starEach [b] X.env)).any (·.1) = false := by rfl) : Ee X W ρ (.Call (.Name "max" q) [a, b] [] pos) fun c => M.bind (m c) fun d => M.bind (n c) fun e => M.opt (max2D d e) :=
  ee_c2 (fun t h => pe_callB (cd_max2 g hcal) (g.gl hG) (g.blt.of b_max) boot_max h (by decide +kernel) (by decide +kernel) hs hpl) ha hb hs hs2
theorem ee_min2 (g : GX X W p) (j : Nat) (hG : p.G[j]? = some "min") (ha : Er X W ρ a m) (hb : Er X W ρ b n) (hs : starEach [a, b] X.env = (false, eval a X.env) :: starEach [b] X.env := by rfl) (hs2 : starEach [b] X.env = (false, eval b X.env) :: starEach [] X.env := by rfl)
    (hcal : p.cal = true := by rfl) (hpl : (backTo pos (starEach [b] X.env)).any (·.1) = false := by rfl) : Ee X W ρ (.Call (.Name "min" q) [a, b] [] pos) fun c => M.bind (m c) fun d => M.bind (n c) fun e => M.opt (min2D d e) :=
  ee_c2 (fun t h => pe_callB (cd_min2 g hcal) (g.gl hG) (g.blt.of b_min) boot_min h (by decide +kernel) (by decide +kernel) hs hpl) ha hb hs hs2
/-- isinstance(x, T), T a built-in type -/
theorem ee_isi (g : GX X W p) (j k : Nat) (t : String) {tn : Str} {p3 : Pos} (hG : p.G[j]? = some "isinstance") (hG2 : p.G[k]? = some tn) (hn : bltNames.contains tn = true) (hv : bootBuiltins tn = some (.type t)) (ha : Er X W ρ a m)
    (hs : starEach [a, .Name tn p3] X.env = (false, eval a X.env) :: starEach [.Name tn p3] X.env := by rfl) (hs2 : starEach [.Name tn p3] X.env = (false, eval (.Name tn p3) X.env) :: starEach [] X.env := by rfl)
    (hpl : (backTo pos (starEach [.Name tn p3] X.env)).any (·.1) = false := by rfl) : Ee X W ρ (.Call (.Name "isinstance" q) [a, .Name tn p3] [] pos) fun c => M.bind (m c) fun d => M.opt (isiD t d) := by
  have hb : PE X (.Name tn p3) (tC (.ty t)) := pe_bltn (g.gl hG2) (g.blt.of hn) hv rfl (g.ck.gl hG2).2.2 (g.ck.gl hG2).2.1
  refine PE.imp (pe_callB call_isi (g.gl hG) (g.blt.of b_isinstance) boot_isinstance (pa_cons ha (pa_cons hb pa_nil hs2) hs) (by decide +kernel) (by decide +kernel) hs hpl) fun σ H Q ⟨c, U, T, r, q⟩ => ?_
  refine ⟨c, U, T, r, (m c).mono (fun d1 q1 v1 H1 r1 p1 e1 => ?_) (fun _ z => z) q⟩
  obtain ⟨d, hd, q3⟩ := opt_wp q1
  obtain ⟨b, hb1, rfl⟩ := Option.map_eq_some_iff.mp (show (kitB (tyD d1) t).map D.bl = some d from hd)
  exact ⟨v1, .ty t, _, _, b, rfl, .ty t, rq_ty (p1.rq r1), kit_ty hb1, q3 _ H1 r1 rfl e1⟩
theorem isi_int : ∀ d : D, isiD "int" d = some (.bl (match d with | .int _ => true | .bl _ => true | _ => false)) := fun d => by
  cases d <;> (unfold isiD tyD; first | (rw [show kitB "NoneType" "int" = some false by decide +kernel]; rfl) | (rw [show kitB "bool" "int" = some true by decide +kernel]; rfl) | (rw [show kitB "int" "int" = some true by decide +kernel]; rfl) | (rw [show kitB "str" "int" = some false by decide +kernel]; rfl) | (rw [show kitB "tuple" "int" = some false by decide +kernel]; rfl) | (rw [show kitB "list" "int" = some false by decide +kernel]; rfl))
theorem isi_bool : ∀ d : D, isiD "bool" d = some (.bl (match d with | .bl _ => true | _ => false)) := fun d => by
  cases d <;> (unfold isiD tyD; first | (rw [show kitB "NoneType" "bool" = some false by decide +kernel]; rfl) | (rw [show kitB "bool" "bool" = some true by decide +kernel]; rfl) | (rw [show kitB "int" "bool" = some false by decide +kernel]; rfl) | (rw [show kitB "str" "bool" = some false by decide +kernel]; rfl) | (rw [show kitB "tuple" "bool" = some false by decide +kernel]; rfl) | (rw [show kitB "list" "bool" = some false by decide +kernel]; rfl))
theorem isi_str : ∀ d : D, isiD "str" d = some (.bl (match d with | .str _ => true | _ => false)) := fun d => by
  cases d <;> (unfold isiD tyD; first | (rw [show kitB "NoneType" "str" = some false by decide +kernel]; rfl) | (rw [show kitB "bool" "str" = some false by decide +kernel]; rfl) | (rw [show kitB "int" "str" = some false by decide +kernel]; rfl) | (rw [show kitB "str" "str" = some true by decide +kernel]; rfl) | (rw [show kitB "tuple" "str" = some false by decide +kernel]; rfl) | (rw [show kitB "list" "str" = some false by decide +kernel]; rfl))
theorem isi_tuple : ∀ d : D, isiD "tuple" d = some (.bl (match d with | .tup _ => true | _ => false)) := fun d => by
  cases d <;> (unfold isiD tyD; first | (rw [show kitB "NoneType" "tuple" = some false by decide +kernel]; rfl) | (rw [show kitB "bool" "tuple" = some false by decide +kernel]; rfl) | (rw [show kitB "int" "tuple" = some false by decide +kernel]; rfl) | (rw [show kitB "str" "tuple" = some false by decide +kernel]; rfl) | (rw [show kitB "tuple" "tuple" = some true by decide +kernel]; rfl) | (rw [show kitB "list" "tuple" = some false by decide +kernel]; rfl))
theorem isi_list : ∀ d : D, isiD "list" d = some (.bl (match d with | .lst _ => true | _ => false)) := fun d => by
  cases d <;> (unfold isiD tyD; first | (rw [show kitB "NoneType" "list" = some false by decide +kernel]; rfl) | (rw [show kitB "bool" "list" = some false by decide +kernel]; rfl) | (rw [show kitB "int" "list" = some false by decide +kernel]; rfl) | (rw [show kitB "str" "list" = some false by decide +kernel]; rfl) | (rw [show kitB "tuple" "list" = some false by decide +kernel]; rfl) | (rw [show kitB "list" "list" = some true by decide +kernel]; rfl))
end
end CR

set_option Elab.async false
set_option linter.all false
set_option maxRecDepth 100000
/-! CR5: calls of defs, targets, what is walked, comprehensions. -/
namespace CR
open PySem PySem.Spec PyProof.Rows L2

/-! ### promises of defs -/
/-- n data in, a datum out -/
def SpD (K : PySem.W.Frag) (mg : Str → Option Value) (n : Nat) (F : List D → M D) : Sp := fun vs H Q E => ∃ ds Z, (∀ a, Z a → (H a).isSome = true) ∧ Rps K H Z ds vs ∧ ds.length = n ∧
  (F ds).wp (fun d => ∀ v H', Same H H' → Rp K H' Z d v → Q v H') (fun x => ∀ cls H', mg x = some cls → Same H H' → E cls none H')
/-- .. a new list out -/
def SpL (K : PySem.W.Frag) (mg : Str → Option Value) (n : Nat) (F : List D → M (List D)) : Sp := fun vs H Q E => ∃ ds Z, (∀ a, Z a → (H a).isSome = true) ∧ Rps K H Z ds vs ∧ ds.length = n ∧
  (F ds).wp (fun xs => ∀ a ws H', H a = none → Same H H' → H' a = some (.lst ws) → Rps K H' (fun b => Z b ∨ b = a) xs ws → xs.length ≤ sizeLine → Q (.ref a) H') (fun x => ∀ cls H', mg x = some cls → Same H H' → E cls none H')
/-- a list of which P is known stands at a -/
def AtP (K : PySem.W.Frag) (Z : Addr → Prop) (H : Hp) (a : Addr) (P : List D → Prop) : Prop := ∃ ws xs, H a = some (.lst ws) ∧ Rps K H Z xs ws ∧ xs.length ≤ sizeLine ∧ P xs
/-- the same behind a first argument that is a list of which P is known, and that the def may write -/
def SpC (K : PySem.W.Frag) (mg : Str → Option Value) (P : List D → Prop) (n : Nat) (F : List D → M D) : Sp := fun us H Q E => ∃ a vs ds Z, us = .ref a :: vs ∧ (∀ b, Z b → (H b).isSome = true) ∧ Z a ∧ AtP K Z H a P ∧ Rps K H Z ds vs ∧ ds.length = n ∧
  (F ds).wp (fun d => ∀ v H', (∀ b o, H b = some o → b ≠ a → H' b = some o) → AtP K Z H' a P → Rp K H' Z d v → Q v H') (fun _ => False)
def SpCL (K : PySem.W.Frag) (mg : Str → Option Value) (P : List D → Prop) (n : Nat) (F : List D → M (List D)) : Sp := fun us H Q E => ∃ a vs ds Z, us = .ref a :: vs ∧ (∀ b, Z b → (H b).isSome = true) ∧ Z a ∧ AtP K Z H a P ∧ Rps K H Z ds vs ∧ ds.length = n ∧
  (F ds).wp (fun xs => ∀ b ws H', H b = none → (∀ b o, H b = some o → b ≠ a → H' b = some o) → AtP K (fun c => Z c ∨ c = b) H' a P → H' b = some (.lst ws) → Rps K H' (fun c => Z c ∨ c = b) xs ws → xs.length ≤ sizeLine → Q (.ref b) H') (fun _ => False)
/-- a def by its name -/
structure CallF (P : Program) (w : World) (K : PySem.W.Frag) (mg : Str → Option Value) (base : Heap) (x : Str) (k : Nat) (sp : Sp) : Prop where
  ex : ∃ f fd ps, FnOk P w K mg base (L2.CX P w) k f fd ps sp ∧ mg x = some (.ref f) ∧ PySem.W.keepIn K (.ref f) = true ∧ Binds K fd ps []
section
variable {X : Cx} {W : WX} {p : Cp} {S : Type} {ρ : S → List Slot}
theorem ee_call (g : GX X W p) (j : Nat) {x : Str} {q pos : Pos} {e : Expr} {es : List Expr} {kf k n : Nat} {F : List D → M D} {m : S → M (List D)} (cf : CallF X.prog X.w X.K X.mg X.base x kf (SpD X.K X.mg n F)) (hr : Room k X.A) (hk : Nat.ble kf k = true) (hG : p.G[j]? = some x)
    (ha : Ea X W ρ (e :: es) m) (hn : (e :: es).length = n) (he : starEach (e :: es) X.env = (false, eval e X.env) :: starEach es X.env := by rfl) (hpl : (backTo pos (starEach es X.env)).any (·.1) = false := by rfl) :
    Ee X W ρ (.Call (.Name x q) (e :: es) [] pos) fun c => M.bind (m c) fun ds => F ds := by
  obtain ⟨f, fd, ps, ok, hm, kp, b⟩ := cf.ex
  refine PE.imp (pe_callS ok (hr.mono (Nat.le_of_ble_eq_true hk)) (g.gl hG) hm kp b (fun σ => passAt g.tk σ) ha (g.ck.gl hG).2.1 he hpl) fun σ H Q ⟨c, U, T, r, q⟩ => ?_
  refine ⟨c, U, T, r, (m c).mono (fun ds q1 l vs H1 r1 p1 e1 => ?_) (fun _ z => z) q⟩
  refine ⟨ds, _, r1.zok, p1, l.trans hn, (F ds).mono (fun d q2 v H' s rp => ?_) (fun x z cls H' hc s => ?_) q1⟩
  · exact q2 v H' (r1.same s) rp (Same.ext1 e1 s)
  · exact z cls H' hc (Same.ext1 e1 s) (r1.same s).tok
theorem el_call (g : GX X W p) (j : Nat) {x : Str} {q pos : Pos} {e : Expr} {es : List Expr} {kf k n : Nat} {F : List D → M (List D)} {m : S → M (List D)} (cf : CallF X.prog X.w X.K X.mg X.base x kf (SpL X.K X.mg n F)) (hr : Room k X.A) (hk : Nat.ble kf k = true) (hG : p.G[j]? = some x)
    (ha : Ea X W ρ (e :: es) m) (hn : (e :: es).length = n) (he : starEach (e :: es) X.env = (false, eval e X.env) :: starEach es X.env := by rfl) (hpl : (backTo pos (starEach es X.env)).any (·.1) = false := by rfl) :
    El X W ρ (.Call (.Name x q) (e :: es) [] pos) fun c => M.bind (m c) fun ds => F ds := by
  obtain ⟨f, fd, ps, ok, hm, kp, b⟩ := cf.ex
  refine PE.imp (pe_callS ok (hr.mono (Nat.le_of_ble_eq_true hk)) (g.gl hG) hm kp b (fun σ => passAt g.tk σ) ha (g.ck.gl hG).2.1 he hpl) fun σ H Q ⟨c, U, T, r, q⟩ => ?_
  refine ⟨c, U, T, r, (m c).mono (fun ds q1 l vs H1 r1 p1 e1 => ?_) (fun _ z => z) q⟩
  refine ⟨ds, _, r1.zok, p1, l.trans hn, (F ds).mono (fun d q2 a ws H' hn s ha rp hl => ?_) (fun x z cls H' hc s => ?_) q1⟩
  · exact q2 a ws H' (new_none r1 e1 hn) (r1.newS s hn (by rw [ha]; rfl)) ha rp hl (Same.ext1 e1 s)
  · exact z cls H' hc (Same.ext1 e1 s) (r1.same s).tok
/-- behind a call that has written the list at a -/
theorem Rep.wrote {K : PySem.W.Frag} {U U' T : Addr → Prop} {H H' : Hp} {ρc : List Slot} {σ : L2.St} (r : Rep K U T H ρc σ) {i : Nat} {a : Addr} {P : List D → Prop} (hi : ρc[i]? = some (.ab a P)) (s : ∀ b o, H b = some o → b ≠ a → H' b = some o)
    (h : AtP K (fun b => U' b ∨ T b) H' a P) (hU : ∀ b, U' b → U b ∨ (H b = none ∧ (H' b).isSome = true)) : Rep K U' T H' ρc σ ∧ Ext T H H' := by
  have ut' : ∀ b, T b → ¬ U' b := fun b t z => by
    rcases hU b z with z | ⟨z, _⟩
    · exact r.ut b t z
    · obtain ⟨vs, e⟩ := r.tok b t
      rw [z] at e; cases e
  obtain ⟨es, vs0, xs0, ha0, ta, _⟩ := r.ab hi
  have ext : Ext T H H' := fun b o e n => s b o e fun z => n (by rw [z]; exact ta)
  obtain ⟨ws, xs, ha, rp, hl, hp⟩ := h
  have ia : OwnAt ρc σ i a := ⟨_, hi, rfl, es⟩
  have b0 := ext.bears (U := U) r.tok
  have b : Bears H H' (fun a => U a ∨ T a) (fun a => U' a ∨ T a) := ⟨b0.tup, b0.frz, fun x us e n => ⟨(b0.lst x us e n).1, fun z => by
    rcases z with z | z
    · rcases hU x z with z | ⟨z, _⟩
      · exact n (.inl z)
      · rw [z] at e; cases e
    · exact n (.inr z)⟩⟩
  have keep : ∀ {j : Nat} {c : Addr}, j ≠ i → OwnAt ρc σ j c → H' c = H c := fun {j c} n o => by
    have ne : c ≠ a := fun z => by subst z; exact r.ne j i c n o ia
    obtain ⟨_, vs, e⟩ := r.own o
    rw [e]; exact s _ _ e ne
  refine ⟨⟨r.len, fun j t e => ?_, r.ne, fun c hc => ?_, fun c hc => ?_, ut'⟩, ext⟩
  · obtain ⟨ov, e1, ok⟩ := r.sl j t e
    refine ⟨ov, e1, ?_⟩
    cases t with
    | un => trivial
    | pl d =>
      obtain ⟨v, e2, h⟩ := ok
      exact ⟨v, e2, h.go b⟩
    | ow ys =>
      obtain ⟨c, vs, rfl, h1, h2, h3, h4⟩ := ok
      have nj : j ≠ i := fun z => by subst z; rw [hi] at e; cases e
      exact ⟨c, vs, rfl, by rw [keep nj ⟨_, e, rfl, e1⟩]; exact h1, h2, Rps.go b h3, h4⟩
    | ab c P' =>
      obtain ⟨rfl, vs, ys, h1, h2, h3, h4, h5⟩ := ok
      by_cases nj : j = i
      · subst nj
        rw [hi] at e
        cases e
        exact ⟨rfl, ws, xs, ha, ta, rp, hl, hp⟩
      · exact ⟨rfl, vs, ys, by rw [keep nj ⟨_, e, rfl, e1⟩]; exact h1, h2, Rps.go b h3, h4, h5⟩
  · rcases hU c hc with hc | ⟨_, hc⟩
    · obtain ⟨o, e⟩ := Option.isSome_iff_exists.mp (r.uok c hc)
      by_cases q : c = a
      · subst q; rw [ha]; rfl
      · rw [s _ _ e q]; rfl
    · exact hc
  · obtain ⟨vs, e⟩ := r.tok c hc
    by_cases q : c = a
    · subst q; exact ⟨_, ha⟩
    · exact ⟨vs, s _ _ e q⟩
/-- the first argument is the list at slot i -/
theorem pa_ab (g : GX X W p) (i : Nat) {x : Str} {q : Pos} {es : List Expr} {n : Nat} {m : S → M (List D)} {ad : S → Addr} {P : List D → Prop} (hN : p.N[i]? = some x) (hv : p.vis.contains i = true) (h : ∀ c, (ρ c)[i]? = some (.ab (ad c) P)) (ha : PA X es (tAr X W ρ n m))
    (he : starEach (.Name x q :: es) X.env = (false, eval (.Name x q) X.env) :: starEach es X.env) :
    PA X (.Name x q :: es) (fun σ H Q => ∃ c U T, Rep X.K U T H (ρ c) σ ∧ (m c).wp (fun ds => ds.length = n → ∀ vs H', Rep X.K U T H' (ρ c) σ → Rps X.K H' (fun a => U a ∨ T a) ds vs → Ext T H H' → Q (.ref (ad c) :: vs) H') (wx X W T σ H)) := by
  refine PA.imp (pa_cons (pe_var (g.n hN) (g.vis hN hv) (g.ck.vis hN hv).2.1 (g.ck.vis hN hv).2.2) ha he) fun σ H Q ⟨c, U, T, r, q⟩ => ?_
  obtain ⟨e, _⟩ := r.ab (h c)
  exact ⟨_, e, c, U, T, r, q⟩
theorem ee_callC (g : GX X W p) (i j : Nat) {x y : Str} {q q2 pos : Pos} {es : List Expr} {kf k n : Nat} {P : List D → Prop} {F : List D → M D} {m : S → M (List D)} {ad : S → Addr} (cf : CallF X.prog X.w X.K X.mg X.base x kf (SpC X.K X.mg P n F)) (hr : Room k X.A) (hk : Nat.ble kf k = true) (hG : p.G[j]? = some x)
    (hN : p.N[i]? = some y) (hv : p.vis.contains i = true) (h : ∀ c, (ρ c)[i]? = some (.ab (ad c) P)) (ha : Ea X W ρ es m) (hn : es.length = n)
    (he : starEach (.Name y q2 :: es) X.env = (false, eval (.Name y q2) X.env) :: starEach es X.env := by rfl) (hpl : (backTo pos (starEach es X.env)).any (·.1) = false := by rfl) :
    Ee X W ρ (.Call (.Name x q) (.Name y q2 :: es) [] pos) fun c => M.bind (m c) fun ds => M.nox (F ds) := by
  obtain ⟨f, fd, ps, ok, hm, kp, b⟩ := cf.ex
  refine PE.imp (pe_callS ok (hr.mono (Nat.le_of_ble_eq_true hk)) (g.gl hG) hm kp b (fun σ => passAt g.tk σ) (pa_ab g i hN hv h ha he) (g.ck.gl hG).2.1 he hpl) fun σ H Q ⟨c, U, T, r, q⟩ => ?_
  refine ⟨c, U, T, r, (m c).mono (fun ds q1 l vs H1 r1 p1 e1 => ?_) (fun _ z => z) q⟩
  obtain ⟨ea, ws, xs, h1, h2, h3, h4, h5⟩ := r1.ab (h c)
  refine ⟨ad c, vs, ds, _, rfl, r1.zok, .inr h2, ⟨ws, xs, h1, h3, h4, h5⟩, p1, l.trans hn, (F ds).mono (fun d q2 v H' s at_ rp => ?_) (fun _ z => z.elim) q1⟩
  · obtain ⟨r2, e2⟩ := r1.wrote (h c) s at_ fun _ z => .inl z
    exact q2 v H' r2 rp (e1.trans1 e2)
theorem el_callC (g : GX X W p) (i j : Nat) {x y : Str} {q q2 pos : Pos} {es : List Expr} {kf k n : Nat} {P : List D → Prop} {F : List D → M (List D)} {m : S → M (List D)} {ad : S → Addr} (cf : CallF X.prog X.w X.K X.mg X.base x kf (SpCL X.K X.mg P n F)) (hr : Room k X.A) (hk : Nat.ble kf k = true) (hG : p.G[j]? = some x)
    (hN : p.N[i]? = some y) (hv : p.vis.contains i = true) (h : ∀ c, (ρ c)[i]? = some (.ab (ad c) P)) (ha : Ea X W ρ es m) (hn : es.length = n)
    (he : starEach (.Name y q2 :: es) X.env = (false, eval (.Name y q2) X.env) :: starEach es X.env := by rfl) (hpl : (backTo pos (starEach es X.env)).any (·.1) = false := by rfl) :
    El X W ρ (.Call (.Name x q) (.Name y q2 :: es) [] pos) fun c => M.bind (m c) fun ds => M.nox (F ds) := by
  obtain ⟨f, fd, ps, ok, hm, kp, b⟩ := cf.ex
  refine PE.imp (pe_callS ok (hr.mono (Nat.le_of_ble_eq_true hk)) (g.gl hG) hm kp b (fun σ => passAt g.tk σ) (pa_ab g i hN hv h ha he) (g.ck.gl hG).2.1 he hpl) fun σ H Q ⟨c, U, T, r, q⟩ => ?_
  refine ⟨c, U, T, r, (m c).mono (fun ds q1 l vs H1 r1 p1 e1 => ?_) (fun _ z => z) q⟩
  obtain ⟨ea, ws, xs, h1, h2, h3, h4, h5⟩ := r1.ab (h c)
  refine ⟨ad c, vs, ds, _, rfl, r1.zok, .inr h2, ⟨ws, xs, h1, h3, h4, h5⟩, p1, l.trans hn, (F ds).mono (fun d q2 b ws' H' hb s at_ hb2 rp hl => ?_) (fun _ z => z.elim) q1⟩
  · obtain ⟨ws0, xs0, g1, g2, g3, g4⟩ := at_
    obtain ⟨r2, e2⟩ := r1.wrote (U' := fun x => U x ∨ x = b) (h c) s ⟨ws0, xs0, g1, Rps.go (.weak fun a z => by
      rcases z with (z | z) | z
      · exact .inl (.inl z)
      · exact .inr z
      · exact .inl (.inr z)) g2, g3, g4⟩ fun x z => by
      rcases z with z | z
      · exact .inl z
      · rw [z]; exact .inr ⟨hb, by rw [hb2]; rfl⟩
    exact q2 b ws' H' (new_none r1 e1 hb) r2 hb2 rp hl (e1.trans1 e2)
end

/-! ### targets -/
def SameOff (sl : List Nat) (σ σ' : L2.St) : Prop := σ'.length = σ.length ∧ ∀ i, i ∉ sl → σ'[i]? = σ[i]?
theorem SameOff.refl (sl : List Nat) (σ : L2.St) : SameOff sl σ σ := ⟨rfl, fun _ _ => rfl⟩
def tGd (K : PySem.W.Frag) {G : Type} (gm : D → Option G) (gs : G → List Slot → List Slot) (sl : List Nat) : TG := fun v σ H Q =>
  ∃ U T ρc d g, Rep K U T H ρc σ ∧ Rp K H (fun a => U a ∨ T a) d v ∧ gm d = some g ∧ ∀ σ', Rep K U T H (gs g ρc) σ' → SameOff sl σ σ' → Q σ' H
def tGs (K : PySem.W.Frag) {G : Type} (gm : List D → Option G) (gs : G → List Slot → List Slot) (sl : List Nat) : TGs := fun vs σ H Q =>
  ∃ U T ρc ds g, Rep K U T H ρc σ ∧ Rps K H (fun a => U a ∨ T a) ds vs ∧ gm ds = some g ∧ ∀ σ', Rep K U T H (gs g ρc) σ' → SameOff sl σ σ' → Q σ' H
abbrev Eg (X : Cx) (tg : Expr) {G : Type} (gm : D → Option G) (gs : G → List Slot → List Slot) (sl : List Nat) : Prop := PG X tg (tGd X.K gm gs sl)
abbrev Egs (X : Cx) (tg : List Expr) {G : Type} (gm : List D → Option G) (gs : G → List Slot → List Slot) (sl : List Nat) : Prop := PGs X tg (tGs X.K gm gs sl)
section
variable {X : Cx} {W : WX} {p : Cp} {S : Type} {ρ : S → List Slot}
def gsN (i : Nat) : D → List Slot → List Slot := fun d ρ => ρ.set i (.pl d)
theorem eg_name (g : GX X W p) (i : Nat) {x : Str} {pos : Pos} (hN : p.N[i]? = some x) (hl : p.loc.contains i = true) : Eg X (.Name x pos) some (gsN i) [i] := by
  refine PG.imp (pg_name g.nd (g.n hN) (g.loc hN hl) (g.fn hN hl)) fun v σ H Q ⟨U, T, ρc, d, e, r, rp, hd, q⟩ => ?_
  cases hd
  refine q _ (r.put rp) ⟨List.length_set .., fun j n => ?_⟩
  exact List.getElem?_set_ne (fun z => n (by rw [z]; exact List.mem_cons_self))
def gmNil : List D → Option Unit
  | [] => some ()
  | _ => none
def gmCons {G G' : Type} (gm : D → Option G) (gms : List D → Option G') : List D → Option (G × G')
  | d :: ds => (gm d).bind fun a => (gms ds).map fun b => (a, b)
  | [] => none
def gsCons {G G' : Type} (gs : G → List Slot → List Slot) (gss : G' → List Slot → List Slot) : G × G' → List Slot → List Slot := fun g ρ => gss g.2 (gs g.1 ρ)
def gmTup {G : Type} (gms : List D → Option G) : D → Option G
  | .tup ds => gms ds
  | _ => none
theorem egs_nil : Egs X [] gmNil (fun _ ρ => ρ) [] := by
  refine PGs.imp pgs_nil fun v σ H Q ⟨U, T, ρc, d, e, r, rp, hd, q⟩ => ?_
  cases d with
  | cons _ _ => cases hd
  | nil => exact ⟨rp, q σ r (.refl _ _)⟩
theorem egs_cons {e : Expr} {es : List Expr} {G G' : Type} {gm : D → Option G} {gms : List D → Option G'} {gs : G → List Slot → List Slot} {gss : G' → List Slot → List Slot} {sl sl' : List Nat} (h : Eg X e gm gs sl) (k : Egs X es gms gss sl')
    (hs : (assignEach (e :: es) X.env).map (·.2) = assign e X.env :: (assignEach es X.env).map (·.2) := by rfl) : Egs X (e :: es) (gmCons gm gms) (gsCons gs gss) (sl ++ sl') := by
  refine PGs.imp (pgs_cons h k hs) fun v σ H Q ⟨U, T, ρc, ds, g, r, rp, hd, q⟩ => ?_
  cases ds with
  | nil => cases hd
  | cons d ds =>
    obtain ⟨v1, vr, rfl, p1, p2⟩ := (show ∃ v1 vr, v = v1 :: vr ∧ Rp X.K H (fun a => U a ∨ T a) d v1 ∧ Rps X.K H (fun a => U a ∨ T a) ds vr from rp)
    obtain ⟨a, ea, hd⟩ := Option.bind_eq_some_iff.mp (show (gm d).bind (fun a => (gms ds).map fun b => (a, b)) = some g from hd)
    obtain ⟨b, eb, rfl⟩ := Option.map_eq_some_iff.mp hd
    refine ⟨v1, vr, rfl, U, T, ρc, d, a, r, p1, ea, fun σ1 r1 o1 => ?_⟩
    refine ⟨U, T, _, ds, b, r1, p2, eb, fun σ2 r2 o2 => q σ2 r2 ⟨o2.1.trans o1.1, fun i n => ?_⟩⟩
    rw [List.mem_append, not_or] at n
    exact (o2.2 i n.2).trans (o1.2 i n.1)
theorem eg_tup (g : GX X W p) {es : List Expr} {k n : Nat} {pos : Pos} {G : Type} {gms : List D → Option G} {gs : G → List Slot → List Slot} {sl : List Nat} (h : Egs X es gms gs sl) (hl : ∀ ds g, gms ds = some g → ds.length = n) (hcal : p.cal = true := by rfl)
    (hn : (assignEach es X.env).length = n := by rfl) (hst : (assignEach es X.env).findIdx? (·.1) = none := by rfl) : Eg X (.Tuple es k pos) (gmTup gms) gs sl := by
  refine PG.imp (pg_tup (g.calm hcal) h hn hst) fun v σ H Q ⟨U, T, ρc, d, e, r, rp, hd, q⟩ => ?_
  cases d <;> first | cases hd | skip
  rename_i ds
  obtain ⟨a, vs, rfl, k, h1, l⟩ := rq_tup (Rp.rq rp)
  exact ⟨a, vs, rfl, k, (rps_len h1).trans (hl ds e hd), U, T, ρc, ds, e, r, h1, hd, q⟩
theorem gml0 : ∀ ds g, gmNil ds = some g → ds.length = 0
  | [], _, _ => rfl
  | _ :: _, _, h => by cases h
theorem gml1 {G G' : Type} {gm : D → Option G} {gms : List D → Option G'} {n : Nat} (h : ∀ ds g, gms ds = some g → ds.length = n) : ∀ ds g, gmCons gm gms ds = some g → ds.length = n + 1
  | [], _, e => by cases e
  | d :: ds, g, e => by
    obtain ⟨a, ea, hd⟩ := Option.bind_eq_some_iff.mp (show (gm d).bind (fun a => (gms ds).map fun b => (a, b)) = some g from e)
    obtain ⟨b, eb, _⟩ := Option.map_eq_some_iff.mp hd
    rw [List.length_cons, h ds b eb]

/-! ### what is walked -/
def ItOk (K : PySem.W.Frag) (Z : Addr → Prop) (H0 : Hp) (J : It) (ds : List D) : Prop := ∀ (i : Nat) (H : Hp) (Z' : Addr → Prop), Bears H0 H Z Z' →
  (i < ds.length → J.go i H ∧ ∀ x H', J.yld i H x H' → Same H H' ∧ ∃ d, ds[i]? = some d ∧ Rp K H' Z' d x) ∧ (ds.length ≤ i → J.stop i H)
def tIt (X : Cx) (W : WX) {S : Type} (ρ : S → List Slot) (m : S → M (List D)) : TI := fun σ H R =>
  ∃ c U T, Rep X.K U T H (ρ c) σ ∧ (m c).wp (fun ds => ∀ J H', Rep X.K U T H' (ρ c) σ → Ext T H H' → ItOk X.K (fun a => U a ∨ T a) H' J ds → ds.length ≤ sizeLine → R J H') (wx X W T σ H)
abbrev Ei (X : Cx) (W : WX) {S : Type} (ρ : S → List Slot) (tg e : Expr) (m : S → M (List D)) : Prop := PI X tg e (tIt X W ρ m)
theorem FzL.go {K : PySem.W.Frag} {H H' : Hp} {Z Z' : Addr → Prop} (b : Bears H H' Z Z') {a : Addr} {vs : List V} (h : FzL K H Z a vs) : FzL K H' Z' a vs := by
  rcases h with ⟨q, n⟩ | ⟨o, q⟩
  · exact .inl (b.lst _ _ q n)
  · exact .inr ⟨o, b.frz _ _ _ q⟩
theorem SqT.go {K : PySem.W.Frag} {H H' : Hp} {Z Z' : Addr → Prop} (b : Bears H H' Z Z') {a : Addr} {vs : List V} (h : SqT K H a vs) : SqT K H' a vs := by
  rcases h with (q | ⟨o, q⟩) | q
  · exact .inl (.inl (b.tup _ _ q))
  · exact .inl (.inr ⟨o, b.frz _ _ _ q⟩)
  · exact .inr q
theorem itok_lst {K : PySem.W.Frag} {H0 : Hp} {Z : Addr → Prop} {a : Addr} {vs : List V} {ds : List D} (h : FzL K H0 Z a vs) (r : Rps K H0 Z ds vs) : ItOk K Z H0 (Itl K a) ds := fun i H Z' b => by
  have h' := (h.go b).sq
  have r' := Rps.go b r
  refine ⟨fun hi => ?_, fun hi => ⟨vs, h', by rw [rps_len r']; exact hi⟩⟩
  obtain ⟨d, hd⟩ : ∃ d, ds[i]? = some d := ⟨ds[i], by simp [hi]⟩
  obtain ⟨v, hv, rp⟩ := rps_get r' hd
  refine ⟨⟨vs, v, h', hv⟩, fun x H' ⟨e, y⟩ => ?_⟩
  subst e
  have := y vs h'
  rw [hv] at this
  cases this
  exact ⟨.refl _, d, hd, rp⟩
theorem itok_tup {K : PySem.W.Frag} {H0 : Hp} {Z : Addr → Prop} {a : Addr} {vs : List V} {ds : List D} (h : SqT K H0 a vs) (r : Rps K H0 Z ds vs) : ItOk K Z H0 (Itt K a) ds := fun i H Z' b => by
  have h' := SqT.go b h
  have r' := Rps.go b r
  refine ⟨fun hi => ?_, fun hi => ⟨vs, h', by rw [rps_len r']; exact hi⟩⟩
  obtain ⟨d, hd⟩ : ∃ d, ds[i]? = some d := ⟨ds[i], by simp [hi]⟩
  obtain ⟨v, hv, rp⟩ := rps_get r' hd
  refine ⟨⟨vs, v, h', hv⟩, fun x H' ⟨e, y⟩ => ?_⟩
  subst e
  have := y vs h'
  rw [hv] at this
  cases this
  exact ⟨.refl _, d, hd, rp⟩
def rangeL (lo : Int) (n : Nat) : List D := (List.range n).map fun i => D.int (lo + (i : Nat))
theorem itok_rng {K : PySem.W.Frag} {H0 : Hp} {Z : Addr → Prop} (lo : Int) (n : Nat) : ItOk K Z H0 (Itr lo n) (rangeL lo n) := fun i H Z' b => by
  unfold rangeL
  rw [List.length_map, List.length_range]
  refine ⟨fun hi => ⟨hi, fun x H' ⟨e, y⟩ => ?_⟩, fun hi => hi⟩
  subst e y
  refine ⟨.refl _, D.int (lo + (i : Nat)), ?_, rfl⟩
  rw [List.getElem?_map, List.getElem?_range hi]
  rfl
/-- a list or a tuple: both iterators in one rule -/
def iSeq (K : PySem.W.Frag) (tl : TE) : TI := fun σ H R => tl σ H fun x H1 => ∃ a, x = .ref a ∧ (((∃ xs, SqL K H1 a xs) ∧ R (Itl K a) H1) ∨ ((∃ xs, SqT K H1 a xs) ∧ R (Itt K a) H1))
theorem pi_seq {tg l : Expr} {tl : TE} (hl : PE X l tl) : PI X tg l (iSeq X.K tl) := by
  refine ⟨fun pins s σ H R I h => ?_⟩
  refine thn (hl.run pins s σ H _ I h) fun v s1 ⟨x, H1, I1, r1, a, ex, q⟩ => ?_
  subst ex
  have pv : ∀ (pins' : List (Addr × Obj)) (s' : Shared) (σ' : L2.St) (H' : Hp) (Q : VK), Inv X pins' σ' H' s' → Q (.ref a) H' → True := fun _ _ _ _ _ _ _ => trivial
  cases r1
  rcases q with ⟨⟨xs, hq⟩, q⟩ | ⟨⟨xs, hq⟩, q⟩
  · obtain ⟨its, rv, pl, hz⟩ := I1.list hq
    refine wpAny_pyIter_list pl.isList ?_
    exact pi_one (tn := fun i h => h.IsListIter s1.heap.objs.size a i) (J := Itl X.K a) (tk := s1.toks) I1 _ (turn_list a _) ⟨_, Heap.get?_push_size _ rfl, rfl, rfl⟩ q
  · obtain ⟨its, rv, pl, hz⟩ := I1.tuple hq
    refine wpAny_pyIter_tuple (show s1.heap.IsTuple a its.toArray from pl) ?_
    exact pi_one (tn := fun i h => h.IsTupleIter s1.heap.objs.size a i) (J := Itt X.K a) (tk := s1.toks) I1 _ (turn_tuple a _) ⟨_, Heap.get?_push_size _ rfl, rfl, rfl⟩ q
theorem ei_seq {tg e : Expr} {m : S → M D} (h : Ee X W ρ e m) : Ei X W ρ tg e fun c => M.bind (m c) fun d => M.opt (seqD d) := by
  refine PI.imp (pi_seq h) fun σ H R ⟨c, U, T, r, q⟩ => ?_
  refine ⟨c, U, T, r, (m c).mono (fun d1 q1 v1 H1 r1 p1 e1 => ?_) (fun _ z => z) q⟩
  obtain ⟨ds, hd, q3⟩ := opt_wp q1
  cases d1 <;> first | cases hd | skip
  · obtain ⟨a, vs, rfl, k, h1, l⟩ := rq_tup (Rp.rq p1)
    exact ⟨a, rfl, .inr ⟨⟨vs, k⟩, q3 _ H1 r1 e1 (itok_tup k h1) l⟩⟩
  · obtain ⟨a, vs, rfl, k, h1, l⟩ := (show ∃ a vs, v1 = V.ref a ∧ FzL X.K H1 (fun a => U a ∨ T a) a vs ∧ Rps X.K H1 (fun a => U a ∨ T a) _ vs ∧ _ from p1)
    exact ⟨a, rfl, .inl ⟨⟨vs, k.sq⟩, q3 _ H1 r1 e1 (itok_lst k h1) l⟩⟩
def rngM (lo hi : D) : Option (List D) := match lo, hi with
  | .int a, .int b => if -(2 ^ 62) ≤ a ∧ a < 2 ^ 62 ∧ -(2 ^ 62) ≤ b ∧ b < 2 ^ 62 ∧ (b - a).toNat ≤ sizeLine then some (rangeL a (b - a).toNat) else none
  | _, _ => none
theorem len_rng (a : Int) (n : Nat) : (rangeL a n).length = n := by unfold rangeL; rw [List.length_map, List.length_range]
theorem rngM_some {d e : D} {ds : List D} (h : rngM d e = some ds) : ∃ a b : Int, d = .int a ∧ e = .int b ∧ (-(2 ^ 62) ≤ a ∧ a < 2 ^ 62 ∧ -(2 ^ 62) ≤ b ∧ b < 2 ^ 62 ∧ (b - a).toNat ≤ sizeLine) ∧ ds = rangeL a (b - a).toNat := by
  cases d <;> cases e <;> first | cases h | skip
  rename_i a b
  have h' : (if -(2 ^ 62) ≤ a ∧ a < 2 ^ 62 ∧ -(2 ^ 62) ≤ b ∧ b < 2 ^ 62 ∧ (b - a).toNat ≤ sizeLine then some (rangeL a (b - a).toNat) else none) = some ds := h
  split at h'
  · rename_i k
    cases h'
    exact ⟨a, b, rfl, rfl, k, rfl⟩
  · cases h'
theorem ei_range1 (g : GX X W p) (j : Nat) {tg a : Expr} {q pos : Pos} {m : S → M D} (hG : p.G[j]? = some "range") (h : Ee X W ρ a m) (hs : starEach [a] X.env = (false, eval a X.env) :: starEach [] X.env := by rfl) : Ei X W ρ tg (.Call (.Name "range" q) [a] [] pos) fun c => M.bind (m c) fun d => M.opt (rngM (.int 0) d) := by
  refine PI.imp (pi_range1 (g.gl hG) (g.blt.of b_range) (pa_cons h pa_nil hs) hs) fun σ H R ⟨c, U, T, r, q⟩ => ?_
  refine ⟨c, U, T, r, (m c).mono (fun d1 q1 v1 H1 r1 p1 e1 => ?_) (fun _ z => z) q⟩
  obtain ⟨ds, hd, q3⟩ := opt_wp q1
  obtain ⟨a, b, ha, rfl, k, rfl⟩ := rngM_some hd
  cases ha
  have ev : v1 = .int b := p1
  refine ⟨b, by rw [ev], k.2.2.1, k.2.2.2.1, ?_⟩
  have := q3 (Itr 0 b.toNat) H1 r1 e1
  rw [Int.sub_zero] at this k
  exact this (itok_rng 0 b.toNat) (by rw [len_rng]; exact k.2.2.2.2)
theorem ei_range2 (g : GX X W p) (j : Nat) {tg a b : Expr} {q pos : Pos} {m n : S → M D} (hG : p.G[j]? = some "range") (h : Ee X W ρ a m) (h2 : Ee X W ρ b n) (hs : starEach [a, b] X.env = (false, eval a X.env) :: starEach [b] X.env := by rfl) (hs2 : starEach [b] X.env = (false, eval b X.env) :: starEach [] X.env := by rfl) :
    Ei X W ρ tg (.Call (.Name "range" q) [a, b] [] pos) fun c => M.bind (m c) fun d => M.bind (n c) fun e => M.opt (rngM d e) := by
  refine PI.imp (pi_range2 (g.gl hG) (g.blt.of b_range) (pa_cons h (pa_cons h2 pa_nil hs2) hs) (by rw [hs, hs2]; rfl) hs2) fun σ H R ⟨c, U, T, r, q⟩ => ?_
  refine ⟨c, U, T, r, (m c).mono (fun d1 q1 v1 H1 r1 p1 e1 => ?_) (fun _ z => z) q⟩
  refine ⟨c, U, T, r1, (n c).mono (fun d2 q2 v2 H2 r2 p2 e2 => ?_) (fun _ z => wx.ext e1 z) q1⟩
  obtain ⟨ds, hd, q3⟩ := opt_wp q2
  obtain ⟨a, b, rfl, rfl, k, rfl⟩ := rngM_some hd
  have ev : v1 = .int a := p1
  have ew : v2 = .int b := p2
  exact ⟨a, b, by rw [ev, ew], ⟨k.1, k.2.1, k.2.2.1, k.2.2.2.1⟩, q3 _ H2 r2 (e1.trans1 e2) (itok_rng a _) (by rw [len_rng]; exact k.2.2.2.2)⟩
end
end CR

set_option Elab.async false
set_option linter.all false
set_option maxRecDepth 100000
/-! CR6: comprehensions. -/
namespace CR
open PySem PySem.Spec PyProof.Rows L2

/-! ### the mirror -/
def compM {G : Type} (gm : D → Option G) (t : G → M Bool) (e : G → M D) : List D → M (List D)
  | [] => M.pure []
  | x :: xs => M.bind (M.opt (gm x)) fun g => M.bind (M.nox (t g)) fun b => M.ite b (M.bind (M.nox (e g)) fun y => M.bind (compM gm t e xs) fun ys => M.pure (y :: ys)) (compM gm t e xs)

/-! ### the block's context -/
abbrev bk (X : Cx) (scope : Scope) (s : Shared) (H : Hp) (C : Addr) (cl : List (Str × Addr)) (fp : List Addr) : Cx := X.blk s H scope (compEnvC scope cl C X.env) fp
abbrev WF : WX := fun _ _ _ _ => False
def Cp.bk (p : Cp) (scope : Scope) (vis loc : List Nat) (G : List Str) : Cp := ⟨p.N, relS scope p.sc, vis, loc, [], G, p.cal⟩
def ckBk (p : Cp) (scope : Scope) (vis loc : List Nat) (G : List Str) (own : List (Str × Nat)) : Bool := ckB (p.bk scope vis loc G) &&
  ((loc.all fun i => (p.N[i]?).any fun x => scope.names.lookup x == some .cell || islB (relS scope p.sc) x) && blkC p.N p.sc scope own)
theorem GX.bk {X : Cx} {W : WX} {p : Cp} (g : GX X W p) {scope : Scope} {vis loc : List Nat} {G : List Str} {own : List (Str × Nat)} (h : ckBk p scope vis loc G own = true) (s : Shared) (H : Hp) (C : Addr) (cl : List (Str × Addr)) (fp : List Addr) :
    GX (CR.bk X scope s H C cl fp) WF (p.bk scope vis loc G) := by
  unfold ckBk at h
  simp only [Bool.and_eq_true] at h
  obtain ⟨h1, h2, h3⟩ := h
  have es : (compEnvC scope cl C X.env).scope = relS scope p.sc := by rw [← g.esc]; rfl
  refine ⟨g.eN, es, Ck.of h1, g.calm, takes0, PassesOwn.never, g.hu, fun {i x} e c => ?_, g.blt⟩
  have c' : loc.contains i = true := c
  have z := List.all_eq_true.mp h2 i (List.contains_iff_mem.mp c')
  have e' : p.N[i]? = some x := e
  rw [e'] at z
  simp only [Option.any_some, Bool.or_eq_true] at z
  rcases z with z | z
  · exact .inl z
  · refine .inr ?_
    show (compEnvC scope cl C X.env).scope.names.lookup x = _
    rw [es]
    unfold islB at z
    cases q : (relS scope p.sc).names.lookup x with
    | none => rw [q] at z; cases z
    | some k =>
      rw [q] at z
      cases k <;> first | rfl | cases z
def wipR (ρ : List Slot) : List Nat → List Slot
  | [] => ρ
  | v :: vs => (wipR ρ vs).set v .un
theorem Rep.wip {K : PySem.W.Frag} {U T : Addr → Prop} {H : Hp} {ρ : List Slot} {σ : L2.St} (r : Rep K U T H ρ σ) : ∀ vs : List Nat, Rep K U T H (wipR ρ vs) (wipe σ vs)
  | [] => r
  | v :: vs => (r.wip vs).setg (s := .un) (ov := none) trivial fun o => by cases o
theorem wipe_at (σ : L2.St) (i : Nat) : ∀ vs : List Nat, i ∈ vs → (wipe σ vs)[i]? = if i < σ.length then some none else none
  | [], h => by cases h
  | v :: vs, h => by
    unfold wipe
    by_cases e : v = i
    · subst e
      by_cases l : v < σ.length
      · rw [List.getElem?_set_self (by rw [wipe_length]; exact l), if_pos l]
      · rw [List.getElem?_eq_none (by rw [List.length_set, wipe_length]; omega), if_neg l]
    · rw [List.getElem?_set_ne e]
      exact wipe_at σ i vs ((List.mem_cons.mp h).resolve_left fun z => e z.symm)
theorem wipe_off (σ : L2.St) (i : Nat) : ∀ vs : List Nat, i ∉ vs → (wipe σ vs)[i]? = σ[i]?
  | [], _ => rfl
  | v :: vs, h => by
    unfold wipe
    rw [List.getElem?_set_ne fun z => h (by rw [z]; exact List.mem_cons_self)]
    exact wipe_off σ i vs fun z => h (List.mem_cons_of_mem _ z)
theorem wipe_same {σ σ' : L2.St} {vs sl : List Nat} (o : SameOff sl (wipe σ vs) σ') (h : ∀ i ∈ sl, i ∈ vs) : wipe σ' vs = wipe σ vs := by
  have l : σ'.length = σ.length := o.1.trans (wipe_length σ vs)
  apply List.ext_getElem?
  intro i
  by_cases q : i ∈ vs
  · rw [wipe_at σ' i vs q, wipe_at σ i vs q, l]
  · rw [wipe_off σ' i vs q, o.2 i fun z => q (h i z)]
theorem wipR_at {ρ : List Slot} {i : Nat} {s : Slot} : ∀ {vs : List Nat}, i ∉ vs → ρ[i]? = some s → (wipR ρ vs)[i]? = some s
  | [], _, e => e
  | v :: vs, h, e => by
    unfold wipR
    rw [List.getElem?_set_ne fun z => h (by rw [z]; exact List.mem_cons_self)]
    exact wipR_at (fun z => h (List.mem_cons_of_mem _ z)) e
/-- behind the block -/
theorem Rep.back {K : PySem.W.Frag} {U U' T : Addr → Prop} {H H' : Hp} {ρ : List Slot} {σ : L2.St} {vs : List Nat} (r : Rep K U T H ρ σ) (r' : Rep K U' T H' (wipR ρ vs) (wipe σ vs)) (b : Bears H H' (fun a => U a ∨ T a) (fun a => U' a ∨ T a)) (hv : ∀ i s, i ∈ vs → ρ[i]? = some s → s.own = false) : Rep K U' T H' ρ σ := by
  refine ⟨r.len, fun i s q => ?_, r.ne, r'.uok, r'.tok, r'.ut⟩
  by_cases m : i ∈ vs
  · obtain ⟨ov, e1, ok⟩ := r.sl i s q
    have ow := hv i s m q
    refine ⟨ov, e1, ?_⟩
    cases s with
    | un => trivial
    | pl d =>
      obtain ⟨v, e2, h⟩ := ok
      exact ⟨v, e2, h.go b⟩
    | ow xs => cases ow
    | ab a P => cases ow
  · obtain ⟨ov, e1, ok⟩ := r'.sl i s (wipR_at m q)
    rw [wipe_off σ i vs m] at e1
    exact ⟨ov, e1, ok⟩
/-- a new list that is not this def's business -/
theorem Rep.newU {K : PySem.W.Frag} {U T : Addr → Prop} {H : Hp} {ρ : List Slot} {σ : L2.St} {p : Addr} {vs : List V} (r : Rep K U T H ρ σ) (hp : H p = none) : Rep K (fun a => U a ∨ a = p) T (upd H p (.lst vs)) ρ σ :=
  r.newS (same_new hp) hp (by rw [upd_same]; rfl)
/-- the list at p, no own one, is written -/
theorem Rep.wrU {K : PySem.W.Frag} {U T : Addr → Prop} {H : Hp} {ρ : List Slot} {σ : L2.St} {p : Addr} {vs ws : List V} (r : Rep K U T H ρ σ) (hu : U p) (ht : ¬ T p) (hp : H p = some (.lst vs)) : Rep K U T (upd H p (.lst ws)) ρ σ := by
  have b : Bears H (upd H p (.lst ws)) (fun a => U a ∨ T a) (fun a => U a ∨ T a) := .wr hp (.inl hu) fun _ z => z
  have ne : ∀ {a}, T a → a ≠ p := fun {a} t z => ht (by rw [← z]; exact t)
  refine r.move b (fun i a o => ?_) (fun a ha => ?_) (fun a ha => ?_) r.ut
  · obtain ⟨t, _⟩ := r.own o
    exact ⟨upd_ne (ne t), t⟩
  · by_cases q : a = p
    · rw [q, upd_same]; rfl
    · rw [upd_ne q]; exact r.uok a ha
  · rw [upd_ne (ne ha)]; exact r.tok a ha

/-- tests of a comprehension -/
abbrev Ets (X : Cx) (W : WX) {S : Type} (ρ : S → List Slot) (es : List Expr) (m : S → M Bool) : Prop := PTs X es (tT X W ρ m)
section
variable {X : Cx} {W : WX} {p : Cp} {S : Type} {ρ : S → List Slot}
theorem ets_nil : Ets X W ρ [] fun _ => M.pure true :=
  ⟨fun pins s σ H Q I ⟨c, U, T, r, q⟩ => pts_nil.run pins s σ H Q I (q H r (.refl _ _))⟩
theorem ets_one {e : Expr} {m : S → M Bool} (h : Et X W ρ e m) : Ets X W ρ [e] m := pts_one h
/-- the reading -/
theorem lc_read {G : Type} {gm : D → Option G} {gs : G → List Slot → List Slot} {sl vs : List Nat} {mi : S → M (List D)} {mt : G × S → M Bool} {me : G × S → M D} (hsl : ∀ i ∈ sl, i ∈ vs) (hgs : ∀ g ρ (j : Nat), j ∉ sl → (gs g ρ)[j]? = ρ[j]?) (hv : ∀ c i s, i ∈ vs → (ρ c)[i]? = some s → s.own = false)
    (σ : L2.St) (H : Hp) (Q : VK) (h : tL X W ρ (fun c => M.bind (mi c) fun xs => compM gm (fun g => mt (g, c)) (fun g => me (g, c)) xs) σ H Q) :
    tLc (tIt X W ρ mi) (tGd X.K gm gs sl) (tT X WF (fun s : G × S => gs s.1 (wipR (ρ s.2) vs)) mt) (tE X WF (fun s : G × S => gs s.1 (wipR (ρ s.2) vs)) me) vs σ H Q := by
  obtain ⟨c, U, T, r, q⟩ := h
  refine ⟨c, U, T, r, (mi c).mono (fun items q1 J H1 r1 e1 it lz => ?_) (fun _ z => z) q⟩
  intro p hp
  have h0 := new_none r1 e1 hp
  have tp : ¬ T p := fun t => by obtain ⟨_, z⟩ := r1.tok p t; rw [hp] at z; cases z
  have up : ¬ U p := fun t => by have z := r1.uok p t; rw [hp] at z; cases z
  have b0 : Bears H1 (upd H1 p (.lst [])) (fun a => U a ∨ T a) (fun a => (U a ∨ a = p) ∨ T a) := .new hp fun a z => by
    rcases z with (z | z) | z
    · exact .inl (.inl z)
    · exact .inr z
    · exact .inl (.inr z)
  let Z' : Addr → Prop := fun a => (U a ∨ a = p) ∨ T a
  have rp0 : Rep X.K (fun a => U a ∨ a = p) T (upd H1 p (.lst [])) (wipR (ρ c) vs) (wipe σ vs) := (r1.wip vs).newU hp
  refine ⟨fun i m H' => m = items.length - i ∧ i ≤ items.length ∧ ∃ acc ws, Rep X.K (fun a => U a ∨ a = p) T H' (wipR (ρ c) vs) (wipe σ vs) ∧ Ext T H1 H' ∧ Bears (upd H1 p (.lst [])) H' Z' Z' ∧ H' p = some (.lst ws) ∧ Rps X.K H' Z' acc ws ∧ acc.length ≤ i ∧
      (compM gm (fun g => mt (g, c)) (fun g => me (g, c)) (items.drop i)).wp (fun rest => ∀ a vs H'', H a = none → Rep X.K (fun b => U b ∨ b = a) T H'' (ρ c) σ → H'' a = some (.lst vs) → Rps X.K H'' (fun b => (U b ∨ T b) ∨ b = a) (acc ++ rest) vs → (acc ++ rest).length ≤ sizeLine → Ext T H H'' → Q (.ref a) H'') (wx X W T σ H),
    ⟨items.length, by simp, Nat.zero_le _, [], [], rp0, .of (same_new hp), .same (.refl _) fun _ z => z, upd_same, rfl, Nat.le_refl _, q1⟩, ?_⟩
  rintro i m H' ⟨rfl, hi, acc, ws, rp, ex, br, hpw, ra, la, k⟩
  obtain ⟨go, stop⟩ := it i H' Z' ⟨fun a us e => br.tup _ _ (b0.tup _ _ e), fun a o u e => br.frz _ _ _ (b0.frz _ _ _ e), fun a us e n => let ⟨e2, n2⟩ := b0.lst _ _ e n; br.lst _ _ e2 n2⟩
  by_cases hlt : i < items.length
  · obtain ⟨g1, g2⟩ := go hlt
    refine .inr ⟨g1, fun H'' => ∃ acc ws, Rep X.K (fun a => U a ∨ a = p) T H'' (wipR (ρ c) vs) (wipe σ vs) ∧ Ext T H1 H'' ∧ Bears (upd H1 p (.lst [])) H'' Z' Z' ∧ H'' p = some (.lst ws) ∧ Rps X.K H'' Z' acc ws ∧ acc.length ≤ i + 1 ∧
      (compM gm (fun g => mt (g, c)) (fun g => me (g, c)) (items.drop (i + 1))).wp (fun rest => ∀ a vs H'', H a = none → Rep X.K (fun b => U b ∨ b = a) T H'' (ρ c) σ → H'' a = some (.lst vs) → Rps X.K H'' (fun b => (U b ∨ T b) ∨ b = a) (acc ++ rest) vs → (acc ++ rest).length ≤ sizeLine → Ext T H H'' → Q (.ref a) H'') (wx X W T σ H),
      fun H'' z => ⟨items.length - (i + 1), by omega, rfl, hlt, z⟩, fun x H2 y => ?_⟩
    obtain ⟨sm, d, hd, rd⟩ := g2 x H2 y
    have ed : items.drop i = d :: items.drop (i + 1) := by
      rw [List.drop_eq_getElem_cons hlt]
      have := List.getElem?_eq_some_iff.mp hd
      obtain ⟨_, z⟩ := this
      rw [z]
    rw [ed] at k
    obtain ⟨gv, hg, k1⟩ := opt_wp k
    have rp2 := rp.same sm
    refine ⟨_, T, _, d, gv, rp2, rd, hg, fun σ2 r2 o2 => ⟨wipe_same o2 hsl, ?_⟩⟩
    refine ⟨(gv, c), _, T, r2, (mt (gv, c)).mono (fun bb k2 H3 r3 e3 => ?_) (fun _ z => z.elim) k1⟩
    have keep : ∀ {H3 : Hp} {ρx : List Slot} {σx : L2.St}, Rep X.K (fun a => U a ∨ a = p) T H3 ρx σx → Ext T H2 H3 → Bears (upd H1 p (.lst [])) H3 Z' Z' ∧ Ext T H1 H3 ∧ H3 p = some (.lst ws) ∧ Bears H' H3 Z' Z' := fun {H3 ρx σx} r3 e3 => by
      have b2 : Bears H' H2 Z' Z' := .same sm fun _ z => z
      have b3 : Bears H2 H3 Z' Z' := e3.bears rp2.tok
      have b23 : Bears H' H3 Z' Z' := ⟨fun a us e => b3.tup _ _ (b2.tup _ _ e), fun a o u e => b3.frz _ _ _ (b2.frz _ _ _ e), fun a us e n => let ⟨e2, n2⟩ := b2.lst _ _ e n; b3.lst _ _ e2 n2⟩
      exact ⟨⟨fun a us e => b23.tup _ _ (br.tup _ _ e), fun a o u e => b23.frz _ _ _ (br.frz _ _ _ e), fun a us e n => let ⟨e2, n2⟩ := br.lst _ _ e n; b23.lst _ _ e2 n2⟩, (Same.ext1 ex sm).trans1 e3, e3 p _ (sm _ _ hpw) tp, b23⟩
    -- the block's own names forgotten again
    have fold : ∀ {H3 : Hp}, Rep X.K (fun a => U a ∨ a = p) T H3 (gs gv (wipR (ρ c) vs)) σ2 → Ext T H2 H3 → Rep X.K (fun a => U a ∨ a = p) T H3 (wipR (ρ c) vs) (wipe σ vs) := fun {H3} r3 e3 => by
      have b3 : Bears H2 H3 Z' Z' := e3.bears rp2.tok
      refine ⟨rp2.len, fun j s e => ?_, rp2.ne, r3.uok, r3.tok, r3.ut⟩
      obtain ⟨ov, e4, ok⟩ := rp2.sl j s e
      refine ⟨ov, e4, ?_⟩
      by_cases mj : j ∈ vs
      · cases s with
        | un => trivial
        | pl d =>
          obtain ⟨v, e5, h⟩ := ok
          exact ⟨v, e5, h.go b3⟩
        | ow xs =>
          exfalso
          obtain ⟨a, us, e5, _⟩ := ok
          rw [wipe_at σ j vs mj] at e4
          split at e4
          · rw [e5] at e4; cases e4
          · cases e4
        | ab a P =>
          exfalso
          obtain ⟨e5, _⟩ := ok
          rw [wipe_at σ j vs mj] at e4
          split at e4
          · rw [e5] at e4; cases e4
          · cases e4
      · -- an own list: the target's store has left the slot as it is
        have stay : (gs gv (wipR (ρ c) vs))[j]? = some s → SlotOk X.K (fun a => U a ∨ a = p) T H3 s ov := fun z => by
          obtain ⟨ov', e6, ok'⟩ := r3.sl j s z
          rw [o2.2 j fun z => mj (hsl j z), e4] at e6
          cases e6
          exact ok'
        cases s with
        | un => trivial
        | pl d =>
          obtain ⟨v, e5, h⟩ := ok
          exact ⟨v, e5, h.go b3⟩
        | ow xs => exact stay (by rw [hgs _ _ j fun z => mj (hsl j z)]; exact e)
        | ab a P => exact stay (by rw [hgs _ _ j fun z => mj (hsl j z)]; exact e)
    cases bb with
    | false =>
      refine iteF ?_
      obtain ⟨q1, q2, q3, q4⟩ := keep r3 e3
      exact ⟨acc, ws, fold r3 e3, q2, q1, q3, Rps.go q4 ra, Nat.le_succ_of_le la, k2⟩
    | true =>
      refine iteT ?_
      refine ⟨(gv, c), _, T, r3, (me (gv, c)).mono (fun y k3 v4 H4 r4 p4 e4 => ?_) (fun _ z => z.elim) k2⟩
      have e34 := e3.trans1 e4
      obtain ⟨q1, q2, q3, q4⟩ := keep r4 e34
      have lw : ws.length = acc.length := rps_len ra
      refine ⟨ws, q3, by rw [lw]; omega, acc ++ [y], ws ++ [v4], ?_, ?_, ?_, upd_same, ?_, by rw [List.length_append]; simp; omega, ?_⟩
      · exact (fold r4 e34).wrU (.inr rfl) tp q3
      · exact fun a o e n => by
          have na : a ≠ p := fun z => by rw [z, hp] at e; cases e
          rw [upd_ne na]; exact q2 a o e n
      · have bw : Bears H4 (upd H4 p (.lst (ws ++ [v4]))) Z' Z' := .wr q3 (.inl (.inr rfl)) fun _ z => z
        exact ⟨fun a us e => bw.tup _ _ (q1.tup _ _ e), fun a o u e => bw.frz _ _ _ (q1.frz _ _ _ e), fun a us e n => let ⟨e2, n2⟩ := q1.lst _ _ e n; bw.lst _ _ e2 n2⟩
      · have bw : Bears H4 (upd H4 p (.lst (ws ++ [v4]))) Z' Z' := .wr q3 (.inl (.inr rfl)) fun _ z => z
        exact Rps.go bw (rps_append (Rps.go q4 ra) ⟨v4, [], rfl, p4, rfl⟩)
      · refine (compM gm (fun g => mt (g, c)) (fun g => me (g, c)) (items.drop (i + 1))).mono (fun rest z => ?_) (fun _ z => z) k3
        have z' : ∀ a vs H'', H a = none → Rep X.K (fun b => U b ∨ b = a) T H'' (ρ c) σ → H'' a = some (.lst vs) → Rps X.K H'' (fun b => (U b ∨ T b) ∨ b = a) (acc ++ (y :: rest)) vs → (acc ++ (y :: rest)).length ≤ sizeLine → Ext T H H'' → Q (.ref a) H'' := z
        rw [List.append_assoc]
        exact z'
  · have e : i = items.length := by omega
    subst e
    refine .inl ⟨stop (Nat.le_refl _), ?_⟩
    rw [List.drop_length] at k
    have k' : ∀ a vs H'', H a = none → Rep X.K (fun b => U b ∨ b = a) T H'' (ρ c) σ → H'' a = some (.lst vs) → Rps X.K H'' (fun b => (U b ∨ T b) ∨ b = a) (acc ++ []) vs → (acc ++ []).length ≤ sizeLine → Ext T H H'' → Q (.ref a) H'' := k
    rw [List.append_nil] at k'
    refine k' p ws H' h0 ((r1.newU (vs := []) hp).back rp br (hv c)) hpw (Rps.go (.weak fun a z => ?_) ra) (Nat.le_trans la lz) (e1.trans1 ex)
    rcases z with (z | z) | z
    · exact .inl (.inl z)
    · exact .inr z
    · exact .inl (.inr z)
end
end CR

set_option Elab.async false
set_option linter.all false
set_option maxRecDepth 100000
/-! CR7: comprehensions as rules, blocks. -/
namespace CR
open PySem PySem.Spec PyProof.Rows L2

/-! ### comprehensions -/
section
variable {X : Cx} {W : WX} {p : Cp} {S : Type} {ρ : S → List Slot}
theorem gsn_off (i : Nat) : ∀ (g : D) (ρ : List Slot) (j : Nat), j ∉ [i] → (gsN i g ρ)[j]? = ρ[j]? := fun g ρ j n => List.getElem?_set_ne fun z => n (by rw [z]; exact List.mem_cons_self)
theorem gsu_off : ∀ (g : Unit) (ρ : List Slot) (j : Nat), j ∉ ([] : List Nat) → ((fun _ ρ => ρ : Unit → List Slot → List Slot) g ρ)[j]? = ρ[j]? := fun _ _ _ _ => rfl
theorem gsc_off {G G' : Type} {gs : G → List Slot → List Slot} {gss : G' → List Slot → List Slot} {sl sl' : List Nat} (h : ∀ g ρ (j : Nat), j ∉ sl → (gs g ρ)[j]? = ρ[j]?) (k : ∀ g ρ (j : Nat), j ∉ sl' → (gss g ρ)[j]? = ρ[j]?) :
    ∀ (g : G × G') (ρ : List Slot) (j : Nat), j ∉ sl ++ sl' → (gsCons gs gss g ρ)[j]? = ρ[j]? := fun g ρ j n => by
  rw [List.mem_append, not_or] at n
  exact (k _ _ _ n.2).trans (h _ _ _ n.1)
/-- the names of the block that stand as own lists outside are none -/
def plainAt (ρ : S → List Slot) (vs : List Nat) : Prop := ∀ c i s, i ∈ vs → (ρ c)[i]? = some s → s.own = false
theorem plainAt.nil : plainAt ρ [] := fun _ _ _ h => by cases h
theorem plainAt.cons {v : Nat} {vs : List Nat} (h : ∀ c, ∀ s, (ρ c)[v]? = some s → s.own = false) (k : plainAt ρ vs) : plainAt ρ (v :: vs) := fun c i s m e => by
  rcases List.mem_cons.mp m with rfl | m
  · exact h c s e
  · exact k c i s m e
theorem slotUn {o : Option Slot} {t : Slot} (h : o = some t) (ho : t.own = false) : ∀ s, o = some s → s.own = false := fun s e => by rw [h] at e; cases e; exact ho
/-- [elt for tg in iter if ..] -/
theorem el_comp (g : GX X W p) {G : Type} {gm : D → Option G} {gs : G → List Slot → List Slot} {sl : List Nat} {elt tg iter : Expr} {ifs : List Expr} {scope : Scope} {vis loc : List Nat} {gl : List Str} {own : List (Str × Nat)} {pos : Pos}
    {mi : S → M (List D)} {mt : G × S → M Bool} {me : G × S → M D} (hi : Ei X W ρ tg iter mi) (hb : ckBk p scope vis loc gl own = true) (hp : plainAt ρ (own.map (·.2))) (hsl : (sl.all fun i => (own.map (·.2)).contains i) = true)
    (hg : ∀ (s : Shared) (H : Hp) (C : Addr) (cl : List (Str × Addr)) (fp : List Addr), GX (bk X scope s H C cl fp) WF (p.bk scope vis loc gl) → Eg (bk X scope s H C cl fp) tg gm gs sl) (hgs : ∀ g ρ (j : Nat), j ∉ sl → (gs g ρ)[j]? = ρ[j]?)
    (ht : ∀ (s : Shared) (H : Hp) (C : Addr) (cl : List (Str × Addr)) (fp : List Addr), GX (bk X scope s H C cl fp) WF (p.bk scope vis loc gl) → Ets (bk X scope s H C cl fp) WF (fun s : G × S => gs s.1 (wipR (ρ s.2) (own.map (·.2)))) ifs mt)
    (he : ∀ (s : Shared) (H : Hp) (C : Addr) (cl : List (Str × Addr)) (fp : List Addr), GX (bk X scope s H C cl fp) WF (p.bk scope vis loc gl) → Ee (bk X scope s H C cl fp) WF (fun s : G × S => gs s.1 (wipR (ρ s.2) (own.map (·.2)))) elt me)
    (hcal : p.cal = true := by rfl) (hs : ∀ x, foldedSetIterable iter X.env x = pure x := by intro _; rfl) :
    El X W ρ (.ListComp elt [⟨tg, iter, ifs, 0⟩] scope pos) fun c => M.bind (mi c) fun xs => compM gm (fun g => mt (g, c)) (fun g => me (g, c)) xs := by
  have hbk : blkC p.N p.sc scope own = true := by
    unfold ckBk at hb
    simp only [Bool.and_eq_true] at hb
    exact hb.2.2
  have hsl' : ∀ i ∈ sl, i ∈ own.map (·.2) := fun i m => List.contains_iff_mem.mp (List.all_eq_true.mp hsl i m)
  refine PE.imp (pe_lc (g.calm hcal) g.nd hi (by rw [g.eN, g.esc]; exact blkOk_by hbk) (fun s H C cl fp => hg s H C cl fp (g.bk hb s H C cl fp)) (fun s H C cl fp => ht s H C cl fp (g.bk hb s H C cl fp)) (fun s H C cl fp => he s H C cl fp (g.bk hb s H C cl fp)) hs)
    fun σ H Q h => lc_read hsl' hgs hp σ H Q h
end

/-! ### blocks -/
/-- how a block ends -/
inductive O (N B : Type) where
  | nx (n : N) | rt (d : D) | rl (xs : List D) | bk (b : B) | ct (b : B)
/-- what is known at its ends -/
structure Sg (S N B : Type) where
  R : List Slot
  n : S → N → List Slot
  b : S → B → List Slot
def Sg.up {S N B A : Type} (G : Sg S N B) : Sg (A × S) N B := ⟨G.R, fun s => G.n s.2, fun s => G.b s.2⟩
structure Grow (T : Addr → Prop) (H : Hp) (T' : Addr → Prop) (H' : Hp) : Prop where
  ext : Ext T H H'
  nw : ∀ a, T' a → T a ∨ H a = none
theorem Grow.of {T : Addr → Prop} {H H' : Hp} (e : Ext T H H') : Grow T H T H' := ⟨e, fun _ z => .inl z⟩
theorem Grow.trans {K : PySem.W.Frag} {U T T1 T2 : Addr → Prop} {H H1 H2 : Hp} {ρ σ} (r : Rep K U T H ρ σ) (a : Grow T H T1 H1) (b : Grow T1 H1 T2 H2) (r1 : ∀ a, T1 a → ∃ vs, H1 a = some (.lst vs)) : Grow T H T2 H2 :=
  ⟨a.ext.trans b.ext a.nw, fun x z => by
    rcases b.nw x z with z | z
    · exact a.nw x z
    · cases q : H x with
      | none => exact .inr rfl
      | some o =>
        by_cases t : T x
        · exact .inl t
        · rw [a.ext x o q t] at z; cases z⟩
def fin (K : PySem.W.Frag) (U T : Addr → Prop) (H : Hp) (l : Nat) (D : Ends) (R : List Slot) {N B : Type} (n : N → List Slot) (b : B → List Slot) : O N B → Prop
  | .nx x => ∀ T' σ' H', Rep K U T' H' (n x) σ' → Grow T H T' H' → σ'.length = l → D.nx σ' H'
  | .bk x => ∀ T' σ' H', Rep K U T' H' (b x) σ' → Grow T H T' H' → σ'.length = l → D.bk σ' H'
  | .ct x => ∀ T' σ' H', Rep K U T' H' (b x) σ' → Grow T H T' H' → σ'.length = l → D.ct σ' H'
  | .rt d => ∀ T' v σ' H', Rep K U T' H' R σ' → Rp K H' (fun a => U a ∨ T' a) d v → Grow T H T' H' → D.rt v H'
  | .rl xs => ∀ T' a vs σ' H', Rep K U T' H' R σ' → T' a → (∀ (j : Nat) ad P, R[j]? = some (.ab ad P) → a ≠ ad) → H' a = some (.lst vs) → Rps K H' (fun b => U b ∨ T' b) xs vs → xs.length ≤ sizeLine → Grow T H T' H' → D.rt (.ref a) H'
def wxS (X : Cx) (W : WX) (T : Addr → Prop) (σ : L2.St) (H : Hp) (x : Str) : Prop := ∀ cls T' σ' H', X.mg x = some cls → Grow T H T' H' → (∀ a, T' a → ∃ vs, H' a = some (.lst vs)) → σ'.length = σ.length → W cls none σ' H'
theorem wxS.wx {X : Cx} {W : WX} {T : Addr → Prop} {σ : L2.St} {H : Hp} {x : Str} (h : wxS X W T σ H x) : CR.wx X W T σ H x := fun cls H' q e t => h cls T σ H' q (.of e) t rfl
def tS (X : Cx) (W : WX) {S N B : Type} (ρ : S → List Slot) (G : Sg S N B) (m : S → M (O N B)) : TS := fun D σ H =>
  ∃ c U T, Rep X.K U T H (ρ c) σ ∧ (m c).wp (fin X.K U T H σ.length D G.R (G.n c) (G.b c)) (wxS X W T σ H)
/-- one statement that goes on -/
def tP (X : Cx) (W : WX) {S A : Type} (ρ : S → List Slot) (ρ' : A × S → List Slot) (m : S → M A) : TS := fun D σ H =>
  ∃ c U T, Rep X.K U T H (ρ c) σ ∧ (m c).wp (fun a => ∀ T' σ' H', Rep X.K U T' H' (ρ' (a, c)) σ' → Grow T H T' H' → σ'.length = σ.length → D.nx σ' H') (wxS X W T σ H)
abbrev Ss (X : Cx) (W : WX) {S N B : Type} (ρ : S → List Slot) (G : Sg S N B) (ss : List Stmt) (m : S → M (O N B)) : Prop := PSs X ss (tS X W ρ G m)
abbrev Sp (X : Cx) (W : WX) {S A : Type} (ρ : S → List Slot) (ρ' : A × S → List Slot) (st : Stmt) (m : S → M A) : Prop := PS X st (tP X W ρ ρ' m)
theorem fin.grow {K : PySem.W.Frag} {U T T1 : Addr → Prop} {H H1 : Hp} {ρ1 : List Slot} {σ σ1 : L2.St} {ρ : List Slot} {D : Ends} {R : List Slot} {N B : Type} {n : N → List Slot} {b : B → List Slot} (r : Rep K U T H ρ σ) (r1 : Rep K U T1 H1 ρ1 σ1) (g : Grow T H T1 H1) (hl : σ1.length = σ.length) :
    ∀ o : O N B, fin K U T H σ.length D R n b o → fin K U T1 H1 σ1.length D R n b o
  | .nx x, h => fun T' σ' H' r' g' l' => h T' σ' H' r' (g.trans r g' r1.tok) (l'.trans hl)
  | .bk x, h => fun T' σ' H' r' g' l' => h T' σ' H' r' (g.trans r g' r1.tok) (l'.trans hl)
  | .ct x, h => fun T' σ' H' r' g' l' => h T' σ' H' r' (g.trans r g' r1.tok) (l'.trans hl)
  | .rt d, h => fun T' v σ' H' r' p g' => h T' v σ' H' r' p (g.trans r g' r1.tok)
  | .rl xs, h => fun T' a vs σ' H' r' t n e p l g' => h T' a vs σ' H' r' t n e p l (g.trans r g' r1.tok)
theorem wxS.grow {X : Cx} {W : WX} {K : PySem.W.Frag} {U T T1 : Addr → Prop} {H H1 : Hp} {ρ ρ1 : List Slot} {σ σ1 : L2.St} (r : Rep K U T H ρ σ) (r1 : Rep K U T1 H1 ρ1 σ1) (g : Grow T H T1 H1) (l : σ1.length = σ.length) {x : Str} (h : wxS X W T σ H x) : wxS X W T1 σ1 H1 x :=
  fun cls T' σ' H' q g' t l' => h cls T' σ' H' q (g.trans r g' r1.tok) t (l'.trans l)
section
variable {X : Cx} {W : WX} {p : Cp} {S : Type} {ρ : S → List Slot} {N B : Type} {G : Sg S N B} {st : Stmt} {ss : List Stmt}
theorem ss_end (f : S → N) (h : ∀ c, LeE (G.n c (f c)) (ρ c)) : Ss X W ρ G [] fun c => M.pure (.nx (f c)) :=
  PSs.imp pss_nil fun D σ H ⟨c, U, T, r, q⟩ => q T σ H (r.le (h c)) (.of (.refl _ _)) rfl
theorem ss_cons {A : Type} {ρ' : A × S → List Slot} {m : S → M A} {k : A × S → M (O N B)} (h : Sp X W ρ ρ' st m) (hk : Ss X W ρ' (G.up) ss k) : Ss X W ρ G (st :: ss) fun c => M.bind (m c) fun a => k (a, c) := by
  refine PSs.imp (pss_cons h hk) fun D σ H ⟨c, U, T, r, q⟩ => ?_
  refine ⟨c, U, T, r, (m c).mono (fun a q1 T1 σ1 H1 r1 g1 l1 => ?_) (fun _ z => z) q⟩
  exact ⟨(a, c), U, T1, r1, (k (a, c)).mono (fun o z => fin.grow r r1 g1 l1 o z) (fun _ z => z.grow r r1 g1 l1) q1⟩
theorem ss_doc {x j pos pos'} {k : S → M (O N B)} (hk : Ss X W ρ G ss k) : Ss X W ρ G (.Expr (.Constant (.str x) j pos) pos' :: ss) k := PSs.imp (pss_cons ps_doc hk) fun D σ H h => h
theorem ss_pass {pos} {k : S → M (O N B)} (hk : Ss X W ρ G ss k) : Ss X W ρ G (.Pass pos :: ss) k := PSs.imp (pss_cons ps_pass hk) fun D σ H h => h
theorem ss_ret {e : Expr} {pos : Pos} {m : S → M D} (h : Ee X W ρ e m) (hR : ∀ c, LeE G.R (ρ c)) : Ss X W ρ G (.Return (some e) pos :: ss) fun c => M.bind (m c) fun d => M.pure (.rt d) := by
  refine PSs.imp (pss_cons (ps_ret h) pss_never) fun D σ H ⟨c, U, T, r, q⟩ => ?_
  exact ⟨c, U, T, r, (m c).mono (fun d q1 v H1 r1 p1 e1 => q1 T v σ H1 (r1.le (hR c)) p1 (.of e1)) (fun _ z => z.wx) q⟩
theorem ss_retN {pos : Pos} (hR : ∀ c, LeE G.R (ρ c)) : Ss X W ρ G (.Return none pos :: ss) fun c => M.pure (.rt .non) :=
  PSs.imp (pss_cons ps_retN pss_never) fun D σ H ⟨c, U, T, r, q⟩ => q T .non σ H (r.le (hR c)) rfl (.of (.refl _ _))
end
end CR

set_option Elab.async false
set_option linter.all false
set_option maxRecDepth 100000
/-! CR8: statements. -/
namespace CR
open PySem PySem.Spec PyProof.Rows L2
section
variable {X : Cx} {W : WX} {p : Cp} {S : Type} {ρ : S → List Slot} {N B : Type} {G : Sg S N B} {st : Stmt} {ss : List Stmt}

/-! ### stores -/
theorem sp_set (g : GX X W p) (i : Nat) {x : Str} {e : Expr} {pos' pos : Pos} {m : S → M D} (hN : p.N[i]? = some x) (hl : p.loc.contains i = true) (h : Ee X W ρ e m) (hs : swapsWith e (some (.Name x pos')) pos.line X.env = pure false := by rfl) :
    Sp X W ρ (fun s : D × S => (ρ s.2).set i (.pl s.1)) (.Assign [.Name x pos'] e pos) m := by
  refine PS.imp (ps_set g.nd (g.n hN) (g.loc hN hl) h hs (g.fn hN hl)) fun D σ H ⟨c, U, T, r, q⟩ => ?_
  exact ⟨c, U, T, r, (m c).mono (fun d q1 v H1 r1 p1 e1 => q1 T _ H1 (r1.put p1) (.of e1) (List.length_set ..)) (fun _ z => z.wx) q⟩
/-- a new list becomes this def's own -/
theorem Rep.putL {K : PySem.W.Frag} {U T : Addr → Prop} {H0 H : Hp} {ρc ρ0 : List Slot} {σ : L2.St} {a : Addr} {vs : List V} {ds : List D} {i : Nat} (r0 : Rep K U T H0 ρ0 σ) (r : Rep K (fun b => U b ∨ b = a) T H ρc σ) (e : Ext T H0 H) (hn : H0 a = none) (ha : H a = some (.lst vs)) (rp : Rps K H (fun b => (U b ∨ T b) ∨ b = a) ds vs) (hl : ds.length ≤ sizeLine) :
    Rep K U (fun b => T b ∨ b = a) H (ρc.set i (.ow ds)) (σ.set i (some (.ref a))) ∧ Grow T H0 (fun b => T b ∨ b = a) H := by
  have nT : ¬ T a := fun t => by obtain ⟨vs, z⟩ := r0.tok a t; rw [hn] at z; cases z
  refine ⟨(r.toT ha fun z => by have e := r0.uok a z; rw [hn] at e; cases e).setg (s := .ow ds) ⟨a, vs, rfl, ha, .inr rfl, Rps.go (.weak fun b z => ?_) rp, hl⟩ fun _ b hb j _ o => ?_, ⟨e, fun b z => ?_⟩⟩
  · rcases z with z | z | z
    · exact .inl (.inl z)
    · exact .inl (.inr z)
    · exact .inr z
  · cases hb
    exact nT (r.own o).1
  · rcases z with z | z
    · exact .inl z
    · rw [z]; exact .inr hn
theorem sp_ow {te : TE} (i : Nat) {m : S → M (List D)} (h : PS X st (tAsg te (gName i))) (k : ∀ σ H Q, tL X W ρ m σ H Q → te σ H Q) : Sp X W ρ (fun s : List D × S => (ρ s.2).set i (.ow s.1)) st m := by
  refine PS.imp h fun D σ H ⟨c, U, T, r, q⟩ => k _ _ _ ?_
  refine ⟨c, U, T, r, (m c).mono (fun ds q1 a vs H1 hn r1 ha rp hl e1 => ?_) (fun _ z => z.wx) q⟩
  obtain ⟨r2, g2⟩ := r.putL r1 e1 hn ha rp hl (i := i)
  exact q1 _ _ H1 r2 g2 (List.length_set ..)
theorem sp_lset (g : GX X W p) (i : Nat) {x : Str} {e : Expr} {pos' pos : Pos} {m : S → M (List D)} (hN : p.N[i]? = some x) (hl : p.loc.contains i = true) (h : El X W ρ e m) (hs : swapsWith e (some (.Name x pos')) pos.line X.env = pure false := by rfl) :
    Sp X W ρ (fun s : List D × S => (ρ s.2).set i (.ow s.1)) (.Assign [.Name x pos'] e pos) m :=
  sp_ow i (ps_set g.nd (g.n hN) (g.loc hN hl) h hs (g.fn hN hl)) fun _ _ _ z => z
/-- name = [..] on one line -/
theorem sp_lc (g : GX X W p) (i : Nat) {x : Str} {pos' spos : Pos} {Gt : Type} {gm : D → Option Gt} {gs : Gt → List Slot → List Slot} {sl : List Nat} {elt tg iter : Expr} {ifs : List Expr} {scope : Scope} {vis loc : List Nat} {gl : List Str} {own : List (Str × Nat)} {pos : Pos}
    {mi : S → M (List D)} {mt : Gt × S → M Bool} {me : Gt × S → M D} (hN : p.N[i]? = some x) (hil : p.isl.contains i = true) (hi : Ei X W ρ tg iter mi) (hb : ckBk p scope vis loc gl own = true) (hp : plainAt ρ (own.map (·.2))) (hsl : (sl.all fun i => (own.map (·.2)).contains i) = true)
    (hg : ∀ (s : Shared) (H : Hp) (C : Addr) (cl : List (Str × Addr)) (fp : List Addr), GX (bk X scope s H C cl fp) WF (p.bk scope vis loc gl) → Eg (bk X scope s H C cl fp) tg gm gs sl) (hgs : ∀ g ρ (j : Nat), j ∉ sl → (gs g ρ)[j]? = ρ[j]?)
    (ht : ∀ (s : Shared) (H : Hp) (C : Addr) (cl : List (Str × Addr)) (fp : List Addr), GX (bk X scope s H C cl fp) WF (p.bk scope vis loc gl) → Ets (bk X scope s H C cl fp) WF (fun s : Gt × S => gs s.1 (wipR (ρ s.2) (own.map (·.2)))) ifs mt)
    (he : ∀ (s : Shared) (H : Hp) (C : Addr) (cl : List (Str × Addr)) (fp : List Addr), GX (bk X scope s H C cl fp) WF (p.bk scope vis loc gl) → Ee (bk X scope s H C cl fp) WF (fun s : Gt × S => gs s.1 (wipR (ρ s.2) (own.map (·.2)))) elt me)
    (hsw : swapsWith (.ListComp elt [⟨tg, iter, ifs, 0⟩] scope pos) (some (.Name x pos')) spos.line X.env = pure true := by rfl) (hcal : p.cal = true := by rfl) (hs : ∀ x, foldedSetIterable iter X.env x = pure x := by intro _; rfl) :
    Sp X W ρ (fun s : List D × S => (ρ s.2).set i (.ow s.1)) (.Assign [.Name x pos'] (.ListComp elt [⟨tg, iter, ifs, 0⟩] scope pos) spos) fun c => M.bind (mi c) fun xs => compM gm (fun g => mt (g, c)) (fun g => me (g, c)) xs := by
  have hbk : blkC p.N p.sc scope own = true := by
    unfold ckBk at hb
    simp only [Bool.and_eq_true] at hb
    exact hb.2.2
  have hsl' : ∀ i ∈ sl, i ∈ own.map (·.2) := fun i m => List.contains_iff_mem.mp (List.all_eq_true.mp hsl i m)
  refine sp_ow i (ps_setLc (g.calm hcal) g.nd (g.n hN) (g.isl hN hil) hsw hi (by rw [g.eN, g.esc]; exact blkOk_by hbk) (fun s H C cl fp => hg s H C cl fp (g.bk hb s H C cl fp)) (fun s H C cl fp => ht s H C cl fp (g.bk hb s H C cl fp)) (fun s H C cl fp => he s H C cl fp (g.bk hb s H C cl fp)) hs)
    fun σ H Q h => lc_read hsl' hgs hp σ H Q h
/-- a target of data -/
theorem sp_asg {tg e : Expr} {pos : Pos} {Gt : Type} {gm : D → Option Gt} {gs : Gt → List Slot → List Slot} {sl : List Nat} {m : S → M D} (h : Ee X W ρ e m) (ht : Eg X tg gm gs sl) (hs : swapsWithSole [tg] e pos.line X.env = pure false := by rfl) (hw : swappedStores [tg] e X.env = pure none := by rfl)
    (h1 : (assignEach [tg] X.env).map (·.2) = [assign tg X.env] := by rfl) : Sp X W ρ (fun s : Gt × S => gs s.1 (ρ s.2)) (.Assign [tg] e pos) fun c => M.bind (m c) fun d => M.opt (gm d) := by
  refine PS.imp (ps_asg h ht hs hw h1) fun D σ H ⟨c, U, T, r, q⟩ => ?_
  refine ⟨c, U, T, r, (m c).mono (fun d q1 v H1 r1 p1 e1 => ?_) (fun _ z => z.wx) q⟩
  obtain ⟨gv, hg, q2⟩ := opt_wp q1
  exact ⟨U, T, ρ c, d, gv, r1, p1, hg, fun σ' r' o' => q2 T σ' H1 r' (.of e1) o'.1⟩
theorem sp_expr {e : Expr} {pos : Pos} {m : S → M D} (h : Ee X W ρ e m) (hs : swapsWith e none pos.line X.env = pure false := by rfl) : Sp X W ρ (fun s : Unit × S => ρ s.2) (.Expr e pos) fun c => M.bind (m c) fun _ => M.pure () := by
  refine PS.imp (ps_expr h hs) fun D σ H ⟨c, U, T, r, q⟩ => ?_
  exact ⟨c, U, T, r, (m c).mono (fun d q1 v H1 r1 p1 e1 => q1 T _ H1 r1 (.of e1) rfl) (fun _ z => z.wx) q⟩

/-! ### several values at once -/
theorem SlotOk.weak {K : PySem.W.Frag} {U T U' T' : Addr → Prop} {H : Hp} {s : Slot} {ov : Option V} (h : SlotOk K U T H s ov) (hz : ∀ a, U' a ∨ T' a → U a ∨ T a) (ht : ∀ a, T a → T' a) : SlotOk K U' T' H s ov := by
  have b : Bears H H (fun a => U a ∨ T a) (fun a => U' a ∨ T' a) := .weak hz
  cases s with
  | un => trivial
  | pl d =>
    obtain ⟨v, e2, h⟩ := h
    exact ⟨v, e2, h.go b⟩
  | ow xs =>
    obtain ⟨a, ws, e2, h1, h2, h3, h4⟩ := h
    exact ⟨a, ws, e2, h1, ht _ h2, Rps.go b h3, h4⟩
  | ab a P =>
    obtain ⟨e2, ws, xs, h1, h2, h3, h4⟩ := h
    exact ⟨e2, ws, xs, h1, ht _ h2, Rps.go b h3, h4⟩
def NotIn (b : Addr) : List Slot → List V → Prop
  | [], _ => True
  | s :: r, vs => ∀ v w, vs = v :: w → (s.own = true → v ≠ .ref b) ∧ NotIn b r w
def SlX (K : PySem.W.Frag) (U T : Addr → Prop) (H0 H : Hp) : List Slot → List V → Prop
  | [], vs => vs = []
  | s :: r, vs => ∃ v w, vs = v :: w ∧ SlotOk K U T H s (some v) ∧ (s.own = true → ∃ b, v = .ref b ∧ H0 b = none ∧ NotIn b r w) ∧ SlX K U T H0 H r w
def tX (X : Cx) (W : WX) {S A : Type} (ρ : S → List Slot) (n : Nat) (sl : A → List Slot) (m : S → M A) : TA := fun σ H Q =>
  ∃ c U T, Rep X.K U T H (ρ c) σ ∧ (m c).wp (fun a => ∀ T' vs H', (sl a).length = n → Rep X.K U T' H' (ρ c) σ → Grow T H T' H' → SlX X.K U T' H H' (sl a) vs → Q vs H') (wx X W T σ H)
abbrev Ex (X : Cx) (W : WX) {S A : Type} (ρ : S → List Slot) (es : List Expr) (sl : A → List Slot) (m : S → M A) : Prop := PA X es (tX X W ρ es.length sl m)
theorem ex_nil : Ex X W ρ [] (fun _ : Unit => []) fun _ => M.pure () :=
  PA.imp pa_nil fun σ H Q ⟨c, U, T, r, q⟩ => q T [] H rfl r (.of (.refl _ _)) rfl
theorem SlotOk.move {K : PySem.W.Frag} {U T T' : Addr → Prop} {H H' : Hp} {d : D} {v : V} (h : SlotOk K U T H (.pl d) (some v)) (b : Bears H H' (fun a => U a ∨ T a) (fun a => U a ∨ T' a)) : SlotOk K U T' H' (.pl d) (some v) := by
  obtain ⟨w, e, rp⟩ := h
  exact ⟨w, e, rp.go b⟩
theorem Grow.bears {K : PySem.W.Frag} {U T T' : Addr → Prop} {H H' : Hp} {ρc : List Slot} {σ : L2.St} (r : Rep K U T H ρc σ) (g : Grow T H T' H') : Bears H H' (fun a => U a ∨ T a) (fun a => U a ∨ T' a) := by
  have b := g.ext.bears (U := U) r.tok
  refine ⟨b.tup, b.frz, fun a vs e n => ⟨(b.lst a vs e n).1, fun z => ?_⟩⟩
  rcases z with z | z
  · exact n (.inl z)
  · rcases g.nw a z with z | z
    · exact n (.inr z)
    · rw [z] at e; cases e
theorem ex_dat {A : Type} {e : Expr} {es : List Expr} {sl : A → List Slot} {m : S → M D} {n : S → M A} (h : Ee X W ρ e m) (k : Ex X W ρ es sl n) (hs : starEach (e :: es) X.env = (false, eval e X.env) :: starEach es X.env := by rfl) :
    Ex X W ρ (e :: es) (fun a : D × A => .pl a.1 :: sl a.2) fun c => M.bind (m c) fun d => M.bind (n c) fun r => M.pure (d, r) := by
  refine PA.imp (pa_cons h k hs) fun σ H Q ⟨c, U, T, r, q⟩ => ?_
  refine ⟨c, U, T, r, (m c).mono (fun d q1 v1 H1 r1 p1 e1 => ?_) (fun _ z => z) q⟩
  refine ⟨c, U, T, r1, (n c).mono (fun ds q2 T2 vs H2 l r2 g2 s2 => ?_) (fun _ z => wx.ext e1 z) q1⟩
  refine q2 T2 (v1 :: vs) H2 (by rw [List.length_cons, List.length_cons, l]) r2 ⟨e1.trans1 g2.ext, fun a z => (g2.nw a z).imp id fun z => new_none r1 e1 z⟩ ⟨v1, vs, rfl, ⟨v1, rfl, p1.go (g2.bears r1)⟩, fun z => (Bool.false_ne_true z).elim, ?_⟩
  have go : ∀ {ss vs}, SlX X.K U T2 H1 H2 ss vs → SlX X.K U T2 H H2 ss vs := fun {ss} => by
    induction ss with
    | nil => exact fun h => h
    | cons s r ih =>
      rintro vs ⟨v, w, rfl, h1, h2, h3⟩
      exact ⟨v, w, rfl, h1, fun o => by obtain ⟨b, e, hb, hn⟩ := h2 o; exact ⟨b, e, new_none r1 e1 hb, hn⟩, ih h3⟩
  exact go s2
theorem notIn_of {K : PySem.W.Frag} {U T : Addr → Prop} {H0 H : Hp} {b : Addr} (hb : H0 b ≠ none) : ∀ {ss : List Slot} {vs : List V}, SlX K U T H0 H ss vs → NotIn b ss vs
  | [], _, _ => trivial
  | s :: r, vs, ⟨v, w, e, h1, h2, h3⟩ => fun v' w' e' => by
    rw [e] at e'; cases e'
    exact ⟨fun o z => by obtain ⟨c, ec, hc, _⟩ := h2 o; rw [z] at ec; cases ec; exact hb hc, notIn_of hb h3⟩
theorem ex_lst {A : Type} {e : Expr} {es : List Expr} {sl : A → List Slot} {m : S → M (List D)} {n : S → M A} (h : El X W ρ e m) (k : Ex X W ρ es sl n) (hs : starEach (e :: es) X.env = (false, eval e X.env) :: starEach es X.env := by rfl) :
    Ex X W ρ (e :: es) (fun a : List D × A => .ow a.1 :: sl a.2) fun c => M.bind (m c) fun d => M.bind (n c) fun r => M.pure (d, r) := by
  refine PA.imp (pa_cons h k hs) fun σ H Q ⟨c, U, T, r, q⟩ => ?_
  refine ⟨c, U, T, r, (m c).mono (fun ds q1 a vs H1 hn r1 ha rp hl e1 => ?_) (fun _ z => z) q⟩
  have nT : ¬ T a := fun t => by obtain ⟨vs, z⟩ := r.tok a t; rw [hn] at z; cases z
  refine ⟨c, _, T, r1, (n c).mono (fun ss q2 T2 ws H2 l r2 g2 s2 => ?_) (fun _ z => wx.ext e1 z) q1⟩
  have f : H1 a ≠ none := by rw [ha]; intro z; cases z
  have ha2 : H2 a = some (.lst vs) := g2.ext a _ ha nT
  have zz : ∀ b, U b ∨ (T2 b ∨ b = a) → (U b ∨ b = a) ∨ T2 b := fun b z => by
    rcases z with z | z | z
    · exact .inl (.inl z)
    · exact .inr z
    · exact .inl (.inr z)
  refine q2 (fun b => T2 b ∨ b = a) (.ref a :: ws) H2 (by rw [List.length_cons, List.length_cons, l]) (r2.toT ha2 fun z => by have e := r.uok a z; rw [hn] at e; cases e) ⟨e1.trans1 g2.ext, fun b z => ?_⟩ ⟨.ref a, ws, rfl, ?_, fun _ => ⟨a, rfl, hn, notIn_of f s2⟩, ?_⟩
  · rcases z with z | z
    · exact (g2.nw b z).imp id fun z => new_none r1.lessU e1 z
    · rw [z]; exact .inr hn
  · refine ⟨a, vs, rfl, ha2, .inr rfl, Rps.go (.weak zz) (Rps.go (g2.bears r1) (Rps.go (.weak fun b z => ?_) rp)), hl⟩
    rcases z with (z | z) | z
    · exact .inl (.inl z)
    · exact .inr z
    · exact .inl (.inr z)
  · have go : ∀ {ss vs}, SlX X.K (fun b => U b ∨ b = a) T2 H1 H2 ss vs → SlX X.K U (fun b => T2 b ∨ b = a) H H2 ss vs := fun {ss} => by
      induction ss with
      | nil => exact fun h => h
      | cons s r ih =>
        rintro vs ⟨v, w, rfl, h1, h2, h3⟩
        exact ⟨v, w, rfl, h1.weak zz (fun _ z => .inl z), fun o => by obtain ⟨b, e, hb, hn⟩ := h2 o; exact ⟨b, e, new_none r1.lessU e1 hb, hn⟩, ih h3⟩
    exact go s2
/-- two (three) plain locals -/
theorem OwnAt.set {ρc : List Slot} {σ : L2.St} {i j : Nat} {s : Slot} {v : V} {b : Addr} (h : OwnAt (ρc.set i s) (σ.set i (some v)) j b) (hl : σ.length = ρc.length) : (s.own = true ∧ v = .ref b) ∨ OwnAt ρc σ j b := by
  obtain ⟨t, e, ho, es⟩ := h
  rcases set_get e with ⟨q, e1, l⟩ | ⟨q, e1⟩
  · subst q e1
    rw [List.getElem?_set_self (by rw [hl]; exact l)] at es
    exact .inl ⟨ho, Option.some.inj (Option.some.inj es)⟩
  · rw [List.getElem?_set_ne (Ne.symm q)] at es
    exact .inr ⟨t, e1, ho, es⟩
def par2 (i j : Nat) : List Slot → List Slot → List Slot
  | [a, b], ρ => (ρ.set i a).set j b
  | _, ρ => ρ
def par3 (i j k : Nat) : List Slot → List Slot → List Slot
  | [a, b, c], ρ => ((ρ.set i a).set j b).set k c
  | _, ρ => ρ
theorem sp_par (g : GX X W p) (i j : Nat) {x y : Str} {a b : Expr} {px py pt pos : Pos} {kt k2 : Nat} {pt2 : Pos} {A : Type} {sl : A → List Slot} {m : S → M A} (hij : i ≠ j) (hN : p.N[i]? = some x) (hM : p.N[j]? = some y) (hil : p.isl.contains i = true) (hjl : p.isl.contains j = true) (h : Ex X W ρ [a, b] sl m)
    (hw : swappedStores [.Tuple [.Name x px, .Name y py] kt pt] (.Tuple [a, b] k2 pt2) X.env = pure (some [x, y])) (hcal : p.cal = true := by rfl) (hs : swapsWithSole [.Tuple [.Name x px, .Name y py] kt pt] (.Tuple [a, b] k2 pt2) pos.line X.env = pure false := by rfl) :
    Sp X W ρ (fun s : A × S => par2 i j (sl s.1) (ρ s.2)) (.Assign [.Tuple [.Name x px, .Name y py] kt pt] (.Tuple [a, b] k2 pt2) pos) m := by
  refine PS.imp (ps_par (g.calm hcal) g.nd (g.n hN) (g.n hM) hij (g.isl hN hil) (g.isl hM hjl) h hw hs) fun D σ H ⟨c, U, T, r, q⟩ => ?_
  refine ⟨c, U, T, r, (m c).mono (fun av q1 T2 vs H2 l r2 g2 s2 => ?_) (fun _ z => z.wx) q⟩
  have q1' : ∀ T' σ' H', Rep X.K U T' H' (par2 i j (sl av) (ρ c)) σ' → Grow T H T' H' → σ'.length = σ.length → D.nx σ' H' := q1
  revert l s2 q1'
  generalize sl av = ss
  intro l s2 q1'
  match ss, l with
  | [sa, sb], _ =>
    obtain ⟨v1, w1, rfl, h1, o1, v2, w2, rfl, h2, o2, e⟩ := s2
    cases (show w2 = [] from e)
    have no : ∀ {b j}, H b = none → ¬ OwnAt (ρ c) σ j b := fun {b j} hb o => by
      obtain ⟨_, vs, z⟩ := r.own o
      rw [hb] at z; cases z
    have r3 := r2.setg (i := i) h1 fun ho a ha k _ o => by
      obtain ⟨b, e, hb, _⟩ := o1 ho
      rw [e] at ha; cases ha
      exact no hb o
    have r4 := r3.setg (i := j) h2 fun ho a ha k _ o => by
      obtain ⟨b, e, hb, _⟩ := o2 ho
      rw [e] at ha; cases ha
      rcases o.set r2.len with ⟨o', z⟩ | o'
      · obtain ⟨b', e', _, nn⟩ := o1 o'
        rw [z] at e'; cases e'
        exact (nn v2 [] rfl).1 ho e
      · exact no hb o'
    exact ⟨v1, v2, rfl, q1' T2 _ H2 r4 g2 (by rw [List.length_set, List.length_set])⟩
theorem sp_par3 (g : GX X W p) (i j k : Nat) {x y z : Str} {a b e : Expr} {px py pz pt pos : Pos} {kt k2 : Nat} {pt2 : Pos} {A : Type} {sl : A → List Slot} {m : S → M A} (hij : i ≠ j) (hik : i ≠ k) (hjk : j ≠ k) (hN : p.N[i]? = some x) (hM : p.N[j]? = some y) (hP : p.N[k]? = some z) (hil : p.isl.contains i = true) (hjl : p.isl.contains j = true) (hkl : p.isl.contains k = true) (h : Ex X W ρ [a, b, e] sl m)
    (hw : swappedStores [.Tuple [.Name x px, .Name y py, .Name z pz] kt pt] (.Tuple [a, b, e] k2 pt2) X.env = pure (some [x, y, z])) (hcal : p.cal = true := by rfl) (hs : swapsWithSole [.Tuple [.Name x px, .Name y py, .Name z pz] kt pt] (.Tuple [a, b, e] k2 pt2) pos.line X.env = pure false := by rfl) :
    Sp X W ρ (fun s : A × S => par3 i j k (sl s.1) (ρ s.2)) (.Assign [.Tuple [.Name x px, .Name y py, .Name z pz] kt pt] (.Tuple [a, b, e] k2 pt2) pos) m := by
  refine PS.imp (ps_par3 (g.calm hcal) g.nd (g.n hN) (g.n hM) (g.n hP) hij hik hjk (g.isl hN hil) (g.isl hM hjl) (g.isl hP hkl) h hw hs) fun D σ H ⟨c, U, T, r, q⟩ => ?_
  refine ⟨c, U, T, r, (m c).mono (fun av q1 T2 vs H2 l r2 g2 s2 => ?_) (fun _ z => z.wx) q⟩
  have q1' : ∀ T' σ' H', Rep X.K U T' H' (par3 i j k (sl av) (ρ c)) σ' → Grow T H T' H' → σ'.length = σ.length → D.nx σ' H' := q1
  revert l s2 q1'
  generalize sl av = ss
  intro l s2 q1'
  match ss, l with
  | [sa, sb, sc], _ =>
    obtain ⟨v1, w1, rfl, h1, o1, v2, w2, rfl, h2, o2, v3, w3, rfl, h3, o3, e⟩ := s2
    cases (show w3 = [] from e)
    have no : ∀ {b j}, H b = none → ¬ OwnAt (ρ c) σ j b := fun {b j} hb o => by
      obtain ⟨_, vs, z⟩ := r.own o
      rw [hb] at z; cases z
    have r3 := r2.setg (i := i) h1 fun ho a ha k _ o => by
      obtain ⟨b, e, hb, _⟩ := o1 ho
      rw [e] at ha; cases ha
      exact no hb o
    have r4 := r3.setg (i := j) h2 fun ho a ha k _ o => by
      obtain ⟨b, e, hb, _⟩ := o2 ho
      rw [e] at ha; cases ha
      rcases o.set r2.len with ⟨o', z⟩ | o'
      · obtain ⟨b', e', _, nn⟩ := o1 o'
        rw [z] at e'; cases e'
        exact (nn v2 _ rfl).1 ho e
      · exact no hb o'
    have r5 := r4.setg (i := k) h3 fun ho a ha l _ o => by
      obtain ⟨b, e, hb, _⟩ := o3 ho
      rw [e] at ha; cases ha
      rcases o.set r3.len with ⟨o', z⟩ | o'
      · obtain ⟨b', e', _, nn⟩ := o2 o'
        rw [z] at e'; cases e'
        exact (nn v3 _ rfl).1 ho e
      · rcases o'.set r2.len with ⟨o', z⟩ | o'
        · obtain ⟨b', e', _, nn⟩ := o1 o'
          rw [z] at e'; cases e'
          exact ((nn v2 _ rfl).2 v3 _ rfl).1 ho e
        · exact no hb o'
    exact ⟨v1, v2, v3, rfl, q1' T2 _ H2 r5 g2 (by rw [List.length_set, List.length_set, List.length_set])⟩

/-! ### own lists written -/
theorem Rep.setOw {K : PySem.W.Frag} {U T : Addr → Prop} {H : Hp} {ρc : List Slot} {σ : L2.St} {i : Nat} {a : Addr} {vs ws : List V} {xs ys : List D} (r : Rep K U T H ρc σ) (hi : ρc[i]? = some (.ow xs)) (es : σ[i]? = some (some (.ref a))) (ha : H a = some (.lst vs)) (rp : Rps K H (fun b => U b ∨ T b) ys ws) (hl : ys.length ≤ sizeLine) :
    Rep K U T (upd H a (.lst ws)) (ρc.set i (.ow ys)) σ ∧ Ext T H (upd H a (.lst ws)) := by
  have oa : OwnAt ρc σ i a := ⟨_, hi, rfl, es⟩
  have ta := (r.own oa).1
  have b : Bears H (upd H a (.lst ws)) (fun b => U b ∨ T b) (fun b => U b ∨ T b) := .wr ha (.inr ta) fun _ z => z
  have ext : Ext T H (upd H a (.lst ws)) := fun x o e n => by
    have ne : x ≠ a := fun z => n (by rw [z]; exact ta)
    rw [upd_ne ne]; exact e
  have old : ∀ {j : Nat} {x : Addr}, OwnAt (ρc.set i (.ow ys)) σ j x → OwnAt ρc σ j x := fun {j x} ⟨t, e, ho, e2⟩ => by
    rcases set_get e with ⟨q, e1, l⟩ | ⟨q, e1⟩
    · subst q; exact ⟨_, hi, rfl, e2⟩
    · exact ⟨t, e1, ho, e2⟩
  refine ⟨⟨by rw [List.length_set]; exact r.len, fun j t e => ?_, fun j k x n hj hk => r.ne j k x n (old hj) (old hk), fun x hx => ?_, fun x hx => ?_, r.ut⟩, ext⟩
  · rcases set_get e with ⟨q, e1, l⟩ | ⟨q, e1⟩
    · subst q e1
      exact ⟨_, es, a, ws, rfl, upd_same, ta, Rps.go b rp, hl⟩
    · obtain ⟨ov, e2, ok⟩ := r.sl j t e1
      refine ⟨ov, e2, ?_⟩
      cases t with
      | un => trivial
      | pl d =>
        obtain ⟨v, e3, h⟩ := ok
        exact ⟨v, e3, h.go b⟩
      | ow zs =>
        obtain ⟨x, us, rfl, h1, h2, h3, h4⟩ := ok
        have ne : x ≠ a := fun z => by subst z; exact r.ne j i x q ⟨_, e1, rfl, e2⟩ oa
        exact ⟨x, us, rfl, by rw [upd_ne ne]; exact h1, h2, Rps.go b h3, h4⟩
      | ab x P =>
        obtain ⟨rfl, us, zs, h1, h2, h3, h4⟩ := ok
        have ne : x ≠ a := fun z => by subst z; exact r.ne j i x q ⟨_, e1, rfl, e2⟩ oa
        exact ⟨rfl, us, zs, by rw [upd_ne ne]; exact h1, h2, Rps.go b h3, h4⟩
  · obtain ⟨o, e⟩ := Option.isSome_iff_exists.mp (r.uok x hx)
    by_cases z : x = a
    · rw [z, upd_same]; rfl
    · rw [upd_ne z, e]; rfl
  · obtain ⟨us, e⟩ := r.tok x hx
    by_cases z : x = a
    · rw [z]; exact ⟨_, upd_same⟩
    · exact ⟨us, by rw [upd_ne z]; exact e⟩
def lenB (xs : List D) : Bool := decide (xs.length < sizeLine)
/-- x.append(e) -/
theorem sp_app (g : GX X W p) (i : Nat) {x : Str} {e : Expr} {q apos cpos pos : Pos} {val : S → List D} {m : S → M D} (hN : p.N[i]? = some x) (hv : p.vis.contains i = true) (hi : ∀ c, (ρ c)[i]? = some (.ow (val c))) (h : Ee X W ρ e m)
    (hbase : attributeBase (.Name x q) "append" X.env (eval (.Name x q) X.env) = eval (.Name x q) X.env := by rfl)
    (hfew : ((backTo cpos (starEach [e] X.env)).all (fun x => !x.1) && (backToKw cpos (keywordEach [] X.env)).all (fun x => x.1.isSome) && decide (([e] : List Expr).length + ([] : List Keyword).length + (if ([] : List Keyword).isEmpty then 0 else 1) < 30)) = true := by rfl)
    (hline : (apos.endLine == cpos.line) = true := by rfl) (hs : starEach [e] X.env = (false, eval e X.env) :: starEach [] X.env := by rfl) (hplain : (backTo cpos (starEach [] X.env)).any (·.1) = false := by rfl)
    (hsw : swapsWith (.Call (.Attribute (.Name x q) "append" apos) [e] [] cpos) none pos.line X.env = pure false := by rfl) :
    Sp X W ρ (fun s : D × S => (ρ s.2).set i (.ow (val s.2 ++ [s.1]))) (.Expr (.Call (.Attribute (.Name x q) "append" apos) [e] [] cpos) pos) fun c => M.bind (m c) fun d => M.bind (M.guard (lenB (val c))) fun _ => M.pure d := by
  have pv : PE X (.Name x q) (tVar i) := pe_var (g.n hN) (g.vis hN hv) (g.ck.vis hN hv).2.1 (g.ck.vis hN hv).2.2
  refine PS.imp (ps_expr (pe_bm PySem.F.plainAttrs_list PySem.F.slot_list_append PySem.F.type_list_append mt_append pv (pa_cons h pa_nil hs) hbase hfew hline hs hplain) hsw) fun D σ H ⟨c, U, T, r, q⟩ => ?_
  obtain ⟨a, vs, es, ha, ta, rp, hl⟩ := r.ow (hi c)
  refine ⟨_, es, .inl ⟨rfl, _, SqL.of ha⟩, ?_⟩
  refine ⟨c, U, T, r, (m c).mono (fun d q1 v H1 r1 p1 e1 => ?_) (fun _ z => z.wx) q⟩
  obtain ⟨a', vs', es', ha', ta', rp', hl'⟩ := r1.ow (hi c)
  rw [es] at es'; cases es'
  have q2 : (M.guard (lenB (val c))).wp (fun _ => ∀ T' σ' H', Rep X.K U T' H' ((ρ c).set i (.ow (val c ++ [d]))) σ' → Grow T H T' H' → σ'.length = σ.length → D.nx σ' H') (wxS X W T σ H) := q1
  cases hb : lenB (val c) with
  | false => rw [hb] at q2; exact q2.elim
  | true =>
    rw [hb] at q2
    have q3 : ∀ T' σ' H', Rep X.K U T' H' ((ρ c).set i (.ow (val c ++ [d]))) σ' → Grow T H T' H' → σ'.length = σ.length → D.nx σ' H' := q2
    have hlt : (val c).length < sizeLine := of_decide_eq_true hb
    refine ⟨a, vs', v, rfl, rfl, ha', by rw [rps_len rp']; exact hlt, ?_⟩
    have p1' : Rps X.K H1 (fun a => U a ∨ T a) [d] [v] := ⟨v, [], rfl, p1, rfl⟩
    obtain ⟨r2, e2⟩ := r1.setOw (hi c) es ha' (rps_append rp' p1') (by rw [List.length_append, List.length_singleton]; omega)
    exact q3 T σ _ r2 (.of (e1.trans1 e2)) rfl
/-- x.pop(): the last one -/
def popM (xs : List D) : M D := match xs.getLast? with
  | some d => M.pure d
  | none => M.stuck
/-- target = x.pop() -/
theorem sp_pop (g : GX X W p) (i : Nat) {x : Str} {tg : Expr} {q apos cpos pos : Pos} {Gt : Type} {gm : D → Option Gt} {gs : Gt → List Slot → List Slot} {sl : List Nat} {val : S → List D} (hN : p.N[i]? = some x) (hv : p.vis.contains i = true) (hi : ∀ c, (ρ c)[i]? = some (.ow (val c))) (ht : Eg X tg gm gs sl)
    (hbase : attributeBase (.Name x q) "pop" X.env (eval (.Name x q) X.env) = eval (.Name x q) X.env := by rfl) (hline : (apos.endLine == cpos.line) = true := by rfl)
    (hsw : swapsWithSole [tg] (.Call (.Attribute (.Name x q) "pop" apos) [] [] cpos) pos.line X.env = pure false := by rfl) (hw : swappedStores [tg] (.Call (.Attribute (.Name x q) "pop" apos) [] [] cpos) X.env = pure none := by rfl)
    (h1 : (assignEach [tg] X.env).map (·.2) = [assign tg X.env] := by rfl) :
    Sp X W ρ (fun s : Gt × S => gs s.1 ((ρ s.2).set i (.ow (val s.2).dropLast))) (.Assign [tg] (.Call (.Attribute (.Name x q) "pop" apos) [] [] cpos) pos) fun c => M.bind (M.opt ((val c).getLast?)) fun d => M.opt (gm d) := by
  have pv : PE X (.Name x q) (tVar i) := pe_var (g.n hN) (g.vis hN hv) (g.ck.vis hN hv).2.1 (g.ck.vis hN hv).2.2
  refine PS.imp (ps_asg (pe_bm0 PySem.F.plainAttrs_list PySem.F.slot_list_pop PySem.F.type_list_pop mt_pop pv hbase hline) ht hsw hw h1) fun D σ H ⟨c, U, T, r, q⟩ => ?_
  obtain ⟨a, vs, es, ha, ta, rp, hl⟩ := r.ow (hi c)
  obtain ⟨d, hd, q1⟩ := opt_wp q
  obtain ⟨gv, hg, q2⟩ := opt_wp q1
  have hd' : (val c)[(val c).length - 1]? = some d := by rw [← List.getLast?_eq_getElem?]; exact hd
  obtain ⟨v, hv', rv⟩ := rps_get rp hd'
  refine ⟨_, es, .inl ⟨rfl, _, SqL.of ha⟩, a, vs, v, rfl, rfl, ha, by rw [rps_len rp]; exact hv', ?_⟩
  have rp2 : Rps X.K H (fun b => U b ∨ T b) (val c).dropLast vs.dropLast := by
    rw [List.dropLast_eq_take, List.dropLast_eq_take, rps_len rp]
    exact rps_take _ rp
  obtain ⟨r2, e2⟩ := r.setOw (hi c) es ha rp2 (by rw [List.length_dropLast]; omega)
  exact ⟨U, T, _, d, gv, r2, rv.go (e2.bears r.tok), hg, fun σ' r' o' => q2 T σ' _ r' (.of e2) o'.1⟩
/-- target = x.pop(0) -/
theorem sp_pop0 (g : GX X W p) (i : Nat) {x : Str} {tg : Expr} {q apos cpos pos kp : Pos} {kj : Nat} {Gt : Type} {gm : D → Option Gt} {gs : Gt → List Slot → List Slot} {sl : List Nat} {val : S → List D} (hN : p.N[i]? = some x) (hv : p.vis.contains i = true) (hi : ∀ c, (ρ c)[i]? = some (.ow (val c))) (ht : Eg X tg gm gs sl)
    (hbase : attributeBase (.Name x q) "pop" X.env (eval (.Name x q) X.env) = eval (.Name x q) X.env := by rfl)
    (hfew : ((backTo cpos (starEach [Expr.Constant (.int 0) kj kp] X.env)).all (fun x => !x.1) && (backToKw cpos (keywordEach [] X.env)).all (fun x => x.1.isSome) && decide (([Expr.Constant (.int 0) kj kp] : List Expr).length + ([] : List Keyword).length + (if ([] : List Keyword).isEmpty then 0 else 1) < 30)) = true := by rfl)
    (hline : (apos.endLine == cpos.line) = true := by rfl) (hs : starEach [Expr.Constant (.int 0) kj kp] X.env = (false, eval (Expr.Constant (.int 0) kj kp) X.env) :: starEach [] X.env := by rfl) (hplain : (backTo cpos (starEach [] X.env)).any (·.1) = false := by rfl)
    (hsw : swapsWithSole [tg] (.Call (.Attribute (.Name x q) "pop" apos) [Expr.Constant (.int 0) kj kp] [] cpos) pos.line X.env = pure false := by rfl) (hw : swappedStores [tg] (.Call (.Attribute (.Name x q) "pop" apos) [Expr.Constant (.int 0) kj kp] [] cpos) X.env = pure none := by rfl)
    (h1 : (assignEach [tg] X.env).map (·.2) = [assign tg X.env] := by rfl) :
    Sp X W ρ (fun s : Gt × S => gs s.1 ((ρ s.2).set i (.ow (val s.2).tail))) (.Assign [tg] (.Call (.Attribute (.Name x q) "pop" apos) [Expr.Constant (.int 0) kj kp] [] cpos) pos) fun c => M.bind (M.opt ((val c).head?)) fun d => M.opt (gm d) := by
  have pv : PE X (.Name x q) (tVar i) := pe_var (g.n hN) (g.vis hN hv) (g.ck.vis hN hv).2.1 (g.ck.vis hN hv).2.2
  refine PS.imp (ps_asg (pe_bm PySem.F.plainAttrs_list PySem.F.slot_list_pop PySem.F.type_list_pop mt_popAt pv (pa_cons pe_int pa_nil hs) hbase hfew hline hs hplain) ht hsw hw h1) fun D σ H ⟨c, U, T, r, q⟩ => ?_
  obtain ⟨a, vs, es, ha, ta, rp, hl⟩ := r.ow (hi c)
  obtain ⟨d, hd, q1⟩ := opt_wp q
  obtain ⟨gv, hg, q2⟩ := opt_wp q1
  have hd' : (val c)[0]? = some d := by rw [← List.head?_eq_getElem?]; exact hd
  obtain ⟨v, hv', rv⟩ := rps_get rp hd'
  have hlt : 0 < vs.length := (List.getElem?_eq_some_iff.mp hv').1
  have ee : vs.eraseIdx 0 = vs.tail := by cases vs <;> rfl
  refine ⟨_, es, .inl ⟨rfl, _, SqL.of ha⟩, ?_⟩
  refine ⟨a, vs, 0, 0, v, rfl, rfl, ha, by decide, by decide, ?_, hv', ?_⟩
  · unfold seqIndex?
    simp [hlt]
  rw [ee]
  have rp2 : Rps X.K H (fun b => U b ∨ T b) (val c).tail vs.tail := by
    rw [← List.drop_one, ← List.drop_one]
    exact rps_drop _ rp
  obtain ⟨r2, e2⟩ := r.setOw (hi c) es ha rp2 (by rw [List.length_tail]; omega)
  exact ⟨U, T, _, d, gv, r2, rv.go (e2.bears r.tok), hg, fun σ' r' o' => q2 T σ' _ r' (.of e2) o'.1⟩
def len2B (xs ys : List D) : Bool := decide (xs.length + ys.length ≤ sizeLine)
/-- x += a new list -/
theorem sp_augL (g : GX X W p) (i : Nat) {x : Str} {e : Expr} {pos' pos : Pos} {val : S → List D} {m : S → M (List D)} (hN : p.N[i]? = some x) (hl : p.loc.contains i = true) (hi : ∀ c, (ρ c)[i]? = some (.ow (val c))) (h : El X W ρ e m) :
    Sp X W ρ (fun s : List D × S => (ρ s.2).set i (.ow (val s.2 ++ s.1))) (.AugAssign (.Name x pos') .Add e pos) fun c => M.bind (m c) fun ys => M.bind (M.guard (len2B (val c) ys)) fun _ => M.pure ys := by
  refine PS.imp (ps_aug g.nd (g.n hN) (g.loc hN hl) h iop_ext (g.fn hN hl)) fun D σ H ⟨c, U, T, r, q⟩ => ?_
  obtain ⟨a, vs, es, ha, ta, rp, hl⟩ := r.ow (hi c)
  refine ⟨_, es, c, U, T, r, (m c).mono (fun ys q1 b ws H1 hn r1' hb rp1 hl1 e1 => ?_) (fun _ z => z.wx) q⟩
  have r1 := r1'.lessU
  obtain ⟨a', vs', es', ha', ta', rp', hl'⟩ := r1.ow (hi c)
  rw [es] at es'; cases es'
  have q2 : (M.guard (len2B (val c) ys)).wp (fun _ => ∀ T' σ' H', Rep X.K U T' H' ((ρ c).set i (.ow (val c ++ ys))) σ' → Grow T H T' H' → σ'.length = σ.length → D.nx σ' H') (wxS X W T σ H) := q1
  cases hb' : len2B (val c) ys with
  | false => rw [hb'] at q2; exact q2.elim
  | true =>
    rw [hb'] at q2
    have q3 : ∀ T' σ' H', Rep X.K U T' H' ((ρ c).set i (.ow (val c ++ ys))) σ' → Grow T H T' H' → σ'.length = σ.length → D.nx σ' H' := q2
    have hlt : (val c).length + ys.length ≤ sizeLine := of_decide_eq_true hb'
    refine ⟨a, b, vs', ws, rfl, rfl, ha', hb, by rw [rps_len rp', rps_len rp1]; exact hlt, ?_⟩
    -- b as one of T for a while
    have r2 := r1'.toT hb fun z => by have e := r.uok b z; rw [hn] at e; cases e
    have rp1' : Rps X.K H1 (fun x => U x ∨ (T x ∨ x = b)) ys ws := Rps.go (.weak fun x z => by
      rcases z with z | z | z
      · exact .inl (.inl z)
      · exact .inl (.inr z)
      · exact .inr z) rp1
    obtain ⟨a2, vs2, es2, ha2, ta2, rp2, hl2⟩ := r2.ow (hi c)
    rw [es] at es2; cases es2
    rw [ha'] at ha2; cases ha2
    obtain ⟨r3, e3⟩ := r2.setOw (hi c) es ha' (rps_append rp2 rp1') (by rw [List.length_append]; exact hlt)
    have hset : ∀ {l : L2.St}, l[i]? = some (some (V.ref a)) → l.set i (some (V.ref a)) = l := fun {l} e => by
      apply List.ext_getElem?
      intro k
      by_cases z : k = i
      · subst z
        rw [List.getElem?_set_self (List.getElem?_eq_some_iff.mp e).1, e]
      · rw [List.getElem?_set_ne (Ne.symm z)]
    show D.nx (σ.set i (some (V.ref a))) _
    rw [hset es]
    have g1 : Grow T H (fun x => T x ∨ x = b) H1 := ⟨e1, fun x z => by
      rcases z with z | z
      · exact .inl z
      · rw [z]; exact .inr hn⟩
    exact q3 _ σ _ r3 (g1.trans r (.of e3) r2.tok) rfl
/-- x += e on whole numbers -/
def intP (f : Int → Int → Int) : D → D → Option D
  | .int a, .int b => some (.int (f a b))
  | _, _ => none
theorem sp_augI {op : Operator} {f : Int → Int → Int} (ho : PIp X op (ipI f)) (g : GX X W p) (i : Nat) {x : Str} {e : Expr} {pos' pos : Pos} {val : S → D} {m : S → M D} (hN : p.N[i]? = some x) (hl : p.loc.contains i = true) (hi : ∀ c, (ρ c)[i]? = some (.pl (val c))) (h : Ee X W ρ e m) :
    Sp X W ρ (fun s : D × S => (ρ s.2).set i (.pl s.1)) (.AugAssign (.Name x pos') op e pos) fun c => M.bind (m c) fun d => M.opt (intP f (val c) d) := by
  refine PS.imp (ps_aug g.nd (g.n hN) (g.loc hN hl) h ho (g.fn hN hl)) fun Dn σ H ⟨c, U, T, r, q⟩ => ?_
  obtain ⟨v, es, rv⟩ := r.pl (hi c)
  refine ⟨_, es, c, U, T, r, (m c).mono (fun d q1 w H1 r1 p1 e1 => ?_) (fun _ z => z.wx) q⟩
  obtain ⟨z, hz, q2⟩ := opt_wp q1
  have main : ∀ (u d z : D) (v w : V), intP f u d = some z → Rp X.K H (fun a => U a ∨ T a) u v → Rp X.K H1 (fun a => U a ∨ T a) d w → ∃ a b : Int, v = .int a ∧ w = .int b ∧ z = .int (f a b) := fun u d z v w hz hv hw => by
    cases u <;> cases d <;> first | cases hz | skip
    exact ⟨_, _, hv, hw, rfl⟩
  obtain ⟨a, b, ea, eb, ez⟩ := main _ _ _ _ _ hz rv p1
  refine ⟨a, b, ea, eb, ?_⟩
  subst ez
  exact q2 T _ H1 (r1.put (d := .int (f a b)) rfl) (.of e1) (List.length_set ..)
/-- x[e] = f on an own list -/
def setAt (xs : List D) (d : D) : Option Nat := match d with
  | .int k => ixN xs.length k
  | _ => none
theorem sp_setI (g : GX X W p) (i : Nat) {x : Str} {ie e : Expr} {q p1 pos : Pos} {val : S → List D} {m n : S → M D} (hN : p.N[i]? = some x) (hv : p.vis.contains i = true) (hi : ∀ c, (ρ c)[i]? = some (.ow (val c))) (h : Ee X W ρ e m) (k : Ee X W ρ ie n)
    (ha : ∀ v, assign (.Subscript (.Name x q) ie p1) X.env v = (do
      let ov ← holding [v] (eval (.Name x q) X.env)
      let iv ← holding [v, ov] (eval ie X.env)
      standAt p1
      holding [v, ov, iv] (setItem ov iv v)
      release [v, ov, iv] []) := by intro _; rfl)
    (hs : swapsWithSole [.Subscript (.Name x q) ie p1] e pos.line X.env = pure false := by rfl) (hw : swappedStores [.Subscript (.Name x q) ie p1] e X.env = pure none := by rfl)
    (h1 : (assignEach [.Subscript (.Name x q) ie p1] X.env).map (·.2) = [assign (.Subscript (.Name x q) ie p1) X.env] := by rfl) :
    Sp X W ρ (fun s : (D × Nat) × S => (ρ s.2).set i (.ow ((val s.2).set s.1.2 s.1.1))) (.Assign [.Subscript (.Name x q) ie p1] e pos) fun c => M.bind (m c) fun d => M.bind (n c) fun j => M.bind (M.opt (setAt (val c) j)) fun j => M.pure (d, j) := by
  have pv : PE X (.Name x q) (tVar i) := pe_var (g.n hN) (g.vis hN hv) (g.ck.vis hN hv).2.1 (g.ck.vis hN hv).2.2
  refine PS.imp (ps_asg h (pg_sub pv k set_list ha) hs hw h1) fun D σ H ⟨c, U, T, r, q⟩ => ?_
  refine ⟨c, U, T, r, (m c).mono (fun d q1 v H1 r1 p1 e1 => ?_) (fun _ z => z.wx) q⟩
  obtain ⟨a, vs, es, ha, ta, rp, hl⟩ := r1.ow (hi c)
  refine ⟨_, es, c, U, T, r1, (n c).mono (fun j q2 w H2 r2 p2 e2 => ?_) (fun _ z => wx.ext e1 z.wx) q1⟩
  obtain ⟨a', vs', es', ha', ta', rp', hl'⟩ := r2.ow (hi c)
  rw [es] at es'; cases es'
  obtain ⟨k, hk, q3⟩ := opt_wp q2
  cases j <;> first | cases hk | skip
  rename_i z
  have hk' : ixN (val c).length z = some k := hk
  refine ⟨a, vs', z, k, rfl, p2, ha', by rw [rps_len rp']; exact hk', ?_⟩
  obtain ⟨r3, e3⟩ := r2.setOw (hi c) es ha' (rps_set k rp' (p1.go (e2.bears r1.tok))) (by rw [List.length_set]; exact hl')
  exact q3 T σ _ r3 (.of ((e1.trans1 e2).trans1 e3)) rfl
end
end CR

set_option Elab.async false
set_option linter.all false
set_option maxRecDepth 100000
/-! CR9: if, for, while, return, raise, try. -/
namespace CR
open PySem PySem.Spec PyProof.Rows L2
/-- what follows a block that goes on -/
def O.nxt {J N B : Type} (o : O J B) (k : J → M (O N B)) : M (O N B) := match o with
  | .nx j => k j
  | .rt d => M.pure (.rt d)
  | .rl xs => M.pure (.rl xs)
  | .bk b => M.pure (.bk b)
  | .ct b => M.pure (.ct b)
/-- a block that does not go on -/
def O.out {N B : Type} (o : O Empty B) : O N B := match o with
  | .nx e => e.elim
  | .rt d => .rt d
  | .rl xs => .rl xs
  | .bk b => .bk b
  | .ct b => .ct b
def forM {G A : Type} (gm : D → Option G) (f : G → A → M (O A A)) : List D → A → M (O A Empty)
  | [], a => M.pure (.nx a)
  | x :: xs, a => M.bind (M.opt (gm x)) fun g => M.bind (f g a) fun o => match o with
    | .nx b => forM gm f xs b
    | .ct b => forM gm f xs b
    | .bk b => M.pure (.nx b)
    | .rt d => M.pure (.rt d)
    | .rl ys => M.pure (.rl ys)
/-- what follows a loop -/
def O.aft {A N B : Type} (o : O A Empty) (k : A → M (O N B)) : M (O N B) := match o with
  | .nx j => k j
  | .rt d => M.pure (.rt d)
  | .rl xs => M.pure (.rl xs)
  | .bk b => b.elim
  | .ct b => b.elim
def iterM {A : Type} (t : A → M Bool) (f : A → M (O A A)) : Nat → A → M (O A Empty)
  | 0, _ => M.stuck
  | n + 1, a => M.bind (t a) fun b => M.ite b (M.bind (f a) fun o => match o with
    | .nx b => iterM t f n b
    | .ct b => iterM t f n b
    | .bk b => M.pure (.nx b)
    | .rt d => M.pure (.rt d)
    | .rl ys => M.pure (.rl ys)) (M.pure (.nx a))
/-- some number of turns is enough -/
def whileM {A : Type} (t : A → M Bool) (f : A → M (O A A)) (a : A) : M (O A Empty) := ⟨fun Q E => ∃ n, (iterM t f n a).wp Q E, fun h h' ⟨n, q⟩ => ⟨n, (iterM t f n a).mono h h' q⟩⟩
section
variable {X : Cx} {W : WX} {p : Cp} {S : Type} {ρ : S → List Slot} {N B : Type} {G : Sg S N B} {st : Stmt} {ss : List Stmt}
theorem ss_ret1 {e : Expr} {pos : Pos} {m : S → M (List D)} (h : El X W ρ e m) (hR : ∀ c, LeE G.R (ρ c)) : Ss X W ρ G (.Return (some e) pos :: ss) fun c => M.bind (m c) fun d => M.pure (.rl d) := by
  refine PSs.imp (pss_cons (ps_ret h) pss_never) fun D σ H ⟨c, U, T, r, q⟩ => ?_
  refine ⟨c, U, T, r, (m c).mono (fun ds q1 a vs H1 hn r1 ha rp hl e1 => ?_) (fun _ z => z.wx) q⟩
  have nT : ¬ T a := fun t => by obtain ⟨vs, z⟩ := r.tok a t; rw [hn] at z; cases z
  have r2 := (r1.le (hR c)).toT ha fun z => by have e := r.uok a z; rw [hn] at e; cases e
  refine q1 (fun b => T b ∨ b = a) a vs σ H1 r2 (.inr rfl) (fun j ad P e z => ?_) ha (Rps.go (.weak fun b z => ?_) rp) hl ⟨e1, fun b z => ?_⟩
  · subst z
    obtain ⟨_, _, _, _, t, _⟩ := (r1.le (hR c)).ab e
    exact nT t
  · rcases z with z | z | z
    · exact .inl (.inl z)
    · exact .inl (.inr z)
    · exact .inr z
  · rcases z with z | z
    · exact .inl z
    · rw [z]; exact .inr hn
/-- an own list is returned -/
theorem ss_retO (g : GX X W p) (i : Nat) {x : Str} {q pos : Pos} {val : S → List D} (hN : p.N[i]? = some x) (hv : p.vis.contains i = true) (hi : ∀ c, (ρ c)[i]? = some (.ow (val c))) (hR : ∀ c, LeE G.R (ρ c)) : Ss X W ρ G (.Return (some (.Name x q)) pos :: ss) fun c => M.pure (.rl (val c)) := by
  have pv : PE X (.Name x q) (tVar i) := pe_var (g.n hN) (g.vis hN hv) (g.ck.vis hN hv).2.1 (g.ck.vis hN hv).2.2
  refine PSs.imp (pss_cons (ps_ret pv) pss_never) fun D σ H ⟨c, U, T, r, q⟩ => ?_
  obtain ⟨a, vs, es, ha, ta, rp, hl⟩ := r.ow (hi c)
  refine ⟨_, es, q T a vs σ H (r.le (hR c)) ta (fun j ad P e z => ?_) ha rp hl (.of (.refl _ _))⟩
  subst z
  rcases (hR c).get e with z | z
  · cases z
  · obtain ⟨e2, _⟩ := r.ab z
    by_cases hj : j = i
    · subst hj; rw [hi c] at z; cases z
    · exact r.ne j i a hj ⟨_, z, rfl, e2⟩ ⟨_, hi c, rfl, es⟩
theorem ss_brk (f : S → B) (h : ∀ c, LeE (G.b c (f c)) (ρ c)) {pos} : Ss X W ρ G (.Break pos :: ss) fun c => M.pure (.bk (f c)) :=
  PSs.imp (pss_cons ps_break pss_never) fun D σ H ⟨c, U, T, r, q⟩ => q T σ H (r.le (h c)) (.of (.refl _ _)) rfl
theorem ss_cnt (f : S → B) (h : ∀ c, LeE (G.b c (f c)) (ρ c)) {pos} : Ss X W ρ G (.Continue pos :: ss) fun c => M.pure (.ct (f c)) :=
  PSs.imp (pss_cons ps_continue pss_never) fun D σ H ⟨c, U, T, r, q⟩ => q T σ H (r.le (h c)) (.of (.refl _ _)) rfl
/-- a block that goes nowhere on, as one of any such kind -/
theorem fin.out {K : PySem.W.Frag} {U T : Addr → Prop} {H : Hp} {l : Nat} {D D' : Ends} {R : List Slot} {n : N → List Slot} {b : B → List Slot} (h1 : D'.rt = D.rt) (h2 : D'.bk = D.bk) (h3 : D'.ct = D.ct) : ∀ o : O Empty B, fin K U T H l D R n b o.out → fin K U T H l D' R (fun e : Empty => e.elim) b o
  | .nx e, _ => e.elim
  | .rt d, h => by intro T' v σ' H' a b c; rw [h1]; exact h T' v σ' H' a b c
  | .rl xs, h => by intro T' a vs σ' H' x1 x2 x3 x4 x5 x6 x7; rw [h1]; exact h T' a vs σ' H' x1 x2 x3 x4 x5 x6 x7
  | .bk x, h => by intro T' σ' H' a b c; rw [h2]; exact h T' σ' H' a b c
  | .ct x, h => by intro T' σ' H' a b c; rw [h3]; exact h T' σ' H' a b c
theorem tS.of {c1 : S} {U T T1 : Addr → Prop} {H H1 : Hp} {ρ0 : List Slot} {σ σ1 : L2.St} {D : Ends} {m : S → M (O N B)} {P : O N B → Prop} (r : Rep X.K U T H ρ0 σ) (r1 : Rep X.K U T1 H1 (ρ c1) σ1) (g : Grow T H T1 H1) (l : σ1.length = σ.length) (z : (m c1).wp P (wxS X W T σ H))
    (h : ∀ o, P o → fin X.K U T H σ.length D G.R (G.n c1) (G.b c1) o) : tS X W ρ G m D σ1 H1 :=
  ⟨c1, U, T1, r1, (m c1).mono (fun o q => fin.grow r r1 g l o (h o q)) (fun _ q => q.grow r r1 g l) z⟩
/-- if t: (goes out); rest -/
theorem ss_ifx {t : Expr} {a : List Stmt} {pos : Pos} {mt : S → M Bool} {ma : S → M (O Empty B)} {k : S → M (O N B)} (ht : Et X W ρ t mt) (ha : Ss X W ρ ⟨G.R, fun _ (e : Empty) => e.elim, G.b⟩ a ma) (hk : Ss X W ρ G ss k) :
    Ss X W ρ G (.If t a [] pos :: ss) fun c => M.bind (mt c) fun b => M.ite b (M.bind (ma c) fun o => M.pure o.out) (k c) := by
  refine PSs.imp (pss_cons (ps_if ht ha pss_nil) hk) fun D σ H ⟨c, U, T, r, q⟩ => ?_
  refine ⟨c, U, T, r, (mt c).mono (fun b q1 H1 r1 e1 => ?_) (fun _ z => z.wx) q⟩
  have g1 : Grow T H T H1 := .of e1
  cases b with
  | true => exact iteT (tS.of r r1 g1 rfl (show (ma c).wp (fun o => fin X.K U T H σ.length D G.R (G.n c) (G.b c) o.out) (wxS X W T σ H) from q1) fun o z => fin.out (D := D) (n := G.n c) (by rfl) (by rfl) (by rfl) o z)
  | false => exact iteF (tS.of r r1 g1 rfl (show (k c).wp (fin X.K U T H σ.length D G.R (G.n c) (G.b c)) (wxS X W T σ H) from q1) fun o z => z)
/-- if t: .. else: .., at the end of a block -/
theorem ss_ife {t : Expr} {a b : List Stmt} {pos : Pos} {mt : S → M Bool} {ma mb : S → M (O N B)} (ht : Et X W ρ t mt) (ha : Ss X W ρ G a ma) (hb : Ss X W ρ G b mb) :
    Ss X W ρ G [.If t a b pos] fun c => M.bind (mt c) fun b => M.ite b (ma c) (mb c) := by
  refine PSs.imp (pss_one (ps_if ht ha hb)) fun D σ H ⟨c, U, T, r, q⟩ => ?_
  refine ⟨c, U, T, r, (mt c).mono (fun b q1 H1 r1 e1 => ?_) (fun _ z => z.wx) q⟩
  have g1 : Grow T H T H1 := .of e1
  cases b with
  | true =>
    have q1' : (ma c).wp (fin X.K U T H σ.length D G.R (G.n c) (G.b c)) (wxS X W T σ H) := q1
    exact iteT ⟨c, U, T, r1, (ma c).mono (fun o z => fin.grow r r1 g1 rfl o z) (fun _ z => z.grow r r1 g1 rfl) q1'⟩
  | false =>
    have q1' : (mb c).wp (fin X.K U T H σ.length D G.R (G.n c) (G.b c)) (wxS X W T σ H) := q1
    exact iteF ⟨c, U, T, r1, (mb c).mono (fun o z => fin.grow r r1 g1 rfl o z) (fun _ z => z.grow r r1 g1 rfl) q1'⟩
theorem wp_nxt {J : Type} {K : PySem.W.Frag} {U T : Addr → Prop} {H : Hp} {l : Nat} {D D' : Ends} {R : List Slot} {n : N → List Slot} {n' : J → List Slot} {b : B → List Slot} {k : J → M (O N B)} {E : Str → Prop} (h1 : D'.rt = D.rt) (h2 : D'.bk = D.bk) (h3 : D'.ct = D.ct)
    (hn : ∀ j, (k j).wp (fin K U T H l D R n b) E → ∀ T' σ' H', Rep K U T' H' (n' j) σ' → Grow T H T' H' → σ'.length = l → D'.nx σ' H') : ∀ o : O J B, (o.nxt k).wp (fin K U T H l D R n b) E → fin K U T H l D' R n' b o
  | .nx j, h => fun T' σ' H' r g e => hn j h T' σ' H' r g e
  | .rt d, h => by intro T' v σ' H' a b c; rw [h1]; exact h T' v σ' H' a b c
  | .rl xs, h => by intro T' a vs σ' H' x1 x2 x3 x4 x5 x6 x7; rw [h1]; exact h T' a vs σ' H' x1 x2 x3 x4 x5 x6 x7
  | .bk x, h => by intro T' σ' H' a b c; rw [h2]; exact h T' σ' H' a b c
  | .ct x, h => by intro T' σ' H' a b c; rw [h3]; exact h T' σ' H' a b c
/-- if t: .. else: ..; rest -/
theorem ss_ifj {A : Type} {ρ' : A × S → List Slot} {t : Expr} {a b : List Stmt} {pos : Pos} {mt : S → M Bool} {ma mb : S → M (O A B)} {k : A × S → M (O N B)} (ht : Et X W ρ t mt) (ha : Ss X W ρ ⟨G.R, fun c x => ρ' (x, c), G.b⟩ a ma) (hb : Ss X W ρ ⟨G.R, fun c x => ρ' (x, c), G.b⟩ b mb) (hk : Ss X W ρ' G.up ss k) :
    Ss X W ρ G (.If t a b pos :: ss) fun c => M.bind (mt c) fun b => M.bind (M.ite b (ma c) (mb c)) fun o => o.nxt fun x => k (x, c) := by
  refine PSs.imp (pss_cons (ps_if ht ha hb) hk) fun D σ H ⟨c, U, T, r, q⟩ => ?_
  refine ⟨c, U, T, r, (mt c).mono (fun b q1 H1 r1 e1 => ?_) (fun _ z => z.wx) q⟩
  have g1 : Grow T H T H1 := .of e1
  have go : ∀ {mm : S → M (O A B)}, (mm c).wp (fun o => (o.nxt fun x => k (x, c)).wp (fin X.K U T H σ.length D G.R (G.n c) (G.b c)) (wxS X W T σ H)) (wxS X W T σ H) →
      tS X W ρ ⟨G.R, fun c x => ρ' (x, c), G.b⟩ mm { D with nx := tS X W ρ' G.up k D } σ H1 := fun {mm} z =>
    tS.of (G := ⟨G.R, fun c x => ρ' (x, c), G.b⟩) r r1 g1 rfl z fun o z => wp_nxt (n' := fun j => ρ' (j, c)) (by rfl) (by rfl) (by rfl) (fun j hj T' σ' H' r' g' l' => tS.of (c1 := (j, c)) (G := G.up) r r' g' l' hj fun o z => z) o z
  cases b with
  | true => exact iteT (go (mm := ma) q1)
  | false => exact iteF (go (mm := mb) q1)

/-! ### loops -/
theorem wp_aft {A : Type} {K : PySem.W.Frag} {U T : Addr → Prop} {H : Hp} {l : Nat} {D D' : Ends} {R : List Slot} {n : N → List Slot} {n' : A → List Slot} {b : B → List Slot} {b' : Empty → List Slot} {k : A → M (O N B)} {E : Str → Prop} (h1 : D'.rt = D.rt)
    (hn : ∀ j, (k j).wp (fin K U T H l D R n b) E → ∀ T' σ' H', Rep K U T' H' (n' j) σ' → Grow T H T' H' → σ'.length = l → D'.nx σ' H') : ∀ o : O A Empty, (o.aft k).wp (fin K U T H l D R n b) E → fin K U T H l D' R n' b' o
  | .nx j, h => fun T' σ' H' r g e => hn j h T' σ' H' r g e
  | .rt d, h => by intro T' v σ' H' a b c; rw [h1]; exact h T' v σ' H' a b c
  | .rl xs, h => by intro T' a vs σ' H' x1 x2 x3 x4 x5 x6 x7; rw [h1]; exact h T' a vs σ' H' x1 x2 x3 x4 x5 x6 x7
  | .bk x, _ => x.elim
  | .ct x, _ => x.elim
/-- the ends of a loop's body, from those of the loop -/
theorem wp_turn {A : Type} {K : PySem.W.Frag} {U T : Addr → Prop} {H : Hp} {l : Nat} {D D' : Ends} {R : List Slot} {n : A → List Slot} {E : Str → Prop} {b' : Empty → List Slot} {again : A → M (O A Empty)} (h1 : D'.rt = D.rt) (h2 : D'.bk = D.nx)
    (hn : ∀ a, (again a).wp (fin K U T H l D R n b') E → ∀ T' σ' H', Rep K U T' H' (n a) σ' → Grow T H T' H' → σ'.length = l → D'.nx σ' H' ∧ D'.ct σ' H') :
    ∀ o : O A A, (match o with
      | .nx b => again b
      | .ct b => again b
      | .bk b => M.pure (.nx b)
      | .rt d => M.pure (.rt d)
      | .rl ys => M.pure (.rl ys) : M (O A Empty)).wp (fin K U T H l D R n b') E → fin K U T H l D' R n n o
  | .nx j, h => fun T' σ' H' r g e => (hn j h T' σ' H' r g e).1
  | .ct j, h => fun T' σ' H' r g e => (hn j h T' σ' H' r g e).2
  | .bk j, h => fun T' σ' H' r g e => by rw [h2]; exact h T' σ' H' r g e
  | .rt d, h => by intro T' v σ' H' a b c; rw [h1]; exact h T' v σ' H' a b c
  | .rl xs, h => by intro T' a vs σ' H' x1 x2 x3 x4 x5 x6 x7; rw [h1]; exact h T' a vs σ' H' x1 x2 x3 x4 x5 x6 x7
/-- while t: body; rest -/
theorem ss_while {A : Type} (g : GX X W p) {ρ' : A × S → List Slot} {t : Expr} {body : List Stmt} {pos : Pos} {mt : A × S → M Bool} {mb : A × S → M (O A A)} {k : A × S → M (O N B)} (f : S → A) (h0 : ∀ c, LeE (ρ' (f c, c)) (ρ c)) (ht : Et X W ρ' t mt)
    (hb : Ss X W ρ' ⟨G.R, fun s x => ρ' (x, s.2), fun s x => ρ' (x, s.2)⟩ body mb) (hk : Ss X W ρ' G.up ss k) :
    Ss X W ρ G (.While t body [] pos :: ss) fun c => M.bind (whileM (fun a => mt (a, c)) (fun a => mb (a, c)) (f c)) fun o => o.aft fun x => k (x, c) := by
  refine PSs.imp (pss_cons (ps_while g.ps ht hb) hk) fun D σ H ⟨c, U, T, r, n, q⟩ => ?_
  let D1 : Ends := { D with nx := tS X W ρ' G.up k D }
  have hD : ∀ o : O A Empty, (o.aft fun x => k (x, c)).wp (fin X.K U T H σ.length D G.R (G.n c) (G.b c)) (wxS X W T σ H) → fin X.K U T H σ.length D1 G.R (fun x => ρ' (x, c)) (fun e : Empty => e.elim) o := fun o z =>
    wp_aft (D' := D1) (n' := fun x => ρ' (x, c)) (by rfl) (fun j hj T' σ' H' r' g' l' => tS.of (c1 := (j, c)) (G := G.up) r r' g' l' hj fun o z => z) o z
  have q' : (iterM (fun a => mt (a, c)) (fun a => mb (a, c)) n (f c)).wp (fin X.K U T H σ.length D1 G.R (fun x => ρ' (x, c)) (fun e : Empty => e.elim)) (wxS X W T σ H) := M.mono _ hD (fun _ z => z) q
  refine ⟨fun m σ1 H1 => ∃ a T1, Rep X.K U T1 H1 (ρ' (a, c)) σ1 ∧ Grow T H T1 H1 ∧ σ1.length = σ.length ∧ (iterM (fun a => mt (a, c)) (fun a => mb (a, c)) m a).wp (fin X.K U T H σ.length D1 G.R (fun x => ρ' (x, c)) (fun e : Empty => e.elim)) (wxS X W T σ H),
    ⟨n, f c, T, r.le (h0 c), .of (.refl _ _), rfl, q'⟩, ?_⟩
  rintro m σ1 H1 ⟨a, T1, r1, g1, l1, w⟩
  cases m with
  | zero => exact w.elim
  | succ m =>
    refine ⟨(a, c), U, T1, r1, (mt (a, c)).mono (fun b q1 H2 r2 e2 => ?_) (fun _ z => (z.grow r r1 g1 l1).wx) w⟩
    have g2 : Grow T H T1 H2 := g1.trans r (.of e2) r1.tok
    cases b with
    | false => exact iteF ((show fin X.K U T H σ.length D1 G.R (fun x => ρ' (x, c)) (fun e : Empty => e.elim) (.nx a) from q1) T1 σ1 H2 r2 g2 l1)
    | true =>
      refine iteT ⟨fun σ' H' => ∃ a T1, Rep X.K U T1 H' (ρ' (a, c)) σ' ∧ Grow T H T1 H' ∧ σ'.length = σ.length ∧ (iterM (fun a => mt (a, c)) (fun a => mb (a, c)) m a).wp (fin X.K U T H σ.length D1 G.R (fun x => ρ' (x, c)) (fun e : Empty => e.elim)) (wxS X W T σ H),
        fun σ' H' z => ⟨m, Nat.lt_succ_self m, z⟩, ?_⟩
      refine tS.of (c1 := (a, c)) (G := ⟨G.R, fun s x => ρ' (x, s.2), fun s x => ρ' (x, s.2)⟩) r r2 g2 l1 q1 fun o z => ?_
      refine wp_turn (D := D1) (by rfl) (by rfl) (fun a' w' T' σ' H' r' g' l' => ?_) o z
      exact ⟨⟨a', T', r', g', l', w'⟩, ⟨a', T', r', g', l', w'⟩⟩
/-- the reading of a for loop -/
theorem for_read {A Gt : Type} {gm : CR.D → Option Gt} {gs : Gt → List Slot → List Slot} {sl : List Nat} {ρ' : A × S → List Slot} {R : List Slot} {mb : Gt × (A × S) → M (O A A)} {U T1 : Addr → Prop} {σ : L2.St} {D : Ends} {c : S} {J : It} {tb : TS}
    (htb : ∀ D σ H, tS X W (fun s : Gt × (A × S) => gs s.1 (ρ' s.2)) ⟨R, fun s x => ρ' (x, s.2.2), fun s x => ρ' (x, s.2.2)⟩ mb D σ H → tb D σ H)
    (items : List CR.D) (a0 : A) (H1 : Hp) (r1 : Rep X.K U T1 H1 (ρ' (a0, c)) σ)
    (it : ∀ i H2 T2 σ2 a, Rep X.K U T2 H2 (ρ' (a, c)) σ2 → Grow T1 H1 T2 H2 → (i < items.length → J.go i H2 ∧ ∀ x H3, J.yld i H2 x H3 → Same H2 H3 ∧ ∃ d, items[i]? = some d ∧ Rp X.K H3 (fun a => U a ∨ T2 a) d x) ∧ (items.length ≤ i → J.stop i H2))
    (q : (forM gm (fun g a => mb (g, (a, c))) items a0).wp (fin X.K U T1 H1 σ.length D R (fun x => ρ' (x, c)) (fun e : Empty => e.elim)) (wxS X W T1 σ H1)) :
    ∃ Wv : Nat → Nat → L2.St → Hp → Prop, (∃ m, Wv 0 m σ H1) ∧ ∀ i m σ H, Wv i m σ H →
      (J.stop i H ∧ D.nx σ H) ∨ (J.go i H ∧ ∃ Nx : L2.St → Hp → Prop, (∀ σ' H', Nx σ' H' → ∃ m', m' < m ∧ Wv (i + 1) m' σ' H') ∧ ∀ x H', J.yld i H x H' → tGd X.K gm gs sl x σ H' fun σ2 H2 => tb { D with nx := Nx, ct := Nx, bk := D.nx } σ2 H2) := by
  refine ⟨fun i m σ2 H2 => m = items.length - i ∧ i ≤ items.length ∧ ∃ a T2, Rep X.K U T2 H2 (ρ' (a, c)) σ2 ∧ Grow T1 H1 T2 H2 ∧ σ2.length = σ.length ∧ (forM gm (fun g a => mb (g, (a, c))) (items.drop i) a).wp (fin X.K U T1 H1 σ.length D R (fun x => ρ' (x, c)) (fun e : Empty => e.elim)) (wxS X W T1 σ H1),
    ⟨items.length, by simp, Nat.zero_le _, a0, T1, r1, .of (.refl _ _), rfl, q⟩, ?_⟩
  rintro i m σ2 H2 ⟨rfl, hi, a, T2, r2, g2, l2, w⟩
  obtain ⟨go, stop⟩ := it i H2 T2 σ2 a r2 g2
  by_cases hlt : i < items.length
  · obtain ⟨y1, y2⟩ := go hlt
    refine .inr ⟨y1, fun σ3 H3 => ∃ a T2, Rep X.K U T2 H3 (ρ' (a, c)) σ3 ∧ Grow T1 H1 T2 H3 ∧ σ3.length = σ.length ∧ (forM gm (fun g a => mb (g, (a, c))) (items.drop (i + 1)) a).wp (fin X.K U T1 H1 σ.length D R (fun x => ρ' (x, c)) (fun e : Empty => e.elim)) (wxS X W T1 σ H1),
      fun σ' H' z => ⟨items.length - (i + 1), by omega, rfl, hlt, z⟩, fun x H3 y => ?_⟩
    obtain ⟨sm, d, hd, rd⟩ := y2 x H3 y
    have ed : items.drop i = d :: items.drop (i + 1) := by
      rw [List.drop_eq_getElem_cons hlt]
      obtain ⟨_, z⟩ := List.getElem?_eq_some_iff.mp hd
      rw [z]
    rw [ed] at w
    obtain ⟨gv, hg, w1⟩ := opt_wp w
    have r3 := r2.same sm
    have g3 : Grow T1 H1 T2 H3 := g2.trans r1 (.of (.of sm)) r2.tok
    refine ⟨U, T2, _, d, gv, r3, rd, hg, fun σ4 r4 o4 => htb _ _ _ ?_⟩
    have l4 : σ4.length = σ.length := o4.1.trans l2
    refine tS.of (ρ := fun s : Gt × (A × S) => gs s.1 (ρ' s.2)) (c1 := (gv, (a, c))) (G := ⟨R, fun s x => ρ' (x, s.2.2), fun s x => ρ' (x, s.2.2)⟩) r1 r4 g3 l4 w1 fun o z => ?_
    refine wp_turn (D := D) (by rfl) (by rfl) (fun a' w' T' σ' H' r' g' l' => ?_) o z
    exact ⟨⟨a', T', r', g', l', w'⟩, ⟨a', T', r', g', l', w'⟩⟩
  · have e : i = items.length := by omega
    subst e
    refine .inl ⟨stop (Nat.le_refl _), ?_⟩
    rw [List.drop_length] at w
    exact w T2 σ2 H2 r2 g2 l2
/-- for tg in iter: body; rest -/
theorem ss_for {A Gt : Type} (g : GX X W p) {gm : CR.D → Option Gt} {gs : Gt → List Slot → List Slot} {sl : List Nat} {ρ' : A × S → List Slot} {tg iter : Expr} {body : List Stmt} {pos : Pos} {mi : S → M (List CR.D)} {mb : Gt × (A × S) → M (O A A)} {k : A × S → M (O N B)} (f : S → A) (h0 : ∀ c, LeE (ρ' (f c, c)) (ρ c))
    (hi : Ei X W ρ tg iter mi) (hg : Eg X tg gm gs sl) (hb : Ss X W (fun s : Gt × (A × S) => gs s.1 (ρ' s.2)) ⟨G.R, fun s x => ρ' (x, s.2.2), fun s x => ρ' (x, s.2.2)⟩ body mb) (hk : Ss X W ρ' G.up ss k)
    (hcal : p.cal = true := by rfl) (hs : ∀ x, foldedSetIterable iter X.env x = pure x := by intro _; rfl) :
    Ss X W ρ G (.For tg iter body [] pos :: ss) fun c => M.bind (mi c) fun xs => M.bind (forM gm (fun g a => mb (g, (a, c))) xs (f c)) fun o => o.aft fun x => k (x, c) := by
  refine PSs.imp (pss_cons (ps_for g.ps (g.calm hcal) hi hg hb hs) hk) fun D σ H ⟨c, U, T, r, q⟩ => ?_
  refine ⟨c, U, T, r, (mi c).mono (fun items q1 J H1 r1 e1 it lz => ?_) (fun _ z => z.wx) q⟩
  have g1 : Grow T H T H1 := .of e1
  refine for_read (R := G.R) (mb := mb) (D := { D with nx := tS X W ρ' G.up k D }) (fun D σ H z => z) items (f c) H1 (r1.le (h0 c)) (fun i H2 T2 σ2 a r2 g2 => ?_) ?_
  · exact it i H2 _ (g2.bears (U := U) r1)
  · refine M.mono _ (fun o z => ?_) (fun _ z => z.grow r r1 g1 rfl) q1
    exact fin.grow r r1 g1 rfl o (wp_aft (n' := fun j => ρ' (j, c)) (by rfl) (fun j hj T' σ' H' r' g' l' => tS.of (c1 := (j, c)) (G := G.up) r r' g' l' hj fun o z => z) o z)
end
end CR

set_option Elab.async false
set_option linter.all false
set_option maxRecDepth 100000
/-! CR10: freezing, raise, try, defs. -/
namespace CR
open PySem PySem.Spec PyProof.Rows L2
section
variable {X : Cx} {W : WX} {p : Cp} {S : Type} {ρ : S → List Slot} {N B : Type} {G : Sg S N B} {st : Stmt} {ss : List Stmt}
/-- an own list is written no more -/
theorem Rep.freeze {K : PySem.W.Frag} {U T : Addr → Prop} {H : Hp} {ρc : List Slot} {σ : L2.St} {i : Nat} {xs : List CR.D} (r : Rep K U T H ρc σ) (hi : ρc[i]? = some (.ow xs)) : ∃ T', Rep K U T' H (ρc.set i (.pl (.lst xs))) σ ∧ Grow T H T' H := by
  obtain ⟨a, vs, es, ha, ta, rp, hl⟩ := r.ow hi
  have oa : OwnAt ρc σ i a := ⟨_, hi, rfl, es⟩
  have hu : ¬ U a := r.ut a ta
  refine ⟨fun b => T b ∧ b ≠ a, ?_, ⟨fun b o e _ => e, fun b z => .inl z.1⟩⟩
  have bb : Bears H H (fun b => U b ∨ T b) (fun b => U b ∨ (T b ∧ b ≠ a)) := .weak fun b z => z.imp id (·.1)
  have old : ∀ {j : Nat} {x : Addr}, OwnAt (ρc.set i (.pl (.lst xs))) σ j x → j ≠ i ∧ OwnAt ρc σ j x := fun {j x} ⟨t, e, ho, e2⟩ => by
    rcases set_get e with ⟨q, e1, l⟩ | ⟨q, e1⟩
    · subst e1; cases ho
    · exact ⟨q, t, e1, ho, e2⟩
  refine ⟨by rw [List.length_set]; exact r.len, fun j t e => ?_, fun j k x n hj hk => r.ne j k x n (old hj).2 (old hk).2, r.uok, fun b z => r.tok b z.1, fun b z => r.ut b z.1⟩
  rcases set_get e with ⟨q, e1, l⟩ | ⟨q, e1⟩
  · subst q e1
    refine ⟨_, es, .ref a, rfl, a, vs, rfl, .inl ⟨ha, fun z => ?_⟩, Rps.go bb rp, hl⟩
    rcases z with z | z
    · exact hu z
    · exact z.2 rfl
  · obtain ⟨ov, e2, ok⟩ := r.sl j t e1
    refine ⟨ov, e2, ?_⟩
    cases t with
    | un => trivial
    | pl d =>
      obtain ⟨v, e3, h⟩ := ok
      exact ⟨v, e3, h.go bb⟩
    | ow zs =>
      obtain ⟨x, us, rfl, h1, h2, h3, h4⟩ := ok
      have ne : x ≠ a := fun z => by subst z; exact r.ne j i x q ⟨_, e1, rfl, e2⟩ oa
      exact ⟨x, us, rfl, h1, ⟨h2, ne⟩, Rps.go bb h3, h4⟩
    | ab x P =>
      obtain ⟨rfl, us, zs, h1, h2, h3, h4⟩ := ok
      have ne : x ≠ a := fun z => by subst z; exact r.ne j i x q ⟨_, e1, rfl, e2⟩ oa
      exact ⟨rfl, us, zs, h1, ⟨h2, ne⟩, Rps.go bb h3, h4⟩
end
section
variable {X : Cx} {W : WX} {p : Cp} {S : Type} {ρ : S → List Slot} {N B : Type} {G : Sg S N B} {st : Stmt} {ss : List Stmt}
theorem ss_frz (i : Nat) {val : S → List CR.D} (hi : ∀ c, (ρ c)[i]? = some (.ow (val c))) {k : S → M (O N B)} (hk : Ss X W (fun c => (ρ c).set i (.pl (.lst (val c)))) G ss k) : Ss X W ρ G ss k := by
  refine PSs.imp hk fun D σ H ⟨c, U, T, r, q⟩ => ?_
  obtain ⟨T', r', g'⟩ := r.freeze (hi c)
  exact tS.of (ρ := fun c => (ρ c).set i (.pl (.lst (val c)))) r r' g' rfl q fun o z => z

/-! ### raise -/
/-- the class x of the program, made of ValueError -/
structure ErrC (X : Cx) (x : Str) (C : Addr) : Prop where
  gC : X.mg x = some (.ref C)
  q : PySem.W.excIn X.K C He.veBase "ValueError.__new__" = true
  kC : PySem.W.keepIn X.K (.ref C) = true
  sb : PySem.W.subIn X.K (.ref C) (.type "BaseException") = some true
  ty : PySem.W.typeIn X.K (.ref C) = some (.type "type")
theorem ErrC.raises {x : Str} {C : Addr} (h : ErrC X x C) : Raises X (.ref C) := raises_own h.sb h.ty
theorem ss_raise (g : GX X W p) (j : Nat) {x msg : Str} {C : Addr} {n : Nat} {q q2 pos pos' : Pos} (e : ErrC X x C) (hG : p.G[j]? = some x) (hcal : p.cal = true := by rfl) :
    Ss X W ρ G (.Raise (some (.Call (.Name x q) [.Constant (.str msg) n q2] [] pos)) none pos' :: ss) fun _ => M.raise x := by
  refine PSs.imp (pss_cons (ps_raise (g.calm hcal) g.tk (pmk_own PySem.F.excBase_ValueError e.q e.gC e.kC e.raises (g.gl hG) (g.ck.gl hG).2.1)) pss_never) fun D σ H ⟨c, U, T, r, q⟩ => ?_
  exact q (.ref C) T σ H e.gC (.of (.refl _ _)) r.tok rfl
end
/-! ### try -/
namespace M
def tryM {α : Type} (m : M α) (h : Str → M α) : M α := ⟨fun Q E => m.wp Q fun x => (h x).wp Q E, fun f g q => m.mono f (fun x z => (h x).mono f g z) q⟩
end M
/-- nothing known -/
def uns (n : Nat) : List Slot := List.replicate n .un
theorem rep_uns {K : PySem.W.Frag} {U T : Addr → Prop} {H : Hp} {σ : L2.St} {n : Nat} (l : σ.length = n) (hu : ∀ a, U a → (H a).isSome = true) (ht : ∀ a, T a → ∃ vs, H a = some (.lst vs)) (ut : ∀ a, T a → ¬ U a) : Rep K U T H (uns n) σ := by
  have un : ∀ {i : Nat} {s : Slot}, (uns n)[i]? = some s → s = .un := fun {i s} e => by
    unfold uns at e
    rw [List.getElem?_replicate] at e
    split at e
    · exact (Option.some.inj e).symm
    · cases e
  refine ⟨by unfold uns; rw [List.length_replicate]; exact l, fun i s e => ?_, fun i j a _ ⟨s, e, ho, _⟩ => (by rw [un e] at ho; cases ho), hu, ht, ut⟩
  have hs := un e
  subst hs
  have hi : i < σ.length := by
    have := (List.getElem?_eq_some_iff.mp e).1
    unfold uns at this
    rw [List.length_replicate] at this
    omega
  exact ⟨σ[i], by simp [hi], trivial⟩
section
variable {X : Cx} {W : WX} {p : Cp} {S : Type} {ρ : S → List Slot} {N B : Type} {G : Sg S N B} {st : Stmt} {ss : List Stmt}
theorem GX.tr (g : GX X W p) {W' : WX} {pn : List (Addr × Obj)} {xe : Value → Shared → Prop} (tk : Takes (X.tr pn xe) W') (ps : PassesOwn (model X.prog X.w) X.A X.env xe) : GX (X.tr pn xe) W' p :=
  ⟨g.eN, g.esc, g.ck, g.calm, tk, ps, g.hu, g.fn, g.blt⟩
/-- the except suite's context -/
def Cp.su (p : Cp) : Cp := ⟨p.N, p.sc, p.vis, p.loc, p.isl, p.G, false⟩
theorem GX.su (g : GX X W p) {a : Addr} {pn : List (Addr × Obj)} (hu : (X.suite a pn).A.units + 65 < cLine) : GX (X.suite a pn) WF p.su :=
  ⟨g.eN, g.esc, ⟨g.ck.nd, g.ck.vis, g.ck.loc, g.ck.isl, g.ck.gl⟩, fun z => (by cases z), takes0, PassesOwn.never, hu, g.fn, g.blt⟩
/-- the body, what an error gives, what follows -/
def tryE {N B : Type} (b : M (O Unit Empty)) (hd : Str → Option CR.D) (k : M (O N B)) : M (O N B) := ⟨fun Q E => b.wp (fun o => match o with
    | .nx _ => k.wp Q E
    | .rt d => Q (.rt d)
    | .rl xs => Q (.rl xs)
    | .bk e => e.elim
    | .ct e => e.elim) fun y => ∃ d, hd y = some d ∧ Q (.rt d), fun f g q => b.mono (fun o z => by
      cases o with
      | nx u => exact k.mono f g z
      | rt d => exact f _ z
      | rl xs => exact f _ z
      | bk e => exact e.elim
      | ct e => exact e.elim) (fun y ⟨d, e, z⟩ => ⟨d, e, f _ z⟩) q⟩
structure TopX (X : Cx) : Prop where
  stk : X.stack = X.env :: X.outer
  frm : X.env.frame = some X.env.locals
/-- try: body / except Err as n: suite that returns; rest -/
theorem ss_try (g : GX X W p) (tx : TopX X) (i : Nat) {x n : Str} {c : Value} {np pos pos' : Pos} {body suite : List Stmt} {b₀ : Stmt} {mb : S → M (O Unit Empty)} {hd : Str → Option CR.D} {k : S → M (O N B)}
    (hN : p.N[i]? = some n) (hln : p.isl.contains i = true) (hc : Names X x c) (hR : G.R = uns p.N.length) (hl : ∀ c, (ρ c).length = p.N.length) (hexm : ∀ (y : Str) (cls : Value) (d : CR.D), X.mg y = some cls → hd y = some d → PySem.W.exmOne X.K cls c = some true)
    (hb : ∀ (W' : WX) (X' : Cx), X'.K = X.K → X'.mg = X.mg → GX X' W' p → Ss X' W' ρ ⟨G.R, fun c (_ : Unit) => ρ c, fun _ (e : Empty) => e.elim⟩ body mb)
    (hsu : ∀ (a : Addr) (oe : Obj) (pn : List (Addr × Obj)) (y : Str) (cls : Value) (d : CR.D), X.mg y = some cls → hd y = some d → Zc cls none oe → (∃ vs, oe.data = .fields vs) → GX (X.suite a ((a, oe) :: pn)) WF p.su →
      Ss (X.suite a ((a, oe) :: pn)) WF (fun _ : Unit => uns p.N.length) ⟨uns p.N.length, fun _ (e : Empty) => e.elim, fun _ (e : Empty) => e.elim⟩ (b₀ :: suite) fun _ => M.pure (.rt d))
    (hk : Ss X W ρ G ss k) :
    Ss X W ρ G (.Try body [.ExceptHandler (some (.Name x np)) (some n) (b₀ :: suite) pos'] [] [] pos :: ss) fun c => tryE (mb c) hd (k c) := by
  let ts : Addr → Value → Option Addr → TS := fun a cls d D σ H => ∃ y dd, X.mg y = some cls ∧ d = none ∧ hd y = some dd ∧ PySem.W.exmOne X.K cls c = some true ∧
    tS X WF (fun _ : Unit => uns p.N.length) ⟨uns p.N.length, fun _ (e : Empty) => e.elim, fun _ (e : Empty) => e.elim⟩ (fun _ => (M.pure (.rt dd) : M (O Empty Empty))) D σ H
  refine PSs.imp (pss_cons (ps_try_as (tb := fun W' => tS X W' ρ ⟨G.R, fun c (_ : Unit) => ρ c, fun _ (e : Empty) => e.elim⟩ mb) (ts := ts) (i := i) tx.stk tx.frm g.nd (g.n hN) (g.isl hN hln) hc g.tk ?_ ?_) hk) fun D σ H ⟨c, U, T, r, q⟩ => ?_
  · intro W' pn xe tk ps
    exact hb W' (X.tr pn xe) rfl rfl (g.tr tk ps)
  · intro a oe cls d pn hz hv
    refine ⟨fun pins s σ H D I ⟨y, dd, hm, hd0, hy, hx, q⟩ => ?_⟩
    subst hd0
    exact (hsu a oe pn y cls dd hm hy hz hv (g.su g.hu)).run pins s σ H D I q
  · refine ⟨c, U, T, r, (mb c).mono (fun o z => ?_) (fun y ⟨d, ey, z⟩ cls T' σ' H' hm g' tk' l' => ?_) q⟩
    · cases o with
      | nx u => exact fun T' σ' H' r' g' l' => tS.of (c1 := c) r r' g' l' z fun o z => z
      | rt d => exact z
      | rl xs => exact z
      | bk e => exact e.elim
      | ct e => exact e.elim
    · have hx := hexm y cls d hm ey
      refine ⟨true, hx, fun _ a ha => ⟨y, d, hm, rfl, ey, hx, ?_⟩, fun z => by cases z⟩
      refine ⟨(), U, T', rep_uns (by rw [List.length_set, l', r.len, hl]) (fun a u => ?_) tk' (fun a t u => ?_), ?_⟩
      · obtain ⟨o, e⟩ := Option.isSome_iff_exists.mp (r.uok a u)
        rw [g'.ext a o e fun t => r.ut a t u]
        rfl
      · rcases g'.nw a t with t | e
        · exact r.ut a t u
        · have e2 := r.uok a u
          rw [e] at e2; cases e2
      intro T2 v σ2 H2 r2 p2 g2
      have z' : ∀ T' v σ' H', Rep X.K U T' H' G.R σ' → Rp X.K H' (fun a => U a ∨ T' a) d v → Grow T H T' H' → D.rt v H' := z
      exact z' T2 v σ2 H2 (by rw [hR]; exact r2) p2 (g'.trans r g2 tk')

/-! ### defs -/
end
/-- what a def's context tells -/
structure DefX (P : Program) (w : World) (K : PySem.W.Frag) (mg : Str → Option Value) (base : Heap) (k : Nat) (X : Cx) : Prop where
  prog : X.prog = P
  w : X.w = w
  K : X.K = K
  mg : X.mg = mg
  base : X.base = base
  room : Room k X.A
  top : TopX X
section
variable {P : Program} {w : World} {K : PySem.W.Frag} {mg : Str → Option Value} {base : Heap} {x qual : Str} {params : Arguments} {body : List Stmt} {scope : Scope} {f : Addr} {fd : FuncData}
theorem gx_def {p : Cp} {k : Nat} {cdv : Value} {A : Around} {outer : List Env} {s : Shared} {H : Hp} {E : XK} (hb : Blt mg) (hN : p.sc = scope) (ck : ckB p = true) (hr : Room k (A.deeper (envOfC qual scope s.heap.objs.size f cdv))) :
    GX (cxOf (L2.CX P w) P w K mg base p.N qual scope f cdv A outer s H E) (fun cls d _ H => E cls d H) p ∧ DefX P w K mg base k (cxOf (L2.CX P w) P w K mg base p.N qual scope f cdv A outer s H E) := by
  refine ⟨⟨rfl, hN.symm, Ck.of ck, fun _ => rfl, takes_of rfl rfl rfl rfl, passes_of rfl, ?_, fun _ _ => .inl rfl, hb⟩, ⟨rfl, rfl, rfl, rfl, rfl, hr, ⟨rfl, rfl⟩⟩⟩
  have := hr.un
  show (A.deeper (envOfC qual scope s.heap.objs.size f cdv)).units + 65 < cLine
  omega
/-- arguments in order, then nothing -/
def argS (n : Nat) (ds : List CR.D) : List Slot := ds.map Slot.pl ++ List.replicate (n - ds.length) .un
theorem rep_start {Z : Addr → Prop} {H : Hp} {N : List Str} {ds : List CR.D} {vs : List V} (hz : ∀ a, Z a → (H a).isSome = true) (h : Rps K H Z ds vs) (hl : ds.length ≤ N.length) : Rep K Z (fun _ => False) H (argS N.length ds) (L2.start N vs) := by
  have e : vs.length = ds.length := rps_len h
  have he : (fun a => Z a ∨ False) = Z := funext fun a => by simp
  have nown : ∀ {i : Nat} {s : Slot}, (argS N.length ds)[i]? = some s → s.own = false := fun {i s} q => by
    unfold argS at q
    rw [List.getElem?_append] at q
    split at q
    · rw [List.getElem?_map] at q
      obtain ⟨d, _, rfl⟩ := Option.map_eq_some_iff.mp q
      rfl
    · rw [List.getElem?_replicate] at q
      split at q
      · cases q; rfl
      · cases q
  refine ⟨?_, fun i s q => ?_, fun i j a _ ⟨s, q, ho, _⟩ => (by rw [nown q] at ho; cases ho), hz, fun _ z => z.elim, fun _ z => z.elim⟩
  · unfold argS L2.start
    simp [e]
  · unfold argS at q
    unfold L2.start
    rw [List.getElem?_append] at q ⊢
    rw [List.length_map] at q ⊢
    rw [e]
    split at q
    · rename_i hi
      rw [List.getElem?_map] at q ⊢
      obtain ⟨d, hd, rfl⟩ := Option.map_eq_some_iff.mp q
      obtain ⟨v, hv, rp⟩ := rps_get h hd
      rw [if_pos hi, hv]
      exact ⟨some v, rfl, v, rfl, by rw [he]; exact rp⟩
    · rename_i hi
      rw [if_neg hi]
      rw [List.getElem?_replicate] at q ⊢
      split at q
      · rename_i h2
        cases q
        rw [if_pos h2]
        exact ⟨none, rfl, trivial⟩
      · cases q
/-- the ends of a def -/
def endD : O Empty Empty → CR.D → Prop
  | .rt d, e => e = d
  | _, _ => False
def retD {B : Type} : O Unit B → M CR.D
  | .rt d => M.pure d
  | .nx _ => M.pure .non
  | .rl xs => M.pure (.lst xs)
  | _ => M.stuck
def retL {B : Type} : O Unit B → M (List CR.D)
  | .rl xs => M.pure xs
  | _ => M.stuck
theorem zWeak {Z T : Addr → Prop} {H : Hp} {d : CR.D} {v : V} (h : Rp K H (fun a => Z a ∨ T a) d v) : Rp K H Z d v := h.go (.weak fun _ z => .inl z)
/-- a def that gives a datum -/
theorem fnD {S : Type} {p : Cp} {ps : List Str} {k n : Nat} {F : List CR.D → M CR.D} {ρ : S → List Slot} {m : S → M (O Unit Empty)} (Fd : FunD K x qual params body scope [] [] f fd) (fs : FnScope p.N ps scope) (hb : Blt mg) (hsc : p.sc = scope) (ck : ckB p = true) (hn : ps.length = n) (hnl : n ≤ p.N.length)
    (mk : ∀ ds : List CR.D, ds.length = n → ∃ c, ρ c = argS p.N.length ds ∧ F ds = M.bind (m c) retD)
    (hbody : ∀ (X : Cx) (W : WX), GX X W p → DefX P w K mg base k X → Ss X W ρ ⟨uns p.N.length, fun _ (_ : Unit) => uns p.N.length, fun _ (e : Empty) => e.elim⟩ body m) :
    FnOk P w K mg base (L2.CX P w) (k + 1) f fd ps (SpD K mg n F) := by
  refine Fd.ok fs (fun vs H Q E ⟨ds, Z, hz, rp, l, _⟩ => ?_) fun cdv A outer s H vs Q E hr ⟨ds, Z, hz, rp, l, q⟩ => ?_
  · rw [rps_len rp, l, hn]
  obtain ⟨gx, dx⟩ := gx_def (P := P) (w := w) (K := K) (base := base) (outer := outer) (H := H) (E := E) hb hsc ck hr
  refine ⟨_, hbody _ _ gx dx, ?_⟩
  obtain ⟨c, hc, hF⟩ := mk ds l
  rw [hF] at q
  refine ⟨c, Z, fun _ => False, by rw [hc]; exact rep_start hz rp (by rw [l]; exact hnl), (m c).mono (fun o z => ?_) (fun y z cls T' σ' H' hm g' tk' l' => ?_) q⟩
  · have same : ∀ {T' : Addr → Prop} {H' : Hp}, Grow (fun _ => False) H T' H' → Same H H' := fun g b o e => g.ext b o e id
    cases o with
    | nx u => exact fun T' σ' H' r' g' l' => (show ∀ v H', Same H H' → Rp K H' Z .non v → Q v H' from z) .non H' (same g') rfl
    | rt d => exact fun T' v σ' H' r' p' g' => (show ∀ v H', Same H H' → Rp K H' Z d v → Q v H' from z) v H' (same g') (zWeak p')
    | rl xs =>
      intro T' a vs' σ' H' r' ta na ha p' hl g'
      refine (show ∀ v H', Same H H' → Rp K H' Z (.lst xs) v → Q v H' from z) (.ref a) H' (same g') ⟨a, vs', rfl, .inl ⟨ha, fun za => ?_⟩, Rps.go (.weak fun _ z => .inl z) p', hl⟩
      exact r'.ut a ta za
    | bk e => exact e.elim
    | ct e => exact e.elim
  · exact (show ∀ cls H', mg y = some cls → Same H H' → E cls none H' from z) cls H' hm fun b o e => g'.ext b o e id
/-- a def that gives a new list -/
theorem fnL {S : Type} {p : Cp} {ps : List Str} {k n : Nat} {F : List CR.D → M (List CR.D)} {ρ : S → List Slot} {m : S → M (O Unit Empty)} (Fd : FunD K x qual params body scope [] [] f fd) (fs : FnScope p.N ps scope) (hb : Blt mg) (hsc : p.sc = scope) (ck : ckB p = true) (hn : ps.length = n) (hnl : n ≤ p.N.length)
    (mk : ∀ ds : List CR.D, ds.length = n → ∃ c, ρ c = argS p.N.length ds ∧ F ds = M.bind (m c) retL)
    (hbody : ∀ (X : Cx) (W : WX), GX X W p → DefX P w K mg base k X → Ss X W ρ ⟨uns p.N.length, fun _ (_ : Unit) => uns p.N.length, fun _ (e : Empty) => e.elim⟩ body m) :
    FnOk P w K mg base (L2.CX P w) (k + 1) f fd ps (SpL K mg n F) := by
  refine Fd.ok fs (fun vs H Q E ⟨ds, Z, hz, rp, l, _⟩ => ?_) fun cdv A outer s H vs Q E hr ⟨ds, Z, hz, rp, l, q⟩ => ?_
  · rw [rps_len rp, l, hn]
  obtain ⟨gx, dx⟩ := gx_def (P := P) (w := w) (K := K) (base := base) (outer := outer) (H := H) (E := E) hb hsc ck hr
  refine ⟨_, hbody _ _ gx dx, ?_⟩
  obtain ⟨c, hc, hF⟩ := mk ds l
  rw [hF] at q
  refine ⟨c, Z, fun _ => False, by rw [hc]; exact rep_start hz rp (by rw [l]; exact hnl), (m c).mono (fun o z => ?_) (fun y z cls T' σ' H' hm g' tk' l' => ?_) q⟩
  · cases o with
    | nx u => exact False.elim z
    | rt d => exact False.elim z
    | rl xs =>
      intro T' a vs' σ' H' r' ta na ha p' hl g'
      have hn : H a = none := by
        rcases g'.nw a ta with z | z
        · exact z.elim
        · exact z
      exact (show ∀ a ws H', H a = none → Same H H' → H' a = some (.lst ws) → Rps K H' (fun b => Z b ∨ b = a) xs ws → xs.length ≤ sizeLine → Q (.ref a) H' from z) a vs' H' hn (fun b o e => g'.ext b o e id) ha
        (Rps.go (.weak fun b z => z.imp id fun z => by rw [z]; exact ta) p') hl
    | bk e => exact e.elim
    | ct e => exact e.elim
  · exact (show ∀ cls H', mg y = some cls → Same H H' → E cls none H' from z) cls H' hm fun b o e => g'.ext b o e id
end
end CR
namespace CR
open PySem PySem.Spec PyProof.Rows L2
section
variable {X : Cx} {W : WX} {p : Cp} {S : Type} {ρ : S → List Slot} {N B : Type} {G : Sg S N B} {st : Stmt} {ss : List Stmt}
theorem ss_ifu {A : Type} (u : A → List Slot → List Slot) {t : Expr} {a b : List Stmt} {pos : Pos} {mt : S → M Bool} {ma mb : S → M (O A B)} {k : A × S → M (O N B)} (ht : Et X W ρ t mt) (ha : Ss X W ρ ⟨G.R, fun c x => u x (ρ c), G.b⟩ a ma) (hb : Ss X W ρ ⟨G.R, fun c x => u x (ρ c), G.b⟩ b mb) (hk : Ss X W (fun s : A × S => u s.1 (ρ s.2)) G.up ss k) :
    Ss X W ρ G (.If t a b pos :: ss) fun c => M.bind (mt c) fun b => M.bind (M.ite b (ma c) (mb c)) fun o => o.nxt fun x => k (x, c) := ss_ifj (ρ' := fun s : A × S => u s.1 (ρ s.2)) ht ha hb hk
theorem ss_whu {A : Type} (g : GX X W p) (u : A → List Slot → List Slot) (f : S → A) (h0 : ∀ c, LeE (u (f c) (ρ c)) (ρ c)) {t : Expr} {body : List Stmt} {pos : Pos} {mt : A × S → M Bool} {mb : A × S → M (O A A)} {k : A × S → M (O N B)} (ht : Et X W (fun s : A × S => u s.1 (ρ s.2)) t mt)
    (hb : Ss X W (fun s : A × S => u s.1 (ρ s.2)) ⟨G.R, fun s x => u x (ρ s.2), fun s x => u x (ρ s.2)⟩ body mb) (hk : Ss X W (fun s : A × S => u s.1 (ρ s.2)) G.up ss k) :
    Ss X W ρ G (.While t body [] pos :: ss) fun c => M.bind (whileM (fun a => mt (a, c)) (fun a => mb (a, c)) (f c)) fun o => o.aft fun x => k (x, c) := ss_while (ρ' := fun s : A × S => u s.1 (ρ s.2)) g f h0 ht hb hk
theorem ss_fou {A Gt : Type} (g : GX X W p) (u : A → List Slot → List Slot) (f : S → A) (h0 : ∀ c, LeE (u (f c) (ρ c)) (ρ c)) {gm : CR.D → Option Gt} {gs : Gt → List Slot → List Slot} {sl : List Nat} {tg iter : Expr} {body : List Stmt} {pos : Pos} {mi : S → M (List CR.D)} {mb : Gt × (A × S) → M (O A A)} {k : A × S → M (O N B)}
    (hi : Ei X W ρ tg iter mi) (hg : Eg X tg gm gs sl) (hb : Ss X W (fun s : Gt × (A × S) => gs s.1 (u s.2.1 (ρ s.2.2))) ⟨G.R, fun s x => u x (ρ s.2.2), fun s x => u x (ρ s.2.2)⟩ body mb) (hk : Ss X W (fun s : A × S => u s.1 (ρ s.2)) G.up ss k)
    (hcal : p.cal = true := by rfl) (hs : ∀ x, foldedSetIterable iter X.env x = pure x := by intro _; rfl) :
    Ss X W ρ G (.For tg iter body [] pos :: ss) fun c => M.bind (mi c) fun xs => M.bind (forM gm (fun g a => mb (g, (a, c))) xs (f c)) fun o => o.aft fun x => k (x, c) := ss_for (ρ' := fun s : A × S => u s.1 (ρ s.2)) g f h0 hi hg hb hk hcal hs
end
theorem sw_of {env : Env} {sc : Scope} (h : env.scope = sc) {ts : List Expr} {v : Expr} {r : Sem (Option (List Str))} (k : swappedStores ts v { env with scope := sc } = r) : swappedStores ts v env = r := by
  cases env
  cases h
  exact k
theorem sww_of {env : Env} {sc : Scope} (h : env.scope = sc) {v : Expr} {t : Option Expr} {l : Nat} {r : Sem Bool} (k : swapsWith v t l { env with scope := sc } = r) : swapsWith v t l env = r := by
  cases env
  cases h
  exact k
theorem callF_mk {P : Program} {w : World} {K : PySem.W.Frag} {mg : Str → Option Value} {base : Heap} {x qual : Str} {params : Arguments} {body : List Stmt} {scope : Scope} {f : Addr} {fd : FuncData} {k : Nat} {ps : List Str} {sp : L2.Sp} (F : FunD K x qual params body scope [] [] f fd) (ok : FnOk P w K mg base (L2.CX P w) k f fd ps sp) (hm : mg x = some (.ref f))
    (h : ∀ (kV doc pm : Value) (an : Option Addr) (cdv ct : Value) (us : List Value), us.length = ps.length → bindArgs (PySem.W.fnOf x qual params body scope .none kV doc pm an cdv ct) ⟨us, []⟩ = pure (ps.zip us)) : CallF P w K mg base x k sp :=
  ⟨⟨f, fd, ps, ok, hm, F.kp, F.bindsN h⟩⟩
end CR

set_option Elab.async false
set_option linter.all false
set_option maxRecDepth 100000
/-! CR11: enumerate, zip, list(range), index, slices with a step. -/
namespace CR
open PySem PySem.Spec PyProof.Rows L2
section
variable {X : Cx} {W : WX} {p : Cp} {S : Type} {ρ : S → List Slot}
/-! ### enumerate, zip -/
def enumL : Nat → List CR.D → List CR.D
  | _, [] => []
  | n, x :: xs => .tup [.int (n : Int), x] :: enumL (n + 1) xs
def enumD : CR.D → Option (List CR.D)
  | .lst xs => some (enumL 0 xs)
  | _ => none
theorem enumL_len : ∀ (n : Nat) (xs : List CR.D), (enumL n xs).length = xs.length
  | _, [] => rfl
  | n, x :: xs => congrArg (· + 1) (enumL_len (n + 1) xs)
theorem enumL_get : ∀ (n : Nat) (xs : List CR.D) (i : Nat) (d : CR.D), xs[i]? = some d → (enumL n xs)[i]? = some (.tup [.int ((n + i : Nat) : Int), d])
  | _, [], _, _, h => by simp at h
  | n, x :: xs, 0, d, h => by
    simp at h
    subst h
    rfl
  | n, x :: xs, i + 1, d, h => by
    have := enumL_get (n + 1) xs i d (by simpa using h)
    show (enumL (n + 1) xs)[i]? = _
    rw [this]
    congr 4
    omega
theorem rp_new_tup2 {K : PySem.W.Frag} {H : Hp} {Z : Addr → Prop} {T : Addr} {a b : CR.D} {x y : V} (hT : H T = none) (h1 : Rp K H Z a x) (h2 : Rp K H Z b y) : Rp K (upd H T (.tup [x, y])) Z (.tup [a, b]) (.ref T) := by
  have b0 : Bears H (upd H T (.tup [x, y])) Z Z := .same (same_new hT) fun _ z => z
  exact ⟨T, [x, y], rfl, .inl (.inl upd_same), ⟨x, [y], rfl, h1.go b0, y, [], rfl, h2.go b0, rfl⟩, (by decide : 2 ≤ sizeLine)⟩
theorem itok_enum {K : PySem.W.Frag} {H0 : Hp} {Z : Addr → Prop} {a : Addr} {vs : List V} {ds : List CR.D} (h : FzL K H0 Z a vs) (r : Rps K H0 Z ds vs) : ItOk K Z H0 (Ite K a) (enumL 0 ds) := fun i H Z' b => by
  have h' := (h.go b).sq
  have r' := Rps.go b r
  rw [enumL_len]
  refine ⟨fun hi => ?_, fun hi => ⟨vs, h', by rw [rps_len r']; exact hi⟩⟩
  obtain ⟨d, hd⟩ : ∃ d, ds[i]? = some d := ⟨ds[i], by simp [hi]⟩
  obtain ⟨v, hv, rp⟩ := rps_get r' hd
  refine ⟨⟨vs, v, h', hv⟩, fun x H' ⟨T, y, ex, hT, eH, hy⟩ => ?_⟩
  subst ex eH
  have ev := hy vs h'
  rw [hv] at ev
  cases ev
  refine ⟨same_new hT, _, enumL_get 0 ds i d hd, rp_new_tup2 hT ?_ rp⟩
  show V.int _ = V.int _
  rw [Nat.zero_add]
theorem ei_enum (g : GX X W p) (j : Nat) {e : Expr} {q pos tpos : Pos} {elts : List Expr} {kk : Nat} {m : S → M CR.D} (hG : p.G[j]? = some "enumerate") (h : Ee X W ρ e m) (hs : starEach [e] X.env = [(false, eval e X.env)] := by rfl) :
    Ei X W ρ (.Tuple elts kk tpos) (.Call (.Name "enumerate" q) [e] [] pos) fun c => M.bind (m c) fun d => M.opt (enumD d) := by
  refine PI.imp (pi_enum (g.gl hG) (g.blt.of (by decide +kernel)) (pa_cons h pa_nil hs) hs) fun σ H R ⟨c, U, T, r, q⟩ => ?_
  refine ⟨c, U, T, r, (m c).mono (fun d1 q1 v1 H1 r1 p1 e1 => ?_) (fun _ z => z) q⟩
  obtain ⟨ds, hd, q3⟩ := opt_wp q1
  cases d1 <;> first | cases hd | skip
  rename_i xs
  obtain ⟨a, vs, rfl, k, h1, l⟩ := (show ∃ a vs, v1 = V.ref a ∧ FzL X.K H1 (fun a => U a ∨ T a) a vs ∧ Rps X.K H1 (fun a => U a ∨ T a) xs vs ∧ xs.length ≤ sizeLine from p1)
  exact ⟨a, vs, rfl, k.sq, q3 _ H1 r1 e1 (itok_enum k h1) (by rw [enumL_len]; exact l)⟩
def zipL : List CR.D → List CR.D → List CR.D
  | x :: xs, y :: ys => .tup [x, y] :: zipL xs ys
  | _, _ => []
def zipD : CR.D → CR.D → Option (List CR.D)
  | .lst xs, .lst ys => some (zipL xs ys)
  | .tup xs, .tup ys => some (zipL xs ys)
  | _, _ => none
theorem zipL_len : ∀ (xs ys : List CR.D), (zipL xs ys).length = min xs.length ys.length
  | [], ys => by simp [zipL]
  | x :: xs, [] => by simp [zipL]
  | x :: xs, y :: ys => by simp [zipL, zipL_len xs ys, Nat.succ_min_succ]
theorem zipL_get : ∀ (xs ys : List CR.D) (i : Nat) (d e : CR.D), xs[i]? = some d → ys[i]? = some e → (zipL xs ys)[i]? = some (.tup [d, e])
  | [], _, _, _, _, h, _ => by simp at h
  | _ :: _, [], _, _, _, _, h => by simp at h
  | x :: xs, y :: ys, 0, d, e, h, k => by
    simp at h k
    subst h k
    rfl
  | x :: xs, y :: ys, i + 1, d, e, h, k => zipL_get xs ys i d e (by simpa using h) (by simpa using k)
/-! ### list(range(..)) -/
theorem rg_eq (a b : Int) : rgV a b = (rangeL a (b - a).toNat).map fun d => match d with
    | .int i => V.int i
    | _ => V.non := by
  unfold rgV rangeL
  rw [List.map_map]
  rfl
theorem rps_rng {K : PySem.W.Frag} {H : Hp} {Z : Addr → Prop} : ∀ (ns : List Int), Rps K H Z (ns.map CR.D.int) (ns.map V.int)
  | [] => rfl
  | n :: ns => ⟨.int n, _, rfl, rfl, rps_rng ns⟩
theorem rps_rg {K : PySem.W.Frag} {H : Hp} {Z : Addr → Prop} (a b : Int) : Rps K H Z (rangeL a (b - a).toNat) (rgV a b) := by
  have e1 : rangeL a (b - a).toNat = ((List.range (b - a).toNat).map fun i => a + (i : Nat)).map CR.D.int := by
    unfold rangeL
    rw [List.map_map]
    rfl
  have e2 : rgV a b = ((List.range (b - a).toNat).map fun i => a + (i : Nat)).map V.int := by
    unfold rgV
    rw [List.map_map]
    rfl
  rw [e1, e2]
  exact rps_rng _
theorem el_range2 (g : GX X W p) (j k : Nat) {a b : Expr} {q q2 pos pos2 : Pos} {m n : S → M CR.D} (hG : p.G[j]? = some "list") (hG2 : p.G[k]? = some "range") (h : Ee X W ρ a m) (h2 : Ee X W ρ b n) (hcal : p.cal = true := by rfl)
    (na : starEach [.Call (.Name "range" q2) [a, b] [] pos2] X.env = (false, eval (.Call (.Name "range" q2) [a, b] [] pos2) X.env) :: starEach [] X.env := by rfl)
    (hs : starEach [a, b] X.env = (false, eval a X.env) :: starEach [b] X.env := by rfl) (hs2 : starEach [b] X.env = (false, eval b X.env) :: starEach [] X.env := by rfl) (hp : (backTo pos2 (starEach [b] X.env)).any (·.1) = false := by rfl) :
    El X W ρ (.Call (.Name "list" q) [.Call (.Name "range" q2) [a, b] [] pos2] [] pos) fun c => M.bind (m c) fun d => M.bind (n c) fun e => M.opt (rngM d e) := by
  refine PE.imp (pe_listRg (g.calm hcal) (g.gl hG) (g.blt.of b_list) (prg_2 (g.gl hG2) (g.blt.of b_range) h h2 hs hs2 hp) na) fun σ H Q ⟨c, U, T, r, q⟩ => ?_
  refine ⟨c, U, T, r, (m c).mono (fun d1 q1 v1 H1 r1 p1 e1 => ?_) (fun _ z => z) q⟩
  refine ⟨c, U, T, r1, (n c).mono (fun d2 q2 v2 H2 r2 p2 e2 => ?_) (fun _ z => wx.ext e1 z) q1⟩
  obtain ⟨ds, hd, q3⟩ := opt_wp q2
  obtain ⟨a, b, rfl, rfl, k, rfl⟩ := rngM_some hd
  have ev : v1 = .int a := p1
  have ew : v2 = .int b := p2
  have e := e1.trans1 e2
  refine ⟨a, b, ev, ew, ⟨k.1, k.2.1, k.2.2.1, k.2.2.2.1, k.2.2.2.2⟩, fun x hx => ?_⟩
  exact q3 x _ _ (new_none r2 e hx) (r2.newS (same_new hx) hx (by rw [upd_same]; rfl)) upd_same (Rps.go (.new hx fun b z => z) (rps_rg a b)) (by rw [len_rng]; exact k.2.2.2.2) (Same.ext1 e (same_new hx))
theorem el_range1 (g : GX X W p) (j k : Nat) {a : Expr} {q q2 pos pos2 : Pos} {m : S → M CR.D} (hG : p.G[j]? = some "list") (hG2 : p.G[k]? = some "range") (h : Ee X W ρ a m) (hcal : p.cal = true := by rfl)
    (na : starEach [.Call (.Name "range" q2) [a] [] pos2] X.env = (false, eval (.Call (.Name "range" q2) [a] [] pos2) X.env) :: starEach [] X.env := by rfl)
    (hs : starEach [a] X.env = (false, eval a X.env) :: starEach [] X.env := by rfl) :
    El X W ρ (.Call (.Name "list" q) [.Call (.Name "range" q2) [a] [] pos2] [] pos) fun c => M.bind (m c) fun d => M.opt (rngM (.int 0) d) := by
  refine PE.imp (pe_listRg (g.calm hcal) (g.gl hG) (g.blt.of b_list) (prg_1 (g.gl hG2) (g.blt.of b_range) h hs) na) fun σ H Q ⟨c, U, T, r, q⟩ => ?_
  refine ⟨c, U, T, r, (m c).mono (fun d1 q1 v1 H1 r1 p1 e1 => ?_) (fun _ z => z) q⟩
  obtain ⟨ds, hd, q3⟩ := opt_wp q1
  obtain ⟨a, b, ha, rfl, k, rfl⟩ := rngM_some hd
  cases ha
  have ev : v1 = .int b := p1
  refine ⟨b, ev, ⟨k.1, k.2.1, k.2.2.1, k.2.2.2.1, k.2.2.2.2⟩, fun x hx => ?_⟩
  exact q3 x _ _ (new_none r1 e1 hx) (r1.newS (same_new hx) hx (by rw [upd_same]; rfl)) upd_same (Rps.go (.new hx fun b z => z) (rps_rg 0 b)) (by rw [len_rng]; exact k.2.2.2.2) (Same.ext1 e1 (same_new hx))
/-! ### list.index, flat items -/
def flV : CR.D → Option V
  | .non => some .non
  | .bl b => some (.bl b)
  | .int i => some (.int i)
  | .str x => some (.str x)
  | _ => none
def flVs : List CR.D → Option (List V)
  | [] => some []
  | d :: ds => (flV d).bind fun v => (flVs ds).map fun vs => v :: vs
theorem flV_rp {K : PySem.W.Frag} {H : Hp} {Z : Addr → Prop} {d : CR.D} {v w : V} (h : Rp K H Z d v) (e : flV d = some w) : v = w ∧ flatV v = true := by
  cases d <;> first | cases e | skip
  · exact ⟨h, by rw [show v = V.non from h]; rfl⟩
  · exact ⟨h, by rw [show v = V.bl _ from h]; rfl⟩
  · exact ⟨h, by rw [show v = V.int _ from h]; rfl⟩
  · exact ⟨h.1, by rw [h.1]; rfl⟩
theorem flVs_rps {K : PySem.W.Frag} {H : Hp} {Z : Addr → Prop} : ∀ {ds : List CR.D} {vs ws : List V}, Rps K H Z ds vs → flVs ds = some ws → vs = ws ∧ vs.all flatV = true
  | [], vs, ws, r, e => by
    cases e
    have e' : vs = [] := r
    subst e'
    exact ⟨rfl, rfl⟩
  | d :: ds, vs, ws, r, e => by
    obtain ⟨v, t, rfl, h1, h2⟩ := (show ∃ v t, vs = v :: t ∧ Rp K H Z d v ∧ Rps K H Z ds t from r)
    obtain ⟨w, e1, e2⟩ := Option.bind_eq_some_iff.mp (show (flV d).bind (fun v => (flVs ds).map fun vs => v :: vs) = some ws from e)
    obtain ⟨us, e3, rfl⟩ := Option.map_eq_some_iff.mp e2
    obtain ⟨a1, a2⟩ := flV_rp h1 e1
    obtain ⟨b1, b2⟩ := flVs_rps h2 e3
    subst a1 b1
    exact ⟨rfl, by rw [List.all_cons, a2, b2]; rfl⟩
def lstD : CR.D → Option (List CR.D)
  | .lst xs => some xs
  | _ => none
def indexL (xs : List CR.D) (d : CR.D) : Option CR.D := (flV d).bind fun v => (flVs xs).bind fun vs => (vs.findIdx? fun z => eqV z v).map fun (j : Nat) => .int (j : Int)
theorem ee_index (g : GX X W p) {e a : Expr} {apos cpos : Pos} {me ma : S → M CR.D} (he : Er X W ρ e me) (ha : Ee X W ρ a ma)
    (hbase : attributeBase e "index" X.env (eval e X.env) = eval e X.env := by rfl)
    (hfew : ((backTo cpos (starEach [a] X.env)).all (fun x => !x.1) && (backToKw cpos (keywordEach [] X.env)).all (fun x => x.1.isSome) && decide (([a] : List Expr).length + ([] : List Keyword).length + (if ([] : List Keyword).isEmpty then 0 else 1) < 30)) = true := by rfl)
    (hline : (apos.endLine == cpos.line) = true := by rfl) (hs : starEach [a] X.env = (false, eval a X.env) :: starEach [] X.env := by rfl) (hplain : (backTo cpos (starEach [] X.env)).any (·.1) = false := by rfl) :
    Ee X W ρ (.Call (.Attribute e "index" apos) [a] [] cpos) fun c => M.bind (me c) fun x => M.bind (M.opt (lstD x)) fun xs => M.bind (ma c) fun y => M.opt (indexL xs y) := by
  refine PE.imp (pe_bm PySem.F.plainAttrs_list PySem.F.slot_list_index PySem.F.type_list_index mt_index he (pa_cons ha pa_nil hs) hbase hfew hline hs hplain) fun σ H Q ⟨c, U, T, r, q⟩ => ?_
  refine ⟨c, U, T, r, (me c).mono (fun d1 q1 v1 H1 r1 p1 e1 => ?_) (fun _ z => z) q⟩
  obtain ⟨xs, hx, q0⟩ := opt_wp q1
  cases d1 with
  | lst xs' =>
    cases hx
    obtain ⟨a0, us, rfl, k0, h0, l0⟩ := rq_lst (p1.rq r1)
    refine ⟨.inl ⟨rfl, us, .inl k0⟩, c, U, T, r1, (ma c).mono (fun d2 q2 v2 H2 r2 p2 e2 => ?_) (fun _ z => wx.ext e1 z) q0⟩
    obtain ⟨d, hd, q3⟩ := opt_wp q2
    obtain ⟨w, hw, hd2⟩ := Option.bind_eq_some_iff.mp (show (flV d2).bind _ = some d from hd)
    obtain ⟨ws, hws, hd3⟩ := Option.bind_eq_some_iff.mp hd2
    obtain ⟨j, hj, rfl⟩ := Option.map_eq_some_iff.mp hd3
    obtain ⟨a1, us1, ea, k1, h1, l1⟩ := rq_lst ((p1.go r1 e2).rq r2)
    cases ea
    obtain ⟨f1, f2⟩ := flV_rp p2 hw
    obtain ⟨f3, f4⟩ := flVs_rps h1 hws
    subst f1 f3
    obtain ⟨hjl, hj1, hj2⟩ := List.findIdx?_eq_some_iff_getElem.mp hj
    refine ⟨a0, us1, v2, j, us1[j], rfl, rfl, .inl k1, f2, f4, List.getElem?_eq_getElem hjl, hj1, fun mm z hm hz => ?_, q3 _ H2 r2 rfl (e1.trans1 e2)⟩
    have hlt : mm < us1.length := (List.getElem?_eq_some_iff.mp hz).1
    have := hj2 mm hm
    rw [List.getElem?_eq_getElem hlt] at hz
    cases hz
    simpa using this
  | _ => cases hx
end
end CR
namespace CR
open PySem PySem.Spec PyProof.Rows L2
section
variable {prog : Program} {w : World} {A : Around} {E : Value → Shared → Prop} {s : Shared}
theorem fm_congr {α β : Type} {f g : α → Option β} : ∀ (l : List α), (∀ x ∈ l, f x = g x) → l.filterMap f = l.filterMap g
  | [], _ => rfl
  | x :: l, h => by
    rw [List.filterMap_cons, List.filterMap_cons, h x List.mem_cons_self, fm_congr l fun y hy => h y (List.mem_cons_of_mem _ hy)]
theorem rev_pick (xs : Array Value) : ((List.range xs.size).filterMap fun (k : Nat) => xs[((xs.size : Int) - 1 + (k : Int) * (-1)).toNat]?).toArray = xs.toList.reverse.toArray := by
  have h := PySem.W.krv_pick xs
  unfold slicePick at h
  rw [PySem.W.krv_bounds] at h
  have h2 : ((sliceRange ((xs.size : Int) - 1) (-1) (-1)).filterMap (xs[·]?)).toArray = xs.toList.reverse.toArray := h
  rw [PySem.W.krv_sliceRange, List.filterMap_map] at h2
  rw [← h2]
  congr 1
  refine fm_congr _ fun k hk => ?_
  have hk' := List.mem_range.mp hk
  show xs[_]? = xs[xs.size - 1 - k]?
  congr 1
  omega
theorem getItem_tuple_rev {t sl : Addr} {items : Array Value} {vs : Value} {Q : Value → Shared → Prop} (ht : IsTup s.heap t items) (hs : s.heap.IsSliceOf sl .none .none vs) (ps : IsPart vs (some (-1)))
    (h : Q (.ref s.heap.objs.size) { s with heap := s.heap.push { cls := .type "tuple", data := .seq items.toList.reverse.toArray } })
    (hsz : items.size ≤ sizeLine) : wpAny (model prog w) A (getItem (.ref t) (.ref sl)) Q E s := by
  have htake : sizeOk (.seq items.toList.reverse.toArray) := by
    show items.toList.reverse.toArray.size ≤ sizeLine
    rw [List.size_toArray, List.length_reverse, Array.length_toList]
    exact hsz
  obtain ⟨os, hos, hcs, hds⟩ := id hs
  have hTs : s.TypeIs (.ref sl) "slice" := ⟨os, hos, hcs⟩
  unfold getItem
  try with_reducible refine wpAny_holding ?_
  first | refine wpAny_bind (wpAny_pure ?_) | skip
  refine wpAny_bind (wpAny_sequenceKey ht.typeIs (by decide) ?_)
  refine wpAny_bind (wpAny_callSpecial?_slot (name := Str.ofString "__getitem__") ht.typeIs PyProof.Rows.slot_tuple_getitem
    (wpAny_call_entry PyProof.Rows.slot_tuple_getitem ht.typeIs entry_tuple_getitem ?_ (args_tuple_getitem _ _)))
  show wpAny _ _ (Builtin.Tuple.tupleItemsOf (.ref t) >>= _) _ _ s
  refine wpAny_bind (tupleItemsOf_ ht ?_)
  refine wpAny_bind (wpAny_typeOf hTs ?_)
  rw [if_pos (by decide)]
  have hp : Builtin.Slice.slicePlaces ((items.size : Int) - 1) (-1) (-1) = items.size := by
    unfold Builtin.Slice.slicePlaces
    rw [if_neg (by decide)]
    split
    · rw [show (- -1 : Int) = 1 by decide, Int.ediv_one]
      omega
    · omega
  have happ : ∀ {Q : Int × Int × Nat → Shared → Prop}, Q ((items.size : Int) - 1, -1, items.size) s → wpAny (model prog w) A.in1 (Builtin.Slice.sliceApplied (.ref sl) (pure (items.size : Int))) Q E s := fun {Q} h => by
    unfold Builtin.Slice.sliceApplied Builtin.Slice.sliceFields
    refine wpAny_bind (wpAny_bind (wpAny_field hos hds (x := .none) rfl (wpAny_bind (wpAny_field hos hds (x := .none) rfl (wpAny_bind (wpAny_field hos hds (x := vs) rfl (wpAny_pure ?_)))))))
    refine wpAny_bind (HT.slicePart_ ps ?_)
    show wpAny _ _ (if ((-1 : Int) == 0) = true then _ else _) _ _ s
    rw [if_neg (by decide)]
    refine wpAny_bind (slicePart_none (wpAny_bind (slicePart_none (wpAny_bind (wpAny_pure ?_)))))
    show wpAny _ _ (pure ((items.size : Int) - 1, (-1 : Int), Builtin.Slice.slicePlaces ((items.size : Int) - 1) (-1) (-1))) _ _ s
    rw [hp]
    exact wpAny_pure h
  refine wpAny_bind (happ ?_)
  have hno : ¬ ((((items.size : Int) - 1) == 0 && (-1 : Int) == 1 && items.size == items.size) = true) := by
    intro q
    rw [Bool.and_eq_true, Bool.and_eq_true] at q
    exact absurd q.1.2 (by decide)
  show wpAny _ _ (if (((items.size : Int) - 1) == 0 && (-1 : Int) == 1 && items.size == items.size) = true then _ else _) _ _ s
  rw [if_neg hno, rev_pick]
  first
    | exact wpAny_bind (m := Builtin.Tuple.tupleExact _) (wpAny_newObj_type (wpAny_pure ⟨_, rfl, wpAny_pure h⟩) htake)
    | exact wpAny_bind (m := Builtin.Tuple.tupleExact _) (wpAny_newObj_type (wpAny_bind (wpAny_pure (wpAny_pure ⟨_, rfl, wpAny_pure h⟩))) htake)
    | exact wpAny_bind (wpAny_bind (m := Builtin.Tuple.tupleExact _) (wpAny_newObj_type (wpAny_pure (wpAny_pure ⟨_, rfl, wpAny_pure h⟩)) htake))
    | exact wpAny_bind (wpAny_bind (m := Builtin.Tuple.tupleExact _) (wpAny_newObj_type (wpAny_pure ⟨_, rfl, wpAny_pure h⟩) htake))
theorem getItem_tuple_all1 {t sl : Addr} {items : Array Value} {vs : Value} {Q : Value → Shared → Prop} (ht : IsTup s.heap t items) (hs : s.heap.IsSliceOf sl .none .none vs) (ps : IsPart vs (some 1)) (h : Q (.ref t) s) : wpAny (model prog w) A (getItem (.ref t) (.ref sl)) Q E s := by
  obtain ⟨os, hos, hcs, hds⟩ := id hs
  have hTs : s.TypeIs (.ref sl) "slice" := ⟨os, hos, hcs⟩
  unfold getItem
  try with_reducible refine wpAny_holding ?_
  first | refine wpAny_bind (wpAny_pure ?_) | skip
  refine wpAny_bind (wpAny_sequenceKey ht.typeIs (by decide) ?_)
  refine wpAny_bind (wpAny_callSpecial?_slot (name := Str.ofString "__getitem__") ht.typeIs PyProof.Rows.slot_tuple_getitem
    (wpAny_call_entry PyProof.Rows.slot_tuple_getitem ht.typeIs entry_tuple_getitem ?_ (args_tuple_getitem _ _)))
  show wpAny _ _ (Builtin.Tuple.tupleItemsOf (.ref t) >>= _) _ _ s
  refine wpAny_bind (tupleItemsOf_ ht ?_)
  refine wpAny_bind (wpAny_typeOf hTs ?_)
  rw [if_pos (by decide)]
  have hp : Builtin.Slice.slicePlaces 0 (items.size : Int) 1 = items.size := by
    have := HT.places_gen 0 items.size
    rw [Nat.sub_zero] at this
    exact this
  have happ : ∀ {Q : Int × Int × Nat → Shared → Prop}, Q (0, 1, items.size) s → wpAny (model prog w) A.in1 (Builtin.Slice.sliceApplied (.ref sl) (pure (items.size : Int))) Q E s := fun {Q} h => by
    unfold Builtin.Slice.sliceApplied Builtin.Slice.sliceFields
    refine wpAny_bind (wpAny_bind (wpAny_field hos hds (x := .none) rfl (wpAny_bind (wpAny_field hos hds (x := .none) rfl (wpAny_bind (wpAny_field hos hds (x := vs) rfl (wpAny_pure ?_)))))))
    refine wpAny_bind (HT.slicePart_ ps ?_)
    show wpAny _ _ (if ((1 : Int) == 0) = true then _ else _) _ _ s
    rw [if_neg (by decide)]
    refine wpAny_bind (slicePart_none (wpAny_bind (slicePart_none (wpAny_bind (wpAny_pure ?_)))))
    show wpAny _ _ (pure ((0 : Int), (1 : Int), Builtin.Slice.slicePlaces 0 (items.size : Int) 1)) _ _ s
    rw [hp]
    exact wpAny_pure h
  refine wpAny_bind (happ ?_)
  have hyes : ((0 : Int) == 0 && (1 : Int) == 1 && items.size == items.size) = true := by simp
  show wpAny _ _ (if ((0 : Int) == 0 && (1 : Int) == 1 && items.size == items.size) = true then _ else _) _ _ s
  rw [if_pos hyes]
  refine wpAny_bind ?_
  show wpAny _ _ (typeOf (.ref t) >>= fun T => pure (T == .type "tuple")) _ _ s
  refine wpAny_bind (wpAny_typeOf ht.typeIs (wpAny_pure ?_))
  first
    | rw [if_pos (by decide)]
    | simp only [beq_self_eq_true, if_true]
  first
    | exact wpAny_bind (wpAny_rule (wpAny_pure ⟨_, rfl, wpAny_pure h⟩))
    | exact wpAny_bind (wpAny_rule (wpAny_bind (wpAny_pure (wpAny_pure ⟨_, rfl, wpAny_pure h⟩))))
theorem one_pick (xs : Array Value) : slicePick xs none none (some 1) = xs := by
  have : slicePick xs none none (some 1) = slicePick xs none none none := rfl
  rw [this]
  exact slicePick_all xs
end
section
variable {X : Cx} {W : WX} {p : Cp} {S : Type} {ρ : S → List Slot}
/-- d[::1], d[::-1] -/
def stepT : CR.D → CR.D → Option CR.D
  | .tup xs, .int k => if k = 1 then some (.tup xs) else if k = -1 then some (.tup xs.reverse) else none
  | .lst xs, .int k => if k = 1 then some (.lst xs) else if k = -1 then some (.lst xs.reverse) else none
  | _, _ => none
def tStep (K : PySem.W.Frag) (te : TE) (ts : TO) : TE := fun σ H Q => te σ H fun x H1 => ts σ H1 fun y H2 => ∃ a xs k, x = .ref a ∧ y = some k ∧ ((SqT K H2 a xs ∧ ((k = 1 ∧ Q (.ref a) H2) ∨ (k = -1 ∧ ∀ p, H2 p = none → Q (.ref p) (upd H2 p (.tup xs.reverse))))) ∨
  (SqL K H2 a xs ∧ ((k = 1 ∧ ∀ p, H2 p = none → Q (.ref p) (upd H2 p (.lst xs))) ∨ (k = -1 ∧ ∀ p, H2 p = none → Q (.ref p) (upd H2 p (.lst xs.reverse))))))
theorem pe_step {e st : Expr} {te : TE} {ts : TO} {p3 pos : Pos} (he : PE X e te) (hst : PO X (some st) ts) : PE X (.Subscript e (.Slice none none (some st) p3) pos) (tStep X.K te ts) := by
  refine ⟨fun pins s σ H Q I h => ?_⟩
  refine Subscript_ (thn (he.run pins s σ H _ I h) fun v s1 ⟨x, H1, I1, r1, q1⟩ => ?_)
  refine wpAny_Slice (thn (po_none.run pins s1 σ H1 (fun o H2 => o = none ∧ H2 = H1) I1 ⟨rfl, rfl⟩) fun vl s2 ⟨l, H2, I2, pl, el, e2⟩ => ?_)
  subst el e2
  refine thn (po_none.run pins s2 σ H2 (fun o H3 => o = none ∧ H3 = H2) I2 ⟨rfl, rfl⟩) fun vu s3 ⟨u, H3, I3, pu, eu, e3⟩ => ?_
  subst eu e3
  refine thn (hst.run pins s3 σ H3 _ I3 q1) fun vs s4 ⟨y, H4, I4, ps, q4⟩ => ?_
  obtain ⟨a, xs, k, rfl, rfl, q⟩ := q4
  cases r1
  cases pl
  cases pu
  have I5 : Inv X pins σ H4 { s4 with heap := s4.heap.push { cls := .type "slice", data := .fields #[.none, .none, vs] } } := I4.kept (t' := s4.toks) fun b ob q => Heap.get?_push_of_some _ q
  show wpAny (model X.prog X.w) X.A (subscriptTail e (.Slice none none (some st) p3) (.ref a) (.ref s4.heap.objs.size)) (EP X pins σ Q) X.xe { s4 with heap := s4.heap.push { cls := .type "slice", data := .fields #[.none, .none, vs] } }
  rcases q with ⟨hx, q⟩ | ⟨hx, q⟩
  · obtain ⟨its, r, ht, hz⟩ := I5.tuple hx
    refine tail_any (ops := [.ref a, .ref s4.heap.objs.size]) ht.typeIs (PyProof.Rows.slot_tuple_getitem.lookup) ?_ (by with_unfolding_all rfl)
    rcases q with ⟨rfl, q⟩ | ⟨rfl, q⟩
    · exact getItem_tuple_all1 ht (Heap.IsSliceOf.new _ _ _ vs) ps ⟨.ref a, H4, I5, rfl, q⟩
    · refine getItem_tuple_rev ht (Heap.IsSliceOf.new _ _ _ vs) ps ?_ (by rw [List.size_toArray, ← r.length]; exact hz)
      refine ⟨.ref _, _, I5.laid (t' := s4.toks) (o := .tup xs.reverse) (fun b ob q => Heap.get?_push_of_some _ q) (Nat.le_refl _) ?_, rfl, q _ (I5.hok.fresh (Nat.le_refl _))⟩
      exact ⟨by rw [List.length_reverse]; exact hz, _, r.reverse, IsTup.new _ _⟩
  · obtain ⟨its, r, ht, hz⟩ := I5.list hx
    refine tail_any (ops := [.ref a, .ref s4.heap.objs.size]) ht.isList.typeIs (PySem.slot_list_getitem.lookup) ?_ (by with_unfolding_all rfl)
    rcases q with ⟨rfl, q⟩ | ⟨rfl, q⟩
    · refine wpAny_getItem_list_slice ht.isList (Heap.IsSliceOf.new _ .none .none vs) .none .none ps (by decide) ?_ (by rw [List.size_toArray, ← r.length]; exact hz)
      rw [one_pick]
      refine ⟨.ref _, _, I5.laid (t' := s4.toks) (o := .lst xs) (fun b ob q => Heap.get?_push_of_some _ q) (Nat.le_refl _) ?_, rfl, q _ (I5.hok.fresh (Nat.le_refl _))⟩
      exact ⟨hz, _, 0, r, Heap.get?_push_size _ rfl⟩
    · refine wpAny_getItem_list_slice ht.isList (Heap.IsSliceOf.new _ .none .none vs) .none .none ps (by decide) ?_ (by rw [List.size_toArray, ← r.length]; exact hz)
      rw [PySem.W.krv_pick]
      refine ⟨.ref _, _, I5.laid (t' := s4.toks) (o := .lst xs.reverse) (fun b ob q => Heap.get?_push_of_some _ q) (Nat.le_refl _) ?_, rfl, q _ (I5.hok.fresh (Nat.le_refl _))⟩
      exact ⟨by rw [List.length_reverse]; exact hz, _, 0, r.reverse, Heap.get?_push_size _ rfl⟩
theorem ee_step {e st : Expr} {p3 pos : Pos} {me ms : S → M CR.D} (he : Er X W ρ e me) (hs : Ee X W ρ st ms) : Ee X W ρ (.Subscript e (.Slice none none (some st) p3) pos) fun c => M.bind (me c) fun d => M.bind (ms c) fun k => M.opt (stepT d k) := by
  refine PE.imp (pe_step he (po_some hs)) fun σ H Q ⟨c, U, T, r, q⟩ => ?_
  refine ⟨c, U, T, r, (me c).mono (fun d1 q1 v1 H1 r1 p1 e1 => ?_) (fun _ z => z) q⟩
  refine ⟨c, U, T, r1, (ms c).mono (fun d2 q2 v2 H2 r2 p2 e2 => ?_) (fun _ z => wx.ext e1 z) q1⟩
  obtain ⟨d, hd, q3⟩ := opt_wp q2
  have e := e1.trans1 e2
  have pq := (p1.go r1 e2).rq r2
  cases d1 <;> cases d2 <;> first | cases hd | skip
  · rename_i xs k
    obtain ⟨a, vs, rfl, k1, h1, l1⟩ := rq_tup pq
    refine ⟨k, p2, a, vs, k, rfl, rfl, .inl ⟨k1, ?_⟩⟩
    have hd' : (if k = 1 then some (CR.D.tup xs) else if k = -1 then some (.tup xs.reverse) else none) = some d := hd
    split at hd'
    · rename_i h
      cases hd'
      exact .inl ⟨h, q3 _ H2 r2 ⟨a, vs, rfl, k1, h1, l1⟩ e⟩
    · split at hd'
      · rename_i h
        cases hd'
        exact .inr ⟨h, fun x hx => q3 _ _ (r2.same (same_new hx)) (rp_new_tup hx (rps_reverse h1) (by rw [List.length_reverse]; exact l1)) (Same.ext1 e (same_new hx))⟩
      · cases hd'
  · rename_i xs k
    obtain ⟨a, vs, rfl, k1, h1, l1⟩ := rq_lst pq
    refine ⟨k, p2, a, vs, k, rfl, rfl, .inr ⟨.inl k1, ?_⟩⟩
    have hd' : (if k = 1 then some (CR.D.lst xs) else if k = -1 then some (.lst xs.reverse) else none) = some d := hd
    split at hd'
    · rename_i h
      cases hd'
      exact .inl ⟨h, fun x hx => q3 _ _ (r2.same (same_new hx)) (rp_new_lst r2.zok hx h1 l1) (Same.ext1 e (same_new hx))⟩
    · split at hd'
      · rename_i h
        cases hd'
        exact .inr ⟨h, fun x hx => q3 _ _ (r2.same (same_new hx)) (rp_new_lst r2.zok hx (rps_reverse h1) (by rw [List.length_reverse]; exact l1)) (Same.ext1 e (same_new hx))⟩
      · cases hd'
end
end CR

set_option Elab.async false
set_option linter.all false
set_option maxRecDepth 100000
/-! CR12: sorted(set(..)) of pairs, sorted of ints. -/
namespace L2
open PySem PySem.Spec PyProof.Rows SrtO
section
variable {P : Program} {w : World} {A : Around} {E : Value → Shared → Prop} {s : Shared}
def pr2 (ns : List Int) : Int × Int := (ns.getD 0 0, ns.getD 1 0)
theorem isPair_of {h : Heap} {v : Value} {ns : List Int} (x : TS.TupInts h v ns) (hl : ns.length = 2) : Srt.IsPair h v (pr2 ns).1 (pr2 ns).2 := by
  obtain ⟨a, xs, e, ⟨o, ho, hc, n, hd⟩, i⟩ := x
  match ns, hl with
  | [p, q], _ =>
    have hx : ∃ t u, xs.toList = [Value.int p t, Value.int q u] := by
      generalize xs.toList = l at i
      cases i with
      | cons _ t r =>
        cases r with
        | cons _ u r =>
          cases r
          exact ⟨_, _, rfl⟩
    obtain ⟨t, u, hx⟩ := hx
    have hx' : xs = #[Value.int p t, Value.int q u] := by
      have := congrArg List.toArray hx
      simpa using this
    subst hx'
    exact ⟨a, o, t, u, n, e, ho, hc, hd⟩
/-- sorted(set), pairs of ints -/
theorem sorted_setP {a : Addr} {L : List (Addr × List Int)} {es : Array (Int × Value)} {ep : Nat} {t : SetTable} {Q : Value → Shared → Prop} (R : SetTR P w s.heap a L es ep t) (hh : A.handled = none)
    (hB : ∀ p ∈ L, p.2.length = 2)
    (hQ : ∀ s' p (out : Array Value) (c : Nat) (L' : List (Addr × List Int)), (∀ b o, s.heap.get? b = some o → s'.heap.get? b = some o) → s'.gens = s.gens → s'.os = s.os → s.heap.objs.size ≤ p →
      s'.heap.get? p = some (seqObj "list" out c) → out.toList = L'.map (fun q => Value.ref q.1) → L'.Perm L → L'.Pairwise (fun q r => lexB (pr2 r.2) (pr2 q.2) = false) → Q (.ref p) s') :
    wpAny (model P w) A (call (.builtin "sorted") [.ref a]) Q E s := by
  obtain ⟨o, ho, hex, hd⟩ := R.ob
  have hsz := R.size
  have hfew := R.few
  refine Calls.call_function_entry kind_sorted plain_sorted entry_sorted (args_sorted1 _) ?_
  unfold Builtin.«sorted»
  refine wpAny_bind (m := checkCount "sorted" 1 1 _) (wpAny_pure ?_)
  refine wpAny_bind (collect_set (A := A.in1) hh ⟨o, ho, hex.1, hd⟩ R.fits (by unfold scanBound; omega) R.tab.ris R.led fun s1 vs k1 hz g1 o1 pm => ?_)
  have hes : es.toList.map (·.2) = L.map fun q => Value.ref q.1 := by
    rw [R.rows]
    unfold rowsOf
    rw [List.map_map] <;> rfl
  rw [hes] at pm
  have ord : ∀ vs : List Value, (∀ v ∈ vs, ∃ q ∈ L, v = Value.ref q.1) → ∃ L1 : List (Addr × List Int), vs = L1.map (fun q => Value.ref q.1) ∧ ∀ q ∈ L1, q ∈ L := by
    intro vs
    induction vs with
    | nil => intro _; exact ⟨[], rfl, fun q hq => (by cases hq)⟩
    | cons v vs ih =>
      intro hv
      obtain ⟨q, hq, e⟩ := hv v List.mem_cons_self
      obtain ⟨L1, e1, hs⟩ := ih fun u hu => hv u (List.mem_cons_of_mem _ hu)
      refine ⟨q :: L1, by rw [List.map_cons, e, e1], fun r hr => ?_⟩
      rcases List.mem_cons.mp hr with z | z
      · rw [z]; exact hq
      · exact hs r z
  have one : ∀ q ∈ L, ∀ r ∈ L, q.1 = r.1 → q = r := fun q hq r hr e => by
    have a1 := R.tup q hq
    have a2 := R.tup r hr
    rw [e] at a1
    have e2 : q.2 = r.2 := a1.inj a2
    exact Prod.ext e e2
  have perm_of : ∀ L1 : List (Addr × List Int), (∀ q ∈ L1, q ∈ L) → (L1.map (fun q => Value.ref q.1)).Perm (L.map fun q => Value.ref q.1) → L1.Perm L := by
    intro L1 hs pm1
    have nL : L.Nodup := nodup_of_map R.nd
    have nref : (L.map fun q => Value.ref q.1).Nodup := by
      refine List.pairwise_map.mpr (List.Pairwise.imp_of_mem (fun {q r} hq hr hne e => ?_) nL)
      injection e with e
      exact hne (one q hq r hr e)
    have n1 : L1.Nodup := nodup_of_map (pm1.nodup_iff.mpr nref)
    refine (List.perm_ext_iff_of_nodup n1 nL).mpr fun q => ⟨hs q, fun hq => ?_⟩
    have hm : Value.ref q.1 ∈ L1.map (fun q => Value.ref q.1) := pm1.mem_iff.mpr (List.mem_map.mpr ⟨q, hq, rfl⟩)
    obtain ⟨r, hr, e⟩ := List.mem_map.mp hm
    injection e with e
    rw [← one r (hs r hr) q hq e]
    exact hr
  have hvl : vs.length < 64 := by rw [pm.length_eq, List.length_map]; exact hfew
  refine wpAny_bind (wpAny_newList ?_ (by rw [sizeLine_eq]; omega))
  have hoL : (s1.heap.push (seqObj "list" vs.toArray 0)).get? s1.heap.objs.size = some (seqObj "list" vs.toArray 0) := Heap.get?_push_size _ rfl
  let hp := s1.heap.push (seqObj "list" vs.toArray 0)
  have tk : ∀ q ∈ L, TS.TupInts hp (.ref q.1) q.2 := fun q hq => tupInts_of (P := P) (w := w) (isT_keep (R.tup q hq) fun b u e => Heap.get?_push_of_some _ (k1 b u e))
  have hpr : ∀ v ∈ vs, Srt.IsPair hp v (pr2 (TS.intsOf hp v)).1 (pr2 (TS.intsOf hp v)).2 := fun v hv => by
    obtain ⟨q, hq, e⟩ := List.mem_map.mp (pm.mem_iff.mp hv)
    have x := tk q hq
    rw [e] at x
    rw [x.ints]
    exact isPair_of x (hB q hq)
  refine wpAny_bind (wpAny_holding (wpAny_call_entry (s := { s1 with heap := hp }) PyProof.Rows.slot_list_sort ⟨_, hoL, rfl⟩ PyProof.Rows.entry_list_sort
    (SrtO.list_sort_ord (SrtO.swo_lex fun v => pr2 (TS.intsOf hp v)) hoL (by rw [sizeLine_eq]; omega) (fun h2 => SrtO.pairs_sortableO (by omega) hpr fun o e => ?_) fun out a1 a2 => ⟨_, rfl, ?_⟩) (PyProof.Rows.args_list_sort _)))
  · have e' : some o = some (seqObj "list" vs.toArray 0) := e.symm.trans hoL
    cases e'
    intro c
    exact absurd (Value.type.inj c) (by decide)
  · obtain ⟨c, hc⟩ := sortedHeap_at (vs := vs) (out := out.toArray) hoL
    obtain ⟨L', e', hs'⟩ := ord out fun v hv => by
      obtain ⟨q, hq, e⟩ := List.mem_map.mp (pm.mem_iff.mp (a2.perm.mem_iff.mp hv))
      exact ⟨q, hq, e.symm⟩
    have pL : L'.Perm L := perm_of L' hs' (by rw [← e']; exact a2.perm.trans pm)
    have pw : L'.Pairwise (fun q r => lexB (pr2 r.2) (pr2 q.2) = false) := by
      rw [e'] at a1
      refine List.Pairwise.imp_of_mem (fun {q r} hq hr hle => ?_) (List.pairwise_map.mp a1)
      have f1 : TS.intsOf hp (.ref q.1) = q.2 := (tk q (hs' q hq)).ints
      have f2 : TS.intsOf hp (.ref r.1) = r.2 := (tk r (hs' r hr)).ints
      rw [← f1, ← f2]
      exact hle
    refine wpAny_pure ⟨_, rfl, hQ _ s1.heap.objs.size out.toArray c L' (fun b u e => ?_) g1 o1 hz hc (by simpa using e') pL pw⟩
    have q := k1 b u e
    have hlt := Heap.lt_size q
    show (sortedHeap hp s1.heap.objs.size vs out.toArray).get? b = some u
    rw [sortedHeap_old (Nat.ne_of_lt hlt) (by show b < (s1.heap.push (seqObj "list" vs.toArray 0)).objs.size; rw [size_push']; exact Nat.lt_succ_of_lt hlt)]
    exact Heap.get?_push_of_some _ q
end
end L2

namespace L2
open PySem PySem.Spec PyProof.Rows SrtO
/-- sorted(set): pairs of ints -/
def rSetSortP (K : PySem.W.Frag) (P : Program) (w : World) : List V → Hp → VK → Prop := fun vs H Q => ∃ (a : Addr) (L : List (Addr × List Int)), vs = [V.ref a] ∧ H a = some (SetTO P w a L) ∧ (∀ p ∈ L, SqT K H p.1 (p.2.map V.int)) ∧ (∀ p ∈ L, p.2.length = 2) ∧
  ∀ (L' : List (Addr × List Int)) (p : Addr), L'.Perm L → (L'.map (·.2)).Nodup → L'.length < 64 → L'.Pairwise (fun q r => lexB (pr2 r.2) (pr2 q.2) = false) → H p = none → Q (.ref p) (upd H p (.lst (L'.map fun q => V.ref q.1)))
theorem cr_setSortP {X : Cx} (hc : X.calm = true) : CallR X (.builtin "sorted") (rSetSortP X.K X.prog X.w) := by
  intro pins s σ H vs us Q I r h
  obtain ⟨a, L, rfl, ha, hk, hB, q⟩ := h
  have R0 : SetT0 X.prog X.w s.heap a L := (I.hok a _ ha).1
  obtain ⟨es, ep, t, R⟩ := R0.full fun p hp => I.isT (hk p hp)
  rw [Vals.ref1 r]
  refine sorted_setP R (I.ok.hd hc) hB fun s' p out c L' k g o hp hg hout pm pw => ?_
  have hfew : L'.length < 64 := by rw [pm.length_eq]; exact R.few
  have hlen : (L'.map fun q => V.ref q.1).length ≤ sizeLine := by rw [List.length_map, sizeLine_eq]; omega
  have hn : H p = none := I.hok.fresh hp
  have hv : Vals (L'.map fun q => V.ref q.1) out.toList := by rw [hout]; exact vals_of_refs L'
  have J : Inv X pins σ (upd H p (.lst (L'.map fun q => V.ref q.1))) { s with heap := s'.heap, gens := s'.gens, drawn := s'.drawn, toks := s'.toks } :=
    I.call (ch := []) (Un.laid k hp hn) (I.hok.laid k hp ⟨hlen, out.toList, c, hv, hg⟩) (by rw [g]; exact I.bare) (fun _ z => nomatch z)
  have e : s' = { s with heap := s'.heap, gens := s'.gens, drawn := s'.drawn, toks := s'.toks } := by
    cases s'
    cases s
    cases o
    rfl
  rw [e]
  exact ⟨.ref p, _, J, rfl, q L' p pm ((pm.map (·.2)).nodup_iff.mpr R.nd) hfew pw hn⟩
end L2
namespace CR
open PySem PySem.Spec PyProof.Rows L2 SrtO
section
variable {X : Cx} {W : WX} {p : Cp} {S : Type} {ρ : S → List Slot}
/-- a list of fewer than 64 pairs of ints -/
def pairsD : List CR.D → Option (List (Int × Int))
  | [] => some []
  | .tup [.int a, .int b] :: r => (pairsD r).map fun l => (a, b) :: l
  | _ => none
def pairs64 : CR.D → Option (List (Int × Int))
  | .lst xs => if xs.length < 64 then pairsD xs else none
  | _ => none
def pairT (q : Int × Int) : CR.D := .tup [.int q.1, .int q.2]
theorem boot_set' : bootBuiltins "set" = some (.type "set") := by decide +kernel
/-- sorted, no two alike -/
def SortedOf (ps rs : List (Int × Int)) : Prop := rs.Pairwise (fun q r => lexB q r = true) ∧ ∀ q, q ∈ rs ↔ q ∈ ps
theorem pairs_rps {K : PySem.W.Frag} {H : Hp} {Z : Addr → Prop} : ∀ {ds : List CR.D} {vs : List V} {ps : List (Int × Int)}, Rps K H Z ds vs → pairsD ds = some ps →
    ∃ ks : List (Addr × List Int), vs = ks.map (fun q => V.ref q.1) ∧ (∀ q ∈ ks, SqT K H q.1 (q.2.map V.int)) ∧ ks.map (·.2) = ps.map fun q => [q.1, q.2]
  | [], vs, ps, r, e => by
    cases e
    exact ⟨[], r, fun q h => absurd h (by simp), rfl⟩
  | d :: ds, vs, ps, r, e => by
    obtain ⟨v, t, rfl, h1, h2⟩ := (show ∃ v t, vs = v :: t ∧ Rp K H Z d v ∧ Rps K H Z ds t from r)
    match d, e, h1 with
    | .tup [.int a, .int b], e, h1 =>
      obtain ⟨l, e1, rfl⟩ := Option.map_eq_some_iff.mp (show (pairsD ds).map (fun l => (a, b) :: l) = some ps from e)
      obtain ⟨ks, k1, k2, k3⟩ := pairs_rps h2 e1
      obtain ⟨x, us, rfl, hq, hr, _⟩ := (show ∃ x us, v = V.ref x ∧ SqT K H x us ∧ Rps K H Z [.int a, .int b] us ∧ _ from h1)
      obtain ⟨v1, w1, rfl, ha, v2, w2, rfl, hb, hw⟩ := (show ∃ v1 w1, us = v1 :: w1 ∧ v1 = V.int a ∧ ∃ v2 w2, w1 = v2 :: w2 ∧ v2 = V.int b ∧ w2 = [] from hr)
      subst ha hb hw
      refine ⟨(x, [a, b]) :: ks, by rw [k1]; rfl, fun q hq' => ?_, by rw [List.map_cons, k3]; rfl⟩
      rcases List.mem_cons.mp hq' with z | z
      · rw [z]; exact hq
      · exact k2 q z
theorem rps_pairs {K : PySem.W.Frag} {H : Hp} {Z : Addr → Prop} : ∀ (ks : List (Addr × List Int)) (ps : List (Int × Int)), (∀ q ∈ ks, SqT K H q.1 (q.2.map V.int)) → ks.map (·.2) = ps.map (fun q => [q.1, q.2]) → Rps K H Z (ps.map pairT) (ks.map fun q => V.ref q.1)
  | [], [], _, _ => rfl
  | k :: ks, q :: ps, h, e => by
    rw [List.map_cons, List.map_cons] at e
    injection e with e1 e2
    have h1 := h k List.mem_cons_self
    rw [e1] at h1
    exact ⟨_, _, rfl, ⟨k.1, _, rfl, h1, ⟨_, _, rfl, rfl, _, _, rfl, rfl, rfl⟩, (by decide : 2 ≤ sizeLine)⟩, rps_pairs ks ps (fun q hq => h q (List.mem_cons_of_mem _ hq)) e2⟩
  | [], _ :: _, _, e => by cases e
  | _ :: _, [], _, e => by cases e
theorem lex_le_ne {p q : Int × Int} (h : lexB q p = false) (n : p ≠ q) : lexB p q = true := by
  obtain ⟨a, b⟩ := p
  obtain ⟨c, d⟩ := q
  have h' := lexB_no.mp h
  refine lexB_iff.mpr ?_
  have n' : ¬ (a = c ∧ b = d) := fun z => n (by rw [z.1, z.2])
  simp only at h' ⊢
  omega
theorem el_sortset (g : GX X W p) (j k : Nat) {a : Expr} {q q2 pos pos2 : Pos} {m : S → M CR.D} (hG : p.G[j]? = some "sorted") (hG2 : p.G[k]? = some "set") (h : Er X W ρ a m) (hcal : p.cal = true := by rfl)
    (hs : starEach [a] X.env = (false, eval a X.env) :: starEach [] X.env := by rfl)
    (na : starEach [.Call (.Name "set" q2) [a] [] pos2] X.env = (false, eval (.Call (.Name "set" q2) [a] [] pos2) X.env) :: starEach [] X.env := by rfl) :
    El X W ρ (.Call (.Name "sorted" q) [.Call (.Name "set" q2) [a] [] pos2] [] pos) fun c => M.bind (m c) fun d => M.bind (M.opt (pairs64 d)) fun ps => M.bind (M.any (SortedOf ps)) fun rs => M.pure (rs.map pairT) := by
  refine PE.imp (pe_callB (cr_setSortP (g.calm hcal)) (g.gl hG) (g.blt.of b_sorted) boot_sorted (pa_cons (pe_callTy (cr_setOfT (g.calm hcal) (by have := g.hu; omega)) (g.gl hG2) (g.blt.of b_set) boot_set' (pa_cons h pa_nil hs) (by decide +kernel) (by decide +kernel) hs rfl) pa_nil na) (by decide +kernel) (by decide +kernel) na rfl) fun σ H Q ⟨c, U, T, r, q⟩ => ?_
  refine ⟨c, U, T, r, (m c).mono (fun d1 q1 v1 H1 r1 p1 e1 => ?_) (fun _ z => z) q⟩
  obtain ⟨ps, hp, q2⟩ := opt_wp q1
  cases d1 <;> first | cases hp | skip
  rename_i xs
  have hp' : (if xs.length < 64 then pairsD xs else none) = some ps := hp
  split at hp'
  · rename_i hlt
    obtain ⟨a, vs, rfl, k1, h1, l1⟩ := rq_lst (p1.rq r1)
    obtain ⟨ks, rfl, k3, k4⟩ := pairs_rps h1 hp'
    have hkl : ks.length < 64 := by
      have := rps_len h1
      rw [List.length_map] at this
      omega
    refine ⟨a, ks, rfl, .inl k1, k3, hkl, fun x L hx hsub hall => ?_⟩
    have sm := same_new (o := SetTO X.prog X.w x L) hx
    have len2 : ∀ q ∈ ks, q.2.length = 2 := fun q hq => by
      have hm : q.2 ∈ ks.map (·.2) := List.mem_map.mpr ⟨q, hq, rfl⟩
      rw [k4] at hm
      obtain ⟨z, _, e⟩ := List.mem_map.mp hm
      rw [← e]; rfl
    have sqt : ∀ q ∈ ks, SqT X.K (upd H1 x (SetTO X.prog X.w x L)) q.1 (q.2.map V.int) := fun q hq => by
      rcases k3 q hq with (z | ⟨o, z⟩) | z
      · exact .inl (.inl (sm _ _ z))
      · exact .inl (.inr ⟨o, sm _ _ z⟩)
      · exact .inr z
    refine ⟨x, L, rfl, upd_same, fun q hq => sqt q (hsub q hq), fun q hq => len2 q (hsub q hq), fun L' y pm nd l64 pw hy => ?_⟩
    have sub' : ∀ z ∈ L', z ∈ ks := fun z hz => hsub z (pm.mem_iff.mp hz)
    let rs : List (Int × Int) := L'.map fun z => pr2 z.2
    have e2 : ∀ z ∈ ks, z.2 = [(pr2 z.2).1, (pr2 z.2).2] := fun z hz => by
      have l2 := len2 z hz
      match hz2 : z.2, l2 with
      | [a, b], _ => rfl
    have e3 : L'.map (·.2) = rs.map fun q => [q.1, q.2] := by
      show _ = (L'.map fun z => pr2 z.2).map _
      rw [List.map_map]
      exact List.map_congr_left fun z hz => e2 z (sub' z hz)
    have hso : SortedOf ps rs := by
      refine ⟨?_, fun z => ⟨fun hz => ?_, fun hz => ?_⟩⟩
      · refine List.pairwise_map.mpr ?_
        have nd' := List.pairwise_map.mp nd
        refine List.Pairwise.imp_of_mem (fun {u v} hu hv ⟨h1, h2⟩ => lex_le_ne h1 fun z => h2 ?_) (List.Pairwise.and pw nd')
        rw [e2 u (sub' u hu), e2 v (sub' v hv), z]
      · obtain ⟨u, hu, rfl⟩ := List.mem_map.mp hz
        have hm : u.2 ∈ ks.map (·.2) := List.mem_map.mpr ⟨u, sub' u hu, rfl⟩
        rw [k4] at hm
        obtain ⟨z, hz, e⟩ := List.mem_map.mp hm
        rw [← e]
        exact hz
      · have hm : [z.1, z.2] ∈ ks.map (·.2) := by rw [k4]; exact List.mem_map.mpr ⟨z, hz, rfl⟩
        obtain ⟨u, hu, e⟩ := List.mem_map.mp hm
        obtain ⟨v, hv, e'⟩ := List.mem_map.mp (hall u hu)
        refine List.mem_map.mpr ⟨v, pm.mem_iff.mpr hv, ?_⟩
        rw [e', e]
        rfl
    have q3 : ∀ a vs H', H a = none → Rep X.K (fun b => U b ∨ b = a) T H' (ρ c) σ → H' a = some (.lst vs) → Rps X.K H' (fun b => (U b ∨ T b) ∨ b = a) (rs.map pairT) vs → (rs.map pairT).length ≤ sizeLine → Ext T H H' → Q (.ref a) H' := q2 rs hso
    have s2 : Same H1 (upd (upd H1 x (SetTO X.prog X.w x L)) y (.lst (L'.map fun q => V.ref q.1))) := sm.trans (same_new hy)
    have hny : H1 y = none := sm.free hy
    have rp : Rps X.K (upd (upd H1 x (SetTO X.prog X.w x L)) y (.lst (L'.map fun q => V.ref q.1))) (fun b => (U b ∨ T b) ∨ b = y) (rs.map pairT) (L'.map fun q => V.ref q.1) := by
      refine rps_pairs L' rs (fun z hz => ?_) e3
      rcases sqt z (sub' z hz) with (u | ⟨o, u⟩) | u
      · exact .inl (.inl (same_new hy _ _ u))
      · exact .inl (.inr ⟨o, same_new hy _ _ u⟩)
      · exact .inr u
    exact q3 y _ _ (new_none r1 e1 hny) (r1.newS s2 hny (by rw [upd_same]; rfl)) upd_same rp (by rw [List.length_map, List.length_map, sizeLine_eq]; omega) (Same.ext1 e1 s2)
  · cases hp'
end
end CR

set_option Elab.async false
set_option linter.all false
set_option maxRecDepth 100000
/-! CR13: the cup; defs behind a first argument that is a list; a def that calls itself. -/
namespace CR
open PySem PySem.Spec PyProof.Rows L2
/-- a fact that is wanted -/
def M.must (q : Prop) : M Unit := ⟨fun Q _ => q ∧ Q (), fun h _ ⟨a, b⟩ => ⟨a, h _ b⟩⟩
section
variable {X : Cx} {W : WX} {p : Cp} {S : Type} {ρ : S → List Slot} {N B : Type} {G : Sg S N B} {st : Stmt} {ss : List Stmt}
/-- another slot that says less (more) of the same list -/
theorem Rep.reslot {K : PySem.W.Frag} {U T : Addr → Prop} {H : Hp} {ρc : List Slot} {σ : L2.St} {i : Nat} {s s' : Slot} (r : Rep K U T H ρc σ) (hi : ρc[i]? = some s) (ho : s.own = true) (h : ∀ ov, SlotOk K U T H s ov → SlotOk K U T H s' ov) : Rep K U T H (ρc.set i s') σ := by
  have old : ∀ {j : Nat} {x : Addr}, OwnAt (ρc.set i s') σ j x → OwnAt ρc σ j x := fun {j x} ⟨t, e, ho', e2⟩ => by
    rcases set_get e with ⟨q, e1, l⟩ | ⟨q, e1⟩
    · subst q; exact ⟨_, hi, ho, e2⟩
    · exact ⟨t, e1, ho', e2⟩
  refine ⟨by rw [List.length_set]; exact r.len, fun j t e => ?_, fun j k x n hj hk => r.ne j k x n (old hj) (old hk), r.uok, r.tok, r.ut⟩
  rcases set_get e with ⟨q, e1, l⟩ | ⟨q, e1⟩
  · subst q e1
    obtain ⟨ov, e2, ok⟩ := r.sl j s hi
    exact ⟨ov, e2, h ov ok⟩
  · exact r.sl j t e1
/-- what stands at the list is told -/
theorem ss_open (i : Nat) {a : Addr} {P : List CR.D → Prop} {k : List CR.D × S → M (O N B)} (hi : ∀ c, (ρ c)[i]? = some (.ab a P)) (hk : Ss X W (fun s : List CR.D × S => (ρ s.2).set i (.ab a fun ys => ys = s.1)) G.up ss k) : Ss X W ρ G ss fun c => M.bind (M.any P) fun xs => k (xs, c) := by
  refine PSs.imp hk fun D σ H ⟨c, U, T, r, q⟩ => ?_
  obtain ⟨es, ws, xs, h1, h2, h3, h4, h5⟩ := r.ab (hi c)
  have r' : Rep X.K U T H ((ρ c).set i (.ab a fun ys => ys = xs)) σ := r.reslot (hi c) rfl fun ov ok => by
    obtain ⟨e, _⟩ := ok
    exact ⟨e, ws, xs, h1, h2, h3, h4, rfl⟩
  exact tS.of (c1 := (xs, c)) (ρ := fun s : List CR.D × S => (ρ s.2).set i (.ab a fun ys => ys = s.1)) (G := G.up) r r' (.of (.refl _ _)) rfl (q xs h5) fun o z => z
theorem ss_close (i : Nat) {a : Addr} {P : List CR.D → Prop} {val : S → List CR.D} {k : S → M (O N B)} (hi : ∀ c, (ρ c)[i]? = some (.ab a fun ys => ys = val c)) (hk : Ss X W (fun c => (ρ c).set i (.ab a P)) G ss k) : Ss X W ρ G ss fun c => M.bind (M.must (P (val c))) fun _ => k c := by
  refine PSs.imp hk fun D σ H ⟨c, U, T, r, hP, q⟩ => ?_
  have r' : Rep X.K U T H ((ρ c).set i (.ab a P)) σ := r.reslot (hi c) rfl fun ov ok => by
    obtain ⟨e, ws, xs, h1, h2, h3, h4, h5⟩ := ok
    subst h5
    exact ⟨e, ws, _, h1, h2, h3, h4, hP⟩
  exact tS.of (c1 := c) (ρ := fun c => (ρ c).set i (.ab a P)) r r' (.of (.refl _ _)) rfl q fun o z => z
theorem Rep.owab {K : PySem.W.Frag} {U T : Addr → Prop} {H : Hp} {ρc : List Slot} {σ : L2.St} {i : Nat} {a : Addr} {xs : List CR.D} {P : List CR.D → Prop} (r : Rep K U T H ρc σ) (hi : ρc[i]? = some (.ow xs)) (es : σ[i]? = some (some (.ref a))) (hP : P xs) : Rep K U T H (ρc.set i (.ab a P)) σ := by
  have old : ∀ {j : Nat} {x : Addr}, OwnAt (ρc.set i (.ab a P)) σ j x → OwnAt ρc σ j x := fun {j x} ⟨t, e, ho', e2⟩ => by
    rcases set_get e with ⟨q, e1, l⟩ | ⟨q, e1⟩
    · subst q; exact ⟨_, hi, rfl, e2⟩
    · exact ⟨t, e1, ho', e2⟩
  refine ⟨by rw [List.length_set]; exact r.len, fun j t e => ?_, fun j k x n hj hk => r.ne j k x n (old hj) (old hk), r.uok, r.tok, r.ut⟩
  rcases set_get e with ⟨q, e1, l⟩ | ⟨q, e1⟩
  · subst q e1
    obtain ⟨ov, e2, b, ws, e3, h1, h2, h3, h4⟩ := r.sl j _ hi
    rw [es] at e2
    cases e2
    cases e3
    exact ⟨_, es, rfl, ws, _, h1, h2, h3, h4, hP⟩
  · exact r.sl j t e1
/-- an own list as one of which P is known, at an address that is told -/
theorem ss_cup (i : Nat) {P : List CR.D → Prop} {val : S → List CR.D} {k : Addr × S → M (O N B)} (hi : ∀ c, (ρ c)[i]? = some (.ow (val c))) (hk : Ss X W (fun s : Addr × S => (ρ s.2).set i (.ab s.1 P)) G.up ss k) : Ss X W ρ G ss fun c => M.bind (M.must (P (val c))) fun _ => M.bind (M.any fun _ : Addr => True) fun a => k (a, c) := by
  refine PSs.imp hk fun D σ H ⟨c, U, T, r, hP, q⟩ => ?_
  obtain ⟨a, ws, es, h1, h2, h3, h4⟩ := r.ow (hi c)
  have oa : OwnAt (ρ c) σ i a := ⟨_, hi c, rfl, es⟩
  have r' : Rep X.K U T H ((ρ c).set i (.ab a P)) σ := by
    have old : ∀ {j : Nat} {x : Addr}, OwnAt ((ρ c).set i (.ab a P)) σ j x → OwnAt (ρ c) σ j x := fun {j x} ⟨t, e, ho', e2⟩ => by
      rcases set_get e with ⟨q, e1, l⟩ | ⟨q, e1⟩
      · subst q; exact ⟨_, hi c, rfl, e2⟩
      · exact ⟨t, e1, ho', e2⟩
    refine ⟨by rw [List.length_set]; exact r.len, fun j t e => ?_, fun j k x n hj hk => r.ne j k x n (old hj) (old hk), r.uok, r.tok, r.ut⟩
    rcases set_get e with ⟨q, e1, l⟩ | ⟨q, e1⟩
    · subst q e1
      exact ⟨_, es, rfl, ws, _, h1, h2, h3, h4, hP⟩
    · exact r.sl j t e1
  exact tS.of (c1 := (a, c)) (ρ := fun s : Addr × S => (ρ s.2).set i (.ab s.1 P)) (G := G.up) r r' (.of (.refl _ _)) rfl (q a trivial) fun o z => z
/-- d[i] of a list whose items are told -/
theorem ee_ixab (g : GX X W p) (i : Nat) {x : Str} {q pos : Pos} {a : Addr} {val : S → List CR.D} {b : Expr} {mb : S → M CR.D} (hN : p.N[i]? = some x) (hv : p.vis.contains i = true) (hi : ∀ c, (ρ c)[i]? = some (.ab a fun ys => ys = val c)) (hb : Ee X W ρ b mb) (hs : PlainIx b := by exact fun _ _ => rfl) :
    Ee X W ρ (.Subscript (.Name x q) b pos) fun c => M.bind (mb c) fun y => M.opt (getD (.lst (val c)) y) := by
  have pv : PE X (.Name x q) (tVar i) := pe_var (g.n hN) (g.vis hN hv) (g.ck.vis hN hv).2.1 (g.ck.vis hN hv).2.2
  refine PE.imp (pe_ix ix_seq pv hb hs) fun σ H Q ⟨c, U, T, r, q⟩ => ?_
  obtain ⟨es, _⟩ := r.ab (hi c)
  refine ⟨_, es, c, U, T, r, (mb c).mono (fun d2 q2 v2 H2 r2 p2 e2 => ?_) (fun _ z => z) q⟩
  obtain ⟨d, hd, q3⟩ := opt_wp q2
  obtain ⟨es', ws, xs, h1, h2, h3, h4, h5⟩ := r2.ab (hi c)
  subst h5
  cases d2 <;> first | cases hd | skip
  rename_i k
  have hd' : atI (val c) k = some d := hd
  obtain ⟨v, e3, h6⟩ := atI_rps h3 hd'
  exact .inl ⟨a, ws, k, v, rfl, p2, .inl (.inl h1), e3, q3 v H2 r2 h6 e2⟩
theorem sp_setIab (g : GX X W p) (i : Nat) {x : Str} {ie e : Expr} {q p1 pos : Pos} {a : Addr} {val : S → List CR.D} {m n : S → M CR.D} (hN : p.N[i]? = some x) (hv : p.vis.contains i = true) (hi : ∀ c, (ρ c)[i]? = some (.ab a fun ys => ys = val c)) (h : Ee X W ρ e m) (k : Ee X W ρ ie n)
    (ha : ∀ v, assign (.Subscript (.Name x q) ie p1) X.env v = (do
      let ov ← holding [v] (eval (.Name x q) X.env)
      let iv ← holding [v, ov] (eval ie X.env)
      standAt p1
      holding [v, ov, iv] (setItem ov iv v)
      release [v, ov, iv] []) := by intro _; rfl)
    (hs : swapsWithSole [.Subscript (.Name x q) ie p1] e pos.line X.env = pure false := by rfl) (hw : swappedStores [.Subscript (.Name x q) ie p1] e X.env = pure none := by rfl)
    (h1 : (assignEach [.Subscript (.Name x q) ie p1] X.env).map (·.2) = [assign (.Subscript (.Name x q) ie p1) X.env] := by rfl) :
    Sp X W ρ (fun s : (CR.D × Nat) × S => (ρ s.2).set i (.ab a fun ys => ys = (val s.2).set s.1.2 s.1.1)) (.Assign [.Subscript (.Name x q) ie p1] e pos) fun c => M.bind (m c) fun d => M.bind (n c) fun j => M.bind (M.opt (setAt (val c) j)) fun j => M.pure (d, j) := by
  have pv : PE X (.Name x q) (tVar i) := pe_var (g.n hN) (g.vis hN hv) (g.ck.vis hN hv).2.1 (g.ck.vis hN hv).2.2
  refine PS.imp (ps_asg h (pg_sub pv k set_list ha) hs hw h1) fun Dn σ H ⟨c, U, T, r, q⟩ => ?_
  refine ⟨c, U, T, r, (m c).mono (fun d q1 v H1 r1 p1 e1 => ?_) (fun _ z => z.wx) q⟩
  obtain ⟨es, _⟩ := r1.ab (hi c)
  refine ⟨_, es, c, U, T, r1, (n c).mono (fun j q2 w H2 r2 p2 e2 => ?_) (fun _ z => wx.ext e1 z.wx) q1⟩
  obtain ⟨es', ws, xs, ha', ta, rp', hl', h5⟩ := r2.ab (hi c)
  subst h5
  obtain ⟨k, hk, q3⟩ := opt_wp q2
  cases j <;> first | cases hk | skip
  rename_i z
  have hk' : ixN (val c).length z = some k := hk
  refine ⟨a, ws, z, k, rfl, p2, ha', by rw [rps_len rp']; exact hk', ?_⟩
  have rv := p1.go (e2.bears r1.tok)
  have hnew : Rps X.K H2 (fun b => U b ∨ T b) ((val c).set k d) (ws.set k v) := rps_set k rp' rv
  have r2a : Rep X.K U T H2 ((ρ c).set i (.ow (val c))) σ := r2.reslot (hi c) rfl fun ov ok => by
    obtain ⟨e, ws, xs, h1, h2, h3, h4, h5⟩ := ok
    subst h5
    exact ⟨a, ws, e, h1, h2, h3, h4⟩
  have hlen : i < (ρ c).length := (List.getElem?_eq_some_iff.mp (hi c)).1
  obtain ⟨r3, e3⟩ := r2a.setOw (List.getElem?_set_self hlen) es ha' hnew (by rw [List.length_set]; exact hl')
  rw [List.set_set] at r3
  have r4 := r3.owab (List.getElem?_set_self hlen) es (P := fun ys => ys = (val c).set k d) rfl
  rw [List.set_set] at r4
  exact q3 T σ _ r4 (.of ((e1.trans1 e2).trans1 e3)) rfl
/-! ### defs behind a cup -/
section
variable {P : Program} {w : World} {K : PySem.W.Frag} {mg : Str → Option Value} {base : Heap} {x qual : Str} {params : Arguments} {body : List Stmt} {scope : Scope} {f : Addr} {fd : FuncData} {PC : List CR.D → Prop}
theorem rep_startC {Z : Addr → Prop} {H : Hp} {N : List Str} {ds : List CR.D} {vs : List V} {a : Addr} (hz : ∀ b, Z b → (H b).isSome = true) (za : Z a) (ha : AtP K Z H a PC) (h : Rps K H Z ds vs) (hl : ds.length + 1 ≤ N.length) :
    Rep K (fun b => Z b ∧ b ≠ a) (fun b => b = a) H (.ab a PC :: argS (N.length - 1) ds) (L2.start N (.ref a :: vs)) := by
  have e : vs.length = ds.length := rps_len h
  have he : ∀ b, ((Z b ∧ b ≠ a) ∨ b = a) ↔ Z b := fun b => by
    constructor
    · rintro (z | z)
      · exact z.1
      · rw [z]; exact za
    · intro z
      by_cases q : b = a
      · exact .inr q
      · exact .inl ⟨z, q⟩
  have nown : ∀ {i : Nat} {s : Slot}, (argS (N.length - 1) ds)[i]? = some s → s.own = false := fun {i s} q => by
    unfold argS at q
    rw [List.getElem?_append] at q
    split at q
    · rw [List.getElem?_map] at q
      obtain ⟨d, _, rfl⟩ := Option.map_eq_some_iff.mp q
      rfl
    · rw [List.getElem?_replicate] at q
      split at q
      · cases q; rfl
      · cases q
  obtain ⟨ws, xs, h1, h2, h3, h4⟩ := ha
  have hstart : L2.start N (.ref a :: vs) = some (.ref a) :: (vs.map some ++ List.replicate (N.length - 1 - vs.length) none) := by
    unfold L2.start
    rw [List.map_cons, List.cons_append, List.length_cons]
    congr 3
    omega
  rw [hstart]
  refine ⟨?_, fun i s q => ?_, fun i j b n hi hj => ?_, fun b z => hz b z.1, fun b z => ⟨ws, by rw [z]; exact h1⟩, fun b z u => u.2 z⟩
  · unfold argS
    simp [e]
  · cases i with
    | zero =>
      cases (show some (Slot.ab a PC) = some s from q)
      exact ⟨_, rfl, rfl, ws, xs, h1, rfl, Rps.go (.weak fun b z => (he b).mp z) h2, h3, h4⟩
    | succ i =>
      have q' : (argS (N.length - 1) ds)[i]? = some s := q
      show ∃ ov, (vs.map some ++ List.replicate (N.length - 1 - vs.length) none)[i]? = some ov ∧ _
      unfold argS at q'
      rw [List.getElem?_append] at q' ⊢
      rw [List.length_map] at q' ⊢
      rw [e]
      split at q'
      · rename_i hi
        rw [List.getElem?_map] at q' ⊢
        obtain ⟨d, hd, rfl⟩ := Option.map_eq_some_iff.mp q'
        obtain ⟨v, hv, rp⟩ := rps_get h hd
        rw [if_pos hi, hv]
        exact ⟨some v, rfl, v, rfl, rp.go (.weak fun b z => (he b).mp z)⟩
      · rename_i hi
        rw [if_neg hi]
        rw [List.getElem?_replicate] at q' ⊢
        split at q'
        · rename_i h2
          cases q'
          rw [if_pos h2]
          exact ⟨none, rfl, trivial⟩
        · cases q'
  · have z0 : ∀ {i : Nat}, OwnAt (.ab a PC :: argS (N.length - 1) ds) (some (.ref a) :: (vs.map some ++ List.replicate (N.length - 1 - vs.length) none)) i b → i = 0 := fun {i} ⟨s, q, ho, _⟩ => by
      cases i with
      | zero => rfl
      | succ i =>
        have q' : (argS (N.length - 1) ds)[i]? = some s := q
        rw [nown q'] at ho
        cases ho
    exact n ((z0 hi).trans (z0 hj).symm)
/-- what is behind a return -/
theorem atP_of {Z T' : Addr → Prop} {H' : Hp} {a : Addr} {R : List Slot} {σ : L2.St} (za : Z a) (r : Rep K (fun b => Z b ∧ b ≠ a) T' H' (.ab a PC :: R) σ) : AtP K Z H' a PC ∧ AtP K (fun b => (Z b ∧ b ≠ a) ∨ T' b) H' a PC ∧ T' a := by
  obtain ⟨_, ws, xs, h1, h2, h3, h4, h5⟩ := r.ab (i := 0) rfl
  refine ⟨⟨ws, xs, h1, Rps.go (.weak fun b z => ?_) h3, h4, h5⟩, ⟨ws, xs, h1, h3, h4, h5⟩, h2⟩
  by_cases q : b = a
  · rw [q]; exact .inr h2
  · exact .inl ⟨z, q⟩
theorem fnC {S : Type} {p : Cp} {ps : List Str} {k n : Nat} {F : List CR.D → M CR.D} {ρ : Addr → S → List Slot} {m : S → M (O Unit Empty)} (Fd : FunD K x qual params body scope [] [] f fd) (fs : FnScope p.N ps scope) (hb : Blt mg) (hsc : p.sc = scope) (ck : ckB p = true) (hn : ps.length = n + 1) (hnl : n + 1 ≤ p.N.length)
    (mk : ∀ ds : List CR.D, ds.length = n → ∃ c, (∀ a, ρ a c = .ab a PC :: argS (p.N.length - 1) ds) ∧ F ds = M.bind (m c) retD)
    (hbody : ∀ (a : Addr) (X : Cx) (W : WX), GX X W p → DefX P w K mg base k X → Ss X W (ρ a) ⟨.ab a PC :: uns (p.N.length - 1), fun _ (_ : Unit) => .ab a PC :: uns (p.N.length - 1), fun _ (e : Empty) => e.elim⟩ body m) :
    FnOk P w K mg base (L2.CX P w) (k + 1) f fd ps (SpC K mg PC n F) := by
  refine Fd.ok fs (fun vs H Q E ⟨a, us, ds, Z, e, hz, za, ha, rp, l, _⟩ => ?_) fun cdv A outer s H vs Q E hr ⟨a, us, ds, Z, e, hz, za, ha, rp, l, q⟩ => ?_
  · rw [e, List.length_cons, rps_len rp, l, hn]
  subst e
  obtain ⟨gx, dx⟩ := gx_def (P := P) (w := w) (K := K) (base := base) (outer := outer) (H := H) (E := E) hb hsc ck hr
  refine ⟨_, hbody a _ _ gx dx, ?_⟩
  obtain ⟨c, hc, hF⟩ := mk ds l
  rw [hF] at q
  refine ⟨c, _, _, by rw [hc a]; exact rep_startC hz za ha rp (by rw [l]; exact hnl), (m c).mono (fun o z => ?_) (fun y z cls T' σ' H' hm g' tk' l' => ?_) q⟩
  · have same : ∀ {T' : Addr → Prop} {H' : Hp}, Grow (fun b => b = a) H T' H' → ∀ b o, H b = some o → b ≠ a → H' b = some o := fun g b o e n => g.ext b o e n
    have zw : ∀ {T' : Addr → Prop} {H' : Hp} {d : CR.D} {v : V}, T' a → Rp K H' (fun b => (Z b ∧ b ≠ a) ∨ T' b) d v → Rp K H' Z d v := fun {T' H' d v} ta h => h.go (.weak fun b z => by
      by_cases q : b = a
      · rw [q]; exact .inr ta
      · exact .inl ⟨z, q⟩)
    cases o with
    | nx u =>
      intro T' σ' H' r' g' l'
      exact (show ∀ v H', (∀ b o, H b = some o → b ≠ a → H' b = some o) → AtP K Z H' a PC → Rp K H' Z .non v → Q v H' from z) .non H' (same g') (atP_of za r').1 rfl
    | rt d =>
      intro T' v σ' H' r' p' g'
      obtain ⟨a1, _, ta⟩ := atP_of za r'
      exact (show ∀ v H', (∀ b o, H b = some o → b ≠ a → H' b = some o) → AtP K Z H' a PC → Rp K H' Z d v → Q v H' from z) v H' (same g') a1 (zw ta p')
    | rl xs =>
      intro T' b vs' σ' H' r' tb nb hb' p' hl g'
      obtain ⟨a1, _, ta⟩ := atP_of za r'
      refine (show ∀ v H', (∀ b o, H b = some o → b ≠ a → H' b = some o) → AtP K Z H' a PC → Rp K H' Z (.lst xs) v → Q v H' from z) (.ref b) H' (same g') a1 ⟨b, vs', rfl, .inl ⟨hb', fun zb => ?_⟩, Rps.go (.weak fun c z => ?_) p', hl⟩
      · exact r'.ut b tb ⟨zb, nb 0 a PC rfl⟩
      · by_cases q : c = a
        · rw [q]; exact .inr ta
        · exact .inl ⟨z, q⟩
    | bk e => exact e.elim
    | ct e => exact e.elim
  · exact z.elim
end
end
end CR

set_option Elab.async false
set_option linter.all false
set_option maxRecDepth 100000
/-! CR14: try with a handler that tells the class; recursion. -/
namespace CR
open PySem PySem.Spec PyProof.Rows L2
/-! ### the handler's expression: slot i holds the error at a -/
def tH (K : PySem.W.Frag) (i : Nat) (a : Addr) (d : CR.D) : TE := fun σ H Q => σ[i]? = some (some (.ref a)) ∧ ∃ Z : Addr → Prop, (∀ b, Z b → (H b).isSome = true) ∧ ∀ v H', Same H H' → Rp K H' Z d v → Q v H'
def tHA (K : PySem.W.Frag) (i : Nat) (a : Addr) (ds : List CR.D) : TA := fun σ H Q => σ[i]? = some (some (.ref a)) ∧ ∃ Z : Addr → Prop, (∀ b, Z b → (H b).isSome = true) ∧ ∀ vs H', Same H H' → Rps K H' Z ds vs → Q vs H'
section
variable {X : Cx} {W : WX} {p : Cp} {i : Nat} {a : Addr}
theorem eh_str {x : Str} {j pos} (h : sokB x = true) : PE X (.Constant (.str x) j pos) (tH X.K i a (.str x)) :=
  PE.imp pe_str fun _ H Q ⟨_, Z, _, q⟩ => q _ H (.refl _) ⟨rfl, sok_of h⟩
theorem eh_ift {t x y : Expr} {pos : Pos} {d : CR.D} (ht : PE X t (tH X.K i a (.bl true))) (hx : PE X x (tH X.K i a d)) (hy : ∃ u, PE X y u) (he : ∀ whole, isTrue t X.env whole = (do let v ← whole; standAt t.pos; holding [v] (truthy v)) := by intro _; rfl) : PE X (.IfExp t x y pos) (tH X.K i a d) := by
  obtain ⟨u, hy⟩ := hy
  refine PE.imp (pe_ifExp (pt_val ht he) hx hy) fun σ H Q ⟨e, Z, hz, q⟩ => ?_
  refine ⟨e, Z, hz, fun v H' s h => ⟨true, h, ?_⟩⟩
  exact iteT ⟨e, Z, fun b z => by
    obtain ⟨o, eo⟩ := Option.isSome_iff_exists.mp (hz b z)
    rw [s b o eo]; rfl, fun v' H'' s' h' => q v' H'' (s.trans s') h'⟩
theorem eh_iff {t x y : Expr} {pos : Pos} {d : CR.D} (ht : PE X t (tH X.K i a (.bl false))) (hx : ∃ u, PE X x u) (hy : PE X y (tH X.K i a d)) (he : ∀ whole, isTrue t X.env whole = (do let v ← whole; standAt t.pos; holding [v] (truthy v)) := by intro _; rfl) : PE X (.IfExp t x y pos) (tH X.K i a d) := by
  obtain ⟨u, hx⟩ := hx
  refine PE.imp (pe_ifExp (pt_val ht he) hx hy) fun σ H Q ⟨e, Z, hz, q⟩ => ?_
  refine ⟨e, Z, hz, fun v H' s h => ⟨false, h, ?_⟩⟩
  exact iteF ⟨e, Z, fun b z => by
    obtain ⟨o, eo⟩ := Option.isSome_iff_exists.mp (hz b z)
    rw [s b o eo]; rfl, fun v' H'' s' h' => q v' H'' (s.trans s') h'⟩
theorem eh_nil : PA X [] (tHA X.K i a []) := PA.imp pa_nil fun _ H Q ⟨_, Z, _, q⟩ => q [] H (.refl _) rfl
theorem eh_cons {e : Expr} {es : List Expr} {d : CR.D} {ds : List CR.D} (h : PE X e (tH X.K i a d)) (k : PA X es (tHA X.K i a ds)) (hs : starEach (e :: es) X.env = (false, eval e X.env) :: starEach es X.env := by rfl) : PA X (e :: es) (tHA X.K i a (d :: ds)) := by
  refine PA.imp (pa_cons h k hs) fun σ H Q ⟨e, Z, hz, q⟩ => ?_
  refine ⟨e, Z, hz, fun v H' s h => ⟨e, Z, fun b z => ?_, fun vs H'' s' h' => q (v :: vs) H'' (s.trans s') ⟨v, vs, rfl, h.go (.same s' fun _ z => z), h'⟩⟩⟩
  obtain ⟨o, eo⟩ := Option.isSome_iff_exists.mp (hz b z)
  rw [s b o eo]; rfl
theorem eh_lst {es : List Expr} {pos : Pos} {ds : List CR.D} (h : PA X es (tHA X.K i a ds)) (hl : Nat.ble ds.length 1000 = true) : PE X (.List es pos) (tH X.K i a (.lst ds)) := by
  have hl' : ds.length ≤ sizeLine := Nat.le_trans (Nat.le_of_ble_eq_true hl) (by decide)
  refine PE.imp (pe_lst h) fun σ H Q ⟨e, Z, hz, q⟩ => ?_
  refine ⟨e, Z, hz, fun vs H' s h' => ⟨by rw [rps_len h']; exact hl', fun p hp => ?_⟩⟩
  refine q (.ref p) _ (s.trans (same_new hp)) (rp_new_lst (fun b z => ?_) hp h' hl')
  obtain ⟨o, eo⟩ := Option.isSome_iff_exists.mp (hz b z)
  rw [s b o eo]; rfl
/-- isinstance(e, C) -/
theorem eh_is (g : GX X W p) (j k : Nat) {n cn : Str} {q1 q2 q3 pos : Pos} {D C : Addr} {b : Bool} (cr : CallR X (.builtin "isinstance") (rIsE X.K D a)) (hG : p.G[j]? = some "isinstance") (hG2 : p.G[k]? = some cn) (hN : p.N[i]? = some n) (hv : p.vis.contains i = true) (gC : X.mg cn = some (.ref C)) (hk : PySem.W.kitOne X.K (.ref D) (.ref C) = some b)
    (hs : starEach [.Name n q2, .Name cn q3] X.env = (false, eval (.Name n q2) X.env) :: starEach [.Name cn q3] X.env := by rfl) (hs2 : starEach [.Name cn q3] X.env = (false, eval (.Name cn q3) X.env) :: starEach [] X.env := by rfl)
    (hpl : (backTo pos (starEach [.Name cn q3] X.env)).any (·.1) = false := by rfl) : PE X (.Call (.Name "isinstance" q1) [.Name n q2, .Name cn q3] [] pos) (tH X.K i a (.bl b)) := by
  refine PE.imp (pe_callB cr (g.gl hG) (g.blt.of (by decide +kernel)) boot_isinstance (pa_cons (pe_var (g.n hN) (g.vis hN hv) (g.ck.vis hN hv).2.1 (g.ck.vis hN hv).2.2) (pa_cons (pe_glob (v := V.ref C) (g.gl hG2) gC rfl (g.ck.gl hG2).2.1) pa_nil hs2) hs) (by decide +kernel) (by decide +kernel) hs hpl) fun σ H Q ⟨e, Z, hz, q⟩ => ?_
  exact ⟨_, e, .ref C, .ref C, b, rfl, fun u h => h, hk, q _ H (.refl _) rfl⟩
end
def AllP {α : Type} (P : α → Prop) : List α → Prop
  | [] => True
  | x :: r => P x ∧ AllP P r
theorem allP {α : Type} {P : α → Prop} : ∀ {l : List α} {x : α}, AllP P l → x ∈ l → P x
  | _ :: _, _, h, m => (List.mem_cons.mp m).elim (fun e => by rw [e]; exact h.1) fun m => allP h.2 m
section
variable {X : Cx} {W : WX} {p : Cp} {S : Type} {ρ : S → List Slot} {N B : Type} {G : Sg S N B} {st : Stmt} {ss : List Stmt}
theorem lookup_mem {tb : List (Str × CR.D)} {y : Str} {d : CR.D} (h : tb.lookup y = some d) : (y, d) ∈ tb := by
  induction tb with
  | nil => cases h
  | cons q r ih =>
    obtain ⟨z, e⟩ := q
    rw [List.lookup_cons] at h
    cases b : y == z with
    | true =>
      rw [b] at h
      have e1 : y = z := by simpa using b
      cases h
      rw [e1]
      exact List.mem_cons_self
    | false =>
      rw [b] at h
      exact List.mem_cons_of_mem _ (ih h)
/-- try: body / except Err as n: return e; rest. tb: what is returned, by the class's name -/
theorem ss_tryR (g : GX X W p) (tx : TopX X) (i : Nat) (tb : List (Str × CR.D)) {x n : Str} {c : Value} {np pos pos' rp : Pos} {body : List Stmt} {e : Expr} {mb : S → M (O Unit Empty)} {k : S → M (O N B)}
    (hN : p.N[i]? = some n) (hln : p.isl.contains i = true) (hc : Names X x c) (hR : G.R = uns p.N.length) (hl : ∀ c, (ρ c).length = p.N.length)
    (hb : ∀ (W' : WX) (pn : List (Addr × Obj)) (xe : Value → Shared → Prop), GX (X.tr pn xe) W' p → Ss (X.tr pn xe) W' ρ ⟨G.R, fun c (_ : Unit) => ρ c, fun _ (e : Empty) => e.elim⟩ body mb)
    (hsu : AllP (fun q => ∃ C, X.mg q.1 = some (.ref C) ∧ PySem.W.exmOne X.K (.ref C) c = some true ∧ ∀ (a : Addr) (oe : Obj) (pn : List (Addr × Obj)), Zc (.ref C) none oe → (∃ vs, oe.data = .fields vs) → GX (X.suite a ((a, oe) :: pn)) WF p.su → PE (X.suite a ((a, oe) :: pn)) e (tH X.K i a q.2)) tb)
    (hk : Ss X W ρ G ss k) :
    Ss X W ρ G (.Try body [.ExceptHandler (some (.Name x np)) (some n) [.Return (some e) rp] pos'] [] [] pos :: ss) fun c => tryE (mb c) (fun y => tb.lookup y) (k c) := by
  let ts : Addr → Value → Option Addr → TS := fun a cls d D σ H => ∃ q, q ∈ tb ∧ X.mg q.1 = some cls ∧ d = none ∧ tRet (tH X.K i a q.2) D σ H
  refine PSs.imp (pss_cons (ps_try_as (tb := fun W' => tS X W' ρ ⟨G.R, fun c (_ : Unit) => ρ c, fun _ (e : Empty) => e.elim⟩ mb) (ts := ts) (i := i) tx.stk tx.frm g.nd (g.n hN) (g.isl hN hln) hc g.tk ?_ ?_) hk) fun Dn σ H ⟨c, U, T, r, q⟩ => ?_
  · intro W' pn xe tk ps
    exact hb W' pn xe (g.tr tk ps)
  · intro a oe cls d pn hz hv
    refine ⟨fun pins s σ H D I ⟨q, hq, hm, hd0, h⟩ => ?_⟩
    subst hd0
    obtain ⟨C, gC, _, hE⟩ := allP hsu hq
    rw [gC] at hm
    cases hm
    exact (pss_one (ps_ret (hE a oe pn hz hv (g.su g.hu)))).run pins s σ H D I h
  · refine ⟨c, U, T, r, (mb c).mono (fun o z => ?_) (fun y ⟨d, ey, z⟩ cls T' σ' H' hm g' tk' l' => ?_) q⟩
    · cases o with
      | nx u => exact fun T' σ' H' r' g' l' => tS.of (c1 := c) r r' g' l' z fun o z => z
      | rt d => exact z
      | rl xs => exact z
      | bk e => exact e.elim
      | ct e => exact e.elim
    · have mm := lookup_mem ey
      obtain ⟨C, gC, hx, _⟩ := allP hsu mm
      have gC' : X.mg y = some (.ref C) := gC
      rw [gC'] at hm
      cases hm
      refine ⟨true, hx, fun _ a ha => ⟨(y, d), mm, gC', rfl, ?_⟩, fun z => by cases z⟩
      have hi : i < σ'.length := by
        rw [l', r.len, hl]
        exact (List.getElem?_eq_some_iff.mp hN).1
      have uk : ∀ b, U b → (H' b).isSome = true := fun b u => by
        obtain ⟨o, e⟩ := Option.isSome_iff_exists.mp (r.uok b u)
        rw [g'.ext b o e fun t => r.ut b t u]
        rfl
      refine ⟨List.getElem?_set_self hi, fun b => U b ∨ T' b, fun b zb => ?_, fun v H'' s h => ?_⟩
      · rcases zb with zb | zb
        · exact uk b zb
        · obtain ⟨vs, e⟩ := tk' b zb
          rw [e]; rfl
      · have z' : ∀ T' v σ' H', Rep X.K U T' H' G.R σ' → Rp X.K H' (fun a => U a ∨ T' a) d v → Grow T H T' H' → Dn.rt v H' := z
        refine z' T' v σ' H'' ?_ h (g'.trans r (.of (.of s)) tk')
        rw [hR]
        refine rep_uns (by rw [l', r.len, hl]) (fun b u => ?_) (fun b t => ?_) (fun b t u => ?_)
        · obtain ⟨o, e⟩ := Option.isSome_iff_exists.mp (uk b u)
          rw [s b o e]; rfl
        · obtain ⟨vs, e⟩ := tk' b t
          exact ⟨vs, s b _ e⟩
        · rcases g'.nw b t with t | e
          · exact r.ut b t u
          · have e2 := r.uok b u
            rw [e] at e2; cases e2
/-- the slots written out anew -/
theorem ss_rho {k : S → M (O N B)} (ρ' : S → List Slot) (h : ρ' = ρ) (hk : Ss X W ρ' G ss k) : Ss X W ρ G ss k := by
  subst h
  exact hk
/-! ### a def that calls itself, to a depth -/
theorem callF_rec {P : Program} {w : World} {K : PySem.W.Frag} {mg : Str → Option Value} {base : Heap} {x : Str} {kb : Nat} {f : Addr} {fd : FuncData} {ps : List Str} {sp : Nat → L2.Sp} (hm : mg x = some (.ref f)) (kp : PySem.W.keepIn K (.ref f) = true) (bn : Binds K fd ps [])
    (h0 : ∀ vs H Q E, ¬ sp 0 vs H Q E) (step : ∀ n, CallF P w K mg base x (kb + n) (sp n) → FnOk P w K mg base (L2.CX P w) (kb + (n + 1)) f fd ps (sp (n + 1))) : ∀ n, CallF P w K mg base x (kb + n) (sp n)
  | 0 => ⟨⟨f, fd, ps, ⟨fun vs H Q E h => (h0 vs H Q E h).elim, fun _ _ _ _ _ _ _ _ _ _ _ _ _ h => (h0 _ _ _ _ h).elim⟩, hm, kp, bn⟩⟩
  | n + 1 => ⟨⟨f, fd, ps, step n (callF_rec hm kp bn h0 step n), hm, kp, bn⟩⟩
end
/-- the laws' cup: two whole numbers -/
def cupP (xs : List CR.D) : Prop := ∃ i j : Int, xs = [.int i, .int j] ∧ 0 ≤ i ∧ 0 ≤ j ∧ j < 2147483489
end CR

set_option Elab.async false
set_option linter.all false
set_option maxRecDepth 100000
/-! CR15: what stands behind the top. -/
namespace CR
open PySem PySem.Spec PyProof.Rows L2
/-- a module's constant, in K -/
def GlobK (K : PySem.W.Frag) (mg : Str → Option Value) (x : Str) (d : CR.D) : Prop := ∃ u v, mg x = some u ∧ RelV v u ∧ ∀ H Z, Rp K H Z d v
mutual
def datB (K : PySem.W.Frag) : Value → CR.D → Bool
  | u, .non => (match u with
    | .none => true
    | _ => false)
  | u, .bl b => (match u with
    | .bool c => decide (c = b)
    | _ => false)
  | u, .int i => (match u with
    | .int j _ => decide (j = i)
    | _ => false)
  | u, .str x => (match u with
    | .str y _ => decide (y = x) && sokB x
    | _ => false)
  | u, .tup ds => (match u with
    | .ref a => (match K.lookup a with
      | some ⟨.type c, _, .seq its _, _⟩ => decide (c = "tuple") && (decide (its.size ≤ sizeLine) && datsB K its.toList ds)
      | _ => false)
    | _ => false)
  | _, .lst _ => false
def datsB (K : PySem.W.Frag) : List Value → List CR.D → Bool
  | us, [] => us.isEmpty
  | us, d :: ds => (match us with
    | u :: us => datB K u d && datsB K us ds
    | [] => false)
end
mutual
theorem datB_ok {K : PySem.W.Frag} : ∀ {d : CR.D} {u : Value}, datB K u d = true → ∃ v, RelV v u ∧ ∀ H Z, Rp K H Z d v
  | .non, u, h => by
    cases u <;> first | (simp [datB] at h; done) | skip
    exact ⟨.non, rfl, fun _ _ => rfl⟩
  | .bl b, u, h => by
    cases u <;> first | (simp [datB] at h; done) | skip
    rename_i c
    have e : c = b := by simpa [datB] using h
    subst e
    exact ⟨.bl c, rfl, fun _ _ => rfl⟩
  | .int i, u, h => by
    cases u <;> first | (simp [datB] at h; done) | skip
    rename_i j t
    have e : j = i := by simpa [datB] using h
    subst e
    exact ⟨.int j, ⟨t, rfl⟩, fun _ _ => rfl⟩
  | .str x, u, h => by
    cases u <;> first | (simp [datB] at h; done) | skip
    rename_i y t
    have e : y = x ∧ sokB x = true := by simpa [datB] using h
    obtain ⟨e1, e2⟩ := e
    subst e1
    exact ⟨.str y, ⟨t, rfl⟩, fun _ _ => ⟨rfl, sok_of e2⟩⟩
  | .tup ds, u, h => by
    cases u <;> first | (simp [datB] at h; done) | skip
    rename_i a
    have h' : (match K.lookup a with
      | some ⟨.type c, _, .seq its _, _⟩ => decide (c = "tuple") && (decide (its.size ≤ sizeLine) && datsB K its.toList ds)
      | _ => false) = true := by
      simpa only [datB] using h
    split at h'
    · rename_i c od its n osl e
      simp only [Bool.and_eq_true, decide_eq_true_eq] at h'
      obtain ⟨h1, h2, h3⟩ := h'
      obtain ⟨vs, k1, k2⟩ := datsB_ok h3
      have hl : ds.length ≤ sizeLine := by
        have e1 := rps_len (k2 (fun _ => none) fun _ => False)
        have e2 : vs.length = its.size := by simpa using k1.length
        rw [← e1, e2]; exact h2
      exact ⟨.ref a, rfl, fun H Z => ⟨a, vs, rfl, .inr ⟨_, its, n, e, congrArg Value.type h1, rfl, h2, k1⟩, k2 H Z, hl⟩⟩
    · cases h'
  | .lst _, _, h => by simp [datB] at h
theorem datsB_ok {K : PySem.W.Frag} : ∀ {ds : List CR.D} {us : List Value}, datsB K us ds = true → ∃ vs, Vals vs us ∧ ∀ H Z, Rps K H Z ds vs
  | [], us, h => by
    cases us with
    | nil => exact ⟨[], .nil, fun _ _ => rfl⟩
    | cons _ _ => simp [datsB] at h
  | d :: ds, us, h => by
    cases us with
    | nil => simp [datsB] at h
    | cons u us =>
      have h' : datB K u d = true ∧ datsB K us ds = true := by simpa [datsB] using h
      obtain ⟨v, r, k⟩ := datB_ok h'.1
      obtain ⟨vs, r2, k2⟩ := datsB_ok h'.2
      exact ⟨v :: vs, .cons r r2, fun H Z => ⟨v, vs, rfl, k H Z, k2 H Z⟩⟩
end
def globB (K : PySem.W.Frag) (x : Str) (d : CR.D) : Bool := match PySem.W.nsIn K mainGlobals x with
  | some (some u) => datB K u d
  | _ => false
theorem globB_ok {K : PySem.W.Frag} {h : Heap} {mg : Str → Option Value} {x : Str} {d : CR.D} (X : K.In h) (G : h.Ns mainGlobals mg) (c : globB K x d = true) : GlobK K mg x d := by
  unfold globB at c
  split at c
  · rename_i u e
    obtain ⟨v, r, k⟩ := datB_ok c
    exact ⟨u, v, PySem.W.mg_of X G e, r, k⟩
  · cases c
def bltB (K : PySem.W.Frag) : Bool := bltNames.all fun x => (He.Fa.free x).ok K
theorem bltB_ok {K : PySem.W.Frag} {h : Heap} {mg : Str → Option Value} (X : K.In h) (G : h.Ns mainGlobals mg) (c : bltB K = true) : Blt mg := fun x hx => He.free_ok X G (List.all_eq_true.mp c x hx)
def excB (K : PySem.W.Frag) (D : Addr) : Bool := He.eqO (PySem.W.findIn K (.ref D) "__getattribute__") (some (some (.builtin "BaseException.__getattribute__"))) && (He.eqO (PySem.W.findIn K (.ref D) "__getattr__") (some none) && (decide (PySem.W.subIn K (.ref D) (.type "BaseException") = some true) &&
  (PySem.W.hasDictIn K D && (He.eqO (PySem.W.findIn K (.ref D) "__class__") (some (some (.builtin "object.__class__"))) && (He.eqO (PySem.W.specialIn K (.builtin "object.__class__") "__get__") (some (some (.builtin "getset_descriptor.__get__"))) && (decide (PySem.W.takesIn K (.builtin "object.__class__") = some true) && decide (PySem.W.mroIn K D (.type "object") = some true)))))))
theorem excB_ok {K : PySem.W.Frag} {D : Addr} (c : excB K D = true) : ExcC K D := by
  unfold excB at c
  simp only [Bool.and_eq_true, decide_eq_true_eq] at c
  obtain ⟨h1, h2, h3, h4, h5, h6, h7, h8⟩ := c
  exact ⟨He.eqO_ok h1, He.eqO_ok h2, h3, h4, He.eqO_ok h5, He.eqO_ok h6, h7, h8⟩
/-- the head's Hook, with a test of one's own -/
def obsX (n : Nat) (fa : List He.Fa) (fn : List He.DefD) (ex : PySem.W.Frag → Bool) (g : Addr → Option Obj) : He.AlD × Bool := (He.obsD fa fn (He.frG g (He.asD g n)), ex (He.frG g (He.asD g n)))
def hookX (n : Nat) (fa : List He.Fa) (fn : List He.DefD) (ex : PySem.W.Frag → Bool) : PySem.W.Hook where
  α := He.AlD × Bool
  obs := fun s => obsX n fa fn ex s.heap.get?
  val := fun _ => (He.valD fn, true)
  says := fun _ h => ∃ K : PySem.W.Frag, K.In h ∧ He.SaysD fa fn K ∧ ex K = true
  of := fun _ _ e => ⟨_, He.frG_in, congrArg (fun z : He.AlD × Bool => z.1) e, congrArg (fun z : He.AlD × Bool => z.2) e⟩
  keeps := fun _ _ _ ⟨K, hK, c⟩ k => ⟨K, PySem.W.Frag.In.keeps hK k, c⟩
theorem obsX_eq {n : Nat} {fa : List He.Fa} {fn : List He.DefD} {ex : PySem.W.Frag → Bool} {g : Addr → Option Obj} {s : Shared} (h : ∀ a, g a = s.heap.get? a) : obsX n fa fn ex g = (hookX n fa fn ex).obs s := by
  have e : g = s.heap.get? := funext h
  rw [e] <;> rfl
/-- no list stands in K -/
def noLstB (K : PySem.W.Frag) : Bool := K.all fun p => match p.2.cls with
  | .type c => !(c == "list")
  | _ => true
theorem noLst {K : PySem.W.Frag} (h : noLstB K = true) {a : Addr} {o : Obj} (e : K.lookup a = some o) (c : o.cls = .type "list") : False := by
  have m : (a, o) ∈ K := by
    clear h
    induction K with
    | nil => cases e
    | cons q r ih =>
      obtain ⟨b, u⟩ := q
      rw [List.lookup_cons] at e
      cases hb : a == b with
      | true =>
        rw [hb] at e
        have e1 : a = b := by simpa using hb
        cases e
        rw [e1]
        exact List.mem_cons_self
      | false =>
        rw [hb] at e
        exact List.mem_cons_of_mem _ (ih e)
  have := List.all_eq_true.mp h _ m
  rw [c] at this
  simp at this
theorem spd_law {K : PySem.W.Frag} {mg : Str → Option Value} {F : List CR.D → M CR.D} (hnl : noLstB K = true) (hF : ∀ ns : List Int, ns.length ≤ 63 → (F [.lst (ns.map CR.D.int)]).wp (fun d => d = .bl true) fun _ => False) :
    ∀ (H : Hp) (a : Addr) (ns : List Int), ns.length ≤ 63 → Only H → SqL K H a (ns.map V.int) → SpD K mg 1 F [.ref a] H (fun v _ => v = .bl true) fun _ _ _ => False := fun H a ns hl hO hS => by
  have fz : FzL K H (fun _ => False) a (ns.map V.int) := by
    rcases hS with (h | h) | ⟨o, its, n, hk, hc, _⟩
    · exact .inl ⟨h, id⟩
    · exact .inr h
    · exact (noLst hnl hk hc).elim
  refine ⟨[.lst (ns.map CR.D.int)], fun _ => False, fun _ z => z.elim, ⟨_, [], rfl, ⟨a, _, rfl, fz, rps_rng ns, by rw [List.length_map, sizeLine_eq]; omega⟩, rfl⟩, rfl, ?_⟩
  refine (F _).mono (fun d e v H' _ h => ?_) (fun _ z => z.elim) (hF ns hl)
  subst e
  exact h
theorem cx_law {P : Program} {w : World} (H : Hp) (s : Shared) (e : Value) (s' : Shared) (h : L2.CX P w [] H s (fun _ _ _ => False) e s') : False := by
  obtain ⟨_, _, _, _, _, _, _, _, _, _, _, _, z⟩ := h
  exact z.elim
theorem walk_ofW {l : PySem.W.OpenLaw} {n k : Nat} {q : Program} {loose : List Str} {XP : (Str → Option Value) → Heap → Prop} {YP : World → Heap → Prop} {d : DefRec} {CX : World → CXT} {x : Str}
    (hn : l.most = some n) (hn2 : n ≤ sizeLine) (hdf : d.params.defaults = []) (hr : Room k callerA)
    (F : ∀ (w : World) (mg : Str → Option Value) (fa : Addr) (h : Heap), YP w h → h.Ns mainGlobals mg → mg d.name = some (.ref fa) →
      ∃ (K : PySem.W.Frag) (fd : FuncData) (sp : L2.Sp), K.In h ∧ (∀ (s : Shared) (u : Value), BindsTo s fd ⟨[u], []⟩ [(x, u)]) ∧
        (∀ (H : Hp) (a : Addr) (ns : List Int), ns.length ≤ n → Only H → SqL K H a (ns.map V.int) → sp [.ref a] H (fun v _ => v = .bl true) fun _ _ _ => False) ∧
        ∀ base : Heap, K.In base → base.Ns mainGlobals mg → FnOk l.prog w K mg base (CX w) k fa fd [x] sp)
    (hCX : ∀ (w : World) (H : Hp) (s : Shared) (e : Value) (s' : Shared), CX w [] H s (fun _ _ _ => False) e s' → False) :
    PySem.W.WalkO q loose XP YP l.row.toRowW d [] (fun f vs => PySem.call f vs) := by
  refine Att.attach_call hn hdf fun w s₀ s₁ mg mb fa o pm cd doc a vs ns G Y ho hd hcd hmg hobj hints hlen hg => ?_
  obtain ⟨K, fd, sp, KX, hb, hsp, hF⟩ := F w mg fa _ Y G.T.g hmg
  exact law_call KX G.T.g G.T.b G.T.builtins G.T.nolimit hg hobj hints (Nat.le_trans hlen hn2) hr hF hb (fun H hO hS => hsp H a ns hlen hO hS) fun H e s' => hCX w H s₁ e s'
end CR

set_option Elab.async false
set_option linter.all false
set_option maxRecDepth 100000
/-! CR16: mirrors that can be run. -/
namespace CR
open PySem PySem.Spec
inductive R (α : Type) where
  | ok (a : α) | exc (x : Str) | stuck
namespace R
variable {α β : Type}
def pure (a : α) : R α := .ok a
def bind (m : R α) (f : α → R β) : R β := match m with
  | .ok a => f a
  | .exc x => .exc x
  | .stuck => .stuck
def raise (x : Str) : R α := .exc x
def opt : Option α → R α
  | some a => .ok a
  | none => .stuck
def ite (b : Bool) (x y : R α) : R α := match b with
  | true => x
  | false => y
def guard (b : Bool) : R Unit := match b with
  | true => .ok ()
  | false => .stuck
def nox (m : R α) : R α := match m with
  | .ok a => .ok a
  | _ => .stuck
def to (r : R α) : M α := match r with
  | .ok a => M.pure a
  | .exc x => M.raise x
  | .stuck => M.stuck
end R
/-- what r says, m keeps -/
def Rel {α : Type} (m : M α) (r : R α) : Prop := ∀ Q E, r.to.wp Q E → m.wp Q E
section
variable {α β : Type}
theorem rel_pure {a : α} : Rel (M.pure a) (R.pure a) := fun _ _ h => h
theorem rel_raise {x : Str} : Rel (M.raise x : M α) (R.raise x) := fun _ _ h => h
theorem rel_opt {o : Option α} : Rel (M.opt o) (R.opt o) := fun _ _ h => by cases o <;> exact h
theorem rel_guard {b : Bool} : Rel (M.guard b) (R.guard b) := fun _ _ h => by cases b <;> exact h
theorem rel_bind {m : M α} {r : R α} {f : α → M β} {g : α → R β} (h : Rel m r) (k : ∀ a, Rel (f a) (g a)) : Rel (M.bind m f) (R.bind r g) := fun Q E q => by
  refine h _ E ?_
  cases r with
  | ok a => exact k a Q E q
  | exc x => exact q
  | stuck => exact q
theorem rel_ite {b : Bool} {x y : M α} {u v : R α} (h : Rel x u) (k : Rel y v) : Rel (M.ite b x y) (R.ite b u v) := by
  cases b
  · exact k
  · exact h
theorem rel_nox {m : M α} {r : R α} (h : Rel m r) : Rel (M.nox m) (R.nox r) := fun Q E q => by
  refine h _ _ ?_
  cases r with
  | ok a => exact q
  | exc x => exact q.elim
  | stuck => exact q
def compR {G : Type} (gm : CR.D → Option G) (t : G → R Bool) (e : G → R CR.D) : List CR.D → R (List CR.D)
  | [] => R.pure []
  | x :: xs => R.bind (R.opt (gm x)) fun g => R.bind (R.nox (t g)) fun b => R.ite b (R.bind (R.nox (e g)) fun y => R.bind (compR gm t e xs) fun ys => R.pure (y :: ys)) (compR gm t e xs)
theorem rel_comp {G : Type} {gm : CR.D → Option G} {t : G → M Bool} {e : G → M CR.D} {t' : G → R Bool} {e' : G → R CR.D} (ht : ∀ g, Rel (t g) (t' g)) (he : ∀ g, Rel (e g) (e' g)) : ∀ xs, Rel (compM gm t e xs) (compR gm t' e' xs)
  | [] => rel_pure
  | x :: xs => rel_bind rel_opt fun g => rel_bind (rel_nox (ht g)) fun b => rel_ite (rel_bind (rel_nox (he g)) fun y => rel_bind (rel_comp ht he xs) fun ys => rel_pure) (rel_comp ht he xs)
def forR {G A : Type} (gm : CR.D → Option G) (f : G → A → R (O A A)) : List CR.D → A → R (O A Empty)
  | [], a => R.pure (.nx a)
  | x :: xs, a => R.bind (R.opt (gm x)) fun g => R.bind (f g a) fun o => match o with
    | .nx b => forR gm f xs b
    | .ct b => forR gm f xs b
    | .bk b => R.pure (.nx b)
    | .rt d => R.pure (.rt d)
    | .rl ys => R.pure (.rl ys)
theorem rel_for {G A : Type} {gm : CR.D → Option G} {f : G → A → M (O A A)} {f' : G → A → R (O A A)} (hf : ∀ g a, Rel (f g a) (f' g a)) : ∀ xs a, Rel (forM gm f xs a) (forR gm f' xs a)
  | [], a => rel_pure
  | x :: xs, a => rel_bind rel_opt fun g => rel_bind (hf g a) fun o => by
    cases o with
    | nx b => exact rel_for hf xs b
    | ct b => exact rel_for hf xs b
    | bk b => exact rel_pure
    | rt d => exact rel_pure
    | rl ys => exact rel_pure
def iterR {A : Type} (t : A → R Bool) (f : A → R (O A A)) : Nat → A → R (O A Empty)
  | 0, _ => .stuck
  | n + 1, a => R.bind (t a) fun b => R.ite b (R.bind (f a) fun o => match o with
    | .nx b => iterR t f n b
    | .ct b => iterR t f n b
    | .bk b => R.pure (.nx b)
    | .rt d => R.pure (.rt d)
    | .rl ys => R.pure (.rl ys)) (R.pure (.nx a))
/-- as many turns as a while may take here -/
def turns : Nat := 1000000
def whileR {A : Type} (t : A → R Bool) (f : A → R (O A A)) (a : A) : R (O A Empty) := iterR t f turns a
theorem rel_iter {A : Type} {t : A → M Bool} {f : A → M (O A A)} {t' : A → R Bool} {f' : A → R (O A A)} (ht : ∀ a, Rel (t a) (t' a)) (hf : ∀ a, Rel (f a) (f' a)) : ∀ n a, Rel (iterM t f n a) (iterR t' f' n a)
  | 0, a => fun _ _ h => h
  | n + 1, a => rel_bind (ht a) fun b => rel_ite (rel_bind (hf a) fun o => by
    cases o with
    | nx b => exact rel_iter ht hf n b
    | ct b => exact rel_iter ht hf n b
    | bk b => exact rel_pure
    | rt d => exact rel_pure
    | rl ys => exact rel_pure) rel_pure
theorem rel_while {A : Type} {t : A → M Bool} {f : A → M (O A A)} {t' : A → R Bool} {f' : A → R (O A A)} (ht : ∀ a, Rel (t a) (t' a)) (hf : ∀ a, Rel (f a) (f' a)) (a : A) : Rel (whileM t f a) (whileR t' f' a) := fun Q E q => ⟨turns, rel_iter ht hf turns a Q E q⟩
def O.nxtR {J N B : Type} (o : O J B) (k : J → R (O N B)) : R (O N B) := match o with
  | .nx j => k j
  | .rt d => R.pure (.rt d)
  | .rl xs => R.pure (.rl xs)
  | .bk b => R.pure (.bk b)
  | .ct b => R.pure (.ct b)
theorem rel_nxt {J N B : Type} {o : O J B} {k : J → M (O N B)} {k' : J → R (O N B)} (h : ∀ j, Rel (k j) (k' j)) : Rel (O.nxt o k) (O.nxtR o k') := by
  cases o with
  | nx j => exact h j
  | rt d => exact rel_pure
  | rl xs => exact rel_pure
  | bk b => exact rel_pure
  | ct b => exact rel_pure
def O.aftR {A N B : Type} (o : O A Empty) (k : A → R (O N B)) : R (O N B) := match o with
  | .nx j => k j
  | .rt d => R.pure (.rt d)
  | .rl xs => R.pure (.rl xs)
  | .bk b => b.elim
  | .ct b => b.elim
theorem rel_aft {A N B : Type} {o : O A Empty} {k : A → M (O N B)} {k' : A → R (O N B)} (h : ∀ j, Rel (k j) (k' j)) : Rel (O.aft o k) (O.aftR o k') := by
  cases o with
  | nx j => exact h j
  | rt d => exact rel_pure
  | rl xs => exact rel_pure
  | bk b => exact b.elim
  | ct b => exact b.elim
def tryR {N B : Type} (b : R (O Unit Empty)) (hd : Str → Option CR.D) (k : R (O N B)) : R (O N B) := match b with
  | .ok (.nx _) => k
  | .ok (.rt d) => R.pure (.rt d)
  | .ok (.rl xs) => R.pure (.rl xs)
  | .ok (.bk e) => e.elim
  | .ok (.ct e) => e.elim
  | .exc y => (match hd y with
    | some d => R.pure (.rt d)
    | none => .stuck)
  | .stuck => .stuck
theorem rel_try {N B : Type} {b : M (O Unit Empty)} {b' : R (O Unit Empty)} {hd : Str → Option CR.D} {k : M (O N B)} {k' : R (O N B)} (h : Rel b b') (hk : Rel k k') : Rel (tryE b hd k) (tryR b' hd k') := fun Q E q => by
  refine h _ _ ?_
  cases b' with
  | ok o =>
    cases o with
    | nx u => exact hk Q E q
    | rt d => exact q
    | rl xs => exact q
    | bk e => exact e.elim
    | ct e => exact e.elim
  | exc y =>
    show ∃ d, hd y = some d ∧ Q (.rt d)
    cases e : hd y with
    | none =>
      have q' : (match hd y with
        | some d => R.pure (CR.O.rt d)
        | none => (.stuck : R (O N B))).to.wp Q E := q
      rw [e] at q'
      exact q'.elim
    | some d =>
      have q' : (match hd y with
        | some d => R.pure (CR.O.rt d)
        | none => (.stuck : R (O N B))).to.wp Q E := q
      rw [e] at q'
      exact ⟨d, rfl, q'⟩
  | stuck => exact q.elim
def retDR {B : Type} : O Unit B → R CR.D
  | .rt d => R.pure d
  | .nx _ => R.pure .non
  | .rl xs => R.pure (.lst xs)
  | _ => .stuck
def retLR {B : Type} : O Unit B → R (List CR.D)
  | .rl xs => R.pure xs
  | _ => .stuck
theorem rel_retD {B : Type} {o : O Unit B} : Rel (retD o) (retDR o) := fun Q E h => by cases o <;> exact h
theorem rel_retL {B : Type} {o : O Unit B} : Rel (retL o) (retLR o) := fun Q E h => by cases o <;> exact h
theorem rel_stuck {m : M α} : Rel m (.stuck : R α) := fun _ _ h => h.elim
/-- r's answer is m's -/
theorem Rel.gives {m : M α} {r : R α} {a : α} (h : Rel m r) (e : r = .ok a) {Q : α → Prop} {E : Str → Prop} (q : Q a) : m.wp Q E := h Q E (by rw [e]; exact q)
end
/-! ### sorted pairs -/
def insP (q : Int × Int) : List (Int × Int) → List (Int × Int)
  | [] => [q]
  | r :: rs => if SrtO.lexB q r then q :: r :: rs else if q = r then r :: rs else r :: insP q rs
def sortP : List (Int × Int) → List (Int × Int)
  | [] => []
  | q :: qs => insP q (sortP qs)
theorem insP_mem (q x : Int × Int) : ∀ l, x ∈ insP q l ↔ x = q ∨ x ∈ l
  | [] => by simp [insP]
  | r :: rs => by
    unfold insP
    split
    · simp
    · split
      · rename_i h; subst h; simp
      · simp only [List.mem_cons, insP_mem q x rs]
        constructor <;> (intro h; rcases h with h | h | h <;> simp [h])
theorem sortP_mem (x : Int × Int) : ∀ l, x ∈ sortP l ↔ x ∈ l
  | [] => by simp [sortP]
  | q :: qs => by unfold sortP; rw [insP_mem, sortP_mem x qs, List.mem_cons]
theorem lexB_trans {a b c : Int × Int} (h : SrtO.lexB a b = true) (k : SrtO.lexB b c = true) : SrtO.lexB a c = true := by
  have h' := SrtO.lexB_iff.mp h
  have k' := SrtO.lexB_iff.mp k
  refine SrtO.lexB_iff.mpr ?_
  omega
theorem lexB_tri (a b : Int × Int) : SrtO.lexB a b = true ∨ a = b ∨ SrtO.lexB b a = true := by
  obtain ⟨a1, a2⟩ := a
  obtain ⟨b1, b2⟩ := b
  by_cases h : a1 = b1 ∧ a2 = b2
  · exact .inr (.inl (by rw [h.1, h.2]))
  · rw [SrtO.lexB_iff, SrtO.lexB_iff]
    simp only
    omega
theorem lexB_irr (a : Int × Int) : SrtO.lexB a a = false := by
  rw [SrtO.lexB_no]
  omega
theorem insP_pw (q : Int × Int) : ∀ l, l.Pairwise (fun q r => SrtO.lexB q r = true) → (insP q l).Pairwise fun q r => SrtO.lexB q r = true
  | [], _ => List.pairwise_singleton _ _
  | r :: rs, h => by
    have h1 := List.pairwise_cons.mp h
    unfold insP
    split
    · rename_i hl
      refine List.pairwise_cons.mpr ⟨fun x hx => ?_, h⟩
      rcases List.mem_cons.mp hx with e | hx
      · rw [e]; exact hl
      · exact lexB_trans hl (h1.1 x hx)
    · rename_i hl
      split
      · exact h
      · rename_i hne
        refine List.pairwise_cons.mpr ⟨fun x hx => ?_, insP_pw q rs h1.2⟩
        rcases (insP_mem q x rs).mp hx with e | hx
        · rw [e]
          rcases lexB_tri q r with z | z | z
          · exact absurd z hl
          · exact absurd z hne
          · exact z
        · exact h1.1 x hx
theorem sortP_pw : ∀ l, (sortP l).Pairwise fun q r => SrtO.lexB q r = true
  | [] => List.Pairwise.nil
  | q :: qs => insP_pw q _ (sortP_pw qs)
theorem sorted_unique : ∀ {l m : List (Int × Int)}, l.Pairwise (fun q r => SrtO.lexB q r = true) → m.Pairwise (fun q r => SrtO.lexB q r = true) → (∀ x, x ∈ l ↔ x ∈ m) → l = m
  | [], [], _, _, _ => rfl
  | [], y :: m, _, _, h => absurd ((h y).mpr List.mem_cons_self) (by simp)
  | x :: l, [], _, _, h => absurd ((h x).mp List.mem_cons_self) (by simp)
  | x :: l, y :: m, hl, hm, h => by
    have l1 := List.pairwise_cons.mp hl
    have m1 := List.pairwise_cons.mp hm
    have exy : x = y := by
      rcases List.mem_cons.mp ((h x).mp List.mem_cons_self) with e | e
      · exact e
      · rcases List.mem_cons.mp ((h y).mpr List.mem_cons_self) with e2 | e2
        · exact e2.symm
        · have a := m1.1 x e
          have b := l1.1 y e2
          have := lexB_trans a b
          rw [lexB_irr] at this; cases this
    subst exy
    have : l = m := sorted_unique l1.2 m1.2 fun z => by
      constructor
      · intro hz
        rcases List.mem_cons.mp ((h z).mp (List.mem_cons_of_mem _ hz)) with e | e
        · have := l1.1 z hz
          rw [e, lexB_irr] at this; cases this
        · exact e
      · intro hz
        rcases List.mem_cons.mp ((h z).mpr (List.mem_cons_of_mem _ hz)) with e | e
        · have := m1.1 z hz
          rw [e, lexB_irr] at this; cases this
        · exact e
    rw [this]
theorem rel_sorted {ps : List (Int × Int)} : Rel (M.any (SortedOf ps)) (R.pure (sortP ps)) := fun Q E h rs hr => by
  have : rs = sortP ps := sorted_unique hr.1 (sortP_pw ps) fun x => (hr.2 x).trans (sortP_mem x ps).symm
  rw [this]
  exact h
end CR

set_option Elab.async false
set_option linter.all false
set_option maxRecDepth 100000
/-! CR17: words for the plain laws. -/
namespace CR
open PySem PySem.Spec
section
variable {α β γ : Type}
@[simp] theorem R.bind_ok (a : α) (f : α → R β) : R.bind (.ok a) f = f a := rfl
@[simp] theorem R.bind_exc (x : Str) (f : α → R β) : R.bind (.exc x) f = .exc x := rfl
@[simp] theorem R.bind_pure (a : α) (f : α → R β) : R.bind (R.pure a) f = f a := rfl
@[simp] theorem R.pure_eq (a : α) : R.pure a = .ok a := rfl
@[simp] theorem R.opt_some (a : α) : R.opt (some a) = .ok a := rfl
@[simp] theorem R.ite_true (x y : R α) : R.ite true x y = x := rfl
@[simp] theorem R.ite_false (x y : R α) : R.ite false x y = y := rfl
@[simp] theorem R.nox_ok (a : α) : R.nox (.ok a : R α) = .ok a := rfl
@[simp] theorem R.nox_pure (a : α) : R.nox (R.pure a : R α) = .ok a := rfl
@[simp] theorem R.guard_true : R.guard true = .ok () := rfl
theorem R.bind_of {m : R α} {a : α} {f : α → R β} (h : m = .ok a) : R.bind m f = f a := by rw [h]; rfl
theorem R.ite_of {b c : Bool} {x y : R α} (h : b = c) : R.ite b x y = R.ite c x y := by rw [h]
/-- a comprehension over what is told by α -/
theorem compR_map {G : Type} {gm : D → Option G} {t : G → R Bool} {e : G → R D} (enc : α → D) (g : α → G) (p : α → Bool) (v : α → D) : ∀ xs : List α, (∀ x ∈ xs, gm (enc x) = some (g x)) → (∀ x ∈ xs, t (g x) = .ok (p x)) → (∀ x ∈ xs, p x = true → e (g x) = .ok (v x)) →
    compR gm t e (xs.map enc) = .ok ((xs.filter p).map v)
  | [], _, _, _ => rfl
  | x :: xs, h1, h2, h3 => by
    have ih := compR_map enc g p v xs (fun y hy => h1 y (List.mem_cons_of_mem _ hy)) (fun y hy => h2 y (List.mem_cons_of_mem _ hy)) (fun y hy => h3 y (List.mem_cons_of_mem _ hy))
    show R.bind (R.opt (gm (enc x))) _ = _
    rw [h1 x List.mem_cons_self]
    show R.bind (R.nox (t (g x))) _ = _
    rw [h2 x List.mem_cons_self]
    show R.ite (p x) _ _ = _
    cases hp : p x with
    | false =>
      rw [List.filter_cons_of_neg (by simp [hp])]
      exact ih
    | true =>
      rw [List.filter_cons_of_pos hp]
      show R.bind (R.nox (e (g x))) _ = _
      rw [h3 x List.mem_cons_self hp]
      show R.bind (compR gm t e (xs.map enc)) _ = _
      rw [ih]
      rfl
/-- .. all of them -/
theorem compR_all {G : Type} {gm : D → Option G} {e : G → R D} (enc : α → D) (g : α → G) (v : α → D) (xs : List α) (h1 : ∀ x ∈ xs, gm (enc x) = some (g x)) (h3 : ∀ x ∈ xs, e (g x) = .ok (v x)) : compR gm (fun _ => R.pure true) e (xs.map enc) = .ok (xs.map v) := by
  have := compR_map (t := fun _ => R.pure true) (e := e) enc g (fun _ => true) v xs h1 (fun _ _ => rfl) (fun x hx _ => h3 x hx)
  rw [this]
  congr 2
  exact List.filter_eq_self.mpr fun _ _ => rfl
/-- a loop that appends at times -/
theorem forR_app {G : Type} {gm : D → Option G} {f : G → List D → R (O (List D) (List D))} (enc : α → D) (g : α → G) (p : α → Bool) (v : α → D) : ∀ (xs : List α) (acc : List D), (∀ x ∈ xs, gm (enc x) = some (g x)) → (∀ x ∈ xs, ∀ acc : List D, acc.length ≤ xs.length + acc.length → f (g x) acc = .ok (.nx (if p x then acc ++ [v x] else acc))) →
    forR gm f (xs.map enc) acc = .ok (.nx (acc ++ (xs.filter p).map v))
  | [], acc, _, _ => by
    show R.pure (O.nx acc) = _
    simp
  | x :: xs, acc, h1, h2 => by
    show R.bind (R.opt (gm (enc x))) _ = _
    rw [h1 x List.mem_cons_self]
    show R.bind (f (g x) acc) _ = _
    rw [h2 x List.mem_cons_self acc (by omega)]
    show forR gm f (xs.map enc) (if p x then acc ++ [v x] else acc) = _
    rw [forR_app enc g p v xs _ (fun y hy => h1 y (List.mem_cons_of_mem _ hy)) (fun y hy acc _ => h2 y (List.mem_cons_of_mem _ hy) acc (by omega))]
    cases hp : p x with
    | false => rw [List.filter_cons_of_neg (by simp [hp])]; rfl
    | true =>
      rw [List.filter_cons_of_pos hp, List.map_cons]
      simp
end
/-- one turn of a while -/
theorem iterR_step {A : Type} {t : A → R Bool} {f : A → R (O A A)} {n : Nat} {a b : A} (h1 : t a = .ok true) (h2 : f a = .ok (.nx b)) : iterR t f (n + 1) a = iterR t f n b := by
  show R.bind (t a) _ = _
  rw [h1]
  show R.bind (f a) _ = _
  rw [h2]
  rfl
theorem iterR_done {A : Type} {t : A → R Bool} {f : A → R (O A A)} {n : Nat} {a : A} (h1 : t a = .ok false) : iterR t f (n + 1) a = .ok (.nx a) := by
  show R.bind (t a) _ = _
  rw [h1]
  rfl
theorem iterR_ret {A : Type} {t : A → R Bool} {f : A → R (O A A)} {n : Nat} {a : A} {d : D} (h1 : t a = .ok true) (h2 : f a = .ok (.rt d)) : iterR t f (n + 1) a = .ok (.rt d) := by
  show R.bind (t a) _ = _
  rw [h1]
  show R.bind (f a) _ = _
  rw [h2]
  rfl
/-- k turns along st, then the rest -/
theorem iterR_run {A : Type} {t : A → R Bool} {f : A → R (O A A)} (st : Nat → A) : ∀ (k n : Nat), (∀ i, i < k → t (st i) = .ok true ∧ f (st i) = .ok (.nx (st (i + 1)))) → iterR t f (n + k) (st 0) = iterR t f n (st k)
  | 0, n, _ => rfl
  | k + 1, n, h => by
    obtain ⟨h1, h2⟩ := h 0 (Nat.zero_lt_succ _)
    rw [show n + (k + 1) = (n + k) + 1 by omega, iterR_step h1 h2]
    exact iterR_run (fun i => st (i + 1)) k n fun i hi => h (i + 1) (by omega)
end CR

set_option Elab.async false
set_option linter.all false
set_option maxRecDepth 100000
/-! CR18: words for laws that draw. -/
namespace CR
open PySem PySem.Spec
section
variable {α β γ : Type} {Q : α → Prop} {E : Str → Prop}
theorem M.opt_some (a : α) : M.opt (some a) = M.pure a := rfl
theorem M.ite_true (x y : M α) : M.ite true x y = x := rfl
theorem M.ite_false (x y : M α) : M.ite false x y = y := rfl
theorem M.guard_true : M.guard true = M.pure () := rfl
theorem M.must_ok {q : Prop} (h : q) : M.must q = M.pure () := M.ext fun Q E => propext ⟨fun x => x.2, fun x => ⟨h, x⟩⟩
theorem M.fin {a : α} (h : Q a) : (M.pure a).wp Q E := h
theorem M.seq {m : M α} {f : α → M β} {P : α → Prop} {Q : β → Prop} (h : m.wp P E) (k : ∀ a, P a → (f a).wp Q E) : (M.bind m f).wp Q E := m.mono (fun a p => k a p) (fun _ e => e) h
theorem M.weak {m : M α} {P : α → Prop} (h : m.wp P fun _ => False) : m.wp P E := m.mono (fun _ p => p) (fun _ e => e.elim) h
theorem M.noxi {m : M α} {P : α → Prop} (h : m.wp P fun _ => False) : (M.nox m).wp P E := h
theorem M.seqx {m : M α} {f : α → M β} {P : α → Prop} {Q : β → Prop} (h : m.wp P fun _ => False) (k : ∀ a, P a → (f a).wp Q E) : (M.bind (M.nox m) f).wp Q E := m.mono (fun a p => k a p) (fun _ e => e.elim) h
/-- a comprehension whose items are all of a kind -/
theorem compM_all {G : Type} {gm : D → Option G} {e : G → M D} {P : D → Prop} : ∀ xs : List D, (∀ x ∈ xs, ∃ g, gm x = some g ∧ (e g).wp P fun _ => False) → (compM gm (fun _ => M.pure true) e xs).wp (fun ys => ys.length = xs.length ∧ ∀ y ∈ ys, P y) E
  | [], _ => ⟨rfl, fun _ h => by cases h⟩
  | x :: xs, h => by
    obtain ⟨g, e1, e2⟩ := h x List.mem_cons_self
    have ih := compM_all xs fun y hy => h y (List.mem_cons_of_mem _ hy)
    show (M.bind (M.opt (gm x)) _).wp _ _
    rw [e1]
    show (M.bind (M.nox (e g)) fun y => M.bind (compM gm (fun _ => M.pure true) e xs) fun ys => M.pure (y :: ys)).wp _ _
    refine M.seqx e2 fun y hy => M.seq ih fun ys ⟨h1, h2⟩ => ?_
    refine ⟨by rw [List.length_cons, List.length_cons, h1], fun z hz => ?_⟩
    rcases List.mem_cons.mp hz with e | hz
    · rw [e]; exact hy
    · exact h2 z hz
/-- a comprehension that takes none -/
theorem compM_none {G : Type} {gm : D → Option G} {t : G → M Bool} {e : G → M D} : ∀ xs : List D, (∀ x ∈ xs, ∃ g, gm x = some g ∧ (t g).wp (fun b => b = false) fun _ => False) → (compM gm t e xs).wp (fun ys => ys = []) E
  | [], _ => rfl
  | x :: xs, h => by
    obtain ⟨g, e1, e2⟩ := h x List.mem_cons_self
    show (M.bind (M.opt (gm x)) _).wp _ _
    rw [e1]
    show (M.bind (M.nox (t g)) fun b => M.ite b _ (compM gm t e xs)).wp _ _
    refine M.seqx e2 fun b hb => ?_
    rw [hb]
    exact compM_none xs fun y hy => h y (List.mem_cons_of_mem _ hy)
/-- a loop that keeps something -/
theorem forM_inv {A : Type} {f : D → A → M (O A A)} (I : Nat → A → Prop) : ∀ (xs : List D) (n : Nat) (a : A), I n a → (∀ x ∈ xs, ∀ m b, m < n + xs.length → I m b → (f x b).wp (fun o => ∃ c, o = .nx c ∧ I (m + 1) c) E) → (forM Option.some f xs a).wp (fun o => ∃ c, o = .nx c ∧ I (n + xs.length) c) E
  | [], n, a, h, _ => ⟨a, rfl, h⟩
  | x :: xs, n, a, h, k => by
    show (M.bind (f x a) _).wp _ _
    refine M.seq (k x List.mem_cons_self n a (by simp) h) fun o ⟨c, ho, hc⟩ => ?_
    subst ho
    have := forM_inv I xs (n + 1) c hc fun y hy m b hm hb => k y (List.mem_cons_of_mem _ hy) m b (by simp; omega) hb
    rw [show n + (x :: xs).length = n + 1 + xs.length by simp; omega]
    exact this
theorem at2_0 (a b : D) : getD (.lst [a, b]) (.int 0) = some a := rfl
theorem at2_1 (a b : D) : getD (.lst [a, b]) (.int 1) = some b := rfl
theorem md_i {i j : Int} (h : j ≠ 0) : modD (.int i) (.int j) = some (.int (i.fmod j)) := if_neg h
theorem dv_i {i j : Int} (h : j ≠ 0) (h2 : j.natAbs < 1073741824) : divD (.int i) (.int j) = some (.int (i.fdiv j)) := by
  have e : divOk j = true := by
    unfold divOk
    simp [h, h2]
  exact if_pos e
theorem ml_i {i j : Int} (h : j.natAbs < 2 ^ 64) : mulD (.int i) (.int j) = some (.int (i * j)) := by
  have e : mulOk i j = true := by
    unfold mulOk
    rw [decide_eq_true h]
    simp
  exact if_pos e
theorem ad_i (i j : Int) : addD (.int i) (.int j) = some (.int (i + j)) := rfl
theorem sb_i (i j : Int) : subD (.int i) (.int j) = some (.int (i - j)) := rfl
theorem int_i (i : Int) : intD (.int i) = some (.int i) := rfl
theorem set2_0 (a b : D) : setAt [a, b] (.int 0) = some 0 := rfl
theorem set2_1 (a b : D) : setAt [a, b] (.int 1) = some 1 := rfl
end
end CR

set_option Elab.async false
set_option linter.all false
set_option maxRecDepth 100000
set_option maxHeartbeats 0
namespace L_k63
open PySem PySem.Spec PyProof.Rows L2 CR
open CR (D O)
def top (i : Nat) : Stmt := PySem.Challenge.pw_countrealm_k63_plain_sets.main.body.getD i (.Pass ⟨0, 0, 0, 0⟩)
def p_is_whole : Cp := ⟨["value", "low", "high"], defScope (top 11), [0, 1, 2], [0, 1, 2], [0, 1, 2], ["isinstance", "int", "bool"], true⟩
def m_is_whole (v_value : CR.D) (v_low : CR.D) (v_high : CR.D) : M (O Unit Empty) :=
  M.bind (M.bind (M.bind (M.pure v_value) fun d => M.opt (isiD "int" d)) fun d => M.bind (M.opt (boolD d)) fun t => M.ite t (M.bind (M.bind (M.bind (M.pure v_value) fun d => M.opt (isiD "bool" d)) fun d => M.bind (M.opt (boolD d)) fun t => M.pure (D.bl (!t))) fun d => M.bind (M.opt (boolD d)) fun t => M.ite t (M.bind (M.pure v_low) fun x => M.bind (M.pure v_value) fun y => M.bind (M.opt (leB x y)) fun k => M.ite k (M.bind (M.pure v_high) fun z => M.bind (M.opt (leB y z)) fun k => M.pure (D.bl k)) (M.pure (D.bl false))) (M.pure (D.bl false))) (M.pure (D.bl false))) fun d => M.pure (O.rt d)
def F_is_whole : List CR.D → M (CR.D)
  | [v_value, v_low, v_high] => M.bind (m_is_whole v_value v_low v_high) retD
  | _ => M.stuck
def r_is_whole (v_value : CR.D) (v_low : CR.D) (v_high : CR.D) : R (O Unit Empty) :=
  R.bind (R.bind (R.bind (R.pure v_value) fun d => R.opt (isiD "int" d)) fun d => R.bind (R.opt (boolD d)) fun t => R.ite t (R.bind (R.bind (R.bind (R.pure v_value) fun d => R.opt (isiD "bool" d)) fun d => R.bind (R.opt (boolD d)) fun t => R.pure (D.bl (!t))) fun d => R.bind (R.opt (boolD d)) fun t => R.ite t (R.bind (R.pure v_low) fun x => R.bind (R.pure v_value) fun y => R.bind (R.opt (leB x y)) fun k => R.ite k (R.bind (R.pure v_high) fun z => R.bind (R.opt (leB y z)) fun k => R.pure (D.bl k)) (R.pure (D.bl false))) (R.pure (D.bl false))) (R.pure (D.bl false))) fun d => R.pure (O.rt d)
def f_is_whole : List CR.D → R (CR.D)
  | [v_value, v_low, v_high] => R.bind (r_is_whole v_value v_low v_high) retDR
  | _ => .stuck
theorem sm_is_whole (v_value : CR.D) (v_low : CR.D) (v_high : CR.D) : Rel (m_is_whole v_value v_low v_high) (r_is_whole v_value v_low v_high) := by
  unfold m_is_whole r_is_whole
  repeat (first | (first | with_reducible exact rel_pure | with_reducible exact rel_opt | with_reducible exact rel_guard | with_reducible exact rel_raise | with_reducible exact rel_sorted | with_reducible exact rel_retD | with_reducible exact rel_retL | with_reducible assumption | with_reducible refine rel_bind ?_ (fun _ => ?_) | with_reducible refine rel_ite ?_ ?_ | with_reducible refine rel_nox ?_ | with_reducible refine rel_comp (fun _ => ?_) (fun _ => ?_) _ | with_reducible refine rel_for (fun _ _ => ?_) _ _ | with_reducible refine rel_while (fun _ => ?_) (fun _ => ?_) _ | with_reducible refine rel_nxt (fun _ => ?_) | with_reducible refine rel_aft (fun _ => ?_) | with_reducible refine rel_try ?_ ?_))
theorem s_is_whole : ∀ ds, Rel (F_is_whole ds) (f_is_whole ds) := fun ds => by
    match ds with
    | [v_value, v_low, v_high] => exact rel_bind (sm_is_whole v_value v_low v_high) fun _ => rel_retD
    | [] => exact rel_stuck
    | [_] => exact rel_stuck
    | [_, _] => exact rel_stuck
    | _ :: _ :: _ :: _ :: _ => exact rel_stuck
theorem b_is_whole {X : Cx} {W : WX} (g : GX X W p_is_whole) (hr : Room 0 X.A) :
  ∃ m, Ss X W (fun c : CR.D × CR.D × CR.D => [.pl c.1, .pl c.2.1, .pl c.2.2]) ⟨[.un, .un, .un], fun _ (_ : Unit) => [.un, .un, .un], fun _ (e : Empty) => e.elim⟩ (defBody (top 11)) m ∧ m = fun c => m_is_whole c.1 c.2.1 c.2.2 :=
 ⟨_, (ss_ret (ee_and (ee_isi g 0 1 "int" rfl rfl (by decide +kernel) (by decide +kernel) (er_of (ee_var g 0 rfl rfl fun _ => rfl))) (ee_and (ee_not (ee_isi g 0 2 "bool" rfl rfl (by decide +kernel) (by decide +kernel) (er_of (ee_var g 0 rfl rfl fun _ => rfl)))) (ee_one (ee_chain ob_le ob_le (er_of (ee_var g 1 rfl rfl fun _ => rfl)) (er_of (ee_var g 0 rfl rfl fun _ => rfl)) (er_of (ee_var g 2 rfl rfl fun _ => rfl)))))) (by ((intro _; repeat (first | exact trivial | refine And.intro rfl ?_))))), by kernel_rfl⟩

def p_is_tuple_of : Cp := ⟨["value", "low", "high"], defScope (top 12), [0, 1, 2], [0, 1, 2], [0, 1, 2], ["isinstance", "tuple", "len"], true⟩
def m_is_tuple_of (v_value : CR.D) (v_low : CR.D) (v_high : CR.D) : M (O Unit Empty) :=
  M.bind (M.bind (M.bind (M.pure v_value) fun d => M.opt (isiD "tuple" d)) fun d => M.bind (M.opt (boolD d)) fun t => M.ite t (M.bind (M.pure v_low) fun x => M.bind (M.bind (M.pure v_value) fun d => M.opt (lenD d)) fun y => M.bind (M.opt (leB x y)) fun k => M.ite k (M.bind (M.pure v_high) fun z => M.bind (M.opt (leB y z)) fun k => M.pure (D.bl k)) (M.pure (D.bl false))) (M.pure (D.bl false))) fun d => M.pure (O.rt d)
def F_is_tuple_of : List CR.D → M (CR.D)
  | [v_value, v_low, v_high] => M.bind (m_is_tuple_of v_value v_low v_high) retD
  | _ => M.stuck
def r_is_tuple_of (v_value : CR.D) (v_low : CR.D) (v_high : CR.D) : R (O Unit Empty) :=
  R.bind (R.bind (R.bind (R.pure v_value) fun d => R.opt (isiD "tuple" d)) fun d => R.bind (R.opt (boolD d)) fun t => R.ite t (R.bind (R.pure v_low) fun x => R.bind (R.bind (R.pure v_value) fun d => R.opt (lenD d)) fun y => R.bind (R.opt (leB x y)) fun k => R.ite k (R.bind (R.pure v_high) fun z => R.bind (R.opt (leB y z)) fun k => R.pure (D.bl k)) (R.pure (D.bl false))) (R.pure (D.bl false))) fun d => R.pure (O.rt d)
def f_is_tuple_of : List CR.D → R (CR.D)
  | [v_value, v_low, v_high] => R.bind (r_is_tuple_of v_value v_low v_high) retDR
  | _ => .stuck
theorem sm_is_tuple_of (v_value : CR.D) (v_low : CR.D) (v_high : CR.D) : Rel (m_is_tuple_of v_value v_low v_high) (r_is_tuple_of v_value v_low v_high) := by
  unfold m_is_tuple_of r_is_tuple_of
  repeat (first | (first | with_reducible exact rel_pure | with_reducible exact rel_opt | with_reducible exact rel_guard | with_reducible exact rel_raise | with_reducible exact rel_sorted | with_reducible exact rel_retD | with_reducible exact rel_retL | with_reducible assumption | with_reducible refine rel_bind ?_ (fun _ => ?_) | with_reducible refine rel_ite ?_ ?_ | with_reducible refine rel_nox ?_ | with_reducible refine rel_comp (fun _ => ?_) (fun _ => ?_) _ | with_reducible refine rel_for (fun _ _ => ?_) _ _ | with_reducible refine rel_while (fun _ => ?_) (fun _ => ?_) _ | with_reducible refine rel_nxt (fun _ => ?_) | with_reducible refine rel_aft (fun _ => ?_) | with_reducible refine rel_try ?_ ?_))
theorem s_is_tuple_of : ∀ ds, Rel (F_is_tuple_of ds) (f_is_tuple_of ds) := fun ds => by
    match ds with
    | [v_value, v_low, v_high] => exact rel_bind (sm_is_tuple_of v_value v_low v_high) fun _ => rel_retD
    | [] => exact rel_stuck
    | [_] => exact rel_stuck
    | [_, _] => exact rel_stuck
    | _ :: _ :: _ :: _ :: _ => exact rel_stuck
theorem b_is_tuple_of {X : Cx} {W : WX} (g : GX X W p_is_tuple_of) (hr : Room 0 X.A) :
  ∃ m, Ss X W (fun c : CR.D × CR.D × CR.D => [.pl c.1, .pl c.2.1, .pl c.2.2]) ⟨[.un, .un, .un], fun _ (_ : Unit) => [.un, .un, .un], fun _ (e : Empty) => e.elim⟩ (defBody (top 12)) m ∧ m = fun c => m_is_tuple_of c.1 c.2.1 c.2.2 :=
 ⟨_, (ss_ret (ee_and (ee_isi g 0 1 "tuple" rfl rfl (by decide +kernel) (by decide +kernel) (er_of (ee_var g 0 rfl rfl fun _ => rfl))) (ee_one (ee_chain ob_le ob_le (er_of (ee_var g 1 rfl rfl fun _ => rfl)) (er_of (ee_len g 2 rfl (er_of (ee_var g 0 rfl rfl fun _ => rfl)))) (er_of (ee_var g 2 rfl rfl fun _ => rfl))))) (by ((intro _; repeat (first | exact trivial | refine And.intro rfl ?_))))), by kernel_rfl⟩

def p_fits_row : Cp := ⟨["letters", "value", "one"], defScope (top 13), [0, 1], [0, 1], [0, 1], ["is_tuple_of", "all"], true⟩
def m_fits_row (v_letters : CR.D) (v_value : CR.D) : M (O Unit Empty) :=
  M.bind (M.bind (M.bind (M.bind (M.pure v_value) fun d => M.bind (M.bind (M.pure v_letters) fun d => M.bind (M.bind (M.pure v_letters) fun d => M.bind (M.pure []) fun ds => M.pure (d :: ds)) fun ds => M.pure (d :: ds)) fun ds => M.pure (d :: ds)) fun ds => F_is_tuple_of ds) fun d => M.bind (M.opt (boolD d)) fun t => M.ite t (M.bind (M.bind (M.bind (M.bind (M.pure v_value) fun d => M.opt (seqD d)) fun xs => compM Option.some (fun v2 => M.pure true) (fun v2 => M.bind (M.bind (M.pure v2) fun d => M.bind (M.bind (M.bind (M.pure (D.int 1000000000)) fun d => M.opt (negD d)) fun d => M.bind (M.bind (M.pure (D.int 1000000000)) fun d => M.bind (M.pure []) fun ds => M.pure (d :: ds)) fun ds => M.pure (d :: ds)) fun ds => M.pure (d :: ds)) fun ds => F_is_whole ds) xs) fun xs => M.pure (D.lst xs)) fun d => M.opt (allD d)) (M.pure (D.bl false))) fun d => M.pure (O.rt d)
def F_fits_row : List CR.D → M (CR.D)
  | [v_letters, v_value] => M.bind (m_fits_row v_letters v_value) retD
  | _ => M.stuck
def r_fits_row (v_letters : CR.D) (v_value : CR.D) : R (O Unit Empty) :=
  R.bind (R.bind (R.bind (R.bind (R.pure v_value) fun d => R.bind (R.bind (R.pure v_letters) fun d => R.bind (R.bind (R.pure v_letters) fun d => R.bind (R.pure []) fun ds => R.pure (d :: ds)) fun ds => R.pure (d :: ds)) fun ds => R.pure (d :: ds)) fun ds => f_is_tuple_of ds) fun d => R.bind (R.opt (boolD d)) fun t => R.ite t (R.bind (R.bind (R.bind (R.bind (R.pure v_value) fun d => R.opt (seqD d)) fun xs => compR Option.some (fun v2 => R.pure true) (fun v2 => R.bind (R.bind (R.pure v2) fun d => R.bind (R.bind (R.bind (R.pure (D.int 1000000000)) fun d => R.opt (negD d)) fun d => R.bind (R.bind (R.pure (D.int 1000000000)) fun d => R.bind (R.pure []) fun ds => R.pure (d :: ds)) fun ds => R.pure (d :: ds)) fun ds => R.pure (d :: ds)) fun ds => f_is_whole ds) xs) fun xs => R.pure (D.lst xs)) fun d => R.opt (allD d)) (R.pure (D.bl false))) fun d => R.pure (O.rt d)
def f_fits_row : List CR.D → R (CR.D)
  | [v_letters, v_value] => R.bind (r_fits_row v_letters v_value) retDR
  | _ => .stuck
theorem sm_fits_row (v_letters : CR.D) (v_value : CR.D) : Rel (m_fits_row v_letters v_value) (r_fits_row v_letters v_value) := by
  have h_is_tuple_of := s_is_tuple_of
  have h_is_whole := s_is_whole
  unfold m_fits_row r_fits_row
  repeat (first | with_reducible exact h_is_tuple_of _ | with_reducible exact h_is_whole _ | (first | with_reducible exact rel_pure | with_reducible exact rel_opt | with_reducible exact rel_guard | with_reducible exact rel_raise | with_reducible exact rel_sorted | with_reducible exact rel_retD | with_reducible exact rel_retL | with_reducible assumption | with_reducible refine rel_bind ?_ (fun _ => ?_) | with_reducible refine rel_ite ?_ ?_ | with_reducible refine rel_nox ?_ | with_reducible refine rel_comp (fun _ => ?_) (fun _ => ?_) _ | with_reducible refine rel_for (fun _ _ => ?_) _ _ | with_reducible refine rel_while (fun _ => ?_) (fun _ => ?_) _ | with_reducible refine rel_nxt (fun _ => ?_) | with_reducible refine rel_aft (fun _ => ?_) | with_reducible refine rel_try ?_ ?_))
theorem s_fits_row : ∀ ds, Rel (F_fits_row ds) (f_fits_row ds) := fun ds => by
    match ds with
    | [v_letters, v_value] => exact rel_bind (sm_fits_row v_letters v_value) fun _ => rel_retD
    | [] => exact rel_stuck
    | [_] => exact rel_stuck
    | _ :: _ :: _ :: _ => exact rel_stuck
theorem b_fits_row {X : Cx} {W : WX} (g : GX X W p_fits_row) (hr : Room 1 X.A) (cf_is_tuple_of : CallF X.prog X.w X.K X.mg X.base "is_tuple_of" 1 (SpD X.K X.mg 3 F_is_tuple_of)) (cf_is_whole : CallF X.prog X.w X.K X.mg X.base "is_whole" 1 (SpD X.K X.mg 3 F_is_whole)) (gl_SIZE : GlobD X "SIZE" (D.int 1000000000)) :
  ∃ m, Ss X W (fun c : CR.D × CR.D => [.pl c.1, .pl c.2, .un]) ⟨[.un, .un, .un], fun _ (_ : Unit) => [.un, .un, .un], fun _ (e : Empty) => e.elim⟩ (defBody (top 13)) m ∧ m = fun c => m_fits_row c.1 c.2 :=
 ⟨_, (ss_ret (ee_and (ee_call g 0 cf_is_tuple_of hr rfl rfl (ea_cons (ee_var g 1 rfl rfl fun _ => rfl) (ea_cons (ee_var g 0 rfl rfl fun _ => rfl) (ea_cons (ee_var g 0 rfl rfl fun _ => rfl) ea_nil))) rfl) (ee_one (ee_all g 1 rfl (er_of (el_ee (el_comp g (own := [("one", 2)]) (vis := [2]) (loc := [2]) (gl := ["is_whole", "SIZE"]) (sl := [2]) (ei_seq (ee_var g 1 rfl rfl fun _ => rfl)) (by decide +kernel) (plainAt.cons (fun _ => slotUn rfl rfl) plainAt.nil) rfl (fun _ _ _ _ _ g1 => (eg_name g1 2 rfl rfl)) (gsn_off 2) (fun _ _ _ _ _ g1 => ets_nil) (fun _ _ _ _ _ g1 => (ee_call g1 0 cf_is_whole hr rfl rfl (ea_cons (ee_var g1 2 rfl rfl fun _ => rfl) (ea_cons (ee_neg (ee_glob g1 1 rfl gl_SIZE)) (ea_cons (ee_glob g1 1 rfl gl_SIZE) ea_nil))) rfl)))))))) (by ((intro _; repeat (first | exact trivial | refine And.intro rfl ?_))))), by kernel_rfl⟩

def p_fits_leaf : Cp := ⟨["letters", "value"], defScope (top 14), [0, 1], [0, 1], [0, 1], ["len", "fits_row", "is_whole", "NUMBER", "DIVISOR"], true⟩
def m_fits_leaf (v_letters : CR.D) (v_value : CR.D) : M (O Unit Empty) :=
  M.bind (M.bind (M.bind (M.pure v_value) fun x => M.bind (M.pure (D.int 0)) fun y => M.opt (getD x y)) fun x => M.bind (M.pure (D.str "most")) fun y => M.opt (eqB x y)) fun b => M.ite b (M.bind (M.bind (M.bind (M.bind (M.bind (M.pure v_value) fun d => M.opt (lenD d)) fun x => M.bind (M.pure (D.int 3)) fun y => M.bind (M.opt (eqB x y)) fun k => M.pure (D.bl k)) fun d => M.bind (M.opt (boolD d)) fun t => M.ite t (M.bind (M.bind (M.bind (M.pure v_letters) fun d => M.bind (M.bind (M.bind (M.pure v_value) fun x => M.bind (M.pure (D.int 1)) fun y => M.opt (getD x y)) fun d => M.bind (M.pure []) fun ds => M.pure (d :: ds)) fun ds => M.pure (d :: ds)) fun ds => F_fits_row ds) fun d => M.bind (M.opt (boolD d)) fun t => M.ite t (M.bind (M.bind (M.bind (M.pure v_value) fun x => M.bind (M.pure (D.int 2)) fun y => M.opt (getD x y)) fun d => M.bind (M.bind (M.bind (M.pure (D.int 1000000000000)) fun d => M.opt (negD d)) fun d => M.bind (M.bind (M.pure (D.int 1000000000000)) fun d => M.bind (M.pure []) fun ds => M.pure (d :: ds)) fun ds => M.pure (d :: ds)) fun ds => M.pure (d :: ds)) fun ds => F_is_whole ds) (M.pure (D.bl false))) (M.pure (D.bl false))) fun d => M.pure (O.rt d)) fun o => M.pure (O.out o)) (M.bind (M.bind (M.bind (M.bind (M.pure v_value) fun d => M.opt (lenD d)) fun x => M.bind (M.pure (D.int 4)) fun y => M.opt (neB x y)) fun t => M.ite t (M.pure true) (M.bind (M.bind (M.bind (M.bind (M.bind (M.pure v_value) fun x => M.bind (M.pure (D.int 1)) fun y => M.opt (getD x y)) fun d => M.bind (M.bind (M.pure (D.int 1)) fun d => M.bind (M.bind (M.pure (D.int 1000000)) fun d => M.bind (M.pure []) fun ds => M.pure (d :: ds)) fun ds => M.pure (d :: ds)) fun ds => M.pure (d :: ds)) fun ds => F_is_whole ds) fun d => M.opt (boolD d)) fun b => M.pure (!b))) fun b => M.ite b (M.bind (M.bind (M.pure (D.bl false)) fun d => M.pure (O.rt d)) fun o => M.pure (O.out o)) (M.bind (M.bind (M.bind (M.bind (M.pure v_letters) fun d => M.bind (M.bind (M.bind (M.pure v_value) fun x => M.bind (M.pure (D.int 2)) fun y => M.opt (getD x y)) fun d => M.bind (M.pure []) fun ds => M.pure (d :: ds)) fun ds => M.pure (d :: ds)) fun ds => F_fits_row ds) fun d => M.bind (M.opt (boolD d)) fun t => M.ite t (M.bind (M.bind (M.bind (M.pure v_value) fun x => M.bind (M.pure (D.int 3)) fun y => M.opt (getD x y)) fun d => M.bind (M.bind (M.bind (M.pure (D.int 1000000000000)) fun d => M.opt (negD d)) fun d => M.bind (M.bind (M.pure (D.int 1000000000000)) fun d => M.bind (M.pure []) fun ds => M.pure (d :: ds)) fun ds => M.pure (d :: ds)) fun ds => M.pure (d :: ds)) fun ds => F_is_whole ds) (M.pure (D.bl false))) fun d => M.pure (O.rt d)))
def F_fits_leaf : List CR.D → M (CR.D)
  | [v_letters, v_value] => M.bind (m_fits_leaf v_letters v_value) retD
  | _ => M.stuck
def r_fits_leaf (v_letters : CR.D) (v_value : CR.D) : R (O Unit Empty) :=
  R.bind (R.bind (R.bind (R.pure v_value) fun x => R.bind (R.pure (D.int 0)) fun y => R.opt (getD x y)) fun x => R.bind (R.pure (D.str "most")) fun y => R.opt (eqB x y)) fun b => R.ite b (R.bind (R.bind (R.bind (R.bind (R.bind (R.pure v_value) fun d => R.opt (lenD d)) fun x => R.bind (R.pure (D.int 3)) fun y => R.bind (R.opt (eqB x y)) fun k => R.pure (D.bl k)) fun d => R.bind (R.opt (boolD d)) fun t => R.ite t (R.bind (R.bind (R.bind (R.pure v_letters) fun d => R.bind (R.bind (R.bind (R.pure v_value) fun x => R.bind (R.pure (D.int 1)) fun y => R.opt (getD x y)) fun d => R.bind (R.pure []) fun ds => R.pure (d :: ds)) fun ds => R.pure (d :: ds)) fun ds => f_fits_row ds) fun d => R.bind (R.opt (boolD d)) fun t => R.ite t (R.bind (R.bind (R.bind (R.pure v_value) fun x => R.bind (R.pure (D.int 2)) fun y => R.opt (getD x y)) fun d => R.bind (R.bind (R.bind (R.pure (D.int 1000000000000)) fun d => R.opt (negD d)) fun d => R.bind (R.bind (R.pure (D.int 1000000000000)) fun d => R.bind (R.pure []) fun ds => R.pure (d :: ds)) fun ds => R.pure (d :: ds)) fun ds => R.pure (d :: ds)) fun ds => f_is_whole ds) (R.pure (D.bl false))) (R.pure (D.bl false))) fun d => R.pure (O.rt d)) fun o => R.pure (O.out o)) (R.bind (R.bind (R.bind (R.bind (R.pure v_value) fun d => R.opt (lenD d)) fun x => R.bind (R.pure (D.int 4)) fun y => R.opt (neB x y)) fun t => R.ite t (R.pure true) (R.bind (R.bind (R.bind (R.bind (R.bind (R.pure v_value) fun x => R.bind (R.pure (D.int 1)) fun y => R.opt (getD x y)) fun d => R.bind (R.bind (R.pure (D.int 1)) fun d => R.bind (R.bind (R.pure (D.int 1000000)) fun d => R.bind (R.pure []) fun ds => R.pure (d :: ds)) fun ds => R.pure (d :: ds)) fun ds => R.pure (d :: ds)) fun ds => f_is_whole ds) fun d => R.opt (boolD d)) fun b => R.pure (!b))) fun b => R.ite b (R.bind (R.bind (R.pure (D.bl false)) fun d => R.pure (O.rt d)) fun o => R.pure (O.out o)) (R.bind (R.bind (R.bind (R.bind (R.pure v_letters) fun d => R.bind (R.bind (R.bind (R.pure v_value) fun x => R.bind (R.pure (D.int 2)) fun y => R.opt (getD x y)) fun d => R.bind (R.pure []) fun ds => R.pure (d :: ds)) fun ds => R.pure (d :: ds)) fun ds => f_fits_row ds) fun d => R.bind (R.opt (boolD d)) fun t => R.ite t (R.bind (R.bind (R.bind (R.pure v_value) fun x => R.bind (R.pure (D.int 3)) fun y => R.opt (getD x y)) fun d => R.bind (R.bind (R.bind (R.pure (D.int 1000000000000)) fun d => R.opt (negD d)) fun d => R.bind (R.bind (R.pure (D.int 1000000000000)) fun d => R.bind (R.pure []) fun ds => R.pure (d :: ds)) fun ds => R.pure (d :: ds)) fun ds => R.pure (d :: ds)) fun ds => f_is_whole ds) (R.pure (D.bl false))) fun d => R.pure (O.rt d)))
def f_fits_leaf : List CR.D → R (CR.D)
  | [v_letters, v_value] => R.bind (r_fits_leaf v_letters v_value) retDR
  | _ => .stuck
theorem sm_fits_leaf (v_letters : CR.D) (v_value : CR.D) : Rel (m_fits_leaf v_letters v_value) (r_fits_leaf v_letters v_value) := by
  have h_fits_row := s_fits_row
  have h_is_whole := s_is_whole
  unfold m_fits_leaf r_fits_leaf
  repeat (first | with_reducible exact h_fits_row _ | with_reducible exact h_is_whole _ | (first | with_reducible exact rel_pure | with_reducible exact rel_opt | with_reducible exact rel_guard | with_reducible exact rel_raise | with_reducible exact rel_sorted | with_reducible exact rel_retD | with_reducible exact rel_retL | with_reducible assumption | with_reducible refine rel_bind ?_ (fun _ => ?_) | with_reducible refine rel_ite ?_ ?_ | with_reducible refine rel_nox ?_ | with_reducible refine rel_comp (fun _ => ?_) (fun _ => ?_) _ | with_reducible refine rel_for (fun _ _ => ?_) _ _ | with_reducible refine rel_while (fun _ => ?_) (fun _ => ?_) _ | with_reducible refine rel_nxt (fun _ => ?_) | with_reducible refine rel_aft (fun _ => ?_) | with_reducible refine rel_try ?_ ?_))
theorem s_fits_leaf : ∀ ds, Rel (F_fits_leaf ds) (f_fits_leaf ds) := fun ds => by
    match ds with
    | [v_letters, v_value] => exact rel_bind (sm_fits_leaf v_letters v_value) fun _ => rel_retD
    | [] => exact rel_stuck
    | [_] => exact rel_stuck
    | _ :: _ :: _ :: _ => exact rel_stuck
theorem b_fits_leaf {X : Cx} {W : WX} (g : GX X W p_fits_leaf) (hr : Room 2 X.A) (cf_fits_row : CallF X.prog X.w X.K X.mg X.base "fits_row" 2 (SpD X.K X.mg 2 F_fits_row)) (cf_is_whole : CallF X.prog X.w X.K X.mg X.base "is_whole" 1 (SpD X.K X.mg 3 F_is_whole)) (gl_NUMBER : GlobD X "NUMBER" (D.int 1000000000000)) (gl_DIVISOR : GlobD X "DIVISOR" (D.int 1000000)) :
  ∃ m, Ss X W (fun c : CR.D × CR.D => [.pl c.1, .pl c.2]) ⟨[.un, .un], fun _ (_ : Unit) => [.un, .un], fun _ (e : Empty) => e.elim⟩ (defBody (top 14)) m ∧ m = fun c => m_fits_leaf c.1 c.2 :=
 ⟨_, (ss_ifx (et_cmp (ob_eq g) rfl (er_of (ee_ix (er_of (ee_var g 1 rfl rfl fun _ => rfl)) ee_int)) (er_of (ee_str (by decide +kernel)))) (ss_ret (ee_and (ee_cmp (ob_eq g) rfl (er_of (ee_len g 0 rfl (er_of (ee_var g 1 rfl rfl fun _ => rfl)))) (er_of ee_int)) (ee_and (ee_call g 1 cf_fits_row hr rfl rfl (ea_cons (ee_var g 0 rfl rfl fun _ => rfl) (ea_cons (ee_ix (er_of (ee_var g 1 rfl rfl fun _ => rfl)) ee_int) ea_nil)) rfl) (ee_one (ee_call g 2 cf_is_whole hr rfl rfl (ea_cons (ee_ix (er_of (ee_var g 1 rfl rfl fun _ => rfl)) ee_int) (ea_cons (ee_neg (ee_glob g 3 rfl gl_NUMBER)) (ea_cons (ee_glob g 3 rfl gl_NUMBER) ea_nil))) rfl)))) (by ((intro _; repeat (first | exact trivial | refine And.intro rfl ?_)))))
 (ss_ifx (et_w (ew_or (et_cmp (ob_ne g) rfl (er_of (ee_len g 0 rfl (er_of (ee_var g 1 rfl rfl fun _ => rfl)))) (er_of ee_int)) (ew_or1 (et_not (et_val (ee_call g 2 cf_is_whole hr rfl rfl (ea_cons (ee_ix (er_of (ee_var g 1 rfl rfl fun _ => rfl)) ee_int) (ea_cons ee_int (ea_cons (ee_glob g 4 rfl gl_DIVISOR) ea_nil))) rfl)))))) (ss_ret ee_bl (by ((intro _; repeat (first | exact trivial | refine And.intro rfl ?_)))))
 (ss_ret (ee_and (ee_call g 1 cf_fits_row hr rfl rfl (ea_cons (ee_var g 0 rfl rfl fun _ => rfl) (ea_cons (ee_ix (er_of (ee_var g 1 rfl rfl fun _ => rfl)) ee_int) ea_nil)) rfl) (ee_one (ee_call g 2 cf_is_whole hr rfl rfl (ea_cons (ee_ix (er_of (ee_var g 1 rfl rfl fun _ => rfl)) ee_int) (ea_cons (ee_neg (ee_glob g 3 rfl gl_NUMBER)) (ea_cons (ee_glob g 3 rfl gl_NUMBER) ea_nil))) rfl))) (by ((intro _; repeat (first | exact trivial | refine And.intro rfl ?_))))))), by kernel_rfl⟩

def p_parts_of : Cp := ⟨["value"], defScope (top 15), [0], [0], [0], [], true⟩
def m_parts_of (v_value : CR.D) : M (O Unit Empty) :=
  M.bind (M.bind (M.bind (M.bind (M.pure v_value) fun x => M.bind (M.pure (D.int 0)) fun y => M.opt (getD x y)) fun x => M.bind (M.pure (D.str "not")) fun y => M.opt (eqB x y)) fun t => M.ite t (M.bind (M.pure v_value) fun d => M.bind (M.bind (M.pure (D.int 1)) fun d => M.opt (intO d)) fun l => M.bind (M.pure none) fun h => M.opt (cutT d l h)) (M.bind (M.pure v_value) fun x => M.bind (M.pure (D.int 1)) fun y => M.opt (getD x y))) fun d => M.pure (O.rt d)
def F_parts_of : List CR.D → M (CR.D)
  | [v_value] => M.bind (m_parts_of v_value) retD
  | _ => M.stuck
def r_parts_of (v_value : CR.D) : R (O Unit Empty) :=
  R.bind (R.bind (R.bind (R.bind (R.pure v_value) fun x => R.bind (R.pure (D.int 0)) fun y => R.opt (getD x y)) fun x => R.bind (R.pure (D.str "not")) fun y => R.opt (eqB x y)) fun t => R.ite t (R.bind (R.pure v_value) fun d => R.bind (R.bind (R.pure (D.int 1)) fun d => R.opt (intO d)) fun l => R.bind (R.pure none) fun h => R.opt (cutT d l h)) (R.bind (R.pure v_value) fun x => R.bind (R.pure (D.int 1)) fun y => R.opt (getD x y))) fun d => R.pure (O.rt d)
def f_parts_of : List CR.D → R (CR.D)
  | [v_value] => R.bind (r_parts_of v_value) retDR
  | _ => .stuck
theorem sm_parts_of (v_value : CR.D) : Rel (m_parts_of v_value) (r_parts_of v_value) := by
  unfold m_parts_of r_parts_of
  repeat (first | (first | with_reducible exact rel_pure | with_reducible exact rel_opt | with_reducible exact rel_guard | with_reducible exact rel_raise | with_reducible exact rel_sorted | with_reducible exact rel_retD | with_reducible exact rel_retL | with_reducible assumption | with_reducible refine rel_bind ?_ (fun _ => ?_) | with_reducible refine rel_ite ?_ ?_ | with_reducible refine rel_nox ?_ | with_reducible refine rel_comp (fun _ => ?_) (fun _ => ?_) _ | with_reducible refine rel_for (fun _ _ => ?_) _ _ | with_reducible refine rel_while (fun _ => ?_) (fun _ => ?_) _ | with_reducible refine rel_nxt (fun _ => ?_) | with_reducible refine rel_aft (fun _ => ?_) | with_reducible refine rel_try ?_ ?_))
theorem s_parts_of : ∀ ds, Rel (F_parts_of ds) (f_parts_of ds) := fun ds => by
    match ds with
    | [v_value] => exact rel_bind (sm_parts_of v_value) fun _ => rel_retD
    | [] => exact rel_stuck
    | _ :: _ :: _ => exact rel_stuck
theorem b_parts_of {X : Cx} {W : WX} (g : GX X W p_parts_of) (hr : Room 0 X.A) :
  ∃ m, Ss X W (fun c : CR.D => [.pl c]) ⟨[.un], fun _ (_ : Unit) => [.un], fun _ (e : Empty) => e.elim⟩ (defBody (top 15)) m ∧ m = fun c => m_parts_of c :=
 ⟨_, (ss_ret (ee_if (et_cmp (ob_eq g) rfl (er_of (ee_ix (er_of (ee_var g 0 rfl rfl fun _ => rfl)) ee_int)) (er_of (ee_str (by decide +kernel)))) (ee_slice (er_of (ee_var g 0 rfl rfl fun _ => rfl)) (eo_some ee_int) eo_none) (ee_ix (er_of (ee_var g 0 rfl rfl fun _ => rfl)) ee_int)) (by ((intro _; repeat (first | exact trivial | refine And.intro rfl ?_))))), by kernel_rfl⟩

def p_fits_knot : Cp := ⟨["value"], defScope (top 16), [0], [0], [0], ["len", "is_tuple_of", "PARTS"], true⟩
def m_fits_knot (v_value : CR.D) : M (O Unit Empty) :=
  M.bind (M.bind (M.bind (M.pure v_value) fun x => M.bind (M.pure (D.int 0)) fun y => M.opt (getD x y)) fun x => M.bind (M.pure (D.str "not")) fun y => M.opt (eqB x y)) fun b => M.ite b (M.bind (M.bind (M.bind (M.bind (M.pure v_value) fun d => M.opt (lenD d)) fun x => M.bind (M.pure (D.int 2)) fun y => M.bind (M.opt (eqB x y)) fun k => M.pure (D.bl k)) fun d => M.pure (O.rt d)) fun o => M.pure (O.out o)) (M.bind (M.bind (M.bind (M.bind (M.pure v_value) fun x => M.bind (M.pure (D.int 0)) fun y => M.opt (getD x y)) fun x => M.bind (M.bind (M.bind (M.pure (D.str "and")) fun d => M.bind (M.bind (M.pure (D.str "or")) fun d => M.bind (M.pure []) fun ds => M.pure (d :: ds)) fun ds => M.pure (d :: ds)) fun ds => M.pure (D.tup ds)) fun y => M.bind (M.opt (inD x y)) fun k => M.pure (D.bl k)) fun d => M.bind (M.opt (boolD d)) fun t => M.ite t (M.bind (M.bind (M.bind (M.pure v_value) fun d => M.opt (lenD d)) fun x => M.bind (M.pure (D.int 2)) fun y => M.bind (M.opt (eqB x y)) fun k => M.pure (D.bl k)) fun d => M.bind (M.opt (boolD d)) fun t => M.ite t (M.bind (M.bind (M.bind (M.pure v_value) fun x => M.bind (M.pure (D.int 1)) fun y => M.opt (getD x y)) fun d => M.bind (M.bind (M.pure (D.int 0)) fun d => M.bind (M.bind (M.pure (D.int 4000)) fun d => M.bind (M.pure []) fun ds => M.pure (d :: ds)) fun ds => M.pure (d :: ds)) fun ds => M.pure (d :: ds)) fun ds => F_is_tuple_of ds) (M.pure (D.bl false))) (M.pure (D.bl false))) fun d => M.pure (O.rt d))
def F_fits_knot : List CR.D → M (CR.D)
  | [v_value] => M.bind (m_fits_knot v_value) retD
  | _ => M.stuck
def r_fits_knot (v_value : CR.D) : R (O Unit Empty) :=
  R.bind (R.bind (R.bind (R.pure v_value) fun x => R.bind (R.pure (D.int 0)) fun y => R.opt (getD x y)) fun x => R.bind (R.pure (D.str "not")) fun y => R.opt (eqB x y)) fun b => R.ite b (R.bind (R.bind (R.bind (R.bind (R.pure v_value) fun d => R.opt (lenD d)) fun x => R.bind (R.pure (D.int 2)) fun y => R.bind (R.opt (eqB x y)) fun k => R.pure (D.bl k)) fun d => R.pure (O.rt d)) fun o => R.pure (O.out o)) (R.bind (R.bind (R.bind (R.bind (R.pure v_value) fun x => R.bind (R.pure (D.int 0)) fun y => R.opt (getD x y)) fun x => R.bind (R.bind (R.bind (R.pure (D.str "and")) fun d => R.bind (R.bind (R.pure (D.str "or")) fun d => R.bind (R.pure []) fun ds => R.pure (d :: ds)) fun ds => R.pure (d :: ds)) fun ds => R.pure (D.tup ds)) fun y => R.bind (R.opt (inD x y)) fun k => R.pure (D.bl k)) fun d => R.bind (R.opt (boolD d)) fun t => R.ite t (R.bind (R.bind (R.bind (R.pure v_value) fun d => R.opt (lenD d)) fun x => R.bind (R.pure (D.int 2)) fun y => R.bind (R.opt (eqB x y)) fun k => R.pure (D.bl k)) fun d => R.bind (R.opt (boolD d)) fun t => R.ite t (R.bind (R.bind (R.bind (R.pure v_value) fun x => R.bind (R.pure (D.int 1)) fun y => R.opt (getD x y)) fun d => R.bind (R.bind (R.pure (D.int 0)) fun d => R.bind (R.bind (R.pure (D.int 4000)) fun d => R.bind (R.pure []) fun ds => R.pure (d :: ds)) fun ds => R.pure (d :: ds)) fun ds => R.pure (d :: ds)) fun ds => f_is_tuple_of ds) (R.pure (D.bl false))) (R.pure (D.bl false))) fun d => R.pure (O.rt d))
def f_fits_knot : List CR.D → R (CR.D)
  | [v_value] => R.bind (r_fits_knot v_value) retDR
  | _ => .stuck
theorem sm_fits_knot (v_value : CR.D) : Rel (m_fits_knot v_value) (r_fits_knot v_value) := by
  have h_is_tuple_of := s_is_tuple_of
  unfold m_fits_knot r_fits_knot
  repeat (first | with_reducible exact h_is_tuple_of _ | (first | with_reducible exact rel_pure | with_reducible exact rel_opt | with_reducible exact rel_guard | with_reducible exact rel_raise | with_reducible exact rel_sorted | with_reducible exact rel_retD | with_reducible exact rel_retL | with_reducible assumption | with_reducible refine rel_bind ?_ (fun _ => ?_) | with_reducible refine rel_ite ?_ ?_ | with_reducible refine rel_nox ?_ | with_reducible refine rel_comp (fun _ => ?_) (fun _ => ?_) _ | with_reducible refine rel_for (fun _ _ => ?_) _ _ | with_reducible refine rel_while (fun _ => ?_) (fun _ => ?_) _ | with_reducible refine rel_nxt (fun _ => ?_) | with_reducible refine rel_aft (fun _ => ?_) | with_reducible refine rel_try ?_ ?_))
theorem s_fits_knot : ∀ ds, Rel (F_fits_knot ds) (f_fits_knot ds) := fun ds => by
    match ds with
    | [v_value] => exact rel_bind (sm_fits_knot v_value) fun _ => rel_retD
    | [] => exact rel_stuck
    | _ :: _ :: _ => exact rel_stuck
theorem b_fits_knot {X : Cx} {W : WX} (g : GX X W p_fits_knot) (hr : Room 1 X.A) (cf_is_tuple_of : CallF X.prog X.w X.K X.mg X.base "is_tuple_of" 1 (SpD X.K X.mg 3 F_is_tuple_of)) (gl_PARTS : GlobD X "PARTS" (D.int 4000)) :
  ∃ m, Ss X W (fun c : CR.D => [.pl c]) ⟨[.un], fun _ (_ : Unit) => [.un], fun _ (e : Empty) => e.elim⟩ (defBody (top 16)) m ∧ m = fun c => m_fits_knot c :=
 ⟨_, (ss_ifx (et_cmp (ob_eq g) rfl (er_of (ee_ix (er_of (ee_var g 0 rfl rfl fun _ => rfl)) ee_int)) (er_of (ee_str (by decide +kernel)))) (ss_ret (ee_cmp (ob_eq g) rfl (er_of (ee_len g 0 rfl (er_of (ee_var g 0 rfl rfl fun _ => rfl)))) (er_of ee_int)) (by ((intro _; repeat (first | exact trivial | refine And.intro rfl ?_)))))
 (ss_ret (ee_and (ee_cmp (ob_in g) rfl (er_of (ee_ix (er_of (ee_var g 0 rfl rfl fun _ => rfl)) ee_int)) (er_of (ee_tup (ea_cons (ee_str (by decide +kernel)) (ea_cons (ee_str (by decide +kernel)) ea_nil)) rfl))) (ee_and (ee_cmp (ob_eq g) rfl (er_of (ee_len g 0 rfl (er_of (ee_var g 0 rfl rfl fun _ => rfl)))) (er_of ee_int)) (ee_one (ee_call g 1 cf_is_tuple_of hr rfl rfl (ea_cons (ee_ix (er_of (ee_var g 0 rfl rfl fun _ => rfl)) ee_int) (ea_cons ee_int (ea_cons (ee_glob g 2 rfl gl_PARTS) ea_nil))) rfl)))) (by ((intro _; repeat (first | exact trivial | refine And.intro rfl ?_)))))), by kernel_rfl⟩

def p_fits_test : Cp := ⟨["letters", "value", "line", "many", "one", "deep", "part"], defScope (top 17), [0, 1, 2, 3, 4, 5], [0, 1, 2, 3, 4, 5], [0, 1, 2, 3, 4], ["PARTS", "NESTED", "is_tuple_of", "isinstance", "str", "fits_leaf", "fits_knot", "parts_of"], true⟩
def m_fits_test (v_letters : CR.D) (v_value : CR.D) : M (O Unit Empty) :=
  M.bind (M.bind (M.bind (M.bind (M.bind (M.pure v_value) fun d => M.bind (M.bind (M.pure (D.int 1)) fun d => M.bind (M.pure []) fun ds => M.pure (d :: ds)) fun ds => M.pure (d :: ds)) fun ds => M.pure (D.tup ds)) fun d => M.bind (M.pure []) fun ds => M.pure (d :: ds)) fun d => M.bind (M.bind (M.pure (D.int 0)) fun d => M.bind (M.pure ()) fun r => M.pure (d, r)) fun r => M.pure (d, r)) fun a3 =>
  M.bind (whileM (fun a4 => M.bind (M.pure (D.lst a4.1)) fun x => M.bind (M.bind (M.pure []) fun xs => M.pure (D.lst xs)) fun y => M.opt (neB x y)) (fun a4 => M.bind (M.bind (M.opt ((a4.1).getLast?)) fun d => M.opt ((gmTup (gmCons Option.some (gmCons Option.some gmNil))) d)) fun z5 =>
  M.bind (M.bind (M.pure a4.2) fun x => M.bind (M.pure (D.int 1)) fun y => M.opt (addD x y)) fun many_6 =>
  M.bind (M.bind (M.bind (M.pure many_6) fun x => M.bind (M.pure (D.int 4000)) fun y => M.opt (gtB x y)) fun t => M.ite t (M.pure true) (M.bind (M.bind (M.pure z5.2.1) fun x => M.bind (M.pure (D.int 12)) fun y => M.opt (gtB x y)) fun t => M.ite t (M.pure true) (M.bind (M.bind (M.bind (M.bind (M.bind (M.pure z5.1) fun d => M.bind (M.bind (M.pure (D.int 2)) fun d => M.bind (M.bind (M.pure (D.int 4)) fun d => M.bind (M.pure []) fun ds => M.pure (d :: ds)) fun ds => M.pure (d :: ds)) fun ds => M.pure (d :: ds)) fun ds => F_is_tuple_of ds) fun d => M.opt (boolD d)) fun b => M.pure (!b)) fun t => M.ite t (M.pure true) (M.bind (M.bind (M.bind (M.bind (M.pure z5.1) fun x => M.bind (M.pure (D.int 0)) fun y => M.opt (getD x y)) fun d => M.opt (isiD "str" d)) fun d => M.opt (boolD d)) fun b => M.pure (!b))))) fun b => M.ite b (M.bind (M.bind (M.pure (D.bl false)) fun d => M.pure (O.rt d)) fun o => M.pure (O.out o)) (M.bind (M.bind (M.bind (M.pure z5.1) fun x => M.bind (M.pure (D.int 0)) fun y => M.opt (getD x y)) fun x => M.bind (M.bind (M.bind (M.pure (D.str "most")) fun d => M.bind (M.bind (M.pure (D.str "div")) fun d => M.bind (M.pure []) fun ds => M.pure (d :: ds)) fun ds => M.pure (d :: ds)) fun ds => M.pure (D.tup ds)) fun y => M.opt (inD x y)) fun b => M.ite b (M.bind (M.bind (M.bind (M.bind (M.bind (M.pure v_letters) fun d => M.bind (M.bind (M.pure z5.1) fun d => M.bind (M.pure []) fun ds => M.pure (d :: ds)) fun ds => M.pure (d :: ds)) fun ds => F_fits_leaf ds) fun d => M.opt (boolD d)) fun b => M.pure (!b)) fun b => M.ite b (M.bind (M.bind (M.pure (D.bl false)) fun d => M.pure (O.rt d)) fun o => M.pure (O.out o)) (M.pure (O.nx ((a4.1).dropLast, many_6)))) (M.bind (M.bind (M.bind (M.bind (M.pure z5.1) fun d => M.bind (M.pure []) fun ds => M.pure (d :: ds)) fun ds => F_fits_knot ds) fun d => M.opt (boolD d)) fun b => M.ite b (M.bind (M.bind (M.bind (M.bind (M.bind (M.bind (M.pure z5.1) fun d => M.bind (M.pure []) fun ds => M.pure (d :: ds)) fun ds => F_parts_of ds) fun d => M.opt (seqD d)) fun xs => compM Option.some (fun v9 => M.pure true) (fun v9 => M.bind (M.bind (M.pure v9) fun d => M.bind (M.bind (M.bind (M.pure z5.2.1) fun x => M.bind (M.pure (D.int 1)) fun y => M.opt (addD x y)) fun d => M.bind (M.pure []) fun ds => M.pure (d :: ds)) fun ds => M.pure (d :: ds)) fun ds => M.pure (D.tup ds)) xs) fun ys => M.bind (M.guard (len2B (a4.1).dropLast ys)) fun _ => M.pure ys) fun line_7 =>
  M.pure (O.nx (((a4.1).dropLast ++ line_7), many_6))) (M.bind (M.pure (D.bl false)) fun d => M.pure (O.rt d))))) (a3.1, a3.2.1)) fun o => O.aft o fun a10 =>
  M.bind (M.pure (D.bl true)) fun d => M.pure (O.rt d)
def F_fits_test : List CR.D → M (CR.D)
  | [v_letters, v_value] => M.bind (m_fits_test v_letters v_value) retD
  | _ => M.stuck
def r_fits_test (v_letters : CR.D) (v_value : CR.D) : R (O Unit Empty) :=
  R.bind (R.bind (R.bind (R.bind (R.bind (R.pure v_value) fun d => R.bind (R.bind (R.pure (D.int 1)) fun d => R.bind (R.pure []) fun ds => R.pure (d :: ds)) fun ds => R.pure (d :: ds)) fun ds => R.pure (D.tup ds)) fun d => R.bind (R.pure []) fun ds => R.pure (d :: ds)) fun d => R.bind (R.bind (R.pure (D.int 0)) fun d => R.bind (R.pure ()) fun r => R.pure (d, r)) fun r => R.pure (d, r)) fun a3 =>
  R.bind (whileR (fun a4 => R.bind (R.pure (D.lst a4.1)) fun x => R.bind (R.bind (R.pure []) fun xs => R.pure (D.lst xs)) fun y => R.opt (neB x y)) (fun a4 => R.bind (R.bind (R.opt ((a4.1).getLast?)) fun d => R.opt ((gmTup (gmCons Option.some (gmCons Option.some gmNil))) d)) fun z5 =>
  R.bind (R.bind (R.pure a4.2) fun x => R.bind (R.pure (D.int 1)) fun y => R.opt (addD x y)) fun many_6 =>
  R.bind (R.bind (R.bind (R.pure many_6) fun x => R.bind (R.pure (D.int 4000)) fun y => R.opt (gtB x y)) fun t => R.ite t (R.pure true) (R.bind (R.bind (R.pure z5.2.1) fun x => R.bind (R.pure (D.int 12)) fun y => R.opt (gtB x y)) fun t => R.ite t (R.pure true) (R.bind (R.bind (R.bind (R.bind (R.bind (R.pure z5.1) fun d => R.bind (R.bind (R.pure (D.int 2)) fun d => R.bind (R.bind (R.pure (D.int 4)) fun d => R.bind (R.pure []) fun ds => R.pure (d :: ds)) fun ds => R.pure (d :: ds)) fun ds => R.pure (d :: ds)) fun ds => f_is_tuple_of ds) fun d => R.opt (boolD d)) fun b => R.pure (!b)) fun t => R.ite t (R.pure true) (R.bind (R.bind (R.bind (R.bind (R.pure z5.1) fun x => R.bind (R.pure (D.int 0)) fun y => R.opt (getD x y)) fun d => R.opt (isiD "str" d)) fun d => R.opt (boolD d)) fun b => R.pure (!b))))) fun b => R.ite b (R.bind (R.bind (R.pure (D.bl false)) fun d => R.pure (O.rt d)) fun o => R.pure (O.out o)) (R.bind (R.bind (R.bind (R.pure z5.1) fun x => R.bind (R.pure (D.int 0)) fun y => R.opt (getD x y)) fun x => R.bind (R.bind (R.bind (R.pure (D.str "most")) fun d => R.bind (R.bind (R.pure (D.str "div")) fun d => R.bind (R.pure []) fun ds => R.pure (d :: ds)) fun ds => R.pure (d :: ds)) fun ds => R.pure (D.tup ds)) fun y => R.opt (inD x y)) fun b => R.ite b (R.bind (R.bind (R.bind (R.bind (R.bind (R.pure v_letters) fun d => R.bind (R.bind (R.pure z5.1) fun d => R.bind (R.pure []) fun ds => R.pure (d :: ds)) fun ds => R.pure (d :: ds)) fun ds => f_fits_leaf ds) fun d => R.opt (boolD d)) fun b => R.pure (!b)) fun b => R.ite b (R.bind (R.bind (R.pure (D.bl false)) fun d => R.pure (O.rt d)) fun o => R.pure (O.out o)) (R.pure (O.nx ((a4.1).dropLast, many_6)))) (R.bind (R.bind (R.bind (R.bind (R.pure z5.1) fun d => R.bind (R.pure []) fun ds => R.pure (d :: ds)) fun ds => f_fits_knot ds) fun d => R.opt (boolD d)) fun b => R.ite b (R.bind (R.bind (R.bind (R.bind (R.bind (R.bind (R.pure z5.1) fun d => R.bind (R.pure []) fun ds => R.pure (d :: ds)) fun ds => f_parts_of ds) fun d => R.opt (seqD d)) fun xs => compR Option.some (fun v9 => R.pure true) (fun v9 => R.bind (R.bind (R.pure v9) fun d => R.bind (R.bind (R.bind (R.pure z5.2.1) fun x => R.bind (R.pure (D.int 1)) fun y => R.opt (addD x y)) fun d => R.bind (R.pure []) fun ds => R.pure (d :: ds)) fun ds => R.pure (d :: ds)) fun ds => R.pure (D.tup ds)) xs) fun ys => R.bind (R.guard (len2B (a4.1).dropLast ys)) fun _ => R.pure ys) fun line_7 =>
  R.pure (O.nx (((a4.1).dropLast ++ line_7), many_6))) (R.bind (R.pure (D.bl false)) fun d => R.pure (O.rt d))))) (a3.1, a3.2.1)) fun o => O.aftR o fun a10 =>
  R.bind (R.pure (D.bl true)) fun d => R.pure (O.rt d)
def f_fits_test : List CR.D → R (CR.D)
  | [v_letters, v_value] => R.bind (r_fits_test v_letters v_value) retDR
  | _ => .stuck
theorem sm_fits_test (v_letters : CR.D) (v_value : CR.D) : Rel (m_fits_test v_letters v_value) (r_fits_test v_letters v_value) := by
  have h_fits_knot := s_fits_knot
  have h_is_tuple_of := s_is_tuple_of
  have h_fits_leaf := s_fits_leaf
  have h_parts_of := s_parts_of
  unfold m_fits_test r_fits_test
  repeat (first | with_reducible exact h_fits_knot _ | with_reducible exact h_is_tuple_of _ | with_reducible exact h_fits_leaf _ | with_reducible exact h_parts_of _ | (first | with_reducible exact rel_pure | with_reducible exact rel_opt | with_reducible exact rel_guard | with_reducible exact rel_raise | with_reducible exact rel_sorted | with_reducible exact rel_retD | with_reducible exact rel_retL | with_reducible assumption | with_reducible refine rel_bind ?_ (fun _ => ?_) | with_reducible refine rel_ite ?_ ?_ | with_reducible refine rel_nox ?_ | with_reducible refine rel_comp (fun _ => ?_) (fun _ => ?_) _ | with_reducible refine rel_for (fun _ _ => ?_) _ _ | with_reducible refine rel_while (fun _ => ?_) (fun _ => ?_) _ | with_reducible refine rel_nxt (fun _ => ?_) | with_reducible refine rel_aft (fun _ => ?_) | with_reducible refine rel_try ?_ ?_))
theorem s_fits_test : ∀ ds, Rel (F_fits_test ds) (f_fits_test ds) := fun ds => by
    match ds with
    | [v_letters, v_value] => exact rel_bind (sm_fits_test v_letters v_value) fun _ => rel_retD
    | [] => exact rel_stuck
    | [_] => exact rel_stuck
    | _ :: _ :: _ :: _ => exact rel_stuck
theorem b_fits_test {X : Cx} {W : WX} (g : GX X W p_fits_test) (hr : Room 3 X.A) (cf_fits_knot : CallF X.prog X.w X.K X.mg X.base "fits_knot" 2 (SpD X.K X.mg 1 F_fits_knot)) (cf_is_tuple_of : CallF X.prog X.w X.K X.mg X.base "is_tuple_of" 1 (SpD X.K X.mg 3 F_is_tuple_of)) (cf_fits_leaf : CallF X.prog X.w X.K X.mg X.base "fits_leaf" 3 (SpD X.K X.mg 2 F_fits_leaf)) (cf_parts_of : CallF X.prog X.w X.K X.mg X.base "parts_of" 1 (SpD X.K X.mg 1 F_parts_of)) (gl_PARTS : GlobD X "PARTS" (D.int 4000)) (gl_NESTED : GlobD X "NESTED" (D.int 12)) :
  ∃ m, Ss X W (fun c : CR.D × CR.D => [.pl c.1, .pl c.2, .un, .un, .un, .un, .un]) ⟨[.un, .un, .un, .un, .un, .un, .un], fun _ (_ : Unit) => [.un, .un, .un, .un, .un, .un, .un], fun _ (e : Empty) => e.elim⟩ (defBody (top 17)) m ∧ m = fun c => m_fits_test c.1 c.2 :=
 ⟨_, (ss_cons (sp_par g 2 3 (by decide) rfl rfl rfl rfl (ex_lst (el_lst (ea_cons (ee_tup (ea_cons (ee_var g 1 rfl rfl fun _ => rfl) (ea_cons ee_int ea_nil)) rfl) ea_nil) rfl) (ex_dat ee_int ex_nil)) (sw_of g.esc rfl))
 (ss_rho (fun c => [.pl c.2.1, .pl c.2.2, .ow c.1.1, .pl c.1.2.1, .un, .un, .un]) rfl (ss_whu g (fun (a : List CR.D × CR.D) l => ((l.set 2 (.ow a.1)).set 3 (.pl a.2))) (fun c => (c.1.1, c.1.2.1)) (by ((intro _; repeat (first | exact trivial | refine And.intro rfl ?_)))) (et_cmp (ob_ne g) rfl (er_own g 2 rfl rfl fun _ => rfl) (er_of (el_ee (el_lst ea_nil rfl)))) (ss_rho (fun c => [.pl c.2.2.1, .pl c.2.2.2, .ow c.1.1, .pl c.1.2, .un, .un, .un]) rfl (ss_cons (sp_pop g 2 rfl rfl (fun _ => rfl) (eg_tup g (egs_cons (eg_name g 4 rfl rfl) (egs_cons (eg_name g 5 rfl rfl) egs_nil)) (gml1 (gml1 gml0))))
 (ss_rho (fun c => [.pl c.2.2.2.1, .pl c.2.2.2.2, .ow (c.2.1.1).dropLast, .pl c.2.1.2, .pl c.1.1, .pl c.1.2.1, .un]) rfl (ss_cons (sp_set g 3 rfl rfl (ee_bin od_add (er_of (ee_var g 3 rfl rfl fun _ => rfl)) (er_of ee_int)))
 (ss_rho (fun c => [.pl c.2.2.2.2.1, .pl c.2.2.2.2.2, .ow (c.2.2.1.1).dropLast, .pl c.1, .pl c.2.1.1, .pl c.2.1.2.1, .un]) rfl (ss_ifx (et_w (ew_or (et_cmp ob_gt rfl (er_of (ee_var g 3 rfl rfl fun _ => rfl)) (er_of (ee_glob g 0 rfl gl_PARTS))) (ew_or (et_cmp ob_gt rfl (er_of (ee_var g 5 rfl rfl fun _ => rfl)) (er_of (ee_glob g 1 rfl gl_NESTED))) (ew_or (et_not (et_val (ee_call g 2 cf_is_tuple_of hr rfl rfl (ea_cons (ee_var g 4 rfl rfl fun _ => rfl) (ea_cons ee_int (ea_cons ee_int ea_nil))) rfl))) (ew_or1 (et_not (et_val (ee_isi g 3 4 "str" rfl rfl (by decide +kernel) (by decide +kernel) (er_of (ee_ix (er_of (ee_var g 4 rfl rfl fun _ => rfl)) ee_int)))))))))) (ss_ret ee_bl (by ((intro _; repeat (first | exact trivial | refine And.intro rfl ?_)))))
 (ss_ife (et_cmp (ob_in g) rfl (er_of (ee_ix (er_of (ee_var g 4 rfl rfl fun _ => rfl)) ee_int)) (er_of (ee_tup (ea_cons (ee_str (by decide +kernel)) (ea_cons (ee_str (by decide +kernel)) ea_nil)) rfl))) (ss_ifx (et_not (et_val (ee_call g 5 cf_fits_leaf hr rfl rfl (ea_cons (ee_var g 0 rfl rfl fun _ => rfl) (ea_cons (ee_var g 4 rfl rfl fun _ => rfl) ea_nil)) rfl))) (ss_ret ee_bl (by ((intro _; repeat (first | exact trivial | refine And.intro rfl ?_)))))
 (ss_end (fun c => ((c.2.2.1.1).dropLast, c.1)) (by ((intro _; repeat (first | exact trivial | refine And.intro rfl ?_))))))
 (ss_ife (et_val (ee_call g 6 cf_fits_knot hr rfl rfl (ea_cons (ee_var g 4 rfl rfl fun _ => rfl) ea_nil) rfl)) (ss_cons (sp_augL g 2 rfl rfl (fun _ => rfl) (el_comp g (own := [("part", 6)]) (vis := [5, 6]) (loc := [6]) (gl := []) (sl := [6]) (ei_seq (ee_call g 7 cf_parts_of hr rfl rfl (ea_cons (ee_var g 4 rfl rfl fun _ => rfl) ea_nil) rfl)) (by decide +kernel) (plainAt.cons (fun _ => slotUn rfl rfl) plainAt.nil) rfl (fun _ _ _ _ _ g8 => (eg_name g8 6 rfl rfl)) (gsn_off 6) (fun _ _ _ _ _ g8 => ets_nil) (fun _ _ _ _ _ g8 => (ee_tup (ea_cons (ee_var g8 6 rfl rfl fun _ => rfl) (ea_cons (ee_bin od_add (er_of (ee_var g8 5 rfl rfl fun _ => rfl)) (er_of ee_int)) ea_nil)) rfl))))
 (ss_end (fun c => (((c.2.2.2.1.1).dropLast ++ c.1), c.2.1)) (by ((intro _; repeat (first | exact trivial | refine And.intro rfl ?_))))))
 (ss_ret ee_bl (by ((intro _; repeat (first | exact trivial | refine And.intro rfl ?_)))))))))))))
 (ss_frz 2 (fun _ => rfl) (ss_rho (fun c => [.pl c.2.2.1, .pl c.2.2.2, .pl (D.lst c.1.1), .pl c.1.2, .un, .un, .un]) rfl (ss_ret ee_bl (by ((intro _; repeat (first | exact trivial | refine And.intro rfl ?_)))))))))), by kernel_rfl⟩

def p_leaves_of : Cp := ⟨["test", "found", "line", "one"], defScope (top 18), [0, 1, 2, 3], [0, 1, 2, 3], [0, 1, 2, 3], ["list", "parts_of"], true⟩
def m_leaves_of (v_test : CR.D) : M (O Unit Empty) :=
  M.bind (M.bind (M.pure []) fun d => M.bind (M.bind (M.bind (M.pure v_test) fun d => M.bind (M.pure []) fun ds => M.pure (d :: ds)) fun d => M.bind (M.pure ()) fun r => M.pure (d, r)) fun r => M.pure (d, r)) fun a11 =>
  M.bind (whileM (fun a12 => M.bind (M.pure (D.lst a12.1)) fun x => M.bind (M.bind (M.pure []) fun xs => M.pure (D.lst xs)) fun y => M.opt (neB x y)) (fun a12 => M.bind (M.bind (M.opt ((a12.1).head?)) fun d => M.opt (Option.some d)) fun z13 =>
  M.bind (M.bind (M.bind (M.pure z13) fun x => M.bind (M.pure (D.int 0)) fun y => M.opt (getD x y)) fun x => M.bind (M.bind (M.bind (M.pure (D.str "most")) fun d => M.bind (M.bind (M.pure (D.str "div")) fun d => M.bind (M.pure []) fun ds => M.pure (d :: ds)) fun ds => M.pure (d :: ds)) fun ds => M.pure (D.tup ds)) fun y => M.opt (inD x y)) fun b => M.ite b (M.bind (M.bind (M.pure z13) fun d => M.bind (M.guard (lenB a12.2)) fun _ => M.pure d) fun e14 =>
  M.pure (O.nx ((a12.1).tail, (a12.2 ++ [e14])))) (M.bind (M.bind (M.bind (M.bind (M.bind (M.bind (M.pure z13) fun d => M.bind (M.pure []) fun ds => M.pure (d :: ds)) fun ds => F_parts_of ds) fun d => M.opt (seqD d)) fun xs => M.pure (D.lst xs)) fun x => M.bind (M.pure (D.lst (a12.1).tail)) fun y => M.opt (addL x y)) fun line_15 =>
  M.pure (O.nx (line_15, a12.2)))) (a11.2.1, a11.1)) fun o => O.aft o fun a16 =>
  M.pure (O.rl a16.2)
def F_leaves_of : List CR.D → M (List CR.D)
  | [v_test] => M.bind (m_leaves_of v_test) retL
  | _ => M.stuck
def r_leaves_of (v_test : CR.D) : R (O Unit Empty) :=
  R.bind (R.bind (R.pure []) fun d => R.bind (R.bind (R.bind (R.pure v_test) fun d => R.bind (R.pure []) fun ds => R.pure (d :: ds)) fun d => R.bind (R.pure ()) fun r => R.pure (d, r)) fun r => R.pure (d, r)) fun a11 =>
  R.bind (whileR (fun a12 => R.bind (R.pure (D.lst a12.1)) fun x => R.bind (R.bind (R.pure []) fun xs => R.pure (D.lst xs)) fun y => R.opt (neB x y)) (fun a12 => R.bind (R.bind (R.opt ((a12.1).head?)) fun d => R.opt (Option.some d)) fun z13 =>
  R.bind (R.bind (R.bind (R.pure z13) fun x => R.bind (R.pure (D.int 0)) fun y => R.opt (getD x y)) fun x => R.bind (R.bind (R.bind (R.pure (D.str "most")) fun d => R.bind (R.bind (R.pure (D.str "div")) fun d => R.bind (R.pure []) fun ds => R.pure (d :: ds)) fun ds => R.pure (d :: ds)) fun ds => R.pure (D.tup ds)) fun y => R.opt (inD x y)) fun b => R.ite b (R.bind (R.bind (R.pure z13) fun d => R.bind (R.guard (lenB a12.2)) fun _ => R.pure d) fun e14 =>
  R.pure (O.nx ((a12.1).tail, (a12.2 ++ [e14])))) (R.bind (R.bind (R.bind (R.bind (R.bind (R.bind (R.pure z13) fun d => R.bind (R.pure []) fun ds => R.pure (d :: ds)) fun ds => f_parts_of ds) fun d => R.opt (seqD d)) fun xs => R.pure (D.lst xs)) fun x => R.bind (R.pure (D.lst (a12.1).tail)) fun y => R.opt (addL x y)) fun line_15 =>
  R.pure (O.nx (line_15, a12.2)))) (a11.2.1, a11.1)) fun o => O.aftR o fun a16 =>
  R.pure (O.rl a16.2)
def f_leaves_of : List CR.D → R (List CR.D)
  | [v_test] => R.bind (r_leaves_of v_test) retLR
  | _ => .stuck
theorem sm_leaves_of (v_test : CR.D) : Rel (m_leaves_of v_test) (r_leaves_of v_test) := by
  have h_parts_of := s_parts_of
  unfold m_leaves_of r_leaves_of
  repeat (first | with_reducible exact h_parts_of _ | (first | with_reducible exact rel_pure | with_reducible exact rel_opt | with_reducible exact rel_guard | with_reducible exact rel_raise | with_reducible exact rel_sorted | with_reducible exact rel_retD | with_reducible exact rel_retL | with_reducible assumption | with_reducible refine rel_bind ?_ (fun _ => ?_) | with_reducible refine rel_ite ?_ ?_ | with_reducible refine rel_nox ?_ | with_reducible refine rel_comp (fun _ => ?_) (fun _ => ?_) _ | with_reducible refine rel_for (fun _ _ => ?_) _ _ | with_reducible refine rel_while (fun _ => ?_) (fun _ => ?_) _ | with_reducible refine rel_nxt (fun _ => ?_) | with_reducible refine rel_aft (fun _ => ?_) | with_reducible refine rel_try ?_ ?_))
theorem s_leaves_of : ∀ ds, Rel (F_leaves_of ds) (f_leaves_of ds) := fun ds => by
    match ds with
    | [v_test] => exact rel_bind (sm_leaves_of v_test) fun _ => rel_retL
    | [] => exact rel_stuck
    | _ :: _ :: _ => exact rel_stuck
theorem b_leaves_of {X : Cx} {W : WX} (g : GX X W p_leaves_of) (hr : Room 1 X.A) (cf_parts_of : CallF X.prog X.w X.K X.mg X.base "parts_of" 1 (SpD X.K X.mg 1 F_parts_of)) :
  ∃ m, Ss X W (fun c : CR.D => [.pl c, .un, .un, .un]) ⟨[.un, .un, .un, .un], fun _ (_ : Unit) => [.un, .un, .un, .un], fun _ (e : Empty) => e.elim⟩ (defBody (top 18)) m ∧ m = fun c => m_leaves_of c :=
 ⟨_, (ss_cons (sp_par g 1 2 (by decide) rfl rfl rfl rfl (ex_lst (el_lst ea_nil rfl) (ex_lst (el_lst (ea_cons (ee_var g 0 rfl rfl fun _ => rfl) ea_nil) rfl) ex_nil)) (sw_of g.esc rfl))
 (ss_rho (fun c => [.pl c.2, .ow c.1.1, .ow c.1.2.1, .un]) rfl (ss_whu g (fun (a : List CR.D × List CR.D) l => ((l.set 2 (.ow a.1)).set 1 (.ow a.2))) (fun c => (c.1.2.1, c.1.1)) (by ((intro _; repeat (first | exact trivial | refine And.intro rfl ?_)))) (et_cmp (ob_ne g) rfl (er_own g 2 rfl rfl fun _ => rfl) (er_of (el_ee (el_lst ea_nil rfl)))) (ss_rho (fun c => [.pl c.2.2, .ow c.1.2, .ow c.1.1, .un]) rfl (ss_cons (sp_pop0 g 2 rfl rfl (fun _ => rfl) (eg_name g 3 rfl rfl))
 (ss_rho (fun c => [.pl c.2.2.2, .ow c.2.1.2, .ow (c.2.1.1).tail, .pl c.1]) rfl (ss_ife (et_cmp (ob_in g) rfl (er_of (ee_ix (er_of (ee_var g 3 rfl rfl fun _ => rfl)) ee_int)) (er_of (ee_tup (ea_cons (ee_str (by decide +kernel)) (ea_cons (ee_str (by decide +kernel)) ea_nil)) rfl))) (ss_cons (sp_app g 1 rfl rfl (fun _ => rfl) (ee_var g 3 rfl rfl fun _ => rfl))
 (ss_end (fun c => ((c.2.2.1.1).tail, (c.2.2.1.2 ++ [c.1]))) (by ((intro _; repeat (first | exact trivial | refine And.intro rfl ?_))))))
 (ss_cons (sp_lset g 2 rfl rfl (el_bin ol_add (er_of (el_ee (el_list g 0 rfl (er_of (ee_call g 1 cf_parts_of hr rfl rfl (ea_cons (ee_var g 3 rfl rfl fun _ => rfl) ea_nil) rfl))))) (er_own g 2 rfl rfl fun _ => rfl)))
 (ss_end (fun c => (c.1, c.2.2.1.2)) (by ((intro _; repeat (first | exact trivial | refine And.intro rfl ?_))))))))))
 (ss_frz 2 (fun _ => rfl) (ss_rho (fun c => [.pl c.2.2, .ow c.1.2, .pl (D.lst c.1.1), .un]) rfl (ss_retO g 1 rfl rfl (fun _ => rfl) (by ((intro _; repeat (first | exact trivial | refine And.intro rfl ?_)))))))))), by kernel_rfl⟩

def p_common_divisor : Cp := ⟨["one", "other"], defScope (top 28), [0, 1], [0, 1], [0, 1], ["abs"], true⟩
def m_common_divisor (v_one : CR.D) (v_other : CR.D) : M (O Unit Empty) :=
  M.bind (whileM (fun a17 => M.bind (M.pure a17.2) fun x => M.bind (M.pure (D.int 0)) fun y => M.opt (neB x y)) (fun a17 => M.bind (M.bind (M.pure a17.2) fun d => M.bind (M.bind (M.bind (M.pure a17.1) fun x => M.bind (M.pure a17.2) fun y => M.opt (modD x y)) fun d => M.bind (M.pure ()) fun r => M.pure (d, r)) fun r => M.pure (d, r)) fun a18 =>
  M.pure (O.nx (a18.1, a18.2.1))) (v_one, v_other)) fun o => O.aft o fun a19 =>
  M.bind (M.bind (M.pure a19.1) fun d => M.opt (absD d)) fun d => M.pure (O.rt d)
def F_common_divisor : List CR.D → M (CR.D)
  | [v_one, v_other] => M.bind (m_common_divisor v_one v_other) retD
  | _ => M.stuck
def r_common_divisor (v_one : CR.D) (v_other : CR.D) : R (O Unit Empty) :=
  R.bind (whileR (fun a17 => R.bind (R.pure a17.2) fun x => R.bind (R.pure (D.int 0)) fun y => R.opt (neB x y)) (fun a17 => R.bind (R.bind (R.pure a17.2) fun d => R.bind (R.bind (R.bind (R.pure a17.1) fun x => R.bind (R.pure a17.2) fun y => R.opt (modD x y)) fun d => R.bind (R.pure ()) fun r => R.pure (d, r)) fun r => R.pure (d, r)) fun a18 =>
  R.pure (O.nx (a18.1, a18.2.1))) (v_one, v_other)) fun o => O.aftR o fun a19 =>
  R.bind (R.bind (R.pure a19.1) fun d => R.opt (absD d)) fun d => R.pure (O.rt d)
def f_common_divisor : List CR.D → R (CR.D)
  | [v_one, v_other] => R.bind (r_common_divisor v_one v_other) retDR
  | _ => .stuck
theorem sm_common_divisor (v_one : CR.D) (v_other : CR.D) : Rel (m_common_divisor v_one v_other) (r_common_divisor v_one v_other) := by
  unfold m_common_divisor r_common_divisor
  repeat (first | (first | with_reducible exact rel_pure | with_reducible exact rel_opt | with_reducible exact rel_guard | with_reducible exact rel_raise | with_reducible exact rel_sorted | with_reducible exact rel_retD | with_reducible exact rel_retL | with_reducible assumption | with_reducible refine rel_bind ?_ (fun _ => ?_) | with_reducible refine rel_ite ?_ ?_ | with_reducible refine rel_nox ?_ | with_reducible refine rel_comp (fun _ => ?_) (fun _ => ?_) _ | with_reducible refine rel_for (fun _ _ => ?_) _ _ | with_reducible refine rel_while (fun _ => ?_) (fun _ => ?_) _ | with_reducible refine rel_nxt (fun _ => ?_) | with_reducible refine rel_aft (fun _ => ?_) | with_reducible refine rel_try ?_ ?_))
theorem s_common_divisor : ∀ ds, Rel (F_common_divisor ds) (f_common_divisor ds) := fun ds => by
    match ds with
    | [v_one, v_other] => exact rel_bind (sm_common_divisor v_one v_other) fun _ => rel_retD
    | [] => exact rel_stuck
    | [_] => exact rel_stuck
    | _ :: _ :: _ :: _ => exact rel_stuck
theorem b_common_divisor {X : Cx} {W : WX} (g : GX X W p_common_divisor) (hr : Room 0 X.A) :
  ∃ m, Ss X W (fun c : CR.D × CR.D => [.pl c.1, .pl c.2]) ⟨[.un, .un], fun _ (_ : Unit) => [.un, .un], fun _ (e : Empty) => e.elim⟩ (defBody (top 28)) m ∧ m = fun c => m_common_divisor c.1 c.2 :=
 ⟨_, (ss_whu g (fun (a : CR.D × CR.D) l => ((l.set 0 (.pl a.1)).set 1 (.pl a.2))) (fun c => (c.1, c.2)) (by ((intro _; repeat (first | exact trivial | refine And.intro rfl ?_)))) (et_cmp (ob_ne g) rfl (er_of (ee_var g 1 rfl rfl fun _ => rfl)) (er_of ee_int)) (ss_rho (fun c => [.pl c.1.1, .pl c.1.2]) rfl (ss_cons (sp_par g 0 1 (by decide) rfl rfl rfl rfl (ex_dat (ee_var g 1 rfl rfl fun _ => rfl) (ex_dat (ee_bin od_mod (er_of (ee_var g 0 rfl rfl fun _ => rfl)) (er_of (ee_var g 1 rfl rfl fun _ => rfl))) ex_nil)) (sw_of g.esc rfl))
 (ss_end (fun c => (c.1.1, c.1.2.1)) (by ((intro _; repeat (first | exact trivial | refine And.intro rfl ?_)))))))
 (ss_rho (fun c => [.pl c.1.1, .pl c.1.2]) rfl (ss_ret (ee_abs g 0 rfl (er_of (ee_var g 0 rfl rfl fun _ => rfl))) (by ((intro _; repeat (first | exact trivial | refine And.intro rfl ?_))))))), by kernel_rfl⟩

def p_common_multiple : Cp := ⟨["numbers", "found", "number"], defScope (top 29), [0, 1, 2], [0, 1, 2], [0, 1, 2], ["common_divisor"], true⟩
def m_common_multiple (v_numbers : CR.D) : M (O Unit Empty) :=
  M.bind (M.pure (D.int 1)) fun found_20 =>
  M.bind (M.bind (M.pure v_numbers) fun d => M.opt (seqD d)) fun xs => M.bind (forM Option.some (fun v22 a21 => M.bind (M.bind (M.bind (M.pure a21) fun x => M.bind (M.pure v22) fun y => M.opt (mulD x y)) fun x => M.bind (M.bind (M.bind (M.pure a21) fun d => M.bind (M.bind (M.pure v22) fun d => M.bind (M.pure []) fun ds => M.pure (d :: ds)) fun ds => M.pure (d :: ds)) fun ds => F_common_divisor ds) fun y => M.opt (divD x y)) fun found_23 =>
  M.pure (O.nx found_23)) xs found_20) fun o => O.aft o fun a24 =>
  M.bind (M.pure a24) fun d => M.pure (O.rt d)
def F_common_multiple : List CR.D → M (CR.D)
  | [v_numbers] => M.bind (m_common_multiple v_numbers) retD
  | _ => M.stuck
def r_common_multiple (v_numbers : CR.D) : R (O Unit Empty) :=
  R.bind (R.pure (D.int 1)) fun found_20 =>
  R.bind (R.bind (R.pure v_numbers) fun d => R.opt (seqD d)) fun xs => R.bind (forR Option.some (fun v22 a21 => R.bind (R.bind (R.bind (R.pure a21) fun x => R.bind (R.pure v22) fun y => R.opt (mulD x y)) fun x => R.bind (R.bind (R.bind (R.pure a21) fun d => R.bind (R.bind (R.pure v22) fun d => R.bind (R.pure []) fun ds => R.pure (d :: ds)) fun ds => R.pure (d :: ds)) fun ds => f_common_divisor ds) fun y => R.opt (divD x y)) fun found_23 =>
  R.pure (O.nx found_23)) xs found_20) fun o => O.aftR o fun a24 =>
  R.bind (R.pure a24) fun d => R.pure (O.rt d)
def f_common_multiple : List CR.D → R (CR.D)
  | [v_numbers] => R.bind (r_common_multiple v_numbers) retDR
  | _ => .stuck
theorem sm_common_multiple (v_numbers : CR.D) : Rel (m_common_multiple v_numbers) (r_common_multiple v_numbers) := by
  have h_common_divisor := s_common_divisor
  unfold m_common_multiple r_common_multiple
  repeat (first | with_reducible exact h_common_divisor _ | (first | with_reducible exact rel_pure | with_reducible exact rel_opt | with_reducible exact rel_guard | with_reducible exact rel_raise | with_reducible exact rel_sorted | with_reducible exact rel_retD | with_reducible exact rel_retL | with_reducible assumption | with_reducible refine rel_bind ?_ (fun _ => ?_) | with_reducible refine rel_ite ?_ ?_ | with_reducible refine rel_nox ?_ | with_reducible refine rel_comp (fun _ => ?_) (fun _ => ?_) _ | with_reducible refine rel_for (fun _ _ => ?_) _ _ | with_reducible refine rel_while (fun _ => ?_) (fun _ => ?_) _ | with_reducible refine rel_nxt (fun _ => ?_) | with_reducible refine rel_aft (fun _ => ?_) | with_reducible refine rel_try ?_ ?_))
theorem s_common_multiple : ∀ ds, Rel (F_common_multiple ds) (f_common_multiple ds) := fun ds => by
    match ds with
    | [v_numbers] => exact rel_bind (sm_common_multiple v_numbers) fun _ => rel_retD
    | [] => exact rel_stuck
    | _ :: _ :: _ => exact rel_stuck
theorem b_common_multiple {X : Cx} {W : WX} (g : GX X W p_common_multiple) (hr : Room 1 X.A) (cf_common_divisor : CallF X.prog X.w X.K X.mg X.base "common_divisor" 1 (SpD X.K X.mg 2 F_common_divisor)) :
  ∃ m, Ss X W (fun c : CR.D => [.pl c, .un, .un]) ⟨[.un, .un, .un], fun _ (_ : Unit) => [.un, .un, .un], fun _ (e : Empty) => e.elim⟩ (defBody (top 29)) m ∧ m = fun c => m_common_multiple c :=
 ⟨_, (ss_cons (sp_set g 1 rfl rfl ee_int)
 (ss_rho (fun c => [.pl c.2, .pl c.1, .un]) rfl (ss_fou g (fun (a : CR.D) l => (l.set 1 (.pl a))) (fun c => c.1) (by ((intro _; repeat (first | exact trivial | refine And.intro rfl ?_)))) (ei_seq (ee_var g 0 rfl rfl fun _ => rfl)) (eg_name g 2 rfl rfl) (ss_rho (fun c => [.pl c.2.2.2, .pl c.2.1, .pl c.1]) rfl (ss_cons (sp_set g 1 rfl rfl (ee_bin od_div (er_of (ee_bin od_mul (er_of (ee_var g 1 rfl rfl fun _ => rfl)) (er_of (ee_var g 2 rfl rfl fun _ => rfl)))) (er_of (ee_call g 0 cf_common_divisor hr rfl rfl (ea_cons (ee_var g 1 rfl rfl fun _ => rfl) (ea_cons (ee_var g 2 rfl rfl fun _ => rfl) ea_nil)) rfl))))
 (ss_end (fun c => c.1) (by ((intro _; repeat (first | exact trivial | refine And.intro rfl ?_)))))))
 (ss_rho (fun c => [.pl c.2.2, .pl c.1, .un]) rfl (ss_ret (ee_var g 1 rfl rfl fun _ => rfl) (by ((intro _; repeat (first | exact trivial | refine And.intro rfl ?_))))))))), by kernel_rfl⟩

def p_divisors_in : Cp := ⟨["test", "leaf"], defScope (top 30), [0], [0], [0], ["leaves_of"], true⟩
def m_divisors_in (v_test : CR.D) : M (O Unit Empty) :=
  M.bind (M.bind (M.bind (M.bind (M.bind (M.bind (M.pure v_test) fun d => M.bind (M.pure []) fun ds => M.pure (d :: ds)) fun ds => F_leaves_of ds) fun xs => M.pure (D.lst xs)) fun d => M.opt (seqD d)) fun xs => compM Option.some (fun v26 => M.bind (M.bind (M.pure v26) fun x => M.bind (M.pure (D.int 0)) fun y => M.opt (getD x y)) fun x => M.bind (M.pure (D.str "div")) fun y => M.opt (eqB x y)) (fun v26 => M.bind (M.pure v26) fun x => M.bind (M.pure (D.int 1)) fun y => M.opt (getD x y)) xs) fun d => M.pure (O.rl d)
def F_divisors_in : List CR.D → M (List CR.D)
  | [v_test] => M.bind (m_divisors_in v_test) retL
  | _ => M.stuck
def r_divisors_in (v_test : CR.D) : R (O Unit Empty) :=
  R.bind (R.bind (R.bind (R.bind (R.bind (R.bind (R.pure v_test) fun d => R.bind (R.pure []) fun ds => R.pure (d :: ds)) fun ds => f_leaves_of ds) fun xs => R.pure (D.lst xs)) fun d => R.opt (seqD d)) fun xs => compR Option.some (fun v26 => R.bind (R.bind (R.pure v26) fun x => R.bind (R.pure (D.int 0)) fun y => R.opt (getD x y)) fun x => R.bind (R.pure (D.str "div")) fun y => R.opt (eqB x y)) (fun v26 => R.bind (R.pure v26) fun x => R.bind (R.pure (D.int 1)) fun y => R.opt (getD x y)) xs) fun d => R.pure (O.rl d)
def f_divisors_in : List CR.D → R (List CR.D)
  | [v_test] => R.bind (r_divisors_in v_test) retLR
  | _ => .stuck
theorem sm_divisors_in (v_test : CR.D) : Rel (m_divisors_in v_test) (r_divisors_in v_test) := by
  have h_leaves_of := s_leaves_of
  unfold m_divisors_in r_divisors_in
  repeat (first | with_reducible exact h_leaves_of _ | (first | with_reducible exact rel_pure | with_reducible exact rel_opt | with_reducible exact rel_guard | with_reducible exact rel_raise | with_reducible exact rel_sorted | with_reducible exact rel_retD | with_reducible exact rel_retL | with_reducible assumption | with_reducible refine rel_bind ?_ (fun _ => ?_) | with_reducible refine rel_ite ?_ ?_ | with_reducible refine rel_nox ?_ | with_reducible refine rel_comp (fun _ => ?_) (fun _ => ?_) _ | with_reducible refine rel_for (fun _ _ => ?_) _ _ | with_reducible refine rel_while (fun _ => ?_) (fun _ => ?_) _ | with_reducible refine rel_nxt (fun _ => ?_) | with_reducible refine rel_aft (fun _ => ?_) | with_reducible refine rel_try ?_ ?_))
theorem s_divisors_in : ∀ ds, Rel (F_divisors_in ds) (f_divisors_in ds) := fun ds => by
    match ds with
    | [v_test] => exact rel_bind (sm_divisors_in v_test) fun _ => rel_retL
    | [] => exact rel_stuck
    | _ :: _ :: _ => exact rel_stuck
theorem b_divisors_in {X : Cx} {W : WX} (g : GX X W p_divisors_in) (hr : Room 2 X.A) (cf_leaves_of : CallF X.prog X.w X.K X.mg X.base "leaves_of" 2 (SpL X.K X.mg 1 F_leaves_of)) :
  ∃ m, Ss X W (fun c : CR.D => [.pl c, .un]) ⟨[.un, .un], fun _ (_ : Unit) => [.un, .un], fun _ (e : Empty) => e.elim⟩ (defBody (top 30)) m ∧ m = fun c => m_divisors_in c :=
 ⟨_, (ss_ret1 (el_comp g (own := [("leaf", 1)]) (vis := [1]) (loc := [1]) (gl := []) (sl := [1]) (ei_seq (el_ee (el_call g 0 cf_leaves_of hr rfl rfl (ea_cons (ee_var g 0 rfl rfl fun _ => rfl) ea_nil) rfl))) (by decide +kernel) (plainAt.cons (fun _ => slotUn rfl rfl) plainAt.nil) rfl (fun _ _ _ _ _ g25 => (eg_name g25 1 rfl rfl)) (gsn_off 1) (fun _ _ _ _ _ g25 => (ets_one (et_cmp (ob_eq g25) rfl (er_of (ee_ix (er_of (ee_var g25 1 rfl rfl fun _ => rfl)) ee_int)) (er_of (ee_str (by decide +kernel)))))) (fun _ _ _ _ _ g25 => (ee_ix (er_of (ee_var g25 1 rfl rfl fun _ => rfl)) ee_int))) (by ((intro _; repeat (first | exact trivial | refine And.intro rfl ?_))))), by kernel_rfl⟩

def p_period_of : Cp := ⟨["test"], defScope (top 31), [0], [0], [0], ["common_multiple", "divisors_in"], true⟩
def m_period_of (v_test : CR.D) : M (O Unit Empty) :=
  M.bind (M.bind (M.bind (M.bind (M.bind (M.bind (M.pure v_test) fun d => M.bind (M.pure []) fun ds => M.pure (d :: ds)) fun ds => F_divisors_in ds) fun xs => M.pure (D.lst xs)) fun d => M.bind (M.pure []) fun ds => M.pure (d :: ds)) fun ds => F_common_multiple ds) fun d => M.pure (O.rt d)
def F_period_of : List CR.D → M (CR.D)
  | [v_test] => M.bind (m_period_of v_test) retD
  | _ => M.stuck
def r_period_of (v_test : CR.D) : R (O Unit Empty) :=
  R.bind (R.bind (R.bind (R.bind (R.bind (R.bind (R.pure v_test) fun d => R.bind (R.pure []) fun ds => R.pure (d :: ds)) fun ds => f_divisors_in ds) fun xs => R.pure (D.lst xs)) fun d => R.bind (R.pure []) fun ds => R.pure (d :: ds)) fun ds => f_common_multiple ds) fun d => R.pure (O.rt d)
def f_period_of : List CR.D → R (CR.D)
  | [v_test] => R.bind (r_period_of v_test) retDR
  | _ => .stuck
theorem sm_period_of (v_test : CR.D) : Rel (m_period_of v_test) (r_period_of v_test) := by
  have h_common_multiple := s_common_multiple
  have h_divisors_in := s_divisors_in
  unfold m_period_of r_period_of
  repeat (first | with_reducible exact h_common_multiple _ | with_reducible exact h_divisors_in _ | (first | with_reducible exact rel_pure | with_reducible exact rel_opt | with_reducible exact rel_guard | with_reducible exact rel_raise | with_reducible exact rel_sorted | with_reducible exact rel_retD | with_reducible exact rel_retL | with_reducible assumption | with_reducible refine rel_bind ?_ (fun _ => ?_) | with_reducible refine rel_ite ?_ ?_ | with_reducible refine rel_nox ?_ | with_reducible refine rel_comp (fun _ => ?_) (fun _ => ?_) _ | with_reducible refine rel_for (fun _ _ => ?_) _ _ | with_reducible refine rel_while (fun _ => ?_) (fun _ => ?_) _ | with_reducible refine rel_nxt (fun _ => ?_) | with_reducible refine rel_aft (fun _ => ?_) | with_reducible refine rel_try ?_ ?_))
theorem s_period_of : ∀ ds, Rel (F_period_of ds) (f_period_of ds) := fun ds => by
    match ds with
    | [v_test] => exact rel_bind (sm_period_of v_test) fun _ => rel_retD
    | [] => exact rel_stuck
    | _ :: _ :: _ => exact rel_stuck
theorem b_period_of {X : Cx} {W : WX} (g : GX X W p_period_of) (hr : Room 3 X.A) (cf_common_multiple : CallF X.prog X.w X.K X.mg X.base "common_multiple" 2 (SpD X.K X.mg 1 F_common_multiple)) (cf_divisors_in : CallF X.prog X.w X.K X.mg X.base "divisors_in" 3 (SpL X.K X.mg 1 F_divisors_in)) :
  ∃ m, Ss X W (fun c : CR.D => [.pl c]) ⟨[.un], fun _ (_ : Unit) => [.un], fun _ (e : Empty) => e.elim⟩ (defBody (top 31)) m ∧ m = fun c => m_period_of c :=
 ⟨_, (ss_ret (ee_call g 0 cf_common_multiple hr rfl rfl (ea_cons (el_ee (el_call g 1 cf_divisors_in hr rfl rfl (ea_cons (ee_var g 0 rfl rfl fun _ => rfl) ea_nil) rfl)) ea_nil) rfl) (by ((intro _; repeat (first | exact trivial | refine And.intro rfl ?_))))), by kernel_rfl⟩

def p_row_of : Cp := ⟨["leaf"], defScope (top 32), [0], [0], [0], [], true⟩
def m_row_of (v_leaf : CR.D) : M (O Unit Empty) :=
  M.bind (M.bind (M.bind (M.bind (M.pure v_leaf) fun x => M.bind (M.pure (D.int 0)) fun y => M.opt (getD x y)) fun x => M.bind (M.pure (D.str "most")) fun y => M.opt (eqB x y)) fun t => M.ite t (M.bind (M.pure v_leaf) fun x => M.bind (M.pure (D.int 1)) fun y => M.opt (getD x y)) (M.bind (M.pure v_leaf) fun x => M.bind (M.pure (D.int 2)) fun y => M.opt (getD x y))) fun d => M.pure (O.rt d)
def F_row_of : List CR.D → M (CR.D)
  | [v_leaf] => M.bind (m_row_of v_leaf) retD
  | _ => M.stuck
def r_row_of (v_leaf : CR.D) : R (O Unit Empty) :=
  R.bind (R.bind (R.bind (R.bind (R.pure v_leaf) fun x => R.bind (R.pure (D.int 0)) fun y => R.opt (getD x y)) fun x => R.bind (R.pure (D.str "most")) fun y => R.opt (eqB x y)) fun t => R.ite t (R.bind (R.pure v_leaf) fun x => R.bind (R.pure (D.int 1)) fun y => R.opt (getD x y)) (R.bind (R.pure v_leaf) fun x => R.bind (R.pure (D.int 2)) fun y => R.opt (getD x y))) fun d => R.pure (O.rt d)
def f_row_of : List CR.D → R (CR.D)
  | [v_leaf] => R.bind (r_row_of v_leaf) retDR
  | _ => .stuck
theorem sm_row_of (v_leaf : CR.D) : Rel (m_row_of v_leaf) (r_row_of v_leaf) := by
  unfold m_row_of r_row_of
  repeat (first | (first | with_reducible exact rel_pure | with_reducible exact rel_opt | with_reducible exact rel_guard | with_reducible exact rel_raise | with_reducible exact rel_sorted | with_reducible exact rel_retD | with_reducible exact rel_retL | with_reducible assumption | with_reducible refine rel_bind ?_ (fun _ => ?_) | with_reducible refine rel_ite ?_ ?_ | with_reducible refine rel_nox ?_ | with_reducible refine rel_comp (fun _ => ?_) (fun _ => ?_) _ | with_reducible refine rel_for (fun _ _ => ?_) _ _ | with_reducible refine rel_while (fun _ => ?_) (fun _ => ?_) _ | with_reducible refine rel_nxt (fun _ => ?_) | with_reducible refine rel_aft (fun _ => ?_) | with_reducible refine rel_try ?_ ?_))
theorem s_row_of : ∀ ds, Rel (F_row_of ds) (f_row_of ds) := fun ds => by
    match ds with
    | [v_leaf] => exact rel_bind (sm_row_of v_leaf) fun _ => rel_retD
    | [] => exact rel_stuck
    | _ :: _ :: _ => exact rel_stuck
theorem b_row_of {X : Cx} {W : WX} (g : GX X W p_row_of) (hr : Room 0 X.A) :
  ∃ m, Ss X W (fun c : CR.D => [.pl c]) ⟨[.un], fun _ (_ : Unit) => [.un], fun _ (e : Empty) => e.elim⟩ (defBody (top 32)) m ∧ m = fun c => m_row_of c :=
 ⟨_, (ss_ret (ee_if (et_cmp (ob_eq g) rfl (er_of (ee_ix (er_of (ee_var g 0 rfl rfl fun _ => rfl)) ee_int)) (er_of (ee_str (by decide +kernel)))) (ee_ix (er_of (ee_var g 0 rfl rfl fun _ => rfl)) ee_int) (ee_ix (er_of (ee_var g 0 rfl rfl fun _ => rfl)) ee_int)) (by ((intro _; repeat (first | exact trivial | refine And.intro rfl ?_))))), by kernel_rfl⟩

def p_is_small_leaf : Cp := ⟨["leaf", "row", "one"], defScope (top 33), [0, 1], [0, 1], [0, 1], ["row_of", "all", "CONSTANT", "HIGHEST"], true⟩
def m_is_small_leaf (v_leaf : CR.D) : M (O Unit Empty) :=
  M.bind (M.bind (M.bind (M.pure v_leaf) fun d => M.bind (M.pure []) fun ds => M.pure (d :: ds)) fun ds => F_row_of ds) fun row_27 =>
  M.bind (M.bind (M.bind (M.bind (M.bind (M.bind (M.bind (M.bind (M.bind (M.pure row_27) fun d => M.bind (M.pure none) fun l => M.bind (M.bind (M.pure (D.int 1)) fun d => M.opt (intO d)) fun h => M.opt (cutT d l h)) fun d => M.opt (seqD d)) fun xs => compM Option.some (fun v29 => M.pure true) (fun v29 => M.bind (M.bind (M.pure (D.int 3)) fun d => M.opt (negD d)) fun x => M.bind (M.pure v29) fun y => M.bind (M.opt (leB x y)) fun k => M.ite k (M.bind (M.pure (D.int 3)) fun z => M.bind (M.opt (leB y z)) fun k => M.pure (D.bl k)) (M.pure (D.bl false))) xs) fun xs => M.pure (D.lst xs)) fun d => M.opt (allD d)) fun d => M.opt (boolD d)) fun b => M.pure (!b)) fun t => M.ite t (M.pure true) (M.bind (M.bind (M.bind (M.bind (M.bind (M.bind (M.bind (M.pure row_27) fun d => M.bind (M.bind (M.pure (D.int 1)) fun d => M.opt (intO d)) fun l => M.bind (M.pure none) fun h => M.opt (cutT d l h)) fun d => M.opt (seqD d)) fun xs => compM Option.some (fun v31 => M.pure true) (fun v31 => M.bind (M.bind (M.pure (D.int 1)) fun d => M.opt (negD d)) fun x => M.bind (M.pure v31) fun y => M.bind (M.opt (leB x y)) fun k => M.ite k (M.bind (M.pure (D.int 1)) fun z => M.bind (M.opt (leB y z)) fun k => M.pure (D.bl k)) (M.pure (D.bl false))) xs) fun xs => M.pure (D.lst xs)) fun d => M.opt (allD d)) fun d => M.opt (boolD d)) fun b => M.pure (!b))) fun b => M.ite b (M.bind (M.bind (M.pure (D.bl false)) fun d => M.pure (O.rt d)) fun o => M.pure (O.out o)) (M.bind (M.bind (M.bind (M.bind (M.pure (D.int 20)) fun d => M.opt (negD d)) fun x => M.bind (M.bind (M.pure v_leaf) fun x => M.bind (M.bind (M.pure (D.int 1)) fun d => M.opt (negD d)) fun y => M.opt (getD x y)) fun y => M.bind (M.opt (leB x y)) fun k => M.ite k (M.bind (M.pure (D.int 20)) fun z => M.bind (M.opt (leB y z)) fun k => M.pure (D.bl k)) (M.pure (D.bl false))) fun d => M.bind (M.opt (boolD d)) fun t => M.ite t (M.bind (M.bind (M.bind (M.pure v_leaf) fun x => M.bind (M.pure (D.int 0)) fun y => M.opt (getD x y)) fun x => M.bind (M.pure (D.str "most")) fun y => M.bind (M.opt (eqB x y)) fun k => M.pure (D.bl k)) fun d => M.bind (M.opt (boolD d)) fun t => M.ite t (M.pure (D.bl true)) (M.bind (M.pure (D.int 2)) fun x => M.bind (M.bind (M.pure v_leaf) fun x => M.bind (M.pure (D.int 1)) fun y => M.opt (getD x y)) fun y => M.bind (M.opt (leB x y)) fun k => M.ite k (M.bind (M.pure (D.int 6)) fun z => M.bind (M.opt (leB y z)) fun k => M.pure (D.bl k)) (M.pure (D.bl false)))) (M.pure (D.bl false))) fun d => M.pure (O.rt d))
def F_is_small_leaf : List CR.D → M (CR.D)
  | [v_leaf] => M.bind (m_is_small_leaf v_leaf) retD
  | _ => M.stuck
def r_is_small_leaf (v_leaf : CR.D) : R (O Unit Empty) :=
  R.bind (R.bind (R.bind (R.pure v_leaf) fun d => R.bind (R.pure []) fun ds => R.pure (d :: ds)) fun ds => f_row_of ds) fun row_27 =>
  R.bind (R.bind (R.bind (R.bind (R.bind (R.bind (R.bind (R.bind (R.bind (R.pure row_27) fun d => R.bind (R.pure none) fun l => R.bind (R.bind (R.pure (D.int 1)) fun d => R.opt (intO d)) fun h => R.opt (cutT d l h)) fun d => R.opt (seqD d)) fun xs => compR Option.some (fun v29 => R.pure true) (fun v29 => R.bind (R.bind (R.pure (D.int 3)) fun d => R.opt (negD d)) fun x => R.bind (R.pure v29) fun y => R.bind (R.opt (leB x y)) fun k => R.ite k (R.bind (R.pure (D.int 3)) fun z => R.bind (R.opt (leB y z)) fun k => R.pure (D.bl k)) (R.pure (D.bl false))) xs) fun xs => R.pure (D.lst xs)) fun d => R.opt (allD d)) fun d => R.opt (boolD d)) fun b => R.pure (!b)) fun t => R.ite t (R.pure true) (R.bind (R.bind (R.bind (R.bind (R.bind (R.bind (R.bind (R.pure row_27) fun d => R.bind (R.bind (R.pure (D.int 1)) fun d => R.opt (intO d)) fun l => R.bind (R.pure none) fun h => R.opt (cutT d l h)) fun d => R.opt (seqD d)) fun xs => compR Option.some (fun v31 => R.pure true) (fun v31 => R.bind (R.bind (R.pure (D.int 1)) fun d => R.opt (negD d)) fun x => R.bind (R.pure v31) fun y => R.bind (R.opt (leB x y)) fun k => R.ite k (R.bind (R.pure (D.int 1)) fun z => R.bind (R.opt (leB y z)) fun k => R.pure (D.bl k)) (R.pure (D.bl false))) xs) fun xs => R.pure (D.lst xs)) fun d => R.opt (allD d)) fun d => R.opt (boolD d)) fun b => R.pure (!b))) fun b => R.ite b (R.bind (R.bind (R.pure (D.bl false)) fun d => R.pure (O.rt d)) fun o => R.pure (O.out o)) (R.bind (R.bind (R.bind (R.bind (R.pure (D.int 20)) fun d => R.opt (negD d)) fun x => R.bind (R.bind (R.pure v_leaf) fun x => R.bind (R.bind (R.pure (D.int 1)) fun d => R.opt (negD d)) fun y => R.opt (getD x y)) fun y => R.bind (R.opt (leB x y)) fun k => R.ite k (R.bind (R.pure (D.int 20)) fun z => R.bind (R.opt (leB y z)) fun k => R.pure (D.bl k)) (R.pure (D.bl false))) fun d => R.bind (R.opt (boolD d)) fun t => R.ite t (R.bind (R.bind (R.bind (R.pure v_leaf) fun x => R.bind (R.pure (D.int 0)) fun y => R.opt (getD x y)) fun x => R.bind (R.pure (D.str "most")) fun y => R.bind (R.opt (eqB x y)) fun k => R.pure (D.bl k)) fun d => R.bind (R.opt (boolD d)) fun t => R.ite t (R.pure (D.bl true)) (R.bind (R.pure (D.int 2)) fun x => R.bind (R.bind (R.pure v_leaf) fun x => R.bind (R.pure (D.int 1)) fun y => R.opt (getD x y)) fun y => R.bind (R.opt (leB x y)) fun k => R.ite k (R.bind (R.pure (D.int 6)) fun z => R.bind (R.opt (leB y z)) fun k => R.pure (D.bl k)) (R.pure (D.bl false)))) (R.pure (D.bl false))) fun d => R.pure (O.rt d))
def f_is_small_leaf : List CR.D → R (CR.D)
  | [v_leaf] => R.bind (r_is_small_leaf v_leaf) retDR
  | _ => .stuck
theorem sm_is_small_leaf (v_leaf : CR.D) : Rel (m_is_small_leaf v_leaf) (r_is_small_leaf v_leaf) := by
  have h_row_of := s_row_of
  unfold m_is_small_leaf r_is_small_leaf
  repeat (first | with_reducible exact h_row_of _ | (first | with_reducible exact rel_pure | with_reducible exact rel_opt | with_reducible exact rel_guard | with_reducible exact rel_raise | with_reducible exact rel_sorted | with_reducible exact rel_retD | with_reducible exact rel_retL | with_reducible assumption | with_reducible refine rel_bind ?_ (fun _ => ?_) | with_reducible refine rel_ite ?_ ?_ | with_reducible refine rel_nox ?_ | with_reducible refine rel_comp (fun _ => ?_) (fun _ => ?_) _ | with_reducible refine rel_for (fun _ _ => ?_) _ _ | with_reducible refine rel_while (fun _ => ?_) (fun _ => ?_) _ | with_reducible refine rel_nxt (fun _ => ?_) | with_reducible refine rel_aft (fun _ => ?_) | with_reducible refine rel_try ?_ ?_))
theorem s_is_small_leaf : ∀ ds, Rel (F_is_small_leaf ds) (f_is_small_leaf ds) := fun ds => by
    match ds with
    | [v_leaf] => exact rel_bind (sm_is_small_leaf v_leaf) fun _ => rel_retD
    | [] => exact rel_stuck
    | _ :: _ :: _ => exact rel_stuck
theorem b_is_small_leaf {X : Cx} {W : WX} (g : GX X W p_is_small_leaf) (hr : Room 1 X.A) (cf_row_of : CallF X.prog X.w X.K X.mg X.base "row_of" 1 (SpD X.K X.mg 1 F_row_of)) (gl_CONSTANT : GlobD X "CONSTANT" (D.int 20)) (gl_HIGHEST : GlobD X "HIGHEST" (D.int 6)) (gl_LEAD : GlobD X "LEAD" (D.int 3)) (gl_OTHER : GlobD X "OTHER" (D.int 1)) :
  ∃ m, Ss X W (fun c : CR.D => [.pl c, .un, .un]) ⟨[.un, .un, .un], fun _ (_ : Unit) => [.un, .un, .un], fun _ (e : Empty) => e.elim⟩ (defBody (top 33)) m ∧ m = fun c => m_is_small_leaf c :=
 ⟨_, (ss_cons (sp_set g 1 rfl rfl (ee_call g 0 cf_row_of hr rfl rfl (ea_cons (ee_var g 0 rfl rfl fun _ => rfl) ea_nil) rfl))
 (ss_rho (fun c => [.pl c.2, .pl c.1, .un]) rfl (ss_ifx (et_w (ew_or (et_not (et_val (ee_all g 1 rfl (er_of (el_ee (el_comp g (own := [("one", 2)]) (vis := [2]) (loc := [2]) (gl := ["LEAD"]) (sl := [2]) (ei_seq (ee_slice (er_of (ee_var g 1 rfl rfl fun _ => rfl)) eo_none (eo_some ee_int))) (by decide +kernel) (plainAt.cons (fun _ => slotUn rfl rfl) plainAt.nil) rfl (fun _ _ _ _ _ g28 => (eg_name g28 2 rfl rfl)) (gsn_off 2) (fun _ _ _ _ _ g28 => ets_nil) (fun _ _ _ _ _ g28 => (ee_chain ob_le ob_le (er_of (ee_neg (ee_glob g28 0 rfl gl_LEAD))) (er_of (ee_var g28 2 rfl rfl fun _ => rfl)) (er_of (ee_glob g28 0 rfl gl_LEAD)))))))))) (ew_or1 (et_not (et_val (ee_all g 1 rfl (er_of (el_ee (el_comp g (own := [("one", 2)]) (vis := [2]) (loc := [2]) (gl := ["OTHER"]) (sl := [2]) (ei_seq (ee_slice (er_of (ee_var g 1 rfl rfl fun _ => rfl)) (eo_some ee_int) eo_none)) (by decide +kernel) (plainAt.cons (fun _ => slotUn rfl rfl) plainAt.nil) rfl (fun _ _ _ _ _ g30 => (eg_name g30 2 rfl rfl)) (gsn_off 2) (fun _ _ _ _ _ g30 => ets_nil) (fun _ _ _ _ _ g30 => (ee_chain ob_le ob_le (er_of (ee_neg (ee_glob g30 0 rfl gl_OTHER))) (er_of (ee_var g30 2 rfl rfl fun _ => rfl)) (er_of (ee_glob g30 0 rfl gl_OTHER))))))))))))) (ss_ret ee_bl (by ((intro _; repeat (first | exact trivial | refine And.intro rfl ?_)))))
 (ss_ret (ee_and (ee_chain ob_le ob_le (er_of (ee_neg (ee_glob g 2 rfl gl_CONSTANT))) (er_of (ee_ix (er_of (ee_var g 0 rfl rfl fun _ => rfl)) (ee_neg ee_int))) (er_of (ee_glob g 2 rfl gl_CONSTANT))) (ee_one (ee_or (ee_cmp (ob_eq g) rfl (er_of (ee_ix (er_of (ee_var g 0 rfl rfl fun _ => rfl)) ee_int)) (er_of (ee_str (by decide +kernel)))) (ee_one (ee_chain ob_le ob_le (er_of ee_int) (er_of (ee_ix (er_of (ee_var g 0 rfl rfl fun _ => rfl)) ee_int)) (er_of (ee_glob g 3 rfl gl_HIGHEST))))))) (by ((intro _; repeat (first | exact trivial | refine And.intro rfl ?_)))))))), by kernel_rfl⟩

def p_height_of : Cp := ⟨["test", "parts", "part"], defScope (top 34), [0, 1], [0, 1], [0, 1], ["max"], true⟩
def m_height_of (rec : List CR.D → M (CR.D)) (v_test : CR.D) : M (O Unit Empty) :=
  M.bind (M.bind (M.bind (M.pure v_test) fun x => M.bind (M.pure (D.int 0)) fun y => M.opt (getD x y)) fun x => M.bind (M.bind (M.bind (M.pure (D.str "most")) fun d => M.bind (M.bind (M.pure (D.str "div")) fun d => M.bind (M.pure []) fun ds => M.pure (d :: ds)) fun ds => M.pure (d :: ds)) fun ds => M.pure (D.tup ds)) fun y => M.opt (inD x y)) fun b => M.ite b (M.bind (M.bind (M.pure (D.int 1)) fun d => M.pure (O.rt d)) fun o => M.pure (O.out o)) (M.bind (M.bind (M.bind (M.bind (M.pure v_test) fun x => M.bind (M.pure (D.int 0)) fun y => M.opt (getD x y)) fun x => M.bind (M.pure (D.str "not")) fun y => M.opt (eqB x y)) fun t => M.ite t (M.bind (M.pure v_test) fun d => M.bind (M.bind (M.pure (D.int 1)) fun d => M.opt (intO d)) fun l => M.bind (M.pure none) fun h => M.opt (cutT d l h)) (M.bind (M.pure v_test) fun x => M.bind (M.pure (D.int 1)) fun y => M.opt (getD x y))) fun parts_32 =>
  M.bind (M.bind (M.pure (D.int 1)) fun x => M.bind (M.bind (M.bind (M.bind (M.bind (M.bind (M.pure (D.int 0)) fun d => M.bind (M.pure []) fun ds => M.pure (d :: ds)) fun xs => M.pure (D.lst xs)) fun x => M.bind (M.bind (M.bind (M.bind (M.pure parts_32) fun d => M.opt (seqD d)) fun xs => compM Option.some (fun v34 => M.pure true) (fun v34 => M.bind (M.bind (M.pure v34) fun d => M.bind (M.pure []) fun ds => M.pure (d :: ds)) fun ds => rec ds) xs) fun xs => M.pure (D.lst xs)) fun y => M.opt (addL x y)) fun xs => M.pure (D.lst xs)) fun d => M.opt (maxD d)) fun y => M.opt (addD x y)) fun d => M.pure (O.rt d))
def F_height_of : Nat → List CR.D → M (CR.D)
  | n + 1, [v_test] => M.bind (m_height_of (F_height_of n) v_test) retD
  | _, _ => M.stuck
def r_height_of (rec : List CR.D → R (CR.D)) (v_test : CR.D) : R (O Unit Empty) :=
  R.bind (R.bind (R.bind (R.pure v_test) fun x => R.bind (R.pure (D.int 0)) fun y => R.opt (getD x y)) fun x => R.bind (R.bind (R.bind (R.pure (D.str "most")) fun d => R.bind (R.bind (R.pure (D.str "div")) fun d => R.bind (R.pure []) fun ds => R.pure (d :: ds)) fun ds => R.pure (d :: ds)) fun ds => R.pure (D.tup ds)) fun y => R.opt (inD x y)) fun b => R.ite b (R.bind (R.bind (R.pure (D.int 1)) fun d => R.pure (O.rt d)) fun o => R.pure (O.out o)) (R.bind (R.bind (R.bind (R.bind (R.pure v_test) fun x => R.bind (R.pure (D.int 0)) fun y => R.opt (getD x y)) fun x => R.bind (R.pure (D.str "not")) fun y => R.opt (eqB x y)) fun t => R.ite t (R.bind (R.pure v_test) fun d => R.bind (R.bind (R.pure (D.int 1)) fun d => R.opt (intO d)) fun l => R.bind (R.pure none) fun h => R.opt (cutT d l h)) (R.bind (R.pure v_test) fun x => R.bind (R.pure (D.int 1)) fun y => R.opt (getD x y))) fun parts_32 =>
  R.bind (R.bind (R.pure (D.int 1)) fun x => R.bind (R.bind (R.bind (R.bind (R.bind (R.bind (R.pure (D.int 0)) fun d => R.bind (R.pure []) fun ds => R.pure (d :: ds)) fun xs => R.pure (D.lst xs)) fun x => R.bind (R.bind (R.bind (R.bind (R.pure parts_32) fun d => R.opt (seqD d)) fun xs => compR Option.some (fun v34 => R.pure true) (fun v34 => R.bind (R.bind (R.pure v34) fun d => R.bind (R.pure []) fun ds => R.pure (d :: ds)) fun ds => rec ds) xs) fun xs => R.pure (D.lst xs)) fun y => R.opt (addL x y)) fun xs => R.pure (D.lst xs)) fun d => R.opt (maxD d)) fun y => R.opt (addD x y)) fun d => R.pure (O.rt d))
def f_height_of : Nat → List CR.D → R (CR.D)
  | n + 1, [v_test] => R.bind (r_height_of (f_height_of n) v_test) retDR
  | _, _ => .stuck
theorem sm_height_of (rec : List CR.D → M (CR.D)) (rec' : List CR.D → R (CR.D)) (hrec : ∀ ds, Rel (rec ds) (rec' ds)) (v_test : CR.D) : Rel (m_height_of rec v_test) (r_height_of rec' v_test) := by
  unfold m_height_of r_height_of
  repeat (first | with_reducible exact hrec _ | (first | with_reducible exact rel_pure | with_reducible exact rel_opt | with_reducible exact rel_guard | with_reducible exact rel_raise | with_reducible exact rel_sorted | with_reducible exact rel_retD | with_reducible exact rel_retL | with_reducible assumption | with_reducible refine rel_bind ?_ (fun _ => ?_) | with_reducible refine rel_ite ?_ ?_ | with_reducible refine rel_nox ?_ | with_reducible refine rel_comp (fun _ => ?_) (fun _ => ?_) _ | with_reducible refine rel_for (fun _ _ => ?_) _ _ | with_reducible refine rel_while (fun _ => ?_) (fun _ => ?_) _ | with_reducible refine rel_nxt (fun _ => ?_) | with_reducible refine rel_aft (fun _ => ?_) | with_reducible refine rel_try ?_ ?_))
theorem s_height_of : ∀ n ds, Rel (F_height_of n ds) (f_height_of n ds)
  | 0, _ => rel_stuck
  | n + 1, ds => by
    match ds with
    | [v_test] => exact rel_bind (sm_height_of _ _ (s_height_of n) v_test) fun _ => rel_retD
    | [] => exact rel_stuck
    | _ :: _ :: _ => exact rel_stuck
theorem b_height_of {X : Cx} {W : WX} (g : GX X W p_height_of) {kr kx : Nat} (hr : Room kr X.A) (rec : List CR.D → M (CR.D)) (cf_height_of : CallF X.prog X.w X.K X.mg X.base "height_of" kx (SpD X.K X.mg 1 rec)) (hk_height_of : Nat.ble kx kr = true) :
  ∃ m, Ss X W (fun c : CR.D => [.pl c, .un, .un]) ⟨[.un, .un, .un], fun _ (_ : Unit) => [.un, .un, .un], fun _ (e : Empty) => e.elim⟩ (defBody (top 34)) m ∧ m = fun c => m_height_of rec c :=
 ⟨_, (ss_ifx (et_cmp (ob_in g) rfl (er_of (ee_ix (er_of (ee_var g 0 rfl rfl fun _ => rfl)) ee_int)) (er_of (ee_tup (ea_cons (ee_str (by decide +kernel)) (ea_cons (ee_str (by decide +kernel)) ea_nil)) rfl))) (ss_ret ee_int (by ((intro _; repeat (first | exact trivial | refine And.intro rfl ?_)))))
 (ss_cons (sp_set g 1 rfl rfl (ee_if (et_cmp (ob_eq g) rfl (er_of (ee_ix (er_of (ee_var g 0 rfl rfl fun _ => rfl)) ee_int)) (er_of (ee_str (by decide +kernel)))) (ee_slice (er_of (ee_var g 0 rfl rfl fun _ => rfl)) (eo_some ee_int) eo_none) (ee_ix (er_of (ee_var g 0 rfl rfl fun _ => rfl)) ee_int)))
 (ss_rho (fun c => [.pl c.2, .pl c.1, .un]) rfl (ss_ret (ee_bin od_add (er_of ee_int) (er_of (ee_max g 0 rfl (er_of (el_ee (el_bin ol_add (er_of (el_ee (el_lst (ea_cons ee_int ea_nil) rfl))) (er_of (el_ee (el_comp g (own := [("part", 2)]) (vis := [2]) (loc := [2]) (gl := ["height_of"]) (sl := [2]) (ei_seq (ee_var g 1 rfl rfl fun _ => rfl)) (by decide +kernel) (plainAt.cons (fun _ => slotUn rfl rfl) plainAt.nil) rfl (fun _ _ _ _ _ g33 => (eg_name g33 2 rfl rfl)) (gsn_off 2) (fun _ _ _ _ _ g33 => ets_nil) (fun _ _ _ _ _ g33 => (ee_call g33 0 cf_height_of hr hk_height_of rfl (ea_cons (ee_var g33 2 rfl rfl fun _ => rfl) ea_nil) rfl))))))))))) (by ((intro _; repeat (first | exact trivial | refine And.intro rfl ?_)))))))), by kernel_rfl⟩

def p_fits_formula : Cp := ⟨["value", "letters", "leaves", "one", "leaf"], defScope (top 35), [0, 1, 2], [0, 1, 2], [0, 1, 2], ["is_tuple_of", "is_whole", "LETTERS", "len", "all", "fits_test", "height_of", "DEEP", "leaves_of", "LEAVES", "period_of", "MULTIPLE"], true⟩
def m_fits_formula (v_value : CR.D) : M (O Unit Empty) :=
  M.bind (M.bind (M.bind (M.bind (M.bind (M.bind (M.pure v_value) fun d => M.bind (M.bind (M.pure (D.int 3)) fun d => M.bind (M.bind (M.pure (D.int 3)) fun d => M.bind (M.pure []) fun ds => M.pure (d :: ds)) fun ds => M.pure (d :: ds)) fun ds => M.pure (d :: ds)) fun ds => F_is_tuple_of ds) fun d => M.opt (boolD d)) fun b => M.pure (!b)) fun t => M.ite t (M.pure true) (M.bind (M.bind (M.bind (M.bind (M.bind (M.bind (M.pure v_value) fun x => M.bind (M.pure (D.int 0)) fun y => M.opt (getD x y)) fun d => M.bind (M.bind (M.pure (D.int 0)) fun d => M.bind (M.bind (M.pure (D.int 3)) fun d => M.bind (M.pure []) fun ds => M.pure (d :: ds)) fun ds => M.pure (d :: ds)) fun ds => M.pure (d :: ds)) fun ds => F_is_whole ds) fun d => M.opt (boolD d)) fun b => M.pure (!b)) fun t => M.ite t (M.pure true) (M.bind (M.bind (M.bind (M.bind (M.bind (M.pure v_value) fun x => M.bind (M.pure (D.int 1)) fun y => M.opt (getD x y)) fun d => M.bind (M.bind (M.pure (D.int 0)) fun d => M.bind (M.bind (M.pure (D.int 2)) fun d => M.bind (M.pure []) fun ds => M.pure (d :: ds)) fun ds => M.pure (d :: ds)) fun ds => M.pure (d :: ds)) fun ds => F_is_tuple_of ds) fun d => M.opt (boolD d)) fun b => M.pure (!b)))) fun b => M.ite b (M.bind (M.bind (M.pure (D.bl false)) fun d => M.pure (O.rt d)) fun o => M.pure (O.out o)) (M.bind (M.bind (M.bind (M.pure v_value) fun x => M.bind (M.pure (D.int 0)) fun y => M.opt (getD x y)) fun x => M.bind (M.bind (M.bind (M.pure v_value) fun x => M.bind (M.pure (D.int 1)) fun y => M.opt (getD x y)) fun d => M.opt (lenD d)) fun y => M.opt (addD x y)) fun letters_35 =>
  M.bind (M.bind (M.bind (M.pure letters_35) fun x => M.bind (M.pure (D.int 3)) fun y => M.opt (gtB x y)) fun t => M.ite t (M.pure true) (M.bind (M.bind (M.bind (M.bind (M.bind (M.bind (M.bind (M.pure v_value) fun x => M.bind (M.pure (D.int 1)) fun y => M.opt (getD x y)) fun d => M.opt (seqD d)) fun xs => compM Option.some (fun v37 => M.pure true) (fun v37 => M.bind (M.bind (M.pure v37) fun d => M.opt (isiD "str" d)) fun d => M.bind (M.opt (boolD d)) fun t => M.ite t (M.bind (M.pure v37) fun x => M.bind (M.pure (D.tup [(D.str "some"), (D.str "all")])) fun y => M.bind (M.opt (inD x y)) fun k => M.pure (D.bl k)) (M.pure (D.bl false))) xs) fun xs => M.pure (D.lst xs)) fun d => M.opt (allD d)) fun d => M.opt (boolD d)) fun b => M.pure (!b))) fun b => M.ite b (M.bind (M.bind (M.pure (D.bl false)) fun d => M.pure (O.rt d)) fun o => M.pure (O.out o)) (M.bind (M.bind (M.bind (M.bind (M.bind (M.bind (M.pure letters_35) fun d => M.bind (M.bind (M.bind (M.pure v_value) fun x => M.bind (M.pure (D.int 2)) fun y => M.opt (getD x y)) fun d => M.bind (M.pure []) fun ds => M.pure (d :: ds)) fun ds => M.pure (d :: ds)) fun ds => F_fits_test ds) fun d => M.opt (boolD d)) fun b => M.pure (!b)) fun t => M.ite t (M.pure true) (M.bind (M.bind (M.bind (M.bind (M.pure v_value) fun x => M.bind (M.pure (D.int 2)) fun y => M.opt (getD x y)) fun d => M.bind (M.pure []) fun ds => M.pure (d :: ds)) fun ds => (F_height_of 16) ds) fun x => M.bind (M.pure (D.int 6)) fun y => M.opt (gtB x y))) fun b => M.ite b (M.bind (M.bind (M.pure (D.bl false)) fun d => M.pure (O.rt d)) fun o => M.pure (O.out o)) (M.bind (M.bind (M.bind (M.bind (M.bind (M.pure v_value) fun x => M.bind (M.pure (D.int 2)) fun y => M.opt (getD x y)) fun d => M.bind (M.pure []) fun ds => M.pure (d :: ds)) fun ds => F_leaves_of ds) fun xs => M.pure (D.lst xs)) fun leaves_38 =>
  M.bind (M.bind (M.bind (M.bind (M.pure leaves_38) fun d => M.opt (lenD d)) fun x => M.bind (M.pure (D.int 6)) fun y => M.opt (gtB x y)) fun t => M.ite t (M.pure true) (M.bind (M.bind (M.bind (M.bind (M.bind (M.bind (M.pure leaves_38) fun d => M.opt (seqD d)) fun xs => compM Option.some (fun v40 => M.pure true) (fun v40 => M.bind (M.bind (M.pure v40) fun d => M.bind (M.pure []) fun ds => M.pure (d :: ds)) fun ds => F_is_small_leaf ds) xs) fun xs => M.pure (D.lst xs)) fun d => M.opt (allD d)) fun d => M.opt (boolD d)) fun b => M.pure (!b))) fun b => M.ite b (M.bind (M.bind (M.pure (D.bl false)) fun d => M.pure (O.rt d)) fun o => M.pure (O.out o)) (M.bind (M.bind (M.bind (M.bind (M.bind (M.pure v_value) fun x => M.bind (M.pure (D.int 2)) fun y => M.opt (getD x y)) fun d => M.bind (M.pure []) fun ds => M.pure (d :: ds)) fun ds => F_period_of ds) fun x => M.bind (M.pure (D.int 6)) fun y => M.bind (M.opt (leB x y)) fun k => M.pure (D.bl k)) fun d => M.pure (O.rt d)))))
def F_fits_formula : List CR.D → M (CR.D)
  | [v_value] => M.bind (m_fits_formula v_value) retD
  | _ => M.stuck
def r_fits_formula (v_value : CR.D) : R (O Unit Empty) :=
  R.bind (R.bind (R.bind (R.bind (R.bind (R.bind (R.pure v_value) fun d => R.bind (R.bind (R.pure (D.int 3)) fun d => R.bind (R.bind (R.pure (D.int 3)) fun d => R.bind (R.pure []) fun ds => R.pure (d :: ds)) fun ds => R.pure (d :: ds)) fun ds => R.pure (d :: ds)) fun ds => f_is_tuple_of ds) fun d => R.opt (boolD d)) fun b => R.pure (!b)) fun t => R.ite t (R.pure true) (R.bind (R.bind (R.bind (R.bind (R.bind (R.bind (R.pure v_value) fun x => R.bind (R.pure (D.int 0)) fun y => R.opt (getD x y)) fun d => R.bind (R.bind (R.pure (D.int 0)) fun d => R.bind (R.bind (R.pure (D.int 3)) fun d => R.bind (R.pure []) fun ds => R.pure (d :: ds)) fun ds => R.pure (d :: ds)) fun ds => R.pure (d :: ds)) fun ds => f_is_whole ds) fun d => R.opt (boolD d)) fun b => R.pure (!b)) fun t => R.ite t (R.pure true) (R.bind (R.bind (R.bind (R.bind (R.bind (R.pure v_value) fun x => R.bind (R.pure (D.int 1)) fun y => R.opt (getD x y)) fun d => R.bind (R.bind (R.pure (D.int 0)) fun d => R.bind (R.bind (R.pure (D.int 2)) fun d => R.bind (R.pure []) fun ds => R.pure (d :: ds)) fun ds => R.pure (d :: ds)) fun ds => R.pure (d :: ds)) fun ds => f_is_tuple_of ds) fun d => R.opt (boolD d)) fun b => R.pure (!b)))) fun b => R.ite b (R.bind (R.bind (R.pure (D.bl false)) fun d => R.pure (O.rt d)) fun o => R.pure (O.out o)) (R.bind (R.bind (R.bind (R.pure v_value) fun x => R.bind (R.pure (D.int 0)) fun y => R.opt (getD x y)) fun x => R.bind (R.bind (R.bind (R.pure v_value) fun x => R.bind (R.pure (D.int 1)) fun y => R.opt (getD x y)) fun d => R.opt (lenD d)) fun y => R.opt (addD x y)) fun letters_35 =>
  R.bind (R.bind (R.bind (R.pure letters_35) fun x => R.bind (R.pure (D.int 3)) fun y => R.opt (gtB x y)) fun t => R.ite t (R.pure true) (R.bind (R.bind (R.bind (R.bind (R.bind (R.bind (R.bind (R.pure v_value) fun x => R.bind (R.pure (D.int 1)) fun y => R.opt (getD x y)) fun d => R.opt (seqD d)) fun xs => compR Option.some (fun v37 => R.pure true) (fun v37 => R.bind (R.bind (R.pure v37) fun d => R.opt (isiD "str" d)) fun d => R.bind (R.opt (boolD d)) fun t => R.ite t (R.bind (R.pure v37) fun x => R.bind (R.pure (D.tup [(D.str "some"), (D.str "all")])) fun y => R.bind (R.opt (inD x y)) fun k => R.pure (D.bl k)) (R.pure (D.bl false))) xs) fun xs => R.pure (D.lst xs)) fun d => R.opt (allD d)) fun d => R.opt (boolD d)) fun b => R.pure (!b))) fun b => R.ite b (R.bind (R.bind (R.pure (D.bl false)) fun d => R.pure (O.rt d)) fun o => R.pure (O.out o)) (R.bind (R.bind (R.bind (R.bind (R.bind (R.bind (R.pure letters_35) fun d => R.bind (R.bind (R.bind (R.pure v_value) fun x => R.bind (R.pure (D.int 2)) fun y => R.opt (getD x y)) fun d => R.bind (R.pure []) fun ds => R.pure (d :: ds)) fun ds => R.pure (d :: ds)) fun ds => f_fits_test ds) fun d => R.opt (boolD d)) fun b => R.pure (!b)) fun t => R.ite t (R.pure true) (R.bind (R.bind (R.bind (R.bind (R.pure v_value) fun x => R.bind (R.pure (D.int 2)) fun y => R.opt (getD x y)) fun d => R.bind (R.pure []) fun ds => R.pure (d :: ds)) fun ds => (f_height_of 16) ds) fun x => R.bind (R.pure (D.int 6)) fun y => R.opt (gtB x y))) fun b => R.ite b (R.bind (R.bind (R.pure (D.bl false)) fun d => R.pure (O.rt d)) fun o => R.pure (O.out o)) (R.bind (R.bind (R.bind (R.bind (R.bind (R.pure v_value) fun x => R.bind (R.pure (D.int 2)) fun y => R.opt (getD x y)) fun d => R.bind (R.pure []) fun ds => R.pure (d :: ds)) fun ds => f_leaves_of ds) fun xs => R.pure (D.lst xs)) fun leaves_38 =>
  R.bind (R.bind (R.bind (R.bind (R.pure leaves_38) fun d => R.opt (lenD d)) fun x => R.bind (R.pure (D.int 6)) fun y => R.opt (gtB x y)) fun t => R.ite t (R.pure true) (R.bind (R.bind (R.bind (R.bind (R.bind (R.bind (R.pure leaves_38) fun d => R.opt (seqD d)) fun xs => compR Option.some (fun v40 => R.pure true) (fun v40 => R.bind (R.bind (R.pure v40) fun d => R.bind (R.pure []) fun ds => R.pure (d :: ds)) fun ds => f_is_small_leaf ds) xs) fun xs => R.pure (D.lst xs)) fun d => R.opt (allD d)) fun d => R.opt (boolD d)) fun b => R.pure (!b))) fun b => R.ite b (R.bind (R.bind (R.pure (D.bl false)) fun d => R.pure (O.rt d)) fun o => R.pure (O.out o)) (R.bind (R.bind (R.bind (R.bind (R.bind (R.pure v_value) fun x => R.bind (R.pure (D.int 2)) fun y => R.opt (getD x y)) fun d => R.bind (R.pure []) fun ds => R.pure (d :: ds)) fun ds => f_period_of ds) fun x => R.bind (R.pure (D.int 6)) fun y => R.bind (R.opt (leB x y)) fun k => R.pure (D.bl k)) fun d => R.pure (O.rt d)))))
def f_fits_formula : List CR.D → R (CR.D)
  | [v_value] => R.bind (r_fits_formula v_value) retDR
  | _ => .stuck
theorem sm_fits_formula (v_value : CR.D) : Rel (m_fits_formula v_value) (r_fits_formula v_value) := by
  have h_leaves_of := s_leaves_of
  have h_period_of := s_period_of
  have h_is_tuple_of := s_is_tuple_of
  have h_is_whole := s_is_whole
  have h_fits_test := s_fits_test
  have h_height_of := s_height_of 16
  have h_is_small_leaf := s_is_small_leaf
  unfold m_fits_formula r_fits_formula
  repeat (first | with_reducible exact h_leaves_of _ | with_reducible exact h_period_of _ | with_reducible exact h_is_tuple_of _ | with_reducible exact h_is_whole _ | with_reducible exact h_fits_test _ | with_reducible exact h_height_of _ | with_reducible exact h_is_small_leaf _ | (first | with_reducible exact rel_pure | with_reducible exact rel_opt | with_reducible exact rel_guard | with_reducible exact rel_raise | with_reducible exact rel_sorted | with_reducible exact rel_retD | with_reducible exact rel_retL | with_reducible assumption | with_reducible refine rel_bind ?_ (fun _ => ?_) | with_reducible refine rel_ite ?_ ?_ | with_reducible refine rel_nox ?_ | with_reducible refine rel_comp (fun _ => ?_) (fun _ => ?_) _ | with_reducible refine rel_for (fun _ _ => ?_) _ _ | with_reducible refine rel_while (fun _ => ?_) (fun _ => ?_) _ | with_reducible refine rel_nxt (fun _ => ?_) | with_reducible refine rel_aft (fun _ => ?_) | with_reducible refine rel_try ?_ ?_))
theorem s_fits_formula : ∀ ds, Rel (F_fits_formula ds) (f_fits_formula ds) := fun ds => by
    match ds with
    | [v_value] => exact rel_bind (sm_fits_formula v_value) fun _ => rel_retD
    | [] => exact rel_stuck
    | _ :: _ :: _ => exact rel_stuck
theorem b_fits_formula {X : Cx} {W : WX} (g : GX X W p_fits_formula) (hr : Room 16 X.A) (cf_leaves_of : CallF X.prog X.w X.K X.mg X.base "leaves_of" 2 (SpL X.K X.mg 1 F_leaves_of)) (cf_period_of : CallF X.prog X.w X.K X.mg X.base "period_of" 4 (SpD X.K X.mg 1 F_period_of)) (cf_is_tuple_of : CallF X.prog X.w X.K X.mg X.base "is_tuple_of" 1 (SpD X.K X.mg 3 F_is_tuple_of)) (cf_is_whole : CallF X.prog X.w X.K X.mg X.base "is_whole" 1 (SpD X.K X.mg 3 F_is_whole)) (cf_fits_test : CallF X.prog X.w X.K X.mg X.base "fits_test" 4 (SpD X.K X.mg 2 F_fits_test)) (cf_height_of : CallF X.prog X.w X.K X.mg X.base "height_of" 16 (SpD X.K X.mg 1 (F_height_of 16))) (cf_is_small_leaf : CallF X.prog X.w X.K X.mg X.base "is_small_leaf" 2 (SpD X.K X.mg 1 F_is_small_leaf)) (gl_MULTIPLE : GlobD X "MULTIPLE" (D.int 6)) (gl_LETTERS : GlobD X "LETTERS" (D.int 3)) (gl_DEEP : GlobD X "DEEP" (D.int 6)) (gl_LEAVES : GlobD X "LEAVES" (D.int 6)) (gl_TELLS : GlobD X "TELLS" (D.tup [(D.str "some"), (D.str "all")])) :
  ∃ m, Ss X W (fun c : CR.D => [.pl c, .un, .un, .un, .un]) ⟨[.un, .un, .un, .un, .un], fun _ (_ : Unit) => [.un, .un, .un, .un, .un], fun _ (e : Empty) => e.elim⟩ (defBody (top 35)) m ∧ m = fun c => m_fits_formula c :=
 ⟨_, (ss_ifx (et_w (ew_or (et_not (et_val (ee_call g 0 cf_is_tuple_of hr rfl rfl (ea_cons (ee_var g 0 rfl rfl fun _ => rfl) (ea_cons ee_int (ea_cons ee_int ea_nil))) rfl))) (ew_or (et_not (et_val (ee_call g 1 cf_is_whole hr rfl rfl (ea_cons (ee_ix (er_of (ee_var g 0 rfl rfl fun _ => rfl)) ee_int) (ea_cons ee_int (ea_cons (ee_glob g 2 rfl gl_LETTERS) ea_nil))) rfl))) (ew_or1 (et_not (et_val (ee_call g 0 cf_is_tuple_of hr rfl rfl (ea_cons (ee_ix (er_of (ee_var g 0 rfl rfl fun _ => rfl)) ee_int) (ea_cons ee_int (ea_cons ee_int ea_nil))) rfl))))))) (ss_ret ee_bl (by ((intro _; repeat (first | exact trivial | refine And.intro rfl ?_)))))
 (ss_cons (sp_set g 1 rfl rfl (ee_bin od_add (er_of (ee_ix (er_of (ee_var g 0 rfl rfl fun _ => rfl)) ee_int)) (er_of (ee_len g 3 rfl (er_of (ee_ix (er_of (ee_var g 0 rfl rfl fun _ => rfl)) ee_int))))))
 (ss_rho (fun c => [.pl c.2, .pl c.1, .un, .un, .un]) rfl (ss_ifx (et_w (ew_or (et_cmp ob_gt rfl (er_of (ee_var g 1 rfl rfl fun _ => rfl)) (er_of (ee_glob g 2 rfl gl_LETTERS))) (ew_or1 (et_not (et_val (ee_all g 4 rfl (er_of (el_ee (el_comp g (own := [("one", 3)]) (vis := [3]) (loc := [3]) (gl := ["isinstance", "str", "TELLS"]) (sl := [3]) (ei_seq (ee_ix (er_of (ee_var g 0 rfl rfl fun _ => rfl)) ee_int)) (by decide +kernel) (plainAt.cons (fun _ => slotUn rfl rfl) plainAt.nil) rfl (fun _ _ _ _ _ g36 => (eg_name g36 3 rfl rfl)) (gsn_off 3) (fun _ _ _ _ _ g36 => ets_nil) (fun _ _ _ _ _ g36 => (ee_and (ee_isi g36 0 1 "str" rfl rfl (by decide +kernel) (by decide +kernel) (er_of (ee_var g36 3 rfl rfl fun _ => rfl))) (ee_one (ee_cmp (ob_in g36) rfl (er_of (ee_var g36 3 rfl rfl fun _ => rfl)) (er_of (ee_glob g36 2 rfl gl_TELLS))))))))))))))) (ss_ret ee_bl (by ((intro _; repeat (first | exact trivial | refine And.intro rfl ?_)))))
 (ss_ifx (et_w (ew_or (et_not (et_val (ee_call g 5 cf_fits_test hr rfl rfl (ea_cons (ee_var g 1 rfl rfl fun _ => rfl) (ea_cons (ee_ix (er_of (ee_var g 0 rfl rfl fun _ => rfl)) ee_int) ea_nil)) rfl))) (ew_or1 (et_cmp ob_gt rfl (er_of (ee_call g 6 cf_height_of hr rfl rfl (ea_cons (ee_ix (er_of (ee_var g 0 rfl rfl fun _ => rfl)) ee_int) ea_nil) rfl)) (er_of (ee_glob g 7 rfl gl_DEEP)))))) (ss_ret ee_bl (by ((intro _; repeat (first | exact trivial | refine And.intro rfl ?_)))))
 (ss_cons (sp_set g 2 rfl rfl (el_ee (el_call g 8 cf_leaves_of hr rfl rfl (ea_cons (ee_ix (er_of (ee_var g 0 rfl rfl fun _ => rfl)) ee_int) ea_nil) rfl)))
 (ss_rho (fun c => [.pl c.2.2, .pl c.2.1, .pl c.1, .un, .un]) rfl (ss_ifx (et_w (ew_or (et_cmp ob_gt rfl (er_of (ee_len g 3 rfl (er_of (ee_var g 2 rfl rfl fun _ => rfl)))) (er_of (ee_glob g 9 rfl gl_LEAVES))) (ew_or1 (et_not (et_val (ee_all g 4 rfl (er_of (el_ee (el_comp g (own := [("leaf", 4)]) (vis := [4]) (loc := [4]) (gl := ["is_small_leaf"]) (sl := [4]) (ei_seq (ee_var g 2 rfl rfl fun _ => rfl)) (by decide +kernel) (plainAt.cons (fun _ => slotUn rfl rfl) plainAt.nil) rfl (fun _ _ _ _ _ g39 => (eg_name g39 4 rfl rfl)) (gsn_off 4) (fun _ _ _ _ _ g39 => ets_nil) (fun _ _ _ _ _ g39 => (ee_call g39 0 cf_is_small_leaf hr rfl rfl (ea_cons (ee_var g39 4 rfl rfl fun _ => rfl) ea_nil) rfl))))))))))) (ss_ret ee_bl (by ((intro _; repeat (first | exact trivial | refine And.intro rfl ?_)))))
 (ss_ret (ee_cmp ob_le rfl (er_of (ee_call g 10 cf_period_of hr rfl rfl (ea_cons (ee_ix (er_of (ee_var g 0 rfl rfl fun _ => rfl)) ee_int) ea_nil) rfl)) (er_of (ee_glob g 11 rfl gl_MULTIPLE))) (by ((intro _; repeat (first | exact trivial | refine And.intro rfl ?_))))))))))))), by kernel_rfl⟩

def p_fits_plain_set : Cp := ⟨["value", "test", "one"], defScope (top 39), [0, 1], [0, 1], [0, 1], ["fits_formula", "all"], true⟩
def m_fits_plain_set (v_value : CR.D) : M (O Unit Empty) :=
  M.bind (M.bind (M.bind (M.bind (M.bind (M.bind (M.pure v_value) fun d => M.bind (M.pure []) fun ds => M.pure (d :: ds)) fun ds => F_fits_formula ds) fun d => M.opt (boolD d)) fun b => M.pure (!b)) fun t => M.ite t (M.pure true) (M.bind (M.bind (M.bind (M.pure v_value) fun x => M.bind (M.pure (D.int 0)) fun y => M.opt (getD x y)) fun x => M.bind (M.pure (D.int 2)) fun y => M.opt (neB x y)) fun t => M.ite t (M.pure true) (M.bind (M.bind (M.pure v_value) fun x => M.bind (M.pure (D.int 1)) fun y => M.opt (getD x y)) fun x => M.bind (M.bind (M.pure []) fun ds => M.pure (D.tup ds)) fun y => M.opt (neB x y)))) fun b => M.ite b (M.bind (M.bind (M.pure (D.bl false)) fun d => M.pure (O.rt d)) fun o => M.pure (O.out o)) (M.bind (M.bind (M.pure v_value) fun x => M.bind (M.pure (D.int 2)) fun y => M.opt (getD x y)) fun test_41 =>
  M.bind (M.bind (M.bind (M.bind (M.pure test_41) fun x => M.bind (M.pure (D.int 0)) fun y => M.opt (getD x y)) fun x => M.bind (M.pure (D.str "most")) fun y => M.bind (M.opt (eqB x y)) fun k => M.pure (D.bl k)) fun d => M.bind (M.opt (boolD d)) fun t => M.ite t (M.pure (D.bl true)) (M.bind (M.bind (M.bind (M.pure test_41) fun x => M.bind (M.pure (D.int 0)) fun y => M.opt (getD x y)) fun x => M.bind (M.pure (D.str "and")) fun y => M.bind (M.opt (eqB x y)) fun k => M.pure (D.bl k)) fun d => M.bind (M.opt (boolD d)) fun t => M.ite t (M.bind (M.bind (M.bind (M.bind (M.bind (M.pure test_41) fun x => M.bind (M.pure (D.int 1)) fun y => M.opt (getD x y)) fun d => M.opt (seqD d)) fun xs => compM Option.some (fun v43 => M.pure true) (fun v43 => M.bind (M.bind (M.pure v43) fun x => M.bind (M.pure (D.int 0)) fun y => M.opt (getD x y)) fun x => M.bind (M.pure (D.str "most")) fun y => M.bind (M.opt (eqB x y)) fun k => M.pure (D.bl k)) xs) fun xs => M.pure (D.lst xs)) fun d => M.opt (allD d)) (M.pure (D.bl false)))) fun d => M.pure (O.rt d))
def F_fits_plain_set : List CR.D → M (CR.D)
  | [v_value] => M.bind (m_fits_plain_set v_value) retD
  | _ => M.stuck
def r_fits_plain_set (v_value : CR.D) : R (O Unit Empty) :=
  R.bind (R.bind (R.bind (R.bind (R.bind (R.bind (R.pure v_value) fun d => R.bind (R.pure []) fun ds => R.pure (d :: ds)) fun ds => f_fits_formula ds) fun d => R.opt (boolD d)) fun b => R.pure (!b)) fun t => R.ite t (R.pure true) (R.bind (R.bind (R.bind (R.pure v_value) fun x => R.bind (R.pure (D.int 0)) fun y => R.opt (getD x y)) fun x => R.bind (R.pure (D.int 2)) fun y => R.opt (neB x y)) fun t => R.ite t (R.pure true) (R.bind (R.bind (R.pure v_value) fun x => R.bind (R.pure (D.int 1)) fun y => R.opt (getD x y)) fun x => R.bind (R.bind (R.pure []) fun ds => R.pure (D.tup ds)) fun y => R.opt (neB x y)))) fun b => R.ite b (R.bind (R.bind (R.pure (D.bl false)) fun d => R.pure (O.rt d)) fun o => R.pure (O.out o)) (R.bind (R.bind (R.pure v_value) fun x => R.bind (R.pure (D.int 2)) fun y => R.opt (getD x y)) fun test_41 =>
  R.bind (R.bind (R.bind (R.bind (R.pure test_41) fun x => R.bind (R.pure (D.int 0)) fun y => R.opt (getD x y)) fun x => R.bind (R.pure (D.str "most")) fun y => R.bind (R.opt (eqB x y)) fun k => R.pure (D.bl k)) fun d => R.bind (R.opt (boolD d)) fun t => R.ite t (R.pure (D.bl true)) (R.bind (R.bind (R.bind (R.pure test_41) fun x => R.bind (R.pure (D.int 0)) fun y => R.opt (getD x y)) fun x => R.bind (R.pure (D.str "and")) fun y => R.bind (R.opt (eqB x y)) fun k => R.pure (D.bl k)) fun d => R.bind (R.opt (boolD d)) fun t => R.ite t (R.bind (R.bind (R.bind (R.bind (R.bind (R.pure test_41) fun x => R.bind (R.pure (D.int 1)) fun y => R.opt (getD x y)) fun d => R.opt (seqD d)) fun xs => compR Option.some (fun v43 => R.pure true) (fun v43 => R.bind (R.bind (R.pure v43) fun x => R.bind (R.pure (D.int 0)) fun y => R.opt (getD x y)) fun x => R.bind (R.pure (D.str "most")) fun y => R.bind (R.opt (eqB x y)) fun k => R.pure (D.bl k)) xs) fun xs => R.pure (D.lst xs)) fun d => R.opt (allD d)) (R.pure (D.bl false)))) fun d => R.pure (O.rt d))
def f_fits_plain_set : List CR.D → R (CR.D)
  | [v_value] => R.bind (r_fits_plain_set v_value) retDR
  | _ => .stuck
theorem sm_fits_plain_set (v_value : CR.D) : Rel (m_fits_plain_set v_value) (r_fits_plain_set v_value) := by
  have h_fits_formula := s_fits_formula
  unfold m_fits_plain_set r_fits_plain_set
  repeat (first | with_reducible exact h_fits_formula _ | (first | with_reducible exact rel_pure | with_reducible exact rel_opt | with_reducible exact rel_guard | with_reducible exact rel_raise | with_reducible exact rel_sorted | with_reducible exact rel_retD | with_reducible exact rel_retL | with_reducible assumption | with_reducible refine rel_bind ?_ (fun _ => ?_) | with_reducible refine rel_ite ?_ ?_ | with_reducible refine rel_nox ?_ | with_reducible refine rel_comp (fun _ => ?_) (fun _ => ?_) _ | with_reducible refine rel_for (fun _ _ => ?_) _ _ | with_reducible refine rel_while (fun _ => ?_) (fun _ => ?_) _ | with_reducible refine rel_nxt (fun _ => ?_) | with_reducible refine rel_aft (fun _ => ?_) | with_reducible refine rel_try ?_ ?_))
theorem s_fits_plain_set : ∀ ds, Rel (F_fits_plain_set ds) (f_fits_plain_set ds) := fun ds => by
    match ds with
    | [v_value] => exact rel_bind (sm_fits_plain_set v_value) fun _ => rel_retD
    | [] => exact rel_stuck
    | _ :: _ :: _ => exact rel_stuck
theorem b_fits_plain_set {X : Cx} {W : WX} (g : GX X W p_fits_plain_set) (hr : Room 17 X.A) (cf_fits_formula : CallF X.prog X.w X.K X.mg X.base "fits_formula" 17 (SpD X.K X.mg 1 F_fits_formula)) :
  ∃ m, Ss X W (fun c : CR.D => [.pl c, .un, .un]) ⟨[.un, .un, .un], fun _ (_ : Unit) => [.un, .un, .un], fun _ (e : Empty) => e.elim⟩ (defBody (top 39)) m ∧ m = fun c => m_fits_plain_set c :=
 ⟨_, (ss_ifx (et_w (ew_or (et_not (et_val (ee_call g 0 cf_fits_formula hr rfl rfl (ea_cons (ee_var g 0 rfl rfl fun _ => rfl) ea_nil) rfl))) (ew_or (et_cmp (ob_ne g) rfl (er_of (ee_ix (er_of (ee_var g 0 rfl rfl fun _ => rfl)) ee_int)) (er_of ee_int)) (ew_or1 (et_cmp (ob_ne g) rfl (er_of (ee_ix (er_of (ee_var g 0 rfl rfl fun _ => rfl)) ee_int)) (er_of (ee_tup ea_nil rfl))))))) (ss_ret ee_bl (by ((intro _; repeat (first | exact trivial | refine And.intro rfl ?_)))))
 (ss_cons (sp_set g 1 rfl rfl (ee_ix (er_of (ee_var g 0 rfl rfl fun _ => rfl)) ee_int))
 (ss_rho (fun c => [.pl c.2, .pl c.1, .un]) rfl (ss_ret (ee_or (ee_cmp (ob_eq g) rfl (er_of (ee_ix (er_of (ee_var g 1 rfl rfl fun _ => rfl)) ee_int)) (er_of (ee_str (by decide +kernel)))) (ee_one (ee_and (ee_cmp (ob_eq g) rfl (er_of (ee_ix (er_of (ee_var g 1 rfl rfl fun _ => rfl)) ee_int)) (er_of (ee_str (by decide +kernel)))) (ee_one (ee_all g 1 rfl (er_of (el_ee (el_comp g (own := [("one", 2)]) (vis := [2]) (loc := [2]) (gl := []) (sl := [2]) (ei_seq (ee_ix (er_of (ee_var g 1 rfl rfl fun _ => rfl)) ee_int)) (by decide +kernel) (plainAt.cons (fun _ => slotUn rfl rfl) plainAt.nil) rfl (fun _ _ _ _ _ g42 => (eg_name g42 2 rfl rfl)) (gsn_off 2) (fun _ _ _ _ _ g42 => ets_nil) (fun _ _ _ _ _ g42 => (ee_cmp (ob_eq g42) rfl (er_of (ee_ix (er_of (ee_var g42 2 rfl rfl fun _ => rfl)) ee_int)) (er_of (ee_str (by decide +kernel))))))))))))) (by ((intro _; repeat (first | exact trivial | refine And.intro rfl ?_)))))))), by kernel_rfl⟩

def p_need_plain_set : Cp := ⟨["value"], defScope (top 40), [0], [0], [0], ["fits_plain_set", "InvalidFormula"], true⟩
def m_need_plain_set (v_value : CR.D) : M (O Unit Empty) :=
  M.bind (M.bind (M.bind (M.bind (M.bind (M.pure v_value) fun d => M.bind (M.pure []) fun ds => M.pure (d :: ds)) fun ds => F_fits_plain_set ds) fun d => M.opt (boolD d)) fun b => M.pure (!b)) fun b => M.ite b (M.bind (M.raise "InvalidFormula") fun o => M.pure (O.out o)) (M.pure (O.nx ()))
def F_need_plain_set : List CR.D → M (CR.D)
  | [v_value] => M.bind (m_need_plain_set v_value) retD
  | _ => M.stuck
def r_need_plain_set (v_value : CR.D) : R (O Unit Empty) :=
  R.bind (R.bind (R.bind (R.bind (R.bind (R.pure v_value) fun d => R.bind (R.pure []) fun ds => R.pure (d :: ds)) fun ds => f_fits_plain_set ds) fun d => R.opt (boolD d)) fun b => R.pure (!b)) fun b => R.ite b (R.bind (R.raise "InvalidFormula") fun o => R.pure (O.out o)) (R.pure (O.nx ()))
def f_need_plain_set : List CR.D → R (CR.D)
  | [v_value] => R.bind (r_need_plain_set v_value) retDR
  | _ => .stuck
theorem sm_need_plain_set (v_value : CR.D) : Rel (m_need_plain_set v_value) (r_need_plain_set v_value) := by
  have h_fits_plain_set := s_fits_plain_set
  unfold m_need_plain_set r_need_plain_set
  repeat (first | with_reducible exact h_fits_plain_set _ | (first | with_reducible exact rel_pure | with_reducible exact rel_opt | with_reducible exact rel_guard | with_reducible exact rel_raise | with_reducible exact rel_sorted | with_reducible exact rel_retD | with_reducible exact rel_retL | with_reducible assumption | with_reducible refine rel_bind ?_ (fun _ => ?_) | with_reducible refine rel_ite ?_ ?_ | with_reducible refine rel_nox ?_ | with_reducible refine rel_comp (fun _ => ?_) (fun _ => ?_) _ | with_reducible refine rel_for (fun _ _ => ?_) _ _ | with_reducible refine rel_while (fun _ => ?_) (fun _ => ?_) _ | with_reducible refine rel_nxt (fun _ => ?_) | with_reducible refine rel_aft (fun _ => ?_) | with_reducible refine rel_try ?_ ?_))
theorem s_need_plain_set : ∀ ds, Rel (F_need_plain_set ds) (f_need_plain_set ds) := fun ds => by
    match ds with
    | [v_value] => exact rel_bind (sm_need_plain_set v_value) fun _ => rel_retD
    | [] => exact rel_stuck
    | _ :: _ :: _ => exact rel_stuck
theorem b_need_plain_set {X : Cx} {W : WX} (g : GX X W p_need_plain_set) (hr : Room 18 X.A) (cf_fits_plain_set : CallF X.prog X.w X.K X.mg X.base "fits_plain_set" 18 (SpD X.K X.mg 1 F_fits_plain_set)) (er_InvalidFormula : ErrC X "InvalidFormula" (He.ga X.K "InvalidFormula")) :
  ∃ m, Ss X W (fun c : CR.D => [.pl c]) ⟨[.un], fun _ (_ : Unit) => [.un], fun _ (e : Empty) => e.elim⟩ (defBody (top 40)) m ∧ m = fun c => m_need_plain_set c :=
 ⟨_, (ss_ifx (et_not (et_val (ee_call g 0 cf_fits_plain_set hr rfl rfl (ea_cons (ee_var g 0 rfl rfl fun _ => rfl) ea_nil) rfl))) (ss_raise g 1 er_InvalidFormula rfl)
 (ss_end (fun _ => ()) (by ((intro _; repeat (first | exact trivial | refine And.intro rfl ?_)))))), by kernel_rfl⟩

def p_need_row : Cp := ⟨["value", "one"], defScope (top 41), [0], [0], [0], ["is_tuple_of", "all", "InvalidRow"], true⟩
def m_need_row (v_value : CR.D) : M (O Unit Empty) :=
  M.bind (M.bind (M.bind (M.bind (M.bind (M.bind (M.pure v_value) fun d => M.bind (M.bind (M.pure (D.int 2)) fun d => M.bind (M.bind (M.pure (D.int 2)) fun d => M.bind (M.pure []) fun ds => M.pure (d :: ds)) fun ds => M.pure (d :: ds)) fun ds => M.pure (d :: ds)) fun ds => F_is_tuple_of ds) fun d => M.opt (boolD d)) fun b => M.pure (!b)) fun t => M.ite t (M.pure true) (M.bind (M.bind (M.bind (M.bind (M.bind (M.bind (M.pure v_value) fun d => M.opt (seqD d)) fun xs => compM Option.some (fun v45 => M.pure true) (fun v45 => M.bind (M.bind (M.pure v45) fun d => M.bind (M.bind (M.bind (M.pure (D.int 1000000)) fun d => M.opt (negD d)) fun d => M.bind (M.bind (M.pure (D.int 1000000)) fun d => M.bind (M.pure []) fun ds => M.pure (d :: ds)) fun ds => M.pure (d :: ds)) fun ds => M.pure (d :: ds)) fun ds => F_is_whole ds) xs) fun xs => M.pure (D.lst xs)) fun d => M.opt (allD d)) fun d => M.opt (boolD d)) fun b => M.pure (!b))) fun b => M.ite b (M.bind (M.raise "InvalidRow") fun o => M.pure (O.out o)) (M.pure (O.nx ()))
def F_need_row : List CR.D → M (CR.D)
  | [v_value] => M.bind (m_need_row v_value) retD
  | _ => M.stuck
def r_need_row (v_value : CR.D) : R (O Unit Empty) :=
  R.bind (R.bind (R.bind (R.bind (R.bind (R.bind (R.pure v_value) fun d => R.bind (R.bind (R.pure (D.int 2)) fun d => R.bind (R.bind (R.pure (D.int 2)) fun d => R.bind (R.pure []) fun ds => R.pure (d :: ds)) fun ds => R.pure (d :: ds)) fun ds => R.pure (d :: ds)) fun ds => f_is_tuple_of ds) fun d => R.opt (boolD d)) fun b => R.pure (!b)) fun t => R.ite t (R.pure true) (R.bind (R.bind (R.bind (R.bind (R.bind (R.bind (R.pure v_value) fun d => R.opt (seqD d)) fun xs => compR Option.some (fun v45 => R.pure true) (fun v45 => R.bind (R.bind (R.pure v45) fun d => R.bind (R.bind (R.bind (R.pure (D.int 1000000)) fun d => R.opt (negD d)) fun d => R.bind (R.bind (R.pure (D.int 1000000)) fun d => R.bind (R.pure []) fun ds => R.pure (d :: ds)) fun ds => R.pure (d :: ds)) fun ds => R.pure (d :: ds)) fun ds => f_is_whole ds) xs) fun xs => R.pure (D.lst xs)) fun d => R.opt (allD d)) fun d => R.opt (boolD d)) fun b => R.pure (!b))) fun b => R.ite b (R.bind (R.raise "InvalidRow") fun o => R.pure (O.out o)) (R.pure (O.nx ()))
def f_need_row : List CR.D → R (CR.D)
  | [v_value] => R.bind (r_need_row v_value) retDR
  | _ => .stuck
theorem sm_need_row (v_value : CR.D) : Rel (m_need_row v_value) (r_need_row v_value) := by
  have h_is_tuple_of := s_is_tuple_of
  have h_is_whole := s_is_whole
  unfold m_need_row r_need_row
  repeat (first | with_reducible exact h_is_tuple_of _ | with_reducible exact h_is_whole _ | (first | with_reducible exact rel_pure | with_reducible exact rel_opt | with_reducible exact rel_guard | with_reducible exact rel_raise | with_reducible exact rel_sorted | with_reducible exact rel_retD | with_reducible exact rel_retL | with_reducible assumption | with_reducible refine rel_bind ?_ (fun _ => ?_) | with_reducible refine rel_ite ?_ ?_ | with_reducible refine rel_nox ?_ | with_reducible refine rel_comp (fun _ => ?_) (fun _ => ?_) _ | with_reducible refine rel_for (fun _ _ => ?_) _ _ | with_reducible refine rel_while (fun _ => ?_) (fun _ => ?_) _ | with_reducible refine rel_nxt (fun _ => ?_) | with_reducible refine rel_aft (fun _ => ?_) | with_reducible refine rel_try ?_ ?_))
theorem s_need_row : ∀ ds, Rel (F_need_row ds) (f_need_row ds) := fun ds => by
    match ds with
    | [v_value] => exact rel_bind (sm_need_row v_value) fun _ => rel_retD
    | [] => exact rel_stuck
    | _ :: _ :: _ => exact rel_stuck
theorem b_need_row {X : Cx} {W : WX} (g : GX X W p_need_row) (hr : Room 1 X.A) (cf_is_tuple_of : CallF X.prog X.w X.K X.mg X.base "is_tuple_of" 1 (SpD X.K X.mg 3 F_is_tuple_of)) (cf_is_whole : CallF X.prog X.w X.K X.mg X.base "is_whole" 1 (SpD X.K X.mg 3 F_is_whole)) (gl_ROW : GlobD X "ROW" (D.int 1000000)) (er_InvalidRow : ErrC X "InvalidRow" (He.ga X.K "InvalidRow")) :
  ∃ m, Ss X W (fun c : CR.D => [.pl c, .un]) ⟨[.un, .un], fun _ (_ : Unit) => [.un, .un], fun _ (e : Empty) => e.elim⟩ (defBody (top 41)) m ∧ m = fun c => m_need_row c :=
 ⟨_, (ss_ifx (et_w (ew_or (et_not (et_val (ee_call g 0 cf_is_tuple_of hr rfl rfl (ea_cons (ee_var g 0 rfl rfl fun _ => rfl) (ea_cons ee_int (ea_cons ee_int ea_nil))) rfl))) (ew_or1 (et_not (et_val (ee_all g 1 rfl (er_of (el_ee (el_comp g (own := [("one", 1)]) (vis := [1]) (loc := [1]) (gl := ["is_whole", "ROW"]) (sl := [1]) (ei_seq (ee_var g 0 rfl rfl fun _ => rfl)) (by decide +kernel) (plainAt.cons (fun _ => slotUn rfl rfl) plainAt.nil) rfl (fun _ _ _ _ _ g44 => (eg_name g44 1 rfl rfl)) (gsn_off 1) (fun _ _ _ _ _ g44 => ets_nil) (fun _ _ _ _ _ g44 => (ee_call g44 0 cf_is_whole hr rfl rfl (ea_cons (ee_var g44 1 rfl rfl fun _ => rfl) (ea_cons (ee_neg (ee_glob g44 1 rfl gl_ROW)) (ea_cons (ee_glob g44 1 rfl gl_ROW) ea_nil))) rfl))))))))))) (ss_raise g 2 er_InvalidRow rfl)
 (ss_end (fun _ => ()) (by ((intro _; repeat (first | exact trivial | refine And.intro rfl ?_)))))), by kernel_rfl⟩

def p_lines_of : Cp := ⟨["formula", "test", "leaves", "leaf"], defScope (top 42), [0, 1, 2], [0, 1, 2], [0, 1, 2], ["list"], true⟩
def m_lines_of (v_formula : CR.D) : M (O Unit Empty) :=
  M.bind (M.bind (M.pure v_formula) fun x => M.bind (M.pure (D.int 2)) fun y => M.opt (getD x y)) fun test_46 =>
  M.bind (M.bind (M.bind (M.bind (M.bind (M.pure test_46) fun x => M.bind (M.pure (D.int 0)) fun y => M.opt (getD x y)) fun x => M.bind (M.pure (D.str "most")) fun y => M.opt (eqB x y)) fun t => M.ite t (M.bind (M.pure test_46) fun d => M.bind (M.pure []) fun ds => M.pure (d :: ds)) (M.bind (M.bind (M.pure test_46) fun x => M.bind (M.pure (D.int 1)) fun y => M.opt (getD x y)) fun d => M.opt (seqD d))) fun xs => M.pure (D.lst xs)) fun leaves_47 =>
  M.bind (M.bind (M.bind (M.pure leaves_47) fun d => M.opt (seqD d)) fun xs => compM Option.some (fun v49 => M.pure true) (fun v49 => M.bind (M.bind (M.bind (M.pure v49) fun x => M.bind (M.pure (D.int 1)) fun y => M.opt (getD x y)) fun d => M.bind (M.bind (M.bind (M.pure v49) fun x => M.bind (M.pure (D.int 2)) fun y => M.opt (getD x y)) fun d => M.bind (M.pure []) fun ds => M.pure (d :: ds)) fun ds => M.pure (d :: ds)) fun ds => M.pure (D.tup ds)) xs) fun d => M.pure (O.rl d)
def F_lines_of : List CR.D → M (List CR.D)
  | [v_formula] => M.bind (m_lines_of v_formula) retL
  | _ => M.stuck
def r_lines_of (v_formula : CR.D) : R (O Unit Empty) :=
  R.bind (R.bind (R.pure v_formula) fun x => R.bind (R.pure (D.int 2)) fun y => R.opt (getD x y)) fun test_46 =>
  R.bind (R.bind (R.bind (R.bind (R.bind (R.pure test_46) fun x => R.bind (R.pure (D.int 0)) fun y => R.opt (getD x y)) fun x => R.bind (R.pure (D.str "most")) fun y => R.opt (eqB x y)) fun t => R.ite t (R.bind (R.pure test_46) fun d => R.bind (R.pure []) fun ds => R.pure (d :: ds)) (R.bind (R.bind (R.pure test_46) fun x => R.bind (R.pure (D.int 1)) fun y => R.opt (getD x y)) fun d => R.opt (seqD d))) fun xs => R.pure (D.lst xs)) fun leaves_47 =>
  R.bind (R.bind (R.bind (R.pure leaves_47) fun d => R.opt (seqD d)) fun xs => compR Option.some (fun v49 => R.pure true) (fun v49 => R.bind (R.bind (R.bind (R.pure v49) fun x => R.bind (R.pure (D.int 1)) fun y => R.opt (getD x y)) fun d => R.bind (R.bind (R.bind (R.pure v49) fun x => R.bind (R.pure (D.int 2)) fun y => R.opt (getD x y)) fun d => R.bind (R.pure []) fun ds => R.pure (d :: ds)) fun ds => R.pure (d :: ds)) fun ds => R.pure (D.tup ds)) xs) fun d => R.pure (O.rl d)
def f_lines_of : List CR.D → R (List CR.D)
  | [v_formula] => R.bind (r_lines_of v_formula) retLR
  | _ => .stuck
theorem sm_lines_of (v_formula : CR.D) : Rel (m_lines_of v_formula) (r_lines_of v_formula) := by
  unfold m_lines_of r_lines_of
  repeat (first | (first | with_reducible exact rel_pure | with_reducible exact rel_opt | with_reducible exact rel_guard | with_reducible exact rel_raise | with_reducible exact rel_sorted | with_reducible exact rel_retD | with_reducible exact rel_retL | with_reducible assumption | with_reducible refine rel_bind ?_ (fun _ => ?_) | with_reducible refine rel_ite ?_ ?_ | with_reducible refine rel_nox ?_ | with_reducible refine rel_comp (fun _ => ?_) (fun _ => ?_) _ | with_reducible refine rel_for (fun _ _ => ?_) _ _ | with_reducible refine rel_while (fun _ => ?_) (fun _ => ?_) _ | with_reducible refine rel_nxt (fun _ => ?_) | with_reducible refine rel_aft (fun _ => ?_) | with_reducible refine rel_try ?_ ?_))
theorem s_lines_of : ∀ ds, Rel (F_lines_of ds) (f_lines_of ds) := fun ds => by
    match ds with
    | [v_formula] => exact rel_bind (sm_lines_of v_formula) fun _ => rel_retL
    | [] => exact rel_stuck
    | _ :: _ :: _ => exact rel_stuck
theorem b_lines_of {X : Cx} {W : WX} (g : GX X W p_lines_of) (hr : Room 0 X.A) :
  ∃ m, Ss X W (fun c : CR.D => [.pl c, .un, .un, .un]) ⟨[.un, .un, .un, .un], fun _ (_ : Unit) => [.un, .un, .un, .un], fun _ (e : Empty) => e.elim⟩ (defBody (top 42)) m ∧ m = fun c => m_lines_of c :=
 ⟨_, (ss_cons (sp_set g 1 rfl rfl (ee_ix (er_of (ee_var g 0 rfl rfl fun _ => rfl)) ee_int))
 (ss_rho (fun c => [.pl c.2, .pl c.1, .un, .un]) rfl (ss_cons (sp_set g 2 rfl rfl (el_ee (el_if (et_cmp (ob_eq g) rfl (er_of (ee_ix (er_of (ee_var g 1 rfl rfl fun _ => rfl)) ee_int)) (er_of (ee_str (by decide +kernel)))) (el_lst (ea_cons (ee_var g 1 rfl rfl fun _ => rfl) ea_nil) rfl) (el_list g 0 rfl (er_of (ee_ix (er_of (ee_var g 1 rfl rfl fun _ => rfl)) ee_int))))))
 (ss_rho (fun c => [.pl c.2.2, .pl c.2.1, .pl c.1, .un]) rfl (ss_ret1 (el_comp g (own := [("leaf", 3)]) (vis := [3]) (loc := [3]) (gl := []) (sl := [3]) (ei_seq (ee_var g 2 rfl rfl fun _ => rfl)) (by decide +kernel) (plainAt.cons (fun _ => slotUn rfl rfl) plainAt.nil) rfl (fun _ _ _ _ _ g48 => (eg_name g48 3 rfl rfl)) (gsn_off 3) (fun _ _ _ _ _ g48 => ets_nil) (fun _ _ _ _ _ g48 => (ee_tup (ea_cons (ee_ix (er_of (ee_var g48 3 rfl rfl fun _ => rfl)) ee_int) (ea_cons (ee_ix (er_of (ee_var g48 3 rfl rfl fun _ => rfl)) ee_int) ea_nil)) rfl))) (by ((intro _; repeat (first | exact trivial | refine And.intro rfl ?_))))))))), by kernel_rfl⟩

def p_lines_with : Cp := ⟨["lines", "other", "at", "row", "c"], defScope (top 43), [0, 1], [0, 1], [0], ["enumerate"], true⟩
def m_lines_with (v_lines : CR.D) (v_other : CR.D) : M (O Unit Empty) :=
  M.bind (M.bind (M.bind (M.pure v_lines) fun d => M.opt (enumD d)) fun xs => compM (gmTup (gmCons Option.some (gmCons (gmTup (gmCons Option.some (gmCons Option.some gmNil))) gmNil))) (fun v51 => M.bind (M.bind (M.pure v51.2.1.1) fun x => M.bind (M.pure (D.int 1)) fun y => M.opt (getD x y)) fun x => M.bind (M.pure v_other) fun y => M.opt (eqB x y)) (fun v51 => M.bind (M.bind (M.pure v51.1) fun d => M.bind (M.bind (M.bind (M.pure v51.2.1.1) fun x => M.bind (M.pure (D.int 0)) fun y => M.opt (getD x y)) fun d => M.bind (M.bind (M.pure v51.2.1.2.1) fun d => M.bind (M.pure []) fun ds => M.pure (d :: ds)) fun ds => M.pure (d :: ds)) fun ds => M.pure (d :: ds)) fun ds => M.pure (D.tup ds)) xs) fun d => M.pure (O.rl d)
def F_lines_with : List CR.D → M (List CR.D)
  | [v_lines, v_other] => M.bind (m_lines_with v_lines v_other) retL
  | _ => M.stuck
def r_lines_with (v_lines : CR.D) (v_other : CR.D) : R (O Unit Empty) :=
  R.bind (R.bind (R.bind (R.pure v_lines) fun d => R.opt (enumD d)) fun xs => compR (gmTup (gmCons Option.some (gmCons (gmTup (gmCons Option.some (gmCons Option.some gmNil))) gmNil))) (fun v51 => R.bind (R.bind (R.pure v51.2.1.1) fun x => R.bind (R.pure (D.int 1)) fun y => R.opt (getD x y)) fun x => R.bind (R.pure v_other) fun y => R.opt (eqB x y)) (fun v51 => R.bind (R.bind (R.pure v51.1) fun d => R.bind (R.bind (R.bind (R.pure v51.2.1.1) fun x => R.bind (R.pure (D.int 0)) fun y => R.opt (getD x y)) fun d => R.bind (R.bind (R.pure v51.2.1.2.1) fun d => R.bind (R.pure []) fun ds => R.pure (d :: ds)) fun ds => R.pure (d :: ds)) fun ds => R.pure (d :: ds)) fun ds => R.pure (D.tup ds)) xs) fun d => R.pure (O.rl d)
def f_lines_with : List CR.D → R (List CR.D)
  | [v_lines, v_other] => R.bind (r_lines_with v_lines v_other) retLR
  | _ => .stuck
theorem sm_lines_with (v_lines : CR.D) (v_other : CR.D) : Rel (m_lines_with v_lines v_other) (r_lines_with v_lines v_other) := by
  unfold m_lines_with r_lines_with
  repeat (first | (first | with_reducible exact rel_pure | with_reducible exact rel_opt | with_reducible exact rel_guard | with_reducible exact rel_raise | with_reducible exact rel_sorted | with_reducible exact rel_retD | with_reducible exact rel_retL | with_reducible assumption | with_reducible refine rel_bind ?_ (fun _ => ?_) | with_reducible refine rel_ite ?_ ?_ | with_reducible refine rel_nox ?_ | with_reducible refine rel_comp (fun _ => ?_) (fun _ => ?_) _ | with_reducible refine rel_for (fun _ _ => ?_) _ _ | with_reducible refine rel_while (fun _ => ?_) (fun _ => ?_) _ | with_reducible refine rel_nxt (fun _ => ?_) | with_reducible refine rel_aft (fun _ => ?_) | with_reducible refine rel_try ?_ ?_))
theorem s_lines_with : ∀ ds, Rel (F_lines_with ds) (f_lines_with ds) := fun ds => by
    match ds with
    | [v_lines, v_other] => exact rel_bind (sm_lines_with v_lines v_other) fun _ => rel_retL
    | [] => exact rel_stuck
    | [_] => exact rel_stuck
    | _ :: _ :: _ :: _ => exact rel_stuck
theorem b_lines_with {X : Cx} {W : WX} (g : GX X W p_lines_with) (hr : Room 0 X.A) :
  ∃ m, Ss X W (fun c : CR.D × CR.D => [.pl c.1, .pl c.2, .un, .un, .un]) ⟨[.un, .un, .un, .un, .un], fun _ (_ : Unit) => [.un, .un, .un, .un, .un], fun _ (e : Empty) => e.elim⟩ (defBody (top 43)) m ∧ m = fun c => m_lines_with c.1 c.2 :=
 ⟨_, (ss_ret1 (el_comp g (own := [("at", 2), ("row", 3), ("c", 4)]) (vis := [1, 2, 3, 4]) (loc := [2, 3, 4]) (gl := []) (sl := ([2] ++ (([3] ++ ([4] ++ [])) ++ []))) (ei_enum g 0 rfl (ee_var g 0 rfl rfl fun _ => rfl)) (by decide +kernel) (plainAt.cons (fun _ => slotUn rfl rfl) (plainAt.cons (fun _ => slotUn rfl rfl) (plainAt.cons (fun _ => slotUn rfl rfl) plainAt.nil))) rfl (fun _ _ _ _ _ g50 => (eg_tup g50 (egs_cons (eg_name g50 2 rfl rfl) (egs_cons (eg_tup g50 (egs_cons (eg_name g50 3 rfl rfl) (egs_cons (eg_name g50 4 rfl rfl) egs_nil)) (gml1 (gml1 gml0))) egs_nil)) (gml1 (gml1 gml0)))) (gsc_off (gsn_off 2) (gsc_off (gsc_off (gsn_off 3) (gsc_off (gsn_off 4) gsu_off)) gsu_off)) (fun _ _ _ _ _ g50 => (ets_one (et_cmp (ob_eq g50) rfl (er_of (ee_ix (er_of (ee_var g50 3 rfl rfl fun _ => rfl)) ee_int)) (er_of (ee_var g50 1 rfl rfl fun _ => rfl))))) (fun _ _ _ _ _ g50 => (ee_tup (ea_cons (ee_var g50 2 rfl rfl fun _ => rfl) (ea_cons (ee_ix (er_of (ee_var g50 3 rfl rfl fun _ => rfl)) ee_int) (ea_cons (ee_var g50 4 rfl rfl fun _ => rfl) ea_nil))) rfl))) (by ((intro _; repeat (first | exact trivial | refine And.intro rfl ?_))))), by kernel_rfl⟩

def p_bounds_in : Cp := ⟨["lines", "found", "above", "at", "a", "c", "below"], defScope (top 44), [0, 1, 2], [0, 1, 2], [0, 1], ["lines_with"], true⟩
def m_bounds_in (v_lines : CR.D) : M (O Unit Empty) :=
  M.bind (M.bind (M.bind (M.bind (M.bind (M.bind (M.pure v_lines) fun d => M.bind (M.bind (M.pure (D.int 0)) fun d => M.bind (M.pure []) fun ds => M.pure (d :: ds)) fun ds => M.pure (d :: ds)) fun ds => F_lines_with ds) fun xs => M.pure (D.lst xs)) fun d => M.opt (seqD d)) fun xs => compM (gmTup (gmCons Option.some (gmCons Option.some (gmCons Option.some gmNil)))) (fun v54 => M.pure true) (fun v54 => M.bind (M.bind (M.bind (M.bind (M.pure v54.1) fun d => M.bind (M.pure []) fun ds => M.pure (d :: ds)) fun ds => M.pure (D.tup ds)) fun d => M.bind (M.bind (M.pure v54.2.1) fun d => M.bind (M.bind (M.pure v54.2.2.1) fun d => M.bind (M.pure []) fun ds => M.pure (d :: ds)) fun ds => M.pure (d :: ds)) fun ds => M.pure (d :: ds)) fun ds => M.pure (D.tup ds)) xs) fun found_52 =>
  M.bind (M.bind (M.bind (M.bind (M.bind (M.pure v_lines) fun d => M.bind (M.bind (M.pure (D.int 1)) fun d => M.bind (M.pure []) fun ds => M.pure (d :: ds)) fun ds => M.pure (d :: ds)) fun ds => F_lines_with ds) fun xs => M.pure (D.lst xs)) fun d => M.opt (seqD d)) fun xs => M.bind (forM Option.some (fun v56 a55 => M.bind (M.bind (M.bind (M.bind (M.bind (M.bind (M.bind (M.pure v_lines) fun d => M.bind (M.bind (M.bind (M.pure (D.int 1)) fun d => M.opt (negD d)) fun d => M.bind (M.pure []) fun ds => M.pure (d :: ds)) fun ds => M.pure (d :: ds)) fun ds => F_lines_with ds) fun xs => M.pure (D.lst xs)) fun d => M.opt (seqD d)) fun xs => compM Option.some (fun v59 => M.pure true) (fun v59 => M.bind (M.bind (M.bind (M.bind (M.bind (M.pure v56) fun x => M.bind (M.pure (D.int 0)) fun y => M.opt (getD x y)) fun d => M.bind (M.bind (M.bind (M.pure v59) fun x => M.bind (M.pure (D.int 0)) fun y => M.opt (getD x y)) fun d => M.bind (M.pure []) fun ds => M.pure (d :: ds)) fun ds => M.pure (d :: ds)) fun ds => M.pure (D.tup ds)) fun d => M.bind (M.bind (M.bind (M.bind (M.pure v56) fun x => M.bind (M.pure (D.int 1)) fun y => M.opt (getD x y)) fun x => M.bind (M.bind (M.pure v59) fun x => M.bind (M.pure (D.int 1)) fun y => M.opt (getD x y)) fun y => M.opt (addD x y)) fun d => M.bind (M.bind (M.bind (M.bind (M.pure v56) fun x => M.bind (M.pure (D.int 2)) fun y => M.opt (getD x y)) fun x => M.bind (M.bind (M.pure v59) fun x => M.bind (M.pure (D.int 2)) fun y => M.opt (getD x y)) fun y => M.opt (addD x y)) fun d => M.bind (M.pure []) fun ds => M.pure (d :: ds)) fun ds => M.pure (d :: ds)) fun ds => M.pure (d :: ds)) fun ds => M.pure (D.tup ds)) xs) fun ys => M.bind (M.guard (len2B a55 ys)) fun _ => M.pure ys) fun found_57 =>
  M.pure (O.nx (a55 ++ found_57))) xs found_52) fun o => O.aft o fun a60 =>
  M.pure (O.rl a60)
def F_bounds_in : List CR.D → M (List CR.D)
  | [v_lines] => M.bind (m_bounds_in v_lines) retL
  | _ => M.stuck
def r_bounds_in (v_lines : CR.D) : R (O Unit Empty) :=
  R.bind (R.bind (R.bind (R.bind (R.bind (R.bind (R.pure v_lines) fun d => R.bind (R.bind (R.pure (D.int 0)) fun d => R.bind (R.pure []) fun ds => R.pure (d :: ds)) fun ds => R.pure (d :: ds)) fun ds => f_lines_with ds) fun xs => R.pure (D.lst xs)) fun d => R.opt (seqD d)) fun xs => compR (gmTup (gmCons Option.some (gmCons Option.some (gmCons Option.some gmNil)))) (fun v54 => R.pure true) (fun v54 => R.bind (R.bind (R.bind (R.bind (R.pure v54.1) fun d => R.bind (R.pure []) fun ds => R.pure (d :: ds)) fun ds => R.pure (D.tup ds)) fun d => R.bind (R.bind (R.pure v54.2.1) fun d => R.bind (R.bind (R.pure v54.2.2.1) fun d => R.bind (R.pure []) fun ds => R.pure (d :: ds)) fun ds => R.pure (d :: ds)) fun ds => R.pure (d :: ds)) fun ds => R.pure (D.tup ds)) xs) fun found_52 =>
  R.bind (R.bind (R.bind (R.bind (R.bind (R.pure v_lines) fun d => R.bind (R.bind (R.pure (D.int 1)) fun d => R.bind (R.pure []) fun ds => R.pure (d :: ds)) fun ds => R.pure (d :: ds)) fun ds => f_lines_with ds) fun xs => R.pure (D.lst xs)) fun d => R.opt (seqD d)) fun xs => R.bind (forR Option.some (fun v56 a55 => R.bind (R.bind (R.bind (R.bind (R.bind (R.bind (R.bind (R.pure v_lines) fun d => R.bind (R.bind (R.bind (R.pure (D.int 1)) fun d => R.opt (negD d)) fun d => R.bind (R.pure []) fun ds => R.pure (d :: ds)) fun ds => R.pure (d :: ds)) fun ds => f_lines_with ds) fun xs => R.pure (D.lst xs)) fun d => R.opt (seqD d)) fun xs => compR Option.some (fun v59 => R.pure true) (fun v59 => R.bind (R.bind (R.bind (R.bind (R.bind (R.pure v56) fun x => R.bind (R.pure (D.int 0)) fun y => R.opt (getD x y)) fun d => R.bind (R.bind (R.bind (R.pure v59) fun x => R.bind (R.pure (D.int 0)) fun y => R.opt (getD x y)) fun d => R.bind (R.pure []) fun ds => R.pure (d :: ds)) fun ds => R.pure (d :: ds)) fun ds => R.pure (D.tup ds)) fun d => R.bind (R.bind (R.bind (R.bind (R.pure v56) fun x => R.bind (R.pure (D.int 1)) fun y => R.opt (getD x y)) fun x => R.bind (R.bind (R.pure v59) fun x => R.bind (R.pure (D.int 1)) fun y => R.opt (getD x y)) fun y => R.opt (addD x y)) fun d => R.bind (R.bind (R.bind (R.bind (R.pure v56) fun x => R.bind (R.pure (D.int 2)) fun y => R.opt (getD x y)) fun x => R.bind (R.bind (R.pure v59) fun x => R.bind (R.pure (D.int 2)) fun y => R.opt (getD x y)) fun y => R.opt (addD x y)) fun d => R.bind (R.pure []) fun ds => R.pure (d :: ds)) fun ds => R.pure (d :: ds)) fun ds => R.pure (d :: ds)) fun ds => R.pure (D.tup ds)) xs) fun ys => R.bind (R.guard (len2B a55 ys)) fun _ => R.pure ys) fun found_57 =>
  R.pure (O.nx (a55 ++ found_57))) xs found_52) fun o => O.aftR o fun a60 =>
  R.pure (O.rl a60)
def f_bounds_in : List CR.D → R (List CR.D)
  | [v_lines] => R.bind (r_bounds_in v_lines) retLR
  | _ => .stuck
theorem sm_bounds_in (v_lines : CR.D) : Rel (m_bounds_in v_lines) (r_bounds_in v_lines) := by
  have h_lines_with := s_lines_with
  unfold m_bounds_in r_bounds_in
  repeat (first | with_reducible exact h_lines_with _ | (first | with_reducible exact rel_pure | with_reducible exact rel_opt | with_reducible exact rel_guard | with_reducible exact rel_raise | with_reducible exact rel_sorted | with_reducible exact rel_retD | with_reducible exact rel_retL | with_reducible assumption | with_reducible refine rel_bind ?_ (fun _ => ?_) | with_reducible refine rel_ite ?_ ?_ | with_reducible refine rel_nox ?_ | with_reducible refine rel_comp (fun _ => ?_) (fun _ => ?_) _ | with_reducible refine rel_for (fun _ _ => ?_) _ _ | with_reducible refine rel_while (fun _ => ?_) (fun _ => ?_) _ | with_reducible refine rel_nxt (fun _ => ?_) | with_reducible refine rel_aft (fun _ => ?_) | with_reducible refine rel_try ?_ ?_))
theorem s_bounds_in : ∀ ds, Rel (F_bounds_in ds) (f_bounds_in ds) := fun ds => by
    match ds with
    | [v_lines] => exact rel_bind (sm_bounds_in v_lines) fun _ => rel_retL
    | [] => exact rel_stuck
    | _ :: _ :: _ => exact rel_stuck
theorem b_bounds_in {X : Cx} {W : WX} (g : GX X W p_bounds_in) (hr : Room 1 X.A) (cf_lines_with : CallF X.prog X.w X.K X.mg X.base "lines_with" 1 (SpL X.K X.mg 2 F_lines_with)) :
  ∃ m, Ss X W (fun c : CR.D => [.pl c, .un, .un, .un, .un, .un, .un]) ⟨[.un, .un, .un, .un, .un, .un, .un], fun _ (_ : Unit) => [.un, .un, .un, .un, .un, .un, .un], fun _ (e : Empty) => e.elim⟩ (defBody (top 44)) m ∧ m = fun c => m_bounds_in c :=
 ⟨_, (ss_cons (sp_lc g 1 rfl rfl (own := [("at", 3), ("a", 4), ("c", 5)]) (vis := [3, 4, 5]) (loc := [3, 4, 5]) (gl := []) (sl := ([3] ++ ([4] ++ ([5] ++ [])))) (ei_seq (el_ee (el_call g 0 cf_lines_with hr rfl rfl (ea_cons (ee_var g 0 rfl rfl fun _ => rfl) (ea_cons ee_int ea_nil)) rfl))) (by decide +kernel) (plainAt.cons (fun _ => slotUn rfl rfl) (plainAt.cons (fun _ => slotUn rfl rfl) (plainAt.cons (fun _ => slotUn rfl rfl) plainAt.nil))) rfl (fun _ _ _ _ _ g53 => (eg_tup g53 (egs_cons (eg_name g53 3 rfl rfl) (egs_cons (eg_name g53 4 rfl rfl) (egs_cons (eg_name g53 5 rfl rfl) egs_nil))) (gml1 (gml1 (gml1 gml0))))) (gsc_off (gsn_off 3) (gsc_off (gsn_off 4) (gsc_off (gsn_off 5) gsu_off))) (fun _ _ _ _ _ g53 => ets_nil) (fun _ _ _ _ _ g53 => (ee_tup (ea_cons (ee_tup (ea_cons (ee_var g53 3 rfl rfl fun _ => rfl) ea_nil) rfl) (ea_cons (ee_var g53 4 rfl rfl fun _ => rfl) (ea_cons (ee_var g53 5 rfl rfl fun _ => rfl) ea_nil))) rfl)) (sww_of g.esc rfl))
 (ss_rho (fun c => [.pl c.2, .ow c.1, .un, .un, .un, .un, .un]) rfl (ss_fou g (fun (a : List CR.D) l => (l.set 1 (.ow a))) (fun c => c.1) (by ((intro _; repeat (first | exact trivial | refine And.intro rfl ?_)))) (ei_seq (el_ee (el_call g 0 cf_lines_with hr rfl rfl (ea_cons (ee_var g 0 rfl rfl fun _ => rfl) (ea_cons ee_int ea_nil)) rfl))) (eg_name g 2 rfl rfl) (ss_rho (fun c => [.pl c.2.2.2, .ow c.2.1, .pl c.1, .un, .un, .un, .un]) rfl (ss_cons (sp_augL g 1 rfl rfl (fun _ => rfl) (el_comp g (own := [("below", 6)]) (vis := [2, 6]) (loc := [6]) (gl := []) (sl := [6]) (ei_seq (el_ee (el_call g 0 cf_lines_with hr rfl rfl (ea_cons (ee_var g 0 rfl rfl fun _ => rfl) (ea_cons (ee_neg ee_int) ea_nil)) rfl))) (by decide +kernel) (plainAt.cons (fun _ => slotUn rfl rfl) plainAt.nil) rfl (fun _ _ _ _ _ g58 => (eg_name g58 6 rfl rfl)) (gsn_off 6) (fun _ _ _ _ _ g58 => ets_nil) (fun _ _ _ _ _ g58 => (ee_tup (ea_cons (ee_tup (ea_cons (ee_ix (er_of (ee_var g58 2 rfl rfl fun _ => rfl)) ee_int) (ea_cons (ee_ix (er_of (ee_var g58 6 rfl rfl fun _ => rfl)) ee_int) ea_nil)) rfl) (ea_cons (ee_bin od_add (er_of (ee_ix (er_of (ee_var g58 2 rfl rfl fun _ => rfl)) ee_int)) (er_of (ee_ix (er_of (ee_var g58 6 rfl rfl fun _ => rfl)) ee_int))) (ea_cons (ee_bin od_add (er_of (ee_ix (er_of (ee_var g58 2 rfl rfl fun _ => rfl)) ee_int)) (er_of (ee_ix (er_of (ee_var g58 6 rfl rfl fun _ => rfl)) ee_int))) ea_nil))) rfl))))
 (ss_end (fun c => (c.2.2.1 ++ c.1)) (by ((intro _; repeat (first | exact trivial | refine And.intro rfl ?_)))))))
 (ss_rho (fun c => [.pl c.2.2, .ow c.1, .un, .un, .un, .un, .un]) rfl (ss_retO g 1 rfl rfl (fun _ => rfl) (by ((intro _; repeat (first | exact trivial | refine And.intro rfl ?_))))))))), by kernel_rfl⟩

def p_highest_lead : Cp := ⟨["bounds", "found", "parts", "s", "t"], defScope (top 45), [0, 1], [0, 1], [0, 1], ["min"], true⟩
def m_highest_lead (v_bounds : CR.D) : M (O Unit Empty) :=
  M.bind (M.bind (M.bind (M.pure v_bounds) fun d => M.opt (seqD d)) fun xs => compM (gmTup (gmCons Option.some (gmCons Option.some (gmCons Option.some gmNil)))) (fun v63 => M.bind (M.pure v63.2.1) fun x => M.bind (M.pure (D.int 0)) fun y => M.opt (gtB x y)) (fun v63 => M.bind (M.pure v63.2.2.1) fun x => M.bind (M.pure v63.2.1) fun y => M.opt (divD x y)) xs) fun found_61 =>
  M.bind (M.bind (M.bind (M.pure (D.lst found_61)) fun x => M.bind (M.bind (M.pure []) fun xs => M.pure (D.lst xs)) fun y => M.opt (neB x y)) fun t => M.ite t (M.bind (M.pure (D.lst found_61)) fun d => M.opt (minD d)) (M.pure D.non)) fun d => M.pure (O.rt d)
def F_highest_lead : List CR.D → M (CR.D)
  | [v_bounds] => M.bind (m_highest_lead v_bounds) retD
  | _ => M.stuck
def r_highest_lead (v_bounds : CR.D) : R (O Unit Empty) :=
  R.bind (R.bind (R.bind (R.pure v_bounds) fun d => R.opt (seqD d)) fun xs => compR (gmTup (gmCons Option.some (gmCons Option.some (gmCons Option.some gmNil)))) (fun v63 => R.bind (R.pure v63.2.1) fun x => R.bind (R.pure (D.int 0)) fun y => R.opt (gtB x y)) (fun v63 => R.bind (R.pure v63.2.2.1) fun x => R.bind (R.pure v63.2.1) fun y => R.opt (divD x y)) xs) fun found_61 =>
  R.bind (R.bind (R.bind (R.pure (D.lst found_61)) fun x => R.bind (R.bind (R.pure []) fun xs => R.pure (D.lst xs)) fun y => R.opt (neB x y)) fun t => R.ite t (R.bind (R.pure (D.lst found_61)) fun d => R.opt (minD d)) (R.pure D.non)) fun d => R.pure (O.rt d)
def f_highest_lead : List CR.D → R (CR.D)
  | [v_bounds] => R.bind (r_highest_lead v_bounds) retDR
  | _ => .stuck
theorem sm_highest_lead (v_bounds : CR.D) : Rel (m_highest_lead v_bounds) (r_highest_lead v_bounds) := by
  unfold m_highest_lead r_highest_lead
  repeat (first | (first | with_reducible exact rel_pure | with_reducible exact rel_opt | with_reducible exact rel_guard | with_reducible exact rel_raise | with_reducible exact rel_sorted | with_reducible exact rel_retD | with_reducible exact rel_retL | with_reducible assumption | with_reducible refine rel_bind ?_ (fun _ => ?_) | with_reducible refine rel_ite ?_ ?_ | with_reducible refine rel_nox ?_ | with_reducible refine rel_comp (fun _ => ?_) (fun _ => ?_) _ | with_reducible refine rel_for (fun _ _ => ?_) _ _ | with_reducible refine rel_while (fun _ => ?_) (fun _ => ?_) _ | with_reducible refine rel_nxt (fun _ => ?_) | with_reducible refine rel_aft (fun _ => ?_) | with_reducible refine rel_try ?_ ?_))
theorem s_highest_lead : ∀ ds, Rel (F_highest_lead ds) (f_highest_lead ds) := fun ds => by
    match ds with
    | [v_bounds] => exact rel_bind (sm_highest_lead v_bounds) fun _ => rel_retD
    | [] => exact rel_stuck
    | _ :: _ :: _ => exact rel_stuck
theorem b_highest_lead {X : Cx} {W : WX} (g : GX X W p_highest_lead) (hr : Room 0 X.A) :
  ∃ m, Ss X W (fun c : CR.D => [.pl c, .un, .un, .un, .un]) ⟨[.un, .un, .un, .un, .un], fun _ (_ : Unit) => [.un, .un, .un, .un, .un], fun _ (e : Empty) => e.elim⟩ (defBody (top 45)) m ∧ m = fun c => m_highest_lead c :=
 ⟨_, (ss_cons (sp_lc g 1 rfl rfl (own := [("parts", 2), ("s", 3), ("t", 4)]) (vis := [2, 3, 4]) (loc := [2, 3, 4]) (gl := []) (sl := ([2] ++ ([3] ++ ([4] ++ [])))) (ei_seq (ee_var g 0 rfl rfl fun _ => rfl)) (by decide +kernel) (plainAt.cons (fun _ => slotUn rfl rfl) (plainAt.cons (fun _ => slotUn rfl rfl) (plainAt.cons (fun _ => slotUn rfl rfl) plainAt.nil))) rfl (fun _ _ _ _ _ g62 => (eg_tup g62 (egs_cons (eg_name g62 2 rfl rfl) (egs_cons (eg_name g62 3 rfl rfl) (egs_cons (eg_name g62 4 rfl rfl) egs_nil))) (gml1 (gml1 (gml1 gml0))))) (gsc_off (gsn_off 2) (gsc_off (gsn_off 3) (gsc_off (gsn_off 4) gsu_off))) (fun _ _ _ _ _ g62 => (ets_one (et_cmp ob_gt rfl (er_of (ee_var g62 3 rfl rfl fun _ => rfl)) (er_of ee_int)))) (fun _ _ _ _ _ g62 => (ee_bin od_div (er_of (ee_var g62 4 rfl rfl fun _ => rfl)) (er_of (ee_var g62 3 rfl rfl fun _ => rfl)))) (sww_of g.esc rfl))
 (ss_frz 1 (fun _ => rfl) (ss_rho (fun c => [.pl c.2, .pl (D.lst c.1), .un, .un, .un]) rfl (ss_ret (ee_if (et_cmp (ob_ne g) rfl (er_of (ee_var g 1 rfl rfl fun _ => rfl)) (er_of (el_ee (el_lst ea_nil rfl)))) (ee_min g 0 rfl (er_of (ee_var g 1 rfl rfl fun _ => rfl))) ee_non) (by ((intro _; repeat (first | exact trivial | refine And.intro rfl ?_)))))))), by kernel_rfl⟩

def p_lowest_lead : Cp := ⟨["bounds", "found", "parts", "s", "t"], defScope (top 46), [0, 1], [0, 1], [0, 1], ["max"], true⟩
def m_lowest_lead (v_bounds : CR.D) : M (O Unit Empty) :=
  M.bind (M.bind (M.bind (M.pure v_bounds) fun d => M.opt (seqD d)) fun xs => compM (gmTup (gmCons Option.some (gmCons Option.some (gmCons Option.some gmNil)))) (fun v66 => M.bind (M.pure v66.2.1) fun x => M.bind (M.pure (D.int 0)) fun y => M.opt (ltB x y)) (fun v66 => M.bind (M.bind (M.pure v66.2.2.1) fun x => M.bind (M.bind (M.pure v66.2.1) fun d => M.opt (negD d)) fun y => M.opt (divD x y)) fun d => M.opt (negD d)) xs) fun found_64 =>
  M.bind (M.bind (M.bind (M.pure (D.lst found_64)) fun x => M.bind (M.bind (M.pure []) fun xs => M.pure (D.lst xs)) fun y => M.opt (neB x y)) fun t => M.ite t (M.bind (M.pure (D.lst found_64)) fun d => M.opt (maxD d)) (M.pure D.non)) fun d => M.pure (O.rt d)
def F_lowest_lead : List CR.D → M (CR.D)
  | [v_bounds] => M.bind (m_lowest_lead v_bounds) retD
  | _ => M.stuck
def r_lowest_lead (v_bounds : CR.D) : R (O Unit Empty) :=
  R.bind (R.bind (R.bind (R.pure v_bounds) fun d => R.opt (seqD d)) fun xs => compR (gmTup (gmCons Option.some (gmCons Option.some (gmCons Option.some gmNil)))) (fun v66 => R.bind (R.pure v66.2.1) fun x => R.bind (R.pure (D.int 0)) fun y => R.opt (ltB x y)) (fun v66 => R.bind (R.bind (R.pure v66.2.2.1) fun x => R.bind (R.bind (R.pure v66.2.1) fun d => R.opt (negD d)) fun y => R.opt (divD x y)) fun d => R.opt (negD d)) xs) fun found_64 =>
  R.bind (R.bind (R.bind (R.pure (D.lst found_64)) fun x => R.bind (R.bind (R.pure []) fun xs => R.pure (D.lst xs)) fun y => R.opt (neB x y)) fun t => R.ite t (R.bind (R.pure (D.lst found_64)) fun d => R.opt (maxD d)) (R.pure D.non)) fun d => R.pure (O.rt d)
def f_lowest_lead : List CR.D → R (CR.D)
  | [v_bounds] => R.bind (r_lowest_lead v_bounds) retDR
  | _ => .stuck
theorem sm_lowest_lead (v_bounds : CR.D) : Rel (m_lowest_lead v_bounds) (r_lowest_lead v_bounds) := by
  unfold m_lowest_lead r_lowest_lead
  repeat (first | (first | with_reducible exact rel_pure | with_reducible exact rel_opt | with_reducible exact rel_guard | with_reducible exact rel_raise | with_reducible exact rel_sorted | with_reducible exact rel_retD | with_reducible exact rel_retL | with_reducible assumption | with_reducible refine rel_bind ?_ (fun _ => ?_) | with_reducible refine rel_ite ?_ ?_ | with_reducible refine rel_nox ?_ | with_reducible refine rel_comp (fun _ => ?_) (fun _ => ?_) _ | with_reducible refine rel_for (fun _ _ => ?_) _ _ | with_reducible refine rel_while (fun _ => ?_) (fun _ => ?_) _ | with_reducible refine rel_nxt (fun _ => ?_) | with_reducible refine rel_aft (fun _ => ?_) | with_reducible refine rel_try ?_ ?_))
theorem s_lowest_lead : ∀ ds, Rel (F_lowest_lead ds) (f_lowest_lead ds) := fun ds => by
    match ds with
    | [v_bounds] => exact rel_bind (sm_lowest_lead v_bounds) fun _ => rel_retD
    | [] => exact rel_stuck
    | _ :: _ :: _ => exact rel_stuck
theorem b_lowest_lead {X : Cx} {W : WX} (g : GX X W p_lowest_lead) (hr : Room 0 X.A) :
  ∃ m, Ss X W (fun c : CR.D => [.pl c, .un, .un, .un, .un]) ⟨[.un, .un, .un, .un, .un], fun _ (_ : Unit) => [.un, .un, .un, .un, .un], fun _ (e : Empty) => e.elim⟩ (defBody (top 46)) m ∧ m = fun c => m_lowest_lead c :=
 ⟨_, (ss_cons (sp_lc g 1 rfl rfl (own := [("parts", 2), ("s", 3), ("t", 4)]) (vis := [2, 3, 4]) (loc := [2, 3, 4]) (gl := []) (sl := ([2] ++ ([3] ++ ([4] ++ [])))) (ei_seq (ee_var g 0 rfl rfl fun _ => rfl)) (by decide +kernel) (plainAt.cons (fun _ => slotUn rfl rfl) (plainAt.cons (fun _ => slotUn rfl rfl) (plainAt.cons (fun _ => slotUn rfl rfl) plainAt.nil))) rfl (fun _ _ _ _ _ g65 => (eg_tup g65 (egs_cons (eg_name g65 2 rfl rfl) (egs_cons (eg_name g65 3 rfl rfl) (egs_cons (eg_name g65 4 rfl rfl) egs_nil))) (gml1 (gml1 (gml1 gml0))))) (gsc_off (gsn_off 2) (gsc_off (gsn_off 3) (gsc_off (gsn_off 4) gsu_off))) (fun _ _ _ _ _ g65 => (ets_one (et_cmp ob_lt rfl (er_of (ee_var g65 3 rfl rfl fun _ => rfl)) (er_of ee_int)))) (fun _ _ _ _ _ g65 => (ee_neg (ee_bin od_div (er_of (ee_var g65 4 rfl rfl fun _ => rfl)) (er_of (ee_neg (ee_var g65 3 rfl rfl fun _ => rfl)))))) (sww_of g.esc rfl))
 (ss_frz 1 (fun _ => rfl) (ss_rho (fun c => [.pl c.2, .pl (D.lst c.1), .un, .un, .un]) rfl (ss_ret (ee_if (et_cmp (ob_ne g) rfl (er_of (ee_var g 1 rfl rfl fun _ => rfl)) (er_of (el_ee (el_lst ea_nil rfl)))) (ee_max g 0 rfl (er_of (ee_var g 1 rfl rfl fun _ => rfl))) ee_non) (by ((intro _; repeat (first | exact trivial | refine And.intro rfl ?_)))))))), by kernel_rfl⟩

def p_has_points : Cp := ⟨["bounds", "low", "high", "parts", "s", "t"], defScope (top 47), [0, 1, 2], [0, 1, 2], [0, 1, 2], ["any", "lowest_lead", "highest_lead"], true⟩
def m_has_points (v_bounds : CR.D) : M (O Unit Empty) :=
  M.bind (M.bind (M.bind (M.bind (M.bind (M.bind (M.pure v_bounds) fun d => M.opt (seqD d)) fun xs => compM (gmTup (gmCons Option.some (gmCons Option.some (gmCons Option.some gmNil)))) (fun v68 => M.pure true) (fun v68 => M.bind (M.bind (M.pure v68.2.1) fun x => M.bind (M.pure (D.int 0)) fun y => M.bind (M.opt (eqB x y)) fun k => M.pure (D.bl k)) fun d => M.bind (M.opt (boolD d)) fun t => M.ite t (M.bind (M.pure v68.2.2.1) fun x => M.bind (M.pure (D.int 0)) fun y => M.bind (M.opt (ltB x y)) fun k => M.pure (D.bl k)) (M.pure (D.bl false))) xs) fun xs => M.pure (D.lst xs)) fun d => M.opt (anyD d)) fun d => M.opt (boolD d)) fun b => M.ite b (M.bind (M.bind (M.pure (D.bl false)) fun d => M.pure (O.rt d)) fun o => M.pure (O.out o)) (M.bind (M.bind (M.bind (M.bind (M.pure v_bounds) fun d => M.bind (M.pure []) fun ds => M.pure (d :: ds)) fun ds => F_lowest_lead ds) fun d => M.bind (M.bind (M.bind (M.bind (M.pure v_bounds) fun d => M.bind (M.pure []) fun ds => M.pure (d :: ds)) fun ds => F_highest_lead ds) fun d => M.bind (M.pure ()) fun r => M.pure (d, r)) fun r => M.pure (d, r)) fun a69 =>
  M.bind (M.bind (M.bind (M.pure a69.1) fun x => M.bind (M.pure D.non) fun y => M.bind (M.opt (isB x y)) fun k => M.pure (D.bl k)) fun d => M.bind (M.opt (boolD d)) fun t => M.ite t (M.pure (D.bl true)) (M.bind (M.bind (M.pure a69.2.1) fun x => M.bind (M.pure D.non) fun y => M.bind (M.opt (isB x y)) fun k => M.pure (D.bl k)) fun d => M.bind (M.opt (boolD d)) fun t => M.ite t (M.pure (D.bl true)) (M.bind (M.pure a69.1) fun x => M.bind (M.pure a69.2.1) fun y => M.bind (M.opt (leB x y)) fun k => M.pure (D.bl k)))) fun d => M.pure (O.rt d))
def F_has_points : List CR.D → M (CR.D)
  | [v_bounds] => M.bind (m_has_points v_bounds) retD
  | _ => M.stuck
def r_has_points (v_bounds : CR.D) : R (O Unit Empty) :=
  R.bind (R.bind (R.bind (R.bind (R.bind (R.bind (R.pure v_bounds) fun d => R.opt (seqD d)) fun xs => compR (gmTup (gmCons Option.some (gmCons Option.some (gmCons Option.some gmNil)))) (fun v68 => R.pure true) (fun v68 => R.bind (R.bind (R.pure v68.2.1) fun x => R.bind (R.pure (D.int 0)) fun y => R.bind (R.opt (eqB x y)) fun k => R.pure (D.bl k)) fun d => R.bind (R.opt (boolD d)) fun t => R.ite t (R.bind (R.pure v68.2.2.1) fun x => R.bind (R.pure (D.int 0)) fun y => R.bind (R.opt (ltB x y)) fun k => R.pure (D.bl k)) (R.pure (D.bl false))) xs) fun xs => R.pure (D.lst xs)) fun d => R.opt (anyD d)) fun d => R.opt (boolD d)) fun b => R.ite b (R.bind (R.bind (R.pure (D.bl false)) fun d => R.pure (O.rt d)) fun o => R.pure (O.out o)) (R.bind (R.bind (R.bind (R.bind (R.pure v_bounds) fun d => R.bind (R.pure []) fun ds => R.pure (d :: ds)) fun ds => f_lowest_lead ds) fun d => R.bind (R.bind (R.bind (R.bind (R.pure v_bounds) fun d => R.bind (R.pure []) fun ds => R.pure (d :: ds)) fun ds => f_highest_lead ds) fun d => R.bind (R.pure ()) fun r => R.pure (d, r)) fun r => R.pure (d, r)) fun a69 =>
  R.bind (R.bind (R.bind (R.pure a69.1) fun x => R.bind (R.pure D.non) fun y => R.bind (R.opt (isB x y)) fun k => R.pure (D.bl k)) fun d => R.bind (R.opt (boolD d)) fun t => R.ite t (R.pure (D.bl true)) (R.bind (R.bind (R.pure a69.2.1) fun x => R.bind (R.pure D.non) fun y => R.bind (R.opt (isB x y)) fun k => R.pure (D.bl k)) fun d => R.bind (R.opt (boolD d)) fun t => R.ite t (R.pure (D.bl true)) (R.bind (R.pure a69.1) fun x => R.bind (R.pure a69.2.1) fun y => R.bind (R.opt (leB x y)) fun k => R.pure (D.bl k)))) fun d => R.pure (O.rt d))
def f_has_points : List CR.D → R (CR.D)
  | [v_bounds] => R.bind (r_has_points v_bounds) retDR
  | _ => .stuck
theorem sm_has_points (v_bounds : CR.D) : Rel (m_has_points v_bounds) (r_has_points v_bounds) := by
  have h_lowest_lead := s_lowest_lead
  have h_highest_lead := s_highest_lead
  unfold m_has_points r_has_points
  repeat (first | with_reducible exact h_lowest_lead _ | with_reducible exact h_highest_lead _ | (first | with_reducible exact rel_pure | with_reducible exact rel_opt | with_reducible exact rel_guard | with_reducible exact rel_raise | with_reducible exact rel_sorted | with_reducible exact rel_retD | with_reducible exact rel_retL | with_reducible assumption | with_reducible refine rel_bind ?_ (fun _ => ?_) | with_reducible refine rel_ite ?_ ?_ | with_reducible refine rel_nox ?_ | with_reducible refine rel_comp (fun _ => ?_) (fun _ => ?_) _ | with_reducible refine rel_for (fun _ _ => ?_) _ _ | with_reducible refine rel_while (fun _ => ?_) (fun _ => ?_) _ | with_reducible refine rel_nxt (fun _ => ?_) | with_reducible refine rel_aft (fun _ => ?_) | with_reducible refine rel_try ?_ ?_))
theorem s_has_points : ∀ ds, Rel (F_has_points ds) (f_has_points ds) := fun ds => by
    match ds with
    | [v_bounds] => exact rel_bind (sm_has_points v_bounds) fun _ => rel_retD
    | [] => exact rel_stuck
    | _ :: _ :: _ => exact rel_stuck
theorem b_has_points {X : Cx} {W : WX} (g : GX X W p_has_points) (hr : Room 1 X.A) (cf_lowest_lead : CallF X.prog X.w X.K X.mg X.base "lowest_lead" 1 (SpD X.K X.mg 1 F_lowest_lead)) (cf_highest_lead : CallF X.prog X.w X.K X.mg X.base "highest_lead" 1 (SpD X.K X.mg 1 F_highest_lead)) :
  ∃ m, Ss X W (fun c : CR.D => [.pl c, .un, .un, .un, .un, .un]) ⟨[.un, .un, .un, .un, .un, .un], fun _ (_ : Unit) => [.un, .un, .un, .un, .un, .un], fun _ (e : Empty) => e.elim⟩ (defBody (top 47)) m ∧ m = fun c => m_has_points c :=
 ⟨_, (ss_ifx (et_val (ee_any g 0 rfl (er_of (el_ee (el_comp g (own := [("parts", 3), ("s", 4), ("t", 5)]) (vis := [3, 4, 5]) (loc := [3, 4, 5]) (gl := []) (sl := ([3] ++ ([4] ++ ([5] ++ [])))) (ei_seq (ee_var g 0 rfl rfl fun _ => rfl)) (by decide +kernel) (plainAt.cons (fun _ => slotUn rfl rfl) (plainAt.cons (fun _ => slotUn rfl rfl) (plainAt.cons (fun _ => slotUn rfl rfl) plainAt.nil))) rfl (fun _ _ _ _ _ g67 => (eg_tup g67 (egs_cons (eg_name g67 3 rfl rfl) (egs_cons (eg_name g67 4 rfl rfl) (egs_cons (eg_name g67 5 rfl rfl) egs_nil))) (gml1 (gml1 (gml1 gml0))))) (gsc_off (gsn_off 3) (gsc_off (gsn_off 4) (gsc_off (gsn_off 5) gsu_off))) (fun _ _ _ _ _ g67 => ets_nil) (fun _ _ _ _ _ g67 => (ee_and (ee_cmp (ob_eq g67) rfl (er_of (ee_var g67 4 rfl rfl fun _ => rfl)) (er_of ee_int)) (ee_one (ee_cmp ob_lt rfl (er_of (ee_var g67 5 rfl rfl fun _ => rfl)) (er_of ee_int)))))))))) (ss_ret ee_bl (by ((intro _; repeat (first | exact trivial | refine And.intro rfl ?_)))))
 (ss_cons (sp_par g 1 2 (by decide) rfl rfl rfl rfl (ex_dat (ee_call g 1 cf_lowest_lead hr rfl rfl (ea_cons (ee_var g 0 rfl rfl fun _ => rfl) ea_nil) rfl) (ex_dat (ee_call g 2 cf_highest_lead hr rfl rfl (ea_cons (ee_var g 0 rfl rfl fun _ => rfl) ea_nil) rfl) ex_nil)) (sw_of g.esc rfl))
 (ss_rho (fun c => [.pl c.2, .pl c.1.1, .pl c.1.2.1, .un, .un, .un]) rfl (ss_ret (ee_or (ee_cmp ob_is rfl (er_of (ee_var g 1 rfl rfl fun _ => rfl)) (er_of ee_non)) (ee_or (ee_cmp ob_is rfl (er_of (ee_var g 2 rfl rfl fun _ => rfl)) (er_of ee_non)) (ee_one (ee_cmp ob_le rfl (er_of (ee_var g 1 rfl rfl fun _ => rfl)) (er_of (ee_var g 2 rfl rfl fun _ => rfl)))))) (by ((intro _; repeat (first | exact trivial | refine And.intro rfl ?_)))))))), by kernel_rfl⟩

def p_top_at : Cp := ⟨["some", "lead", "at", "a", "c"], defScope (top 48), [0, 1], [0, 1], [0], ["min"], true⟩
def m_top_at (v_some : CR.D) (v_lead : CR.D) : M (O Unit Empty) :=
  M.bind (M.bind (M.bind (M.bind (M.bind (M.pure v_some) fun d => M.opt (seqD d)) fun xs => compM (gmTup (gmCons Option.some (gmCons Option.some (gmCons Option.some gmNil)))) (fun v71 => M.pure true) (fun v71 => M.bind (M.pure v71.2.2.1) fun x => M.bind (M.bind (M.pure v71.2.1) fun x => M.bind (M.pure v_lead) fun y => M.opt (mulD x y)) fun y => M.opt (subD x y)) xs) fun xs => M.pure (D.lst xs)) fun d => M.opt (minD d)) fun d => M.pure (O.rt d)
def F_top_at : List CR.D → M (CR.D)
  | [v_some, v_lead] => M.bind (m_top_at v_some v_lead) retD
  | _ => M.stuck
def r_top_at (v_some : CR.D) (v_lead : CR.D) : R (O Unit Empty) :=
  R.bind (R.bind (R.bind (R.bind (R.bind (R.pure v_some) fun d => R.opt (seqD d)) fun xs => compR (gmTup (gmCons Option.some (gmCons Option.some (gmCons Option.some gmNil)))) (fun v71 => R.pure true) (fun v71 => R.bind (R.pure v71.2.2.1) fun x => R.bind (R.bind (R.pure v71.2.1) fun x => R.bind (R.pure v_lead) fun y => R.opt (mulD x y)) fun y => R.opt (subD x y)) xs) fun xs => R.pure (D.lst xs)) fun d => R.opt (minD d)) fun d => R.pure (O.rt d)
def f_top_at : List CR.D → R (CR.D)
  | [v_some, v_lead] => R.bind (r_top_at v_some v_lead) retDR
  | _ => .stuck
theorem sm_top_at (v_some : CR.D) (v_lead : CR.D) : Rel (m_top_at v_some v_lead) (r_top_at v_some v_lead) := by
  unfold m_top_at r_top_at
  repeat (first | (first | with_reducible exact rel_pure | with_reducible exact rel_opt | with_reducible exact rel_guard | with_reducible exact rel_raise | with_reducible exact rel_sorted | with_reducible exact rel_retD | with_reducible exact rel_retL | with_reducible assumption | with_reducible refine rel_bind ?_ (fun _ => ?_) | with_reducible refine rel_ite ?_ ?_ | with_reducible refine rel_nox ?_ | with_reducible refine rel_comp (fun _ => ?_) (fun _ => ?_) _ | with_reducible refine rel_for (fun _ _ => ?_) _ _ | with_reducible refine rel_while (fun _ => ?_) (fun _ => ?_) _ | with_reducible refine rel_nxt (fun _ => ?_) | with_reducible refine rel_aft (fun _ => ?_) | with_reducible refine rel_try ?_ ?_))
theorem s_top_at : ∀ ds, Rel (F_top_at ds) (f_top_at ds) := fun ds => by
    match ds with
    | [v_some, v_lead] => exact rel_bind (sm_top_at v_some v_lead) fun _ => rel_retD
    | [] => exact rel_stuck
    | [_] => exact rel_stuck
    | _ :: _ :: _ :: _ => exact rel_stuck
theorem b_top_at {X : Cx} {W : WX} (g : GX X W p_top_at) (hr : Room 0 X.A) :
  ∃ m, Ss X W (fun c : CR.D × CR.D => [.pl c.1, .pl c.2, .un, .un, .un]) ⟨[.un, .un, .un, .un, .un], fun _ (_ : Unit) => [.un, .un, .un, .un, .un], fun _ (e : Empty) => e.elim⟩ (defBody (top 48)) m ∧ m = fun c => m_top_at c.1 c.2 :=
 ⟨_, (ss_ret (ee_min g 0 rfl (er_of (el_ee (el_comp g (own := [("at", 2), ("a", 3), ("c", 4)]) (vis := [1, 2, 3, 4]) (loc := [2, 3, 4]) (gl := []) (sl := ([2] ++ ([3] ++ ([4] ++ [])))) (ei_seq (ee_var g 0 rfl rfl fun _ => rfl)) (by decide +kernel) (plainAt.cons (fun _ => slotUn rfl rfl) (plainAt.cons (fun _ => slotUn rfl rfl) (plainAt.cons (fun _ => slotUn rfl rfl) plainAt.nil))) rfl (fun _ _ _ _ _ g70 => (eg_tup g70 (egs_cons (eg_name g70 2 rfl rfl) (egs_cons (eg_name g70 3 rfl rfl) (egs_cons (eg_name g70 4 rfl rfl) egs_nil))) (gml1 (gml1 (gml1 gml0))))) (gsc_off (gsn_off 2) (gsc_off (gsn_off 3) (gsc_off (gsn_off 4) gsu_off))) (fun _ _ _ _ _ g70 => ets_nil) (fun _ _ _ _ _ g70 => (ee_bin od_sub (er_of (ee_var g70 4 rfl rfl fun _ => rfl)) (er_of (ee_bin od_mul (er_of (ee_var g70 3 rfl rfl fun _ => rfl)) (er_of (ee_var g70 1 rfl rfl fun _ => rfl)))))))))) (by ((intro _; repeat (first | exact trivial | refine And.intro rfl ?_))))), by kernel_rfl⟩

def p_leads_of : Cp := ⟨["bounds", "low", "high"], defScope (top 49), [0, 1, 2], [0, 1, 2], [0, 1, 2], ["lowest_lead", "highest_lead", "list", "range", "FAR"], true⟩
def m_leads_of (v_bounds : CR.D) : M (O Unit Empty) :=
  M.bind (M.bind (M.bind (M.bind (M.pure v_bounds) fun d => M.bind (M.pure []) fun ds => M.pure (d :: ds)) fun ds => F_lowest_lead ds) fun d => M.bind (M.bind (M.bind (M.bind (M.pure v_bounds) fun d => M.bind (M.pure []) fun ds => M.pure (d :: ds)) fun ds => F_highest_lead ds) fun d => M.bind (M.pure ()) fun r => M.pure (d, r)) fun r => M.pure (d, r)) fun a72 =>
  M.bind (M.bind (M.bind (M.bind (M.pure a72.1) fun x => M.bind (M.pure D.non) fun y => M.opt (isB x y)) fun t => M.ite t (M.bind (M.pure (D.int 60)) fun d => M.opt (negD d)) (M.pure a72.1)) fun d => M.bind (M.bind (M.bind (M.bind (M.pure a72.2.1) fun x => M.bind (M.pure D.non) fun y => M.opt (isB x y)) fun t => M.ite t (M.pure (D.int 60)) (M.pure a72.2.1)) fun x => M.bind (M.pure (D.int 1)) fun y => M.opt (addD x y)) fun e => M.opt (rngM d e)) fun d => M.pure (O.rl d)
def F_leads_of : List CR.D → M (List CR.D)
  | [v_bounds] => M.bind (m_leads_of v_bounds) retL
  | _ => M.stuck
def r_leads_of (v_bounds : CR.D) : R (O Unit Empty) :=
  R.bind (R.bind (R.bind (R.bind (R.pure v_bounds) fun d => R.bind (R.pure []) fun ds => R.pure (d :: ds)) fun ds => f_lowest_lead ds) fun d => R.bind (R.bind (R.bind (R.bind (R.pure v_bounds) fun d => R.bind (R.pure []) fun ds => R.pure (d :: ds)) fun ds => f_highest_lead ds) fun d => R.bind (R.pure ()) fun r => R.pure (d, r)) fun r => R.pure (d, r)) fun a72 =>
  R.bind (R.bind (R.bind (R.bind (R.pure a72.1) fun x => R.bind (R.pure D.non) fun y => R.opt (isB x y)) fun t => R.ite t (R.bind (R.pure (D.int 60)) fun d => R.opt (negD d)) (R.pure a72.1)) fun d => R.bind (R.bind (R.bind (R.bind (R.pure a72.2.1) fun x => R.bind (R.pure D.non) fun y => R.opt (isB x y)) fun t => R.ite t (R.pure (D.int 60)) (R.pure a72.2.1)) fun x => R.bind (R.pure (D.int 1)) fun y => R.opt (addD x y)) fun e => R.opt (rngM d e)) fun d => R.pure (O.rl d)
def f_leads_of : List CR.D → R (List CR.D)
  | [v_bounds] => R.bind (r_leads_of v_bounds) retLR
  | _ => .stuck
theorem sm_leads_of (v_bounds : CR.D) : Rel (m_leads_of v_bounds) (r_leads_of v_bounds) := by
  have h_lowest_lead := s_lowest_lead
  have h_highest_lead := s_highest_lead
  unfold m_leads_of r_leads_of
  repeat (first | with_reducible exact h_lowest_lead _ | with_reducible exact h_highest_lead _ | (first | with_reducible exact rel_pure | with_reducible exact rel_opt | with_reducible exact rel_guard | with_reducible exact rel_raise | with_reducible exact rel_sorted | with_reducible exact rel_retD | with_reducible exact rel_retL | with_reducible assumption | with_reducible refine rel_bind ?_ (fun _ => ?_) | with_reducible refine rel_ite ?_ ?_ | with_reducible refine rel_nox ?_ | with_reducible refine rel_comp (fun _ => ?_) (fun _ => ?_) _ | with_reducible refine rel_for (fun _ _ => ?_) _ _ | with_reducible refine rel_while (fun _ => ?_) (fun _ => ?_) _ | with_reducible refine rel_nxt (fun _ => ?_) | with_reducible refine rel_aft (fun _ => ?_) | with_reducible refine rel_try ?_ ?_))
theorem s_leads_of : ∀ ds, Rel (F_leads_of ds) (f_leads_of ds) := fun ds => by
    match ds with
    | [v_bounds] => exact rel_bind (sm_leads_of v_bounds) fun _ => rel_retL
    | [] => exact rel_stuck
    | _ :: _ :: _ => exact rel_stuck
theorem b_leads_of {X : Cx} {W : WX} (g : GX X W p_leads_of) (hr : Room 1 X.A) (cf_lowest_lead : CallF X.prog X.w X.K X.mg X.base "lowest_lead" 1 (SpD X.K X.mg 1 F_lowest_lead)) (cf_highest_lead : CallF X.prog X.w X.K X.mg X.base "highest_lead" 1 (SpD X.K X.mg 1 F_highest_lead)) (gl_FAR : GlobD X "FAR" (D.int 60)) :
  ∃ m, Ss X W (fun c : CR.D => [.pl c, .un, .un]) ⟨[.un, .un, .un], fun _ (_ : Unit) => [.un, .un, .un], fun _ (e : Empty) => e.elim⟩ (defBody (top 49)) m ∧ m = fun c => m_leads_of c :=
 ⟨_, (ss_cons (sp_par g 1 2 (by decide) rfl rfl rfl rfl (ex_dat (ee_call g 0 cf_lowest_lead hr rfl rfl (ea_cons (ee_var g 0 rfl rfl fun _ => rfl) ea_nil) rfl) (ex_dat (ee_call g 1 cf_highest_lead hr rfl rfl (ea_cons (ee_var g 0 rfl rfl fun _ => rfl) ea_nil) rfl) ex_nil)) (sw_of g.esc rfl))
 (ss_rho (fun c => [.pl c.2, .pl c.1.1, .pl c.1.2.1]) rfl (ss_ret1 (el_range2 g 2 3 rfl rfl (ee_if (et_cmp ob_is rfl (er_of (ee_var g 1 rfl rfl fun _ => rfl)) (er_of ee_non)) (ee_neg (ee_glob g 4 rfl gl_FAR)) (ee_var g 1 rfl rfl fun _ => rfl)) (ee_bin od_add (er_of (ee_if (et_cmp ob_is rfl (er_of (ee_var g 2 rfl rfl fun _ => rfl)) (er_of ee_non)) (ee_glob g 4 rfl gl_FAR) (ee_var g 2 rfl rfl fun _ => rfl))) (er_of ee_int))) (by ((intro _; repeat (first | exact trivial | refine And.intro rfl ?_))))))), by kernel_rfl⟩

def p_tops_that_turn : Cp := ⟨["some", "bounds", "low", "high", "found", "lead", "top"], defScope (top 50), [0, 1, 2, 3, 4, 5, 6], [0, 1, 2, 3, 4, 5, 6], [0, 1, 2, 3, 4, 5, 6], ["lowest_lead", "highest_lead", "leads_of", "top_at"], true⟩
def m_tops_that_turn (v_some : CR.D) (v_bounds : CR.D) : M (O Unit Empty) :=
  M.bind (M.bind (M.bind (M.bind (M.pure v_bounds) fun d => M.bind (M.pure []) fun ds => M.pure (d :: ds)) fun ds => F_lowest_lead ds) fun d => M.bind (M.bind (M.bind (M.bind (M.pure v_bounds) fun d => M.bind (M.pure []) fun ds => M.pure (d :: ds)) fun ds => F_highest_lead ds) fun d => M.bind (M.bind (M.pure []) fun d => M.bind (M.pure ()) fun r => M.pure (d, r)) fun r => M.pure (d, r)) fun r => M.pure (d, r)) fun a73 =>
  M.bind (M.bind (M.bind (M.bind (M.bind (M.pure v_some) fun x => M.bind (M.bind (M.pure []) fun xs => M.pure (D.lst xs)) fun y => M.opt (neB x y)) fun t => M.ite t (M.bind (M.bind (M.pure v_bounds) fun d => M.bind (M.pure []) fun ds => M.pure (d :: ds)) fun ds => F_leads_of ds) (M.pure [])) fun xs => M.pure (D.lst xs)) fun d => M.opt (seqD d)) fun xs => M.bind (forM Option.some (fun v75 a74 => M.bind (M.bind (M.bind (M.pure v_some) fun d => M.bind (M.bind (M.pure v75) fun d => M.bind (M.pure []) fun ds => M.pure (d :: ds)) fun ds => M.pure (d :: ds)) fun ds => F_top_at ds) fun top_76 =>
  M.bind (M.bind (M.bind (M.pure v75) fun x => M.bind (M.bind (M.bind (M.pure a73.1) fun d => M.bind (M.bind (M.pure a73.2.1) fun d => M.bind (M.pure []) fun ds => M.pure (d :: ds)) fun ds => M.pure (d :: ds)) fun ds => M.pure (D.tup ds)) fun y => M.opt (inD x y)) fun t => M.ite t (M.pure true) (M.bind (M.bind (M.pure top_76) fun x => M.bind (M.bind (M.bind (M.pure v_some) fun d => M.bind (M.bind (M.bind (M.pure v75) fun x => M.bind (M.pure (D.int 1)) fun y => M.opt (subD x y)) fun d => M.bind (M.pure []) fun ds => M.pure (d :: ds)) fun ds => M.pure (d :: ds)) fun ds => F_top_at ds) fun y => M.opt (subD x y)) fun x => M.bind (M.bind (M.bind (M.bind (M.pure v_some) fun d => M.bind (M.bind (M.bind (M.pure v75) fun x => M.bind (M.pure (D.int 1)) fun y => M.opt (addD x y)) fun d => M.bind (M.pure []) fun ds => M.pure (d :: ds)) fun ds => M.pure (d :: ds)) fun ds => F_top_at ds) fun x => M.bind (M.pure top_76) fun y => M.opt (subD x y)) fun y => M.opt (gtB x y))) fun b => M.ite b (M.bind (M.bind (M.bind (M.bind (M.pure v75) fun d => M.bind (M.bind (M.pure top_76) fun d => M.bind (M.pure []) fun ds => M.pure (d :: ds)) fun ds => M.pure (d :: ds)) fun ds => M.pure (D.tup ds)) fun d => M.bind (M.guard (lenB a74)) fun _ => M.pure d) fun e77 =>
  M.pure (O.nx (a74 ++ [e77]))) (M.pure (O.nx a74))) xs a73.2.2.1) fun o => O.aft o fun a78 =>
  M.pure (O.rl a78)
def F_tops_that_turn : List CR.D → M (List CR.D)
  | [v_some, v_bounds] => M.bind (m_tops_that_turn v_some v_bounds) retL
  | _ => M.stuck
def r_tops_that_turn (v_some : CR.D) (v_bounds : CR.D) : R (O Unit Empty) :=
  R.bind (R.bind (R.bind (R.bind (R.pure v_bounds) fun d => R.bind (R.pure []) fun ds => R.pure (d :: ds)) fun ds => f_lowest_lead ds) fun d => R.bind (R.bind (R.bind (R.bind (R.pure v_bounds) fun d => R.bind (R.pure []) fun ds => R.pure (d :: ds)) fun ds => f_highest_lead ds) fun d => R.bind (R.bind (R.pure []) fun d => R.bind (R.pure ()) fun r => R.pure (d, r)) fun r => R.pure (d, r)) fun r => R.pure (d, r)) fun a73 =>
  R.bind (R.bind (R.bind (R.bind (R.bind (R.pure v_some) fun x => R.bind (R.bind (R.pure []) fun xs => R.pure (D.lst xs)) fun y => R.opt (neB x y)) fun t => R.ite t (R.bind (R.bind (R.pure v_bounds) fun d => R.bind (R.pure []) fun ds => R.pure (d :: ds)) fun ds => f_leads_of ds) (R.pure [])) fun xs => R.pure (D.lst xs)) fun d => R.opt (seqD d)) fun xs => R.bind (forR Option.some (fun v75 a74 => R.bind (R.bind (R.bind (R.pure v_some) fun d => R.bind (R.bind (R.pure v75) fun d => R.bind (R.pure []) fun ds => R.pure (d :: ds)) fun ds => R.pure (d :: ds)) fun ds => f_top_at ds) fun top_76 =>
  R.bind (R.bind (R.bind (R.pure v75) fun x => R.bind (R.bind (R.bind (R.pure a73.1) fun d => R.bind (R.bind (R.pure a73.2.1) fun d => R.bind (R.pure []) fun ds => R.pure (d :: ds)) fun ds => R.pure (d :: ds)) fun ds => R.pure (D.tup ds)) fun y => R.opt (inD x y)) fun t => R.ite t (R.pure true) (R.bind (R.bind (R.pure top_76) fun x => R.bind (R.bind (R.bind (R.pure v_some) fun d => R.bind (R.bind (R.bind (R.pure v75) fun x => R.bind (R.pure (D.int 1)) fun y => R.opt (subD x y)) fun d => R.bind (R.pure []) fun ds => R.pure (d :: ds)) fun ds => R.pure (d :: ds)) fun ds => f_top_at ds) fun y => R.opt (subD x y)) fun x => R.bind (R.bind (R.bind (R.bind (R.pure v_some) fun d => R.bind (R.bind (R.bind (R.pure v75) fun x => R.bind (R.pure (D.int 1)) fun y => R.opt (addD x y)) fun d => R.bind (R.pure []) fun ds => R.pure (d :: ds)) fun ds => R.pure (d :: ds)) fun ds => f_top_at ds) fun x => R.bind (R.pure top_76) fun y => R.opt (subD x y)) fun y => R.opt (gtB x y))) fun b => R.ite b (R.bind (R.bind (R.bind (R.bind (R.pure v75) fun d => R.bind (R.bind (R.pure top_76) fun d => R.bind (R.pure []) fun ds => R.pure (d :: ds)) fun ds => R.pure (d :: ds)) fun ds => R.pure (D.tup ds)) fun d => R.bind (R.guard (lenB a74)) fun _ => R.pure d) fun e77 =>
  R.pure (O.nx (a74 ++ [e77]))) (R.pure (O.nx a74))) xs a73.2.2.1) fun o => O.aftR o fun a78 =>
  R.pure (O.rl a78)
def f_tops_that_turn : List CR.D → R (List CR.D)
  | [v_some, v_bounds] => R.bind (r_tops_that_turn v_some v_bounds) retLR
  | _ => .stuck
theorem sm_tops_that_turn (v_some : CR.D) (v_bounds : CR.D) : Rel (m_tops_that_turn v_some v_bounds) (r_tops_that_turn v_some v_bounds) := by
  have h_lowest_lead := s_lowest_lead
  have h_highest_lead := s_highest_lead
  have h_leads_of := s_leads_of
  have h_top_at := s_top_at
  unfold m_tops_that_turn r_tops_that_turn
  repeat (first | with_reducible exact h_lowest_lead _ | with_reducible exact h_highest_lead _ | with_reducible exact h_leads_of _ | with_reducible exact h_top_at _ | (first | with_reducible exact rel_pure | with_reducible exact rel_opt | with_reducible exact rel_guard | with_reducible exact rel_raise | with_reducible exact rel_sorted | with_reducible exact rel_retD | with_reducible exact rel_retL | with_reducible assumption | with_reducible refine rel_bind ?_ (fun _ => ?_) | with_reducible refine rel_ite ?_ ?_ | with_reducible refine rel_nox ?_ | with_reducible refine rel_comp (fun _ => ?_) (fun _ => ?_) _ | with_reducible refine rel_for (fun _ _ => ?_) _ _ | with_reducible refine rel_while (fun _ => ?_) (fun _ => ?_) _ | with_reducible refine rel_nxt (fun _ => ?_) | with_reducible refine rel_aft (fun _ => ?_) | with_reducible refine rel_try ?_ ?_))
theorem s_tops_that_turn : ∀ ds, Rel (F_tops_that_turn ds) (f_tops_that_turn ds) := fun ds => by
    match ds with
    | [v_some, v_bounds] => exact rel_bind (sm_tops_that_turn v_some v_bounds) fun _ => rel_retL
    | [] => exact rel_stuck
    | [_] => exact rel_stuck
    | _ :: _ :: _ :: _ => exact rel_stuck
theorem b_tops_that_turn {X : Cx} {W : WX} (g : GX X W p_tops_that_turn) (hr : Room 2 X.A) (cf_lowest_lead : CallF X.prog X.w X.K X.mg X.base "lowest_lead" 1 (SpD X.K X.mg 1 F_lowest_lead)) (cf_highest_lead : CallF X.prog X.w X.K X.mg X.base "highest_lead" 1 (SpD X.K X.mg 1 F_highest_lead)) (cf_leads_of : CallF X.prog X.w X.K X.mg X.base "leads_of" 2 (SpL X.K X.mg 1 F_leads_of)) (cf_top_at : CallF X.prog X.w X.K X.mg X.base "top_at" 1 (SpD X.K X.mg 2 F_top_at)) :
  ∃ m, Ss X W (fun c : CR.D × CR.D => [.pl c.1, .pl c.2, .un, .un, .un, .un, .un]) ⟨[.un, .un, .un, .un, .un, .un, .un], fun _ (_ : Unit) => [.un, .un, .un, .un, .un, .un, .un], fun _ (e : Empty) => e.elim⟩ (defBody (top 50)) m ∧ m = fun c => m_tops_that_turn c.1 c.2 :=
 ⟨_, (ss_cons (sp_par3 g 2 3 4 (by decide) (by decide) (by decide) rfl rfl rfl rfl rfl rfl (ex_dat (ee_call g 0 cf_lowest_lead hr rfl rfl (ea_cons (ee_var g 1 rfl rfl fun _ => rfl) ea_nil) rfl) (ex_dat (ee_call g 1 cf_highest_lead hr rfl rfl (ea_cons (ee_var g 1 rfl rfl fun _ => rfl) ea_nil) rfl) (ex_lst (el_lst ea_nil rfl) ex_nil))) (sw_of g.esc rfl))
 (ss_rho (fun c => [.pl c.2.1, .pl c.2.2, .pl c.1.1, .pl c.1.2.1, .ow c.1.2.2.1, .un, .un]) rfl (ss_fou g (fun (a : List CR.D) l => (l.set 4 (.ow a))) (fun c => c.1.2.2.1) (by ((intro _; repeat (first | exact trivial | refine And.intro rfl ?_)))) (ei_seq (el_ee (el_if (et_cmp (ob_ne g) rfl (er_of (ee_var g 0 rfl rfl fun _ => rfl)) (er_of (el_ee (el_lst ea_nil rfl)))) (el_call g 2 cf_leads_of hr rfl rfl (ea_cons (ee_var g 1 rfl rfl fun _ => rfl) ea_nil) rfl) (el_lst ea_nil rfl)))) (eg_name g 5 rfl rfl) (ss_rho (fun c => [.pl c.2.2.2.1, .pl c.2.2.2.2, .pl c.2.2.1.1, .pl c.2.2.1.2.1, .ow c.2.1, .pl c.1, .un]) rfl (ss_cons (sp_set g 6 rfl rfl (ee_call g 3 cf_top_at hr rfl rfl (ea_cons (ee_var g 0 rfl rfl fun _ => rfl) (ea_cons (ee_var g 5 rfl rfl fun _ => rfl) ea_nil)) rfl))
 (ss_rho (fun c => [.pl c.2.2.2.2.1, .pl c.2.2.2.2.2, .pl c.2.2.2.1.1, .pl c.2.2.2.1.2.1, .ow c.2.2.1, .pl c.2.1, .pl c.1]) rfl (ss_ife (et_w (ew_or (et_cmp (ob_in g) rfl (er_of (ee_var g 5 rfl rfl fun _ => rfl)) (er_of (ee_tup (ea_cons (ee_var g 2 rfl rfl fun _ => rfl) (ea_cons (ee_var g 3 rfl rfl fun _ => rfl) ea_nil)) rfl))) (ew_or1 (et_cmp ob_gt rfl (er_of (ee_bin od_sub (er_of (ee_var g 6 rfl rfl fun _ => rfl)) (er_of (ee_call g 3 cf_top_at hr rfl rfl (ea_cons (ee_var g 0 rfl rfl fun _ => rfl) (ea_cons (ee_bin od_sub (er_of (ee_var g 5 rfl rfl fun _ => rfl)) (er_of ee_int)) ea_nil)) rfl)))) (er_of (ee_bin od_sub (er_of (ee_call g 3 cf_top_at hr rfl rfl (ea_cons (ee_var g 0 rfl rfl fun _ => rfl) (ea_cons (ee_bin od_add (er_of (ee_var g 5 rfl rfl fun _ => rfl)) (er_of ee_int)) ea_nil)) rfl)) (er_of (ee_var g 6 rfl rfl fun _ => rfl)))))))) (ss_cons (sp_app g 4 rfl rfl (fun _ => rfl) (ee_tup (ea_cons (ee_var g 5 rfl rfl fun _ => rfl) (ea_cons (ee_var g 6 rfl rfl fun _ => rfl) ea_nil)) rfl))
 (ss_end (fun c => (c.2.2.2.1 ++ [c.1])) (by ((intro _; repeat (first | exact trivial | refine And.intro rfl ?_))))))
 (ss_end (fun c => c.2.2.1) (by ((intro _; repeat (first | exact trivial | refine And.intro rfl ?_)))))))))
 (ss_rho (fun c => [.pl c.2.2.1, .pl c.2.2.2, .pl c.2.1.1, .pl c.2.1.2.1, .ow c.1, .un, .un]) rfl (ss_retO g 4 rfl rfl (fun _ => rfl) (by ((intro _; repeat (first | exact trivial | refine And.intro rfl ?_))))))))), by kernel_rfl⟩

def p_worths_of : Cp := ⟨["some", "row", "leads", "lead"], defScope (top 51), [0, 1, 2], [0, 1, 2], [2], [], true⟩
def m_worths_of (v_some : CR.D) (v_row : CR.D) (v_leads : CR.D) : M (O Unit Empty) :=
  M.bind (M.bind (M.bind (M.pure v_leads) fun d => M.opt (seqD d)) fun xs => compM Option.some (fun v80 => M.pure true) (fun v80 => M.bind (M.bind (M.bind (M.pure v_row) fun x => M.bind (M.pure (D.int 0)) fun y => M.opt (getD x y)) fun x => M.bind (M.pure v80) fun y => M.opt (mulD x y)) fun x => M.bind (M.bind (M.bind (M.bind (M.pure v_row) fun x => M.bind (M.pure (D.int 1)) fun y => M.opt (getD x y)) fun x => M.bind (M.pure (D.int 0)) fun y => M.opt (gtB x y)) fun t => M.ite t (M.bind (M.bind (M.pure v_row) fun x => M.bind (M.pure (D.int 1)) fun y => M.opt (getD x y)) fun x => M.bind (M.bind (M.bind (M.pure v_some) fun d => M.bind (M.bind (M.pure v80) fun d => M.bind (M.pure []) fun ds => M.pure (d :: ds)) fun ds => M.pure (d :: ds)) fun ds => F_top_at ds) fun y => M.opt (mulD x y)) (M.pure (D.int 0))) fun y => M.opt (addD x y)) xs) fun d => M.pure (O.rl d)
def F_worths_of : List CR.D → M (List CR.D)
  | [v_some, v_row, v_leads] => M.bind (m_worths_of v_some v_row v_leads) retL
  | _ => M.stuck
def r_worths_of (v_some : CR.D) (v_row : CR.D) (v_leads : CR.D) : R (O Unit Empty) :=
  R.bind (R.bind (R.bind (R.pure v_leads) fun d => R.opt (seqD d)) fun xs => compR Option.some (fun v80 => R.pure true) (fun v80 => R.bind (R.bind (R.bind (R.pure v_row) fun x => R.bind (R.pure (D.int 0)) fun y => R.opt (getD x y)) fun x => R.bind (R.pure v80) fun y => R.opt (mulD x y)) fun x => R.bind (R.bind (R.bind (R.bind (R.pure v_row) fun x => R.bind (R.pure (D.int 1)) fun y => R.opt (getD x y)) fun x => R.bind (R.pure (D.int 0)) fun y => R.opt (gtB x y)) fun t => R.ite t (R.bind (R.bind (R.pure v_row) fun x => R.bind (R.pure (D.int 1)) fun y => R.opt (getD x y)) fun x => R.bind (R.bind (R.bind (R.pure v_some) fun d => R.bind (R.bind (R.pure v80) fun d => R.bind (R.pure []) fun ds => R.pure (d :: ds)) fun ds => R.pure (d :: ds)) fun ds => f_top_at ds) fun y => R.opt (mulD x y)) (R.pure (D.int 0))) fun y => R.opt (addD x y)) xs) fun d => R.pure (O.rl d)
def f_worths_of : List CR.D → R (List CR.D)
  | [v_some, v_row, v_leads] => R.bind (r_worths_of v_some v_row v_leads) retLR
  | _ => .stuck
theorem sm_worths_of (v_some : CR.D) (v_row : CR.D) (v_leads : CR.D) : Rel (m_worths_of v_some v_row v_leads) (r_worths_of v_some v_row v_leads) := by
  have h_top_at := s_top_at
  unfold m_worths_of r_worths_of
  repeat (first | with_reducible exact h_top_at _ | (first | with_reducible exact rel_pure | with_reducible exact rel_opt | with_reducible exact rel_guard | with_reducible exact rel_raise | with_reducible exact rel_sorted | with_reducible exact rel_retD | with_reducible exact rel_retL | with_reducible assumption | with_reducible refine rel_bind ?_ (fun _ => ?_) | with_reducible refine rel_ite ?_ ?_ | with_reducible refine rel_nox ?_ | with_reducible refine rel_comp (fun _ => ?_) (fun _ => ?_) _ | with_reducible refine rel_for (fun _ _ => ?_) _ _ | with_reducible refine rel_while (fun _ => ?_) (fun _ => ?_) _ | with_reducible refine rel_nxt (fun _ => ?_) | with_reducible refine rel_aft (fun _ => ?_) | with_reducible refine rel_try ?_ ?_))
theorem s_worths_of : ∀ ds, Rel (F_worths_of ds) (f_worths_of ds) := fun ds => by
    match ds with
    | [v_some, v_row, v_leads] => exact rel_bind (sm_worths_of v_some v_row v_leads) fun _ => rel_retL
    | [] => exact rel_stuck
    | [_] => exact rel_stuck
    | [_, _] => exact rel_stuck
    | _ :: _ :: _ :: _ :: _ => exact rel_stuck
theorem b_worths_of {X : Cx} {W : WX} (g : GX X W p_worths_of) (hr : Room 1 X.A) (cf_top_at : CallF X.prog X.w X.K X.mg X.base "top_at" 1 (SpD X.K X.mg 2 F_top_at)) :
  ∃ m, Ss X W (fun c : CR.D × CR.D × CR.D => [.pl c.1, .pl c.2.1, .pl c.2.2, .un]) ⟨[.un, .un, .un, .un], fun _ (_ : Unit) => [.un, .un, .un, .un], fun _ (e : Empty) => e.elim⟩ (defBody (top 51)) m ∧ m = fun c => m_worths_of c.1 c.2.1 c.2.2 :=
 ⟨_, (ss_ret1 (el_comp g (own := [("lead", 3)]) (vis := [0, 1, 3]) (loc := [3]) (gl := ["top_at"]) (sl := [3]) (ei_seq (ee_var g 2 rfl rfl fun _ => rfl)) (by decide +kernel) (plainAt.cons (fun _ => slotUn rfl rfl) plainAt.nil) rfl (fun _ _ _ _ _ g79 => (eg_name g79 3 rfl rfl)) (gsn_off 3) (fun _ _ _ _ _ g79 => ets_nil) (fun _ _ _ _ _ g79 => (ee_bin od_add (er_of (ee_bin od_mul (er_of (ee_ix (er_of (ee_var g79 1 rfl rfl fun _ => rfl)) ee_int)) (er_of (ee_var g79 3 rfl rfl fun _ => rfl)))) (er_of (ee_if (et_cmp ob_gt rfl (er_of (ee_ix (er_of (ee_var g79 1 rfl rfl fun _ => rfl)) ee_int)) (er_of ee_int)) (ee_bin od_mul (er_of (ee_ix (er_of (ee_var g79 1 rfl rfl fun _ => rfl)) ee_int)) (er_of (ee_call g79 0 cf_top_at hr rfl rfl (ea_cons (ee_var g79 0 rfl rfl fun _ => rfl) (ea_cons (ee_var g79 3 rfl rfl fun _ => rfl) ea_nil)) rfl))) ee_int))))) (by ((intro _; repeat (first | exact trivial | refine And.intro rfl ?_))))), by kernel_rfl⟩

def p_side_of : Cp := ⟨["lines", "row"], defScope (top 52), [0, 1], [0, 1], [0, 1], ["lines_with"], true⟩
def m_side_of (v_lines : CR.D) (v_row : CR.D) : M (O Unit Empty) :=
  M.bind (M.bind (M.bind (M.pure v_row) fun x => M.bind (M.pure (D.int 1)) fun y => M.opt (getD x y)) fun x => M.bind (M.pure (D.int 0)) fun y => M.opt (ltB x y)) fun b => M.ite b (M.bind (M.bind (M.bind (M.bind (M.bind (M.bind (M.bind (M.pure v_lines) fun d => M.bind (M.bind (M.bind (M.pure (D.int 1)) fun d => M.opt (negD d)) fun d => M.bind (M.pure []) fun ds => M.pure (d :: ds)) fun ds => M.pure (d :: ds)) fun ds => F_lines_with ds) fun xs => M.pure (D.lst xs)) fun d => M.bind (M.bind (M.bind (M.bind (M.bind (M.pure v_row) fun x => M.bind (M.pure (D.int 0)) fun y => M.opt (getD x y)) fun d => M.bind (M.bind (M.bind (M.bind (M.pure v_row) fun x => M.bind (M.pure (D.int 1)) fun y => M.opt (getD x y)) fun d => M.opt (negD d)) fun d => M.bind (M.pure []) fun ds => M.pure (d :: ds)) fun ds => M.pure (d :: ds)) fun ds => M.pure (D.tup ds)) fun d => M.bind (M.pure []) fun ds => M.pure (d :: ds)) fun ds => M.pure (d :: ds)) fun ds => M.pure (D.tup ds)) fun d => M.pure (O.rt d)) fun o => M.pure (O.out o)) (M.bind (M.bind (M.bind (M.bind (M.bind (M.bind (M.pure v_lines) fun d => M.bind (M.bind (M.pure (D.int 1)) fun d => M.bind (M.pure []) fun ds => M.pure (d :: ds)) fun ds => M.pure (d :: ds)) fun ds => F_lines_with ds) fun xs => M.pure (D.lst xs)) fun d => M.bind (M.bind (M.pure v_row) fun d => M.bind (M.pure []) fun ds => M.pure (d :: ds)) fun ds => M.pure (d :: ds)) fun ds => M.pure (D.tup ds)) fun d => M.pure (O.rt d))
def F_side_of : List CR.D → M (CR.D)
  | [v_lines, v_row] => M.bind (m_side_of v_lines v_row) retD
  | _ => M.stuck
def r_side_of (v_lines : CR.D) (v_row : CR.D) : R (O Unit Empty) :=
  R.bind (R.bind (R.bind (R.pure v_row) fun x => R.bind (R.pure (D.int 1)) fun y => R.opt (getD x y)) fun x => R.bind (R.pure (D.int 0)) fun y => R.opt (ltB x y)) fun b => R.ite b (R.bind (R.bind (R.bind (R.bind (R.bind (R.bind (R.bind (R.pure v_lines) fun d => R.bind (R.bind (R.bind (R.pure (D.int 1)) fun d => R.opt (negD d)) fun d => R.bind (R.pure []) fun ds => R.pure (d :: ds)) fun ds => R.pure (d :: ds)) fun ds => f_lines_with ds) fun xs => R.pure (D.lst xs)) fun d => R.bind (R.bind (R.bind (R.bind (R.bind (R.pure v_row) fun x => R.bind (R.pure (D.int 0)) fun y => R.opt (getD x y)) fun d => R.bind (R.bind (R.bind (R.bind (R.pure v_row) fun x => R.bind (R.pure (D.int 1)) fun y => R.opt (getD x y)) fun d => R.opt (negD d)) fun d => R.bind (R.pure []) fun ds => R.pure (d :: ds)) fun ds => R.pure (d :: ds)) fun ds => R.pure (D.tup ds)) fun d => R.bind (R.pure []) fun ds => R.pure (d :: ds)) fun ds => R.pure (d :: ds)) fun ds => R.pure (D.tup ds)) fun d => R.pure (O.rt d)) fun o => R.pure (O.out o)) (R.bind (R.bind (R.bind (R.bind (R.bind (R.bind (R.pure v_lines) fun d => R.bind (R.bind (R.pure (D.int 1)) fun d => R.bind (R.pure []) fun ds => R.pure (d :: ds)) fun ds => R.pure (d :: ds)) fun ds => f_lines_with ds) fun xs => R.pure (D.lst xs)) fun d => R.bind (R.bind (R.pure v_row) fun d => R.bind (R.pure []) fun ds => R.pure (d :: ds)) fun ds => R.pure (d :: ds)) fun ds => R.pure (D.tup ds)) fun d => R.pure (O.rt d))
def f_side_of : List CR.D → R (CR.D)
  | [v_lines, v_row] => R.bind (r_side_of v_lines v_row) retDR
  | _ => .stuck
theorem sm_side_of (v_lines : CR.D) (v_row : CR.D) : Rel (m_side_of v_lines v_row) (r_side_of v_lines v_row) := by
  have h_lines_with := s_lines_with
  unfold m_side_of r_side_of
  repeat (first | with_reducible exact h_lines_with _ | (first | with_reducible exact rel_pure | with_reducible exact rel_opt | with_reducible exact rel_guard | with_reducible exact rel_raise | with_reducible exact rel_sorted | with_reducible exact rel_retD | with_reducible exact rel_retL | with_reducible assumption | with_reducible refine rel_bind ?_ (fun _ => ?_) | with_reducible refine rel_ite ?_ ?_ | with_reducible refine rel_nox ?_ | with_reducible refine rel_comp (fun _ => ?_) (fun _ => ?_) _ | with_reducible refine rel_for (fun _ _ => ?_) _ _ | with_reducible refine rel_while (fun _ => ?_) (fun _ => ?_) _ | with_reducible refine rel_nxt (fun _ => ?_) | with_reducible refine rel_aft (fun _ => ?_) | with_reducible refine rel_try ?_ ?_))
theorem s_side_of : ∀ ds, Rel (F_side_of ds) (f_side_of ds) := fun ds => by
    match ds with
    | [v_lines, v_row] => exact rel_bind (sm_side_of v_lines v_row) fun _ => rel_retD
    | [] => exact rel_stuck
    | [_] => exact rel_stuck
    | _ :: _ :: _ :: _ => exact rel_stuck
theorem b_side_of {X : Cx} {W : WX} (g : GX X W p_side_of) (hr : Room 1 X.A) (cf_lines_with : CallF X.prog X.w X.K X.mg X.base "lines_with" 1 (SpL X.K X.mg 2 F_lines_with)) :
  ∃ m, Ss X W (fun c : CR.D × CR.D => [.pl c.1, .pl c.2]) ⟨[.un, .un], fun _ (_ : Unit) => [.un, .un], fun _ (e : Empty) => e.elim⟩ (defBody (top 52)) m ∧ m = fun c => m_side_of c.1 c.2 :=
 ⟨_, (ss_ifx (et_cmp ob_lt rfl (er_of (ee_ix (er_of (ee_var g 1 rfl rfl fun _ => rfl)) ee_int)) (er_of ee_int)) (ss_ret (ee_tup (ea_cons (el_ee (el_call g 0 cf_lines_with hr rfl rfl (ea_cons (ee_var g 0 rfl rfl fun _ => rfl) (ea_cons (ee_neg ee_int) ea_nil)) rfl)) (ea_cons (ee_tup (ea_cons (ee_ix (er_of (ee_var g 1 rfl rfl fun _ => rfl)) ee_int) (ea_cons (ee_neg (ee_ix (er_of (ee_var g 1 rfl rfl fun _ => rfl)) ee_int)) ea_nil)) rfl) ea_nil)) rfl) (by ((intro _; repeat (first | exact trivial | refine And.intro rfl ?_)))))
 (ss_ret (ee_tup (ea_cons (el_ee (el_call g 0 cf_lines_with hr rfl rfl (ea_cons (ee_var g 0 rfl rfl fun _ => rfl) (ea_cons ee_int ea_nil)) rfl)) (ea_cons (ee_var g 1 rfl rfl fun _ => rfl) ea_nil)) rfl) (by ((intro _; repeat (first | exact trivial | refine And.intro rfl ?_)))))), by kernel_rfl⟩

def p_is_endless : Cp := ⟨["some", "row", "bounds", "above", "below"], defScope (top 53), [0, 1, 2, 3, 4], [0, 1, 2, 3, 4], [0, 1, 2, 3, 4], ["worths_of", "FAR", "highest_lead", "lowest_lead"], true⟩
def m_is_endless (v_some : CR.D) (v_row : CR.D) (v_bounds : CR.D) : M (O Unit Empty) :=
  M.bind (M.bind (M.bind (M.bind (M.pure v_row) fun x => M.bind (M.pure (D.int 1)) fun y => M.opt (getD x y)) fun x => M.bind (M.pure (D.int 0)) fun y => M.opt (gtB x y)) fun t => M.ite t (M.bind (M.pure v_some) fun x => M.bind (M.bind (M.pure []) fun xs => M.pure (D.lst xs)) fun y => M.opt (eqB x y)) (M.pure false)) fun b => M.ite b (M.bind (M.bind (M.pure (D.bl true)) fun d => M.pure (O.rt d)) fun o => M.pure (O.out o)) (M.bind (M.bind (M.bind (M.bind (M.bind (M.pure v_some) fun d => M.bind (M.bind (M.pure v_row) fun d => M.bind (M.bind (M.bind (M.bind (M.pure (D.int 60)) fun d => M.bind (M.bind (M.bind (M.pure (D.int 60)) fun x => M.bind (M.pure (D.int 1)) fun y => M.opt (addD x y)) fun d => M.bind (M.pure []) fun ds => M.pure (d :: ds)) fun ds => M.pure (d :: ds)) fun xs => M.pure (D.lst xs)) fun d => M.bind (M.pure []) fun ds => M.pure (d :: ds)) fun ds => M.pure (d :: ds)) fun ds => M.pure (d :: ds)) fun ds => F_worths_of ds) fun xs => M.pure (D.lst xs)) fun d => M.bind (M.bind (M.bind (M.bind (M.bind (M.pure v_some) fun d => M.bind (M.bind (M.pure v_row) fun d => M.bind (M.bind (M.bind (M.bind (M.bind (M.pure (D.int 60)) fun d => M.opt (negD d)) fun d => M.bind (M.bind (M.bind (M.bind (M.pure (D.int 60)) fun d => M.opt (negD d)) fun x => M.bind (M.pure (D.int 1)) fun y => M.opt (subD x y)) fun d => M.bind (M.pure []) fun ds => M.pure (d :: ds)) fun ds => M.pure (d :: ds)) fun xs => M.pure (D.lst xs)) fun d => M.bind (M.pure []) fun ds => M.pure (d :: ds)) fun ds => M.pure (d :: ds)) fun ds => M.pure (d :: ds)) fun ds => F_worths_of ds) fun xs => M.pure (D.lst xs)) fun d => M.bind (M.pure ()) fun r => M.pure (d, r)) fun r => M.pure (d, r)) fun a81 =>
  M.bind (M.bind (M.bind (M.bind (M.bind (M.pure v_bounds) fun d => M.bind (M.pure []) fun ds => M.pure (d :: ds)) fun ds => F_highest_lead ds) fun x => M.bind (M.pure D.non) fun y => M.opt (isB x y)) fun t => M.ite t (M.bind (M.bind (M.pure a81.1) fun x => M.bind (M.pure (D.int 1)) fun y => M.opt (getD x y)) fun x => M.bind (M.bind (M.pure a81.1) fun x => M.bind (M.pure (D.int 0)) fun y => M.opt (getD x y)) fun y => M.opt (gtB x y)) (M.pure false)) fun b => M.ite b (M.bind (M.bind (M.pure (D.bl true)) fun d => M.pure (O.rt d)) fun o => M.pure (O.out o)) (M.bind (M.bind (M.bind (M.bind (M.bind (M.pure v_bounds) fun d => M.bind (M.pure []) fun ds => M.pure (d :: ds)) fun ds => F_lowest_lead ds) fun x => M.bind (M.pure D.non) fun y => M.bind (M.opt (isB x y)) fun k => M.pure (D.bl k)) fun d => M.bind (M.opt (boolD d)) fun t => M.ite t (M.bind (M.bind (M.pure a81.2.1) fun x => M.bind (M.pure (D.int 1)) fun y => M.opt (getD x y)) fun x => M.bind (M.bind (M.pure a81.2.1) fun x => M.bind (M.pure (D.int 0)) fun y => M.opt (getD x y)) fun y => M.bind (M.opt (gtB x y)) fun k => M.pure (D.bl k)) (M.pure (D.bl false))) fun d => M.pure (O.rt d)))
def F_is_endless : List CR.D → M (CR.D)
  | [v_some, v_row, v_bounds] => M.bind (m_is_endless v_some v_row v_bounds) retD
  | _ => M.stuck
def r_is_endless (v_some : CR.D) (v_row : CR.D) (v_bounds : CR.D) : R (O Unit Empty) :=
  R.bind (R.bind (R.bind (R.bind (R.pure v_row) fun x => R.bind (R.pure (D.int 1)) fun y => R.opt (getD x y)) fun x => R.bind (R.pure (D.int 0)) fun y => R.opt (gtB x y)) fun t => R.ite t (R.bind (R.pure v_some) fun x => R.bind (R.bind (R.pure []) fun xs => R.pure (D.lst xs)) fun y => R.opt (eqB x y)) (R.pure false)) fun b => R.ite b (R.bind (R.bind (R.pure (D.bl true)) fun d => R.pure (O.rt d)) fun o => R.pure (O.out o)) (R.bind (R.bind (R.bind (R.bind (R.bind (R.pure v_some) fun d => R.bind (R.bind (R.pure v_row) fun d => R.bind (R.bind (R.bind (R.bind (R.pure (D.int 60)) fun d => R.bind (R.bind (R.bind (R.pure (D.int 60)) fun x => R.bind (R.pure (D.int 1)) fun y => R.opt (addD x y)) fun d => R.bind (R.pure []) fun ds => R.pure (d :: ds)) fun ds => R.pure (d :: ds)) fun xs => R.pure (D.lst xs)) fun d => R.bind (R.pure []) fun ds => R.pure (d :: ds)) fun ds => R.pure (d :: ds)) fun ds => R.pure (d :: ds)) fun ds => f_worths_of ds) fun xs => R.pure (D.lst xs)) fun d => R.bind (R.bind (R.bind (R.bind (R.bind (R.pure v_some) fun d => R.bind (R.bind (R.pure v_row) fun d => R.bind (R.bind (R.bind (R.bind (R.bind (R.pure (D.int 60)) fun d => R.opt (negD d)) fun d => R.bind (R.bind (R.bind (R.bind (R.pure (D.int 60)) fun d => R.opt (negD d)) fun x => R.bind (R.pure (D.int 1)) fun y => R.opt (subD x y)) fun d => R.bind (R.pure []) fun ds => R.pure (d :: ds)) fun ds => R.pure (d :: ds)) fun xs => R.pure (D.lst xs)) fun d => R.bind (R.pure []) fun ds => R.pure (d :: ds)) fun ds => R.pure (d :: ds)) fun ds => R.pure (d :: ds)) fun ds => f_worths_of ds) fun xs => R.pure (D.lst xs)) fun d => R.bind (R.pure ()) fun r => R.pure (d, r)) fun r => R.pure (d, r)) fun a81 =>
  R.bind (R.bind (R.bind (R.bind (R.bind (R.pure v_bounds) fun d => R.bind (R.pure []) fun ds => R.pure (d :: ds)) fun ds => f_highest_lead ds) fun x => R.bind (R.pure D.non) fun y => R.opt (isB x y)) fun t => R.ite t (R.bind (R.bind (R.pure a81.1) fun x => R.bind (R.pure (D.int 1)) fun y => R.opt (getD x y)) fun x => R.bind (R.bind (R.pure a81.1) fun x => R.bind (R.pure (D.int 0)) fun y => R.opt (getD x y)) fun y => R.opt (gtB x y)) (R.pure false)) fun b => R.ite b (R.bind (R.bind (R.pure (D.bl true)) fun d => R.pure (O.rt d)) fun o => R.pure (O.out o)) (R.bind (R.bind (R.bind (R.bind (R.bind (R.pure v_bounds) fun d => R.bind (R.pure []) fun ds => R.pure (d :: ds)) fun ds => f_lowest_lead ds) fun x => R.bind (R.pure D.non) fun y => R.bind (R.opt (isB x y)) fun k => R.pure (D.bl k)) fun d => R.bind (R.opt (boolD d)) fun t => R.ite t (R.bind (R.bind (R.pure a81.2.1) fun x => R.bind (R.pure (D.int 1)) fun y => R.opt (getD x y)) fun x => R.bind (R.bind (R.pure a81.2.1) fun x => R.bind (R.pure (D.int 0)) fun y => R.opt (getD x y)) fun y => R.bind (R.opt (gtB x y)) fun k => R.pure (D.bl k)) (R.pure (D.bl false))) fun d => R.pure (O.rt d)))
def f_is_endless : List CR.D → R (CR.D)
  | [v_some, v_row, v_bounds] => R.bind (r_is_endless v_some v_row v_bounds) retDR
  | _ => .stuck
theorem sm_is_endless (v_some : CR.D) (v_row : CR.D) (v_bounds : CR.D) : Rel (m_is_endless v_some v_row v_bounds) (r_is_endless v_some v_row v_bounds) := by
  have h_worths_of := s_worths_of
  have h_highest_lead := s_highest_lead
  have h_lowest_lead := s_lowest_lead
  unfold m_is_endless r_is_endless
  repeat (first | with_reducible exact h_worths_of _ | with_reducible exact h_highest_lead _ | with_reducible exact h_lowest_lead _ | (first | with_reducible exact rel_pure | with_reducible exact rel_opt | with_reducible exact rel_guard | with_reducible exact rel_raise | with_reducible exact rel_sorted | with_reducible exact rel_retD | with_reducible exact rel_retL | with_reducible assumption | with_reducible refine rel_bind ?_ (fun _ => ?_) | with_reducible refine rel_ite ?_ ?_ | with_reducible refine rel_nox ?_ | with_reducible refine rel_comp (fun _ => ?_) (fun _ => ?_) _ | with_reducible refine rel_for (fun _ _ => ?_) _ _ | with_reducible refine rel_while (fun _ => ?_) (fun _ => ?_) _ | with_reducible refine rel_nxt (fun _ => ?_) | with_reducible refine rel_aft (fun _ => ?_) | with_reducible refine rel_try ?_ ?_))
theorem s_is_endless : ∀ ds, Rel (F_is_endless ds) (f_is_endless ds) := fun ds => by
    match ds with
    | [v_some, v_row, v_bounds] => exact rel_bind (sm_is_endless v_some v_row v_bounds) fun _ => rel_retD
    | [] => exact rel_stuck
    | [_] => exact rel_stuck
    | [_, _] => exact rel_stuck
    | _ :: _ :: _ :: _ :: _ => exact rel_stuck
theorem b_is_endless {X : Cx} {W : WX} (g : GX X W p_is_endless) (hr : Room 2 X.A) (cf_worths_of : CallF X.prog X.w X.K X.mg X.base "worths_of" 2 (SpL X.K X.mg 3 F_worths_of)) (cf_highest_lead : CallF X.prog X.w X.K X.mg X.base "highest_lead" 1 (SpD X.K X.mg 1 F_highest_lead)) (cf_lowest_lead : CallF X.prog X.w X.K X.mg X.base "lowest_lead" 1 (SpD X.K X.mg 1 F_lowest_lead)) (gl_FAR : GlobD X "FAR" (D.int 60)) :
  ∃ m, Ss X W (fun c : CR.D × CR.D × CR.D => [.pl c.1, .pl c.2.1, .pl c.2.2, .un, .un]) ⟨[.un, .un, .un, .un, .un], fun _ (_ : Unit) => [.un, .un, .un, .un, .un], fun _ (e : Empty) => e.elim⟩ (defBody (top 53)) m ∧ m = fun c => m_is_endless c.1 c.2.1 c.2.2 :=
 ⟨_, (ss_ifx (et_w (ew_and (et_cmp ob_gt rfl (er_of (ee_ix (er_of (ee_var g 1 rfl rfl fun _ => rfl)) ee_int)) (er_of ee_int)) (ew_and1 (et_cmp (ob_eq g) rfl (er_of (ee_var g 0 rfl rfl fun _ => rfl)) (er_of (el_ee (el_lst ea_nil rfl))))))) (ss_ret ee_bl (by ((intro _; repeat (first | exact trivial | refine And.intro rfl ?_)))))
 (ss_cons (sp_par g 3 4 (by decide) rfl rfl rfl rfl (ex_dat (el_ee (el_call g 0 cf_worths_of hr rfl rfl (ea_cons (ee_var g 0 rfl rfl fun _ => rfl) (ea_cons (ee_var g 1 rfl rfl fun _ => rfl) (ea_cons (el_ee (el_lst (ea_cons (ee_glob g 1 rfl gl_FAR) (ea_cons (ee_bin od_add (er_of (ee_glob g 1 rfl gl_FAR)) (er_of ee_int)) ea_nil)) rfl)) ea_nil))) rfl)) (ex_dat (el_ee (el_call g 0 cf_worths_of hr rfl rfl (ea_cons (ee_var g 0 rfl rfl fun _ => rfl) (ea_cons (ee_var g 1 rfl rfl fun _ => rfl) (ea_cons (el_ee (el_lst (ea_cons (ee_neg (ee_glob g 1 rfl gl_FAR)) (ea_cons (ee_bin od_sub (er_of (ee_neg (ee_glob g 1 rfl gl_FAR))) (er_of ee_int)) ea_nil)) rfl)) ea_nil))) rfl)) ex_nil)) (sw_of g.esc rfl))
 (ss_rho (fun c => [.pl c.2.1, .pl c.2.2.1, .pl c.2.2.2, .pl c.1.1, .pl c.1.2.1]) rfl (ss_ifx (et_w (ew_and (et_cmp ob_is rfl (er_of (ee_call g 2 cf_highest_lead hr rfl rfl (ea_cons (ee_var g 2 rfl rfl fun _ => rfl) ea_nil) rfl)) (er_of ee_non)) (ew_and1 (et_cmp ob_gt rfl (er_of (ee_ix (er_of (ee_var g 3 rfl rfl fun _ => rfl)) ee_int)) (er_of (ee_ix (er_of (ee_var g 3 rfl rfl fun _ => rfl)) ee_int)))))) (ss_ret ee_bl (by ((intro _; repeat (first | exact trivial | refine And.intro rfl ?_)))))
 (ss_ret (ee_and (ee_cmp ob_is rfl (er_of (ee_call g 3 cf_lowest_lead hr rfl rfl (ea_cons (ee_var g 2 rfl rfl fun _ => rfl) ea_nil) rfl)) (er_of ee_non)) (ee_one (ee_cmp ob_gt rfl (er_of (ee_ix (er_of (ee_var g 4 rfl rfl fun _ => rfl)) ee_int)) (er_of (ee_ix (er_of (ee_var g 4 rfl rfl fun _ => rfl)) ee_int))))) (by ((intro _; repeat (first | exact trivial | refine And.intro rfl ?_))))))))), by kernel_rfl⟩

def p_best_lead : Cp := ⟨["some", "row", "bounds", "leads", "worths"], defScope (top 54), [0, 1, 2, 3, 4], [0, 1, 2, 3, 4], [0, 1, 2, 3, 4], ["leads_of", "worths_of", "max"], true⟩
def m_best_lead (v_some : CR.D) (v_row : CR.D) (v_bounds : CR.D) : M (O Unit Empty) :=
  M.bind (M.bind (M.bind (M.bind (M.pure v_bounds) fun d => M.bind (M.pure []) fun ds => M.pure (d :: ds)) fun ds => F_leads_of ds) fun xs => M.pure (D.lst xs)) fun leads_82 =>
  M.bind (M.bind (M.bind (M.bind (M.pure v_some) fun d => M.bind (M.bind (M.pure v_row) fun d => M.bind (M.bind (M.pure leads_82) fun d => M.bind (M.pure []) fun ds => M.pure (d :: ds)) fun ds => M.pure (d :: ds)) fun ds => M.pure (d :: ds)) fun ds => F_worths_of ds) fun xs => M.pure (D.lst xs)) fun worths_83 =>
  M.bind (M.bind (M.bind (M.bind (M.pure leads_82) fun x => M.bind (M.bind (M.pure worths_83) fun x => M.bind (M.opt (lstD x)) fun xs => M.bind (M.bind (M.pure worths_83) fun d => M.opt (maxD d)) fun y => M.opt (indexL xs y)) fun y => M.opt (getD x y)) fun d => M.bind (M.bind (M.bind (M.pure worths_83) fun d => M.opt (maxD d)) fun d => M.bind (M.pure []) fun ds => M.pure (d :: ds)) fun ds => M.pure (d :: ds)) fun ds => M.pure (D.tup ds)) fun d => M.pure (O.rt d)
def F_best_lead : List CR.D → M (CR.D)
  | [v_some, v_row, v_bounds] => M.bind (m_best_lead v_some v_row v_bounds) retD
  | _ => M.stuck
def r_best_lead (v_some : CR.D) (v_row : CR.D) (v_bounds : CR.D) : R (O Unit Empty) :=
  R.bind (R.bind (R.bind (R.bind (R.pure v_bounds) fun d => R.bind (R.pure []) fun ds => R.pure (d :: ds)) fun ds => f_leads_of ds) fun xs => R.pure (D.lst xs)) fun leads_82 =>
  R.bind (R.bind (R.bind (R.bind (R.pure v_some) fun d => R.bind (R.bind (R.pure v_row) fun d => R.bind (R.bind (R.pure leads_82) fun d => R.bind (R.pure []) fun ds => R.pure (d :: ds)) fun ds => R.pure (d :: ds)) fun ds => R.pure (d :: ds)) fun ds => f_worths_of ds) fun xs => R.pure (D.lst xs)) fun worths_83 =>
  R.bind (R.bind (R.bind (R.bind (R.pure leads_82) fun x => R.bind (R.bind (R.pure worths_83) fun x => R.bind (R.opt (lstD x)) fun xs => R.bind (R.bind (R.pure worths_83) fun d => R.opt (maxD d)) fun y => R.opt (indexL xs y)) fun y => R.opt (getD x y)) fun d => R.bind (R.bind (R.bind (R.pure worths_83) fun d => R.opt (maxD d)) fun d => R.bind (R.pure []) fun ds => R.pure (d :: ds)) fun ds => R.pure (d :: ds)) fun ds => R.pure (D.tup ds)) fun d => R.pure (O.rt d)
def f_best_lead : List CR.D → R (CR.D)
  | [v_some, v_row, v_bounds] => R.bind (r_best_lead v_some v_row v_bounds) retDR
  | _ => .stuck
theorem sm_best_lead (v_some : CR.D) (v_row : CR.D) (v_bounds : CR.D) : Rel (m_best_lead v_some v_row v_bounds) (r_best_lead v_some v_row v_bounds) := by
  have h_leads_of := s_leads_of
  have h_worths_of := s_worths_of
  unfold m_best_lead r_best_lead
  repeat (first | with_reducible exact h_leads_of _ | with_reducible exact h_worths_of _ | (first | with_reducible exact rel_pure | with_reducible exact rel_opt | with_reducible exact rel_guard | with_reducible exact rel_raise | with_reducible exact rel_sorted | with_reducible exact rel_retD | with_reducible exact rel_retL | with_reducible assumption | with_reducible refine rel_bind ?_ (fun _ => ?_) | with_reducible refine rel_ite ?_ ?_ | with_reducible refine rel_nox ?_ | with_reducible refine rel_comp (fun _ => ?_) (fun _ => ?_) _ | with_reducible refine rel_for (fun _ _ => ?_) _ _ | with_reducible refine rel_while (fun _ => ?_) (fun _ => ?_) _ | with_reducible refine rel_nxt (fun _ => ?_) | with_reducible refine rel_aft (fun _ => ?_) | with_reducible refine rel_try ?_ ?_))
theorem s_best_lead : ∀ ds, Rel (F_best_lead ds) (f_best_lead ds) := fun ds => by
    match ds with
    | [v_some, v_row, v_bounds] => exact rel_bind (sm_best_lead v_some v_row v_bounds) fun _ => rel_retD
    | [] => exact rel_stuck
    | [_] => exact rel_stuck
    | [_, _] => exact rel_stuck
    | _ :: _ :: _ :: _ :: _ => exact rel_stuck
theorem b_best_lead {X : Cx} {W : WX} (g : GX X W p_best_lead) (hr : Room 2 X.A) (cf_leads_of : CallF X.prog X.w X.K X.mg X.base "leads_of" 2 (SpL X.K X.mg 1 F_leads_of)) (cf_worths_of : CallF X.prog X.w X.K X.mg X.base "worths_of" 2 (SpL X.K X.mg 3 F_worths_of)) :
  ∃ m, Ss X W (fun c : CR.D × CR.D × CR.D => [.pl c.1, .pl c.2.1, .pl c.2.2, .un, .un]) ⟨[.un, .un, .un, .un, .un], fun _ (_ : Unit) => [.un, .un, .un, .un, .un], fun _ (e : Empty) => e.elim⟩ (defBody (top 54)) m ∧ m = fun c => m_best_lead c.1 c.2.1 c.2.2 :=
 ⟨_, (ss_cons (sp_set g 3 rfl rfl (el_ee (el_call g 0 cf_leads_of hr rfl rfl (ea_cons (ee_var g 2 rfl rfl fun _ => rfl) ea_nil) rfl)))
 (ss_rho (fun c => [.pl c.2.1, .pl c.2.2.1, .pl c.2.2.2, .pl c.1, .un]) rfl (ss_cons (sp_set g 4 rfl rfl (el_ee (el_call g 1 cf_worths_of hr rfl rfl (ea_cons (ee_var g 0 rfl rfl fun _ => rfl) (ea_cons (ee_var g 1 rfl rfl fun _ => rfl) (ea_cons (ee_var g 3 rfl rfl fun _ => rfl) ea_nil))) rfl)))
 (ss_rho (fun c => [.pl c.2.2.1, .pl c.2.2.2.1, .pl c.2.2.2.2, .pl c.2.1, .pl c.1]) rfl (ss_ret (ee_tup (ea_cons (ee_ix (er_of (ee_var g 3 rfl rfl fun _ => rfl)) (ee_index g (er_of (ee_var g 4 rfl rfl fun _ => rfl)) (ee_max g 2 rfl (er_of (ee_var g 4 rfl rfl fun _ => rfl))))) (ea_cons (ee_max g 2 rfl (er_of (ee_var g 4 rfl rfl fun _ => rfl))) ea_nil)) rfl) (by ((intro _; repeat (first | exact trivial | refine And.intro rfl ?_))))))))), by kernel_rfl⟩

def p_other_at : Cp := ⟨["lines", "row", "lead", "above", "below"], defScope (top 55), [0, 1, 2, 3, 4], [0, 1, 2, 3, 4], [0, 1, 2, 3, 4], ["lines_with", "top_at"], true⟩
def m_other_at (v_lines : CR.D) (v_row : CR.D) (v_lead : CR.D) : M (O Unit Empty) :=
  M.bind (M.bind (M.bind (M.bind (M.bind (M.pure v_lines) fun d => M.bind (M.bind (M.pure (D.int 1)) fun d => M.bind (M.pure []) fun ds => M.pure (d :: ds)) fun ds => M.pure (d :: ds)) fun ds => F_lines_with ds) fun xs => M.pure (D.lst xs)) fun d => M.bind (M.bind (M.bind (M.bind (M.bind (M.pure v_lines) fun d => M.bind (M.bind (M.bind (M.pure (D.int 1)) fun d => M.opt (negD d)) fun d => M.bind (M.pure []) fun ds => M.pure (d :: ds)) fun ds => M.pure (d :: ds)) fun ds => F_lines_with ds) fun xs => M.pure (D.lst xs)) fun d => M.bind (M.pure ()) fun r => M.pure (d, r)) fun r => M.pure (d, r)) fun a84 =>
  M.bind (M.bind (M.bind (M.bind (M.pure v_row) fun x => M.bind (M.pure (D.int 1)) fun y => M.opt (getD x y)) fun x => M.bind (M.pure (D.int 0)) fun y => M.opt (ltB x y)) fun t => M.ite t (M.pure true) (M.bind (M.pure a84.1) fun x => M.bind (M.bind (M.pure []) fun xs => M.pure (D.lst xs)) fun y => M.opt (eqB x y))) fun b => M.ite b (M.bind (M.bind (M.bind (M.bind (M.pure a84.2.1) fun x => M.bind (M.bind (M.pure []) fun xs => M.pure (D.lst xs)) fun y => M.opt (neB x y)) fun t => M.ite t (M.bind (M.bind (M.bind (M.pure a84.2.1) fun d => M.bind (M.bind (M.pure v_lead) fun d => M.bind (M.pure []) fun ds => M.pure (d :: ds)) fun ds => M.pure (d :: ds)) fun ds => F_top_at ds) fun d => M.opt (negD d)) (M.pure (D.int 0))) fun d => M.pure (O.rt d)) fun o => M.pure (O.out o)) (M.bind (M.bind (M.bind (M.pure a84.1) fun d => M.bind (M.bind (M.pure v_lead) fun d => M.bind (M.pure []) fun ds => M.pure (d :: ds)) fun ds => M.pure (d :: ds)) fun ds => F_top_at ds) fun d => M.pure (O.rt d))
def F_other_at : List CR.D → M (CR.D)
  | [v_lines, v_row, v_lead] => M.bind (m_other_at v_lines v_row v_lead) retD
  | _ => M.stuck
def r_other_at (v_lines : CR.D) (v_row : CR.D) (v_lead : CR.D) : R (O Unit Empty) :=
  R.bind (R.bind (R.bind (R.bind (R.bind (R.pure v_lines) fun d => R.bind (R.bind (R.pure (D.int 1)) fun d => R.bind (R.pure []) fun ds => R.pure (d :: ds)) fun ds => R.pure (d :: ds)) fun ds => f_lines_with ds) fun xs => R.pure (D.lst xs)) fun d => R.bind (R.bind (R.bind (R.bind (R.bind (R.pure v_lines) fun d => R.bind (R.bind (R.bind (R.pure (D.int 1)) fun d => R.opt (negD d)) fun d => R.bind (R.pure []) fun ds => R.pure (d :: ds)) fun ds => R.pure (d :: ds)) fun ds => f_lines_with ds) fun xs => R.pure (D.lst xs)) fun d => R.bind (R.pure ()) fun r => R.pure (d, r)) fun r => R.pure (d, r)) fun a84 =>
  R.bind (R.bind (R.bind (R.bind (R.pure v_row) fun x => R.bind (R.pure (D.int 1)) fun y => R.opt (getD x y)) fun x => R.bind (R.pure (D.int 0)) fun y => R.opt (ltB x y)) fun t => R.ite t (R.pure true) (R.bind (R.pure a84.1) fun x => R.bind (R.bind (R.pure []) fun xs => R.pure (D.lst xs)) fun y => R.opt (eqB x y))) fun b => R.ite b (R.bind (R.bind (R.bind (R.bind (R.pure a84.2.1) fun x => R.bind (R.bind (R.pure []) fun xs => R.pure (D.lst xs)) fun y => R.opt (neB x y)) fun t => R.ite t (R.bind (R.bind (R.bind (R.pure a84.2.1) fun d => R.bind (R.bind (R.pure v_lead) fun d => R.bind (R.pure []) fun ds => R.pure (d :: ds)) fun ds => R.pure (d :: ds)) fun ds => f_top_at ds) fun d => R.opt (negD d)) (R.pure (D.int 0))) fun d => R.pure (O.rt d)) fun o => R.pure (O.out o)) (R.bind (R.bind (R.bind (R.pure a84.1) fun d => R.bind (R.bind (R.pure v_lead) fun d => R.bind (R.pure []) fun ds => R.pure (d :: ds)) fun ds => R.pure (d :: ds)) fun ds => f_top_at ds) fun d => R.pure (O.rt d))
def f_other_at : List CR.D → R (CR.D)
  | [v_lines, v_row, v_lead] => R.bind (r_other_at v_lines v_row v_lead) retDR
  | _ => .stuck
theorem sm_other_at (v_lines : CR.D) (v_row : CR.D) (v_lead : CR.D) : Rel (m_other_at v_lines v_row v_lead) (r_other_at v_lines v_row v_lead) := by
  have h_top_at := s_top_at
  have h_lines_with := s_lines_with
  unfold m_other_at r_other_at
  repeat (first | with_reducible exact h_top_at _ | with_reducible exact h_lines_with _ | (first | with_reducible exact rel_pure | with_reducible exact rel_opt | with_reducible exact rel_guard | with_reducible exact rel_raise | with_reducible exact rel_sorted | with_reducible exact rel_retD | with_reducible exact rel_retL | with_reducible assumption | with_reducible refine rel_bind ?_ (fun _ => ?_) | with_reducible refine rel_ite ?_ ?_ | with_reducible refine rel_nox ?_ | with_reducible refine rel_comp (fun _ => ?_) (fun _ => ?_) _ | with_reducible refine rel_for (fun _ _ => ?_) _ _ | with_reducible refine rel_while (fun _ => ?_) (fun _ => ?_) _ | with_reducible refine rel_nxt (fun _ => ?_) | with_reducible refine rel_aft (fun _ => ?_) | with_reducible refine rel_try ?_ ?_))
theorem s_other_at : ∀ ds, Rel (F_other_at ds) (f_other_at ds) := fun ds => by
    match ds with
    | [v_lines, v_row, v_lead] => exact rel_bind (sm_other_at v_lines v_row v_lead) fun _ => rel_retD
    | [] => exact rel_stuck
    | [_] => exact rel_stuck
    | [_, _] => exact rel_stuck
    | _ :: _ :: _ :: _ :: _ => exact rel_stuck
theorem b_other_at {X : Cx} {W : WX} (g : GX X W p_other_at) (hr : Room 1 X.A) (cf_top_at : CallF X.prog X.w X.K X.mg X.base "top_at" 1 (SpD X.K X.mg 2 F_top_at)) (cf_lines_with : CallF X.prog X.w X.K X.mg X.base "lines_with" 1 (SpL X.K X.mg 2 F_lines_with)) :
  ∃ m, Ss X W (fun c : CR.D × CR.D × CR.D => [.pl c.1, .pl c.2.1, .pl c.2.2, .un, .un]) ⟨[.un, .un, .un, .un, .un], fun _ (_ : Unit) => [.un, .un, .un, .un, .un], fun _ (e : Empty) => e.elim⟩ (defBody (top 55)) m ∧ m = fun c => m_other_at c.1 c.2.1 c.2.2 :=
 ⟨_, (ss_cons (sp_par g 3 4 (by decide) rfl rfl rfl rfl (ex_dat (el_ee (el_call g 0 cf_lines_with hr rfl rfl (ea_cons (ee_var g 0 rfl rfl fun _ => rfl) (ea_cons ee_int ea_nil)) rfl)) (ex_dat (el_ee (el_call g 0 cf_lines_with hr rfl rfl (ea_cons (ee_var g 0 rfl rfl fun _ => rfl) (ea_cons (ee_neg ee_int) ea_nil)) rfl)) ex_nil)) (sw_of g.esc rfl))
 (ss_rho (fun c => [.pl c.2.1, .pl c.2.2.1, .pl c.2.2.2, .pl c.1.1, .pl c.1.2.1]) rfl (ss_ifx (et_w (ew_or (et_cmp ob_lt rfl (er_of (ee_ix (er_of (ee_var g 1 rfl rfl fun _ => rfl)) ee_int)) (er_of ee_int)) (ew_or1 (et_cmp (ob_eq g) rfl (er_of (ee_var g 3 rfl rfl fun _ => rfl)) (er_of (el_ee (el_lst ea_nil rfl))))))) (ss_ret (ee_if (et_cmp (ob_ne g) rfl (er_of (ee_var g 4 rfl rfl fun _ => rfl)) (er_of (el_ee (el_lst ea_nil rfl)))) (ee_neg (ee_call g 1 cf_top_at hr rfl rfl (ea_cons (ee_var g 4 rfl rfl fun _ => rfl) (ea_cons (ee_var g 2 rfl rfl fun _ => rfl) ea_nil)) rfl)) ee_int) (by ((intro _; repeat (first | exact trivial | refine And.intro rfl ?_)))))
 (ss_ret (ee_call g 1 cf_top_at hr rfl rfl (ea_cons (ee_var g 3 rfl rfl fun _ => rfl) (ea_cons (ee_var g 2 rfl rfl fun _ => rfl) ea_nil)) rfl) (by ((intro _; repeat (first | exact trivial | refine And.intro rfl ?_)))))))), by kernel_rfl⟩

def p_is_plain_set : Cp := ⟨["value"], defScope (top 56), [0], [0], [0], ["fits_plain_set"], true⟩
def m_is_plain_set (v_value : CR.D) : M (O Unit Empty) :=
  M.bind (M.bind (M.bind (M.pure v_value) fun d => M.bind (M.pure []) fun ds => M.pure (d :: ds)) fun ds => F_fits_plain_set ds) fun d => M.pure (O.rt d)
def F_is_plain_set : List CR.D → M (CR.D)
  | [v_value] => M.bind (m_is_plain_set v_value) retD
  | _ => M.stuck
def r_is_plain_set (v_value : CR.D) : R (O Unit Empty) :=
  R.bind (R.bind (R.bind (R.pure v_value) fun d => R.bind (R.pure []) fun ds => R.pure (d :: ds)) fun ds => f_fits_plain_set ds) fun d => R.pure (O.rt d)
def f_is_plain_set : List CR.D → R (CR.D)
  | [v_value] => R.bind (r_is_plain_set v_value) retDR
  | _ => .stuck
theorem sm_is_plain_set (v_value : CR.D) : Rel (m_is_plain_set v_value) (r_is_plain_set v_value) := by
  have h_fits_plain_set := s_fits_plain_set
  unfold m_is_plain_set r_is_plain_set
  repeat (first | with_reducible exact h_fits_plain_set _ | (first | with_reducible exact rel_pure | with_reducible exact rel_opt | with_reducible exact rel_guard | with_reducible exact rel_raise | with_reducible exact rel_sorted | with_reducible exact rel_retD | with_reducible exact rel_retL | with_reducible assumption | with_reducible refine rel_bind ?_ (fun _ => ?_) | with_reducible refine rel_ite ?_ ?_ | with_reducible refine rel_nox ?_ | with_reducible refine rel_comp (fun _ => ?_) (fun _ => ?_) _ | with_reducible refine rel_for (fun _ _ => ?_) _ _ | with_reducible refine rel_while (fun _ => ?_) (fun _ => ?_) _ | with_reducible refine rel_nxt (fun _ => ?_) | with_reducible refine rel_aft (fun _ => ?_) | with_reducible refine rel_try ?_ ?_))
theorem s_is_plain_set : ∀ ds, Rel (F_is_plain_set ds) (f_is_plain_set ds) := fun ds => by
    match ds with
    | [v_value] => exact rel_bind (sm_is_plain_set v_value) fun _ => rel_retD
    | [] => exact rel_stuck
    | _ :: _ :: _ => exact rel_stuck
theorem b_is_plain_set {X : Cx} {W : WX} (g : GX X W p_is_plain_set) (hr : Room 18 X.A) (cf_fits_plain_set : CallF X.prog X.w X.K X.mg X.base "fits_plain_set" 18 (SpD X.K X.mg 1 F_fits_plain_set)) :
  ∃ m, Ss X W (fun c : CR.D => [.pl c]) ⟨[.un], fun _ (_ : Unit) => [.un], fun _ (e : Empty) => e.elim⟩ (defBody (top 56)) m ∧ m = fun c => m_is_plain_set c :=
 ⟨_, (ss_ret (ee_call g 0 cf_fits_plain_set hr rfl rfl (ea_cons (ee_var g 0 rfl rfl fun _ => rfl) ea_nil) rfl) (by ((intro _; repeat (first | exact trivial | refine And.intro rfl ?_))))), by kernel_rfl⟩

def p_corners_of : Cp := ⟨["formula", "lines", "bounds", "found", "lead", "top"], defScope (top 57), [0, 1, 2, 3], [0, 1, 2, 3], [0, 1, 2, 3], ["need_plain_set", "lines_of", "bounds_in", "has_points", "tops_that_turn", "lines_with", "tuple", "sorted", "set"], true⟩
def m_corners_of (v_formula : CR.D) : M (O Unit Empty) :=
  M.bind (M.bind (M.bind (M.bind (M.pure v_formula) fun d => M.bind (M.pure []) fun ds => M.pure (d :: ds)) fun ds => F_need_plain_set ds) fun _ => M.pure ()) fun _ =>
  M.bind (M.bind (M.bind (M.bind (M.pure v_formula) fun d => M.bind (M.pure []) fun ds => M.pure (d :: ds)) fun ds => F_lines_of ds) fun xs => M.pure (D.lst xs)) fun lines_85 =>
  M.bind (M.bind (M.bind (M.bind (M.pure lines_85) fun d => M.bind (M.pure []) fun ds => M.pure (d :: ds)) fun ds => F_bounds_in ds) fun xs => M.pure (D.lst xs)) fun bounds_86 =>
  M.bind (M.bind (M.bind (M.bind (M.bind (M.pure bounds_86) fun d => M.bind (M.pure []) fun ds => M.pure (d :: ds)) fun ds => F_has_points ds) fun d => M.opt (boolD d)) fun b => M.pure (!b)) fun b => M.ite b (M.bind (M.bind (M.bind (M.pure []) fun ds => M.pure (D.tup ds)) fun d => M.pure (O.rt d)) fun o => M.pure (O.out o)) (M.bind (M.bind (M.bind (M.bind (M.bind (M.bind (M.pure lines_85) fun d => M.bind (M.bind (M.pure (D.int 1)) fun d => M.bind (M.pure []) fun ds => M.pure (d :: ds)) fun ds => M.pure (d :: ds)) fun ds => F_lines_with ds) fun xs => M.pure (D.lst xs)) fun d => M.bind (M.bind (M.pure bounds_86) fun d => M.bind (M.pure []) fun ds => M.pure (d :: ds)) fun ds => M.pure (d :: ds)) fun ds => F_tops_that_turn ds) fun found_87 =>
  M.bind (M.bind (M.bind (M.bind (M.bind (M.bind (M.bind (M.bind (M.bind (M.bind (M.pure lines_85) fun d => M.bind (M.bind (M.bind (M.pure (D.int 1)) fun d => M.opt (negD d)) fun d => M.bind (M.pure []) fun ds => M.pure (d :: ds)) fun ds => M.pure (d :: ds)) fun ds => F_lines_with ds) fun xs => M.pure (D.lst xs)) fun d => M.bind (M.bind (M.pure bounds_86) fun d => M.bind (M.pure []) fun ds => M.pure (d :: ds)) fun ds => M.pure (d :: ds)) fun ds => F_tops_that_turn ds) fun xs => M.pure (D.lst xs)) fun d => M.opt (seqD d)) fun xs => compM (gmTup (gmCons Option.some (gmCons Option.some gmNil))) (fun v90 => M.pure true) (fun v90 => M.bind (M.bind (M.pure v90.1) fun d => M.bind (M.bind (M.bind (M.pure v90.2.1) fun d => M.opt (negD d)) fun d => M.bind (M.pure []) fun ds => M.pure (d :: ds)) fun ds => M.pure (d :: ds)) fun ds => M.pure (D.tup ds)) xs) fun ys => M.bind (M.guard (len2B found_87 ys)) fun _ => M.pure ys) fun found_88 =>
  M.bind (M.bind (M.bind (M.bind (M.pure (D.lst (found_87 ++ found_88))) fun d => M.bind (M.opt (pairs64 d)) fun ps => M.bind (M.any (SortedOf ps)) fun rs => M.pure (rs.map pairT)) fun xs => M.pure (D.lst xs)) fun d => M.opt (tupD d)) fun d => M.pure (O.rt d))
def F_corners_of : List CR.D → M (CR.D)
  | [v_formula] => M.bind (m_corners_of v_formula) retD
  | _ => M.stuck
def r_corners_of (v_formula : CR.D) : R (O Unit Empty) :=
  R.bind (R.bind (R.bind (R.bind (R.pure v_formula) fun d => R.bind (R.pure []) fun ds => R.pure (d :: ds)) fun ds => f_need_plain_set ds) fun _ => R.pure ()) fun _ =>
  R.bind (R.bind (R.bind (R.bind (R.pure v_formula) fun d => R.bind (R.pure []) fun ds => R.pure (d :: ds)) fun ds => f_lines_of ds) fun xs => R.pure (D.lst xs)) fun lines_85 =>
  R.bind (R.bind (R.bind (R.bind (R.pure lines_85) fun d => R.bind (R.pure []) fun ds => R.pure (d :: ds)) fun ds => f_bounds_in ds) fun xs => R.pure (D.lst xs)) fun bounds_86 =>
  R.bind (R.bind (R.bind (R.bind (R.bind (R.pure bounds_86) fun d => R.bind (R.pure []) fun ds => R.pure (d :: ds)) fun ds => f_has_points ds) fun d => R.opt (boolD d)) fun b => R.pure (!b)) fun b => R.ite b (R.bind (R.bind (R.bind (R.pure []) fun ds => R.pure (D.tup ds)) fun d => R.pure (O.rt d)) fun o => R.pure (O.out o)) (R.bind (R.bind (R.bind (R.bind (R.bind (R.bind (R.pure lines_85) fun d => R.bind (R.bind (R.pure (D.int 1)) fun d => R.bind (R.pure []) fun ds => R.pure (d :: ds)) fun ds => R.pure (d :: ds)) fun ds => f_lines_with ds) fun xs => R.pure (D.lst xs)) fun d => R.bind (R.bind (R.pure bounds_86) fun d => R.bind (R.pure []) fun ds => R.pure (d :: ds)) fun ds => R.pure (d :: ds)) fun ds => f_tops_that_turn ds) fun found_87 =>
  R.bind (R.bind (R.bind (R.bind (R.bind (R.bind (R.bind (R.bind (R.bind (R.bind (R.pure lines_85) fun d => R.bind (R.bind (R.bind (R.pure (D.int 1)) fun d => R.opt (negD d)) fun d => R.bind (R.pure []) fun ds => R.pure (d :: ds)) fun ds => R.pure (d :: ds)) fun ds => f_lines_with ds) fun xs => R.pure (D.lst xs)) fun d => R.bind (R.bind (R.pure bounds_86) fun d => R.bind (R.pure []) fun ds => R.pure (d :: ds)) fun ds => R.pure (d :: ds)) fun ds => f_tops_that_turn ds) fun xs => R.pure (D.lst xs)) fun d => R.opt (seqD d)) fun xs => compR (gmTup (gmCons Option.some (gmCons Option.some gmNil))) (fun v90 => R.pure true) (fun v90 => R.bind (R.bind (R.pure v90.1) fun d => R.bind (R.bind (R.bind (R.pure v90.2.1) fun d => R.opt (negD d)) fun d => R.bind (R.pure []) fun ds => R.pure (d :: ds)) fun ds => R.pure (d :: ds)) fun ds => R.pure (D.tup ds)) xs) fun ys => R.bind (R.guard (len2B found_87 ys)) fun _ => R.pure ys) fun found_88 =>
  R.bind (R.bind (R.bind (R.bind (R.pure (D.lst (found_87 ++ found_88))) fun d => R.bind (R.opt (pairs64 d)) fun ps => R.bind (R.pure (sortP ps)) fun rs => R.pure (rs.map pairT)) fun xs => R.pure (D.lst xs)) fun d => R.opt (tupD d)) fun d => R.pure (O.rt d))
def f_corners_of : List CR.D → R (CR.D)
  | [v_formula] => R.bind (r_corners_of v_formula) retDR
  | _ => .stuck
theorem sm_corners_of (v_formula : CR.D) : Rel (m_corners_of v_formula) (r_corners_of v_formula) := by
  have h_need_plain_set := s_need_plain_set
  have h_lines_of := s_lines_of
  have h_bounds_in := s_bounds_in
  have h_tops_that_turn := s_tops_that_turn
  have h_has_points := s_has_points
  have h_lines_with := s_lines_with
  unfold m_corners_of r_corners_of
  repeat (first | with_reducible exact h_need_plain_set _ | with_reducible exact h_lines_of _ | with_reducible exact h_bounds_in _ | with_reducible exact h_tops_that_turn _ | with_reducible exact h_has_points _ | with_reducible exact h_lines_with _ | (first | with_reducible exact rel_pure | with_reducible exact rel_opt | with_reducible exact rel_guard | with_reducible exact rel_raise | with_reducible exact rel_sorted | with_reducible exact rel_retD | with_reducible exact rel_retL | with_reducible assumption | with_reducible refine rel_bind ?_ (fun _ => ?_) | with_reducible refine rel_ite ?_ ?_ | with_reducible refine rel_nox ?_ | with_reducible refine rel_comp (fun _ => ?_) (fun _ => ?_) _ | with_reducible refine rel_for (fun _ _ => ?_) _ _ | with_reducible refine rel_while (fun _ => ?_) (fun _ => ?_) _ | with_reducible refine rel_nxt (fun _ => ?_) | with_reducible refine rel_aft (fun _ => ?_) | with_reducible refine rel_try ?_ ?_))
theorem s_corners_of : ∀ ds, Rel (F_corners_of ds) (f_corners_of ds) := fun ds => by
    match ds with
    | [v_formula] => exact rel_bind (sm_corners_of v_formula) fun _ => rel_retD
    | [] => exact rel_stuck
    | _ :: _ :: _ => exact rel_stuck
theorem b_corners_of {X : Cx} {W : WX} (g : GX X W p_corners_of) (hr : Room 19 X.A) (cf_need_plain_set : CallF X.prog X.w X.K X.mg X.base "need_plain_set" 19 (SpD X.K X.mg 1 F_need_plain_set)) (cf_lines_of : CallF X.prog X.w X.K X.mg X.base "lines_of" 1 (SpL X.K X.mg 1 F_lines_of)) (cf_bounds_in : CallF X.prog X.w X.K X.mg X.base "bounds_in" 2 (SpL X.K X.mg 1 F_bounds_in)) (cf_tops_that_turn : CallF X.prog X.w X.K X.mg X.base "tops_that_turn" 3 (SpL X.K X.mg 2 F_tops_that_turn)) (cf_has_points : CallF X.prog X.w X.K X.mg X.base "has_points" 2 (SpD X.K X.mg 1 F_has_points)) (cf_lines_with : CallF X.prog X.w X.K X.mg X.base "lines_with" 1 (SpL X.K X.mg 2 F_lines_with)) :
  ∃ m, Ss X W (fun c : CR.D => [.pl c, .un, .un, .un, .un, .un]) ⟨[.un, .un, .un, .un, .un, .un], fun _ (_ : Unit) => [.un, .un, .un, .un, .un, .un], fun _ (e : Empty) => e.elim⟩ (defBody (top 57)) m ∧ m = fun c => m_corners_of c :=
 ⟨_, (ss_cons (sp_expr (ee_call g 0 cf_need_plain_set hr rfl rfl (ea_cons (ee_var g 0 rfl rfl fun _ => rfl) ea_nil) rfl))
 (ss_rho (fun c => [.pl c.2, .un, .un, .un, .un, .un]) rfl (ss_cons (sp_set g 1 rfl rfl (el_ee (el_call g 1 cf_lines_of hr rfl rfl (ea_cons (ee_var g 0 rfl rfl fun _ => rfl) ea_nil) rfl)))
 (ss_rho (fun c => [.pl c.2.2, .pl c.1, .un, .un, .un, .un]) rfl (ss_cons (sp_set g 2 rfl rfl (el_ee (el_call g 2 cf_bounds_in hr rfl rfl (ea_cons (ee_var g 1 rfl rfl fun _ => rfl) ea_nil) rfl)))
 (ss_rho (fun c => [.pl c.2.2.2, .pl c.2.1, .pl c.1, .un, .un, .un]) rfl (ss_ifx (et_not (et_val (ee_call g 3 cf_has_points hr rfl rfl (ea_cons (ee_var g 2 rfl rfl fun _ => rfl) ea_nil) rfl))) (ss_ret (ee_tup ea_nil rfl) (by ((intro _; repeat (first | exact trivial | refine And.intro rfl ?_)))))
 (ss_cons (sp_lset g 3 rfl rfl (el_call g 4 cf_tops_that_turn hr rfl rfl (ea_cons (el_ee (el_call g 5 cf_lines_with hr rfl rfl (ea_cons (ee_var g 1 rfl rfl fun _ => rfl) (ea_cons ee_int ea_nil)) rfl)) (ea_cons (ee_var g 2 rfl rfl fun _ => rfl) ea_nil)) rfl))
 (ss_rho (fun c => [.pl c.2.2.2.2, .pl c.2.2.1, .pl c.2.1, .ow c.1, .un, .un]) rfl (ss_cons (sp_augL g 3 rfl rfl (fun _ => rfl) (el_comp g (own := [("lead", 4), ("top", 5)]) (vis := [4, 5]) (loc := [4, 5]) (gl := []) (sl := ([4] ++ ([5] ++ []))) (ei_seq (el_ee (el_call g 4 cf_tops_that_turn hr rfl rfl (ea_cons (el_ee (el_call g 5 cf_lines_with hr rfl rfl (ea_cons (ee_var g 1 rfl rfl fun _ => rfl) (ea_cons (ee_neg ee_int) ea_nil)) rfl)) (ea_cons (ee_var g 2 rfl rfl fun _ => rfl) ea_nil)) rfl))) (by decide +kernel) (plainAt.cons (fun _ => slotUn rfl rfl) (plainAt.cons (fun _ => slotUn rfl rfl) plainAt.nil)) rfl (fun _ _ _ _ _ g89 => (eg_tup g89 (egs_cons (eg_name g89 4 rfl rfl) (egs_cons (eg_name g89 5 rfl rfl) egs_nil)) (gml1 (gml1 gml0)))) (gsc_off (gsn_off 4) (gsc_off (gsn_off 5) gsu_off)) (fun _ _ _ _ _ g89 => ets_nil) (fun _ _ _ _ _ g89 => (ee_tup (ea_cons (ee_var g89 4 rfl rfl fun _ => rfl) (ea_cons (ee_neg (ee_var g89 5 rfl rfl fun _ => rfl)) ea_nil)) rfl))))
 (ss_frz 3 (fun _ => rfl) (ss_rho (fun c => [.pl c.2.2.2.2.2, .pl c.2.2.2.1, .pl c.2.2.1, .pl (D.lst (c.2.1 ++ c.1)), .un, .un]) rfl (ss_ret (ee_tuple g 6 rfl (er_of (el_ee (el_sortset g 7 8 rfl rfl (er_of (ee_var g 3 rfl rfl fun _ => rfl)))))) (by ((intro _; repeat (first | exact trivial | refine And.intro rfl ?_))))))))))))))))), by kernel_rfl⟩

def p_greatest_of : Cp := ⟨["formula", "row", "lines", "bounds", "some", "turned", "lead", "worth"], defScope (top 58), [0, 1, 2, 3, 4, 5, 6, 7], [0, 1, 2, 3, 4, 5, 6, 7], [0, 1, 2, 3, 4, 5, 6, 7], ["need_plain_set", "need_row", "lines_of", "bounds_in", "has_points", "side_of", "is_endless", "best_lead", "other_at"], true⟩
def m_greatest_of (v_formula : CR.D) (v_row : CR.D) : M (O Unit Empty) :=
  M.bind (M.bind (M.bind (M.bind (M.pure v_formula) fun d => M.bind (M.pure []) fun ds => M.pure (d :: ds)) fun ds => F_need_plain_set ds) fun _ => M.pure ()) fun _ =>
  M.bind (M.bind (M.bind (M.bind (M.pure v_row) fun d => M.bind (M.pure []) fun ds => M.pure (d :: ds)) fun ds => F_need_row ds) fun _ => M.pure ()) fun _ =>
  M.bind (M.bind (M.bind (M.bind (M.pure v_formula) fun d => M.bind (M.pure []) fun ds => M.pure (d :: ds)) fun ds => F_lines_of ds) fun xs => M.pure (D.lst xs)) fun lines_91 =>
  M.bind (M.bind (M.bind (M.bind (M.pure lines_91) fun d => M.bind (M.pure []) fun ds => M.pure (d :: ds)) fun ds => F_bounds_in ds) fun xs => M.pure (D.lst xs)) fun bounds_92 =>
  M.bind (M.bind (M.bind (M.bind (M.bind (M.pure bounds_92) fun d => M.bind (M.pure []) fun ds => M.pure (d :: ds)) fun ds => F_has_points ds) fun d => M.opt (boolD d)) fun b => M.pure (!b)) fun b => M.ite b (M.bind (M.bind (M.bind (M.bind (M.pure (D.str "none")) fun d => M.bind (M.pure []) fun ds => M.pure (d :: ds)) fun ds => M.pure (D.tup ds)) fun d => M.pure (O.rt d)) fun o => M.pure (O.out o)) (M.bind (M.bind (M.bind (M.bind (M.pure lines_91) fun d => M.bind (M.bind (M.pure v_row) fun d => M.bind (M.pure []) fun ds => M.pure (d :: ds)) fun ds => M.pure (d :: ds)) fun ds => F_side_of ds) fun d => M.opt ((gmTup (gmCons Option.some (gmCons Option.some gmNil))) d)) fun z93 =>
  M.bind (M.bind (M.bind (M.bind (M.pure z93.1) fun d => M.bind (M.bind (M.pure z93.2.1) fun d => M.bind (M.bind (M.pure bounds_92) fun d => M.bind (M.pure []) fun ds => M.pure (d :: ds)) fun ds => M.pure (d :: ds)) fun ds => M.pure (d :: ds)) fun ds => F_is_endless ds) fun d => M.opt (boolD d)) fun b => M.ite b (M.bind (M.bind (M.bind (M.bind (M.pure (D.str "endless")) fun d => M.bind (M.pure []) fun ds => M.pure (d :: ds)) fun ds => M.pure (D.tup ds)) fun d => M.pure (O.rt d)) fun o => M.pure (O.out o)) (M.bind (M.bind (M.bind (M.bind (M.pure z93.1) fun d => M.bind (M.bind (M.pure z93.2.1) fun d => M.bind (M.bind (M.pure bounds_92) fun d => M.bind (M.pure []) fun ds => M.pure (d :: ds)) fun ds => M.pure (d :: ds)) fun ds => M.pure (d :: ds)) fun ds => F_best_lead ds) fun d => M.opt ((gmTup (gmCons Option.some (gmCons Option.some gmNil))) d)) fun z94 =>
  M.bind (M.bind (M.bind (M.pure (D.str "at")) fun d => M.bind (M.bind (M.pure z94.2.1) fun d => M.bind (M.bind (M.bind (M.bind (M.pure z94.1) fun d => M.bind (M.bind (M.bind (M.bind (M.pure lines_91) fun d => M.bind (M.bind (M.pure v_row) fun d => M.bind (M.bind (M.pure z94.1) fun d => M.bind (M.pure []) fun ds => M.pure (d :: ds)) fun ds => M.pure (d :: ds)) fun ds => M.pure (d :: ds)) fun ds => F_other_at ds) fun d => M.bind (M.pure []) fun ds => M.pure (d :: ds)) fun ds => M.pure (d :: ds)) fun ds => M.pure (D.tup ds)) fun d => M.bind (M.pure []) fun ds => M.pure (d :: ds)) fun ds => M.pure (d :: ds)) fun ds => M.pure (d :: ds)) fun ds => M.pure (D.tup ds)) fun d => M.pure (O.rt d)))
def F_greatest_of : List CR.D → M (CR.D)
  | [v_formula, v_row] => M.bind (m_greatest_of v_formula v_row) retD
  | _ => M.stuck
def r_greatest_of (v_formula : CR.D) (v_row : CR.D) : R (O Unit Empty) :=
  R.bind (R.bind (R.bind (R.bind (R.pure v_formula) fun d => R.bind (R.pure []) fun ds => R.pure (d :: ds)) fun ds => f_need_plain_set ds) fun _ => R.pure ()) fun _ =>
  R.bind (R.bind (R.bind (R.bind (R.pure v_row) fun d => R.bind (R.pure []) fun ds => R.pure (d :: ds)) fun ds => f_need_row ds) fun _ => R.pure ()) fun _ =>
  R.bind (R.bind (R.bind (R.bind (R.pure v_formula) fun d => R.bind (R.pure []) fun ds => R.pure (d :: ds)) fun ds => f_lines_of ds) fun xs => R.pure (D.lst xs)) fun lines_91 =>
  R.bind (R.bind (R.bind (R.bind (R.pure lines_91) fun d => R.bind (R.pure []) fun ds => R.pure (d :: ds)) fun ds => f_bounds_in ds) fun xs => R.pure (D.lst xs)) fun bounds_92 =>
  R.bind (R.bind (R.bind (R.bind (R.bind (R.pure bounds_92) fun d => R.bind (R.pure []) fun ds => R.pure (d :: ds)) fun ds => f_has_points ds) fun d => R.opt (boolD d)) fun b => R.pure (!b)) fun b => R.ite b (R.bind (R.bind (R.bind (R.bind (R.pure (D.str "none")) fun d => R.bind (R.pure []) fun ds => R.pure (d :: ds)) fun ds => R.pure (D.tup ds)) fun d => R.pure (O.rt d)) fun o => R.pure (O.out o)) (R.bind (R.bind (R.bind (R.bind (R.pure lines_91) fun d => R.bind (R.bind (R.pure v_row) fun d => R.bind (R.pure []) fun ds => R.pure (d :: ds)) fun ds => R.pure (d :: ds)) fun ds => f_side_of ds) fun d => R.opt ((gmTup (gmCons Option.some (gmCons Option.some gmNil))) d)) fun z93 =>
  R.bind (R.bind (R.bind (R.bind (R.pure z93.1) fun d => R.bind (R.bind (R.pure z93.2.1) fun d => R.bind (R.bind (R.pure bounds_92) fun d => R.bind (R.pure []) fun ds => R.pure (d :: ds)) fun ds => R.pure (d :: ds)) fun ds => R.pure (d :: ds)) fun ds => f_is_endless ds) fun d => R.opt (boolD d)) fun b => R.ite b (R.bind (R.bind (R.bind (R.bind (R.pure (D.str "endless")) fun d => R.bind (R.pure []) fun ds => R.pure (d :: ds)) fun ds => R.pure (D.tup ds)) fun d => R.pure (O.rt d)) fun o => R.pure (O.out o)) (R.bind (R.bind (R.bind (R.bind (R.pure z93.1) fun d => R.bind (R.bind (R.pure z93.2.1) fun d => R.bind (R.bind (R.pure bounds_92) fun d => R.bind (R.pure []) fun ds => R.pure (d :: ds)) fun ds => R.pure (d :: ds)) fun ds => R.pure (d :: ds)) fun ds => f_best_lead ds) fun d => R.opt ((gmTup (gmCons Option.some (gmCons Option.some gmNil))) d)) fun z94 =>
  R.bind (R.bind (R.bind (R.pure (D.str "at")) fun d => R.bind (R.bind (R.pure z94.2.1) fun d => R.bind (R.bind (R.bind (R.bind (R.pure z94.1) fun d => R.bind (R.bind (R.bind (R.bind (R.pure lines_91) fun d => R.bind (R.bind (R.pure v_row) fun d => R.bind (R.bind (R.pure z94.1) fun d => R.bind (R.pure []) fun ds => R.pure (d :: ds)) fun ds => R.pure (d :: ds)) fun ds => R.pure (d :: ds)) fun ds => f_other_at ds) fun d => R.bind (R.pure []) fun ds => R.pure (d :: ds)) fun ds => R.pure (d :: ds)) fun ds => R.pure (D.tup ds)) fun d => R.bind (R.pure []) fun ds => R.pure (d :: ds)) fun ds => R.pure (d :: ds)) fun ds => R.pure (d :: ds)) fun ds => R.pure (D.tup ds)) fun d => R.pure (O.rt d)))
def f_greatest_of : List CR.D → R (CR.D)
  | [v_formula, v_row] => R.bind (r_greatest_of v_formula v_row) retDR
  | _ => .stuck
theorem sm_greatest_of (v_formula : CR.D) (v_row : CR.D) : Rel (m_greatest_of v_formula v_row) (r_greatest_of v_formula v_row) := by
  have h_need_plain_set := s_need_plain_set
  have h_need_row := s_need_row
  have h_lines_of := s_lines_of
  have h_bounds_in := s_bounds_in
  have h_side_of := s_side_of
  have h_is_endless := s_is_endless
  have h_best_lead := s_best_lead
  have h_has_points := s_has_points
  have h_other_at := s_other_at
  unfold m_greatest_of r_greatest_of
  repeat (first | with_reducible exact h_need_plain_set _ | with_reducible exact h_need_row _ | with_reducible exact h_lines_of _ | with_reducible exact h_bounds_in _ | with_reducible exact h_side_of _ | with_reducible exact h_is_endless _ | with_reducible exact h_best_lead _ | with_reducible exact h_has_points _ | with_reducible exact h_other_at _ | (first | with_reducible exact rel_pure | with_reducible exact rel_opt | with_reducible exact rel_guard | with_reducible exact rel_raise | with_reducible exact rel_sorted | with_reducible exact rel_retD | with_reducible exact rel_retL | with_reducible assumption | with_reducible refine rel_bind ?_ (fun _ => ?_) | with_reducible refine rel_ite ?_ ?_ | with_reducible refine rel_nox ?_ | with_reducible refine rel_comp (fun _ => ?_) (fun _ => ?_) _ | with_reducible refine rel_for (fun _ _ => ?_) _ _ | with_reducible refine rel_while (fun _ => ?_) (fun _ => ?_) _ | with_reducible refine rel_nxt (fun _ => ?_) | with_reducible refine rel_aft (fun _ => ?_) | with_reducible refine rel_try ?_ ?_))
theorem s_greatest_of : ∀ ds, Rel (F_greatest_of ds) (f_greatest_of ds) := fun ds => by
    match ds with
    | [v_formula, v_row] => exact rel_bind (sm_greatest_of v_formula v_row) fun _ => rel_retD
    | [] => exact rel_stuck
    | [_] => exact rel_stuck
    | _ :: _ :: _ :: _ => exact rel_stuck
theorem b_greatest_of {X : Cx} {W : WX} (g : GX X W p_greatest_of) (hr : Room 19 X.A) (cf_need_plain_set : CallF X.prog X.w X.K X.mg X.base "need_plain_set" 19 (SpD X.K X.mg 1 F_need_plain_set)) (cf_need_row : CallF X.prog X.w X.K X.mg X.base "need_row" 2 (SpD X.K X.mg 1 F_need_row)) (cf_lines_of : CallF X.prog X.w X.K X.mg X.base "lines_of" 1 (SpL X.K X.mg 1 F_lines_of)) (cf_bounds_in : CallF X.prog X.w X.K X.mg X.base "bounds_in" 2 (SpL X.K X.mg 1 F_bounds_in)) (cf_side_of : CallF X.prog X.w X.K X.mg X.base "side_of" 2 (SpD X.K X.mg 2 F_side_of)) (cf_is_endless : CallF X.prog X.w X.K X.mg X.base "is_endless" 3 (SpD X.K X.mg 3 F_is_endless)) (cf_best_lead : CallF X.prog X.w X.K X.mg X.base "best_lead" 3 (SpD X.K X.mg 3 F_best_lead)) (cf_has_points : CallF X.prog X.w X.K X.mg X.base "has_points" 2 (SpD X.K X.mg 1 F_has_points)) (cf_other_at : CallF X.prog X.w X.K X.mg X.base "other_at" 2 (SpD X.K X.mg 3 F_other_at)) :
  ∃ m, Ss X W (fun c : CR.D × CR.D => [.pl c.1, .pl c.2, .un, .un, .un, .un, .un, .un]) ⟨[.un, .un, .un, .un, .un, .un, .un, .un], fun _ (_ : Unit) => [.un, .un, .un, .un, .un, .un, .un, .un], fun _ (e : Empty) => e.elim⟩ (defBody (top 58)) m ∧ m = fun c => m_greatest_of c.1 c.2 :=
 ⟨_, (ss_cons (sp_expr (ee_call g 0 cf_need_plain_set hr rfl rfl (ea_cons (ee_var g 0 rfl rfl fun _ => rfl) ea_nil) rfl))
 (ss_rho (fun c => [.pl c.2.1, .pl c.2.2, .un, .un, .un, .un, .un, .un]) rfl (ss_cons (sp_expr (ee_call g 1 cf_need_row hr rfl rfl (ea_cons (ee_var g 1 rfl rfl fun _ => rfl) ea_nil) rfl))
 (ss_rho (fun c => [.pl c.2.2.1, .pl c.2.2.2, .un, .un, .un, .un, .un, .un]) rfl (ss_cons (sp_set g 2 rfl rfl (el_ee (el_call g 2 cf_lines_of hr rfl rfl (ea_cons (ee_var g 0 rfl rfl fun _ => rfl) ea_nil) rfl)))
 (ss_rho (fun c => [.pl c.2.2.2.1, .pl c.2.2.2.2, .pl c.1, .un, .un, .un, .un, .un]) rfl (ss_cons (sp_set g 3 rfl rfl (el_ee (el_call g 3 cf_bounds_in hr rfl rfl (ea_cons (ee_var g 2 rfl rfl fun _ => rfl) ea_nil) rfl)))
 (ss_rho (fun c => [.pl c.2.2.2.2.1, .pl c.2.2.2.2.2, .pl c.2.1, .pl c.1, .un, .un, .un, .un]) rfl (ss_ifx (et_not (et_val (ee_call g 4 cf_has_points hr rfl rfl (ea_cons (ee_var g 3 rfl rfl fun _ => rfl) ea_nil) rfl))) (ss_ret (ee_tup (ea_cons (ee_str (by decide +kernel)) ea_nil) rfl) (by ((intro _; repeat (first | exact trivial | refine And.intro rfl ?_)))))
 (ss_cons (sp_asg (ee_call g 5 cf_side_of hr rfl rfl (ea_cons (ee_var g 2 rfl rfl fun _ => rfl) (ea_cons (ee_var g 1 rfl rfl fun _ => rfl) ea_nil)) rfl) (eg_tup g (egs_cons (eg_name g 4 rfl rfl) (egs_cons (eg_name g 5 rfl rfl) egs_nil)) (gml1 (gml1 gml0))))
 (ss_rho (fun c => [.pl c.2.2.2.2.2.1, .pl c.2.2.2.2.2.2, .pl c.2.2.1, .pl c.2.1, .pl c.1.1, .pl c.1.2.1, .un, .un]) rfl (ss_ifx (et_val (ee_call g 6 cf_is_endless hr rfl rfl (ea_cons (ee_var g 4 rfl rfl fun _ => rfl) (ea_cons (ee_var g 5 rfl rfl fun _ => rfl) (ea_cons (ee_var g 3 rfl rfl fun _ => rfl) ea_nil))) rfl)) (ss_ret (ee_tup (ea_cons (ee_str (by decide +kernel)) ea_nil) rfl) (by ((intro _; repeat (first | exact trivial | refine And.intro rfl ?_)))))
 (ss_cons (sp_asg (ee_call g 7 cf_best_lead hr rfl rfl (ea_cons (ee_var g 4 rfl rfl fun _ => rfl) (ea_cons (ee_var g 5 rfl rfl fun _ => rfl) (ea_cons (ee_var g 3 rfl rfl fun _ => rfl) ea_nil))) rfl) (eg_tup g (egs_cons (eg_name g 6 rfl rfl) (egs_cons (eg_name g 7 rfl rfl) egs_nil)) (gml1 (gml1 gml0))))
 (ss_rho (fun c => [.pl c.2.2.2.2.2.2.1, .pl c.2.2.2.2.2.2.2, .pl c.2.2.2.1, .pl c.2.2.1, .pl c.2.1.1, .pl c.2.1.2.1, .pl c.1.1, .pl c.1.2.1]) rfl (ss_ret (ee_tup (ea_cons (ee_str (by decide +kernel)) (ea_cons (ee_var g 7 rfl rfl fun _ => rfl) (ea_cons (ee_tup (ea_cons (ee_var g 6 rfl rfl fun _ => rfl) (ea_cons (ee_call g 8 cf_other_at hr rfl rfl (ea_cons (ee_var g 2 rfl rfl fun _ => rfl) (ea_cons (ee_var g 1 rfl rfl fun _ => rfl) (ea_cons (ee_var g 6 rfl rfl fun _ => rfl) ea_nil))) rfl) ea_nil)) rfl) ea_nil))) rfl) (by ((intro _; repeat (first | exact trivial | refine And.intro rfl ?_))))))))))))))))))), by kernel_rfl⟩

def p__law_cup : Cp := ⟨["script", "cell"], defScope (top 60), [0, 1], [0, 1], [0, 1], ["abs", "list", "int"], true⟩
def m__law_cup (v_script : CR.D) : M (O Unit Empty) :=
  M.bind (M.bind (M.bind (M.bind (M.bind (M.bind (M.bind (M.pure v_script) fun d => M.opt (seqD d)) fun xs => M.pure (D.lst xs)) fun x => M.bind (M.bind (M.bind (M.pure (D.int 0)) fun d => M.bind (M.pure []) fun ds => M.pure (d :: ds)) fun xs => M.pure (D.lst xs)) fun y => M.opt (addL x y)) fun xs => M.pure (D.lst xs)) fun x => M.bind (M.pure (D.int 0)) fun y => M.opt (getD x y)) fun d => M.opt (absD d)) fun cell_95 =>
  M.bind (M.bind (M.bind (M.bind (M.pure cell_95) fun x => M.bind (M.bind (M.pure (D.int 10)) fun x => M.bind (M.pure (D.int 18)) fun y => M.opt (powD x y)) fun y => M.opt (geB x y)) fun t => M.ite t (M.bind (M.pure cell_95) fun x => M.bind (M.pure (D.int 79)) fun y => M.opt (divD x y)) (M.pure (D.int 0))) fun d => M.bind (M.bind (M.bind (M.bind (M.bind (M.bind (M.bind (M.pure cell_95) fun x => M.bind (M.pure (D.int 293)) fun y => M.opt (mulD x y)) fun x => M.bind (M.pure (D.int 2903)) fun y => M.opt (addD x y)) fun d => M.opt (intD d)) fun x => M.bind (M.pure (D.int 2077503127)) fun y => M.opt (modD x y)) fun x => M.bind (M.pure (D.int 179)) fun y => M.opt (addD x y)) fun d => M.bind (M.pure []) fun ds => M.pure (d :: ds)) fun ds => M.pure (d :: ds)) fun d => M.pure (O.rl d)
def F__law_cup : List CR.D → M (List CR.D)
  | [v_script] => M.bind (m__law_cup v_script) retL
  | _ => M.stuck
def r__law_cup (v_script : CR.D) : R (O Unit Empty) :=
  R.bind (R.bind (R.bind (R.bind (R.bind (R.bind (R.bind (R.pure v_script) fun d => R.opt (seqD d)) fun xs => R.pure (D.lst xs)) fun x => R.bind (R.bind (R.bind (R.pure (D.int 0)) fun d => R.bind (R.pure []) fun ds => R.pure (d :: ds)) fun xs => R.pure (D.lst xs)) fun y => R.opt (addL x y)) fun xs => R.pure (D.lst xs)) fun x => R.bind (R.pure (D.int 0)) fun y => R.opt (getD x y)) fun d => R.opt (absD d)) fun cell_95 =>
  R.bind (R.bind (R.bind (R.bind (R.pure cell_95) fun x => R.bind (R.bind (R.pure (D.int 10)) fun x => R.bind (R.pure (D.int 18)) fun y => R.opt (powD x y)) fun y => R.opt (geB x y)) fun t => R.ite t (R.bind (R.pure cell_95) fun x => R.bind (R.pure (D.int 79)) fun y => R.opt (divD x y)) (R.pure (D.int 0))) fun d => R.bind (R.bind (R.bind (R.bind (R.bind (R.bind (R.bind (R.pure cell_95) fun x => R.bind (R.pure (D.int 293)) fun y => R.opt (mulD x y)) fun x => R.bind (R.pure (D.int 2903)) fun y => R.opt (addD x y)) fun d => R.opt (intD d)) fun x => R.bind (R.pure (D.int 2077503127)) fun y => R.opt (modD x y)) fun x => R.bind (R.pure (D.int 179)) fun y => R.opt (addD x y)) fun d => R.bind (R.pure []) fun ds => R.pure (d :: ds)) fun ds => R.pure (d :: ds)) fun d => R.pure (O.rl d)
def f__law_cup : List CR.D → R (List CR.D)
  | [v_script] => R.bind (r__law_cup v_script) retLR
  | _ => .stuck
theorem sm__law_cup (v_script : CR.D) : Rel (m__law_cup v_script) (r__law_cup v_script) := by
  unfold m__law_cup r__law_cup
  repeat (first | (first | with_reducible exact rel_pure | with_reducible exact rel_opt | with_reducible exact rel_guard | with_reducible exact rel_raise | with_reducible exact rel_sorted | with_reducible exact rel_retD | with_reducible exact rel_retL | with_reducible assumption | with_reducible refine rel_bind ?_ (fun _ => ?_) | with_reducible refine rel_ite ?_ ?_ | with_reducible refine rel_nox ?_ | with_reducible refine rel_comp (fun _ => ?_) (fun _ => ?_) _ | with_reducible refine rel_for (fun _ _ => ?_) _ _ | with_reducible refine rel_while (fun _ => ?_) (fun _ => ?_) _ | with_reducible refine rel_nxt (fun _ => ?_) | with_reducible refine rel_aft (fun _ => ?_) | with_reducible refine rel_try ?_ ?_))
theorem s__law_cup : ∀ ds, Rel (F__law_cup ds) (f__law_cup ds) := fun ds => by
    match ds with
    | [v_script] => exact rel_bind (sm__law_cup v_script) fun _ => rel_retL
    | [] => exact rel_stuck
    | _ :: _ :: _ => exact rel_stuck
theorem b__law_cup {X : Cx} {W : WX} (g : GX X W p__law_cup) (hr : Room 0 X.A) :
  ∃ m, Ss X W (fun c : CR.D => [.pl c, .un]) ⟨[.un, .un], fun _ (_ : Unit) => [.un, .un], fun _ (e : Empty) => e.elim⟩ (defBody (top 60)) m ∧ m = fun c => m__law_cup c :=
 ⟨_, (ss_cons (sp_set g 1 rfl rfl (ee_abs g 0 rfl (er_of (ee_ix (er_of (el_ee (el_bin ol_add (er_of (el_ee (el_list g 1 rfl (er_of (ee_var g 0 rfl rfl fun _ => rfl))))) (er_of (el_ee (el_lst (ea_cons ee_int ea_nil) rfl)))))) ee_int))))
 (ss_rho (fun c => [.pl c.2, .pl c.1]) rfl (ss_ret1 (el_lst (ea_cons (ee_if (et_cmp ob_ge rfl (er_of (ee_var g 1 rfl rfl fun _ => rfl)) (er_of (ee_bin od_pow (er_of ee_int) (er_of ee_int)))) (ee_bin od_div (er_of (ee_var g 1 rfl rfl fun _ => rfl)) (er_of ee_int)) ee_int) (ea_cons (ee_bin od_add (er_of (ee_bin od_mod (er_of (ee_fint g 2 rfl (er_of (ee_bin od_add (er_of (ee_bin od_mul (er_of (ee_var g 1 rfl rfl fun _ => rfl)) (er_of ee_int))) (er_of ee_int))))) (er_of ee_int))) (er_of ee_int)) ea_nil)) rfl) (by ((intro _; repeat (first | exact trivial | refine And.intro rfl ?_))))))), by kernel_rfl⟩

def p__law_roll : Cp := ⟨["cup", "many", "found", "deep"], defScope (top 61), [0, 1, 2, 3], [0, 1, 2, 3], [0, 1, 2, 3], ["int"], true⟩
def m__law_roll (v_many : CR.D) : M (O Unit Empty) :=
  M.bind (M.any cupP) fun cu =>
  M.bind (M.bind (M.bind (M.pure (D.int 0)) fun y => M.opt (getD (D.lst cu) y)) fun x => M.bind (M.pure (D.int 0)) fun y => M.opt (gtB x y)) fun b => M.ite b (M.bind (M.bind (M.bind (M.bind (M.bind (M.pure (D.int 0)) fun y => M.opt (getD (D.lst cu) y)) fun d => M.opt (intD d)) fun x => M.bind (M.pure v_many) fun y => M.opt (modD x y)) fun found_96 =>
  M.bind (M.bind (M.bind (M.bind (M.pure (D.int 0)) fun y => M.opt (getD (D.lst cu) y)) fun x => M.bind (M.pure v_many) fun y => M.opt (divD x y)) fun d => M.bind (M.pure (D.int 0)) fun j => M.bind (M.opt (setAt cu j)) fun j => M.pure (d, j)) fun z97 =>
  M.bind (M.must (cupP ((cu).set z97.2 z97.1))) fun _ => M.bind (M.pure found_96) fun d => M.pure (O.rt d)) fun o => M.pure (O.out o)) (M.bind (M.bind (M.bind (M.bind (M.bind (M.bind (M.bind (M.pure (D.int 1)) fun y => M.opt (getD (D.lst cu) y)) fun x => M.bind (M.pure (D.int 31069)) fun y => M.opt (mulD x y)) fun x => M.bind (M.pure (D.int 8017)) fun y => M.opt (addD x y)) fun d => M.opt (intD d)) fun x => M.bind (M.pure (D.int 2147483489)) fun y => M.opt (modD x y)) fun d => M.bind (M.pure (D.int 1)) fun j => M.bind (M.opt (setAt cu j)) fun j => M.pure (d, j)) fun z98 =>
  M.bind (M.bind (M.bind (M.bind (M.bind (M.pure (D.int 1)) fun y => M.opt (getD (D.lst ((cu).set z98.2 z98.1)) y)) fun x => M.bind (M.bind (M.bind (M.pure (D.int 1)) fun y => M.opt (getD (D.lst ((cu).set z98.2 z98.1)) y)) fun x => M.bind (M.pure (D.int 241)) fun y => M.opt (addD x y)) fun y => M.opt (mulD x y)) fun d => M.opt (intD d)) fun x => M.bind (M.pure (D.int 2147483587)) fun y => M.opt (modD x y)) fun deep_99 =>
  M.bind (M.must (cupP ((cu).set z98.2 z98.1))) fun _ => M.bind (M.bind (M.bind (M.bind (M.pure deep_99) fun x => M.bind (M.pure (D.int 829)) fun y => M.opt (divD x y)) fun d => M.opt (intD d)) fun x => M.bind (M.pure v_many) fun y => M.opt (modD x y)) fun d => M.pure (O.rt d))
def F__law_roll : List CR.D → M (CR.D)
  | [v_many] => M.bind (m__law_roll v_many) retD
  | _ => M.stuck
theorem b__law_roll (a : Addr) {X : Cx} {W : WX} (g : GX X W p__law_roll) (hr : Room 0 X.A) :
  ∃ m, Ss X W (fun c : CR.D => [.ab a cupP, .pl c, .un, .un]) ⟨[.ab a cupP, .un, .un, .un], fun _ (_ : Unit) => [.ab a cupP, .un, .un, .un], fun _ (e : Empty) => e.elim⟩ (defBody (top 61)) m ∧ m = fun c => m__law_roll c :=
 ⟨_, (ss_open 0 (fun _ => rfl) (ss_rho (fun c => [.ab a fun ys => ys = c.1, .pl c.2, .un, .un]) rfl (ss_ifx (et_cmp ob_gt rfl (er_of (ee_ixab g 0 rfl rfl (fun _ => rfl) ee_int)) (er_of ee_int)) (ss_cons (sp_set g 2 rfl rfl (ee_bin od_mod (er_of (ee_fint g 0 rfl (er_of (ee_ixab g 0 rfl rfl (fun _ => rfl) ee_int)))) (er_of (ee_var g 1 rfl rfl fun _ => rfl))))
 (ss_rho (fun c => [.ab a fun ys => ys = c.2.1, .pl c.2.2, .pl c.1, .un]) rfl (ss_cons (sp_setIab g 0 rfl rfl (fun _ => rfl) (ee_bin od_div (er_of (ee_ixab g 0 rfl rfl (fun _ => rfl) ee_int)) (er_of (ee_var g 1 rfl rfl fun _ => rfl))) ee_int)
 (ss_rho (fun c => [.ab a fun ys => ys = ((c.2.2.1).set c.1.2 c.1.1), .pl c.2.2.2, .pl c.2.1, .un]) rfl (ss_close 0 (fun _ => rfl) (ss_ret (ee_var g 2 rfl rfl fun _ => rfl) (by ((intro _; repeat (first | exact trivial | refine And.intro rfl ?_))))))))))
 (ss_cons (sp_setIab g 0 rfl rfl (fun _ => rfl) (ee_bin od_mod (er_of (ee_fint g 0 rfl (er_of (ee_bin od_add (er_of (ee_bin od_mul (er_of (ee_ixab g 0 rfl rfl (fun _ => rfl) ee_int)) (er_of ee_int))) (er_of ee_int))))) (er_of ee_int)) ee_int)
 (ss_rho (fun c => [.ab a fun ys => ys = ((c.2.1).set c.1.2 c.1.1), .pl c.2.2, .un, .un]) rfl (ss_cons (sp_set g 3 rfl rfl (ee_bin od_mod (er_of (ee_fint g 0 rfl (er_of (ee_bin od_mul (er_of (ee_ixab g 0 rfl rfl (fun _ => rfl) ee_int)) (er_of (ee_bin od_add (er_of (ee_ixab g 0 rfl rfl (fun _ => rfl) ee_int)) (er_of ee_int))))))) (er_of ee_int)))
 (ss_rho (fun c => [.ab a fun ys => ys = ((c.2.2.1).set c.2.1.2 c.2.1.1), .pl c.2.2.2, .un, .pl c.1]) rfl (ss_close 0 (fun _ => rfl) (ss_ret (ee_bin od_mod (er_of (ee_fint g 0 rfl (er_of (ee_bin od_div (er_of (ee_var g 3 rfl rfl fun _ => rfl)) (er_of ee_int))))) (er_of (ee_var g 1 rfl rfl fun _ => rfl))) (by ((intro _; repeat (first | exact trivial | refine And.intro rfl ?_))))))))))))), by kernel_rfl⟩

def p__law_some : Cp := ⟨["cup", "things"], defScope (top 62), [0, 1], [0, 1], [0, 1], ["_law_roll", "len"], true⟩
def m__law_some (v_things : CR.D) : M (O Unit Empty) :=
  M.bind (M.bind (M.pure v_things) fun x => M.bind (M.bind (M.bind (M.bind (M.pure v_things) fun d => M.opt (lenD d)) fun d => M.bind (M.pure []) fun ds => M.pure (d :: ds)) fun ds => M.nox (F__law_roll ds)) fun y => M.opt (getD x y)) fun d => M.pure (O.rt d)
def F__law_some : List CR.D → M (CR.D)
  | [v_things] => M.bind (m__law_some v_things) retD
  | _ => M.stuck
theorem b__law_some (a : Addr) {X : Cx} {W : WX} (g : GX X W p__law_some) (hr : Room 1 X.A) (cf__law_roll : CallF X.prog X.w X.K X.mg X.base "_law_roll" 1 (SpC X.K X.mg cupP 1 F__law_roll)) :
  ∃ m, Ss X W (fun c : CR.D => [.ab a cupP, .pl c]) ⟨[.ab a cupP, .un], fun _ (_ : Unit) => [.ab a cupP, .un], fun _ (e : Empty) => e.elim⟩ (defBody (top 62)) m ∧ m = fun c => m__law_some c :=
 ⟨_, (ss_ret (ee_ix (er_of (ee_var g 1 rfl rfl fun _ => rfl)) (ee_callC g 0 0 cf__law_roll hr rfl rfl rfl rfl (fun _ => rfl) (ea_cons (ee_len g 1 rfl (er_of (ee_var g 1 rfl rfl fun _ => rfl))) ea_nil) rfl)) (by ((intro _; repeat (first | exact trivial | refine And.intro rfl ?_))))), by kernel_rfl⟩

def p__law_plain_set : Cp := ⟨["cup", "lines", "turn", "row"], defScope (top 63), [0, 1, 2, 3], [0, 1, 2, 3], [0, 1, 2, 3], ["range", "_law_some", "_law_roll", "len", "tuple"], true⟩
def m__law_plain_set  : M (O Unit Empty) :=
  M.bind (M.pure []) fun lines_100 =>
  M.bind (M.bind (M.bind (M.bind (M.bind (M.bind (M.pure (D.int 0)) fun d => M.bind (M.bind (M.pure (D.int 1)) fun d => M.bind (M.bind (M.pure (D.int 2)) fun d => M.bind (M.bind (M.pure (D.int 3)) fun d => M.bind (M.bind (M.pure (D.int 3)) fun d => M.bind (M.bind (M.pure (D.int 4)) fun d => M.bind (M.bind (M.pure (D.int 5)) fun d => M.bind (M.bind (M.pure (D.int 6)) fun d => M.bind (M.pure []) fun ds => M.pure (d :: ds)) fun ds => M.pure (d :: ds)) fun ds => M.pure (d :: ds)) fun ds => M.pure (d :: ds)) fun ds => M.pure (d :: ds)) fun ds => M.pure (d :: ds)) fun ds => M.pure (d :: ds)) fun ds => M.pure (d :: ds)) fun xs => M.pure (D.lst xs)) fun d => M.bind (M.pure []) fun ds => M.pure (d :: ds)) fun ds => M.nox (F__law_some ds)) fun d => M.opt (rngM (D.int 0) d)) fun xs => M.bind (forM Option.some (fun v102 a101 => M.bind (M.bind (M.bind (M.bind (M.bind (M.bind (M.pure (D.int 7)) fun d => M.bind (M.pure []) fun ds => M.pure (d :: ds)) fun ds => M.nox (F__law_roll ds)) fun x => M.bind (M.pure (D.int 3)) fun y => M.opt (subD x y)) fun d => M.bind (M.bind (M.bind (M.bind (M.bind (M.bind (M.bind (M.pure (D.int 1)) fun d => M.opt (negD d)) fun d => M.bind (M.bind (M.pure (D.int 1)) fun d => M.bind (M.bind (M.bind (M.pure (D.int 1)) fun d => M.opt (negD d)) fun d => M.bind (M.bind (M.pure (D.int 1)) fun d => M.bind (M.bind (M.pure (D.int 0)) fun d => M.bind (M.pure []) fun ds => M.pure (d :: ds)) fun ds => M.pure (d :: ds)) fun ds => M.pure (d :: ds)) fun ds => M.pure (d :: ds)) fun ds => M.pure (d :: ds)) fun xs => M.pure (D.lst xs)) fun d => M.bind (M.pure []) fun ds => M.pure (d :: ds)) fun ds => M.nox (F__law_some ds)) fun d => M.bind (M.pure []) fun ds => M.pure (d :: ds)) fun ds => M.pure (d :: ds)) fun ds => M.pure (D.tup ds)) fun row_103 =>
  M.bind (M.bind (M.bind (M.bind (M.pure (D.str "most")) fun d => M.bind (M.bind (M.pure row_103) fun d => M.bind (M.bind (M.bind (M.bind (M.bind (M.bind (M.bind (M.bind (M.pure (D.int 21)) fun d => M.bind (M.pure []) fun ds => M.pure (d :: ds)) fun ds => M.nox (F__law_roll ds)) fun d => M.bind (M.bind (M.bind (M.bind (M.bind (M.pure (D.int 41)) fun d => M.bind (M.pure []) fun ds => M.pure (d :: ds)) fun ds => M.nox (F__law_roll ds)) fun x => M.bind (M.pure (D.int 20)) fun y => M.opt (subD x y)) fun d => M.bind (M.bind (M.bind (M.bind (M.pure (D.int 6)) fun d => M.bind (M.pure []) fun ds => M.pure (d :: ds)) fun ds => M.nox (F__law_roll ds)) fun d => M.bind (M.pure []) fun ds => M.pure (d :: ds)) fun ds => M.pure (d :: ds)) fun ds => M.pure (d :: ds)) fun xs => M.pure (D.lst xs)) fun d => M.bind (M.pure []) fun ds => M.pure (d :: ds)) fun ds => M.nox (F__law_some ds)) fun d => M.bind (M.pure []) fun ds => M.pure (d :: ds)) fun ds => M.pure (d :: ds)) fun ds => M.pure (d :: ds)) fun ds => M.pure (D.tup ds)) fun d => M.bind (M.guard (lenB a101)) fun _ => M.pure d) fun e104 =>
  M.pure (O.nx (a101 ++ [e104]))) xs lines_100) fun o => O.aft o fun a105 =>
  M.bind (M.bind (M.bind (M.bind (M.pure (D.lst a105)) fun d => M.opt (lenD d)) fun x => M.bind (M.pure (D.int 1)) fun y => M.opt (eqB x y)) fun t => M.ite t (M.bind (M.bind (M.bind (M.pure (D.int 2)) fun d => M.bind (M.pure []) fun ds => M.pure (d :: ds)) fun ds => M.nox (F__law_roll ds)) fun x => M.bind (M.pure (D.int 0)) fun y => M.opt (eqB x y)) (M.pure false)) fun b => M.ite b (M.bind (M.bind (M.bind (M.bind (M.pure (D.int 2)) fun d => M.bind (M.bind (M.bind (M.pure []) fun ds => M.pure (D.tup ds)) fun d => M.bind (M.bind (M.bind (M.pure (D.lst a105)) fun x => M.bind (M.pure (D.int 0)) fun y => M.opt (getD x y)) fun d => M.bind (M.pure []) fun ds => M.pure (d :: ds)) fun ds => M.pure (d :: ds)) fun ds => M.pure (d :: ds)) fun ds => M.pure (D.tup ds)) fun d => M.pure (O.rt d)) fun o => M.pure (O.out o)) (M.bind (M.bind (M.bind (M.pure (D.int 2)) fun d => M.bind (M.bind (M.bind (M.pure []) fun ds => M.pure (D.tup ds)) fun d => M.bind (M.bind (M.bind (M.bind (M.pure (D.str "and")) fun d => M.bind (M.bind (M.bind (M.pure (D.lst a105)) fun d => M.opt (tupD d)) fun d => M.bind (M.pure []) fun ds => M.pure (d :: ds)) fun ds => M.pure (d :: ds)) fun ds => M.pure (D.tup ds)) fun d => M.bind (M.pure []) fun ds => M.pure (d :: ds)) fun ds => M.pure (d :: ds)) fun ds => M.pure (d :: ds)) fun ds => M.pure (D.tup ds)) fun d => M.pure (O.rt d))
def F__law_plain_set : List CR.D → M (CR.D)
  | [] => M.bind (m__law_plain_set ) retD
  | _ => M.stuck
theorem b__law_plain_set (a : Addr) {X : Cx} {W : WX} (g : GX X W p__law_plain_set) (hr : Room 2 X.A) (cf__law_some : CallF X.prog X.w X.K X.mg X.base "_law_some" 2 (SpC X.K X.mg cupP 1 F__law_some)) (cf__law_roll : CallF X.prog X.w X.K X.mg X.base "_law_roll" 1 (SpC X.K X.mg cupP 1 F__law_roll)) :
  ∃ m, Ss X W (fun c : Unit => [.ab a cupP, .un, .un, .un]) ⟨[.ab a cupP, .un, .un, .un], fun _ (_ : Unit) => [.ab a cupP, .un, .un, .un], fun _ (e : Empty) => e.elim⟩ (defBody (top 63)) m ∧ m = fun c => m__law_plain_set :=
 ⟨_, (ss_cons (sp_lset g 1 rfl rfl (el_lst ea_nil rfl))
 (ss_rho (fun c => [.ab a cupP, .ow c.1, .un, .un]) rfl (ss_fou g (fun (a : List CR.D) l => (l.set 1 (.ow a))) (fun c => c.1) (by ((intro _; repeat (first | exact trivial | refine And.intro rfl ?_)))) (ei_range1 g 0 rfl (ee_callC g 0 1 cf__law_some hr rfl rfl rfl rfl (fun _ => rfl) (ea_cons (el_ee (el_lst (ea_cons ee_int (ea_cons ee_int (ea_cons ee_int (ea_cons ee_int (ea_cons ee_int (ea_cons ee_int (ea_cons ee_int (ea_cons ee_int ea_nil)))))))) rfl)) ea_nil) rfl)) (eg_name g 2 rfl rfl) (ss_rho (fun c => [.ab a cupP, .ow c.2.1, .pl c.1, .un]) rfl (ss_cons (sp_set g 3 rfl rfl (ee_tup (ea_cons (ee_bin od_sub (er_of (ee_callC g 0 2 cf__law_roll hr rfl rfl rfl rfl (fun _ => rfl) (ea_cons ee_int ea_nil) rfl)) (er_of ee_int)) (ea_cons (ee_callC g 0 1 cf__law_some hr rfl rfl rfl rfl (fun _ => rfl) (ea_cons (el_ee (el_lst (ea_cons (ee_neg ee_int) (ea_cons ee_int (ea_cons (ee_neg ee_int) (ea_cons ee_int (ea_cons ee_int ea_nil))))) rfl)) ea_nil) rfl) ea_nil)) rfl))
 (ss_rho (fun c => [.ab a cupP, .ow c.2.2.1, .pl c.2.1, .pl c.1]) rfl (ss_cons (sp_app g 1 rfl rfl (fun _ => rfl) (ee_tup (ea_cons (ee_str (by decide +kernel)) (ea_cons (ee_var g 3 rfl rfl fun _ => rfl) (ea_cons (ee_callC g 0 1 cf__law_some hr rfl rfl rfl rfl (fun _ => rfl) (ea_cons (el_ee (el_lst (ea_cons (ee_callC g 0 2 cf__law_roll hr rfl rfl rfl rfl (fun _ => rfl) (ea_cons ee_int ea_nil) rfl) (ea_cons (ee_bin od_sub (er_of (ee_callC g 0 2 cf__law_roll hr rfl rfl rfl rfl (fun _ => rfl) (ea_cons ee_int ea_nil) rfl)) (er_of ee_int)) (ea_cons (ee_callC g 0 2 cf__law_roll hr rfl rfl rfl rfl (fun _ => rfl) (ea_cons ee_int ea_nil) rfl) ea_nil))) rfl)) ea_nil) rfl) ea_nil))) rfl))
 (ss_end (fun c => (c.2.2.2.1 ++ [c.1])) (by ((intro _; repeat (first | exact trivial | refine And.intro rfl ?_)))))))))
 (ss_frz 1 (fun _ => rfl) (ss_rho (fun c => [.ab a cupP, .pl (D.lst c.1), .un, .un]) rfl (ss_ifx (et_w (ew_and (et_cmp (ob_eq g) rfl (er_of (ee_len g 3 rfl (er_of (ee_var g 1 rfl rfl fun _ => rfl)))) (er_of ee_int)) (ew_and1 (et_cmp (ob_eq g) rfl (er_of (ee_callC g 0 2 cf__law_roll hr rfl rfl rfl rfl (fun _ => rfl) (ea_cons ee_int ea_nil) rfl)) (er_of ee_int))))) (ss_ret (ee_tup (ea_cons ee_int (ea_cons (ee_tup ea_nil rfl) (ea_cons (ee_ix (er_of (ee_var g 1 rfl rfl fun _ => rfl)) ee_int) ea_nil))) rfl) (by ((intro _; repeat (first | exact trivial | refine And.intro rfl ?_)))))
 (ss_ret (ee_tup (ea_cons ee_int (ea_cons (ee_tup ea_nil rfl) (ea_cons (ee_tup (ea_cons (ee_str (by decide +kernel)) (ea_cons (ee_tuple g 4 rfl (er_of (ee_var g 1 rfl rfl fun _ => rfl))) ea_nil)) rfl) ea_nil))) rfl) (by ((intro _; repeat (first | exact trivial | refine And.intro rfl ?_))))))))))), by kernel_rfl⟩

def p__law_error : Cp := ⟨["formula", "row", "e"], defScope (top 64), [0, 1, 2], [0, 1, 2], [0, 1, 2], ["corners_of", "greatest_of", "CountError", "isinstance", "InvalidFormula", "InvalidRow"], true⟩
def m__law_error (v_formula : CR.D) (v_row : CR.D) : M (O Unit Empty) :=
  tryE (M.bind (M.bind (M.pure v_row) fun x => M.bind (M.pure D.non) fun y => M.opt (isB x y)) fun b => M.ite b (M.bind (M.bind (M.bind (M.bind (M.pure v_formula) fun d => M.bind (M.pure []) fun ds => M.pure (d :: ds)) fun ds => F_corners_of ds) fun _ => M.pure ()) fun _ =>
  M.pure (O.nx ())) (M.bind (M.bind (M.bind (M.bind (M.pure v_formula) fun d => M.bind (M.bind (M.pure v_row) fun d => M.bind (M.pure []) fun ds => M.pure (d :: ds)) fun ds => M.pure (d :: ds)) fun ds => F_greatest_of ds) fun _ => M.pure ()) fun _ =>
  M.pure (O.nx ()))) (fun y => List.lookup y [("CountError", (D.str "other")), ("InvalidFormula", (D.str "formula")), ("InvalidRow", (D.str "row"))]) (M.bind (M.pure (D.str "")) fun d => M.pure (O.rt d))
def F__law_error : List CR.D → M (CR.D)
  | [v_formula, v_row] => M.bind (m__law_error v_formula v_row) retD
  | _ => M.stuck
def r__law_error (v_formula : CR.D) (v_row : CR.D) : R (O Unit Empty) :=
  tryR (R.bind (R.bind (R.pure v_row) fun x => R.bind (R.pure D.non) fun y => R.opt (isB x y)) fun b => R.ite b (R.bind (R.bind (R.bind (R.bind (R.pure v_formula) fun d => R.bind (R.pure []) fun ds => R.pure (d :: ds)) fun ds => f_corners_of ds) fun _ => R.pure ()) fun _ =>
  R.pure (O.nx ())) (R.bind (R.bind (R.bind (R.bind (R.pure v_formula) fun d => R.bind (R.bind (R.pure v_row) fun d => R.bind (R.pure []) fun ds => R.pure (d :: ds)) fun ds => R.pure (d :: ds)) fun ds => f_greatest_of ds) fun _ => R.pure ()) fun _ =>
  R.pure (O.nx ()))) (fun y => List.lookup y [("CountError", (D.str "other")), ("InvalidFormula", (D.str "formula")), ("InvalidRow", (D.str "row"))]) (R.bind (R.pure (D.str "")) fun d => R.pure (O.rt d))
def f__law_error : List CR.D → R (CR.D)
  | [v_formula, v_row] => R.bind (r__law_error v_formula v_row) retDR
  | _ => .stuck
theorem sm__law_error (v_formula : CR.D) (v_row : CR.D) : Rel (m__law_error v_formula v_row) (r__law_error v_formula v_row) := by
  have h_corners_of := s_corners_of
  have h_greatest_of := s_greatest_of
  unfold m__law_error r__law_error
  repeat (first | with_reducible exact h_corners_of _ | with_reducible exact h_greatest_of _ | (first | with_reducible exact rel_pure | with_reducible exact rel_opt | with_reducible exact rel_guard | with_reducible exact rel_raise | with_reducible exact rel_sorted | with_reducible exact rel_retD | with_reducible exact rel_retL | with_reducible assumption | with_reducible refine rel_bind ?_ (fun _ => ?_) | with_reducible refine rel_ite ?_ ?_ | with_reducible refine rel_nox ?_ | with_reducible refine rel_comp (fun _ => ?_) (fun _ => ?_) _ | with_reducible refine rel_for (fun _ _ => ?_) _ _ | with_reducible refine rel_while (fun _ => ?_) (fun _ => ?_) _ | with_reducible refine rel_nxt (fun _ => ?_) | with_reducible refine rel_aft (fun _ => ?_) | with_reducible refine rel_try ?_ ?_))
theorem s__law_error : ∀ ds, Rel (F__law_error ds) (f__law_error ds) := fun ds => by
    match ds with
    | [v_formula, v_row] => exact rel_bind (sm__law_error v_formula v_row) fun _ => rel_retD
    | [] => exact rel_stuck
    | [_] => exact rel_stuck
    | _ :: _ :: _ :: _ => exact rel_stuck
theorem b__law_error {X : Cx} {W : WX} (g : GX X W p__law_error) (hr : Room 20 X.A) (cf_corners_of : CallF X.prog X.w X.K X.mg X.base "corners_of" 20 (SpD X.K X.mg 1 F_corners_of)) (cf_greatest_of : CallF X.prog X.w X.K X.mg X.base "greatest_of" 20 (SpD X.K X.mg 2 F_greatest_of)) (tx : TopX X) (gc_CountError : X.mg "CountError" = some (.ref (He.ga X.K "CountError"))) (gc_InvalidFormula : X.mg "InvalidFormula" = some (.ref (He.ga X.K "InvalidFormula"))) (gc_InvalidRow : X.mg "InvalidRow" = some (.ref (He.ga X.K "InvalidRow"))) (xc_CountError : ExcC X.K (He.ga X.K "CountError")) (xc_InvalidFormula : ExcC X.K (He.ga X.K "InvalidFormula")) (xc_InvalidRow : ExcC X.K (He.ga X.K "InvalidRow")) (ki_CountError_InvalidFormula : PySem.W.kitOne X.K (.ref (He.ga X.K "CountError")) (.ref (He.ga X.K "InvalidFormula")) = some false) (ki_CountError_InvalidRow : PySem.W.kitOne X.K (.ref (He.ga X.K "CountError")) (.ref (He.ga X.K "InvalidRow")) = some false) (ki_InvalidFormula_InvalidFormula : PySem.W.kitOne X.K (.ref (He.ga X.K "InvalidFormula")) (.ref (He.ga X.K "InvalidFormula")) = some true) (ki_InvalidFormula_InvalidRow : PySem.W.kitOne X.K (.ref (He.ga X.K "InvalidFormula")) (.ref (He.ga X.K "InvalidRow")) = some false) (ki_InvalidRow_InvalidFormula : PySem.W.kitOne X.K (.ref (He.ga X.K "InvalidRow")) (.ref (He.ga X.K "InvalidFormula")) = some false) (ki_InvalidRow_InvalidRow : PySem.W.kitOne X.K (.ref (He.ga X.K "InvalidRow")) (.ref (He.ga X.K "InvalidRow")) = some true) (xm_CountError_CountError : PySem.W.exmOne X.K (.ref (He.ga X.K "CountError")) (.ref (He.ga X.K "CountError")) = some true) (xm_InvalidFormula_CountError : PySem.W.exmOne X.K (.ref (He.ga X.K "InvalidFormula")) (.ref (He.ga X.K "CountError")) = some true) (xm_InvalidRow_CountError : PySem.W.exmOne X.K (.ref (He.ga X.K "InvalidRow")) (.ref (He.ga X.K "CountError")) = some true) :
  ∃ m, Ss X W (fun c : CR.D × CR.D => [.pl c.1, .pl c.2, .un]) ⟨[.un, .un, .un], fun _ (_ : Unit) => [.un, .un, .un], fun _ (e : Empty) => e.elim⟩ (defBody (top 64)) m ∧ m = fun c => m__law_error c.1 c.2 :=
 ⟨_, (ss_tryR g tx 2 [("CountError", (D.str "other")), ("InvalidFormula", (D.str "formula")), ("InvalidRow", (D.str "row"))] rfl rfl ⟨g.gl (j := 2) rfl, by decide +kernel, .inl gc_CountError⟩ rfl (fun _ => rfl) (fun _ _ _ g106 => (ss_ife (et_cmp ob_is rfl (er_of (ee_var g106 1 rfl rfl fun _ => rfl)) (er_of ee_non)) (ss_cons (sp_expr (ee_call g106 0 cf_corners_of hr rfl rfl (ea_cons (ee_var g106 0 rfl rfl fun _ => rfl) ea_nil) rfl))
 (ss_end (fun c => ()) (by ((intro _; repeat (first | exact trivial | refine And.intro rfl ?_))))))
 (ss_cons (sp_expr (ee_call g106 1 cf_greatest_of hr rfl rfl (ea_cons (ee_var g106 0 rfl rfl fun _ => rfl) (ea_cons (ee_var g106 1 rfl rfl fun _ => rfl) ea_nil)) rfl))
 (ss_end (fun c => ()) (by ((intro _; repeat (first | exact trivial | refine And.intro rfl ?_)))))))) ⟨⟨_, gc_CountError, xm_CountError_CountError, fun ea _ _ hz hf gs => (eh_iff (eh_is (i := 2) gs 3 4 (call_isE xc_CountError hz hf) rfl rfl rfl rfl gc_InvalidFormula ki_CountError_InvalidFormula) ⟨_, (eh_str (i := 2) (a := ea) (by decide +kernel))⟩ (eh_iff (eh_is (i := 2) gs 3 5 (call_isE xc_CountError hz hf) rfl rfl rfl rfl gc_InvalidRow ki_CountError_InvalidRow) ⟨_, (eh_str (i := 2) (a := ea) (by decide +kernel))⟩ (eh_str (i := 2) (a := ea) (by decide +kernel))))⟩, ⟨⟨_, gc_InvalidFormula, xm_InvalidFormula_CountError, fun ea _ _ hz hf gs => (eh_ift (eh_is (i := 2) gs 3 4 (call_isE xc_InvalidFormula hz hf) rfl rfl rfl rfl gc_InvalidFormula ki_InvalidFormula_InvalidFormula) (eh_str (i := 2) (a := ea) (by decide +kernel)) ⟨_, (eh_iff (eh_is (i := 2) gs 3 5 (call_isE xc_InvalidFormula hz hf) rfl rfl rfl rfl gc_InvalidRow ki_InvalidFormula_InvalidRow) ⟨_, (eh_str (i := 2) (a := ea) (by decide +kernel))⟩ (eh_str (i := 2) (a := ea) (by decide +kernel)))⟩)⟩, ⟨⟨_, gc_InvalidRow, xm_InvalidRow_CountError, fun ea _ _ hz hf gs => (eh_iff (eh_is (i := 2) gs 3 4 (call_isE xc_InvalidRow hz hf) rfl rfl rfl rfl gc_InvalidFormula ki_InvalidRow_InvalidFormula) ⟨_, (eh_str (i := 2) (a := ea) (by decide +kernel))⟩ (eh_ift (eh_is (i := 2) gs 3 5 (call_isE xc_InvalidRow hz hf) rfl rfl rfl rfl gc_InvalidRow ki_InvalidRow_InvalidRow) (eh_str (i := 2) (a := ea) (by decide +kernel)) ⟨_, (eh_str (i := 2) (a := ea) (by decide +kernel))⟩))⟩, trivial⟩⟩⟩
 (ss_ret (ee_str (by decide +kernel)) (by ((intro _; repeat (first | exact trivial | refine And.intro rfl ?_)))))), by kernel_rfl⟩

def p_law : Cp := ⟨["script", "cup", "formula", "test", "leaf", "tests", "bad", "other", "rows", "one", "row"], defScope (top 65), [0, 1, 2, 3, 4, 5, 6, 7, 8], [0, 1, 2, 3, 4, 5, 6, 7, 8], [0, 3, 4, 5, 6, 7, 8], ["_law_cup", "_law_plain_set", "is_plain_set", "_law_error", "list", "_law_some"], true⟩
def m_law (v_script : CR.D) : M (O Unit Empty) :=
  M.bind (M.bind (M.bind (M.pure v_script) fun d => M.bind (M.pure []) fun ds => M.pure (d :: ds)) fun ds => F__law_cup ds) fun cup_107 =>
  M.bind (M.must (cupP cup_107)) fun _ => M.bind (M.any fun _ : Addr => True) fun _ =>
  M.bind (M.bind (M.pure []) fun ds => M.nox (F__law_plain_set ds)) fun formula_108 =>
  M.bind (M.bind (M.bind (M.pure formula_108) fun x => M.bind (M.pure (D.int 2)) fun y => M.opt (getD x y)) fun d => M.bind (M.bind (M.bind (M.bind (M.pure (D.str "most")) fun d => M.bind (M.bind (M.bind (M.bind (M.pure (D.int 1)) fun d => M.bind (M.bind (M.pure (D.int 1)) fun d => M.bind (M.pure []) fun ds => M.pure (d :: ds)) fun ds => M.pure (d :: ds)) fun ds => M.pure (D.tup ds)) fun d => M.bind (M.bind (M.pure (D.int 3)) fun d => M.bind (M.pure []) fun ds => M.pure (d :: ds)) fun ds => M.pure (d :: ds)) fun ds => M.pure (d :: ds)) fun ds => M.pure (D.tup ds)) fun d => M.bind (M.pure ()) fun r => M.pure (d, r)) fun r => M.pure (d, r)) fun a109 =>
  M.bind (M.bind (M.bind (M.bind (M.bind (M.pure formula_108) fun d => M.bind (M.pure []) fun ds => M.pure (d :: ds)) fun ds => F_is_plain_set ds) fun x => M.bind (M.pure (D.bl true)) fun y => M.opt (isntB x y)) fun t => M.ite t (M.pure true) (M.bind (M.bind (M.bind (M.bind (M.pure formula_108) fun d => M.bind (M.bind (M.pure D.non) fun d => M.bind (M.pure []) fun ds => M.pure (d :: ds)) fun ds => M.pure (d :: ds)) fun ds => F__law_error ds) fun x => M.bind (M.pure (D.str "")) fun y => M.opt (neB x y)) fun t => M.ite t (M.pure true) (M.bind (M.bind (M.bind (M.pure formula_108) fun d => M.bind (M.bind (M.bind (M.bind (M.pure (D.int 3)) fun d => M.bind (M.bind (M.bind (M.bind (M.pure (D.int 10)) fun x => M.bind (M.pure (D.int 6)) fun y => M.opt (powD x y)) fun d => M.opt (negD d)) fun d => M.bind (M.pure []) fun ds => M.pure (d :: ds)) fun ds => M.pure (d :: ds)) fun ds => M.pure (D.tup ds)) fun d => M.bind (M.pure []) fun ds => M.pure (d :: ds)) fun ds => M.pure (d :: ds)) fun ds => F__law_error ds) fun x => M.bind (M.pure (D.str "")) fun y => M.opt (neB x y)))) fun b => M.ite b (M.bind (M.bind (M.pure (D.bl false)) fun d => M.pure (O.rt d)) fun o => M.pure (O.out o)) (M.bind (M.bind (M.bind (M.bind (M.bind (M.pure (D.str "or")) fun d => M.bind (M.bind (M.bind (M.bind (M.pure a109.2.1) fun d => M.bind (M.pure []) fun ds => M.pure (d :: ds)) fun ds => M.pure (D.tup ds)) fun d => M.bind (M.pure []) fun ds => M.pure (d :: ds)) fun ds => M.pure (d :: ds)) fun ds => M.pure (D.tup ds)) fun d => M.bind (M.bind (M.bind (M.bind (M.pure (D.str "not")) fun d => M.bind (M.bind (M.pure a109.2.1) fun d => M.bind (M.pure []) fun ds => M.pure (d :: ds)) fun ds => M.pure (d :: ds)) fun ds => M.pure (D.tup ds)) fun d => M.bind (M.bind (M.bind (M.bind (M.pure (D.str "and")) fun d => M.bind (M.bind (M.bind (M.bind (M.pure a109.2.1) fun d => M.bind (M.bind (M.bind (M.bind (M.pure (D.str "and")) fun d => M.bind (M.bind (M.bind (M.pure []) fun ds => M.pure (D.tup ds)) fun d => M.bind (M.pure []) fun ds => M.pure (d :: ds)) fun ds => M.pure (d :: ds)) fun ds => M.pure (D.tup ds)) fun d => M.bind (M.pure []) fun ds => M.pure (d :: ds)) fun ds => M.pure (d :: ds)) fun ds => M.pure (D.tup ds)) fun d => M.bind (M.pure []) fun ds => M.pure (d :: ds)) fun ds => M.pure (d :: ds)) fun ds => M.pure (D.tup ds)) fun d => M.bind (M.bind (M.bind (M.bind (M.pure (D.str "and")) fun d => M.bind (M.bind (M.bind (M.bind (M.pure a109.2.1) fun d => M.bind (M.bind (M.bind (M.bind (M.pure (D.str "div")) fun d => M.bind (M.bind (M.pure (D.int 2)) fun d => M.bind (M.bind (M.bind (M.bind (M.pure (D.int 1)) fun d => M.bind (M.bind (M.pure (D.int 0)) fun d => M.bind (M.pure []) fun ds => M.pure (d :: ds)) fun ds => M.pure (d :: ds)) fun ds => M.pure (D.tup ds)) fun d => M.bind (M.bind (M.pure (D.int 0)) fun d => M.bind (M.pure []) fun ds => M.pure (d :: ds)) fun ds => M.pure (d :: ds)) fun ds => M.pure (d :: ds)) fun ds => M.pure (d :: ds)) fun ds => M.pure (D.tup ds)) fun d => M.bind (M.pure []) fun ds => M.pure (d :: ds)) fun ds => M.pure (d :: ds)) fun ds => M.pure (D.tup ds)) fun d => M.bind (M.pure []) fun ds => M.pure (d :: ds)) fun ds => M.pure (d :: ds)) fun ds => M.pure (D.tup ds)) fun d => M.bind (M.bind (M.bind (M.bind (M.pure (D.str "div")) fun d => M.bind (M.bind (M.pure (D.int 2)) fun d => M.bind (M.bind (M.bind (M.bind (M.pure (D.int 1)) fun d => M.bind (M.bind (M.pure (D.int 1)) fun d => M.bind (M.pure []) fun ds => M.pure (d :: ds)) fun ds => M.pure (d :: ds)) fun ds => M.pure (D.tup ds)) fun d => M.bind (M.bind (M.pure (D.int 0)) fun d => M.bind (M.pure []) fun ds => M.pure (d :: ds)) fun ds => M.pure (d :: ds)) fun ds => M.pure (d :: ds)) fun ds => M.pure (d :: ds)) fun ds => M.pure (D.tup ds)) fun d => M.bind (M.bind (M.bind (M.bind (M.pure (D.str "and")) fun d => M.bind (M.bind (M.bind (M.bind (M.pure a109.2.1) fun d => M.bind (M.pure []) fun ds => M.pure (d :: ds)) fun xs => M.pure (D.lst xs)) fun d => M.bind (M.pure []) fun ds => M.pure (d :: ds)) fun ds => M.pure (d :: ds)) fun ds => M.pure (D.tup ds)) fun d => M.bind (M.pure []) fun ds => M.pure (d :: ds)) fun ds => M.pure (d :: ds)) fun ds => M.pure (d :: ds)) fun ds => M.pure (d :: ds)) fun ds => M.pure (d :: ds)) fun ds => M.pure (d :: ds)) fun xs => M.pure (D.lst xs)) fun tests_110 =>
  M.bind (M.bind (M.bind (M.pure tests_110) fun x => M.bind (M.bind (M.bind (M.bind (M.bind (M.pure (D.str "and")) fun d => M.bind (M.bind (M.bind (M.bind (M.bind (M.pure a109.2.1) fun d => M.bind (M.pure []) fun ds => M.pure (d :: ds)) fun ds => M.pure (D.tup ds)) fun x => M.bind (M.pure (D.int 7)) fun y => M.opt (mulD x y)) fun d => M.bind (M.pure []) fun ds => M.pure (d :: ds)) fun ds => M.pure (d :: ds)) fun ds => M.pure (D.tup ds)) fun d => M.bind (M.bind (M.bind (M.bind (M.pure (D.str "and")) fun d => M.bind (M.bind (M.bind (M.bind (M.bind (M.bind (M.pure (D.str "most")) fun d => M.bind (M.bind (M.bind (M.bind (M.pure (D.int 4)) fun d => M.bind (M.bind (M.pure (D.int 0)) fun d => M.bind (M.pure []) fun ds => M.pure (d :: ds)) fun ds => M.pure (d :: ds)) fun ds => M.pure (D.tup ds)) fun d => M.bind (M.bind (M.pure (D.int 1)) fun d => M.bind (M.pure []) fun ds => M.pure (d :: ds)) fun ds => M.pure (d :: ds)) fun ds => M.pure (d :: ds)) fun ds => M.pure (D.tup ds)) fun d => M.bind (M.pure []) fun ds => M.pure (d :: ds)) fun ds => M.pure (D.tup ds)) fun d => M.bind (M.pure []) fun ds => M.pure (d :: ds)) fun ds => M.pure (d :: ds)) fun ds => M.pure (D.tup ds)) fun d => M.bind (M.bind (M.bind (M.bind (M.pure (D.str "most")) fun d => M.bind (M.bind (M.bind (M.bind (M.pure (D.int 0)) fun d => M.bind (M.bind (M.pure (D.int 2)) fun d => M.bind (M.pure []) fun ds => M.pure (d :: ds)) fun ds => M.pure (d :: ds)) fun ds => M.pure (D.tup ds)) fun d => M.bind (M.bind (M.pure (D.int 1)) fun d => M.bind (M.pure []) fun ds => M.pure (d :: ds)) fun ds => M.pure (d :: ds)) fun ds => M.pure (d :: ds)) fun ds => M.pure (D.tup ds)) fun d => M.bind (M.bind (M.bind (M.bind (M.pure (D.str "most")) fun d => M.bind (M.bind (M.bind (M.bind (M.pure (D.int 1)) fun d => M.bind (M.bind (M.pure (D.int 1)) fun d => M.bind (M.pure []) fun ds => M.pure (d :: ds)) fun ds => M.pure (d :: ds)) fun ds => M.pure (D.tup ds)) fun d => M.bind (M.bind (M.pure (D.int 21)) fun d => M.bind (M.pure []) fun ds => M.pure (d :: ds)) fun ds => M.pure (d :: ds)) fun ds => M.pure (d :: ds)) fun ds => M.pure (D.tup ds)) fun d => M.bind (M.bind (M.bind (M.bind (M.pure (D.str "most")) fun d => M.bind (M.bind (M.bind (M.bind (M.pure (D.int 1)) fun d => M.bind (M.pure []) fun ds => M.pure (d :: ds)) fun ds => M.pure (D.tup ds)) fun d => M.bind (M.bind (M.pure (D.int 1)) fun d => M.bind (M.pure []) fun ds => M.pure (d :: ds)) fun ds => M.pure (d :: ds)) fun ds => M.pure (d :: ds)) fun ds => M.pure (D.tup ds)) fun d => M.bind (M.bind (M.bind (M.bind (M.pure (D.str "most")) fun d => M.bind (M.bind (M.bind (M.bind (M.pure (D.bl true)) fun d => M.bind (M.bind (M.pure (D.int 1)) fun d => M.bind (M.pure []) fun ds => M.pure (d :: ds)) fun ds => M.pure (d :: ds)) fun ds => M.pure (D.tup ds)) fun d => M.bind (M.bind (M.pure (D.int 1)) fun d => M.bind (M.pure []) fun ds => M.pure (d :: ds)) fun ds => M.pure (d :: ds)) fun ds => M.pure (d :: ds)) fun ds => M.pure (D.tup ds)) fun d => M.bind (M.pure []) fun ds => M.pure (d :: ds)) fun ds => M.pure (d :: ds)) fun ds => M.pure (d :: ds)) fun ds => M.pure (d :: ds)) fun ds => M.pure (d :: ds)) fun ds => M.pure (d :: ds)) fun xs => M.pure (D.lst xs)) fun y => M.opt (addL x y)) fun xs => M.pure (D.lst xs)) fun tests_111 =>
  M.bind (M.bind (M.bind (M.pure tests_111) fun x => M.bind (M.bind (M.bind (M.bind (M.bind (M.pure (D.str "and")) fun d => M.bind (M.bind (M.bind (M.bind (M.bind (M.bind (M.pure (D.str "most")) fun d => M.bind (M.bind (M.bind (M.bind (M.bind (M.pure (D.int 4)) fun d => M.opt (negD d)) fun d => M.bind (M.bind (M.pure (D.int 0)) fun d => M.bind (M.pure []) fun ds => M.pure (d :: ds)) fun ds => M.pure (d :: ds)) fun ds => M.pure (D.tup ds)) fun d => M.bind (M.bind (M.pure (D.int 1)) fun d => M.bind (M.pure []) fun ds => M.pure (d :: ds)) fun ds => M.pure (d :: ds)) fun ds => M.pure (d :: ds)) fun ds => M.pure (D.tup ds)) fun d => M.bind (M.bind (M.pure a109.2.1) fun d => M.bind (M.pure []) fun ds => M.pure (d :: ds)) fun ds => M.pure (d :: ds)) fun ds => M.pure (D.tup ds)) fun d => M.bind (M.pure []) fun ds => M.pure (d :: ds)) fun ds => M.pure (d :: ds)) fun ds => M.pure (D.tup ds)) fun d => M.bind (M.bind (M.bind (M.bind (M.pure (D.str "most")) fun d => M.bind (M.bind (M.bind (M.bind (M.pure (D.int 0)) fun d => M.bind (M.bind (M.bind (M.pure (D.int 2)) fun d => M.opt (negD d)) fun d => M.bind (M.pure []) fun ds => M.pure (d :: ds)) fun ds => M.pure (d :: ds)) fun ds => M.pure (D.tup ds)) fun d => M.bind (M.bind (M.pure (D.int 1)) fun d => M.bind (M.pure []) fun ds => M.pure (d :: ds)) fun ds => M.pure (d :: ds)) fun ds => M.pure (d :: ds)) fun ds => M.pure (D.tup ds)) fun d => M.bind (M.bind (M.bind (M.bind (M.pure (D.str "most")) fun d => M.bind (M.bind (M.bind (M.bind (M.pure (D.int 1)) fun d => M.bind (M.bind (M.pure (D.int 1)) fun d => M.bind (M.pure []) fun ds => M.pure (d :: ds)) fun ds => M.pure (d :: ds)) fun ds => M.pure (D.tup ds)) fun d => M.bind (M.bind (M.bind (M.pure (D.int 21)) fun d => M.opt (negD d)) fun d => M.bind (M.pure []) fun ds => M.pure (d :: ds)) fun ds => M.pure (d :: ds)) fun ds => M.pure (d :: ds)) fun ds => M.pure (D.tup ds)) fun d => M.bind (M.bind (M.bind (M.bind (M.pure (D.str "most")) fun d => M.bind (M.bind (M.bind (M.bind (M.pure (D.int 1)) fun d => M.bind (M.bind (M.pure (D.bl true)) fun d => M.bind (M.pure []) fun ds => M.pure (d :: ds)) fun ds => M.pure (d :: ds)) fun ds => M.pure (D.tup ds)) fun d => M.bind (M.bind (M.pure (D.int 1)) fun d => M.bind (M.pure []) fun ds => M.pure (d :: ds)) fun ds => M.pure (d :: ds)) fun ds => M.pure (d :: ds)) fun ds => M.pure (D.tup ds)) fun d => M.bind (M.bind (M.bind (M.bind (M.pure (D.str "most")) fun d => M.bind (M.bind (M.bind (M.bind (M.pure (D.int 1)) fun d => M.bind (M.bind (M.pure (D.int 1)) fun d => M.bind (M.pure []) fun ds => M.pure (d :: ds)) fun ds => M.pure (d :: ds)) fun ds => M.pure (D.tup ds)) fun d => M.bind (M.bind (M.pure (D.bl true)) fun d => M.bind (M.pure []) fun ds => M.pure (d :: ds)) fun ds => M.pure (d :: ds)) fun ds => M.pure (d :: ds)) fun ds => M.pure (D.tup ds)) fun d => M.bind (M.pure []) fun ds => M.pure (d :: ds)) fun ds => M.pure (d :: ds)) fun ds => M.pure (d :: ds)) fun ds => M.pure (d :: ds)) fun ds => M.pure (d :: ds)) fun xs => M.pure (D.lst xs)) fun y => M.opt (addL x y)) fun xs => M.pure (D.lst xs)) fun tests_112 =>
  M.bind (M.bind (M.bind (M.pure tests_112) fun d => M.opt (seqD d)) fun xs => compM Option.some (fun v115 => M.pure true) (fun v115 => M.bind (M.bind (M.bind (M.pure v115) fun x => M.bind (M.pure (D.int 0)) fun y => M.opt (getD x y)) fun x => M.bind (M.pure (D.str "and")) fun y => M.opt (eqB x y)) fun t => M.ite t (M.bind (M.bind (M.bind (M.pure v115) fun x => M.bind (M.pure (D.int 0)) fun y => M.opt (getD x y)) fun d => M.bind (M.bind (M.bind (M.bind (M.pure v115) fun x => M.bind (M.pure (D.int 1)) fun y => M.opt (getD x y)) fun d => M.bind (M.bind (M.bind (M.bind (M.bind (M.pure (D.int 1)) fun d => M.bind (M.bind (M.bind (M.pure (D.int 1)) fun d => M.opt (negD d)) fun d => M.bind (M.pure []) fun ds => M.pure (d :: ds)) fun ds => M.pure (d :: ds)) fun xs => M.pure (D.lst xs)) fun d => M.bind (M.pure []) fun ds => M.pure (d :: ds)) fun ds => M.nox (F__law_some ds)) fun k => M.opt (stepT d k)) fun d => M.bind (M.pure []) fun ds => M.pure (d :: ds)) fun ds => M.pure (d :: ds)) fun ds => M.pure (D.tup ds)) (M.pure v115)) xs) fun tests_113 =>
  M.bind (M.bind (M.bind (M.pure (D.lst tests_113)) fun x => M.bind (M.bind (M.bind (M.bind (M.bind (M.pure (D.str "and")) fun d => M.bind (M.bind (M.bind (M.bind (M.pure a109.2.1) fun d => M.bind (M.bind (M.bind (M.bind (M.pure (D.str "div")) fun d => M.bind (M.bind (M.pure (D.int 2)) fun d => M.bind (M.bind (M.bind (M.bind (M.pure (D.int 1)) fun d => M.bind (M.bind (M.pure (D.int 0)) fun d => M.bind (M.pure []) fun ds => M.pure (d :: ds)) fun ds => M.pure (d :: ds)) fun ds => M.pure (D.tup ds)) fun d => M.bind (M.bind (M.pure (D.int 0)) fun d => M.bind (M.pure []) fun ds => M.pure (d :: ds)) fun ds => M.pure (d :: ds)) fun ds => M.pure (d :: ds)) fun ds => M.pure (d :: ds)) fun ds => M.pure (D.tup ds)) fun d => M.bind (M.bind (M.pure a109.2.1) fun d => M.bind (M.pure []) fun ds => M.pure (d :: ds)) fun ds => M.pure (d :: ds)) fun ds => M.pure (d :: ds)) fun ds => M.pure (D.tup ds)) fun d => M.bind (M.pure []) fun ds => M.pure (d :: ds)) fun ds => M.pure (d :: ds)) fun ds => M.pure (D.tup ds)) fun d => M.bind (M.bind (M.bind (M.bind (M.pure (D.str "and")) fun d => M.bind (M.bind (M.bind (M.bind (M.bind (M.bind (M.pure (D.str "and")) fun d => M.bind (M.bind (M.bind (M.pure []) fun ds => M.pure (D.tup ds)) fun d => M.bind (M.pure []) fun ds => M.pure (d :: ds)) fun ds => M.pure (d :: ds)) fun ds => M.pure (D.tup ds)) fun d => M.bind (M.bind (M.pure a109.2.1) fun d => M.bind (M.bind (M.pure a109.2.1) fun d => M.bind (M.pure []) fun ds => M.pure (d :: ds)) fun ds => M.pure (d :: ds)) fun ds => M.pure (d :: ds)) fun ds => M.pure (D.tup ds)) fun d => M.bind (M.pure []) fun ds => M.pure (d :: ds)) fun ds => M.pure (d :: ds)) fun ds => M.pure (D.tup ds)) fun d => M.bind (M.bind (M.bind (M.bind (M.pure (D.str "and")) fun d => M.bind (M.bind (M.bind (M.bind (M.pure a109.2.1) fun d => M.bind (M.bind (M.bind (M.bind (M.pure (D.str "not")) fun d => M.bind (M.bind (M.pure a109.2.1) fun d => M.bind (M.pure []) fun ds => M.pure (d :: ds)) fun ds => M.pure (d :: ds)) fun ds => M.pure (D.tup ds)) fun d => M.bind (M.bind (M.pure a109.2.1) fun d => M.bind (M.pure []) fun ds => M.pure (d :: ds)) fun ds => M.pure (d :: ds)) fun ds => M.pure (d :: ds)) fun ds => M.pure (D.tup ds)) fun d => M.bind (M.pure []) fun ds => M.pure (d :: ds)) fun ds => M.pure (d :: ds)) fun ds => M.pure (D.tup ds)) fun d => M.bind (M.pure []) fun ds => M.pure (d :: ds)) fun ds => M.pure (d :: ds)) fun ds => M.pure (d :: ds)) fun xs => M.pure (D.lst xs)) fun y => M.opt (addL x y)) fun xs => M.pure (D.lst xs)) fun tests_116 =>
  M.bind (M.bind (M.bind (M.bind (M.bind (M.bind (M.pure tests_116) fun d => M.opt (seqD d)) fun xs => compM Option.some (fun v119 => M.pure true) (fun v119 => M.bind (M.bind (M.pure (D.int 2)) fun d => M.bind (M.bind (M.bind (M.pure []) fun ds => M.pure (D.tup ds)) fun d => M.bind (M.bind (M.pure v119) fun d => M.bind (M.pure []) fun ds => M.pure (d :: ds)) fun ds => M.pure (d :: ds)) fun ds => M.pure (d :: ds)) fun ds => M.pure (D.tup ds)) xs) fun xs => M.pure (D.lst xs)) fun x => M.bind (M.bind (M.bind (M.bind (M.bind (M.pure (D.int 1)) fun d => M.bind (M.bind (M.bind (M.bind (M.pure (D.str "some")) fun d => M.bind (M.pure []) fun ds => M.pure (d :: ds)) fun ds => M.pure (D.tup ds)) fun d => M.bind (M.bind (M.pure a109.1) fun d => M.bind (M.pure []) fun ds => M.pure (d :: ds)) fun ds => M.pure (d :: ds)) fun ds => M.pure (d :: ds)) fun ds => M.pure (D.tup ds)) fun d => M.bind (M.bind (M.bind (M.bind (M.pure (D.int 2)) fun d => M.bind (M.bind (M.bind (M.bind (M.pure (D.str "all")) fun d => M.bind (M.pure []) fun ds => M.pure (d :: ds)) fun ds => M.pure (D.tup ds)) fun d => M.bind (M.bind (M.bind (M.bind (M.pure (D.str "most")) fun d => M.bind (M.bind (M.bind (M.bind (M.pure (D.int 1)) fun d => M.bind (M.bind (M.pure (D.int 1)) fun d => M.bind (M.bind (M.pure (D.int 1)) fun d => M.bind (M.pure []) fun ds => M.pure (d :: ds)) fun ds => M.pure (d :: ds)) fun ds => M.pure (d :: ds)) fun ds => M.pure (D.tup ds)) fun d => M.bind (M.bind (M.pure (D.int 0)) fun d => M.bind (M.pure []) fun ds => M.pure (d :: ds)) fun ds => M.pure (d :: ds)) fun ds => M.pure (d :: ds)) fun ds => M.pure (D.tup ds)) fun d => M.bind (M.pure []) fun ds => M.pure (d :: ds)) fun ds => M.pure (d :: ds)) fun ds => M.pure (d :: ds)) fun ds => M.pure (D.tup ds)) fun d => M.bind (M.bind (M.bind (M.bind (M.pure (D.int 3)) fun d => M.bind (M.bind (M.bind (M.pure []) fun ds => M.pure (D.tup ds)) fun d => M.bind (M.bind (M.bind (M.bind (M.pure (D.str "most")) fun d => M.bind (M.bind (M.bind (M.bind (M.pure (D.int 1)) fun d => M.bind (M.bind (M.pure (D.int 1)) fun d => M.bind (M.bind (M.pure (D.int 1)) fun d => M.bind (M.pure []) fun ds => M.pure (d :: ds)) fun ds => M.pure (d :: ds)) fun ds => M.pure (d :: ds)) fun ds => M.pure (D.tup ds)) fun d => M.bind (M.bind (M.pure (D.int 0)) fun d => M.bind (M.pure []) fun ds => M.pure (d :: ds)) fun ds => M.pure (d :: ds)) fun ds => M.pure (d :: ds)) fun ds => M.pure (D.tup ds)) fun d => M.bind (M.pure []) fun ds => M.pure (d :: ds)) fun ds => M.pure (d :: ds)) fun ds => M.pure (d :: ds)) fun ds => M.pure (D.tup ds)) fun d => M.bind (M.bind (M.bind (M.bind (M.pure formula_108) fun d => M.opt (seqD d)) fun xs => M.pure (D.lst xs)) fun d => M.bind (M.bind (M.pure D.non) fun d => M.bind (M.pure []) fun ds => M.pure (d :: ds)) fun ds => M.pure (d :: ds)) fun ds => M.pure (d :: ds)) fun ds => M.pure (d :: ds)) fun ds => M.pure (d :: ds)) fun xs => M.pure (D.lst xs)) fun y => M.opt (addL x y)) fun xs => M.pure (D.lst xs)) fun bad_117 =>
  M.bind (M.bind (M.bind (M.pure bad_117) fun x => M.bind (M.bind (M.bind (M.bind (M.bind (M.pure (D.int 2)) fun d => M.bind (M.bind (M.pure a109.1) fun d => M.bind (M.pure []) fun ds => M.pure (d :: ds)) fun ds => M.pure (d :: ds)) fun ds => M.pure (D.tup ds)) fun d => M.bind (M.bind (M.bind (M.bind (M.pure (D.int 2)) fun d => M.bind (M.bind (M.bind (M.pure []) fun ds => M.pure (D.tup ds)) fun d => M.bind (M.bind (M.pure a109.1) fun d => M.bind (M.bind (M.bind (M.pure []) fun ds => M.pure (D.tup ds)) fun d => M.bind (M.pure []) fun ds => M.pure (d :: ds)) fun ds => M.pure (d :: ds)) fun ds => M.pure (d :: ds)) fun ds => M.pure (d :: ds)) fun ds => M.pure (D.tup ds)) fun d => M.bind (M.pure []) fun ds => M.pure (d :: ds)) fun ds => M.pure (d :: ds)) fun xs => M.pure (D.lst xs)) fun y => M.opt (addL x y)) fun xs => M.pure (D.lst xs)) fun bad_120 =>
  M.bind (M.bind (M.bind (M.pure bad_120) fun d => M.bind (M.pure []) fun ds => M.pure (d :: ds)) fun ds => M.nox (F__law_some ds)) fun other_121 =>
  M.bind (M.bind (M.bind (M.bind (M.bind (M.bind (M.pure bad_120) fun d => M.opt (seqD d)) fun xs => compM Option.some (fun v123 => M.bind (M.bind (M.bind (M.pure v123) fun d => M.bind (M.pure []) fun ds => M.pure (d :: ds)) fun ds => F_is_plain_set ds) fun x => M.bind (M.pure (D.bl false)) fun y => M.opt (isntB x y)) (fun v123 => M.pure (D.int 1)) xs) fun xs => M.pure (D.lst xs)) fun x => M.bind (M.bind (M.pure []) fun xs => M.pure (D.lst xs)) fun y => M.opt (neB x y)) fun t => M.ite t (M.pure true) (M.bind (M.bind (M.bind (M.bind (M.pure other_121) fun d => M.bind (M.bind (M.pure D.non) fun d => M.bind (M.pure []) fun ds => M.pure (d :: ds)) fun ds => M.pure (d :: ds)) fun ds => F__law_error ds) fun x => M.bind (M.pure (D.str "formula")) fun y => M.opt (neB x y)) fun t => M.ite t (M.pure true) (M.bind (M.bind (M.bind (M.pure other_121) fun d => M.bind (M.bind (M.bind (M.bind (M.bind (M.bind (M.bind (M.bind (M.pure (D.int 1)) fun d => M.bind (M.pure []) fun ds => M.pure (d :: ds)) fun ds => M.pure (D.tup ds)) fun d => M.bind (M.bind (M.pure (D.int 5)) fun d => M.bind (M.bind (M.bind (M.bind (M.pure (D.int 1)) fun d => M.bind (M.bind (M.pure (D.int 2)) fun d => M.bind (M.pure []) fun ds => M.pure (d :: ds)) fun ds => M.pure (d :: ds)) fun ds => M.pure (D.tup ds)) fun d => M.bind (M.pure []) fun ds => M.pure (d :: ds)) fun ds => M.pure (d :: ds)) fun ds => M.pure (d :: ds)) fun xs => M.pure (D.lst xs)) fun d => M.bind (M.pure []) fun ds => M.pure (d :: ds)) fun ds => M.nox (F__law_some ds)) fun d => M.bind (M.pure []) fun ds => M.pure (d :: ds)) fun ds => M.pure (d :: ds)) fun ds => F__law_error ds) fun x => M.bind (M.pure (D.str "formula")) fun y => M.opt (neB x y)))) fun b => M.ite b (M.bind (M.bind (M.pure (D.bl false)) fun d => M.pure (O.rt d)) fun o => M.pure (O.out o)) (M.bind (M.bind (M.bind (M.bind (M.bind (M.pure (D.int 1)) fun d => M.bind (M.pure []) fun ds => M.pure (d :: ds)) fun ds => M.pure (D.tup ds)) fun d => M.bind (M.bind (M.bind (M.bind (M.pure (D.int 1)) fun d => M.bind (M.bind (M.pure (D.int 2)) fun d => M.bind (M.bind (M.pure (D.int 3)) fun d => M.bind (M.pure []) fun ds => M.pure (d :: ds)) fun ds => M.pure (d :: ds)) fun ds => M.pure (d :: ds)) fun ds => M.pure (D.tup ds)) fun d => M.bind (M.bind (M.bind (M.bind (M.pure (D.int 1)) fun d => M.bind (M.bind (M.pure (D.int 2)) fun d => M.bind (M.pure []) fun ds => M.pure (d :: ds)) fun ds => M.pure (d :: ds)) fun xs => M.pure (D.lst xs)) fun d => M.bind (M.bind (M.bind (M.bind (M.bind (M.bind (M.pure (D.int 10)) fun x => M.bind (M.pure (D.int 6)) fun y => M.opt (powD x y)) fun x => M.bind (M.pure (D.int 1)) fun y => M.opt (addD x y)) fun d => M.bind (M.bind (M.pure (D.int 0)) fun d => M.bind (M.pure []) fun ds => M.pure (d :: ds)) fun ds => M.pure (d :: ds)) fun ds => M.pure (D.tup ds)) fun d => M.bind (M.bind (M.bind (M.bind (M.bind (M.bind (M.bind (M.pure (D.int 10)) fun x => M.bind (M.pure (D.int 6)) fun y => M.opt (powD x y)) fun d => M.opt (negD d)) fun x => M.bind (M.pure (D.int 1)) fun y => M.opt (subD x y)) fun d => M.bind (M.bind (M.pure (D.int 0)) fun d => M.bind (M.pure []) fun ds => M.pure (d :: ds)) fun ds => M.pure (d :: ds)) fun ds => M.pure (D.tup ds)) fun d => M.bind (M.bind (M.bind (M.bind (M.pure (D.int 0)) fun d => M.bind (M.bind (M.bind (M.bind (M.pure (D.int 10)) fun x => M.bind (M.pure (D.int 6)) fun y => M.opt (powD x y)) fun x => M.bind (M.pure (D.int 1)) fun y => M.opt (addD x y)) fun d => M.bind (M.pure []) fun ds => M.pure (d :: ds)) fun ds => M.pure (d :: ds)) fun ds => M.pure (D.tup ds)) fun d => M.bind (M.bind (M.bind (M.bind (M.pure (D.int 0)) fun d => M.bind (M.bind (M.bind (M.bind (M.bind (M.pure (D.int 10)) fun x => M.bind (M.pure (D.int 6)) fun y => M.opt (powD x y)) fun d => M.opt (negD d)) fun x => M.bind (M.pure (D.int 1)) fun y => M.opt (subD x y)) fun d => M.bind (M.pure []) fun ds => M.pure (d :: ds)) fun ds => M.pure (d :: ds)) fun ds => M.pure (D.tup ds)) fun d => M.bind (M.bind (M.bind (M.bind (M.pure (D.bl true)) fun d => M.bind (M.bind (M.pure (D.int 1)) fun d => M.bind (M.pure []) fun ds => M.pure (d :: ds)) fun ds => M.pure (d :: ds)) fun ds => M.pure (D.tup ds)) fun d => M.bind (M.bind (M.bind (M.bind (M.pure D.non) fun d => M.bind (M.bind (M.pure (D.int 0)) fun d => M.bind (M.pure []) fun ds => M.pure (d :: ds)) fun ds => M.pure (d :: ds)) fun ds => M.pure (D.tup ds)) fun d => M.bind (M.bind (M.bind (M.bind (M.pure (D.int 1)) fun d => M.bind (M.bind (M.pure (D.str "1")) fun d => M.bind (M.pure []) fun ds => M.pure (d :: ds)) fun ds => M.pure (d :: ds)) fun ds => M.pure (D.tup ds)) fun d => M.bind (M.bind (M.pure (D.int 5)) fun d => M.bind (M.pure []) fun ds => M.pure (d :: ds)) fun ds => M.pure (d :: ds)) fun ds => M.pure (d :: ds)) fun ds => M.pure (d :: ds)) fun ds => M.pure (d :: ds)) fun ds => M.pure (d :: ds)) fun ds => M.pure (d :: ds)) fun ds => M.pure (d :: ds)) fun ds => M.pure (d :: ds)) fun ds => M.pure (d :: ds)) fun ds => M.pure (d :: ds)) fun xs => M.pure (D.lst xs)) fun rows_124 =>
  M.bind (M.bind (M.bind (M.bind (M.bind (M.bind (M.pure rows_124) fun d => M.opt (seqD d)) fun xs => compM Option.some (fun v126 => M.bind (M.bind (M.bind (M.pure formula_108) fun d => M.bind (M.bind (M.pure v126) fun d => M.bind (M.pure []) fun ds => M.pure (d :: ds)) fun ds => M.pure (d :: ds)) fun ds => F__law_error ds) fun x => M.bind (M.pure (D.str "row")) fun y => M.opt (neB x y)) (fun v126 => M.pure (D.int 1)) xs) fun xs => M.pure (D.lst xs)) fun x => M.bind (M.bind (M.pure []) fun xs => M.pure (D.lst xs)) fun y => M.bind (M.opt (eqB x y)) fun k => M.pure (D.bl k)) fun d => M.bind (M.opt (boolD d)) fun t => M.ite t (M.bind (M.bind (M.bind (M.pure formula_108) fun d => M.bind (M.bind (M.bind (M.bind (M.bind (M.bind (M.pure (D.int 10)) fun x => M.bind (M.pure (D.int 6)) fun y => M.opt (powD x y)) fun d => M.opt (negD d)) fun d => M.bind (M.bind (M.bind (M.pure (D.int 10)) fun x => M.bind (M.pure (D.int 6)) fun y => M.opt (powD x y)) fun d => M.bind (M.pure []) fun ds => M.pure (d :: ds)) fun ds => M.pure (d :: ds)) fun ds => M.pure (D.tup ds)) fun d => M.bind (M.pure []) fun ds => M.pure (d :: ds)) fun ds => M.pure (d :: ds)) fun ds => F__law_error ds) fun x => M.bind (M.pure (D.str "")) fun y => M.bind (M.opt (eqB x y)) fun k => M.pure (D.bl k)) (M.pure (D.bl false))) fun d => M.pure (O.rt d)))
def F_law : List CR.D → M (CR.D)
  | [v_script] => M.bind (m_law v_script) retD
  | _ => M.stuck
theorem b_law {X : Cx} {W : WX} (g : GX X W p_law) (hr : Room 21 X.A) (cf__law_cup : CallF X.prog X.w X.K X.mg X.base "_law_cup" 1 (SpL X.K X.mg 1 F__law_cup)) (cf__law_plain_set : CallF X.prog X.w X.K X.mg X.base "_law_plain_set" 3 (SpC X.K X.mg cupP 0 F__law_plain_set)) (cf__law_some : CallF X.prog X.w X.K X.mg X.base "_law_some" 2 (SpC X.K X.mg cupP 1 F__law_some)) (cf_is_plain_set : CallF X.prog X.w X.K X.mg X.base "is_plain_set" 19 (SpD X.K X.mg 1 F_is_plain_set)) (cf__law_error : CallF X.prog X.w X.K X.mg X.base "_law_error" 21 (SpD X.K X.mg 2 F__law_error)) :
  ∃ m, Ss X W (fun c : CR.D => [.pl c, .un, .un, .un, .un, .un, .un, .un, .un, .un, .un]) ⟨[.un, .un, .un, .un, .un, .un, .un, .un, .un, .un, .un], fun _ (_ : Unit) => [.un, .un, .un, .un, .un, .un, .un, .un, .un, .un, .un], fun _ (e : Empty) => e.elim⟩ (defBody (top 65)) m ∧ m = fun c => m_law c :=
 ⟨_, (ss_cons (sp_lset g 1 rfl rfl (el_call g 0 cf__law_cup hr rfl rfl (ea_cons (ee_var g 0 rfl rfl fun _ => rfl) ea_nil) rfl))
 (ss_cup 1 (fun _ => rfl)
 (ss_rho (fun c => [.pl c.2.2, .ab c.1 cupP, .un, .un, .un, .un, .un, .un, .un, .un, .un]) rfl (ss_cons (sp_set g 2 rfl rfl (ee_callC g 1 1 cf__law_plain_set hr rfl rfl rfl rfl (fun _ => rfl) ea_nil rfl))
 (ss_rho (fun c => [.pl c.2.2.2, .ab c.2.1 cupP, .pl c.1, .un, .un, .un, .un, .un, .un, .un, .un]) rfl (ss_cons (sp_par g 3 4 (by decide) rfl rfl rfl rfl (ex_dat (ee_ix (er_of (ee_var g 2 rfl rfl fun _ => rfl)) ee_int) (ex_dat (ee_tup (ea_cons (ee_str (by decide +kernel)) (ea_cons (ee_tup (ea_cons ee_int (ea_cons ee_int ea_nil)) rfl) (ea_cons ee_int ea_nil))) rfl) ex_nil)) (sw_of g.esc rfl))
 (ss_rho (fun c => [.pl c.2.2.2.2, .ab c.2.2.1 cupP, .pl c.2.1, .pl c.1.1, .pl c.1.2.1, .un, .un, .un, .un, .un, .un]) rfl (ss_ifx (et_w (ew_or (et_cmp ob_isnt rfl (er_of (ee_call g 2 cf_is_plain_set hr rfl rfl (ea_cons (ee_var g 2 rfl rfl fun _ => rfl) ea_nil) rfl)) (er_of ee_bl)) (ew_or (et_cmp (ob_ne g) rfl (er_of (ee_call g 3 cf__law_error hr rfl rfl (ea_cons (ee_var g 2 rfl rfl fun _ => rfl) (ea_cons ee_non ea_nil)) rfl)) (er_of (ee_str (by decide +kernel)))) (ew_or1 (et_cmp (ob_ne g) rfl (er_of (ee_call g 3 cf__law_error hr rfl rfl (ea_cons (ee_var g 2 rfl rfl fun _ => rfl) (ea_cons (ee_tup (ea_cons ee_int (ea_cons (ee_neg (ee_bin od_pow (er_of ee_int) (er_of ee_int))) ea_nil)) rfl) ea_nil)) rfl)) (er_of (ee_str (by decide +kernel)))))))) (ss_ret ee_bl (by ((intro _; repeat (first | exact trivial | refine And.intro rfl ?_)))))
 (ss_cons (sp_set g 5 rfl rfl (el_ee (el_lst (ea_cons (ee_tup (ea_cons (ee_str (by decide +kernel)) (ea_cons (ee_tup (ea_cons (ee_var g 4 rfl rfl fun _ => rfl) ea_nil) rfl) ea_nil)) rfl) (ea_cons (ee_tup (ea_cons (ee_str (by decide +kernel)) (ea_cons (ee_var g 4 rfl rfl fun _ => rfl) ea_nil)) rfl) (ea_cons (ee_tup (ea_cons (ee_str (by decide +kernel)) (ea_cons (ee_tup (ea_cons (ee_var g 4 rfl rfl fun _ => rfl) (ea_cons (ee_tup (ea_cons (ee_str (by decide +kernel)) (ea_cons (ee_tup ea_nil rfl) ea_nil)) rfl) ea_nil)) rfl) ea_nil)) rfl) (ea_cons (ee_tup (ea_cons (ee_str (by decide +kernel)) (ea_cons (ee_tup (ea_cons (ee_var g 4 rfl rfl fun _ => rfl) (ea_cons (ee_tup (ea_cons (ee_str (by decide +kernel)) (ea_cons ee_int (ea_cons (ee_tup (ea_cons ee_int (ea_cons ee_int ea_nil)) rfl) (ea_cons ee_int ea_nil)))) rfl) ea_nil)) rfl) ea_nil)) rfl) (ea_cons (ee_tup (ea_cons (ee_str (by decide +kernel)) (ea_cons ee_int (ea_cons (ee_tup (ea_cons ee_int (ea_cons ee_int ea_nil)) rfl) (ea_cons ee_int ea_nil)))) rfl) (ea_cons (ee_tup (ea_cons (ee_str (by decide +kernel)) (ea_cons (el_ee (el_lst (ea_cons (ee_var g 4 rfl rfl fun _ => rfl) ea_nil) rfl)) ea_nil)) rfl) ea_nil)))))) rfl)))
 (ss_rho (fun c => [.pl c.2.2.2.2.2, .ab c.2.2.2.1 cupP, .pl c.2.2.1, .pl c.2.1.1, .pl c.2.1.2.1, .pl c.1, .un, .un, .un, .un, .un]) rfl (ss_cons (sp_set g 5 rfl rfl (el_ee (el_bin ol_add (er_of (ee_var g 5 rfl rfl fun _ => rfl)) (er_of (el_ee (el_lst (ea_cons (ee_tup (ea_cons (ee_str (by decide +kernel)) (ea_cons (ee_bin od_mul (er_of (ee_tup (ea_cons (ee_var g 4 rfl rfl fun _ => rfl) ea_nil) rfl)) (er_of ee_int)) ea_nil)) rfl) (ea_cons (ee_tup (ea_cons (ee_str (by decide +kernel)) (ea_cons (ee_tup (ea_cons (ee_tup (ea_cons (ee_str (by decide +kernel)) (ea_cons (ee_tup (ea_cons ee_int (ea_cons ee_int ea_nil)) rfl) (ea_cons ee_int ea_nil))) rfl) ea_nil) rfl) ea_nil)) rfl) (ea_cons (ee_tup (ea_cons (ee_str (by decide +kernel)) (ea_cons (ee_tup (ea_cons ee_int (ea_cons ee_int ea_nil)) rfl) (ea_cons ee_int ea_nil))) rfl) (ea_cons (ee_tup (ea_cons (ee_str (by decide +kernel)) (ea_cons (ee_tup (ea_cons ee_int (ea_cons ee_int ea_nil)) rfl) (ea_cons ee_int ea_nil))) rfl) (ea_cons (ee_tup (ea_cons (ee_str (by decide +kernel)) (ea_cons (ee_tup (ea_cons ee_int ea_nil) rfl) (ea_cons ee_int ea_nil))) rfl) (ea_cons (ee_tup (ea_cons (ee_str (by decide +kernel)) (ea_cons (ee_tup (ea_cons ee_bl (ea_cons ee_int ea_nil)) rfl) (ea_cons ee_int ea_nil))) rfl) ea_nil)))))) rfl))))))
 (ss_rho (fun c => [.pl c.2.2.2.2.2.2, .ab c.2.2.2.2.1 cupP, .pl c.2.2.2.1, .pl c.2.2.1.1, .pl c.2.2.1.2.1, .pl c.1, .un, .un, .un, .un, .un]) rfl (ss_cons (sp_set g 5 rfl rfl (el_ee (el_bin ol_add (er_of (ee_var g 5 rfl rfl fun _ => rfl)) (er_of (el_ee (el_lst (ea_cons (ee_tup (ea_cons (ee_str (by decide +kernel)) (ea_cons (ee_tup (ea_cons (ee_tup (ea_cons (ee_str (by decide +kernel)) (ea_cons (ee_tup (ea_cons (ee_neg ee_int) (ea_cons ee_int ea_nil)) rfl) (ea_cons ee_int ea_nil))) rfl) (ea_cons (ee_var g 4 rfl rfl fun _ => rfl) ea_nil)) rfl) ea_nil)) rfl) (ea_cons (ee_tup (ea_cons (ee_str (by decide +kernel)) (ea_cons (ee_tup (ea_cons ee_int (ea_cons (ee_neg ee_int) ea_nil)) rfl) (ea_cons ee_int ea_nil))) rfl) (ea_cons (ee_tup (ea_cons (ee_str (by decide +kernel)) (ea_cons (ee_tup (ea_cons ee_int (ea_cons ee_int ea_nil)) rfl) (ea_cons (ee_neg ee_int) ea_nil))) rfl) (ea_cons (ee_tup (ea_cons (ee_str (by decide +kernel)) (ea_cons (ee_tup (ea_cons ee_int (ea_cons ee_bl ea_nil)) rfl) (ea_cons ee_int ea_nil))) rfl) (ea_cons (ee_tup (ea_cons (ee_str (by decide +kernel)) (ea_cons (ee_tup (ea_cons ee_int (ea_cons ee_int ea_nil)) rfl) (ea_cons ee_bl ea_nil))) rfl) ea_nil))))) rfl))))))
 (ss_rho (fun c => [.pl c.2.2.2.2.2.2.2, .ab c.2.2.2.2.2.1 cupP, .pl c.2.2.2.2.1, .pl c.2.2.2.1.1, .pl c.2.2.2.1.2.1, .pl c.1, .un, .un, .un, .un, .un]) rfl (ss_cons (sp_lc g 5 rfl rfl (own := [("one", 9)]) (vis := [1, 9]) (loc := [9]) (gl := ["_law_some"]) (sl := [9]) (ei_seq (ee_var g 5 rfl rfl fun _ => rfl)) (by decide +kernel) (plainAt.cons (fun _ => slotUn rfl rfl) plainAt.nil) rfl (fun _ _ _ _ _ g114 => (eg_name g114 9 rfl rfl)) (gsn_off 9) (fun _ _ _ _ _ g114 => ets_nil) (fun _ _ _ _ _ g114 => (ee_if (et_cmp (ob_eq g114) rfl (er_of (ee_ix (er_of (ee_var g114 9 rfl rfl fun _ => rfl)) ee_int)) (er_of (ee_str (by decide +kernel)))) (ee_tup (ea_cons (ee_ix (er_of (ee_var g114 9 rfl rfl fun _ => rfl)) ee_int) (ea_cons (ee_step (er_of (ee_ix (er_of (ee_var g114 9 rfl rfl fun _ => rfl)) ee_int)) (ee_callC g114 1 0 cf__law_some hr rfl rfl rfl rfl (fun _ => rfl) (ea_cons (el_ee (el_lst (ea_cons ee_int (ea_cons (ee_neg ee_int) ea_nil)) rfl)) ea_nil) rfl)) ea_nil)) rfl) (ee_var g114 9 rfl rfl fun _ => rfl))) (sww_of g.esc rfl))
 (ss_frz 5 (fun _ => rfl) (ss_rho (fun c => [.pl c.2.2.2.2.2.2.2.2, .ab c.2.2.2.2.2.2.1 cupP, .pl c.2.2.2.2.2.1, .pl c.2.2.2.2.1.1, .pl c.2.2.2.2.1.2.1, .pl (D.lst c.1), .un, .un, .un, .un, .un]) rfl (ss_cons (sp_set g 5 rfl rfl (el_ee (el_bin ol_add (er_of (ee_var g 5 rfl rfl fun _ => rfl)) (er_of (el_ee (el_lst (ea_cons (ee_tup (ea_cons (ee_str (by decide +kernel)) (ea_cons (ee_tup (ea_cons (ee_var g 4 rfl rfl fun _ => rfl) (ea_cons (ee_tup (ea_cons (ee_str (by decide +kernel)) (ea_cons ee_int (ea_cons (ee_tup (ea_cons ee_int (ea_cons ee_int ea_nil)) rfl) (ea_cons ee_int ea_nil)))) rfl) (ea_cons (ee_var g 4 rfl rfl fun _ => rfl) ea_nil))) rfl) ea_nil)) rfl) (ea_cons (ee_tup (ea_cons (ee_str (by decide +kernel)) (ea_cons (ee_tup (ea_cons (ee_tup (ea_cons (ee_str (by decide +kernel)) (ea_cons (ee_tup ea_nil rfl) ea_nil)) rfl) (ea_cons (ee_var g 4 rfl rfl fun _ => rfl) (ea_cons (ee_var g 4 rfl rfl fun _ => rfl) ea_nil))) rfl) ea_nil)) rfl) (ea_cons (ee_tup (ea_cons (ee_str (by decide +kernel)) (ea_cons (ee_tup (ea_cons (ee_var g 4 rfl rfl fun _ => rfl) (ea_cons (ee_tup (ea_cons (ee_str (by decide +kernel)) (ea_cons (ee_var g 4 rfl rfl fun _ => rfl) ea_nil)) rfl) (ea_cons (ee_var g 4 rfl rfl fun _ => rfl) ea_nil))) rfl) ea_nil)) rfl) ea_nil))) rfl))))))
 (ss_rho (fun c => [.pl c.2.2.2.2.2.2.2.2.2, .ab c.2.2.2.2.2.2.2.1 cupP, .pl c.2.2.2.2.2.2.1, .pl c.2.2.2.2.2.1.1, .pl c.2.2.2.2.2.1.2.1, .pl c.1, .un, .un, .un, .un, .un]) rfl (ss_cons (sp_set g 6 rfl rfl (el_ee (el_bin ol_add (er_of (el_ee (el_comp g (own := [("one", 9)]) (vis := [9]) (loc := [9]) (gl := []) (sl := [9]) (ei_seq (ee_var g 5 rfl rfl fun _ => rfl)) (by decide +kernel) (plainAt.cons (fun _ => slotUn rfl rfl) plainAt.nil) rfl (fun _ _ _ _ _ g118 => (eg_name g118 9 rfl rfl)) (gsn_off 9) (fun _ _ _ _ _ g118 => ets_nil) (fun _ _ _ _ _ g118 => (ee_tup (ea_cons ee_int (ea_cons (ee_tup ea_nil rfl) (ea_cons (ee_var g118 9 rfl rfl fun _ => rfl) ea_nil))) rfl))))) (er_of (el_ee (el_lst (ea_cons (ee_tup (ea_cons ee_int (ea_cons (ee_tup (ea_cons (ee_str (by decide +kernel)) ea_nil) rfl) (ea_cons (ee_var g 3 rfl rfl fun _ => rfl) ea_nil))) rfl) (ea_cons (ee_tup (ea_cons ee_int (ea_cons (ee_tup (ea_cons (ee_str (by decide +kernel)) ea_nil) rfl) (ea_cons (ee_tup (ea_cons (ee_str (by decide +kernel)) (ea_cons (ee_tup (ea_cons ee_int (ea_cons ee_int (ea_cons ee_int ea_nil))) rfl) (ea_cons ee_int ea_nil))) rfl) ea_nil))) rfl) (ea_cons (ee_tup (ea_cons ee_int (ea_cons (ee_tup ea_nil rfl) (ea_cons (ee_tup (ea_cons (ee_str (by decide +kernel)) (ea_cons (ee_tup (ea_cons ee_int (ea_cons ee_int (ea_cons ee_int ea_nil))) rfl) (ea_cons ee_int ea_nil))) rfl) ea_nil))) rfl) (ea_cons (el_ee (el_list g 4 rfl (er_of (ee_var g 2 rfl rfl fun _ => rfl)))) (ea_cons ee_non ea_nil))))) rfl))))))
 (ss_rho (fun c => [.pl c.2.2.2.2.2.2.2.2.2.2, .ab c.2.2.2.2.2.2.2.2.1 cupP, .pl c.2.2.2.2.2.2.2.1, .pl c.2.2.2.2.2.2.1.1, .pl c.2.2.2.2.2.2.1.2.1, .pl c.2.1, .pl c.1, .un, .un, .un, .un]) rfl (ss_cons (sp_set g 6 rfl rfl (el_ee (el_bin ol_add (er_of (ee_var g 6 rfl rfl fun _ => rfl)) (er_of (el_ee (el_lst (ea_cons (ee_tup (ea_cons ee_int (ea_cons (ee_var g 3 rfl rfl fun _ => rfl) ea_nil)) rfl) (ea_cons (ee_tup (ea_cons ee_int (ea_cons (ee_tup ea_nil rfl) (ea_cons (ee_var g 3 rfl rfl fun _ => rfl) (ea_cons (ee_tup ea_nil rfl) ea_nil)))) rfl) ea_nil)) rfl))))))
 (ss_rho (fun c => [.pl c.2.2.2.2.2.2.2.2.2.2.2, .ab c.2.2.2.2.2.2.2.2.2.1 cupP, .pl c.2.2.2.2.2.2.2.2.1, .pl c.2.2.2.2.2.2.2.1.1, .pl c.2.2.2.2.2.2.2.1.2.1, .pl c.2.2.1, .pl c.1, .un, .un, .un, .un]) rfl (ss_cons (sp_set g 7 rfl rfl (ee_callC g 1 5 cf__law_some hr rfl rfl rfl rfl (fun _ => rfl) (ea_cons (ee_var g 6 rfl rfl fun _ => rfl) ea_nil) rfl))
 (ss_rho (fun c => [.pl c.2.2.2.2.2.2.2.2.2.2.2.2, .ab c.2.2.2.2.2.2.2.2.2.2.1 cupP, .pl c.2.2.2.2.2.2.2.2.2.1, .pl c.2.2.2.2.2.2.2.2.1.1, .pl c.2.2.2.2.2.2.2.2.1.2.1, .pl c.2.2.2.1, .pl c.2.1, .pl c.1, .un, .un, .un]) rfl (ss_ifx (et_w (ew_or (et_cmp (ob_ne g) rfl (er_of (el_ee (el_comp g (own := [("one", 9)]) (vis := [9]) (loc := [9]) (gl := ["is_plain_set"]) (sl := [9]) (ei_seq (ee_var g 6 rfl rfl fun _ => rfl)) (by decide +kernel) (plainAt.cons (fun _ => slotUn rfl rfl) plainAt.nil) rfl (fun _ _ _ _ _ g122 => (eg_name g122 9 rfl rfl)) (gsn_off 9) (fun _ _ _ _ _ g122 => (ets_one (et_cmp ob_isnt rfl (er_of (ee_call g122 0 cf_is_plain_set hr rfl rfl (ea_cons (ee_var g122 9 rfl rfl fun _ => rfl) ea_nil) rfl)) (er_of ee_bl)))) (fun _ _ _ _ _ g122 => ee_int)))) (er_of (el_ee (el_lst ea_nil rfl)))) (ew_or (et_cmp (ob_ne g) rfl (er_of (ee_call g 3 cf__law_error hr rfl rfl (ea_cons (ee_var g 7 rfl rfl fun _ => rfl) (ea_cons ee_non ea_nil)) rfl)) (er_of (ee_str (by decide +kernel)))) (ew_or1 (et_cmp (ob_ne g) rfl (er_of (ee_call g 3 cf__law_error hr rfl rfl (ea_cons (ee_var g 7 rfl rfl fun _ => rfl) (ea_cons (ee_callC g 1 5 cf__law_some hr rfl rfl rfl rfl (fun _ => rfl) (ea_cons (el_ee (el_lst (ea_cons (ee_tup (ea_cons ee_int ea_nil) rfl) (ea_cons ee_int (ea_cons (ee_tup (ea_cons ee_int (ea_cons ee_int ea_nil)) rfl) ea_nil))) rfl)) ea_nil) rfl) ea_nil)) rfl)) (er_of (ee_str (by decide +kernel)))))))) (ss_ret ee_bl (by ((intro _; repeat (first | exact trivial | refine And.intro rfl ?_)))))
 (ss_cons (sp_set g 8 rfl rfl (el_ee (el_lst (ea_cons (ee_tup (ea_cons ee_int ea_nil) rfl) (ea_cons (ee_tup (ea_cons ee_int (ea_cons ee_int (ea_cons ee_int ea_nil))) rfl) (ea_cons (el_ee (el_lst (ea_cons ee_int (ea_cons ee_int ea_nil)) rfl)) (ea_cons (ee_tup (ea_cons (ee_bin od_add (er_of (ee_bin od_pow (er_of ee_int) (er_of ee_int))) (er_of ee_int)) (ea_cons ee_int ea_nil)) rfl) (ea_cons (ee_tup (ea_cons (ee_bin od_sub (er_of (ee_neg (ee_bin od_pow (er_of ee_int) (er_of ee_int)))) (er_of ee_int)) (ea_cons ee_int ea_nil)) rfl) (ea_cons (ee_tup (ea_cons ee_int (ea_cons (ee_bin od_add (er_of (ee_bin od_pow (er_of ee_int) (er_of ee_int))) (er_of ee_int)) ea_nil)) rfl) (ea_cons (ee_tup (ea_cons ee_int (ea_cons (ee_bin od_sub (er_of (ee_neg (ee_bin od_pow (er_of ee_int) (er_of ee_int)))) (er_of ee_int)) ea_nil)) rfl) (ea_cons (ee_tup (ea_cons ee_bl (ea_cons ee_int ea_nil)) rfl) (ea_cons (ee_tup (ea_cons ee_non (ea_cons ee_int ea_nil)) rfl) (ea_cons (ee_tup (ea_cons ee_int (ea_cons (ee_str (by decide +kernel)) ea_nil)) rfl) (ea_cons ee_int ea_nil))))))))))) rfl)))
 (ss_rho (fun c => [.pl c.2.2.2.2.2.2.2.2.2.2.2.2.2, .ab c.2.2.2.2.2.2.2.2.2.2.2.1 cupP, .pl c.2.2.2.2.2.2.2.2.2.2.1, .pl c.2.2.2.2.2.2.2.2.2.1.1, .pl c.2.2.2.2.2.2.2.2.2.1.2.1, .pl c.2.2.2.2.1, .pl c.2.2.1, .pl c.2.1, .pl c.1, .un, .un]) rfl (ss_ret (ee_and (ee_cmp (ob_eq g) rfl (er_of (el_ee (el_comp g (own := [("row", 10)]) (vis := [2, 10]) (loc := [10]) (gl := ["_law_error"]) (sl := [10]) (ei_seq (ee_var g 8 rfl rfl fun _ => rfl)) (by decide +kernel) (plainAt.cons (fun _ => slotUn rfl rfl) plainAt.nil) rfl (fun _ _ _ _ _ g125 => (eg_name g125 10 rfl rfl)) (gsn_off 10) (fun _ _ _ _ _ g125 => (ets_one (et_cmp (ob_ne g125) rfl (er_of (ee_call g125 0 cf__law_error hr rfl rfl (ea_cons (ee_var g125 2 rfl rfl fun _ => rfl) (ea_cons (ee_var g125 10 rfl rfl fun _ => rfl) ea_nil)) rfl)) (er_of (ee_str (by decide +kernel)))))) (fun _ _ _ _ _ g125 => ee_int)))) (er_of (el_ee (el_lst ea_nil rfl)))) (ee_one (ee_cmp (ob_eq g) rfl (er_of (ee_call g 3 cf__law_error hr rfl rfl (ea_cons (ee_var g 2 rfl rfl fun _ => rfl) (ea_cons (ee_tup (ea_cons (ee_neg (ee_bin od_pow (er_of ee_int) (er_of ee_int))) (ea_cons (ee_bin od_pow (er_of ee_int) (er_of ee_int)) ea_nil)) rfl) ea_nil)) rfl)) (er_of (ee_str (by decide +kernel)))))) (by ((intro _; repeat (first | exact trivial | refine And.intro rfl ?_))))))))))))))))))))))))))))))))), by kernel_rfl⟩

structure Env (K : PySem.W.Frag) (mg : Str → Option Value) : Prop where
  blt : Blt mg
  d_is_whole : mg "is_whole" = some (.ref (He.ga K "is_whole")) ∧ ∃ fd, FunD K "is_whole" "is_whole" (defArgs (top 11)) (defBody (top 11)) (defScope (top 11)) [] [] (He.ga K "is_whole") fd
  d_is_tuple_of : mg "is_tuple_of" = some (.ref (He.ga K "is_tuple_of")) ∧ ∃ fd, FunD K "is_tuple_of" "is_tuple_of" (defArgs (top 12)) (defBody (top 12)) (defScope (top 12)) [] [] (He.ga K "is_tuple_of") fd
  d_fits_row : mg "fits_row" = some (.ref (He.ga K "fits_row")) ∧ ∃ fd, FunD K "fits_row" "fits_row" (defArgs (top 13)) (defBody (top 13)) (defScope (top 13)) [] [] (He.ga K "fits_row") fd
  d_fits_leaf : mg "fits_leaf" = some (.ref (He.ga K "fits_leaf")) ∧ ∃ fd, FunD K "fits_leaf" "fits_leaf" (defArgs (top 14)) (defBody (top 14)) (defScope (top 14)) [] [] (He.ga K "fits_leaf") fd
  d_parts_of : mg "parts_of" = some (.ref (He.ga K "parts_of")) ∧ ∃ fd, FunD K "parts_of" "parts_of" (defArgs (top 15)) (defBody (top 15)) (defScope (top 15)) [] [] (He.ga K "parts_of") fd
  d_fits_knot : mg "fits_knot" = some (.ref (He.ga K "fits_knot")) ∧ ∃ fd, FunD K "fits_knot" "fits_knot" (defArgs (top 16)) (defBody (top 16)) (defScope (top 16)) [] [] (He.ga K "fits_knot") fd
  d_fits_test : mg "fits_test" = some (.ref (He.ga K "fits_test")) ∧ ∃ fd, FunD K "fits_test" "fits_test" (defArgs (top 17)) (defBody (top 17)) (defScope (top 17)) [] [] (He.ga K "fits_test") fd
  d_leaves_of : mg "leaves_of" = some (.ref (He.ga K "leaves_of")) ∧ ∃ fd, FunD K "leaves_of" "leaves_of" (defArgs (top 18)) (defBody (top 18)) (defScope (top 18)) [] [] (He.ga K "leaves_of") fd
  d_common_divisor : mg "common_divisor" = some (.ref (He.ga K "common_divisor")) ∧ ∃ fd, FunD K "common_divisor" "common_divisor" (defArgs (top 28)) (defBody (top 28)) (defScope (top 28)) [] [] (He.ga K "common_divisor") fd
  d_common_multiple : mg "common_multiple" = some (.ref (He.ga K "common_multiple")) ∧ ∃ fd, FunD K "common_multiple" "common_multiple" (defArgs (top 29)) (defBody (top 29)) (defScope (top 29)) [] [] (He.ga K "common_multiple") fd
  d_divisors_in : mg "divisors_in" = some (.ref (He.ga K "divisors_in")) ∧ ∃ fd, FunD K "divisors_in" "divisors_in" (defArgs (top 30)) (defBody (top 30)) (defScope (top 30)) [] [] (He.ga K "divisors_in") fd
  d_period_of : mg "period_of" = some (.ref (He.ga K "period_of")) ∧ ∃ fd, FunD K "period_of" "period_of" (defArgs (top 31)) (defBody (top 31)) (defScope (top 31)) [] [] (He.ga K "period_of") fd
  d_row_of : mg "row_of" = some (.ref (He.ga K "row_of")) ∧ ∃ fd, FunD K "row_of" "row_of" (defArgs (top 32)) (defBody (top 32)) (defScope (top 32)) [] [] (He.ga K "row_of") fd
  d_is_small_leaf : mg "is_small_leaf" = some (.ref (He.ga K "is_small_leaf")) ∧ ∃ fd, FunD K "is_small_leaf" "is_small_leaf" (defArgs (top 33)) (defBody (top 33)) (defScope (top 33)) [] [] (He.ga K "is_small_leaf") fd
  d_height_of : mg "height_of" = some (.ref (He.ga K "height_of")) ∧ ∃ fd, FunD K "height_of" "height_of" (defArgs (top 34)) (defBody (top 34)) (defScope (top 34)) [] [] (He.ga K "height_of") fd
  d_fits_formula : mg "fits_formula" = some (.ref (He.ga K "fits_formula")) ∧ ∃ fd, FunD K "fits_formula" "fits_formula" (defArgs (top 35)) (defBody (top 35)) (defScope (top 35)) [] [] (He.ga K "fits_formula") fd
  d_fits_plain_set : mg "fits_plain_set" = some (.ref (He.ga K "fits_plain_set")) ∧ ∃ fd, FunD K "fits_plain_set" "fits_plain_set" (defArgs (top 39)) (defBody (top 39)) (defScope (top 39)) [] [] (He.ga K "fits_plain_set") fd
  d_need_plain_set : mg "need_plain_set" = some (.ref (He.ga K "need_plain_set")) ∧ ∃ fd, FunD K "need_plain_set" "need_plain_set" (defArgs (top 40)) (defBody (top 40)) (defScope (top 40)) [] [] (He.ga K "need_plain_set") fd
  d_need_row : mg "need_row" = some (.ref (He.ga K "need_row")) ∧ ∃ fd, FunD K "need_row" "need_row" (defArgs (top 41)) (defBody (top 41)) (defScope (top 41)) [] [] (He.ga K "need_row") fd
  d_lines_of : mg "lines_of" = some (.ref (He.ga K "lines_of")) ∧ ∃ fd, FunD K "lines_of" "lines_of" (defArgs (top 42)) (defBody (top 42)) (defScope (top 42)) [] [] (He.ga K "lines_of") fd
  d_lines_with : mg "lines_with" = some (.ref (He.ga K "lines_with")) ∧ ∃ fd, FunD K "lines_with" "lines_with" (defArgs (top 43)) (defBody (top 43)) (defScope (top 43)) [] [] (He.ga K "lines_with") fd
  d_bounds_in : mg "bounds_in" = some (.ref (He.ga K "bounds_in")) ∧ ∃ fd, FunD K "bounds_in" "bounds_in" (defArgs (top 44)) (defBody (top 44)) (defScope (top 44)) [] [] (He.ga K "bounds_in") fd
  d_highest_lead : mg "highest_lead" = some (.ref (He.ga K "highest_lead")) ∧ ∃ fd, FunD K "highest_lead" "highest_lead" (defArgs (top 45)) (defBody (top 45)) (defScope (top 45)) [] [] (He.ga K "highest_lead") fd
  d_lowest_lead : mg "lowest_lead" = some (.ref (He.ga K "lowest_lead")) ∧ ∃ fd, FunD K "lowest_lead" "lowest_lead" (defArgs (top 46)) (defBody (top 46)) (defScope (top 46)) [] [] (He.ga K "lowest_lead") fd
  d_has_points : mg "has_points" = some (.ref (He.ga K "has_points")) ∧ ∃ fd, FunD K "has_points" "has_points" (defArgs (top 47)) (defBody (top 47)) (defScope (top 47)) [] [] (He.ga K "has_points") fd
  d_top_at : mg "top_at" = some (.ref (He.ga K "top_at")) ∧ ∃ fd, FunD K "top_at" "top_at" (defArgs (top 48)) (defBody (top 48)) (defScope (top 48)) [] [] (He.ga K "top_at") fd
  d_leads_of : mg "leads_of" = some (.ref (He.ga K "leads_of")) ∧ ∃ fd, FunD K "leads_of" "leads_of" (defArgs (top 49)) (defBody (top 49)) (defScope (top 49)) [] [] (He.ga K "leads_of") fd
  d_tops_that_turn : mg "tops_that_turn" = some (.ref (He.ga K "tops_that_turn")) ∧ ∃ fd, FunD K "tops_that_turn" "tops_that_turn" (defArgs (top 50)) (defBody (top 50)) (defScope (top 50)) [] [] (He.ga K "tops_that_turn") fd
  d_worths_of : mg "worths_of" = some (.ref (He.ga K "worths_of")) ∧ ∃ fd, FunD K "worths_of" "worths_of" (defArgs (top 51)) (defBody (top 51)) (defScope (top 51)) [] [] (He.ga K "worths_of") fd
  d_side_of : mg "side_of" = some (.ref (He.ga K "side_of")) ∧ ∃ fd, FunD K "side_of" "side_of" (defArgs (top 52)) (defBody (top 52)) (defScope (top 52)) [] [] (He.ga K "side_of") fd
  d_is_endless : mg "is_endless" = some (.ref (He.ga K "is_endless")) ∧ ∃ fd, FunD K "is_endless" "is_endless" (defArgs (top 53)) (defBody (top 53)) (defScope (top 53)) [] [] (He.ga K "is_endless") fd
  d_best_lead : mg "best_lead" = some (.ref (He.ga K "best_lead")) ∧ ∃ fd, FunD K "best_lead" "best_lead" (defArgs (top 54)) (defBody (top 54)) (defScope (top 54)) [] [] (He.ga K "best_lead") fd
  d_other_at : mg "other_at" = some (.ref (He.ga K "other_at")) ∧ ∃ fd, FunD K "other_at" "other_at" (defArgs (top 55)) (defBody (top 55)) (defScope (top 55)) [] [] (He.ga K "other_at") fd
  d_is_plain_set : mg "is_plain_set" = some (.ref (He.ga K "is_plain_set")) ∧ ∃ fd, FunD K "is_plain_set" "is_plain_set" (defArgs (top 56)) (defBody (top 56)) (defScope (top 56)) [] [] (He.ga K "is_plain_set") fd
  d_corners_of : mg "corners_of" = some (.ref (He.ga K "corners_of")) ∧ ∃ fd, FunD K "corners_of" "corners_of" (defArgs (top 57)) (defBody (top 57)) (defScope (top 57)) [] [] (He.ga K "corners_of") fd
  d_greatest_of : mg "greatest_of" = some (.ref (He.ga K "greatest_of")) ∧ ∃ fd, FunD K "greatest_of" "greatest_of" (defArgs (top 58)) (defBody (top 58)) (defScope (top 58)) [] [] (He.ga K "greatest_of") fd
  d__law_cup : mg "_law_cup" = some (.ref (He.ga K "_law_cup")) ∧ ∃ fd, FunD K "_law_cup" "_law_cup" (defArgs (top 60)) (defBody (top 60)) (defScope (top 60)) [] [] (He.ga K "_law_cup") fd
  d__law_roll : mg "_law_roll" = some (.ref (He.ga K "_law_roll")) ∧ ∃ fd, FunD K "_law_roll" "_law_roll" (defArgs (top 61)) (defBody (top 61)) (defScope (top 61)) [] [] (He.ga K "_law_roll") fd
  d__law_some : mg "_law_some" = some (.ref (He.ga K "_law_some")) ∧ ∃ fd, FunD K "_law_some" "_law_some" (defArgs (top 62)) (defBody (top 62)) (defScope (top 62)) [] [] (He.ga K "_law_some") fd
  d__law_plain_set : mg "_law_plain_set" = some (.ref (He.ga K "_law_plain_set")) ∧ ∃ fd, FunD K "_law_plain_set" "_law_plain_set" (defArgs (top 63)) (defBody (top 63)) (defScope (top 63)) [] [] (He.ga K "_law_plain_set") fd
  d__law_error : mg "_law_error" = some (.ref (He.ga K "_law_error")) ∧ ∃ fd, FunD K "_law_error" "_law_error" (defArgs (top 64)) (defBody (top 64)) (defScope (top 64)) [] [] (He.ga K "_law_error") fd
  d_law : mg "law" = some (.ref (He.ga K "law")) ∧ ∃ fd, FunD K "law" "law" (defArgs (top 65)) (defBody (top 65)) (defScope (top 65)) [] [] (He.ga K "law") fd
  g_CONSTANT : GlobK K mg "CONSTANT" (D.int 20)
  g_DEEP : GlobK K mg "DEEP" (D.int 6)
  g_DIVISOR : GlobK K mg "DIVISOR" (D.int 1000000)
  g_FAR : GlobK K mg "FAR" (D.int 60)
  g_HIGHEST : GlobK K mg "HIGHEST" (D.int 6)
  g_LEAD : GlobK K mg "LEAD" (D.int 3)
  g_LEAVES : GlobK K mg "LEAVES" (D.int 6)
  g_LETTERS : GlobK K mg "LETTERS" (D.int 3)
  g_MULTIPLE : GlobK K mg "MULTIPLE" (D.int 6)
  g_NESTED : GlobK K mg "NESTED" (D.int 12)
  g_NUMBER : GlobK K mg "NUMBER" (D.int 1000000000000)
  g_OTHER : GlobK K mg "OTHER" (D.int 1)
  g_PARTS : GlobK K mg "PARTS" (D.int 4000)
  g_ROW : GlobK K mg "ROW" (D.int 1000000)
  g_SIZE : GlobK K mg "SIZE" (D.int 1000000000)
  g_TELLS : GlobK K mg "TELLS" (D.tup [(D.str "some"), (D.str "all")])
  gc_CountError : mg "CountError" = some (.ref (He.ga K "CountError"))
  gc_InvalidFormula : mg "InvalidFormula" = some (.ref (He.ga K "InvalidFormula"))
  gc_InvalidRow : mg "InvalidRow" = some (.ref (He.ga K "InvalidRow"))
  er_InvalidFormula : PySem.W.excIn K (He.ga K "InvalidFormula") He.veBase "ValueError.__new__" = true ∧ PySem.W.keepIn K (.ref (He.ga K "InvalidFormula")) = true ∧ PySem.W.subIn K (.ref (He.ga K "InvalidFormula")) (.type "BaseException") = some true ∧ PySem.W.typeIn K (.ref (He.ga K "InvalidFormula")) = some (.type "type")
  er_InvalidRow : PySem.W.excIn K (He.ga K "InvalidRow") He.veBase "ValueError.__new__" = true ∧ PySem.W.keepIn K (.ref (He.ga K "InvalidRow")) = true ∧ PySem.W.subIn K (.ref (He.ga K "InvalidRow")) (.type "BaseException") = some true ∧ PySem.W.typeIn K (.ref (He.ga K "InvalidRow")) = some (.type "type")
  xc_CountError : ExcC K (He.ga K "CountError")
  xc_InvalidFormula : ExcC K (He.ga K "InvalidFormula")
  xc_InvalidRow : ExcC K (He.ga K "InvalidRow")
  ki_CountError_InvalidFormula : PySem.W.kitOne K (.ref (He.ga K "CountError")) (.ref (He.ga K "InvalidFormula")) = some false
  ki_CountError_InvalidRow : PySem.W.kitOne K (.ref (He.ga K "CountError")) (.ref (He.ga K "InvalidRow")) = some false
  ki_InvalidFormula_InvalidFormula : PySem.W.kitOne K (.ref (He.ga K "InvalidFormula")) (.ref (He.ga K "InvalidFormula")) = some true
  ki_InvalidFormula_InvalidRow : PySem.W.kitOne K (.ref (He.ga K "InvalidFormula")) (.ref (He.ga K "InvalidRow")) = some false
  ki_InvalidRow_InvalidFormula : PySem.W.kitOne K (.ref (He.ga K "InvalidRow")) (.ref (He.ga K "InvalidFormula")) = some false
  ki_InvalidRow_InvalidRow : PySem.W.kitOne K (.ref (He.ga K "InvalidRow")) (.ref (He.ga K "InvalidRow")) = some true
  xm_CountError_CountError : PySem.W.exmOne K (.ref (He.ga K "CountError")) (.ref (He.ga K "CountError")) = some true
  xm_InvalidFormula_CountError : PySem.W.exmOne K (.ref (He.ga K "InvalidFormula")) (.ref (He.ga K "CountError")) = some true
  xm_InvalidRow_CountError : PySem.W.exmOne K (.ref (He.ga K "InvalidRow")) (.ref (He.ga K "CountError")) = some true
section
variable {P : Program} {w : World} {K : PySem.W.Frag} {mg : Str → Option Value} {base : Heap}
theorem bb_is_whole (E : Env K mg) (X : Cx) (W : WX) (g : GX X W p_is_whole) (dx : DefX P w K mg base 0 X) : Ss X W (fun c : CR.D × CR.D × CR.D => [.pl c.1, .pl c.2.1, .pl c.2.2]) ⟨[.un, .un, .un], fun _ (_ : Unit) => [.un, .un, .un], fun _ (e : Empty) => e.elim⟩ (defBody (top 11)) (fun c => m_is_whole c.1 c.2.1 c.2.2) := by
  obtain ⟨rfl, rfl, rfl, rfl, rfl, hr, tx⟩ := dx
  obtain ⟨m, h, rfl⟩ := b_is_whole g hr
  exact h
theorem c_is_whole (E : Env K mg) : CallF P w K mg base "is_whole" 1 (SpD K mg 3 F_is_whole) := by
  obtain ⟨hm, fd, F⟩ := E.d_is_whole
  exact callF_mk F (fnD (p := p_is_whole) (ρ := fun c : CR.D × CR.D × CR.D => [.pl c.1, .pl c.2.1, .pl c.2.2]) (m := fun c : CR.D × CR.D × CR.D => m_is_whole c.1 c.2.1 c.2.2) F (⟨rfl, rfl, rfl, by decide +kernel, rfl, by decide +kernel, by decide +kernel⟩ : FnScope p_is_whole.N ["value", "low", "high"] (defScope (top 11))) E.blt rfl (by decide +kernel) rfl (by decide +kernel) (fun ds hl => match ds, hl with | [a, b, c], _ => ⟨(a, b, c), rfl, rfl⟩) (bb_is_whole E)) hm (fun _ _ _ _ _ _ us hl => match us, hl with | [_, _, _], _ => rfl)
theorem bb_is_tuple_of (E : Env K mg) (X : Cx) (W : WX) (g : GX X W p_is_tuple_of) (dx : DefX P w K mg base 0 X) : Ss X W (fun c : CR.D × CR.D × CR.D => [.pl c.1, .pl c.2.1, .pl c.2.2]) ⟨[.un, .un, .un], fun _ (_ : Unit) => [.un, .un, .un], fun _ (e : Empty) => e.elim⟩ (defBody (top 12)) (fun c => m_is_tuple_of c.1 c.2.1 c.2.2) := by
  obtain ⟨rfl, rfl, rfl, rfl, rfl, hr, tx⟩ := dx
  obtain ⟨m, h, rfl⟩ := b_is_tuple_of g hr
  exact h
theorem c_is_tuple_of (E : Env K mg) : CallF P w K mg base "is_tuple_of" 1 (SpD K mg 3 F_is_tuple_of) := by
  obtain ⟨hm, fd, F⟩ := E.d_is_tuple_of
  exact callF_mk F (fnD (p := p_is_tuple_of) (ρ := fun c : CR.D × CR.D × CR.D => [.pl c.1, .pl c.2.1, .pl c.2.2]) (m := fun c : CR.D × CR.D × CR.D => m_is_tuple_of c.1 c.2.1 c.2.2) F (⟨rfl, rfl, rfl, by decide +kernel, rfl, by decide +kernel, by decide +kernel⟩ : FnScope p_is_tuple_of.N ["value", "low", "high"] (defScope (top 12))) E.blt rfl (by decide +kernel) rfl (by decide +kernel) (fun ds hl => match ds, hl with | [a, b, c], _ => ⟨(a, b, c), rfl, rfl⟩) (bb_is_tuple_of E)) hm (fun _ _ _ _ _ _ us hl => match us, hl with | [_, _, _], _ => rfl)
theorem bb_fits_row (E : Env K mg) (X : Cx) (W : WX) (g : GX X W p_fits_row) (dx : DefX P w K mg base 1 X) : Ss X W (fun c : CR.D × CR.D => [.pl c.1, .pl c.2, .un]) ⟨[.un, .un, .un], fun _ (_ : Unit) => [.un, .un, .un], fun _ (e : Empty) => e.elim⟩ (defBody (top 13)) (fun c => m_fits_row c.1 c.2) := by
  obtain ⟨rfl, rfl, rfl, rfl, rfl, hr, tx⟩ := dx
  obtain ⟨m, h, rfl⟩ := b_fits_row g hr (c_is_tuple_of E) (c_is_whole E) E.g_SIZE
  exact h
theorem c_fits_row (E : Env K mg) : CallF P w K mg base "fits_row" 2 (SpD K mg 2 F_fits_row) := by
  obtain ⟨hm, fd, F⟩ := E.d_fits_row
  exact callF_mk F (fnD (p := p_fits_row) (ρ := fun c : CR.D × CR.D => [.pl c.1, .pl c.2, .un]) (m := fun c : CR.D × CR.D => m_fits_row c.1 c.2) F (⟨rfl, rfl, rfl, by decide +kernel, rfl, by decide +kernel, by decide +kernel⟩ : FnScope p_fits_row.N ["letters", "value"] (defScope (top 13))) E.blt rfl (by decide +kernel) rfl (by decide +kernel) (fun ds hl => match ds, hl with | [a, b], _ => ⟨(a, b), rfl, rfl⟩) (bb_fits_row E)) hm (fun _ _ _ _ _ _ us hl => match us, hl with | [_, _], _ => rfl)
theorem bb_fits_leaf (E : Env K mg) (X : Cx) (W : WX) (g : GX X W p_fits_leaf) (dx : DefX P w K mg base 2 X) : Ss X W (fun c : CR.D × CR.D => [.pl c.1, .pl c.2]) ⟨[.un, .un], fun _ (_ : Unit) => [.un, .un], fun _ (e : Empty) => e.elim⟩ (defBody (top 14)) (fun c => m_fits_leaf c.1 c.2) := by
  obtain ⟨rfl, rfl, rfl, rfl, rfl, hr, tx⟩ := dx
  obtain ⟨m, h, rfl⟩ := b_fits_leaf g hr (c_fits_row E) (c_is_whole E) E.g_NUMBER E.g_DIVISOR
  exact h
theorem c_fits_leaf (E : Env K mg) : CallF P w K mg base "fits_leaf" 3 (SpD K mg 2 F_fits_leaf) := by
  obtain ⟨hm, fd, F⟩ := E.d_fits_leaf
  exact callF_mk F (fnD (p := p_fits_leaf) (ρ := fun c : CR.D × CR.D => [.pl c.1, .pl c.2]) (m := fun c : CR.D × CR.D => m_fits_leaf c.1 c.2) F (⟨rfl, rfl, rfl, by decide +kernel, rfl, by decide +kernel, by decide +kernel⟩ : FnScope p_fits_leaf.N ["letters", "value"] (defScope (top 14))) E.blt rfl (by decide +kernel) rfl (by decide +kernel) (fun ds hl => match ds, hl with | [a, b], _ => ⟨(a, b), rfl, rfl⟩) (bb_fits_leaf E)) hm (fun _ _ _ _ _ _ us hl => match us, hl with | [_, _], _ => rfl)
theorem bb_parts_of (E : Env K mg) (X : Cx) (W : WX) (g : GX X W p_parts_of) (dx : DefX P w K mg base 0 X) : Ss X W (fun c : CR.D => [.pl c]) ⟨[.un], fun _ (_ : Unit) => [.un], fun _ (e : Empty) => e.elim⟩ (defBody (top 15)) (fun c => m_parts_of c) := by
  obtain ⟨rfl, rfl, rfl, rfl, rfl, hr, tx⟩ := dx
  obtain ⟨m, h, rfl⟩ := b_parts_of g hr
  exact h
theorem c_parts_of (E : Env K mg) : CallF P w K mg base "parts_of" 1 (SpD K mg 1 F_parts_of) := by
  obtain ⟨hm, fd, F⟩ := E.d_parts_of
  exact callF_mk F (fnD (p := p_parts_of) (ρ := fun c : CR.D => [.pl c]) (m := fun c : CR.D => m_parts_of c) F (⟨rfl, rfl, rfl, by decide +kernel, rfl, by decide +kernel, by decide +kernel⟩ : FnScope p_parts_of.N ["value"] (defScope (top 15))) E.blt rfl (by decide +kernel) rfl (by decide +kernel) (fun ds hl => match ds, hl with | [a], _ => ⟨a, rfl, rfl⟩) (bb_parts_of E)) hm (fun _ _ _ _ _ _ us hl => match us, hl with | [_], _ => rfl)
theorem bb_fits_knot (E : Env K mg) (X : Cx) (W : WX) (g : GX X W p_fits_knot) (dx : DefX P w K mg base 1 X) : Ss X W (fun c : CR.D => [.pl c]) ⟨[.un], fun _ (_ : Unit) => [.un], fun _ (e : Empty) => e.elim⟩ (defBody (top 16)) (fun c => m_fits_knot c) := by
  obtain ⟨rfl, rfl, rfl, rfl, rfl, hr, tx⟩ := dx
  obtain ⟨m, h, rfl⟩ := b_fits_knot g hr (c_is_tuple_of E) E.g_PARTS
  exact h
theorem c_fits_knot (E : Env K mg) : CallF P w K mg base "fits_knot" 2 (SpD K mg 1 F_fits_knot) := by
  obtain ⟨hm, fd, F⟩ := E.d_fits_knot
  exact callF_mk F (fnD (p := p_fits_knot) (ρ := fun c : CR.D => [.pl c]) (m := fun c : CR.D => m_fits_knot c) F (⟨rfl, rfl, rfl, by decide +kernel, rfl, by decide +kernel, by decide +kernel⟩ : FnScope p_fits_knot.N ["value"] (defScope (top 16))) E.blt rfl (by decide +kernel) rfl (by decide +kernel) (fun ds hl => match ds, hl with | [a], _ => ⟨a, rfl, rfl⟩) (bb_fits_knot E)) hm (fun _ _ _ _ _ _ us hl => match us, hl with | [_], _ => rfl)
theorem bb_fits_test (E : Env K mg) (X : Cx) (W : WX) (g : GX X W p_fits_test) (dx : DefX P w K mg base 3 X) : Ss X W (fun c : CR.D × CR.D => [.pl c.1, .pl c.2, .un, .un, .un, .un, .un]) ⟨[.un, .un, .un, .un, .un, .un, .un], fun _ (_ : Unit) => [.un, .un, .un, .un, .un, .un, .un], fun _ (e : Empty) => e.elim⟩ (defBody (top 17)) (fun c => m_fits_test c.1 c.2) := by
  obtain ⟨rfl, rfl, rfl, rfl, rfl, hr, tx⟩ := dx
  obtain ⟨m, h, rfl⟩ := b_fits_test g hr (c_fits_knot E) (c_is_tuple_of E) (c_fits_leaf E) (c_parts_of E) E.g_PARTS E.g_NESTED
  exact h
theorem c_fits_test (E : Env K mg) : CallF P w K mg base "fits_test" 4 (SpD K mg 2 F_fits_test) := by
  obtain ⟨hm, fd, F⟩ := E.d_fits_test
  exact callF_mk F (fnD (p := p_fits_test) (ρ := fun c : CR.D × CR.D => [.pl c.1, .pl c.2, .un, .un, .un, .un, .un]) (m := fun c : CR.D × CR.D => m_fits_test c.1 c.2) F (⟨rfl, rfl, rfl, by decide +kernel, rfl, by decide +kernel, by decide +kernel⟩ : FnScope p_fits_test.N ["letters", "value"] (defScope (top 17))) E.blt rfl (by decide +kernel) rfl (by decide +kernel) (fun ds hl => match ds, hl with | [a, b], _ => ⟨(a, b), rfl, rfl⟩) (bb_fits_test E)) hm (fun _ _ _ _ _ _ us hl => match us, hl with | [_, _], _ => rfl)
theorem bb_leaves_of (E : Env K mg) (X : Cx) (W : WX) (g : GX X W p_leaves_of) (dx : DefX P w K mg base 1 X) : Ss X W (fun c : CR.D => [.pl c, .un, .un, .un]) ⟨[.un, .un, .un, .un], fun _ (_ : Unit) => [.un, .un, .un, .un], fun _ (e : Empty) => e.elim⟩ (defBody (top 18)) (fun c => m_leaves_of c) := by
  obtain ⟨rfl, rfl, rfl, rfl, rfl, hr, tx⟩ := dx
  obtain ⟨m, h, rfl⟩ := b_leaves_of g hr (c_parts_of E)
  exact h
theorem c_leaves_of (E : Env K mg) : CallF P w K mg base "leaves_of" 2 (SpL K mg 1 F_leaves_of) := by
  obtain ⟨hm, fd, F⟩ := E.d_leaves_of
  exact callF_mk F (fnL (p := p_leaves_of) (ρ := fun c : CR.D => [.pl c, .un, .un, .un]) (m := fun c : CR.D => m_leaves_of c) F (⟨rfl, rfl, rfl, by decide +kernel, rfl, by decide +kernel, by decide +kernel⟩ : FnScope p_leaves_of.N ["test"] (defScope (top 18))) E.blt rfl (by decide +kernel) rfl (by decide +kernel) (fun ds hl => match ds, hl with | [a], _ => ⟨a, rfl, rfl⟩) (bb_leaves_of E)) hm (fun _ _ _ _ _ _ us hl => match us, hl with | [_], _ => rfl)
theorem bb_common_divisor (E : Env K mg) (X : Cx) (W : WX) (g : GX X W p_common_divisor) (dx : DefX P w K mg base 0 X) : Ss X W (fun c : CR.D × CR.D => [.pl c.1, .pl c.2]) ⟨[.un, .un], fun _ (_ : Unit) => [.un, .un], fun _ (e : Empty) => e.elim⟩ (defBody (top 28)) (fun c => m_common_divisor c.1 c.2) := by
  obtain ⟨rfl, rfl, rfl, rfl, rfl, hr, tx⟩ := dx
  obtain ⟨m, h, rfl⟩ := b_common_divisor g hr
  exact h
theorem c_common_divisor (E : Env K mg) : CallF P w K mg base "common_divisor" 1 (SpD K mg 2 F_common_divisor) := by
  obtain ⟨hm, fd, F⟩ := E.d_common_divisor
  exact callF_mk F (fnD (p := p_common_divisor) (ρ := fun c : CR.D × CR.D => [.pl c.1, .pl c.2]) (m := fun c : CR.D × CR.D => m_common_divisor c.1 c.2) F (⟨rfl, rfl, rfl, by decide +kernel, rfl, by decide +kernel, by decide +kernel⟩ : FnScope p_common_divisor.N ["one", "other"] (defScope (top 28))) E.blt rfl (by decide +kernel) rfl (by decide +kernel) (fun ds hl => match ds, hl with | [a, b], _ => ⟨(a, b), rfl, rfl⟩) (bb_common_divisor E)) hm (fun _ _ _ _ _ _ us hl => match us, hl with | [_, _], _ => rfl)
theorem bb_common_multiple (E : Env K mg) (X : Cx) (W : WX) (g : GX X W p_common_multiple) (dx : DefX P w K mg base 1 X) : Ss X W (fun c : CR.D => [.pl c, .un, .un]) ⟨[.un, .un, .un], fun _ (_ : Unit) => [.un, .un, .un], fun _ (e : Empty) => e.elim⟩ (defBody (top 29)) (fun c => m_common_multiple c) := by
  obtain ⟨rfl, rfl, rfl, rfl, rfl, hr, tx⟩ := dx
  obtain ⟨m, h, rfl⟩ := b_common_multiple g hr (c_common_divisor E)
  exact h
theorem c_common_multiple (E : Env K mg) : CallF P w K mg base "common_multiple" 2 (SpD K mg 1 F_common_multiple) := by
  obtain ⟨hm, fd, F⟩ := E.d_common_multiple
  exact callF_mk F (fnD (p := p_common_multiple) (ρ := fun c : CR.D => [.pl c, .un, .un]) (m := fun c : CR.D => m_common_multiple c) F (⟨rfl, rfl, rfl, by decide +kernel, rfl, by decide +kernel, by decide +kernel⟩ : FnScope p_common_multiple.N ["numbers"] (defScope (top 29))) E.blt rfl (by decide +kernel) rfl (by decide +kernel) (fun ds hl => match ds, hl with | [a], _ => ⟨a, rfl, rfl⟩) (bb_common_multiple E)) hm (fun _ _ _ _ _ _ us hl => match us, hl with | [_], _ => rfl)
theorem bb_divisors_in (E : Env K mg) (X : Cx) (W : WX) (g : GX X W p_divisors_in) (dx : DefX P w K mg base 2 X) : Ss X W (fun c : CR.D => [.pl c, .un]) ⟨[.un, .un], fun _ (_ : Unit) => [.un, .un], fun _ (e : Empty) => e.elim⟩ (defBody (top 30)) (fun c => m_divisors_in c) := by
  obtain ⟨rfl, rfl, rfl, rfl, rfl, hr, tx⟩ := dx
  obtain ⟨m, h, rfl⟩ := b_divisors_in g hr (c_leaves_of E)
  exact h
theorem c_divisors_in (E : Env K mg) : CallF P w K mg base "divisors_in" 3 (SpL K mg 1 F_divisors_in) := by
  obtain ⟨hm, fd, F⟩ := E.d_divisors_in
  exact callF_mk F (fnL (p := p_divisors_in) (ρ := fun c : CR.D => [.pl c, .un]) (m := fun c : CR.D => m_divisors_in c) F (⟨rfl, rfl, rfl, by decide +kernel, rfl, by decide +kernel, by decide +kernel⟩ : FnScope p_divisors_in.N ["test"] (defScope (top 30))) E.blt rfl (by decide +kernel) rfl (by decide +kernel) (fun ds hl => match ds, hl with | [a], _ => ⟨a, rfl, rfl⟩) (bb_divisors_in E)) hm (fun _ _ _ _ _ _ us hl => match us, hl with | [_], _ => rfl)
theorem bb_period_of (E : Env K mg) (X : Cx) (W : WX) (g : GX X W p_period_of) (dx : DefX P w K mg base 3 X) : Ss X W (fun c : CR.D => [.pl c]) ⟨[.un], fun _ (_ : Unit) => [.un], fun _ (e : Empty) => e.elim⟩ (defBody (top 31)) (fun c => m_period_of c) := by
  obtain ⟨rfl, rfl, rfl, rfl, rfl, hr, tx⟩ := dx
  obtain ⟨m, h, rfl⟩ := b_period_of g hr (c_common_multiple E) (c_divisors_in E)
  exact h
theorem c_period_of (E : Env K mg) : CallF P w K mg base "period_of" 4 (SpD K mg 1 F_period_of) := by
  obtain ⟨hm, fd, F⟩ := E.d_period_of
  exact callF_mk F (fnD (p := p_period_of) (ρ := fun c : CR.D => [.pl c]) (m := fun c : CR.D => m_period_of c) F (⟨rfl, rfl, rfl, by decide +kernel, rfl, by decide +kernel, by decide +kernel⟩ : FnScope p_period_of.N ["test"] (defScope (top 31))) E.blt rfl (by decide +kernel) rfl (by decide +kernel) (fun ds hl => match ds, hl with | [a], _ => ⟨a, rfl, rfl⟩) (bb_period_of E)) hm (fun _ _ _ _ _ _ us hl => match us, hl with | [_], _ => rfl)
theorem bb_row_of (E : Env K mg) (X : Cx) (W : WX) (g : GX X W p_row_of) (dx : DefX P w K mg base 0 X) : Ss X W (fun c : CR.D => [.pl c]) ⟨[.un], fun _ (_ : Unit) => [.un], fun _ (e : Empty) => e.elim⟩ (defBody (top 32)) (fun c => m_row_of c) := by
  obtain ⟨rfl, rfl, rfl, rfl, rfl, hr, tx⟩ := dx
  obtain ⟨m, h, rfl⟩ := b_row_of g hr
  exact h
theorem c_row_of (E : Env K mg) : CallF P w K mg base "row_of" 1 (SpD K mg 1 F_row_of) := by
  obtain ⟨hm, fd, F⟩ := E.d_row_of
  exact callF_mk F (fnD (p := p_row_of) (ρ := fun c : CR.D => [.pl c]) (m := fun c : CR.D => m_row_of c) F (⟨rfl, rfl, rfl, by decide +kernel, rfl, by decide +kernel, by decide +kernel⟩ : FnScope p_row_of.N ["leaf"] (defScope (top 32))) E.blt rfl (by decide +kernel) rfl (by decide +kernel) (fun ds hl => match ds, hl with | [a], _ => ⟨a, rfl, rfl⟩) (bb_row_of E)) hm (fun _ _ _ _ _ _ us hl => match us, hl with | [_], _ => rfl)
theorem bb_is_small_leaf (E : Env K mg) (X : Cx) (W : WX) (g : GX X W p_is_small_leaf) (dx : DefX P w K mg base 1 X) : Ss X W (fun c : CR.D => [.pl c, .un, .un]) ⟨[.un, .un, .un], fun _ (_ : Unit) => [.un, .un, .un], fun _ (e : Empty) => e.elim⟩ (defBody (top 33)) (fun c => m_is_small_leaf c) := by
  obtain ⟨rfl, rfl, rfl, rfl, rfl, hr, tx⟩ := dx
  obtain ⟨m, h, rfl⟩ := b_is_small_leaf g hr (c_row_of E) E.g_CONSTANT E.g_HIGHEST E.g_LEAD E.g_OTHER
  exact h
theorem c_is_small_leaf (E : Env K mg) : CallF P w K mg base "is_small_leaf" 2 (SpD K mg 1 F_is_small_leaf) := by
  obtain ⟨hm, fd, F⟩ := E.d_is_small_leaf
  exact callF_mk F (fnD (p := p_is_small_leaf) (ρ := fun c : CR.D => [.pl c, .un, .un]) (m := fun c : CR.D => m_is_small_leaf c) F (⟨rfl, rfl, rfl, by decide +kernel, rfl, by decide +kernel, by decide +kernel⟩ : FnScope p_is_small_leaf.N ["leaf"] (defScope (top 33))) E.blt rfl (by decide +kernel) rfl (by decide +kernel) (fun ds hl => match ds, hl with | [a], _ => ⟨a, rfl, rfl⟩) (bb_is_small_leaf E)) hm (fun _ _ _ _ _ _ us hl => match us, hl with | [_], _ => rfl)
theorem bb_height_of (E : Env K mg) (n : Nat) (cf : CallF P w K mg base "height_of" (0 + n) (SpD K mg 1 (F_height_of n))) (X : Cx) (W : WX) (g : GX X W p_height_of) (dx : DefX P w K mg base (0 + n) X) : Ss X W (fun c : CR.D => [.pl c, .un, .un]) ⟨[.un, .un, .un], fun _ (_ : Unit) => [.un, .un, .un], fun _ (e : Empty) => e.elim⟩ (defBody (top 34)) (fun c => m_height_of (F_height_of n) c) := by
  obtain ⟨rfl, rfl, rfl, rfl, rfl, hr, tx⟩ := dx
  obtain ⟨m, h, rfl⟩ := b_height_of g hr (F_height_of n) cf (by simp)
  exact h
theorem c_height_of (E : Env K mg) : CallF P w K mg base "height_of" 16 (SpD K mg 1 (F_height_of 16)) := by
  obtain ⟨hm, fd, F⟩ := E.d_height_of
  refine callF_rec (kb := 0) (ps := ["test"]) (sp := fun n => (SpD K mg 1 (F_height_of n))) hm F.kp (F.bindsN (fun _ _ _ _ _ _ us hl => match us, hl with | [_], _ => rfl)) (fun vs H Q E h => ?_) (fun n cf => ?_) 16
  · obtain ⟨_, _, _, _, _, h⟩ := h; exact h
  · exact fnD (p := p_height_of) (ρ := fun c : CR.D => [.pl c, .un, .un]) (m := fun c : CR.D => m_height_of (F_height_of n) c) F (⟨rfl, rfl, rfl, by decide +kernel, rfl, by decide +kernel, by decide +kernel⟩ : FnScope p_height_of.N ["test"] (defScope (top 34))) E.blt rfl (by decide +kernel) rfl (by decide +kernel) (fun ds hl => match ds, hl with | [a], _ => ⟨a, rfl, rfl⟩) (bb_height_of E n cf)
theorem bb_fits_formula (E : Env K mg) (X : Cx) (W : WX) (g : GX X W p_fits_formula) (dx : DefX P w K mg base 16 X) : Ss X W (fun c : CR.D => [.pl c, .un, .un, .un, .un]) ⟨[.un, .un, .un, .un, .un], fun _ (_ : Unit) => [.un, .un, .un, .un, .un], fun _ (e : Empty) => e.elim⟩ (defBody (top 35)) (fun c => m_fits_formula c) := by
  obtain ⟨rfl, rfl, rfl, rfl, rfl, hr, tx⟩ := dx
  obtain ⟨m, h, rfl⟩ := b_fits_formula g hr (c_leaves_of E) (c_period_of E) (c_is_tuple_of E) (c_is_whole E) (c_fits_test E) (c_height_of E) (c_is_small_leaf E) E.g_MULTIPLE E.g_LETTERS E.g_DEEP E.g_LEAVES E.g_TELLS
  exact h
theorem c_fits_formula (E : Env K mg) : CallF P w K mg base "fits_formula" 17 (SpD K mg 1 F_fits_formula) := by
  obtain ⟨hm, fd, F⟩ := E.d_fits_formula
  exact callF_mk F (fnD (p := p_fits_formula) (ρ := fun c : CR.D => [.pl c, .un, .un, .un, .un]) (m := fun c : CR.D => m_fits_formula c) F (⟨rfl, rfl, rfl, by decide +kernel, rfl, by decide +kernel, by decide +kernel⟩ : FnScope p_fits_formula.N ["value"] (defScope (top 35))) E.blt rfl (by decide +kernel) rfl (by decide +kernel) (fun ds hl => match ds, hl with | [a], _ => ⟨a, rfl, rfl⟩) (bb_fits_formula E)) hm (fun _ _ _ _ _ _ us hl => match us, hl with | [_], _ => rfl)
theorem bb_fits_plain_set (E : Env K mg) (X : Cx) (W : WX) (g : GX X W p_fits_plain_set) (dx : DefX P w K mg base 17 X) : Ss X W (fun c : CR.D => [.pl c, .un, .un]) ⟨[.un, .un, .un], fun _ (_ : Unit) => [.un, .un, .un], fun _ (e : Empty) => e.elim⟩ (defBody (top 39)) (fun c => m_fits_plain_set c) := by
  obtain ⟨rfl, rfl, rfl, rfl, rfl, hr, tx⟩ := dx
  obtain ⟨m, h, rfl⟩ := b_fits_plain_set g hr (c_fits_formula E)
  exact h
theorem c_fits_plain_set (E : Env K mg) : CallF P w K mg base "fits_plain_set" 18 (SpD K mg 1 F_fits_plain_set) := by
  obtain ⟨hm, fd, F⟩ := E.d_fits_plain_set
  exact callF_mk F (fnD (p := p_fits_plain_set) (ρ := fun c : CR.D => [.pl c, .un, .un]) (m := fun c : CR.D => m_fits_plain_set c) F (⟨rfl, rfl, rfl, by decide +kernel, rfl, by decide +kernel, by decide +kernel⟩ : FnScope p_fits_plain_set.N ["value"] (defScope (top 39))) E.blt rfl (by decide +kernel) rfl (by decide +kernel) (fun ds hl => match ds, hl with | [a], _ => ⟨a, rfl, rfl⟩) (bb_fits_plain_set E)) hm (fun _ _ _ _ _ _ us hl => match us, hl with | [_], _ => rfl)
theorem bb_need_plain_set (E : Env K mg) (X : Cx) (W : WX) (g : GX X W p_need_plain_set) (dx : DefX P w K mg base 18 X) : Ss X W (fun c : CR.D => [.pl c]) ⟨[.un], fun _ (_ : Unit) => [.un], fun _ (e : Empty) => e.elim⟩ (defBody (top 40)) (fun c => m_need_plain_set c) := by
  obtain ⟨rfl, rfl, rfl, rfl, rfl, hr, tx⟩ := dx
  obtain ⟨m, h, rfl⟩ := b_need_plain_set g hr (c_fits_plain_set E) ⟨E.gc_InvalidFormula, E.er_InvalidFormula.1, E.er_InvalidFormula.2.1, E.er_InvalidFormula.2.2.1, E.er_InvalidFormula.2.2.2⟩
  exact h
theorem c_need_plain_set (E : Env K mg) : CallF P w K mg base "need_plain_set" 19 (SpD K mg 1 F_need_plain_set) := by
  obtain ⟨hm, fd, F⟩ := E.d_need_plain_set
  exact callF_mk F (fnD (p := p_need_plain_set) (ρ := fun c : CR.D => [.pl c]) (m := fun c : CR.D => m_need_plain_set c) F (⟨rfl, rfl, rfl, by decide +kernel, rfl, by decide +kernel, by decide +kernel⟩ : FnScope p_need_plain_set.N ["value"] (defScope (top 40))) E.blt rfl (by decide +kernel) rfl (by decide +kernel) (fun ds hl => match ds, hl with | [a], _ => ⟨a, rfl, rfl⟩) (bb_need_plain_set E)) hm (fun _ _ _ _ _ _ us hl => match us, hl with | [_], _ => rfl)
theorem bb_need_row (E : Env K mg) (X : Cx) (W : WX) (g : GX X W p_need_row) (dx : DefX P w K mg base 1 X) : Ss X W (fun c : CR.D => [.pl c, .un]) ⟨[.un, .un], fun _ (_ : Unit) => [.un, .un], fun _ (e : Empty) => e.elim⟩ (defBody (top 41)) (fun c => m_need_row c) := by
  obtain ⟨rfl, rfl, rfl, rfl, rfl, hr, tx⟩ := dx
  obtain ⟨m, h, rfl⟩ := b_need_row g hr (c_is_tuple_of E) (c_is_whole E) E.g_ROW ⟨E.gc_InvalidRow, E.er_InvalidRow.1, E.er_InvalidRow.2.1, E.er_InvalidRow.2.2.1, E.er_InvalidRow.2.2.2⟩
  exact h
theorem c_need_row (E : Env K mg) : CallF P w K mg base "need_row" 2 (SpD K mg 1 F_need_row) := by
  obtain ⟨hm, fd, F⟩ := E.d_need_row
  exact callF_mk F (fnD (p := p_need_row) (ρ := fun c : CR.D => [.pl c, .un]) (m := fun c : CR.D => m_need_row c) F (⟨rfl, rfl, rfl, by decide +kernel, rfl, by decide +kernel, by decide +kernel⟩ : FnScope p_need_row.N ["value"] (defScope (top 41))) E.blt rfl (by decide +kernel) rfl (by decide +kernel) (fun ds hl => match ds, hl with | [a], _ => ⟨a, rfl, rfl⟩) (bb_need_row E)) hm (fun _ _ _ _ _ _ us hl => match us, hl with | [_], _ => rfl)
theorem bb_lines_of (E : Env K mg) (X : Cx) (W : WX) (g : GX X W p_lines_of) (dx : DefX P w K mg base 0 X) : Ss X W (fun c : CR.D => [.pl c, .un, .un, .un]) ⟨[.un, .un, .un, .un], fun _ (_ : Unit) => [.un, .un, .un, .un], fun _ (e : Empty) => e.elim⟩ (defBody (top 42)) (fun c => m_lines_of c) := by
  obtain ⟨rfl, rfl, rfl, rfl, rfl, hr, tx⟩ := dx
  obtain ⟨m, h, rfl⟩ := b_lines_of g hr
  exact h
theorem c_lines_of (E : Env K mg) : CallF P w K mg base "lines_of" 1 (SpL K mg 1 F_lines_of) := by
  obtain ⟨hm, fd, F⟩ := E.d_lines_of
  exact callF_mk F (fnL (p := p_lines_of) (ρ := fun c : CR.D => [.pl c, .un, .un, .un]) (m := fun c : CR.D => m_lines_of c) F (⟨rfl, rfl, rfl, by decide +kernel, rfl, by decide +kernel, by decide +kernel⟩ : FnScope p_lines_of.N ["formula"] (defScope (top 42))) E.blt rfl (by decide +kernel) rfl (by decide +kernel) (fun ds hl => match ds, hl with | [a], _ => ⟨a, rfl, rfl⟩) (bb_lines_of E)) hm (fun _ _ _ _ _ _ us hl => match us, hl with | [_], _ => rfl)
theorem bb_lines_with (E : Env K mg) (X : Cx) (W : WX) (g : GX X W p_lines_with) (dx : DefX P w K mg base 0 X) : Ss X W (fun c : CR.D × CR.D => [.pl c.1, .pl c.2, .un, .un, .un]) ⟨[.un, .un, .un, .un, .un], fun _ (_ : Unit) => [.un, .un, .un, .un, .un], fun _ (e : Empty) => e.elim⟩ (defBody (top 43)) (fun c => m_lines_with c.1 c.2) := by
  obtain ⟨rfl, rfl, rfl, rfl, rfl, hr, tx⟩ := dx
  obtain ⟨m, h, rfl⟩ := b_lines_with g hr
  exact h
theorem c_lines_with (E : Env K mg) : CallF P w K mg base "lines_with" 1 (SpL K mg 2 F_lines_with) := by
  obtain ⟨hm, fd, F⟩ := E.d_lines_with
  exact callF_mk F (fnL (p := p_lines_with) (ρ := fun c : CR.D × CR.D => [.pl c.1, .pl c.2, .un, .un, .un]) (m := fun c : CR.D × CR.D => m_lines_with c.1 c.2) F (⟨rfl, rfl, rfl, by decide +kernel, rfl, by decide +kernel, by decide +kernel⟩ : FnScope p_lines_with.N ["lines", "other"] (defScope (top 43))) E.blt rfl (by decide +kernel) rfl (by decide +kernel) (fun ds hl => match ds, hl with | [a, b], _ => ⟨(a, b), rfl, rfl⟩) (bb_lines_with E)) hm (fun _ _ _ _ _ _ us hl => match us, hl with | [_, _], _ => rfl)
theorem bb_bounds_in (E : Env K mg) (X : Cx) (W : WX) (g : GX X W p_bounds_in) (dx : DefX P w K mg base 1 X) : Ss X W (fun c : CR.D => [.pl c, .un, .un, .un, .un, .un, .un]) ⟨[.un, .un, .un, .un, .un, .un, .un], fun _ (_ : Unit) => [.un, .un, .un, .un, .un, .un, .un], fun _ (e : Empty) => e.elim⟩ (defBody (top 44)) (fun c => m_bounds_in c) := by
  obtain ⟨rfl, rfl, rfl, rfl, rfl, hr, tx⟩ := dx
  obtain ⟨m, h, rfl⟩ := b_bounds_in g hr (c_lines_with E)
  exact h
theorem c_bounds_in (E : Env K mg) : CallF P w K mg base "bounds_in" 2 (SpL K mg 1 F_bounds_in) := by
  obtain ⟨hm, fd, F⟩ := E.d_bounds_in
  exact callF_mk F (fnL (p := p_bounds_in) (ρ := fun c : CR.D => [.pl c, .un, .un, .un, .un, .un, .un]) (m := fun c : CR.D => m_bounds_in c) F (⟨rfl, rfl, rfl, by decide +kernel, rfl, by decide +kernel, by decide +kernel⟩ : FnScope p_bounds_in.N ["lines"] (defScope (top 44))) E.blt rfl (by decide +kernel) rfl (by decide +kernel) (fun ds hl => match ds, hl with | [a], _ => ⟨a, rfl, rfl⟩) (bb_bounds_in E)) hm (fun _ _ _ _ _ _ us hl => match us, hl with | [_], _ => rfl)
theorem bb_highest_lead (E : Env K mg) (X : Cx) (W : WX) (g : GX X W p_highest_lead) (dx : DefX P w K mg base 0 X) : Ss X W (fun c : CR.D => [.pl c, .un, .un, .un, .un]) ⟨[.un, .un, .un, .un, .un], fun _ (_ : Unit) => [.un, .un, .un, .un, .un], fun _ (e : Empty) => e.elim⟩ (defBody (top 45)) (fun c => m_highest_lead c) := by
  obtain ⟨rfl, rfl, rfl, rfl, rfl, hr, tx⟩ := dx
  obtain ⟨m, h, rfl⟩ := b_highest_lead g hr
  exact h
theorem c_highest_lead (E : Env K mg) : CallF P w K mg base "highest_lead" 1 (SpD K mg 1 F_highest_lead) := by
  obtain ⟨hm, fd, F⟩ := E.d_highest_lead
  exact callF_mk F (fnD (p := p_highest_lead) (ρ := fun c : CR.D => [.pl c, .un, .un, .un, .un]) (m := fun c : CR.D => m_highest_lead c) F (⟨rfl, rfl, rfl, by decide +kernel, rfl, by decide +kernel, by decide +kernel⟩ : FnScope p_highest_lead.N ["bounds"] (defScope (top 45))) E.blt rfl (by decide +kernel) rfl (by decide +kernel) (fun ds hl => match ds, hl with | [a], _ => ⟨a, rfl, rfl⟩) (bb_highest_lead E)) hm (fun _ _ _ _ _ _ us hl => match us, hl with | [_], _ => rfl)
theorem bb_lowest_lead (E : Env K mg) (X : Cx) (W : WX) (g : GX X W p_lowest_lead) (dx : DefX P w K mg base 0 X) : Ss X W (fun c : CR.D => [.pl c, .un, .un, .un, .un]) ⟨[.un, .un, .un, .un, .un], fun _ (_ : Unit) => [.un, .un, .un, .un, .un], fun _ (e : Empty) => e.elim⟩ (defBody (top 46)) (fun c => m_lowest_lead c) := by
  obtain ⟨rfl, rfl, rfl, rfl, rfl, hr, tx⟩ := dx
  obtain ⟨m, h, rfl⟩ := b_lowest_lead g hr
  exact h
theorem c_lowest_lead (E : Env K mg) : CallF P w K mg base "lowest_lead" 1 (SpD K mg 1 F_lowest_lead) := by
  obtain ⟨hm, fd, F⟩ := E.d_lowest_lead
  exact callF_mk F (fnD (p := p_lowest_lead) (ρ := fun c : CR.D => [.pl c, .un, .un, .un, .un]) (m := fun c : CR.D => m_lowest_lead c) F (⟨rfl, rfl, rfl, by decide +kernel, rfl, by decide +kernel, by decide +kernel⟩ : FnScope p_lowest_lead.N ["bounds"] (defScope (top 46))) E.blt rfl (by decide +kernel) rfl (by decide +kernel) (fun ds hl => match ds, hl with | [a], _ => ⟨a, rfl, rfl⟩) (bb_lowest_lead E)) hm (fun _ _ _ _ _ _ us hl => match us, hl with | [_], _ => rfl)
theorem bb_has_points (E : Env K mg) (X : Cx) (W : WX) (g : GX X W p_has_points) (dx : DefX P w K mg base 1 X) : Ss X W (fun c : CR.D => [.pl c, .un, .un, .un, .un, .un]) ⟨[.un, .un, .un, .un, .un, .un], fun _ (_ : Unit) => [.un, .un, .un, .un, .un, .un], fun _ (e : Empty) => e.elim⟩ (defBody (top 47)) (fun c => m_has_points c) := by
  obtain ⟨rfl, rfl, rfl, rfl, rfl, hr, tx⟩ := dx
  obtain ⟨m, h, rfl⟩ := b_has_points g hr (c_lowest_lead E) (c_highest_lead E)
  exact h
theorem c_has_points (E : Env K mg) : CallF P w K mg base "has_points" 2 (SpD K mg 1 F_has_points) := by
  obtain ⟨hm, fd, F⟩ := E.d_has_points
  exact callF_mk F (fnD (p := p_has_points) (ρ := fun c : CR.D => [.pl c, .un, .un, .un, .un, .un]) (m := fun c : CR.D => m_has_points c) F (⟨rfl, rfl, rfl, by decide +kernel, rfl, by decide +kernel, by decide +kernel⟩ : FnScope p_has_points.N ["bounds"] (defScope (top 47))) E.blt rfl (by decide +kernel) rfl (by decide +kernel) (fun ds hl => match ds, hl with | [a], _ => ⟨a, rfl, rfl⟩) (bb_has_points E)) hm (fun _ _ _ _ _ _ us hl => match us, hl with | [_], _ => rfl)
theorem bb_top_at (E : Env K mg) (X : Cx) (W : WX) (g : GX X W p_top_at) (dx : DefX P w K mg base 0 X) : Ss X W (fun c : CR.D × CR.D => [.pl c.1, .pl c.2, .un, .un, .un]) ⟨[.un, .un, .un, .un, .un], fun _ (_ : Unit) => [.un, .un, .un, .un, .un], fun _ (e : Empty) => e.elim⟩ (defBody (top 48)) (fun c => m_top_at c.1 c.2) := by
  obtain ⟨rfl, rfl, rfl, rfl, rfl, hr, tx⟩ := dx
  obtain ⟨m, h, rfl⟩ := b_top_at g hr
  exact h
theorem c_top_at (E : Env K mg) : CallF P w K mg base "top_at" 1 (SpD K mg 2 F_top_at) := by
  obtain ⟨hm, fd, F⟩ := E.d_top_at
  exact callF_mk F (fnD (p := p_top_at) (ρ := fun c : CR.D × CR.D => [.pl c.1, .pl c.2, .un, .un, .un]) (m := fun c : CR.D × CR.D => m_top_at c.1 c.2) F (⟨rfl, rfl, rfl, by decide +kernel, rfl, by decide +kernel, by decide +kernel⟩ : FnScope p_top_at.N ["some", "lead"] (defScope (top 48))) E.blt rfl (by decide +kernel) rfl (by decide +kernel) (fun ds hl => match ds, hl with | [a, b], _ => ⟨(a, b), rfl, rfl⟩) (bb_top_at E)) hm (fun _ _ _ _ _ _ us hl => match us, hl with | [_, _], _ => rfl)
theorem bb_leads_of (E : Env K mg) (X : Cx) (W : WX) (g : GX X W p_leads_of) (dx : DefX P w K mg base 1 X) : Ss X W (fun c : CR.D => [.pl c, .un, .un]) ⟨[.un, .un, .un], fun _ (_ : Unit) => [.un, .un, .un], fun _ (e : Empty) => e.elim⟩ (defBody (top 49)) (fun c => m_leads_of c) := by
  obtain ⟨rfl, rfl, rfl, rfl, rfl, hr, tx⟩ := dx
  obtain ⟨m, h, rfl⟩ := b_leads_of g hr (c_lowest_lead E) (c_highest_lead E) E.g_FAR
  exact h
theorem c_leads_of (E : Env K mg) : CallF P w K mg base "leads_of" 2 (SpL K mg 1 F_leads_of) := by
  obtain ⟨hm, fd, F⟩ := E.d_leads_of
  exact callF_mk F (fnL (p := p_leads_of) (ρ := fun c : CR.D => [.pl c, .un, .un]) (m := fun c : CR.D => m_leads_of c) F (⟨rfl, rfl, rfl, by decide +kernel, rfl, by decide +kernel, by decide +kernel⟩ : FnScope p_leads_of.N ["bounds"] (defScope (top 49))) E.blt rfl (by decide +kernel) rfl (by decide +kernel) (fun ds hl => match ds, hl with | [a], _ => ⟨a, rfl, rfl⟩) (bb_leads_of E)) hm (fun _ _ _ _ _ _ us hl => match us, hl with | [_], _ => rfl)
theorem bb_tops_that_turn (E : Env K mg) (X : Cx) (W : WX) (g : GX X W p_tops_that_turn) (dx : DefX P w K mg base 2 X) : Ss X W (fun c : CR.D × CR.D => [.pl c.1, .pl c.2, .un, .un, .un, .un, .un]) ⟨[.un, .un, .un, .un, .un, .un, .un], fun _ (_ : Unit) => [.un, .un, .un, .un, .un, .un, .un], fun _ (e : Empty) => e.elim⟩ (defBody (top 50)) (fun c => m_tops_that_turn c.1 c.2) := by
  obtain ⟨rfl, rfl, rfl, rfl, rfl, hr, tx⟩ := dx
  obtain ⟨m, h, rfl⟩ := b_tops_that_turn g hr (c_lowest_lead E) (c_highest_lead E) (c_leads_of E) (c_top_at E)
  exact h
theorem c_tops_that_turn (E : Env K mg) : CallF P w K mg base "tops_that_turn" 3 (SpL K mg 2 F_tops_that_turn) := by
  obtain ⟨hm, fd, F⟩ := E.d_tops_that_turn
  exact callF_mk F (fnL (p := p_tops_that_turn) (ρ := fun c : CR.D × CR.D => [.pl c.1, .pl c.2, .un, .un, .un, .un, .un]) (m := fun c : CR.D × CR.D => m_tops_that_turn c.1 c.2) F (⟨rfl, rfl, rfl, by decide +kernel, rfl, by decide +kernel, by decide +kernel⟩ : FnScope p_tops_that_turn.N ["some", "bounds"] (defScope (top 50))) E.blt rfl (by decide +kernel) rfl (by decide +kernel) (fun ds hl => match ds, hl with | [a, b], _ => ⟨(a, b), rfl, rfl⟩) (bb_tops_that_turn E)) hm (fun _ _ _ _ _ _ us hl => match us, hl with | [_, _], _ => rfl)
theorem bb_worths_of (E : Env K mg) (X : Cx) (W : WX) (g : GX X W p_worths_of) (dx : DefX P w K mg base 1 X) : Ss X W (fun c : CR.D × CR.D × CR.D => [.pl c.1, .pl c.2.1, .pl c.2.2, .un]) ⟨[.un, .un, .un, .un], fun _ (_ : Unit) => [.un, .un, .un, .un], fun _ (e : Empty) => e.elim⟩ (defBody (top 51)) (fun c => m_worths_of c.1 c.2.1 c.2.2) := by
  obtain ⟨rfl, rfl, rfl, rfl, rfl, hr, tx⟩ := dx
  obtain ⟨m, h, rfl⟩ := b_worths_of g hr (c_top_at E)
  exact h
theorem c_worths_of (E : Env K mg) : CallF P w K mg base "worths_of" 2 (SpL K mg 3 F_worths_of) := by
  obtain ⟨hm, fd, F⟩ := E.d_worths_of
  exact callF_mk F (fnL (p := p_worths_of) (ρ := fun c : CR.D × CR.D × CR.D => [.pl c.1, .pl c.2.1, .pl c.2.2, .un]) (m := fun c : CR.D × CR.D × CR.D => m_worths_of c.1 c.2.1 c.2.2) F (⟨rfl, rfl, rfl, by decide +kernel, rfl, by decide +kernel, by decide +kernel⟩ : FnScope p_worths_of.N ["some", "row", "leads"] (defScope (top 51))) E.blt rfl (by decide +kernel) rfl (by decide +kernel) (fun ds hl => match ds, hl with | [a, b, c], _ => ⟨(a, b, c), rfl, rfl⟩) (bb_worths_of E)) hm (fun _ _ _ _ _ _ us hl => match us, hl with | [_, _, _], _ => rfl)
theorem bb_side_of (E : Env K mg) (X : Cx) (W : WX) (g : GX X W p_side_of) (dx : DefX P w K mg base 1 X) : Ss X W (fun c : CR.D × CR.D => [.pl c.1, .pl c.2]) ⟨[.un, .un], fun _ (_ : Unit) => [.un, .un], fun _ (e : Empty) => e.elim⟩ (defBody (top 52)) (fun c => m_side_of c.1 c.2) := by
  obtain ⟨rfl, rfl, rfl, rfl, rfl, hr, tx⟩ := dx
  obtain ⟨m, h, rfl⟩ := b_side_of g hr (c_lines_with E)
  exact h
theorem c_side_of (E : Env K mg) : CallF P w K mg base "side_of" 2 (SpD K mg 2 F_side_of) := by
  obtain ⟨hm, fd, F⟩ := E.d_side_of
  exact callF_mk F (fnD (p := p_side_of) (ρ := fun c : CR.D × CR.D => [.pl c.1, .pl c.2]) (m := fun c : CR.D × CR.D => m_side_of c.1 c.2) F (⟨rfl, rfl, rfl, by decide +kernel, rfl, by decide +kernel, by decide +kernel⟩ : FnScope p_side_of.N ["lines", "row"] (defScope (top 52))) E.blt rfl (by decide +kernel) rfl (by decide +kernel) (fun ds hl => match ds, hl with | [a, b], _ => ⟨(a, b), rfl, rfl⟩) (bb_side_of E)) hm (fun _ _ _ _ _ _ us hl => match us, hl with | [_, _], _ => rfl)
theorem bb_is_endless (E : Env K mg) (X : Cx) (W : WX) (g : GX X W p_is_endless) (dx : DefX P w K mg base 2 X) : Ss X W (fun c : CR.D × CR.D × CR.D => [.pl c.1, .pl c.2.1, .pl c.2.2, .un, .un]) ⟨[.un, .un, .un, .un, .un], fun _ (_ : Unit) => [.un, .un, .un, .un, .un], fun _ (e : Empty) => e.elim⟩ (defBody (top 53)) (fun c => m_is_endless c.1 c.2.1 c.2.2) := by
  obtain ⟨rfl, rfl, rfl, rfl, rfl, hr, tx⟩ := dx
  obtain ⟨m, h, rfl⟩ := b_is_endless g hr (c_worths_of E) (c_highest_lead E) (c_lowest_lead E) E.g_FAR
  exact h
theorem c_is_endless (E : Env K mg) : CallF P w K mg base "is_endless" 3 (SpD K mg 3 F_is_endless) := by
  obtain ⟨hm, fd, F⟩ := E.d_is_endless
  exact callF_mk F (fnD (p := p_is_endless) (ρ := fun c : CR.D × CR.D × CR.D => [.pl c.1, .pl c.2.1, .pl c.2.2, .un, .un]) (m := fun c : CR.D × CR.D × CR.D => m_is_endless c.1 c.2.1 c.2.2) F (⟨rfl, rfl, rfl, by decide +kernel, rfl, by decide +kernel, by decide +kernel⟩ : FnScope p_is_endless.N ["some", "row", "bounds"] (defScope (top 53))) E.blt rfl (by decide +kernel) rfl (by decide +kernel) (fun ds hl => match ds, hl with | [a, b, c], _ => ⟨(a, b, c), rfl, rfl⟩) (bb_is_endless E)) hm (fun _ _ _ _ _ _ us hl => match us, hl with | [_, _, _], _ => rfl)
theorem bb_best_lead (E : Env K mg) (X : Cx) (W : WX) (g : GX X W p_best_lead) (dx : DefX P w K mg base 2 X) : Ss X W (fun c : CR.D × CR.D × CR.D => [.pl c.1, .pl c.2.1, .pl c.2.2, .un, .un]) ⟨[.un, .un, .un, .un, .un], fun _ (_ : Unit) => [.un, .un, .un, .un, .un], fun _ (e : Empty) => e.elim⟩ (defBody (top 54)) (fun c => m_best_lead c.1 c.2.1 c.2.2) := by
  obtain ⟨rfl, rfl, rfl, rfl, rfl, hr, tx⟩ := dx
  obtain ⟨m, h, rfl⟩ := b_best_lead g hr (c_leads_of E) (c_worths_of E)
  exact h
theorem c_best_lead (E : Env K mg) : CallF P w K mg base "best_lead" 3 (SpD K mg 3 F_best_lead) := by
  obtain ⟨hm, fd, F⟩ := E.d_best_lead
  exact callF_mk F (fnD (p := p_best_lead) (ρ := fun c : CR.D × CR.D × CR.D => [.pl c.1, .pl c.2.1, .pl c.2.2, .un, .un]) (m := fun c : CR.D × CR.D × CR.D => m_best_lead c.1 c.2.1 c.2.2) F (⟨rfl, rfl, rfl, by decide +kernel, rfl, by decide +kernel, by decide +kernel⟩ : FnScope p_best_lead.N ["some", "row", "bounds"] (defScope (top 54))) E.blt rfl (by decide +kernel) rfl (by decide +kernel) (fun ds hl => match ds, hl with | [a, b, c], _ => ⟨(a, b, c), rfl, rfl⟩) (bb_best_lead E)) hm (fun _ _ _ _ _ _ us hl => match us, hl with | [_, _, _], _ => rfl)
theorem bb_other_at (E : Env K mg) (X : Cx) (W : WX) (g : GX X W p_other_at) (dx : DefX P w K mg base 1 X) : Ss X W (fun c : CR.D × CR.D × CR.D => [.pl c.1, .pl c.2.1, .pl c.2.2, .un, .un]) ⟨[.un, .un, .un, .un, .un], fun _ (_ : Unit) => [.un, .un, .un, .un, .un], fun _ (e : Empty) => e.elim⟩ (defBody (top 55)) (fun c => m_other_at c.1 c.2.1 c.2.2) := by
  obtain ⟨rfl, rfl, rfl, rfl, rfl, hr, tx⟩ := dx
  obtain ⟨m, h, rfl⟩ := b_other_at g hr (c_top_at E) (c_lines_with E)
  exact h
theorem c_other_at (E : Env K mg) : CallF P w K mg base "other_at" 2 (SpD K mg 3 F_other_at) := by
  obtain ⟨hm, fd, F⟩ := E.d_other_at
  exact callF_mk F (fnD (p := p_other_at) (ρ := fun c : CR.D × CR.D × CR.D => [.pl c.1, .pl c.2.1, .pl c.2.2, .un, .un]) (m := fun c : CR.D × CR.D × CR.D => m_other_at c.1 c.2.1 c.2.2) F (⟨rfl, rfl, rfl, by decide +kernel, rfl, by decide +kernel, by decide +kernel⟩ : FnScope p_other_at.N ["lines", "row", "lead"] (defScope (top 55))) E.blt rfl (by decide +kernel) rfl (by decide +kernel) (fun ds hl => match ds, hl with | [a, b, c], _ => ⟨(a, b, c), rfl, rfl⟩) (bb_other_at E)) hm (fun _ _ _ _ _ _ us hl => match us, hl with | [_, _, _], _ => rfl)
theorem bb_is_plain_set (E : Env K mg) (X : Cx) (W : WX) (g : GX X W p_is_plain_set) (dx : DefX P w K mg base 18 X) : Ss X W (fun c : CR.D => [.pl c]) ⟨[.un], fun _ (_ : Unit) => [.un], fun _ (e : Empty) => e.elim⟩ (defBody (top 56)) (fun c => m_is_plain_set c) := by
  obtain ⟨rfl, rfl, rfl, rfl, rfl, hr, tx⟩ := dx
  obtain ⟨m, h, rfl⟩ := b_is_plain_set g hr (c_fits_plain_set E)
  exact h
theorem c_is_plain_set (E : Env K mg) : CallF P w K mg base "is_plain_set" 19 (SpD K mg 1 F_is_plain_set) := by
  obtain ⟨hm, fd, F⟩ := E.d_is_plain_set
  exact callF_mk F (fnD (p := p_is_plain_set) (ρ := fun c : CR.D => [.pl c]) (m := fun c : CR.D => m_is_plain_set c) F (⟨rfl, rfl, rfl, by decide +kernel, rfl, by decide +kernel, by decide +kernel⟩ : FnScope p_is_plain_set.N ["value"] (defScope (top 56))) E.blt rfl (by decide +kernel) rfl (by decide +kernel) (fun ds hl => match ds, hl with | [a], _ => ⟨a, rfl, rfl⟩) (bb_is_plain_set E)) hm (fun _ _ _ _ _ _ us hl => match us, hl with | [_], _ => rfl)
theorem bb_corners_of (E : Env K mg) (X : Cx) (W : WX) (g : GX X W p_corners_of) (dx : DefX P w K mg base 19 X) : Ss X W (fun c : CR.D => [.pl c, .un, .un, .un, .un, .un]) ⟨[.un, .un, .un, .un, .un, .un], fun _ (_ : Unit) => [.un, .un, .un, .un, .un, .un], fun _ (e : Empty) => e.elim⟩ (defBody (top 57)) (fun c => m_corners_of c) := by
  obtain ⟨rfl, rfl, rfl, rfl, rfl, hr, tx⟩ := dx
  obtain ⟨m, h, rfl⟩ := b_corners_of g hr (c_need_plain_set E) (c_lines_of E) (c_bounds_in E) (c_tops_that_turn E) (c_has_points E) (c_lines_with E)
  exact h
theorem c_corners_of (E : Env K mg) : CallF P w K mg base "corners_of" 20 (SpD K mg 1 F_corners_of) := by
  obtain ⟨hm, fd, F⟩ := E.d_corners_of
  exact callF_mk F (fnD (p := p_corners_of) (ρ := fun c : CR.D => [.pl c, .un, .un, .un, .un, .un]) (m := fun c : CR.D => m_corners_of c) F (⟨rfl, rfl, rfl, by decide +kernel, rfl, by decide +kernel, by decide +kernel⟩ : FnScope p_corners_of.N ["formula"] (defScope (top 57))) E.blt rfl (by decide +kernel) rfl (by decide +kernel) (fun ds hl => match ds, hl with | [a], _ => ⟨a, rfl, rfl⟩) (bb_corners_of E)) hm (fun _ _ _ _ _ _ us hl => match us, hl with | [_], _ => rfl)
theorem bb_greatest_of (E : Env K mg) (X : Cx) (W : WX) (g : GX X W p_greatest_of) (dx : DefX P w K mg base 19 X) : Ss X W (fun c : CR.D × CR.D => [.pl c.1, .pl c.2, .un, .un, .un, .un, .un, .un]) ⟨[.un, .un, .un, .un, .un, .un, .un, .un], fun _ (_ : Unit) => [.un, .un, .un, .un, .un, .un, .un, .un], fun _ (e : Empty) => e.elim⟩ (defBody (top 58)) (fun c => m_greatest_of c.1 c.2) := by
  obtain ⟨rfl, rfl, rfl, rfl, rfl, hr, tx⟩ := dx
  obtain ⟨m, h, rfl⟩ := b_greatest_of g hr (c_need_plain_set E) (c_need_row E) (c_lines_of E) (c_bounds_in E) (c_side_of E) (c_is_endless E) (c_best_lead E) (c_has_points E) (c_other_at E)
  exact h
theorem c_greatest_of (E : Env K mg) : CallF P w K mg base "greatest_of" 20 (SpD K mg 2 F_greatest_of) := by
  obtain ⟨hm, fd, F⟩ := E.d_greatest_of
  exact callF_mk F (fnD (p := p_greatest_of) (ρ := fun c : CR.D × CR.D => [.pl c.1, .pl c.2, .un, .un, .un, .un, .un, .un]) (m := fun c : CR.D × CR.D => m_greatest_of c.1 c.2) F (⟨rfl, rfl, rfl, by decide +kernel, rfl, by decide +kernel, by decide +kernel⟩ : FnScope p_greatest_of.N ["formula", "row"] (defScope (top 58))) E.blt rfl (by decide +kernel) rfl (by decide +kernel) (fun ds hl => match ds, hl with | [a, b], _ => ⟨(a, b), rfl, rfl⟩) (bb_greatest_of E)) hm (fun _ _ _ _ _ _ us hl => match us, hl with | [_, _], _ => rfl)
theorem bb__law_cup (E : Env K mg) (X : Cx) (W : WX) (g : GX X W p__law_cup) (dx : DefX P w K mg base 0 X) : Ss X W (fun c : CR.D => [.pl c, .un]) ⟨[.un, .un], fun _ (_ : Unit) => [.un, .un], fun _ (e : Empty) => e.elim⟩ (defBody (top 60)) (fun c => m__law_cup c) := by
  obtain ⟨rfl, rfl, rfl, rfl, rfl, hr, tx⟩ := dx
  obtain ⟨m, h, rfl⟩ := b__law_cup g hr
  exact h
theorem c__law_cup (E : Env K mg) : CallF P w K mg base "_law_cup" 1 (SpL K mg 1 F__law_cup) := by
  obtain ⟨hm, fd, F⟩ := E.d__law_cup
  exact callF_mk F (fnL (p := p__law_cup) (ρ := fun c : CR.D => [.pl c, .un]) (m := fun c : CR.D => m__law_cup c) F (⟨rfl, rfl, rfl, by decide +kernel, rfl, by decide +kernel, by decide +kernel⟩ : FnScope p__law_cup.N ["script"] (defScope (top 60))) E.blt rfl (by decide +kernel) rfl (by decide +kernel) (fun ds hl => match ds, hl with | [a], _ => ⟨a, rfl, rfl⟩) (bb__law_cup E)) hm (fun _ _ _ _ _ _ us hl => match us, hl with | [_], _ => rfl)
theorem bb__law_roll (E : Env K mg) (a : Addr) (X : Cx) (W : WX) (g : GX X W p__law_roll) (dx : DefX P w K mg base 0 X) : Ss X W (fun c : CR.D => [.ab a cupP, .pl c, .un, .un]) ⟨[.ab a cupP, .un, .un, .un], fun _ (_ : Unit) => [.ab a cupP, .un, .un, .un], fun _ (e : Empty) => e.elim⟩ (defBody (top 61)) (fun c => m__law_roll c) := by
  obtain ⟨rfl, rfl, rfl, rfl, rfl, hr, tx⟩ := dx
  obtain ⟨m, h, rfl⟩ := b__law_roll a g hr
  exact h
theorem c__law_roll (E : Env K mg) : CallF P w K mg base "_law_roll" 1 (SpC K mg cupP 1 F__law_roll) := by
  obtain ⟨hm, fd, F⟩ := E.d__law_roll
  exact callF_mk F (fnC (p := p__law_roll) (ρ := fun a (c : CR.D) => [.ab a cupP, .pl c, .un, .un]) (m := fun c : CR.D => m__law_roll c) F (⟨rfl, rfl, rfl, by decide +kernel, rfl, by decide +kernel, by decide +kernel⟩ : FnScope p__law_roll.N ["cup", "many"] (defScope (top 61))) E.blt rfl (by decide +kernel) rfl (by decide +kernel) (fun ds hl => match ds, hl with | [a], _ => ⟨a, fun _ => rfl, rfl⟩) (bb__law_roll E)) hm (fun _ _ _ _ _ _ us hl => match us, hl with | [_, _], _ => rfl)
theorem bb__law_some (E : Env K mg) (a : Addr) (X : Cx) (W : WX) (g : GX X W p__law_some) (dx : DefX P w K mg base 1 X) : Ss X W (fun c : CR.D => [.ab a cupP, .pl c]) ⟨[.ab a cupP, .un], fun _ (_ : Unit) => [.ab a cupP, .un], fun _ (e : Empty) => e.elim⟩ (defBody (top 62)) (fun c => m__law_some c) := by
  obtain ⟨rfl, rfl, rfl, rfl, rfl, hr, tx⟩ := dx
  obtain ⟨m, h, rfl⟩ := b__law_some a g hr (c__law_roll E)
  exact h
theorem c__law_some (E : Env K mg) : CallF P w K mg base "_law_some" 2 (SpC K mg cupP 1 F__law_some) := by
  obtain ⟨hm, fd, F⟩ := E.d__law_some
  exact callF_mk F (fnC (p := p__law_some) (ρ := fun a (c : CR.D) => [.ab a cupP, .pl c]) (m := fun c : CR.D => m__law_some c) F (⟨rfl, rfl, rfl, by decide +kernel, rfl, by decide +kernel, by decide +kernel⟩ : FnScope p__law_some.N ["cup", "things"] (defScope (top 62))) E.blt rfl (by decide +kernel) rfl (by decide +kernel) (fun ds hl => match ds, hl with | [a], _ => ⟨a, fun _ => rfl, rfl⟩) (bb__law_some E)) hm (fun _ _ _ _ _ _ us hl => match us, hl with | [_, _], _ => rfl)
theorem bb__law_plain_set (E : Env K mg) (a : Addr) (X : Cx) (W : WX) (g : GX X W p__law_plain_set) (dx : DefX P w K mg base 2 X) : Ss X W (fun c : Unit => [.ab a cupP, .un, .un, .un]) ⟨[.ab a cupP, .un, .un, .un], fun _ (_ : Unit) => [.ab a cupP, .un, .un, .un], fun _ (e : Empty) => e.elim⟩ (defBody (top 63)) (fun c => m__law_plain_set) := by
  obtain ⟨rfl, rfl, rfl, rfl, rfl, hr, tx⟩ := dx
  obtain ⟨m, h, rfl⟩ := b__law_plain_set a g hr (c__law_some E) (c__law_roll E)
  exact h
theorem c__law_plain_set (E : Env K mg) : CallF P w K mg base "_law_plain_set" 3 (SpC K mg cupP 0 F__law_plain_set) := by
  obtain ⟨hm, fd, F⟩ := E.d__law_plain_set
  exact callF_mk F (fnC (p := p__law_plain_set) (ρ := fun a (c : Unit) => [.ab a cupP, .un, .un, .un]) (m := fun c : Unit => m__law_plain_set) F (⟨rfl, rfl, rfl, by decide +kernel, rfl, by decide +kernel, by decide +kernel⟩ : FnScope p__law_plain_set.N ["cup"] (defScope (top 63))) E.blt rfl (by decide +kernel) rfl (by decide +kernel) (fun ds hl => match ds, hl with | [], _ => ⟨(), fun _ => rfl, rfl⟩) (bb__law_plain_set E)) hm (fun _ _ _ _ _ _ us hl => match us, hl with | [_], _ => rfl)
theorem bb__law_error (E : Env K mg) (X : Cx) (W : WX) (g : GX X W p__law_error) (dx : DefX P w K mg base 20 X) : Ss X W (fun c : CR.D × CR.D => [.pl c.1, .pl c.2, .un]) ⟨[.un, .un, .un], fun _ (_ : Unit) => [.un, .un, .un], fun _ (e : Empty) => e.elim⟩ (defBody (top 64)) (fun c => m__law_error c.1 c.2) := by
  obtain ⟨rfl, rfl, rfl, rfl, rfl, hr, tx⟩ := dx
  obtain ⟨m, h, rfl⟩ := b__law_error g hr (c_corners_of E) (c_greatest_of E) tx E.gc_CountError E.gc_InvalidFormula E.gc_InvalidRow E.xc_CountError E.xc_InvalidFormula E.xc_InvalidRow E.ki_CountError_InvalidFormula E.ki_CountError_InvalidRow E.ki_InvalidFormula_InvalidFormula E.ki_InvalidFormula_InvalidRow E.ki_InvalidRow_InvalidFormula E.ki_InvalidRow_InvalidRow E.xm_CountError_CountError E.xm_InvalidFormula_CountError E.xm_InvalidRow_CountError
  exact h
theorem c__law_error (E : Env K mg) : CallF P w K mg base "_law_error" 21 (SpD K mg 2 F__law_error) := by
  obtain ⟨hm, fd, F⟩ := E.d__law_error
  exact callF_mk F (fnD (p := p__law_error) (ρ := fun c : CR.D × CR.D => [.pl c.1, .pl c.2, .un]) (m := fun c : CR.D × CR.D => m__law_error c.1 c.2) F (⟨rfl, rfl, rfl, by decide +kernel, rfl, by decide +kernel, by decide +kernel⟩ : FnScope p__law_error.N ["formula", "row"] (defScope (top 64))) E.blt rfl (by decide +kernel) rfl (by decide +kernel) (fun ds hl => match ds, hl with | [a, b], _ => ⟨(a, b), rfl, rfl⟩) (bb__law_error E)) hm (fun _ _ _ _ _ _ us hl => match us, hl with | [_, _], _ => rfl)
theorem bb_law (E : Env K mg) (X : Cx) (W : WX) (g : GX X W p_law) (dx : DefX P w K mg base 21 X) : Ss X W (fun c : CR.D => [.pl c, .un, .un, .un, .un, .un, .un, .un, .un, .un, .un]) ⟨[.un, .un, .un, .un, .un, .un, .un, .un, .un, .un, .un], fun _ (_ : Unit) => [.un, .un, .un, .un, .un, .un, .un, .un, .un, .un, .un], fun _ (e : Empty) => e.elim⟩ (defBody (top 65)) (fun c => m_law c) := by
  obtain ⟨rfl, rfl, rfl, rfl, rfl, hr, tx⟩ := dx
  obtain ⟨m, h, rfl⟩ := b_law g hr (c__law_cup E) (c__law_plain_set E) (c__law_some E) (c_is_plain_set E) (c__law_error E)
  exact h
theorem ok_law (E : Env K mg) {f : Addr} {fd : FuncData} (F : FunD K "law" "law" (defArgs (top 65)) (defBody (top 65)) (defScope (top 65)) [] [] f fd) : FnOk P w K mg base (L2.CX P w) 22 f fd ["script"] (SpD K mg 1 F_law) := by
  exact fnD (p := p_law) (ρ := fun c : CR.D => [.pl c, .un, .un, .un, .un, .un, .un, .un, .un, .un, .un]) (m := fun c : CR.D => m_law c) F (⟨rfl, rfl, rfl, by decide +kernel, rfl, by decide +kernel, by decide +kernel⟩ : FnScope p_law.N ["script"] (defScope (top 65))) E.blt rfl (by decide +kernel) rfl (by decide +kernel) (fun ds hl => match ds, hl with | [a], _ => ⟨a, rfl, rfl⟩) (bb_law E)
end
def fn : List He.DefD := [⟨("is_whole", none), "is_whole", "is_whole", defArgs (top 11), defBody (top 11), defScope (top 11), [], []⟩,
  ⟨("is_tuple_of", none), "is_tuple_of", "is_tuple_of", defArgs (top 12), defBody (top 12), defScope (top 12), [], []⟩,
  ⟨("fits_row", none), "fits_row", "fits_row", defArgs (top 13), defBody (top 13), defScope (top 13), [], []⟩,
  ⟨("fits_leaf", none), "fits_leaf", "fits_leaf", defArgs (top 14), defBody (top 14), defScope (top 14), [], []⟩,
  ⟨("parts_of", none), "parts_of", "parts_of", defArgs (top 15), defBody (top 15), defScope (top 15), [], []⟩,
  ⟨("fits_knot", none), "fits_knot", "fits_knot", defArgs (top 16), defBody (top 16), defScope (top 16), [], []⟩,
  ⟨("fits_test", none), "fits_test", "fits_test", defArgs (top 17), defBody (top 17), defScope (top 17), [], []⟩,
  ⟨("leaves_of", none), "leaves_of", "leaves_of", defArgs (top 18), defBody (top 18), defScope (top 18), [], []⟩,
  ⟨("common_divisor", none), "common_divisor", "common_divisor", defArgs (top 28), defBody (top 28), defScope (top 28), [], []⟩,
  ⟨("common_multiple", none), "common_multiple", "common_multiple", defArgs (top 29), defBody (top 29), defScope (top 29), [], []⟩,
  ⟨("divisors_in", none), "divisors_in", "divisors_in", defArgs (top 30), defBody (top 30), defScope (top 30), [], []⟩,
  ⟨("period_of", none), "period_of", "period_of", defArgs (top 31), defBody (top 31), defScope (top 31), [], []⟩,
  ⟨("row_of", none), "row_of", "row_of", defArgs (top 32), defBody (top 32), defScope (top 32), [], []⟩,
  ⟨("is_small_leaf", none), "is_small_leaf", "is_small_leaf", defArgs (top 33), defBody (top 33), defScope (top 33), [], []⟩,
  ⟨("height_of", none), "height_of", "height_of", defArgs (top 34), defBody (top 34), defScope (top 34), [], []⟩,
  ⟨("fits_formula", none), "fits_formula", "fits_formula", defArgs (top 35), defBody (top 35), defScope (top 35), [], []⟩,
  ⟨("fits_plain_set", none), "fits_plain_set", "fits_plain_set", defArgs (top 39), defBody (top 39), defScope (top 39), [], []⟩,
  ⟨("need_plain_set", none), "need_plain_set", "need_plain_set", defArgs (top 40), defBody (top 40), defScope (top 40), [], []⟩,
  ⟨("need_row", none), "need_row", "need_row", defArgs (top 41), defBody (top 41), defScope (top 41), [], []⟩,
  ⟨("lines_of", none), "lines_of", "lines_of", defArgs (top 42), defBody (top 42), defScope (top 42), [], []⟩,
  ⟨("lines_with", none), "lines_with", "lines_with", defArgs (top 43), defBody (top 43), defScope (top 43), [], []⟩,
  ⟨("bounds_in", none), "bounds_in", "bounds_in", defArgs (top 44), defBody (top 44), defScope (top 44), [], []⟩,
  ⟨("highest_lead", none), "highest_lead", "highest_lead", defArgs (top 45), defBody (top 45), defScope (top 45), [], []⟩,
  ⟨("lowest_lead", none), "lowest_lead", "lowest_lead", defArgs (top 46), defBody (top 46), defScope (top 46), [], []⟩,
  ⟨("has_points", none), "has_points", "has_points", defArgs (top 47), defBody (top 47), defScope (top 47), [], []⟩,
  ⟨("top_at", none), "top_at", "top_at", defArgs (top 48), defBody (top 48), defScope (top 48), [], []⟩,
  ⟨("leads_of", none), "leads_of", "leads_of", defArgs (top 49), defBody (top 49), defScope (top 49), [], []⟩,
  ⟨("tops_that_turn", none), "tops_that_turn", "tops_that_turn", defArgs (top 50), defBody (top 50), defScope (top 50), [], []⟩,
  ⟨("worths_of", none), "worths_of", "worths_of", defArgs (top 51), defBody (top 51), defScope (top 51), [], []⟩,
  ⟨("side_of", none), "side_of", "side_of", defArgs (top 52), defBody (top 52), defScope (top 52), [], []⟩,
  ⟨("is_endless", none), "is_endless", "is_endless", defArgs (top 53), defBody (top 53), defScope (top 53), [], []⟩,
  ⟨("best_lead", none), "best_lead", "best_lead", defArgs (top 54), defBody (top 54), defScope (top 54), [], []⟩,
  ⟨("other_at", none), "other_at", "other_at", defArgs (top 55), defBody (top 55), defScope (top 55), [], []⟩,
  ⟨("is_plain_set", none), "is_plain_set", "is_plain_set", defArgs (top 56), defBody (top 56), defScope (top 56), [], []⟩,
  ⟨("corners_of", none), "corners_of", "corners_of", defArgs (top 57), defBody (top 57), defScope (top 57), [], []⟩,
  ⟨("greatest_of", none), "greatest_of", "greatest_of", defArgs (top 58), defBody (top 58), defScope (top 58), [], []⟩,
  ⟨("_law_cup", none), "_law_cup", "_law_cup", defArgs (top 60), defBody (top 60), defScope (top 60), [], []⟩,
  ⟨("_law_roll", none), "_law_roll", "_law_roll", defArgs (top 61), defBody (top 61), defScope (top 61), [], []⟩,
  ⟨("_law_some", none), "_law_some", "_law_some", defArgs (top 62), defBody (top 62), defScope (top 62), [], []⟩,
  ⟨("_law_plain_set", none), "_law_plain_set", "_law_plain_set", defArgs (top 63), defBody (top 63), defScope (top 63), [], []⟩,
  ⟨("_law_error", none), "_law_error", "_law_error", defArgs (top 64), defBody (top 64), defScope (top 64), [], []⟩,
  ⟨("law", none), "law", "law", defArgs (top 65), defBody (top 65), defScope (top 65), [], []⟩]
def fa : List He.Fa := [.glo "is_whole", .glo "is_tuple_of", .glo "fits_row", .glo "fits_leaf", .glo "parts_of", .glo "fits_knot", .glo "fits_test", .glo "leaves_of", .glo "common_divisor", .glo "common_multiple", .glo "divisors_in", .glo "period_of", .glo "row_of", .glo "is_small_leaf", .glo "height_of", .glo "fits_formula", .glo "fits_plain_set", .glo "need_plain_set", .glo "need_row", .glo "lines_of", .glo "lines_with", .glo "bounds_in", .glo "highest_lead", .glo "lowest_lead", .glo "has_points", .glo "top_at", .glo "leads_of", .glo "tops_that_turn", .glo "worths_of", .glo "side_of", .glo "is_endless", .glo "best_lead", .glo "other_at", .glo "is_plain_set", .glo "corners_of", .glo "greatest_of", .glo "_law_cup", .glo "_law_roll", .glo "_law_some", .glo "_law_plain_set", .glo "_law_error", .glo "law", .glo "CountError", .glo "InvalidFormula", .glo "InvalidRow", .exc "InvalidFormula", .exc "InvalidRow", .exm "CountError" "CountError" true, .exm "InvalidFormula" "CountError" true, .exm "InvalidRow" "CountError" true]
def ex (K : PySem.W.Frag) : Bool := bltB K && (noLstB K && (globB K "CONSTANT" (D.int 20) && (globB K "DEEP" (D.int 6) && (globB K "DIVISOR" (D.int 1000000) && (globB K "FAR" (D.int 60) && (globB K "HIGHEST" (D.int 6) && (globB K "LEAD" (D.int 3) && (globB K "LEAVES" (D.int 6) && (globB K "LETTERS" (D.int 3) && (globB K "MULTIPLE" (D.int 6) && (globB K "NESTED" (D.int 12) && (globB K "NUMBER" (D.int 1000000000000) && (globB K "OTHER" (D.int 1) && (globB K "PARTS" (D.int 4000) && (globB K "ROW" (D.int 1000000) && (globB K "SIZE" (D.int 1000000000) && (globB K "TELLS" (D.tup [(D.str "some"), (D.str "all")]) && (excB K (He.ga K "CountError") && (excB K (He.ga K "InvalidFormula") && (excB K (He.ga K "InvalidRow") && (decide (PySem.W.kitOne K (.ref (He.ga K "CountError")) (.ref (He.ga K "InvalidFormula")) = some false) && (decide (PySem.W.kitOne K (.ref (He.ga K "CountError")) (.ref (He.ga K "InvalidRow")) = some false) && (decide (PySem.W.kitOne K (.ref (He.ga K "InvalidFormula")) (.ref (He.ga K "InvalidFormula")) = some true) && (decide (PySem.W.kitOne K (.ref (He.ga K "InvalidFormula")) (.ref (He.ga K "InvalidRow")) = some false) && (decide (PySem.W.kitOne K (.ref (He.ga K "InvalidRow")) (.ref (He.ga K "InvalidFormula")) = some false) && (decide (PySem.W.kitOne K (.ref (He.ga K "InvalidRow")) (.ref (He.ga K "InvalidRow")) = some true)))))))))))))))))))))))))))
theorem env_of {K : PySem.W.Frag} {h : Heap} {mg : Str → Option Value} (X : K.In h) (G : h.Ns mainGlobals mg) (c : He.SaysD fa fn K) (e : ex K = true) : Env K mg ∧ noLstB K = true := by
  unfold ex at e
  simp only [Bool.and_eq_true] at e
  obtain ⟨e0, e1, e2, e3, e4, e5, e6, e7, e8, e9, e10, e11, e12, e13, e14, e15, e16, e17, e18, e19, e20, e21, e22, e23, e24, e25, e26⟩ := e
  exact ⟨{
    blt := bltB_ok X G e0
    d_is_whole := ⟨He.glo_ok X G (c.fact 0 (f := .glo "is_whole") rfl), c.def_ 0 (d := fn[0]) rfl⟩
    d_is_tuple_of := ⟨He.glo_ok X G (c.fact 1 (f := .glo "is_tuple_of") rfl), c.def_ 1 (d := fn[1]) rfl⟩
    d_fits_row := ⟨He.glo_ok X G (c.fact 2 (f := .glo "fits_row") rfl), c.def_ 2 (d := fn[2]) rfl⟩
    d_fits_leaf := ⟨He.glo_ok X G (c.fact 3 (f := .glo "fits_leaf") rfl), c.def_ 3 (d := fn[3]) rfl⟩
    d_parts_of := ⟨He.glo_ok X G (c.fact 4 (f := .glo "parts_of") rfl), c.def_ 4 (d := fn[4]) rfl⟩
    d_fits_knot := ⟨He.glo_ok X G (c.fact 5 (f := .glo "fits_knot") rfl), c.def_ 5 (d := fn[5]) rfl⟩
    d_fits_test := ⟨He.glo_ok X G (c.fact 6 (f := .glo "fits_test") rfl), c.def_ 6 (d := fn[6]) rfl⟩
    d_leaves_of := ⟨He.glo_ok X G (c.fact 7 (f := .glo "leaves_of") rfl), c.def_ 7 (d := fn[7]) rfl⟩
    d_common_divisor := ⟨He.glo_ok X G (c.fact 8 (f := .glo "common_divisor") rfl), c.def_ 8 (d := fn[8]) rfl⟩
    d_common_multiple := ⟨He.glo_ok X G (c.fact 9 (f := .glo "common_multiple") rfl), c.def_ 9 (d := fn[9]) rfl⟩
    d_divisors_in := ⟨He.glo_ok X G (c.fact 10 (f := .glo "divisors_in") rfl), c.def_ 10 (d := fn[10]) rfl⟩
    d_period_of := ⟨He.glo_ok X G (c.fact 11 (f := .glo "period_of") rfl), c.def_ 11 (d := fn[11]) rfl⟩
    d_row_of := ⟨He.glo_ok X G (c.fact 12 (f := .glo "row_of") rfl), c.def_ 12 (d := fn[12]) rfl⟩
    d_is_small_leaf := ⟨He.glo_ok X G (c.fact 13 (f := .glo "is_small_leaf") rfl), c.def_ 13 (d := fn[13]) rfl⟩
    d_height_of := ⟨He.glo_ok X G (c.fact 14 (f := .glo "height_of") rfl), c.def_ 14 (d := fn[14]) rfl⟩
    d_fits_formula := ⟨He.glo_ok X G (c.fact 15 (f := .glo "fits_formula") rfl), c.def_ 15 (d := fn[15]) rfl⟩
    d_fits_plain_set := ⟨He.glo_ok X G (c.fact 16 (f := .glo "fits_plain_set") rfl), c.def_ 16 (d := fn[16]) rfl⟩
    d_need_plain_set := ⟨He.glo_ok X G (c.fact 17 (f := .glo "need_plain_set") rfl), c.def_ 17 (d := fn[17]) rfl⟩
    d_need_row := ⟨He.glo_ok X G (c.fact 18 (f := .glo "need_row") rfl), c.def_ 18 (d := fn[18]) rfl⟩
    d_lines_of := ⟨He.glo_ok X G (c.fact 19 (f := .glo "lines_of") rfl), c.def_ 19 (d := fn[19]) rfl⟩
    d_lines_with := ⟨He.glo_ok X G (c.fact 20 (f := .glo "lines_with") rfl), c.def_ 20 (d := fn[20]) rfl⟩
    d_bounds_in := ⟨He.glo_ok X G (c.fact 21 (f := .glo "bounds_in") rfl), c.def_ 21 (d := fn[21]) rfl⟩
    d_highest_lead := ⟨He.glo_ok X G (c.fact 22 (f := .glo "highest_lead") rfl), c.def_ 22 (d := fn[22]) rfl⟩
    d_lowest_lead := ⟨He.glo_ok X G (c.fact 23 (f := .glo "lowest_lead") rfl), c.def_ 23 (d := fn[23]) rfl⟩
    d_has_points := ⟨He.glo_ok X G (c.fact 24 (f := .glo "has_points") rfl), c.def_ 24 (d := fn[24]) rfl⟩
    d_top_at := ⟨He.glo_ok X G (c.fact 25 (f := .glo "top_at") rfl), c.def_ 25 (d := fn[25]) rfl⟩
    d_leads_of := ⟨He.glo_ok X G (c.fact 26 (f := .glo "leads_of") rfl), c.def_ 26 (d := fn[26]) rfl⟩
    d_tops_that_turn := ⟨He.glo_ok X G (c.fact 27 (f := .glo "tops_that_turn") rfl), c.def_ 27 (d := fn[27]) rfl⟩
    d_worths_of := ⟨He.glo_ok X G (c.fact 28 (f := .glo "worths_of") rfl), c.def_ 28 (d := fn[28]) rfl⟩
    d_side_of := ⟨He.glo_ok X G (c.fact 29 (f := .glo "side_of") rfl), c.def_ 29 (d := fn[29]) rfl⟩
    d_is_endless := ⟨He.glo_ok X G (c.fact 30 (f := .glo "is_endless") rfl), c.def_ 30 (d := fn[30]) rfl⟩
    d_best_lead := ⟨He.glo_ok X G (c.fact 31 (f := .glo "best_lead") rfl), c.def_ 31 (d := fn[31]) rfl⟩
    d_other_at := ⟨He.glo_ok X G (c.fact 32 (f := .glo "other_at") rfl), c.def_ 32 (d := fn[32]) rfl⟩
    d_is_plain_set := ⟨He.glo_ok X G (c.fact 33 (f := .glo "is_plain_set") rfl), c.def_ 33 (d := fn[33]) rfl⟩
    d_corners_of := ⟨He.glo_ok X G (c.fact 34 (f := .glo "corners_of") rfl), c.def_ 34 (d := fn[34]) rfl⟩
    d_greatest_of := ⟨He.glo_ok X G (c.fact 35 (f := .glo "greatest_of") rfl), c.def_ 35 (d := fn[35]) rfl⟩
    d__law_cup := ⟨He.glo_ok X G (c.fact 36 (f := .glo "_law_cup") rfl), c.def_ 36 (d := fn[36]) rfl⟩
    d__law_roll := ⟨He.glo_ok X G (c.fact 37 (f := .glo "_law_roll") rfl), c.def_ 37 (d := fn[37]) rfl⟩
    d__law_some := ⟨He.glo_ok X G (c.fact 38 (f := .glo "_law_some") rfl), c.def_ 38 (d := fn[38]) rfl⟩
    d__law_plain_set := ⟨He.glo_ok X G (c.fact 39 (f := .glo "_law_plain_set") rfl), c.def_ 39 (d := fn[39]) rfl⟩
    d__law_error := ⟨He.glo_ok X G (c.fact 40 (f := .glo "_law_error") rfl), c.def_ 40 (d := fn[40]) rfl⟩
    d_law := ⟨He.glo_ok X G (c.fact 41 (f := .glo "law") rfl), c.def_ 41 (d := fn[41]) rfl⟩
    g_CONSTANT := globB_ok X G e2
    g_DEEP := globB_ok X G e3
    g_DIVISOR := globB_ok X G e4
    g_FAR := globB_ok X G e5
    g_HIGHEST := globB_ok X G e6
    g_LEAD := globB_ok X G e7
    g_LEAVES := globB_ok X G e8
    g_LETTERS := globB_ok X G e9
    g_MULTIPLE := globB_ok X G e10
    g_NESTED := globB_ok X G e11
    g_NUMBER := globB_ok X G e12
    g_OTHER := globB_ok X G e13
    g_PARTS := globB_ok X G e14
    g_ROW := globB_ok X G e15
    g_SIZE := globB_ok X G e16
    g_TELLS := globB_ok X G e17
    gc_CountError := He.glo_ok X G (c.fact 42 (f := .glo "CountError") rfl)
    gc_InvalidFormula := He.glo_ok X G (c.fact 43 (f := .glo "InvalidFormula") rfl)
    gc_InvalidRow := He.glo_ok X G (c.fact 44 (f := .glo "InvalidRow") rfl)
    er_InvalidFormula := He.exc_ok (c.fact 45 (f := .exc "InvalidFormula") rfl)
    er_InvalidRow := He.exc_ok (c.fact 46 (f := .exc "InvalidRow") rfl)
    xc_CountError := excB_ok e18
    xc_InvalidFormula := excB_ok e19
    xc_InvalidRow := excB_ok e20
    ki_CountError_InvalidFormula := of_decide_eq_true e21
    ki_CountError_InvalidRow := of_decide_eq_true e22
    ki_InvalidFormula_InvalidFormula := of_decide_eq_true e23
    ki_InvalidFormula_InvalidRow := of_decide_eq_true e24
    ki_InvalidRow_InvalidFormula := of_decide_eq_true e25
    ki_InvalidRow_InvalidRow := of_decide_eq_true e26
    xm_CountError_CountError := He.exm_ok (c.fact 47 (f := .exm "CountError" "CountError" true) rfl)
    xm_InvalidFormula_CountError := He.exm_ok (c.fact 48 (f := .exm "InvalidFormula" "CountError" true) rfl)
    xm_InvalidRow_CountError := He.exm_ok (c.fact 49 (f := .exm "InvalidRow" "CountError" true) rfl) }, e1⟩
abbrev R : PySem.W.OpenRow := PySem.W.OpenLaw.row PySem.Challenge.rw_countrealm_k63_plain_sets
abbrev hk : PySem.W.Hook := hookX 4 fa fn ex
def ob (s : PySem.W.SharedT) : He.AlD × Bool := obsX 4 fa fn ex (HandSHeadRun.getT s)
theorem ob_eq (s : PySem.W.SharedT) : ob s = hk.obs s.abs := obsX_eq (HandSHeadRun.getT_eq s)
def loose : List Str := (["LETTERS", "SIZE", "NUMBER", "DIVISOR", "NESTED", "PARTS", "LEAVES", "DEEP", "TELLS", "LEAD", "OTHER", "CONSTANT", "HIGHEST", "MULTIPLE", "FAR", "ROW", "CountError", "InvalidFormula", "InvalidRow", "is_whole", "is_tuple_of", "fits_row", "fits_leaf", "parts_of", "fits_knot", "fits_test", "leaves_of", "common_divisor", "common_multiple", "divisors_in"] : List Str) ++ (["period_of", "row_of", "is_small_leaf", "height_of", "fits_formula", "fits_plain_set", "need_plain_set", "need_row", "lines_of", "lines_with", "bounds_in", "highest_lead", "lowest_lead", "has_points", "top_at", "leads_of", "tops_that_turn", "worths_of", "side_of", "is_endless", "best_lead", "other_at", "is_plain_set", "corners_of", "greatest_of", "_law_cup", "_law_roll", "_law_some", "_law_plain_set", "_law_error"] : List Str)
theorem run (w : World) : HandSHeadRun.RunEq R (PySem.W.view R.prog [65]) hk ob 4000 loose w := by
  intro os
  kernel_rfl
open PySem.W PySem.Calls in
theorem holds_of (hF : ∀ ns : List Int, ns.length ≤ 63 → (F_law [.lst (ns.map CR.D.int)]).wp (fun d => d = .bl true) fun _ => False) : PySem.Challenge.rw_countrealm_k63_plain_sets.Holds := by
  w_on; o_law
  refine HandSHeadRun.head_any (r := PySem.W.OpenLaw.row PySem.Challenge.rw_countrealm_k63_plain_sets) (q := PySem.W.view (PySem.W.OpenLaw.row PySem.Challenge.rw_countrealm_k63_plain_sets).prog [65]) (H := hk) (ob := ob) (M := 4000) (loose := loose) (d := HandSHeadRun.topDef (PySem.W.OpenLaw.row PySem.Challenge.rw_countrealm_k63_plain_sets).prog 65) (kwd := []) ob_eq
    (by kernel_rfl) (fun s => by kernel_rfl) run (by kernel_rfl) (by kernel_rfl) (by kernel_rfl) (by rfl) (by first | assumption | decide +kernel) (by decide +kernel) ⟨rfl, rfl, rfl, rfl, rfl, by decide +kernel⟩ ?hw ?hc
  case hw => w_witness2
  case hc =>
    refine walk_ofW (l := PySem.Challenge.rw_countrealm_k63_plain_sets) (n := 63) (k := 22) (x := "script") (CX := fun w => L2.CX (PySem.Challenge.rw_countrealm_k63_plain_sets).prog w) rfl (by decide) (by kernel_rfl) ⟨rfl, by decide, by decide⟩ ?F (fun _ _ _ _ _ z => cx_law _ _ _ _ z)
    intro w mg fa0 h Y G hmg0
    obtain ⟨K, KX, c, e⟩ := Y
    have hmg : mg ("law" : PySem.Str) = some (.ref fa0) := by
      have e : (HandSHeadRun.topDef (PySem.W.OpenLaw.row PySem.Challenge.rw_countrealm_k63_plain_sets).prog 65).name = ("law" : PySem.Str) := by kernel_rfl
      rw [← e]
      exact hmg0
    obtain ⟨E, nl⟩ := env_of KX G c e
    obtain ⟨hm, fd, F⟩ := E.d_law
    have ea := hmg.symm.trans hm
    cases ea
    have b := FunD.bindsA (ps := ["script"]) F fun _ _ _ _ _ _ us hl => match us, hl with | [_], _ => rfl
    exact ⟨K, fd, SpD K mg 1 F_law, KX, fun s v => b s [v] rfl, spd_law nl hF, fun base _ _ => ok_law E F⟩
end L_k63

set_option Elab.async false
set_option linter.all false
set_option maxRecDepth 100000
set_option maxHeartbeats 1000000
namespace L_k63
open PySem PySem.Spec CR
open CR (D O R)
/-! ### words -/
theorem g2_0 (a b : D) : getD (.tup [a, b]) (.int 0) = some a := rfl
theorem g2_1 (a b : D) : getD (.tup [a, b]) (.int 1) = some b := rfl
theorem g3_0 (a b c : D) : getD (.tup [a, b, c]) (.int 0) = some a := rfl
theorem g3_1 (a b c : D) : getD (.tup [a, b, c]) (.int 1) = some b := rfl
theorem g3_2 (a b c : D) : getD (.tup [a, b, c]) (.int 2) = some c := rfl
theorem g3_m (a b c : D) : getD (.tup [a, b, c]) (.int (-1)) = some c := rfl
theorem eqi (a b : Int) : eqB (.int a) (.int b) = some (a == b) := rfl
theorem nei (a b : Int) : neB (.int a) (.int b) = some (!(a == b)) := rfl
theorem eq_mm : eqB (.str "most") (.str "most") = some true := by kernel_rfl
theorem eq_mn : eqB (.str "most") (.str "not") = some false := by kernel_rfl
theorem eq_am : eqB (.str "and") (.str "most") = some false := by kernel_rfl
theorem eq_an : eqB (.str "and") (.str "not") = some false := by kernel_rfl
theorem eq_aa : eqB (.str "and") (.str "and") = some true := by kernel_rfl
theorem eq_md : eqB (.str "most") (.str "div") = some false := by kernel_rfl
theorem in_m : inD (.str "most") (.tup [.str "most", .str "div"]) = some true := by kernel_rfl
theorem in_a : inD (.str "and") (.tup [.str "most", .str "div"]) = some false := by kernel_rfl
theorem in_ao : inD (.str "and") (.tup [.str "and", .str "or"]) = some true := by kernel_rfl
theorem neg_i (i : Int) : negD (.int i) = some (.int (-i)) := rfl
theorem boolD_bl (b : Bool) : boolD (.bl b) = some b := rfl
theorem le_ii (a b : Int) : leB (.int a) (.int b) = some (decide (a ≤ b)) := rfl
theorem lt_ii (a b : Int) : ltB (.int a) (.int b) = some (decide (a < b)) := rfl
theorem gt_ii (a b : Int) : gtB (.int a) (.int b) = some (decide (a > b)) := rfl
theorem ge_ii (a b : Int) : geB (.int a) (.int b) = some (decide (a ≥ b)) := rfl
theorem len_t (xs : List D) : lenD (.tup xs) = some (.int xs.length) := rfl
theorem len_l (xs : List D) : lenD (.lst xs) = some (.int xs.length) := rfl
/-! ### leaves -/
def leafD (l : Int × Int × Int) : D := .tup [.str "most", .tup [.int l.1, .int l.2.1], .int l.2.2]
structure Good (l : Int × Int × Int) : Prop where
  a1 : -3 ≤ l.1
  a2 : l.1 ≤ 3
  b1 : -1 ≤ l.2.1
  b2 : l.2.1 ≤ 1
  c1 : -20 ≤ l.2.2
  c2 : l.2.2 ≤ 20
theorem is_whole_int (v lo hi : Int) : f_is_whole [.int v, .int lo, .int hi] = .ok (.bl (decide (lo ≤ v) && decide (v ≤ hi))) := by
  simp only [CR.R.bind_pure, CR.R.bind_ok, CR.R.opt_some, CR.R.ite_true, CR.R.ite_false, CR.R.pure_eq, CR.R.nox_ok, CR.R.guard_true, boolD_bl, le_ii, lt_ii, gt_ii, ge_ii, len_t, len_l, isi_int, isi_bool, isi_str, isi_tuple, isi_list, g2_0, g2_1, g3_0, g3_1, g3_2, g3_m, eqi, nei, eq_mm, eq_mn, eq_am, eq_an, eq_aa, eq_md, in_m, in_a, in_ao, neg_i, Bool.not_false, Bool.not_true, retDR, retLR, CR.O.out, CR.O.nxtR, CR.O.aftR, List.length_cons, List.length_nil, f_is_whole, r_is_whole]
  cases decide (lo ≤ v) <;> rfl
theorem is_tuple_of_tup (xs : List D) (lo hi : Int) : f_is_tuple_of [.tup xs, .int lo, .int hi] = .ok (.bl (decide (lo ≤ xs.length) && decide ((xs.length : Int) ≤ hi))) := by
  simp only [f_is_tuple_of, r_is_tuple_of, R.bind_pure, R.bind_ok, isi_tuple, R.opt_some, boolD, R.ite_true, R.ite_false, leB, Bool.not_false, R.pure_eq, lenD]
  cases decide (lo ≤ (xs.length : Int)) <;> rfl
theorem fits_row_ok {a b : Int} (h : -1000000000 ≤ a ∧ a ≤ 1000000000 ∧ -1000000000 ≤ b ∧ b ≤ 1000000000) : f_fits_row [.int 2, .tup [.int a, .int b]] = .ok (.bl true) := by
  have e1 : (decide (-1000000000 ≤ a) && decide (a ≤ 1000000000)) = true := by simp; omega
  have e2 : (decide (-1000000000 ≤ b) && decide (b ≤ 1000000000)) = true := by simp; omega
  simp only [CR.R.bind_pure, CR.R.bind_ok, CR.R.opt_some, CR.R.ite_true, CR.R.ite_false, CR.R.pure_eq, CR.R.nox_ok, CR.R.guard_true, boolD_bl, le_ii, lt_ii, gt_ii, ge_ii, len_t, len_l, isi_int, isi_bool, isi_str, isi_tuple, isi_list, g2_0, g2_1, g3_0, g3_1, g3_2, g3_m, eqi, nei, eq_mm, eq_mn, eq_am, eq_an, eq_aa, eq_md, in_m, in_a, in_ao, neg_i, Bool.not_false, Bool.not_true, retDR, retLR, CR.O.out, CR.O.nxtR, CR.O.aftR, List.length_cons, List.length_nil, f_fits_row, r_fits_row, is_tuple_of_tup, compR, is_whole_int, seqD, e1, e2]
  rfl
theorem fits_leaf_ok {l : Int × Int × Int} (g : Good l) : f_fits_leaf [.int 2, leafD l] = .ok (.bl true) := by
  have e := fits_row_ok (a := l.1) (b := l.2.1) ⟨by have := g.a1; omega, by have := g.a2; omega, by have := g.b1; omega, by have := g.b2; omega⟩
  have e3 : (decide (-1000000000000 ≤ l.2.2) && decide (l.2.2 ≤ 1000000000000)) = true := by have := g.c1; have := g.c2; simp; omega
  simp only [CR.R.bind_pure, CR.R.bind_ok, CR.R.opt_some, CR.R.ite_true, CR.R.ite_false, CR.R.pure_eq, CR.R.nox_ok, CR.R.guard_true, boolD_bl, le_ii, lt_ii, gt_ii, ge_ii, len_t, len_l, isi_int, isi_bool, isi_str, isi_tuple, isi_list, g2_0, g2_1, g3_0, g3_1, g3_2, g3_m, eqi, nei, eq_mm, eq_mn, eq_am, eq_an, eq_aa, eq_md, in_m, in_a, in_ao, neg_i, Bool.not_false, Bool.not_true, retDR, retLR, CR.O.out, CR.O.nxtR, CR.O.aftR, List.length_cons, List.length_nil, f_fits_leaf, r_fits_leaf, leafD, e, is_whole_int, e3]
  rfl
/-! ### the whole test -/
def andD (ls : List (Int × Int × Int)) : D := .tup [.str "and", .tup (ls.map leafD)]
def item (l : Int × Int × Int) : D := .tup [leafD l, .int 2]
theorem knot_ok {ls : List (Int × Int × Int)} (h : ls.length ≤ 6) : f_fits_knot [andD ls] = .ok (.bl true) := by
  have e : (decide ((0 : Int) ≤ (ls.map leafD).length) && decide (((ls.map leafD).length : Int) ≤ 4000)) = true := by rw [List.length_map]; simp; omega
  simp only [CR.R.bind_pure, CR.R.bind_ok, CR.R.opt_some, CR.R.ite_true, CR.R.ite_false, CR.R.pure_eq, CR.R.nox_ok, CR.R.guard_true, boolD_bl, le_ii, lt_ii, gt_ii, ge_ii, len_t, len_l, isi_int, isi_bool, isi_str, isi_tuple, isi_list, g2_0, g2_1, g3_0, g3_1, g3_2, g3_m, eqi, nei, eq_mm, eq_mn, eq_am, eq_an, eq_aa, eq_md, in_m, in_a, in_ao, neg_i, Bool.not_false, Bool.not_true, retDR, retLR, CR.O.out, CR.O.nxtR, CR.O.aftR, List.length_cons, List.length_nil, f_fits_knot, r_fits_knot, andD, is_tuple_of_tup, e]
  rfl
theorem parts_ok (ls : List (Int × Int × Int)) : f_parts_of [andD ls] = .ok (.tup (ls.map leafD)) := by
  simp only [CR.R.bind_pure, CR.R.bind_ok, CR.R.opt_some, CR.R.ite_true, CR.R.ite_false, CR.R.pure_eq, CR.R.nox_ok, CR.R.guard_true, boolD_bl, le_ii, lt_ii, gt_ii, ge_ii, len_t, len_l, isi_int, isi_bool, isi_str, isi_tuple, isi_list, g2_0, g2_1, g3_0, g3_1, g3_2, g3_m, eqi, nei, eq_mm, eq_mn, eq_am, eq_an, eq_aa, eq_md, in_m, in_a, in_ao, neg_i, Bool.not_false, Bool.not_true, retDR, retLR, CR.O.out, CR.O.nxtR, CR.O.aftR, List.length_cons, List.length_nil, f_parts_of, r_parts_of, andD]
theorem ne_nil (xs : List D) : neB (.lst xs) (.lst []) = some (!xs.isEmpty) := by
  have h : min (dep (.lst xs)) (dep (.lst [])) ≤ 64 := Nat.le_trans (Nat.min_le_right _ _) (by decide)
  unfold neB
  rw [if_pos h]
  cases xs <;> simp [eqD, eqDs]
theorem fits_test_and {ls : List (Int × Int × Int)} (h : ls.length ≤ 6) (g : ∀ l ∈ ls, Good l) : f_fits_test [.int 2, andD ls] = .ok (.bl true) := by
  have hk := knot_ok h
  have hp := parts_ok ls
  show R.bind (r_fits_test (.int 2) (andD ls)) retDR = _
  unfold r_fits_test
  simp only [R.bind_pure, R.bind_ok, R.pure_eq]
  refine (congrArg (fun z => R.bind z retDR) (R.bind_of (a := O.nx (([] : List D), D.int (1 + ls.length))) ?_)).trans rfl
  show iterR _ _ (999999 + 1) _ = _
  have e0 : compR Option.some (fun _ => R.ok true) (fun v => R.ok (D.tup [v, D.int 2])) (ls.map leafD) = .ok (ls.map item) :=
    compR_all leafD leafD item ls (fun _ _ => rfl) (fun _ _ => rfl)
  have e1 : len2B [] (ls.map item) = true := by
    unfold len2B
    rw [List.length_map]
    exact decide_eq_true (Nat.le_trans (m := 100) (by simp; omega) (by decide))
  refine (iterR_step (b := (ls.map item, .int 1)) ?_ ?_).trans ?_
  · simp only [ne_nil, R.opt_some, R.pure_eq, List.isEmpty_cons, Bool.not_false]
  · have t2 : f_is_tuple_of [andD ls, .int 2, .int 4] = .ok (.bl true) := by
      rw [andD, is_tuple_of_tup]; rfl
    have ga : getD (andD ls) (.int 0) = some (.str "and") := rfl
    have gl : ([D.tup [andD ls, .int 1]] : List D).getLast? = some (D.tup [andD ls, .int 1]) := rfl
    have gt : gmTup (gmCons Option.some (gmCons Option.some gmNil)) (D.tup [andD ls, .int 1]) = some (andD ls, .int 1, ()) := rfl
    have ad : addD (.int 0) (.int 1) = some (.int 1) := rfl
    have ad2 : addD (.int 1) (.int 1) = some (.int 2) := rfl
    have sq : seqD (D.tup (ls.map leafD)) = some (ls.map leafD) := rfl
    have dl : ([D.tup [andD ls, .int 1]] : List D).dropLast = [] := rfl
    simp only [CR.R.bind_pure, CR.R.bind_ok, CR.R.opt_some, CR.R.ite_true, CR.R.ite_false, CR.R.pure_eq, CR.R.nox_ok, CR.R.guard_true, boolD_bl, le_ii, lt_ii, gt_ii, ge_ii, len_t, len_l, isi_int, isi_bool, isi_str, isi_tuple, isi_list, g2_0, g2_1, g3_0, g3_1, g3_2, g3_m, eqi, nei, eq_mm, eq_mn, eq_am, eq_an, eq_aa, eq_md, in_m, in_a, in_ao, neg_i, Bool.not_false, Bool.not_true, retDR, retLR, CR.O.out, CR.O.nxtR, CR.O.aftR, List.length_cons, List.length_nil, gl, gt, ad, ad2, t2, ga, hk, hp, sq, e0, dl, e1]
    rfl
  · -- the leaves, from behind
    obtain ⟨m, hm⟩ : ∃ m, 999999 = (m + 1) + ls.length := ⟨999998 - ls.length, by omega⟩
    rw [hm]
    have st0 : (ls.map item, D.int 1) = ((ls.map item).take (ls.length - 0), D.int (1 + (0 : Nat))) := by
      rw [Nat.sub_zero, List.take_of_length_le (by rw [List.length_map]; omega)]
      rfl
    rw [st0]
    refine (iterR_run (fun i => ((ls.map item).take (ls.length - i), D.int (1 + (i : Nat)))) ls.length (m + 1) fun i hi => ⟨?_, ?_⟩).trans ?_
    · have hne : ((ls.map item).take (ls.length - i)).isEmpty = false := by
        cases e : (ls.map item).take (ls.length - i) with
        | nil =>
          have := congrArg List.length e
          rw [List.length_take, List.length_map] at this
          simp at this
          omega
        | cons _ _ => rfl
      simp only [ne_nil, R.opt_some, R.pure_eq, R.bind_ok, hne, Bool.not_false]
    · have hlt : ls.length - (i + 1) < ls.length := by omega
      have et : (ls.map item).take (ls.length - i) = (ls.map item).take (ls.length - (i + 1)) ++ [item (ls[ls.length - (i + 1)])] := by
        have : ls.length - i = (ls.length - (i + 1)) + 1 := by omega
        rw [this, List.take_succ, List.getElem?_map, List.getElem?_eq_getElem hlt]
        rfl
      have gl := g (ls[ls.length - (i + 1)]) (List.getElem_mem hlt)
      generalize ls[ls.length - (i + 1)] = l at et gl
      have lf := fits_leaf_ok gl
      have gg : (((ls.map item).take (ls.length - (i + 1)) ++ [item l]).getLast?) = some (item l) := by simp
      have gt : gmTup (gmCons Option.some (gmCons Option.some gmNil)) (item l) = some (leafD l, .int 2, ()) := rfl
      have dl : ((ls.map item).take (ls.length - (i + 1)) ++ [item l]).dropLast = (ls.map item).take (ls.length - (i + 1)) := by simp
      have ad : addD (.int (1 + (i : Nat))) (.int 1) = some (.int (1 + ((i + 1 : Nat) : Int))) := by
        show some (D.int _) = some (D.int _)
        have : (1 + (i : Int) + 1 : Int) = 1 + ((i + 1 : Nat) : Int) := by push_cast; omega
        rw [this]
      have t2 : f_is_tuple_of [leafD l, .int 2, .int 4] = .ok (.bl true) := by
        rw [leafD, is_tuple_of_tup]; rfl
      have ga : getD (leafD l) (.int 0) = some (.str "most") := rfl
      have lt : decide ((4000 : Int) < 1 + ((i + 1 : Nat) : Int)) = false := by
        simp
        omega
      simp only [et]
      simp only [CR.R.bind_pure, CR.R.bind_ok, CR.R.opt_some, CR.R.ite_true, CR.R.ite_false, CR.R.pure_eq, CR.R.nox_ok, CR.R.guard_true, boolD_bl, le_ii, lt_ii, gt_ii, ge_ii, len_t, len_l, isi_int, isi_bool, isi_str, isi_tuple, isi_list, g2_0, g2_1, g3_0, g3_1, g3_2, g3_m, eqi, nei, eq_mm, eq_mn, eq_am, eq_an, eq_aa, eq_md, in_m, in_a, in_ao, neg_i, Bool.not_false, Bool.not_true, retDR, retLR, CR.O.out, CR.O.nxtR, CR.O.aftR, List.length_cons, List.length_nil, gg, gt, ad, t2, ga, lf, dl, lt]
      rfl
    · have e9 : (ls.map item).take (ls.length - ls.length) = [] := by rw [Nat.sub_self]; rfl
      simp only [e9]
      refine (iterR_done ?_).trans rfl
      simp only [ne_nil, R.opt_some, R.pure_eq, R.bind_ok, List.isEmpty_nil, Bool.not_true]
theorem fits_test_leaf {l : Int × Int × Int} (g : Good l) : f_fits_test [.int 2, leafD l] = .ok (.bl true) := by
  have lf := fits_leaf_ok g
  show R.bind (r_fits_test (.int 2) (leafD l)) retDR = _
  unfold r_fits_test
  simp only [R.bind_pure, R.bind_ok, R.pure_eq]
  refine (congrArg (fun z => R.bind z retDR) (R.bind_of (a := O.nx (([] : List D), D.int 1)) ?_)).trans rfl
  show iterR _ _ (999998 + 1 + 1) _ = _
  refine (iterR_step (b := ([], .int 1)) ?_ ?_).trans ?_
  · simp only [ne_nil, R.opt_some, R.pure_eq, List.isEmpty_cons, Bool.not_false]
  · have t2 : f_is_tuple_of [leafD l, .int 2, .int 4] = .ok (.bl true) := by
      rw [leafD, is_tuple_of_tup]; rfl
    have ga : getD (leafD l) (.int 0) = some (.str "most") := rfl
    have gl : ([D.tup [leafD l, .int 1]] : List D).getLast? = some (D.tup [leafD l, .int 1]) := rfl
    have gt : gmTup (gmCons Option.some (gmCons Option.some gmNil)) (D.tup [leafD l, .int 1]) = some (leafD l, .int 1, ()) := rfl
    have ad : addD (.int 0) (.int 1) = some (.int 1) := rfl
    have dl : ([D.tup [leafD l, .int 1]] : List D).dropLast = [] := rfl
    simp only [CR.R.bind_pure, CR.R.bind_ok, CR.R.opt_some, CR.R.ite_true, CR.R.ite_false, CR.R.pure_eq, CR.R.nox_ok, CR.R.guard_true, boolD_bl, le_ii, lt_ii, gt_ii, ge_ii, len_t, len_l, isi_int, isi_bool, isi_str, isi_tuple, isi_list, g2_0, g2_1, g3_0, g3_1, g3_2, g3_m, eqi, nei, eq_mm, eq_mn, eq_am, eq_an, eq_aa, eq_md, in_m, in_a, in_ao, neg_i, Bool.not_false, Bool.not_true, retDR, retLR, CR.O.out, CR.O.nxtR, CR.O.aftR, List.length_cons, List.length_nil, gl, gt, ad, t2, ga, lf, dl]
    rfl
  · refine (iterR_done ?_).trans rfl
    simp only [ne_nil, R.opt_some, R.pure_eq, R.bind_ok, List.isEmpty_nil, Bool.not_true]
/-! ### leaves_of, height_of -/
theorem leaves_leaf (l : Int × Int × Int) : f_leaves_of [leafD l] = .ok [leafD l] := by
  show R.bind (r_leaves_of (leafD l)) retLR = _
  unfold r_leaves_of
  simp only [R.bind_pure, R.bind_ok, R.pure_eq]
  refine (congrArg (fun z => R.bind z retLR) (R.bind_of (a := O.nx (([] : List D), ([leafD l] : List D))) ?_)).trans rfl
  show iterR _ _ (999998 + 1 + 1) _ = _
  refine (iterR_step (b := ([], [leafD l])) ?_ ?_).trans ?_
  · simp only [ne_nil, R.opt_some, R.pure_eq, R.bind_ok, List.isEmpty_cons, Bool.not_false]
  · have ga : getD (leafD l) (.int 0) = some (.str "most") := rfl
    have lb : lenB ([] : List D) = true := by decide
    simp only [CR.R.bind_pure, CR.R.bind_ok, CR.R.opt_some, CR.R.ite_true, CR.R.ite_false, CR.R.pure_eq, CR.R.nox_ok, CR.R.guard_true, boolD_bl, le_ii, lt_ii, gt_ii, ge_ii, len_t, len_l, isi_int, isi_bool, isi_str, isi_tuple, isi_list, g2_0, g2_1, g3_0, g3_1, g3_2, g3_m, eqi, nei, eq_mm, eq_mn, eq_am, eq_an, eq_aa, eq_md, in_m, in_a, in_ao, neg_i, Bool.not_false, Bool.not_true, retDR, retLR, CR.O.out, CR.O.nxtR, CR.O.aftR, List.length_cons, List.length_nil, List.head?_cons, ga, lb, List.tail_cons, List.nil_append]
  · refine (iterR_done ?_).trans rfl
    simp only [ne_nil, R.opt_some, R.pure_eq, R.bind_ok, List.isEmpty_nil, Bool.not_true]
theorem leaves_and {ls : List (Int × Int × Int)} (h : ls.length ≤ 6) : f_leaves_of [andD ls] = .ok (ls.map leafD) := by
  have hp := parts_ok ls
  show R.bind (r_leaves_of (andD ls)) retLR = _
  unfold r_leaves_of
  simp only [R.bind_pure, R.bind_ok, R.pure_eq]
  refine (congrArg (fun z => R.bind z retLR) (R.bind_of (a := O.nx (([] : List D), (ls.map leafD : List D))) ?_)).trans rfl
  show iterR _ _ (999999 + 1) _ = _
  refine (iterR_step (b := (ls.map leafD, [])) ?_ ?_).trans ?_
  · simp only [ne_nil, R.opt_some, R.pure_eq, R.bind_ok, List.isEmpty_cons, Bool.not_false]
  · have ga : getD (andD ls) (.int 0) = some (.str "and") := rfl
    have sq : seqD (D.tup (ls.map leafD)) = some (ls.map leafD) := rfl
    have al : addL (.lst (ls.map leafD)) (.lst []) = some (ls.map leafD) := by
      show catL _ _ = _
      unfold catL
      rw [if_pos (Nat.le_trans (m := 100) (by simp; omega) (by decide)), List.append_nil]
    simp only [CR.R.bind_pure, CR.R.bind_ok, CR.R.opt_some, CR.R.ite_true, CR.R.ite_false, CR.R.pure_eq, CR.R.nox_ok, CR.R.guard_true, boolD_bl, le_ii, lt_ii, gt_ii, ge_ii, len_t, len_l, isi_int, isi_bool, isi_str, isi_tuple, isi_list, g2_0, g2_1, g3_0, g3_1, g3_2, g3_m, eqi, nei, eq_mm, eq_mn, eq_am, eq_an, eq_aa, eq_md, in_m, in_a, in_ao, neg_i, Bool.not_false, Bool.not_true, retDR, retLR, CR.O.out, CR.O.nxtR, CR.O.aftR, List.length_cons, List.length_nil, List.head?_cons, ga, hp, sq, List.tail_cons, al]
  · obtain ⟨m, hm⟩ : ∃ m, 999999 = (m + 1) + ls.length := ⟨999998 - ls.length, by omega⟩
    rw [hm]
    refine (iterR_run (fun i => ((ls.map leafD).drop i, (ls.map leafD).take i)) ls.length (m + 1) fun i hi => ⟨?_, ?_⟩).trans ?_
    · have hne : ((ls.map leafD).drop i).isEmpty = false := by
        cases e : (ls.map leafD).drop i with
        | nil =>
          have := congrArg List.length e
          rw [List.length_drop, List.length_map] at this
          simp at this
          omega
        | cons _ _ => rfl
      simp only [ne_nil, R.opt_some, R.pure_eq, R.bind_ok, hne, Bool.not_false]
    · have et : (ls.map leafD).drop i = leafD ls[i] :: (ls.map leafD).drop (i + 1) := by
        rw [List.drop_eq_getElem_cons (by rw [List.length_map]; exact hi), List.getElem_map]
      have eu : (ls.map leafD).take (i + 1) = (ls.map leafD).take i ++ [leafD ls[i]] := by
        rw [List.take_succ, List.getElem?_map, List.getElem?_eq_getElem hi]
        rfl
      have ga : getD (leafD ls[i]) (.int 0) = some (.str "most") := rfl
      have lb : lenB ((ls.map leafD).take i) = true := by
        unfold lenB
        rw [List.length_take, List.length_map]
        exact decide_eq_true (Nat.lt_of_lt_of_le (m := 100) (by omega) (by decide))
      simp only [et, eu]
      simp only [CR.R.bind_pure, CR.R.bind_ok, CR.R.opt_some, CR.R.ite_true, CR.R.ite_false, CR.R.pure_eq, CR.R.nox_ok, CR.R.guard_true, boolD_bl, le_ii, lt_ii, gt_ii, ge_ii, len_t, len_l, isi_int, isi_bool, isi_str, isi_tuple, isi_list, g2_0, g2_1, g3_0, g3_1, g3_2, g3_m, eqi, nei, eq_mm, eq_mn, eq_am, eq_an, eq_aa, eq_md, in_m, in_a, in_ao, neg_i, Bool.not_false, Bool.not_true, retDR, retLR, CR.O.out, CR.O.nxtR, CR.O.aftR, List.length_cons, List.length_nil, List.head?_cons, ga, lb, List.tail_cons]
    · have e9 : (ls.map leafD).drop ls.length = [] := by rw [List.drop_of_length_le (by rw [List.length_map]; omega)]
      have e8 : (ls.map leafD).take ls.length = ls.map leafD := List.take_of_length_le (by rw [List.length_map]; omega)
      simp only [e9, e8]
      refine (iterR_done ?_).trans rfl
      simp only [ne_nil, R.opt_some, R.pure_eq, R.bind_ok, List.isEmpty_nil, Bool.not_true]
theorem height_leaf (n : Nat) (l : Int × Int × Int) : f_height_of (n + 1) [leafD l] = .ok (.int 1) := by
  have ga : getD (leafD l) (.int 0) = some (.str "most") := rfl
  simp only [CR.R.bind_pure, CR.R.bind_ok, CR.R.opt_some, CR.R.ite_true, CR.R.ite_false, CR.R.pure_eq, CR.R.nox_ok, CR.R.guard_true, boolD_bl, le_ii, lt_ii, gt_ii, ge_ii, len_t, len_l, isi_int, isi_bool, isi_str, isi_tuple, isi_list, g2_0, g2_1, g3_0, g3_1, g3_2, g3_m, eqi, nei, eq_mm, eq_mn, eq_am, eq_an, eq_aa, eq_md, in_m, in_a, in_ao, neg_i, Bool.not_false, Bool.not_true, retDR, retLR, CR.O.out, CR.O.nxtR, CR.O.aftR, List.length_cons, List.length_nil, f_height_of, r_height_of, ga]
theorem height_and (n : Nat) {ls : List (Int × Int × Int)} (h : ls.length ≤ 6) : ∃ k : Int, f_height_of (n + 2) [andD ls] = .ok (.int k) ∧ k ≤ 2 := by
  have ga : getD (andD ls) (.int 0) = some (.str "and") := rfl
  have gb : getD (andD ls) (.int 1) = some (.tup (ls.map leafD)) := rfl
  have sq : seqD (D.tup (ls.map leafD)) = some (ls.map leafD) := rfl
  have ec : compR Option.some (fun _ => R.ok true) (fun v => f_height_of (n + 1) [v]) (ls.map leafD) = .ok (ls.map fun _ => D.int 1) :=
    compR_all leafD leafD (fun _ => D.int 1) ls (fun _ _ => rfl) (fun l _ => height_leaf n l)
  have al : addL (.lst [D.int 0]) (.lst (ls.map fun _ => D.int 1)) = some ((0 :: ls.map fun _ => (1 : Int)).map D.int) := by
    show catL _ _ = _
    unfold catL
    rw [if_pos (Nat.le_trans (m := 100) (by simp; omega) (by decide)), List.map_cons, List.map_map]
    rfl
  have hm : maxD (.lst ((0 :: ls.map fun _ => (1 : Int)).map D.int)) = some (.int ((ls.map fun _ => (1 : Int)).foldl (fun a b => if b > a then b else a) 0)) := by
    show ((intsD _).bind maxI).map D.int = _
    rw [intsD_map]
    rfl
  refine ⟨1 + (ls.map fun _ => (1 : Int)).foldl (fun a b => if b > a then b else a) 0, ?_, ?_⟩
  · have ad : ∀ a b : Int, addD (.int a) (.int b) = some (.int (a + b)) := fun _ _ => rfl
    show R.bind (r_height_of (f_height_of (n + 1)) (andD ls)) retDR = _
    simp only [CR.R.bind_pure, CR.R.bind_ok, CR.R.opt_some, CR.R.ite_true, CR.R.ite_false, CR.R.pure_eq, CR.R.nox_ok, CR.R.guard_true, boolD_bl, le_ii, lt_ii, gt_ii, ge_ii, len_t, len_l, isi_int, isi_bool, isi_str, isi_tuple, isi_list, g2_0, g2_1, g3_0, g3_1, g3_2, g3_m, eqi, nei, eq_mm, eq_mn, eq_am, eq_an, eq_aa, eq_md, in_m, in_a, in_ao, neg_i, Bool.not_false, Bool.not_true, retDR, retLR, CR.O.out, CR.O.nxtR, CR.O.aftR, List.length_cons, List.length_nil, r_height_of, ga, gb, sq, ec, al, hm, ad]
  · obtain ⟨_, _, h3⟩ := foldMax_le (ls.map fun _ => (1 : Int)) 0
    rcases h3 with h3 | h3
    · rw [h3]; decide
    · obtain ⟨_, _, e⟩ := List.mem_map.mp h3
      omega
/-! ### small leaves, the period -/
theorem small_ok {l : Int × Int × Int} (g : Good l) : f_is_small_leaf [leafD l] = .ok (.bl true) := by
  have r : f_row_of [leafD l] = .ok (.tup [.int l.1, .int l.2.1]) := by simp only [CR.R.bind_pure, CR.R.bind_ok, CR.R.opt_some, CR.R.ite_true, CR.R.ite_false, CR.R.pure_eq, CR.R.nox_ok, CR.R.guard_true, boolD_bl, le_ii, lt_ii, gt_ii, ge_ii, len_t, len_l, isi_int, isi_bool, isi_str, isi_tuple, isi_list, g2_0, g2_1, g3_0, g3_1, g3_2, g3_m, eqi, nei, eq_mm, eq_mn, eq_am, eq_an, eq_aa, eq_md, in_m, in_a, in_ao, neg_i, Bool.not_false, Bool.not_true, retDR, retLR, CR.O.out, CR.O.nxtR, CR.O.aftR, List.length_cons, List.length_nil, f_row_of, r_row_of, leafD]
  have c1 : cutT (.tup [.int l.1, .int l.2.1]) none (some 1) = some (.tup [.int l.1]) := rfl
  have c2 : cutT (.tup [.int l.1, .int l.2.1]) (some 1) none = some (.tup [.int l.2.1]) := rfl
  have s1 : ∀ xs, seqD (.tup xs) = some xs := fun _ => rfl
  have a1 : decide (-3 ≤ l.1) = true := decide_eq_true g.a1
  have a2 : decide (l.1 ≤ 3) = true := decide_eq_true g.a2
  have b1 : decide (-1 ≤ l.2.1) = true := decide_eq_true g.b1
  have b2 : decide (l.2.1 ≤ 1) = true := decide_eq_true g.b2
  have d1 : decide (-20 ≤ l.2.2) = true := decide_eq_true g.c1
  have d2 : decide (l.2.2 ≤ 20) = true := decide_eq_true g.c2
  have al : allD (.lst [.bl true]) = some (.bl true) := rfl
  have gm : getD (leafD l) (.int (-1)) = some (.int l.2.2) := rfl
  have g0 : getD (leafD l) (.int 0) = some (.str "most") := rfl
  simp only [CR.R.bind_pure, CR.R.bind_ok, CR.R.opt_some, CR.R.ite_true, CR.R.ite_false, CR.R.pure_eq, CR.R.nox_ok, CR.R.guard_true, boolD_bl, le_ii, lt_ii, gt_ii, ge_ii, len_t, len_l, isi_int, isi_bool, isi_str, isi_tuple, isi_list, g2_0, g2_1, g3_0, g3_1, g3_2, g3_m, eqi, nei, eq_mm, eq_mn, eq_am, eq_an, eq_aa, eq_md, in_m, in_a, in_ao, neg_i, Bool.not_false, Bool.not_true, retDR, retLR, CR.O.out, CR.O.nxtR, CR.O.aftR, List.length_cons, List.length_nil, f_is_small_leaf, r_is_small_leaf, r, c1, c2, intO, s1, compR, a1, a2, b1, b2, d1, d2, al, gm, g0]
theorem divs_leaf (l : Int × Int × Int) : f_divisors_in [leafD l] = .ok [] := by
  have g0 : getD (leafD l) (.int 0) = some (.str "most") := rfl
  have s1 : ∀ xs, seqD (.lst xs) = some xs := fun _ => rfl
  simp only [CR.R.bind_pure, CR.R.bind_ok, CR.R.opt_some, CR.R.ite_true, CR.R.ite_false, CR.R.pure_eq, CR.R.nox_ok, CR.R.guard_true, boolD_bl, le_ii, lt_ii, gt_ii, ge_ii, len_t, len_l, isi_int, isi_bool, isi_str, isi_tuple, isi_list, g2_0, g2_1, g3_0, g3_1, g3_2, g3_m, eqi, nei, eq_mm, eq_mn, eq_am, eq_an, eq_aa, eq_md, in_m, in_a, in_ao, neg_i, Bool.not_false, Bool.not_true, retDR, retLR, CR.O.out, CR.O.nxtR, CR.O.aftR, List.length_cons, List.length_nil, f_divisors_in, r_divisors_in, leaves_leaf, s1, compR, g0]
theorem divs_and {ls : List (Int × Int × Int)} (h : ls.length ≤ 6) : f_divisors_in [andD ls] = .ok [] := by
  have s1 : ∀ xs, seqD (.lst xs) = some xs := fun _ => rfl
  simp only [CR.R.bind_pure, CR.R.bind_ok, CR.R.opt_some, CR.R.ite_true, CR.R.ite_false, CR.R.pure_eq, CR.R.nox_ok, CR.R.guard_true, boolD_bl, le_ii, lt_ii, gt_ii, ge_ii, len_t, len_l, isi_int, isi_bool, isi_str, isi_tuple, isi_list, g2_0, g2_1, g3_0, g3_1, g3_2, g3_m, eqi, nei, eq_mm, eq_mn, eq_am, eq_an, eq_aa, eq_md, in_m, in_a, in_ao, neg_i, Bool.not_false, Bool.not_true, retDR, retLR, CR.O.out, CR.O.nxtR, CR.O.aftR, List.length_cons, List.length_nil, f_divisors_in, r_divisors_in, leaves_and h, s1]
  refine (congrArg (fun z => R.bind (R.bind z fun d => R.ok (O.rl d)) retLR) (compR_map leafD leafD (fun _ => false) (fun _ => D.non) ls (fun _ _ => rfl) (fun l _ => ?_) (fun _ _ h => by cases h))).trans ?_
  · have g0 : getD (leafD l) (.int 0) = some (.str "most") := rfl
    simp only [CR.R.bind_pure, CR.R.bind_ok, CR.R.opt_some, CR.R.ite_true, CR.R.ite_false, CR.R.pure_eq, CR.R.nox_ok, CR.R.guard_true, boolD_bl, le_ii, lt_ii, gt_ii, ge_ii, len_t, len_l, isi_int, isi_bool, isi_str, isi_tuple, isi_list, g2_0, g2_1, g3_0, g3_1, g3_2, g3_m, eqi, nei, eq_mm, eq_mn, eq_am, eq_an, eq_aa, eq_md, in_m, in_a, in_ao, neg_i, Bool.not_false, Bool.not_true, retDR, retLR, CR.O.out, CR.O.nxtR, CR.O.aftR, List.length_cons, List.length_nil, g0]
  · have : ls.filter (fun _ => false) = [] := List.filter_eq_nil_iff.mpr fun _ _ => by simp
    rw [this]
    rfl
theorem period_of_nil {t : D} (h : f_divisors_in [t] = .ok []) : f_period_of [t] = .ok (.int 1) := by
  have c : f_common_multiple [.lst []] = .ok (.int 1) := by kernel_rfl
  simp only [CR.R.bind_pure, CR.R.bind_ok, CR.R.opt_some, CR.R.ite_true, CR.R.ite_false, CR.R.pure_eq, CR.R.nox_ok, CR.R.guard_true, boolD_bl, le_ii, lt_ii, gt_ii, ge_ii, len_t, len_l, isi_int, isi_bool, isi_str, isi_tuple, isi_list, g2_0, g2_1, g3_0, g3_1, g3_2, g3_m, eqi, nei, eq_mm, eq_mn, eq_am, eq_an, eq_aa, eq_md, in_m, in_a, in_ao, neg_i, Bool.not_false, Bool.not_true, retDR, retLR, CR.O.out, CR.O.nxtR, CR.O.aftR, List.length_cons, List.length_nil, f_period_of, r_period_of, h, c]
/-! ### formulas -/
/-- a test of a plain set -/
inductive Tst : D → List (Int × Int × Int) → Prop where
  | one (l) (g : Good l) : Tst (leafD l) [l]
  | and (ls) (h : ls.length ≤ 6) (g : ∀ l ∈ ls, Good l) : Tst (andD ls) ls
theorem Tst.good {t : D} {ls} (h : Tst t ls) : ls.length ≤ 6 ∧ ∀ l ∈ ls, Good l := by
  cases h with
  | one l g => exact ⟨by simp, fun x hx => by rw [List.mem_singleton.mp hx]; exact g⟩
  | and ls h g => exact ⟨h, g⟩
theorem Tst.fits {t : D} {ls} (h : Tst t ls) : f_fits_test [.int 2, t] = .ok (.bl true) := by
  cases h with
  | one l g => exact fits_test_leaf g
  | and ls h g => exact fits_test_and h g
theorem Tst.leaves {t : D} {ls} (h : Tst t ls) : f_leaves_of [t] = .ok (ls.map leafD) := by
  cases h with
  | one l g => exact leaves_leaf l
  | and ls h g => exact leaves_and h
theorem Tst.height {t : D} {ls} (h : Tst t ls) : ∃ k : Int, f_height_of 16 [t] = .ok (.int k) ∧ k ≤ 2 := by
  cases h with
  | one l g => exact ⟨1, height_leaf 15 l, by decide⟩
  | and ls h g => exact height_and 14 h
theorem Tst.period {t : D} {ls} (h : Tst t ls) : f_period_of [t] = .ok (.int 1) := by
  cases h with
  | one l g => exact period_of_nil (divs_leaf l)
  | and ls h g => exact period_of_nil (divs_and h)
theorem all_small {ls : List (Int × Int × Int)} (g : ∀ l ∈ ls, Good l) : compR Option.some (fun _ => R.ok true) (fun v => f_is_small_leaf [v]) (ls.map leafD) = .ok ((ls.map fun _ => true).map D.bl) := by
  rw [List.map_map]
  exact compR_all leafD leafD (fun _ => D.bl true) ls (fun _ _ => rfl) fun l hl => small_ok (g l hl)
theorem allD_true (ls : List (Int × Int × Int)) : allD (.lst ((ls.map fun _ => true).map D.bl)) = some (.bl true) := by
  show (blsD _).map _ = _
  rw [blsD_map]
  show some (D.bl _) = _
  congr 2
  simp
theorem formula2 {t : D} {ls} (h : Tst t ls) : f_fits_formula [.tup [.int 2, .tup [], t]] = .ok (.bl true) := by
  obtain ⟨k, hk, hk2⟩ := h.height
  have gk : decide (6 < k) = false := decide_eq_false (by omega)
  have i3 := is_tuple_of_tup [.int 2, .tup [], t] 3 3
  have i0 := is_tuple_of_tup [] 0 2
  have iw := is_whole_int 2 0 3
  have s0 : ∀ xs, seqD (.tup xs) = some xs := fun _ => rfl
  have s1 : ∀ xs, seqD (.lst xs) = some xs := fun _ => rfl
  have ad : addD (.int 2) (.int ((0 : Nat) : Int)) = some (.int 2) := rfl
  have al : allD (.lst []) = some (.bl true) := rfl
  have hl := h.good.1
  have ll : decide ((6 : Int) < ((ls.map leafD).length : Int)) = false := by rw [List.length_map]; exact decide_eq_false (by omega)
  simp only [CR.R.bind_pure, CR.R.bind_ok, CR.R.opt_some, CR.R.ite_true, CR.R.ite_false, CR.R.pure_eq, CR.R.nox_ok, CR.R.guard_true, boolD_bl, le_ii, lt_ii, gt_ii, ge_ii, len_t, len_l, isi_int, isi_bool, isi_str, isi_tuple, isi_list, g2_0, g2_1, g3_0, g3_1, g3_2, g3_m, eqi, nei, eq_mm, eq_mn, eq_am, eq_an, eq_aa, eq_md, in_m, in_a, in_ao, neg_i, Bool.not_false, Bool.not_true, retDR, retLR, CR.O.out, CR.O.nxtR, CR.O.aftR, List.length_cons, List.length_nil, f_fits_formula, r_fits_formula, i3, i0, iw, s0, s1, compR, ad, al, h.fits, hk, gk, h.leaves, h.period, all_small h.good.2, allD_true]
  rw [ll]
  rfl
theorem formula1 {t : D} {ls} (h : Tst t ls) : f_fits_formula [.tup [.int 1, .tup [.str "some"], t]] = .ok (.bl true) := by
  obtain ⟨k, hk, hk2⟩ := h.height
  have gk : decide (6 < k) = false := decide_eq_false (by omega)
  have i3 := is_tuple_of_tup [.int 1, .tup [.str "some"], t] 3 3
  have i0 := is_tuple_of_tup [.str "some"] 0 2
  have iw := is_whole_int 1 0 3
  have s0 : ∀ xs, seqD (.tup xs) = some xs := fun _ => rfl
  have s1 : ∀ xs, seqD (.lst xs) = some xs := fun _ => rfl
  have ad : addD (.int 1) (.int ((0 + 1 : Nat) : Int)) = some (.int 2) := rfl
  have al : allD (.lst [.bl true]) = some (.bl true) := rfl
  have ins : inD (.str "some") (.tup [.str "some", .str "all"]) = some true := by kernel_rfl
  have hl := h.good.1
  have ll : decide ((6 : Int) < ((ls.map leafD).length : Int)) = false := by rw [List.length_map]; exact decide_eq_false (by omega)
  simp only [CR.R.bind_pure, CR.R.bind_ok, CR.R.opt_some, CR.R.ite_true, CR.R.ite_false, CR.R.pure_eq, CR.R.nox_ok, CR.R.guard_true, boolD_bl, le_ii, lt_ii, gt_ii, ge_ii, len_t, len_l, isi_int, isi_bool, isi_str, isi_tuple, isi_list, g2_0, g2_1, g3_0, g3_1, g3_2, g3_m, eqi, nei, eq_mm, eq_mn, eq_am, eq_an, eq_aa, eq_md, in_m, in_a, in_ao, neg_i, Bool.not_false, Bool.not_true, retDR, retLR, CR.O.out, CR.O.nxtR, CR.O.aftR, List.length_cons, List.length_nil, f_fits_formula, r_fits_formula, i3, i0, iw, s0, s1, compR, ad, al, ins, h.fits, hk, gk, h.leaves, h.period, all_small h.good.2, allD_true]
  rw [ll]
  rfl
def form (t : D) : D := .tup [.int 2, .tup [], t]
theorem plain_ok {t : D} {ls} (h : Tst t ls) : f_fits_plain_set [form t] = .ok (.bl true) := by
  have f := formula2 h
  have ee : neB (.tup []) (.tup []) = some false := by kernel_rfl
  have s0 : ∀ xs, seqD (.tup xs) = some xs := fun _ => rfl
  cases h with
  | one l g =>
    have g0 : getD (leafD l) (.int 0) = some (.str "most") := rfl
    simp only [CR.R.bind_pure, CR.R.bind_ok, CR.R.opt_some, CR.R.ite_true, CR.R.ite_false, CR.R.pure_eq, CR.R.nox_ok, CR.R.guard_true, boolD_bl, le_ii, lt_ii, gt_ii, ge_ii, len_t, len_l, isi_int, isi_bool, isi_str, isi_tuple, isi_list, g2_0, g2_1, g3_0, g3_1, g3_2, g3_m, eqi, nei, eq_mm, eq_mn, eq_am, eq_an, eq_aa, eq_md, in_m, in_a, in_ao, neg_i, Bool.not_false, Bool.not_true, retDR, retLR, CR.O.out, CR.O.nxtR, CR.O.aftR, List.length_cons, List.length_nil, f_fits_plain_set, r_fits_plain_set, form, f, ee, g0]
    rfl
  | and ls hl g =>
    have g0 : getD (andD ls) (.int 0) = some (.str "and") := rfl
    have g1 : getD (andD ls) (.int 1) = some (.tup (ls.map leafD)) := rfl
    have ec : compR Option.some (fun _ => R.ok true) (fun v => R.bind (R.opt (getD v (.int 0))) fun x => R.bind (R.opt (eqB x (.str "most"))) fun k => R.ok (D.bl k)) (ls.map leafD) = .ok ((ls.map fun _ => true).map D.bl) := by
      rw [List.map_map]
      refine compR_all leafD leafD (fun _ => D.bl true) ls (fun _ _ => rfl) fun l hl => ?_
      have g0 : getD (leafD l) (.int 0) = some (.str "most") := rfl
      simp only [CR.R.bind_pure, CR.R.bind_ok, CR.R.opt_some, CR.R.ite_true, CR.R.ite_false, CR.R.pure_eq, CR.R.nox_ok, CR.R.guard_true, boolD_bl, le_ii, lt_ii, gt_ii, ge_ii, len_t, len_l, isi_int, isi_bool, isi_str, isi_tuple, isi_list, g2_0, g2_1, g3_0, g3_1, g3_2, g3_m, eqi, nei, eq_mm, eq_mn, eq_am, eq_an, eq_aa, eq_md, in_m, in_a, in_ao, neg_i, Bool.not_false, Bool.not_true, retDR, retLR, CR.O.out, CR.O.nxtR, CR.O.aftR, List.length_cons, List.length_nil, g0]
    simp only [CR.R.bind_pure, CR.R.bind_ok, CR.R.opt_some, CR.R.ite_true, CR.R.ite_false, CR.R.pure_eq, CR.R.nox_ok, CR.R.guard_true, boolD_bl, le_ii, lt_ii, gt_ii, ge_ii, len_t, len_l, isi_int, isi_bool, isi_str, isi_tuple, isi_list, g2_0, g2_1, g3_0, g3_1, g3_2, g3_m, eqi, nei, eq_mm, eq_mn, eq_am, eq_an, eq_aa, eq_md, in_m, in_a, in_ao, neg_i, Bool.not_false, Bool.not_true, retDR, retLR, CR.O.out, CR.O.nxtR, CR.O.aftR, List.length_cons, List.length_nil, f_fits_plain_set, r_fits_plain_set, form, f, ee, g0, g1, s0, ec, allD_true]
    rfl
theorem plain_some {t : D} {ls} (h : Tst t ls) : f_fits_plain_set [.tup [.int 1, .tup [.str "some"], t]] = .ok (.bl false) := by
  have f := formula1 h
  simp only [CR.R.bind_pure, CR.R.bind_ok, CR.R.opt_some, CR.R.ite_true, CR.R.ite_false, CR.R.pure_eq, CR.R.nox_ok, CR.R.guard_true, boolD_bl, le_ii, lt_ii, gt_ii, ge_ii, len_t, len_l, isi_int, isi_bool, isi_str, isi_tuple, isi_list, g2_0, g2_1, g3_0, g3_1, g3_2, g3_m, eqi, nei, eq_mm, eq_mn, eq_am, eq_an, eq_aa, eq_md, in_m, in_a, in_ao, neg_i, Bool.not_false, Bool.not_true, retDR, retLR, CR.O.out, CR.O.nxtR, CR.O.aftR, List.length_cons, List.length_nil, f_fits_plain_set, r_fits_plain_set, f]
  rfl
theorem need_ok {t : D} {ls} (h : Tst t ls) : f_need_plain_set [form t] = .ok .non := by
  simp only [CR.R.bind_pure, CR.R.bind_ok, CR.R.opt_some, CR.R.ite_true, CR.R.ite_false, CR.R.pure_eq, CR.R.nox_ok, CR.R.guard_true, boolD_bl, le_ii, lt_ii, gt_ii, ge_ii, len_t, len_l, isi_int, isi_bool, isi_str, isi_tuple, isi_list, g2_0, g2_1, g3_0, g3_1, g3_2, g3_m, eqi, nei, eq_mm, eq_mn, eq_am, eq_an, eq_aa, eq_md, in_m, in_a, in_ao, neg_i, Bool.not_false, Bool.not_true, retDR, retLR, CR.O.out, CR.O.nxtR, CR.O.aftR, List.length_cons, List.length_nil, f_need_plain_set, r_need_plain_set, plain_ok h]
theorem need_bad {d : D} (h : f_fits_plain_set [d] = .ok (.bl false)) : f_need_plain_set [d] = .exc "InvalidFormula" := by
  simp only [CR.R.bind_pure, CR.R.bind_ok, CR.R.opt_some, CR.R.ite_true, CR.R.ite_false, CR.R.pure_eq, CR.R.nox_ok, CR.R.guard_true, boolD_bl, le_ii, lt_ii, gt_ii, ge_ii, len_t, len_l, isi_int, isi_bool, isi_str, isi_tuple, isi_list, g2_0, g2_1, g3_0, g3_1, g3_2, g3_m, eqi, nei, eq_mm, eq_mn, eq_am, eq_an, eq_aa, eq_md, in_m, in_a, in_ao, neg_i, Bool.not_false, Bool.not_true, retDR, retLR, CR.O.out, CR.O.nxtR, CR.O.aftR, List.length_cons, List.length_nil, f_need_plain_set, r_need_plain_set, h]
  rfl
end L_k63

set_option Elab.async false
set_option linter.all false
set_option maxRecDepth 100000
set_option maxHeartbeats 1000000
namespace L_k63
open PySem PySem.Spec CR
open CR (D O R)
theorem forR_inv {α G A : Type} {gm : D → Option G} {f : G → A → CR.R (O A A)} (enc : α → D) (g : α → G) (I : Nat → A → Prop) : ∀ (xs : List α) (i : Nat) (a : A), (∀ x ∈ xs, gm (enc x) = some (g x)) → I i a → (∀ j, j < i + xs.length → ∀ x ∈ xs, ∀ a, I j a → ∃ b, f (g x) a = .ok (.nx b) ∧ I (j + 1) b) →
    ∃ b, forR gm f (xs.map enc) a = .ok (.nx b) ∧ I (i + xs.length) b
  | [], i, a, _, h, _ => ⟨a, rfl, h⟩
  | x :: xs, i, a, h1, h, h2 => by
    obtain ⟨b, e, hb⟩ := h2 i (by rw [List.length_cons]; omega) x List.mem_cons_self a h
    obtain ⟨c, e2, hc⟩ := forR_inv enc g I xs (i + 1) b (fun y hy => h1 y (List.mem_cons_of_mem _ hy)) hb fun j hj y hy => h2 j (by rw [List.length_cons]; omega) y (List.mem_cons_of_mem _ hy)
    refine ⟨c, ?_, by rw [List.length_cons]; rw [show i + (xs.length + 1) = i + 1 + xs.length by omega]; exact hc⟩
    show R.bind (R.opt (gm (enc x))) _ = _
    rw [h1 x List.mem_cons_self]
    show R.bind (f (g x) a) _ = _
    rw [e]
    exact e2
/-! ### lines -/
def lineT (l : Int × Int × Int) : D := .tup [.tup [.int l.1, .int l.2.1], .int l.2.2]
theorem s_lst (xs : List D) : seqD (.lst xs) = some xs := rfl
theorem s_tup (xs : List D) : seqD (.tup xs) = some xs := rfl
theorem lines_ok {t : D} {ls} (h : Tst t ls) : f_lines_of [form t] = .ok (ls.map lineT) := by
  have ec : compR Option.some (fun _ => R.ok true) (fun v => R.bind (R.bind (R.opt (getD v (.int 1))) fun d => R.bind (R.bind (R.opt (getD v (.int 2))) fun d => R.ok [d]) fun ds => R.ok (d :: ds)) fun ds => R.ok (D.tup ds)) (ls.map leafD) = .ok (ls.map lineT) := by
    refine compR_all leafD leafD lineT ls (fun _ _ => rfl) fun l _ => ?_
    have g1 : getD (leafD l) (.int 1) = some (.tup [.int l.1, .int l.2.1]) := rfl
    have g2 : getD (leafD l) (.int 2) = some (.int l.2.2) := rfl
    simp only [CR.R.bind_pure, CR.R.bind_ok, CR.R.opt_some, CR.R.ite_true, CR.R.ite_false, CR.R.pure_eq, CR.R.nox_ok, CR.R.guard_true, boolD_bl, le_ii, lt_ii, gt_ii, ge_ii, len_t, len_l, isi_int, isi_bool, isi_str, isi_tuple, isi_list, g2_0, g2_1, g3_0, g3_1, g3_2, g3_m, eqi, nei, eq_mm, eq_mn, eq_am, eq_an, eq_aa, eq_md, in_m, in_a, in_ao, neg_i, Bool.not_false, Bool.not_true, retDR, retLR, CR.O.out, CR.O.nxtR, CR.O.aftR, List.length_cons, List.length_nil, g1, g2, lineT]
  cases h with
  | one l g =>
    have g0 : getD (leafD l) (.int 0) = some (.str "most") := rfl
    have ec' : compR Option.some (fun _ => R.ok true) (fun v => R.bind (R.bind (R.opt (getD v (.int 1))) fun d => R.bind (R.bind (R.opt (getD v (.int 2))) fun d => R.ok [d]) fun ds => R.ok (d :: ds)) fun ds => R.ok (D.tup ds)) [leafD l] = .ok [lineT l] := ec
    simp only [CR.R.bind_pure, CR.R.bind_ok, CR.R.opt_some, CR.R.ite_true, CR.R.ite_false, CR.R.pure_eq, CR.R.nox_ok, CR.R.guard_true, boolD_bl, le_ii, lt_ii, gt_ii, ge_ii, len_t, len_l, isi_int, isi_bool, isi_str, isi_tuple, isi_list, g2_0, g2_1, g3_0, g3_1, g3_2, g3_m, eqi, nei, eq_mm, eq_mn, eq_am, eq_an, eq_aa, eq_md, in_m, in_a, in_ao, neg_i, Bool.not_false, Bool.not_true, retDR, retLR, CR.O.out, CR.O.nxtR, CR.O.aftR, List.length_cons, List.length_nil, f_lines_of, r_lines_of, form, g0, s_lst, ec', List.map_cons, List.map_nil]
  | and ls hl g =>
    have g0 : getD (andD ls) (.int 0) = some (.str "and") := rfl
    have g1 : getD (andD ls) (.int 1) = some (.tup (ls.map leafD)) := rfl
    simp only [CR.R.bind_pure, CR.R.bind_ok, CR.R.opt_some, CR.R.ite_true, CR.R.ite_false, CR.R.pure_eq, CR.R.nox_ok, CR.R.guard_true, boolD_bl, le_ii, lt_ii, gt_ii, ge_ii, len_t, len_l, isi_int, isi_bool, isi_str, isi_tuple, isi_list, g2_0, g2_1, g3_0, g3_1, g3_2, g3_m, eqi, nei, eq_mm, eq_mn, eq_am, eq_an, eq_aa, eq_md, in_m, in_a, in_ao, neg_i, Bool.not_false, Bool.not_true, retDR, retLR, CR.O.out, CR.O.nxtR, CR.O.aftR, List.length_cons, List.length_nil, f_lines_of, r_lines_of, form, g0, g1, s_lst, s_tup, ec]
def w3 (q : Int × Int × Int) : D := .tup [.int q.1, .int q.2.1, .int q.2.2]
def withL (ls : List (Int × Int × Int)) (o : Int) : List (Int × Int × Int) := ((ls.zipIdx).filter fun p => p.1.2.1 == o).map fun p => ((p.2 : Int), p.1.1, p.1.2.2)
theorem enum_eq : ∀ (n : Nat) (ls : List (Int × Int × Int)), enumL n (ls.map lineT) = (ls.zipIdx n).map fun p => .tup [.int (p.2 : Int), lineT p.1]
  | _, [] => rfl
  | n, l :: ls => by
    rw [List.map_cons, List.zipIdx_cons, List.map_cons]
    show D.tup [.int (n : Int), lineT l] :: enumL (n + 1) (ls.map lineT) = _
    rw [enum_eq (n + 1) ls]
theorem with_ok (ls : List (Int × Int × Int)) (o : Int) : f_lines_with [.lst (ls.map lineT), .int o] = .ok ((withL ls o).map w3) := by
  have en : enumD (.lst (ls.map lineT)) = some ((ls.zipIdx).map fun p => .tup [.int (p.2 : Int), lineT p.1]) := by
    show some (enumL 0 _) = _
    rw [enum_eq]
  simp only [CR.R.bind_pure, CR.R.bind_ok, CR.R.opt_some, CR.R.ite_true, CR.R.ite_false, CR.R.pure_eq, CR.R.nox_ok, CR.R.guard_true, boolD_bl, le_ii, lt_ii, gt_ii, ge_ii, len_t, len_l, isi_int, isi_bool, isi_str, isi_tuple, isi_list, g2_0, g2_1, g3_0, g3_1, g3_2, g3_m, eqi, nei, eq_mm, eq_mn, eq_am, eq_an, eq_aa, eq_md, in_m, in_a, in_ao, neg_i, Bool.not_false, Bool.not_true, retDR, retLR, CR.O.out, CR.O.nxtR, CR.O.aftR, List.length_cons, List.length_nil, f_lines_with, r_lines_with, en]
  unfold withL
  rw [List.map_map]
  refine (congrArg (fun z => R.bind (R.bind z fun d => R.ok (O.rl d)) retLR) (compR_map (fun p : (Int × Int × Int) × Nat => D.tup [.int (p.2 : Int), lineT p.1]) (fun p => (D.int (p.2 : Int), (D.tup [.int p.1.1, .int p.1.2.1], D.int p.1.2.2, ()), ())) (fun p => p.1.2.1 == o)
    (fun p => w3 ((p.2 : Int), p.1.1, p.1.2.2)) ls.zipIdx (fun _ _ => rfl) (fun p _ => ?_) (fun p _ _ => ?_))).trans ?_
  · simp only [CR.R.bind_pure, CR.R.bind_ok, CR.R.opt_some, CR.R.ite_true, CR.R.ite_false, CR.R.pure_eq, CR.R.nox_ok, CR.R.guard_true, boolD_bl, le_ii, lt_ii, gt_ii, ge_ii, len_t, len_l, isi_int, isi_bool, isi_str, isi_tuple, isi_list, g2_0, g2_1, g3_0, g3_1, g3_2, g3_m, eqi, nei, eq_mm, eq_mn, eq_am, eq_an, eq_aa, eq_md, in_m, in_a, in_ao, neg_i, Bool.not_false, Bool.not_true, retDR, retLR, CR.O.out, CR.O.nxtR, CR.O.aftR, List.length_cons, List.length_nil]
  · simp only [CR.R.bind_pure, CR.R.bind_ok, CR.R.opt_some, CR.R.ite_true, CR.R.ite_false, CR.R.pure_eq, CR.R.nox_ok, CR.R.guard_true, boolD_bl, le_ii, lt_ii, gt_ii, ge_ii, len_t, len_l, isi_int, isi_bool, isi_str, isi_tuple, isi_list, g2_0, g2_1, g3_0, g3_1, g3_2, g3_m, eqi, nei, eq_mm, eq_mn, eq_am, eq_an, eq_aa, eq_md, in_m, in_a, in_ao, neg_i, Bool.not_false, Bool.not_true, retDR, retLR, CR.O.out, CR.O.nxtR, CR.O.aftR, List.length_cons, List.length_nil, w3]
  · rfl
theorem with_mem {ls : List (Int × Int × Int)} {o : Int} {q : Int × Int × Int} (h : q ∈ withL ls o) : ∃ l ∈ ls, q.2.1 = l.1 ∧ q.2.2 = l.2.2 := by
  obtain ⟨p, hp, rfl⟩ := List.mem_map.mp h
  have hp' := (List.mem_filter.mp hp).1
  refine ⟨p.1, ?_, rfl, rfl⟩
  obtain ⟨l, i⟩ := p
  exact (List.mem_zipIdx hp').2.2 ▸ List.getElem_mem _
theorem with_len (ls : List (Int × Int × Int)) (o : Int) : (withL ls o).length ≤ ls.length := by
  unfold withL
  rw [List.length_map]
  exact Nat.le_trans (List.length_filter_le _ _) (by simp)
/-- what a good line tells of a and c -/
structure Wd (q : Int × Int × Int) : Prop where
  a1 : -3 ≤ q.2.1
  a2 : q.2.1 ≤ 3
  c1 : -20 ≤ q.2.2
  c2 : q.2.2 ≤ 20
theorem with_wd {ls : List (Int × Int × Int)} {o : Int} (g : ∀ l ∈ ls, Good l) : ∀ q ∈ withL ls o, Wd q := fun q hq => by
  obtain ⟨l, hl, e1, e2⟩ := with_mem hq
  have := g l hl
  exact ⟨by rw [e1]; exact this.a1, by rw [e1]; exact this.a2, by rw [e2]; exact this.c1, by rw [e2]; exact this.c2⟩
/-! ### bounds -/
def b3 (q : D × Int × Int) : D := .tup [q.1, .int q.2.1, .int q.2.2]
structure Bd (q : D × Int × Int) : Prop where
  s1 : -6 ≤ q.2.1
  s2 : q.2.1 ≤ 6
  t1 : -40 ≤ q.2.2
  t2 : q.2.2 ≤ 40
theorem bounds_ok {ls : List (Int × Int × Int)} (hl : ls.length ≤ 6) (g : ∀ l ∈ ls, Good l) : ∃ bs : List (D × Int × Int), f_bounds_in [.lst (ls.map lineT)] = .ok (bs.map b3) ∧ ∀ q ∈ bs, Bd q := by
  have ad : ∀ a b : Int, addD (.int a) (.int b) = some (.int (a + b)) := fun _ _ => rfl
  have e0 : compR (gmTup (gmCons Option.some (gmCons Option.some (gmCons Option.some gmNil)))) (fun _ => R.ok true) (fun v54 : D × D × D × Unit => R.ok (D.tup [D.tup [v54.1], v54.2.1, v54.2.2.1])) ((withL ls 0).map w3) = .ok (((withL ls 0).map fun q => (D.tup [.int q.1], q.2.1, q.2.2)).map b3) := by
    rw [List.map_map]
    exact compR_all w3 (fun q => (D.int q.1, D.int q.2.1, D.int q.2.2, ())) (b3 ∘ fun q => (D.tup [.int q.1], q.2.1, q.2.2)) _ (fun _ _ => rfl) fun _ _ => rfl
  simp only [CR.R.bind_pure, CR.R.bind_ok, CR.R.opt_some, CR.R.ite_true, CR.R.ite_false, CR.R.pure_eq, CR.R.nox_ok, CR.R.guard_true, boolD_bl, le_ii, lt_ii, gt_ii, ge_ii, len_t, len_l, isi_int, isi_bool, isi_str, isi_tuple, isi_list, g2_0, g2_1, g3_0, g3_1, g3_2, g3_m, eqi, nei, eq_mm, eq_mn, eq_am, eq_an, eq_aa, eq_md, in_m, in_a, in_ao, neg_i, Bool.not_false, Bool.not_true, retDR, retLR, CR.O.out, CR.O.nxtR, CR.O.aftR, List.length_cons, List.length_nil, f_bounds_in, r_bounds_in, with_ok, s_lst, e0]
  generalize hF : forR _ _ _ _ = F
  have key : ∃ b, F = .ok (.nx b) ∧ ∃ bs : List (D × Int × Int), b = bs.map b3 ∧ bs.length ≤ 6 + 6 * (0 + (withL ls 1).length) ∧ ∀ q ∈ bs, Bd q := by
    rw [← hF]
    refine forR_inv w3 w3 (fun i b => ∃ bs : List (D × Int × Int), b = bs.map b3 ∧ bs.length ≤ 6 + 6 * i ∧ ∀ q ∈ bs, Bd q) (withL ls 1) 0 _ (fun _ _ => rfl) ⟨_, rfl, ?_, fun q hq => ?_⟩ fun i hi x hx a ⟨bs, ea, hlen, hb⟩ => ?_
    · rw [List.length_map]
      exact Nat.le_trans (with_len ls 0) (by omega)
    · obtain ⟨z, hz, rfl⟩ := List.mem_map.mp hq
      have := with_wd g z hz
      exact ⟨by have := this.a1; show -6 ≤ z.2.1; omega, by have := this.a2; show z.2.1 ≤ 6; omega, by have := this.c1; show -40 ≤ z.2.2; omega, by have := this.c2; show z.2.2 ≤ 40; omega⟩
    · subst ea
      have wx := with_wd g x hx
      let mk : (Int × Int × Int) → D × Int × Int := fun z => (D.tup [.int x.1, .int z.1], x.2.1 + z.2.1, x.2.2 + z.2.2)
      refine ⟨(bs ++ (withL ls (-1)).map mk).map b3, ?_, bs ++ (withL ls (-1)).map mk, rfl, ?_, fun q hq => ?_⟩
      · have hc : ∀ e : D → CR.R D, (∀ z : Int × Int × Int, e (w3 z) = .ok (b3 (mk z))) → compR Option.some (fun _ => R.ok true) e ((withL ls (-1)).map w3) = .ok (((withL ls (-1)).map mk).map b3) := fun e he => by
          rw [List.map_map]
          exact compR_all w3 w3 (b3 ∘ mk) _ (fun _ _ => rfl) fun z _ => he z
        have hz : len2B (bs.map b3) (((withL ls (-1)).map mk).map b3) = true := by
          unfold len2B
          rw [List.length_map, List.length_map, List.length_map]
          have h1 := with_len ls (-1)
          have h2 := with_len ls 1
          exact decide_eq_true (Nat.le_trans (m := 7000) (by omega) (by decide))
        rw [hc _ fun z => ?_]
        · simp only [CR.R.bind_pure, CR.R.bind_ok, CR.R.opt_some, CR.R.ite_true, CR.R.ite_false, CR.R.pure_eq, CR.R.nox_ok, CR.R.guard_true, boolD_bl, le_ii, lt_ii, gt_ii, ge_ii, len_t, len_l, isi_int, isi_bool, isi_str, isi_tuple, isi_list, g2_0, g2_1, g3_0, g3_1, g3_2, g3_m, eqi, nei, eq_mm, eq_mn, eq_am, eq_an, eq_aa, eq_md, in_m, in_a, in_ao, neg_i, Bool.not_false, Bool.not_true, retDR, retLR, CR.O.out, CR.O.nxtR, CR.O.aftR, List.length_cons, List.length_nil, hz]
          rw [List.map_append]
        · simp only [CR.R.bind_pure, CR.R.bind_ok, CR.R.opt_some, CR.R.ite_true, CR.R.ite_false, CR.R.pure_eq, CR.R.nox_ok, CR.R.guard_true, boolD_bl, le_ii, lt_ii, gt_ii, ge_ii, len_t, len_l, isi_int, isi_bool, isi_str, isi_tuple, isi_list, g2_0, g2_1, g3_0, g3_1, g3_2, g3_m, eqi, nei, eq_mm, eq_mn, eq_am, eq_an, eq_aa, eq_md, in_m, in_a, in_ao, neg_i, Bool.not_false, Bool.not_true, retDR, retLR, CR.O.out, CR.O.nxtR, CR.O.aftR, List.length_cons, List.length_nil, w3, b3, ad]
          rfl
      · rw [List.length_append, List.length_map]
        have := with_len ls (-1)
        omega
      · rcases List.mem_append.mp hq with hq | hq
        · exact hb q hq
        · obtain ⟨z, hz, rfl⟩ := List.mem_map.mp hq
          have wz := with_wd g z hz
          have a1 := wx.a1; have a2 := wx.a2; have a3 := wx.c1; have a4 := wx.c2
          have b1 := wz.a1; have b2 := wz.a2; have b3' := wz.c1; have b4 := wz.c2
          exact ⟨by show -6 ≤ x.2.1 + z.2.1; omega, by show x.2.1 + z.2.1 ≤ 6; omega, by show -40 ≤ x.2.2 + z.2.2; omega, by show x.2.2 + z.2.2 ≤ 40; omega⟩
  obtain ⟨b, e, bs, rfl, _, hb⟩ := key
  exact ⟨bs, by rw [e]; rfl, hb⟩
/-! ### the lowest and the highest lead -/
def optD : Option Int → D
  | none => .non
  | some v => .int v
theorem minI_mem : ∀ {ns : List Int}, ns ≠ [] → ∃ v, minI ns = some v ∧ v ∈ ns ∧ ∀ y ∈ ns, v ≤ y
  | [], h => absurd rfl h
  | n :: r, _ => by
    obtain ⟨h1, h2, h3⟩ := foldMin_le r n
    refine ⟨_, rfl, ?_, fun y hy => ?_⟩
    · rcases h3 with h3 | h3
      · rw [h3]; exact List.mem_cons_self
      · exact List.mem_cons_of_mem _ h3
    · rcases List.mem_cons.mp hy with e | hy
      · rw [e]; exact h1
      · exact h2 y hy
theorem maxI_mem : ∀ {ns : List Int}, ns ≠ [] → ∃ v, maxI ns = some v ∧ v ∈ ns ∧ ∀ y ∈ ns, y ≤ v
  | [], h => absurd rfl h
  | n :: r, _ => by
    obtain ⟨h1, h2, h3⟩ := foldMax_le r n
    refine ⟨_, rfl, ?_, fun y hy => ?_⟩
    · rcases h3 with h3 | h3
      · rw [h3]; exact List.mem_cons_self
      · exact List.mem_cons_of_mem _ h3
    · rcases List.mem_cons.mp hy with e | hy
      · rw [e]; exact h1
      · exact h2 y hy
theorem fdiv_small {t s : Int} (hs : 0 < s) (h1 : -40 ≤ t) (h2 : t ≤ 40) : -40 ≤ t.fdiv s ∧ t.fdiv s ≤ 40 := by
  rw [Int.fdiv_eq_ediv_of_nonneg _ (Int.le_of_lt hs)]
  constructor
  · apply Int.le_ediv_of_mul_le hs
    have : -40 * s ≤ -40 * 1 := by omega
    omega
  · apply Int.ediv_le_of_le_mul hs
    omega
theorem highest_ok {bs : List (D × Int × Int)} (hb : ∀ q ∈ bs, Bd q) : ∃ o : Option Int, f_highest_lead [.lst (bs.map b3)] = .ok (optD o) ∧ ∀ v, o = some v → -40 ≤ v ∧ v ≤ 40 := by
  have ec : compR (gmTup (gmCons Option.some (gmCons Option.some (gmCons Option.some gmNil)))) (fun v : D × D × D × Unit => R.opt (gtB v.2.1 (.int 0))) (fun v => R.opt (divD v.2.2.1 v.2.1)) (bs.map b3) = .ok (((bs.filter fun q => decide (0 < q.2.1)).map fun q => q.2.2.fdiv q.2.1).map D.int) := by
    rw [List.map_map]
    refine compR_map b3 (fun q => (q.1, D.int q.2.1, D.int q.2.2, ())) (fun q => decide (0 < q.2.1)) (D.int ∘ fun q => q.2.2.fdiv q.2.1) bs (fun _ _ => rfl) (fun _ _ => rfl) fun q hq hp => ?_
    have hp' : 0 < q.2.1 := of_decide_eq_true hp
    have hd : divOk q.2.1 = true := by
      have := (hb q hq).s2
      unfold divOk
      have e1 : decide (q.2.1 ≠ 0) = true := decide_eq_true (by omega)
      have e2 : decide (q.2.1.natAbs < 1073741824) = true := decide_eq_true (by omega)
      rw [e1, e2]; rfl
    show R.opt (if divOk q.2.1 then some (D.int (q.2.2.fdiv q.2.1)) else none) = _
    rw [if_pos hd]
    rfl
  have hbd : ∀ v ∈ (bs.filter fun q => decide (0 < q.2.1)).map fun q => q.2.2.fdiv q.2.1, -40 ≤ v ∧ v ≤ 40 := fun v hv => by
    obtain ⟨q, hq, rfl⟩ := List.mem_map.mp hv
    obtain ⟨h1, h2⟩ := List.mem_filter.mp hq
    exact fdiv_small (of_decide_eq_true h2) (hb q h1).t1 (hb q h1).t2
  simp only [CR.R.bind_pure, CR.R.bind_ok, CR.R.opt_some, CR.R.ite_true, CR.R.ite_false, CR.R.pure_eq, CR.R.nox_ok, CR.R.guard_true, boolD_bl, le_ii, lt_ii, gt_ii, ge_ii, len_t, len_l, isi_int, isi_bool, isi_str, isi_tuple, isi_list, g2_0, g2_1, g3_0, g3_1, g3_2, g3_m, eqi, nei, eq_mm, eq_mn, eq_am, eq_an, eq_aa, eq_md, in_m, in_a, in_ao, neg_i, Bool.not_false, Bool.not_true, retDR, retLR, CR.O.out, CR.O.nxtR, CR.O.aftR, List.length_cons, List.length_nil, f_highest_lead, r_highest_lead, s_lst, ec, ne_nil]
  revert hbd
  generalize ((bs.filter fun q => decide (0 < q.2.1)).map fun q => q.2.2.fdiv q.2.1) = ns
  intro hbd
  by_cases hn : ns = []
  · subst hn
    exact ⟨none, rfl, fun v h => by cases h⟩
  · obtain ⟨v, e, hm, _⟩ := minI_mem hn
    refine ⟨some v, ?_, fun u hu => by cases hu; exact hbd _ hm⟩
    have he : (ns.map D.int).isEmpty = false := by cases ns <;> simp_all
    have em : minD (.lst (ns.map D.int)) = some (.int v) := by
      show ((intsD _).bind minI).map D.int = _
      rw [intsD_map]
      show (minI ns).map D.int = _
      rw [e]; rfl
    simp only [CR.R.bind_pure, CR.R.bind_ok, CR.R.opt_some, CR.R.ite_true, CR.R.ite_false, CR.R.pure_eq, CR.R.nox_ok, CR.R.guard_true, boolD_bl, le_ii, lt_ii, gt_ii, ge_ii, len_t, len_l, isi_int, isi_bool, isi_str, isi_tuple, isi_list, g2_0, g2_1, g3_0, g3_1, g3_2, g3_m, eqi, nei, eq_mm, eq_mn, eq_am, eq_an, eq_aa, eq_md, in_m, in_a, in_ao, neg_i, Bool.not_false, Bool.not_true, retDR, retLR, CR.O.out, CR.O.nxtR, CR.O.aftR, List.length_cons, List.length_nil, he, em]
    rfl
theorem lowest_ok {bs : List (D × Int × Int)} (hb : ∀ q ∈ bs, Bd q) : ∃ o : Option Int, f_lowest_lead [.lst (bs.map b3)] = .ok (optD o) ∧ ∀ v, o = some v → -40 ≤ v ∧ v ≤ 40 := by
  have ec : compR (gmTup (gmCons Option.some (gmCons Option.some (gmCons Option.some gmNil)))) (fun v : D × D × D × Unit => R.opt (ltB v.2.1 (.int 0))) (fun v => R.bind (R.bind (R.opt (negD v.2.1)) fun y => R.opt (divD v.2.2.1 y)) fun d => R.opt (negD d)) (bs.map b3) = .ok (((bs.filter fun q => decide (q.2.1 < 0)).map fun q => -(q.2.2.fdiv (-q.2.1))).map D.int) := by
    rw [List.map_map]
    refine compR_map b3 (fun q => (q.1, D.int q.2.1, D.int q.2.2, ())) (fun q => decide (q.2.1 < 0)) (D.int ∘ fun q => -(q.2.2.fdiv (-q.2.1))) bs (fun _ _ => rfl) (fun _ _ => rfl) fun q hq hp => ?_
    have hp' : q.2.1 < 0 := of_decide_eq_true hp
    have hd : divOk (-q.2.1) = true := by
      have := (hb q hq).s1
      unfold divOk
      have e1 : decide (-q.2.1 ≠ 0) = true := decide_eq_true (by omega)
      have e2 : decide ((-q.2.1).natAbs < 1073741824) = true := decide_eq_true (by omega)
      rw [e1, e2]; rfl
    show R.bind (R.opt (if divOk (-q.2.1) then some (D.int (q.2.2.fdiv (-q.2.1))) else none)) _ = _
    rw [if_pos hd]
    rfl
  have hbd : ∀ v ∈ (bs.filter fun q => decide (q.2.1 < 0)).map fun q => -(q.2.2.fdiv (-q.2.1)), -40 ≤ v ∧ v ≤ 40 := fun v hv => by
    obtain ⟨q, hq, rfl⟩ := List.mem_map.mp hv
    obtain ⟨h1, h2⟩ := List.mem_filter.mp hq
    have := fdiv_small (s := -q.2.1) (by have := of_decide_eq_true h2; omega) (hb q h1).t1 (hb q h1).t2
    omega
  simp only [CR.R.bind_pure, CR.R.bind_ok, CR.R.opt_some, CR.R.ite_true, CR.R.ite_false, CR.R.pure_eq, CR.R.nox_ok, CR.R.guard_true, boolD_bl, le_ii, lt_ii, gt_ii, ge_ii, len_t, len_l, isi_int, isi_bool, isi_str, isi_tuple, isi_list, g2_0, g2_1, g3_0, g3_1, g3_2, g3_m, eqi, nei, eq_mm, eq_mn, eq_am, eq_an, eq_aa, eq_md, in_m, in_a, in_ao, neg_i, Bool.not_false, Bool.not_true, retDR, retLR, CR.O.out, CR.O.nxtR, CR.O.aftR, List.length_cons, List.length_nil, f_lowest_lead, r_lowest_lead, s_lst, ec, ne_nil]
  revert hbd
  generalize ((bs.filter fun q => decide (q.2.1 < 0)).map fun q => -(q.2.2.fdiv (-q.2.1))) = ns
  intro hbd
  by_cases hn : ns = []
  · subst hn
    exact ⟨none, rfl, fun v h => by cases h⟩
  · obtain ⟨v, e, hm, _⟩ := maxI_mem hn
    refine ⟨some v, ?_, fun u hu => by cases hu; exact hbd _ hm⟩
    have he : (ns.map D.int).isEmpty = false := by cases ns <;> simp_all
    have em : maxD (.lst (ns.map D.int)) = some (.int v) := by
      show ((intsD _).bind maxI).map D.int = _
      rw [intsD_map]
      show (maxI ns).map D.int = _
      rw [e]; rfl
    simp only [CR.R.bind_pure, CR.R.bind_ok, CR.R.opt_some, CR.R.ite_true, CR.R.ite_false, CR.R.pure_eq, CR.R.nox_ok, CR.R.guard_true, boolD_bl, le_ii, lt_ii, gt_ii, ge_ii, len_t, len_l, isi_int, isi_bool, isi_str, isi_tuple, isi_list, g2_0, g2_1, g3_0, g3_1, g3_2, g3_m, eqi, nei, eq_mm, eq_mn, eq_am, eq_an, eq_aa, eq_md, in_m, in_a, in_ao, neg_i, Bool.not_false, Bool.not_true, retDR, retLR, CR.O.out, CR.O.nxtR, CR.O.aftR, List.length_cons, List.length_nil, he, em]
    rfl
end L_k63

set_option Elab.async false
set_option linter.all false
set_option maxRecDepth 100000
set_option maxHeartbeats 1000000
namespace L_k63
open PySem PySem.Spec CR
open CR (D O)
theorem is_opt (o : Option Int) : isB (optD o) .non = some o.isNone := by cases o <;> rfl
theorem isnt_opt (o : Option Int) : isntB (optD o) .non = some (!o.isNone) := by cases o <;> rfl
theorem points_ok {bs : List (D × Int × Int)} (hb : ∀ q ∈ bs, Bd q) : ∃ b, f_has_points [.lst (bs.map b3)] = .ok (.bl b) := by
  obtain ⟨lo, hlo, _⟩ := lowest_ok hb
  obtain ⟨hi, hhi, _⟩ := highest_ok hb
  have ec : compR (gmTup (gmCons Option.some (gmCons Option.some (gmCons Option.some gmNil)))) (fun _ => R.ok true) (fun v : D × D × D × Unit => R.bind (R.bind (R.opt (eqB v.2.1 (.int 0))) fun k => R.ok (D.bl k)) fun d => R.bind (R.opt (boolD d)) fun t => R.ite t (R.bind (R.opt (ltB v.2.2.1 (.int 0))) fun k => R.ok (D.bl k)) (R.ok (D.bl false))) (bs.map b3) =
      .ok ((bs.map fun q => (q.2.1 == 0) && decide (q.2.2 < 0)).map D.bl) := by
    rw [List.map_map]
    refine compR_all b3 (fun q => (q.1, D.int q.2.1, D.int q.2.2, ())) (D.bl ∘ fun q => (q.2.1 == 0) && decide (q.2.2 < 0)) bs (fun _ _ => rfl) fun q _ => ?_
    simp only [CR.R.bind_pure, CR.R.bind_ok, CR.R.opt_some, CR.R.ite_true, CR.R.ite_false, CR.R.pure_eq, CR.R.nox_ok, CR.R.guard_true, boolD_bl, le_ii, lt_ii, gt_ii, ge_ii, len_t, len_l, isi_int, isi_bool, isi_str, isi_tuple, isi_list, g2_0, g2_1, g3_0, g3_1, g3_2, g3_m, eqi, nei, eq_mm, eq_mn, eq_am, eq_an, eq_aa, eq_md, in_m, in_a, in_ao, neg_i, Bool.not_false, Bool.not_true, retDR, retLR, CR.O.out, CR.O.nxtR, CR.O.aftR, List.length_cons, List.length_nil]
    cases h : (q.2.1 == 0) <;> simp [R.ite, h]
  have ea : anyD (.lst ((bs.map fun q => (q.2.1 == 0) && decide (q.2.2 < 0)).map D.bl)) = some (.bl ((bs.map fun q => (q.2.1 == 0) && decide (q.2.2 < 0)).any id)) := by
    show (blsD _).map _ = _
    rw [blsD_map]
    rfl
  simp only [CR.R.bind_pure, CR.R.bind_ok, CR.R.opt_some, CR.R.ite_true, CR.R.ite_false, CR.R.pure_eq, CR.R.nox_ok, CR.R.guard_true, boolD_bl, le_ii, lt_ii, gt_ii, ge_ii, len_t, len_l, isi_int, isi_bool, isi_str, isi_tuple, isi_list, g2_0, g2_1, g3_0, g3_1, g3_2, g3_m, eqi, nei, eq_mm, eq_mn, eq_am, eq_an, eq_aa, eq_md, in_m, in_a, in_ao, neg_i, Bool.not_false, Bool.not_true, retDR, retLR, CR.O.out, CR.O.nxtR, CR.O.aftR, List.length_cons, List.length_nil, f_has_points, r_has_points, s_lst, ec, ea, hlo, hhi, is_opt]
  cases (bs.map fun q => (q.2.1 == 0) && decide (q.2.2 < 0)).any id with
  | true => exact ⟨false, rfl⟩
  | false =>
    cases lo with
    | none => exact ⟨true, rfl⟩
    | some a =>
      cases hi with
      | none => exact ⟨true, rfl⟩
      | some b => exact ⟨decide (a ≤ b), rfl⟩
def tp (qs : List (Int × Int × Int)) (l : Int) : Int := (minI (qs.map fun q => q.2.2 - q.2.1 * l)).getD 0
theorem top_mem {qs : List (Int × Int × Int)} (h : qs ≠ []) (l : Int) : (∃ q ∈ qs, tp qs l = q.2.2 - q.2.1 * l) ∧ ∀ q ∈ qs, tp qs l ≤ q.2.2 - q.2.1 * l := by
  obtain ⟨v, e, hm, hle⟩ := minI_mem (ns := qs.map fun q => q.2.2 - q.2.1 * l) (by simpa using h)
  have et : tp qs l = v := by unfold tp; rw [e]; rfl
  rw [et]
  obtain ⟨q, hq, eq⟩ := List.mem_map.mp hm
  exact ⟨⟨q, hq, eq.symm⟩, fun q hq => hle _ (List.mem_map.mpr ⟨q, hq, rfl⟩)⟩
theorem top_ok {qs : List (Int × Int × Int)} (h : qs ≠ []) (hw : ∀ q ∈ qs, Wd q) (l : Int) : f_top_at [.lst (qs.map w3), .int l] = .ok (.int (tp qs l)) := by
  have ec : compR (gmTup (gmCons Option.some (gmCons Option.some (gmCons Option.some gmNil)))) (fun _ => R.ok true) (fun v : D × D × D × Unit => R.bind (R.opt (mulD v.2.1 (.int l))) fun y => R.opt (subD v.2.2.1 y)) (qs.map w3) = .ok ((qs.map fun q => q.2.2 - q.2.1 * l).map D.int) := by
    rw [List.map_map]
    refine compR_all w3 (fun q => (D.int q.1, D.int q.2.1, D.int q.2.2, ())) (D.int ∘ fun q => q.2.2 - q.2.1 * l) qs (fun _ _ => rfl) fun q hq => ?_
    have hm : mulOk q.2.1 l = true := by
      have := hw q hq
      have h1 := this.a1
      have h2 := this.a2
      unfold mulOk
      have : decide (q.2.1.natAbs < 2 ^ 64) = true := decide_eq_true (by omega)
      rw [this]; rfl
    show R.bind (R.opt (if mulOk q.2.1 l then some (D.int (q.2.1 * l)) else none)) _ = _
    rw [if_pos hm]
    rfl
  have em : minD (.lst ((qs.map fun q => q.2.2 - q.2.1 * l).map D.int)) = some (.int (tp qs l)) := by
    obtain ⟨v, e, _⟩ := minI_mem (ns := qs.map fun q => q.2.2 - q.2.1 * l) (by simpa using h)
    show ((intsD _).bind minI).map D.int = _
    rw [intsD_map]
    show (minI _).map D.int = _
    unfold tp
    rw [e]; rfl
  simp only [CR.R.bind_pure, CR.R.bind_ok, CR.R.opt_some, CR.R.ite_true, CR.R.ite_false, CR.R.pure_eq, CR.R.nox_ok, CR.R.guard_true, boolD_bl, le_ii, lt_ii, gt_ii, ge_ii, len_t, len_l, isi_int, isi_bool, isi_str, isi_tuple, isi_list, g2_0, g2_1, g3_0, g3_1, g3_2, g3_m, eqi, nei, eq_mm, eq_mn, eq_am, eq_an, eq_aa, eq_md, in_m, in_a, in_ao, neg_i, Bool.not_false, Bool.not_true, retDR, retLR, CR.O.out, CR.O.nxtR, CR.O.aftR, List.length_cons, List.length_nil, f_top_at, r_top_at, s_lst, ec, em]
/-- the slope on the way to l -/
def slope (qs : List (Int × Int × Int)) (l : Int) : Int := tp qs l - tp qs (l - 1)
theorem slope_bd {qs : List (Int × Int × Int)} (h : qs ≠ []) (hw : ∀ q ∈ qs, Wd q) (l : Int) : -3 ≤ slope qs l ∧ slope qs l ≤ 3 := by
  obtain ⟨⟨q1, h1, e1⟩, l1⟩ := top_mem h l
  obtain ⟨⟨q2, h2, e2⟩, l2⟩ := top_mem h (l - 1)
  have a := l1 q2 h2
  have b := l2 q1 h1
  have w1 := hw q1 h1
  have w2 := hw q2 h2
  have c1 := w1.a1; have c2 := w1.a2; have c3 := w2.a1; have c4 := w2.a2
  unfold slope
  rw [Int.mul_sub] at e2 b
  omega
theorem slope_anti {qs : List (Int × Int × Int)} (h : qs ≠ []) (l : Int) : slope qs (l + 1) ≤ slope qs l := by
  obtain ⟨⟨q, hq, e⟩, _⟩ := top_mem h l
  have a := (top_mem h (l + 1)).2 q hq
  have b := (top_mem h (l - 1)).2 q hq
  unfold slope
  rw [Int.mul_add] at a
  rw [Int.mul_sub] at b
  have : l + 1 - 1 = l := by omega
  rw [this]
  omega
/-! ### how many leads turn -/
theorem count_turn {qs : List (Int × Int × Int)} (h : qs ≠ []) (lo : Int) : ∀ n : Nat, (((List.range n).filter fun i => decide (slope qs (lo + (i : Nat)) > slope qs (lo + (i : Nat) + 1))).length : Int) ≤ slope qs lo - slope qs (lo + (n : Nat))
  | 0 => by simp
  | n + 1 => by
    have ih := count_turn h lo n
    have an := slope_anti h (lo + (n : Nat))
    rw [List.range_succ, List.filter_append, List.length_append]
    have e : lo + ((n + 1 : Nat) : Int) = lo + (n : Nat) + 1 := by push_cast; omega
    rw [e]
    by_cases c : slope qs (lo + (n : Nat)) > slope qs (lo + (n : Nat) + 1)
    · rw [List.filter_cons_of_pos (by simpa using c)]
      simp only [List.filter_nil, List.length_cons, List.length_nil]
      push_cast
      omega
    · rw [List.filter_cons_of_neg (by simpa using c)]
      simp only [List.filter_nil, List.length_nil]
      push_cast
      omega
theorem count_one (lo v : Int) : ∀ n : Nat, ((List.range n).filter fun i => decide (lo + (i : Nat) = v)).length ≤ if v < lo + (n : Nat) ∧ lo ≤ v then 1 else 0
  | 0 => by simp
  | n + 1 => by
    have ih := count_one lo v n
    rw [List.range_succ, List.filter_append, List.length_append]
    by_cases c : lo + (n : Nat) = v
    · rw [List.filter_cons_of_pos (by simpa using c)]
      rw [if_neg (by omega)] at ih
      rw [if_pos (by push_cast; omega)]
      simp only [List.filter_nil, List.length_cons, List.length_nil]
      omega
    · rw [List.filter_cons_of_neg (by simpa using c)]
      simp only [List.filter_nil, List.length_nil]
      by_cases c2 : v < lo + (n : Nat) ∧ lo ≤ v
      · rw [if_pos c2] at ih
        rw [if_pos (by push_cast; omega)]
        omega
      · rw [if_neg c2] at ih
        exact Nat.le_trans ih (Nat.zero_le _)
theorem count_or {α : Type} (p q : α → Bool) : ∀ l : List α, (l.filter fun x => p x || q x).length ≤ (l.filter p).length + (l.filter q).length
  | [] => by simp
  | x :: l => by
    have ih := count_or p q l
    simp only [List.filter_cons]
    cases p x <;> cases q x <;> simp <;> omega
end L_k63

set_option Elab.async false
set_option linter.all false
set_option maxRecDepth 100000
set_option maxHeartbeats 1000000
namespace L_k63
open PySem PySem.Spec CR
open CR (D O)
theorem forR_app' {α G : Type} {gm : D → Option G} {f : G → List D → CR.R (O (List D) (List D))} (enc : α → D) (g : α → G) (p : α → Bool) (v : α → D) (B : Nat) : ∀ (xs : List α) (acc : List D), (∀ x ∈ xs, gm (enc x) = some (g x)) → acc.length + xs.length ≤ B → (∀ x ∈ xs, ∀ acc : List D, acc.length < B → f (g x) acc = .ok (.nx (if p x then acc ++ [v x] else acc))) →
    forR gm f (xs.map enc) acc = .ok (.nx (acc ++ (xs.filter p).map v))
  | [], acc, _, _, _ => by
    show R.pure (O.nx acc) = _
    simp
  | x :: xs, acc, h1, hB, h2 => by
    rw [List.length_cons] at hB
    show R.bind (R.opt (gm (enc x))) _ = _
    rw [h1 x List.mem_cons_self]
    show R.bind (f (g x) acc) _ = _
    rw [h2 x List.mem_cons_self acc (by omega)]
    show forR gm f (xs.map enc) (if p x then acc ++ [v x] else acc) = _
    rw [forR_app' enc g p v B xs _ (fun y hy => h1 y (List.mem_cons_of_mem _ hy)) (by cases p x <;> simp <;> omega) (fun y hy acc h => h2 y (List.mem_cons_of_mem _ hy) acc h)]
    cases hp : p x with
    | false => rw [List.filter_cons_of_neg (by simp [hp])]; rfl
    | true =>
      rw [List.filter_cons_of_pos hp, List.map_cons]
      simp
theorem leads_ok {bs : List (D × Int × Int)} (hb : ∀ q ∈ bs, Bd q) : ∃ (lo : Int) (n : Nat), f_leads_of [.lst (bs.map b3)] = .ok (rangeL lo n) ∧ n ≤ 200 ∧ -60 ≤ lo ∧ lo ≤ 60 := by
  obtain ⟨lo, hlo, blo⟩ := lowest_ok hb
  obtain ⟨hi, hhi, bhi⟩ := highest_ok hb
  have ad : ∀ a b : Int, addD (.int a) (.int b) = some (.int (a + b)) := fun _ _ => rfl
  obtain ⟨l, hl1, hl2, e1⟩ : ∃ l : Int, -60 ≤ l ∧ l ≤ 60 ∧ R.ite lo.isNone (R.ok (D.int (-60))) (R.ok (optD lo)) = .ok (.int l) := by
    cases lo with
    | none => exact ⟨-60, by decide, by decide, rfl⟩
    | some v => have := blo v rfl; exact ⟨v, by omega, by omega, rfl⟩
  obtain ⟨h, hh1, hh2, e2⟩ : ∃ h : Int, -60 ≤ h ∧ h ≤ 60 ∧ R.ite hi.isNone (R.ok (D.int 60)) (R.ok (optD hi)) = .ok (.int h) := by
    cases hi with
    | none => exact ⟨60, by decide, by decide, rfl⟩
    | some v => have := bhi v rfl; exact ⟨v, by omega, by omega, rfl⟩
  have er : rngM (.int l) (.int (h + 1)) = some (rangeL l (h + 1 - l).toNat) := by
    show (if _ then _ else _) = _
    rw [if_pos ⟨by omega, by omega, by omega, by omega, Nat.le_trans (m := 200) (by omega) (by decide)⟩]
  refine ⟨l, (h + 1 - l).toNat, ?_, by omega, hl1, hl2⟩
  simp only [CR.R.bind_pure, CR.R.bind_ok, CR.R.opt_some, CR.R.ite_true, CR.R.ite_false, CR.R.pure_eq, CR.R.nox_ok, CR.R.guard_true, boolD_bl, le_ii, lt_ii, gt_ii, ge_ii, len_t, len_l, isi_int, isi_bool, isi_str, isi_tuple, isi_list, g2_0, g2_1, g3_0, g3_1, g3_2, g3_m, eqi, nei, eq_mm, eq_mn, eq_am, eq_an, eq_aa, eq_md, in_m, in_a, in_ao, neg_i, Bool.not_false, Bool.not_true, retDR, retLR, CR.O.out, CR.O.nxtR, CR.O.aftR, List.length_cons, List.length_nil, f_leads_of, r_leads_of, hlo, hhi, is_opt, e1, e2, ad, er]
theorem in_opt (x : Int) (lo hi : Option Int) : inD (.int x) (.tup [optD lo, optD hi]) = some (decide (lo = some x) || decide (hi = some x)) := by
  cases lo <;> cases hi <;> simp [inD, flatD, optD, eqD, beq_iff_eq] <;> simp [Bool.beq_eq_decide_eq]
def turnB (qs : List (Int × Int × Int)) (lo hi : Option Int) (x : Int) : Bool := (decide (lo = some x) || decide (hi = some x)) || decide (slope qs x > slope qs (x + 1))
theorem tops_ok {qs : List (Int × Int × Int)} (hw : ∀ q ∈ qs, Wd q) {bs : List (D × Int × Int)} (hb : ∀ q ∈ bs, Bd q) : ∃ rs : List (Int × Int), f_tops_that_turn [.lst (qs.map w3), .lst (bs.map b3)] = .ok (rs.map pairT) ∧ rs.length ≤ 8 := by
  obtain ⟨lo, hlo, _⟩ := lowest_ok hb
  obtain ⟨hi, hhi, _⟩ := highest_ok hb
  have ad : ∀ a b : Int, addD (.int a) (.int b) = some (.int (a + b)) := fun _ _ => rfl
  have sd : ∀ a b : Int, subD (.int a) (.int b) = some (.int (a - b)) := fun _ _ => rfl
  by_cases hq : qs = []
  · subst hq
    refine ⟨[], ?_, by simp⟩
    simp only [CR.R.bind_pure, CR.R.bind_ok, CR.R.opt_some, CR.R.ite_true, CR.R.ite_false, CR.R.pure_eq, CR.R.nox_ok, CR.R.guard_true, boolD_bl, le_ii, lt_ii, gt_ii, ge_ii, len_t, len_l, isi_int, isi_bool, isi_str, isi_tuple, isi_list, g2_0, g2_1, g3_0, g3_1, g3_2, g3_m, eqi, nei, eq_mm, eq_mn, eq_am, eq_an, eq_aa, eq_md, in_m, in_a, in_ao, neg_i, Bool.not_false, Bool.not_true, retDR, retLR, CR.O.out, CR.O.nxtR, CR.O.aftR, List.length_cons, List.length_nil, f_tops_that_turn, r_tops_that_turn, hlo, hhi, ne_nil, List.map_nil, List.isEmpty_nil, s_lst]
    rfl
  · obtain ⟨l, n, hld, hn, hl1, hl2⟩ := leads_ok hb
    have he : (qs.map w3).isEmpty = false := by cases qs <;> simp_all
    let p : Nat → Bool := fun i => turnB qs lo hi (l + (i : Nat))
    let v : Nat → Int × Int := fun i => (l + (i : Nat), tp qs (l + (i : Nat)))
    refine ⟨((List.range n).filter p).map v, ?_, ?_⟩
    · simp only [CR.R.bind_pure, CR.R.bind_ok, CR.R.opt_some, CR.R.ite_true, CR.R.ite_false, CR.R.pure_eq, CR.R.nox_ok, CR.R.guard_true, boolD_bl, le_ii, lt_ii, gt_ii, ge_ii, len_t, len_l, isi_int, isi_bool, isi_str, isi_tuple, isi_list, g2_0, g2_1, g3_0, g3_1, g3_2, g3_m, eqi, nei, eq_mm, eq_mn, eq_am, eq_an, eq_aa, eq_md, in_m, in_a, in_ao, neg_i, Bool.not_false, Bool.not_true, retDR, retLR, CR.O.out, CR.O.nxtR, CR.O.aftR, List.length_cons, List.length_nil, f_tops_that_turn, r_tops_that_turn, hlo, hhi, ne_nil, he, hld, s_lst]
      unfold rangeL
      rw [List.map_map]
      refine (congrArg (fun z => R.bind (R.bind z fun o => O.aftR o fun a78 => R.ok (O.rl a78)) retLR) (forR_app' (fun i : Nat => D.int (l + (i : Nat))) (fun i : Nat => D.int (l + (i : Nat))) p (pairT ∘ v) 1000 (List.range n) [] (fun _ _ => rfl) (by simp; omega) fun i _ acc hacc => ?_)).trans rfl
      have lb : lenB acc = true := decide_eq_true (Nat.lt_of_lt_of_le hacc (by decide))
      simp only [CR.R.bind_pure, CR.R.bind_ok, CR.R.opt_some, CR.R.ite_true, CR.R.ite_false, CR.R.pure_eq, CR.R.nox_ok, CR.R.guard_true, boolD_bl, le_ii, lt_ii, gt_ii, ge_ii, len_t, len_l, isi_int, isi_bool, isi_str, isi_tuple, isi_list, g2_0, g2_1, g3_0, g3_1, g3_2, g3_m, eqi, nei, eq_mm, eq_mn, eq_am, eq_an, eq_aa, eq_md, in_m, in_a, in_ao, neg_i, Bool.not_false, Bool.not_true, retDR, retLR, CR.O.out, CR.O.nxtR, CR.O.aftR, List.length_cons, List.length_nil, top_ok hq hw, in_opt, sd, ad, lb]
      have hgt : decide (tp qs (l + (i : Nat)) - tp qs (l + (i : Nat) - 1) > tp qs (l + (i : Nat) + 1) - tp qs (l + (i : Nat))) = decide (slope qs (l + (i : Nat)) > slope qs (l + (i : Nat) + 1)) := by
        have : l + (i : Int) + 1 - 1 = l + (i : Int) := by omega
        unfold slope
        rw [this]
      rw [hgt]
      show _ = R.ok (O.nx (if turnB qs lo hi (l + (i : Nat)) then _ else _))
      unfold turnB
      cases (decide (lo = some (l + (i : Int))) || decide (hi = some (l + (i : Int)))) <;> cases decide (slope qs (l + (i : Nat)) > slope qs (l + (i : Nat) + 1)) <;> rfl
    · rw [List.length_map]
      have b1 := slope_bd hq hw l
      have b2 := slope_bd hq hw (l + (n : Nat))
      have c1 := count_turn hq l n
      have c2 := count_or (fun i : Nat => decide (lo = some (l + (i : Int))) || decide (hi = some (l + (i : Int)))) (fun i : Nat => decide (slope qs (l + (i : Nat)) > slope qs (l + (i : Nat) + 1))) (List.range n)
      have c3 := count_or (fun i : Nat => decide (lo = some (l + (i : Int)))) (fun i : Nat => decide (hi = some (l + (i : Int)))) (List.range n)
      have one : ∀ o : Option Int, ((List.range n).filter fun i : Nat => decide (o = some (l + (i : Int)))).length ≤ 1 := fun o => by
        cases o with
        | none =>
          have : (List.range n).filter (fun i : Nat => decide ((none : Option Int) = some (l + (i : Int)))) = [] := List.filter_eq_nil_iff.mpr fun _ _ => by simp
          rw [this]
          simp
        | some u =>
          have e : (fun i : Nat => decide (some u = some (l + (i : Int)))) = fun i : Nat => decide (l + (i : Int) = u) := by
            funext i
            simp [eq_comm]
          rw [e]
          have := count_one l u n
          split at this <;> omega
      have o1 := one lo
      have o2 := one hi
      show ((List.range n).filter fun i => turnB qs lo hi (l + (i : Nat))).length ≤ 8
      unfold turnB
      omega
theorem pairsD_map : ∀ rs : List (Int × Int), pairsD (rs.map pairT) = some rs
  | [] => rfl
  | r :: rs => by
    show (pairsD (rs.map pairT)).map (fun l => (r.1, r.2) :: l) = _
    rw [pairsD_map rs]
    rfl
theorem corners_ok {t : D} {ls} (h : Tst t ls) : ∃ d, f_corners_of [form t] = .ok d := by
  obtain ⟨hl, g⟩ := h.good
  obtain ⟨bs, hbs, hb⟩ := bounds_ok hl g
  obtain ⟨b, hp⟩ := points_ok hb
  obtain ⟨r1, h1, l1⟩ := tops_ok (with_wd (o := 1) g) hb
  obtain ⟨r2, h2, l2⟩ := tops_ok (with_wd (o := -1) g) hb
  have ec : compR (gmTup (gmCons Option.some (gmCons Option.some gmNil))) (fun _ => R.ok true) (fun v : D × D × Unit => R.bind (R.bind (R.bind (R.opt (negD v.2.1)) fun d => R.ok [d]) fun ds => R.ok (v.1 :: ds)) fun ds => R.ok (D.tup ds)) (r2.map pairT) = .ok ((r2.map fun q => (q.1, -q.2)).map pairT) := by
    rw [List.map_map]
    exact compR_all pairT (fun q => (D.int q.1, D.int q.2, ())) (pairT ∘ fun q => (q.1, -q.2)) r2 (fun _ _ => rfl) fun _ _ => rfl
  have lb : len2B (r1.map pairT) ((r2.map fun q => (q.1, -q.2)).map pairT) = true := by
    unfold len2B
    rw [List.length_map, List.length_map, List.length_map]
    exact decide_eq_true (Nat.le_trans (m := 100) (by omega) (by decide))
  have p64 : pairs64 (.lst ((r1.map pairT) ++ ((r2.map fun q => (q.1, -q.2)).map pairT))) = some (r1 ++ r2.map fun q => (q.1, -q.2)) := by
    show (if _ then _ else _) = _
    rw [if_pos (by rw [List.length_append, List.length_map, List.length_map, List.length_map]; omega), ← List.map_append, pairsD_map]
  have tp : ∀ xs, tupD (.lst xs) = some (.tup xs) := fun _ => rfl
  simp only [CR.R.bind_pure, CR.R.bind_ok, CR.R.opt_some, CR.R.ite_true, CR.R.ite_false, CR.R.pure_eq, CR.R.nox_ok, CR.R.guard_true, boolD_bl, le_ii, lt_ii, gt_ii, ge_ii, len_t, len_l, isi_int, isi_bool, isi_str, isi_tuple, isi_list, g2_0, g2_1, g3_0, g3_1, g3_2, g3_m, eqi, nei, eq_mm, eq_mn, eq_am, eq_an, eq_aa, eq_md, in_m, in_a, in_ao, neg_i, Bool.not_false, Bool.not_true, retDR, retLR, CR.O.out, CR.O.nxtR, CR.O.aftR, List.length_cons, List.length_nil, f_corners_of, r_corners_of, need_ok h, lines_ok h, hbs, hp, with_ok, h1, h2, s_lst, ec, lb, p64, tp]
  cases b with
  | true => exact ⟨_, rfl⟩
  | false => exact ⟨_, rfl⟩
theorem corners_bad {d : D} (h : f_fits_plain_set [d] = .ok (.bl false)) : f_corners_of [d] = .exc "InvalidFormula" := by
  simp only [CR.R.bind_pure, CR.R.bind_ok, CR.R.opt_some, CR.R.ite_true, CR.R.ite_false, CR.R.pure_eq, CR.R.nox_ok, CR.R.guard_true, boolD_bl, le_ii, lt_ii, gt_ii, ge_ii, len_t, len_l, isi_int, isi_bool, isi_str, isi_tuple, isi_list, g2_0, g2_1, g3_0, g3_1, g3_2, g3_m, eqi, nei, eq_mm, eq_mn, eq_am, eq_an, eq_aa, eq_md, in_m, in_a, in_ao, neg_i, Bool.not_false, Bool.not_true, retDR, retLR, CR.O.out, CR.O.nxtR, CR.O.aftR, List.length_cons, List.length_nil, f_corners_of, r_corners_of, need_bad h]
  rfl
end L_k63

set_option Elab.async false
set_option linter.all false
set_option maxRecDepth 100000
set_option maxHeartbeats 1000000
namespace L_k63
open PySem PySem.Spec CR
open CR (D O)
theorem ad_i (a b : Int) : addD (.int a) (.int b) = some (.int (a + b)) := rfl
theorem sd_i (a b : Int) : subD (.int a) (.int b) = some (.int (a - b)) := rfl
theorem points_iff {bs : List (D × Int × Int)} (hb : ∀ q ∈ bs, Bd q) {lo hi : Option Int} (hlo : f_lowest_lead [.lst (bs.map b3)] = .ok (optD lo)) (hhi : f_highest_lead [.lst (bs.map b3)] = .ok (optD hi)) : ∃ b, f_has_points [.lst (bs.map b3)] = .ok (.bl b) ∧ (b = true → ∀ a c, lo = some a → hi = some c → a ≤ c) := by
  have ec : compR (gmTup (gmCons Option.some (gmCons Option.some (gmCons Option.some gmNil)))) (fun _ => R.ok true) (fun v : D × D × D × Unit => R.bind (R.bind (R.opt (eqB v.2.1 (.int 0))) fun k => R.ok (D.bl k)) fun d => R.bind (R.opt (boolD d)) fun t => R.ite t (R.bind (R.opt (ltB v.2.2.1 (.int 0))) fun k => R.ok (D.bl k)) (R.ok (D.bl false))) (bs.map b3) =
      .ok ((bs.map fun q => (q.2.1 == 0) && decide (q.2.2 < 0)).map D.bl) := by
    rw [List.map_map]
    refine compR_all b3 (fun q => (q.1, D.int q.2.1, D.int q.2.2, ())) (D.bl ∘ fun q => (q.2.1 == 0) && decide (q.2.2 < 0)) bs (fun _ _ => rfl) fun q _ => ?_
    simp only [CR.R.bind_pure, CR.R.bind_ok, CR.R.opt_some, CR.R.ite_true, CR.R.ite_false, CR.R.pure_eq, CR.R.nox_ok, CR.R.guard_true, boolD_bl, le_ii, lt_ii, gt_ii, ge_ii, len_t, len_l, isi_int, isi_bool, isi_str, isi_tuple, isi_list, g2_0, g2_1, g3_0, g3_1, g3_2, g3_m, eqi, nei, eq_mm, eq_mn, eq_am, eq_an, eq_aa, eq_md, in_m, in_a, in_ao, neg_i, Bool.not_false, Bool.not_true, retDR, retLR, CR.O.out, CR.O.nxtR, CR.O.aftR, List.length_cons, List.length_nil]
    cases h : (q.2.1 == 0) <;> simp [R.ite, h]
  have ea : anyD (.lst ((bs.map fun q => (q.2.1 == 0) && decide (q.2.2 < 0)).map D.bl)) = some (.bl ((bs.map fun q => (q.2.1 == 0) && decide (q.2.2 < 0)).any id)) := by
    show (blsD _).map _ = _
    rw [blsD_map]
    rfl
  simp only [CR.R.bind_pure, CR.R.bind_ok, CR.R.opt_some, CR.R.ite_true, CR.R.ite_false, CR.R.pure_eq, CR.R.nox_ok, CR.R.guard_true, boolD_bl, le_ii, lt_ii, gt_ii, ge_ii, len_t, len_l, isi_int, isi_bool, isi_str, isi_tuple, isi_list, g2_0, g2_1, g3_0, g3_1, g3_2, g3_m, eqi, nei, eq_mm, eq_mn, eq_am, eq_an, eq_aa, eq_md, in_m, in_a, in_ao, neg_i, Bool.not_false, Bool.not_true, retDR, retLR, CR.O.out, CR.O.nxtR, CR.O.aftR, List.length_cons, List.length_nil, f_has_points, r_has_points, s_lst, ec, ea, hlo, hhi, is_opt]
  cases (bs.map fun q => (q.2.1 == 0) && decide (q.2.2 < 0)).any id with
  | true => exact ⟨false, rfl, fun h => by cases h⟩
  | false =>
    cases lo with
    | none => exact ⟨true, rfl, fun _ _ _ h => by cases h⟩
    | some a =>
      cases hi with
      | none => exact ⟨true, rfl, fun _ _ _ _ h => by cases h⟩
      | some b => exact ⟨decide (a ≤ b), rfl, fun h x y h1 h2 => by cases h1; cases h2; exact of_decide_eq_true h⟩
theorem rangeL_map (l : Int) (n : Nat) : rangeL l n = ((List.range n).map fun i : Nat => l + (i : Int)).map D.int := by
  unfold rangeL
  rw [List.map_map]
  rfl
theorem leads_pos {bs : List (D × Int × Int)} {lo hi : Option Int} (hlo : f_lowest_lead [.lst (bs.map b3)] = .ok (optD lo)) (hhi : f_highest_lead [.lst (bs.map b3)] = .ok (optD hi)) (blo : ∀ v, lo = some v → -40 ≤ v ∧ v ≤ 40) (bhi : ∀ v, hi = some v → -40 ≤ v ∧ v ≤ 40)
    (hc : ∀ a c, lo = some a → hi = some c → a ≤ c) : ∃ (l : Int) (n : Nat), f_leads_of [.lst (bs.map b3)] = .ok (rangeL l n) ∧ 0 < n := by
  obtain ⟨l, hl1, hl2, e1, el⟩ : ∃ l : Int, -60 ≤ l ∧ l ≤ 60 ∧ R.ite lo.isNone (R.ok (D.int (-60))) (R.ok (optD lo)) = .ok (.int l) ∧ ((lo = none ∧ l = -60) ∨ lo = some l) := by
    cases lo with
    | none => exact ⟨-60, by decide, by decide, rfl, .inl ⟨rfl, rfl⟩⟩
    | some v => have := blo v rfl; exact ⟨v, by omega, by omega, rfl, .inr rfl⟩
  obtain ⟨h, hh1, hh2, e2, eh⟩ : ∃ h : Int, -60 ≤ h ∧ h ≤ 60 ∧ R.ite hi.isNone (R.ok (D.int 60)) (R.ok (optD hi)) = .ok (.int h) ∧ ((hi = none ∧ h = 60) ∨ hi = some h) := by
    cases hi with
    | none => exact ⟨60, by decide, by decide, rfl, .inl ⟨rfl, rfl⟩⟩
    | some v => have := bhi v rfl; exact ⟨v, by omega, by omega, rfl, .inr rfl⟩
  have er : rngM (.int l) (.int (h + 1)) = some (rangeL l (h + 1 - l).toNat) := by
    show (if _ then _ else _) = _
    rw [if_pos ⟨by omega, by omega, by omega, by omega, Nat.le_trans (m := 200) (by omega) (by decide)⟩]
  have hle : l ≤ h := by
    rcases el with ⟨_, rfl⟩ | e
    · exact hh1
    · rcases eh with ⟨_, rfl⟩ | e'
      · exact hl2
      · exact hc _ _ e e'
  refine ⟨l, (h + 1 - l).toNat, ?_, by omega⟩
  simp only [CR.R.bind_pure, CR.R.bind_ok, CR.R.opt_some, CR.R.ite_true, CR.R.ite_false, CR.R.pure_eq, CR.R.nox_ok, CR.R.guard_true, boolD_bl, le_ii, lt_ii, gt_ii, ge_ii, len_t, len_l, isi_int, isi_bool, isi_str, isi_tuple, isi_list, g2_0, g2_1, g3_0, g3_1, g3_2, g3_m, eqi, nei, eq_mm, eq_mn, eq_am, eq_an, eq_aa, eq_md, in_m, in_a, in_ao, neg_i, Bool.not_false, Bool.not_true, retDR, retLR, CR.O.out, CR.O.nxtR, CR.O.aftR, List.length_cons, List.length_nil, f_leads_of, r_leads_of, hlo, hhi, is_opt, e1, e2, ad_i, er]
theorem mul_i {a b : Int} (h : a.natAbs < 2 ^ 64) : mulD (.int a) (.int b) = some (.int (a * b)) := by
  have : mulOk a b = true := by
    unfold mulOk
    rw [decide_eq_true h]
    rfl
  show (if _ then _ else _) = _
  rw [if_pos this]
def worth (qs : List (Int × Int × Int)) (x y l : Int) : Int := x * l + (if 0 < y then y * tp qs l else 0)
theorem worths_ok {qs : List (Int × Int × Int)} (hw : ∀ q ∈ qs, Wd q) {x y : Int} (hx : x.natAbs ≤ 1000000) (hy : y.natAbs ≤ 1000000) (hq : 0 < y → qs ≠ []) (ns : List Int) :
    f_worths_of [.lst (qs.map w3), .tup [.int x, .int y], .lst (ns.map D.int)] = .ok ((ns.map (worth qs x y)).map D.int) := by
  have hx' : x.natAbs < 2 ^ 64 := by omega
  have hy' : y.natAbs < 2 ^ 64 := by omega
  have ec : compR Option.some (fun _ => R.ok true) (fun v => R.bind (R.opt (mulD (.int x) v)) fun x => R.bind (R.ite (decide (y > 0)) (R.bind (f_top_at [.lst (qs.map w3), v]) fun z => R.opt (mulD (.int y) z)) (R.ok (.int 0))) fun y => R.opt (addD x y)) (ns.map D.int) = .ok ((ns.map (worth qs x y)).map D.int) := by
    rw [List.map_map]
    refine compR_all D.int D.int (D.int ∘ worth qs x y) ns (fun _ _ => rfl) fun l _ => ?_
    by_cases h : 0 < y
    · have : decide (y > 0) = true := decide_eq_true h
      simp only [CR.R.bind_pure, CR.R.bind_ok, CR.R.opt_some, CR.R.ite_true, CR.R.ite_false, CR.R.pure_eq, CR.R.nox_ok, CR.R.guard_true, boolD_bl, le_ii, lt_ii, gt_ii, ge_ii, len_t, len_l, isi_int, isi_bool, isi_str, isi_tuple, isi_list, g2_0, g2_1, g3_0, g3_1, g3_2, g3_m, eqi, nei, eq_mm, eq_mn, eq_am, eq_an, eq_aa, eq_md, in_m, in_a, in_ao, neg_i, Bool.not_false, Bool.not_true, retDR, retLR, CR.O.out, CR.O.nxtR, CR.O.aftR, List.length_cons, List.length_nil, mul_i hx', mul_i hy', this, top_ok (hq h) hw, ad_i]
      show _ = R.ok (D.int (x * l + (if 0 < y then y * tp qs l else 0)))
      rw [if_pos h]
    · have : decide (y > 0) = false := decide_eq_false h
      simp only [CR.R.bind_pure, CR.R.bind_ok, CR.R.opt_some, CR.R.ite_true, CR.R.ite_false, CR.R.pure_eq, CR.R.nox_ok, CR.R.guard_true, boolD_bl, le_ii, lt_ii, gt_ii, ge_ii, len_t, len_l, isi_int, isi_bool, isi_str, isi_tuple, isi_list, g2_0, g2_1, g3_0, g3_1, g3_2, g3_m, eqi, nei, eq_mm, eq_mn, eq_am, eq_an, eq_aa, eq_md, in_m, in_a, in_ao, neg_i, Bool.not_false, Bool.not_true, retDR, retLR, CR.O.out, CR.O.nxtR, CR.O.aftR, List.length_cons, List.length_nil, mul_i hx', this, ad_i]
      show _ = R.ok (D.int (x * l + (if 0 < y then y * tp qs l else 0)))
      rw [if_neg h]
  simp only [CR.R.bind_pure, CR.R.bind_ok, CR.R.opt_some, CR.R.ite_true, CR.R.ite_false, CR.R.pure_eq, CR.R.nox_ok, CR.R.guard_true, boolD_bl, le_ii, lt_ii, gt_ii, ge_ii, len_t, len_l, isi_int, isi_bool, isi_str, isi_tuple, isi_list, g2_0, g2_1, g3_0, g3_1, g3_2, g3_m, eqi, nei, eq_mm, eq_mn, eq_am, eq_an, eq_aa, eq_md, in_m, in_a, in_ao, neg_i, Bool.not_false, Bool.not_true, retDR, retLR, CR.O.out, CR.O.nxtR, CR.O.aftR, List.length_cons, List.length_nil, f_worths_of, r_worths_of, s_lst, ec]
theorem eq_nil (xs : List D) : eqB (.lst xs) (.lst []) = some xs.isEmpty := by
  have h : min (dep (.lst xs)) (dep (.lst [])) ≤ 64 := Nat.le_trans (Nat.min_le_right _ _) (by decide)
  unfold eqB
  rw [if_pos h]
  cases xs <;> simp [eqD, eqDs]
theorem isEmpty_w3 (qs : List (Int × Int × Int)) : (qs.map w3).isEmpty = qs.isEmpty := by cases qs <;> rfl
theorem endless_ok {qs : List (Int × Int × Int)} (hw : ∀ q ∈ qs, Wd q) {x y : Int} (hx : x.natAbs ≤ 1000000) (hy : y.natAbs ≤ 1000000) {bs : List (D × Int × Int)} {lo hi : Option Int} (hlo : f_lowest_lead [.lst (bs.map b3)] = .ok (optD lo)) (hhi : f_highest_lead [.lst (bs.map b3)] = .ok (optD hi)) :
    ∃ b, f_is_endless [.lst (qs.map w3), .tup [.int x, .int y], .lst (bs.map b3)] = .ok (.bl b) ∧ (b = false → 0 < y → qs ≠ []) := by
  by_cases h : 0 < y ∧ qs = []
  · have e1 : decide (y > 0) = true := decide_eq_true h.1
    refine ⟨true, ?_, fun z => by cases z⟩
    simp only [CR.R.bind_pure, CR.R.bind_ok, CR.R.opt_some, CR.R.ite_true, CR.R.ite_false, CR.R.pure_eq, CR.R.nox_ok, CR.R.guard_true, boolD_bl, le_ii, lt_ii, gt_ii, ge_ii, len_t, len_l, isi_int, isi_bool, isi_str, isi_tuple, isi_list, g2_0, g2_1, g3_0, g3_1, g3_2, g3_m, eqi, nei, eq_mm, eq_mn, eq_am, eq_an, eq_aa, eq_md, in_m, in_a, in_ao, neg_i, Bool.not_false, Bool.not_true, retDR, retLR, CR.O.out, CR.O.nxtR, CR.O.aftR, List.length_cons, List.length_nil, f_is_endless, r_is_endless, e1, eq_nil, h.2, List.map_nil, List.isEmpty_nil]
  · have hq : 0 < y → qs ≠ [] := fun a b => h ⟨a, b⟩
    have e1 : R.ite (decide (y > 0)) (R.ok (qs.map w3).isEmpty) (R.ok false) = .ok false := by
      by_cases c : 0 < y
      · have : (qs.map w3).isEmpty = false := by
          have := hq c
          cases qs <;> simp_all
        rw [this]
        cases decide (y > 0) <;> rfl
      · rw [decide_eq_false c]; rfl
    have w1 := worths_ok hw hx hy hq [60, 61]
    have w2 := worths_ok hw hx hy hq [-60, -61]
    have g0 : ∀ a b : D, getD (.lst [a, b]) (.int 0) = some a := fun _ _ => rfl
    have g1 : ∀ a b : D, getD (.lst [a, b]) (.int 1) = some b := fun _ _ => rfl
    have w1' : f_worths_of [.lst (qs.map w3), .tup [.int x, .int y], .lst [.int 60, .int (60 + 1)]] = .ok [.int (worth qs x y 60), .int (worth qs x y 61)] := w1
    have w2' : f_worths_of [.lst (qs.map w3), .tup [.int x, .int y], .lst [.int (-60), .int (-60 - 1)]] = .ok [.int (worth qs x y (-60)), .int (worth qs x y (-61))] := w2
    simp only [CR.R.bind_pure, CR.R.bind_ok, CR.R.opt_some, CR.R.ite_true, CR.R.ite_false, CR.R.pure_eq, CR.R.nox_ok, CR.R.guard_true, boolD_bl, le_ii, lt_ii, gt_ii, ge_ii, len_t, len_l, isi_int, isi_bool, isi_str, isi_tuple, isi_list, g2_0, g2_1, g3_0, g3_1, g3_2, g3_m, eqi, nei, eq_mm, eq_mn, eq_am, eq_an, eq_aa, eq_md, in_m, in_a, in_ao, neg_i, Bool.not_false, Bool.not_true, retDR, retLR, CR.O.out, CR.O.nxtR, CR.O.aftR, List.length_cons, List.length_nil, f_is_endless, r_is_endless, eq_nil, e1, ad_i, sd_i, w1', w2', hlo, hhi, is_opt, g0, g1]
    cases lo <;> cases hi <;> simp only [Option.isNone_none, Option.isNone_some, R.ite_true, R.ite_false, R.bind_ok]
    · cases decide (worth qs x y 61 > worth qs x y 60) <;> exact ⟨_, rfl, fun _ => hq⟩
    · exact ⟨_, rfl, fun _ => hq⟩
    · cases decide (worth qs x y 61 > worth qs x y 60) <;> exact ⟨_, rfl, fun _ => hq⟩
    · exact ⟨_, rfl, fun _ => hq⟩
end L_k63

set_option Elab.async false
set_option linter.all false
set_option maxRecDepth 100000
set_option maxHeartbeats 1000000
namespace L_k63
open PySem PySem.Spec CR
open CR (D O)
theorem flVs_int : ∀ ns : List Int, flVs (ns.map D.int) = some (ns.map L2.V.int)
  | [] => rfl
  | n :: ns => by
    show (flV (.int n)).bind (fun v => (flVs (ns.map D.int)).map fun vs => v :: vs) = _
    rw [flVs_int ns]
    rfl
theorem index_ok {ns : List Int} {m : Int} (h : m ∈ ns) : ∃ j : Nat, j < ns.length ∧ indexL (ns.map D.int) (.int m) = some (.int j) := by
  unfold indexL
  rw [flVs_int]
  show ∃ j : Nat, j < ns.length ∧ ((ns.map L2.V.int).findIdx? fun z => L2.eqV z (.int m)).map (fun j : Nat => D.int (j : Int)) = some (.int j)
  cases e : (ns.map L2.V.int).findIdx? fun z => L2.eqV z (.int m) with
  | none =>
    have := List.findIdx?_eq_none_iff.mp e (.int m) (List.mem_map.mpr ⟨m, h, rfl⟩)
    simp [L2.eqV] at this
  | some j =>
    have := (List.findIdx?_eq_some_iff_getElem.mp e).1
    rw [List.length_map] at this
    exact ⟨j, this, rfl⟩
theorem getD_at {ns : List Int} {j : Nat} (h : j < ns.length) : getD (.lst (ns.map D.int)) (.int j) = some (.int ns[j]) := by
  show L2.atI (ns.map D.int) (j : Int) = _
  unfold L2.atI
  have e : L2.ixN (ns.map D.int).length (j : Int) = some j := by
    rw [List.length_map]
    unfold L2.ixN
    simp [h]
  rw [e]
  simp [h]
theorem best_ok {qs : List (Int × Int × Int)} (hw : ∀ q ∈ qs, Wd q) {x y : Int} (hx : x.natAbs ≤ 1000000) (hy : y.natAbs ≤ 1000000) (hq : 0 < y → qs ≠ []) {bs : List (D × Int × Int)} {l : Int} {n : Nat} (hl : f_leads_of [.lst (bs.map b3)] = .ok (rangeL l n)) (hn : 0 < n) :
    ∃ a b : Int, f_best_lead [.lst (qs.map w3), .tup [.int x, .int y], .lst (bs.map b3)] = .ok (.tup [.int a, .int b]) := by
  rw [rangeL_map] at hl
  generalize hns : ((List.range n).map fun i : Nat => l + (i : Int)) = ns at hl
  have hne : ns.map (worth qs x y) ≠ [] := by
    intro z
    have := congrArg List.length z
    rw [List.length_map, ← hns, List.length_map, List.length_range] at this
    simp at this
    omega
  obtain ⟨m, em, hm, _⟩ := maxI_mem hne
  have emx : maxD (.lst ((ns.map (worth qs x y)).map D.int)) = some (.int m) := by
    show ((intsD _).bind maxI).map D.int = _
    rw [intsD_map]
    show (maxI _).map D.int = _
    rw [em]; rfl
  obtain ⟨j, hj, ej⟩ := index_ok hm
  have hj' : j < ns.length := by rw [List.length_map] at hj; exact hj
  have gj := getD_at hj'
  have wk := worths_ok hw hx hy hq ns
  have lsD : ∀ xs, lstD (.lst xs) = some xs := fun _ => rfl
  refine ⟨ns[j], m, ?_⟩
  simp only [CR.R.bind_pure, CR.R.bind_ok, CR.R.opt_some, CR.R.ite_true, CR.R.ite_false, CR.R.pure_eq, CR.R.nox_ok, CR.R.guard_true, boolD_bl, le_ii, lt_ii, gt_ii, ge_ii, len_t, len_l, isi_int, isi_bool, isi_str, isi_tuple, isi_list, g2_0, g2_1, g3_0, g3_1, g3_2, g3_m, eqi, nei, eq_mm, eq_mn, eq_am, eq_an, eq_aa, eq_md, in_m, in_a, in_ao, neg_i, Bool.not_false, Bool.not_true, retDR, retLR, CR.O.out, CR.O.nxtR, CR.O.aftR, List.length_cons, List.length_nil, f_best_lead, r_best_lead, hl, wk, emx, ej, gj, lsD]
theorem other_ok {ls : List (Int × Int × Int)} (g : ∀ l ∈ ls, Good l) (x y a : Int) : ∃ d, f_other_at [.lst (ls.map lineT), .tup [.int x, .int y], .int a] = .ok d := by
  have w1 : ∀ q ∈ withL ls 1, Wd q := with_wd g
  have w2 : ∀ q ∈ withL ls (-1), Wd q := with_wd g
  simp only [CR.R.bind_pure, CR.R.bind_ok, CR.R.opt_some, CR.R.ite_true, CR.R.ite_false, CR.R.pure_eq, CR.R.nox_ok, CR.R.guard_true, boolD_bl, le_ii, lt_ii, gt_ii, ge_ii, len_t, len_l, isi_int, isi_bool, isi_str, isi_tuple, isi_list, g2_0, g2_1, g3_0, g3_1, g3_2, g3_m, eqi, nei, eq_mm, eq_mn, eq_am, eq_an, eq_aa, eq_md, in_m, in_a, in_ao, neg_i, Bool.not_false, Bool.not_true, retDR, retLR, CR.O.out, CR.O.nxtR, CR.O.aftR, List.length_cons, List.length_nil, f_other_at, r_other_at, with_ok, eq_nil, ne_nil, isEmpty_w3]
  generalize h1 : withL ls 1 = q1 at w1
  generalize h2 : withL ls (-1) = q2 at w2
  have second : ∃ d, R.bind (R.bind (R.ite (!q2.isEmpty) (R.bind (f_top_at [.lst (q2.map w3), .int a]) fun d => R.opt (negD d)) (R.ok (D.int 0))) fun d => R.ok (O.rt d : O Empty Empty)) (fun o => R.ok (O.out o)) = .ok (O.rt d : O Unit Empty) := by
    cases q2 with
    | nil => exact ⟨_, rfl⟩
    | cons z zs =>
      have := top_ok (qs := z :: zs) (by simp) w2 a
      refine ⟨.int (-(tp (z :: zs) a)), ?_⟩
      simp only [CR.R.bind_pure, CR.R.bind_ok, CR.R.opt_some, CR.R.ite_true, CR.R.ite_false, CR.R.pure_eq, CR.R.nox_ok, CR.R.guard_true, boolD_bl, le_ii, lt_ii, gt_ii, ge_ii, len_t, len_l, isi_int, isi_bool, isi_str, isi_tuple, isi_list, g2_0, g2_1, g3_0, g3_1, g3_2, g3_m, eqi, nei, eq_mm, eq_mn, eq_am, eq_an, eq_aa, eq_md, in_m, in_a, in_ao, neg_i, Bool.not_false, Bool.not_true, retDR, retLR, CR.O.out, CR.O.nxtR, CR.O.aftR, List.length_cons, List.length_nil, List.isEmpty_cons, this]
  obtain ⟨d2, e2⟩ := second
  cases hy : decide (y < 0) with
  | true =>
    simp only [CR.R.bind_pure, CR.R.bind_ok, CR.R.opt_some, CR.R.ite_true, CR.R.ite_false, CR.R.pure_eq, CR.R.nox_ok, CR.R.guard_true, boolD_bl, le_ii, lt_ii, gt_ii, ge_ii, len_t, len_l, isi_int, isi_bool, isi_str, isi_tuple, isi_list, g2_0, g2_1, g3_0, g3_1, g3_2, g3_m, eqi, nei, eq_mm, eq_mn, eq_am, eq_an, eq_aa, eq_md, in_m, in_a, in_ao, neg_i, Bool.not_false, Bool.not_true, retDR, retLR, CR.O.out, CR.O.nxtR, CR.O.aftR, List.length_cons, List.length_nil]
    refine ⟨d2, ?_⟩
    have := congrArg (fun z => R.bind z retDR) e2
    exact this
  | false =>
    simp only [CR.R.bind_pure, CR.R.bind_ok, CR.R.opt_some, CR.R.ite_true, CR.R.ite_false, CR.R.pure_eq, CR.R.nox_ok, CR.R.guard_true, boolD_bl, le_ii, lt_ii, gt_ii, ge_ii, len_t, len_l, isi_int, isi_bool, isi_str, isi_tuple, isi_list, g2_0, g2_1, g3_0, g3_1, g3_2, g3_m, eqi, nei, eq_mm, eq_mn, eq_am, eq_an, eq_aa, eq_md, in_m, in_a, in_ao, neg_i, Bool.not_false, Bool.not_true, retDR, retLR, CR.O.out, CR.O.nxtR, CR.O.aftR, List.length_cons, List.length_nil]
    cases q1 with
    | nil =>
      refine ⟨d2, ?_⟩
      have := congrArg (fun z => R.bind z retDR) e2
      exact this
    | cons z zs =>
      have := top_ok (qs := z :: zs) (by simp) w1 a
      refine ⟨.int (tp (z :: zs) a), ?_⟩
      simp only [CR.R.bind_pure, CR.R.bind_ok, CR.R.opt_some, CR.R.ite_true, CR.R.ite_false, CR.R.pure_eq, CR.R.nox_ok, CR.R.guard_true, boolD_bl, le_ii, lt_ii, gt_ii, ge_ii, len_t, len_l, isi_int, isi_bool, isi_str, isi_tuple, isi_list, g2_0, g2_1, g3_0, g3_1, g3_2, g3_m, eqi, nei, eq_mm, eq_mn, eq_am, eq_an, eq_aa, eq_md, in_m, in_a, in_ao, neg_i, Bool.not_false, Bool.not_true, retDR, retLR, CR.O.out, CR.O.nxtR, CR.O.aftR, List.length_cons, List.length_nil, List.isEmpty_cons, this]
end L_k63

set_option Elab.async false
set_option linter.all false
set_option maxRecDepth 100000
set_option maxHeartbeats 1000000
namespace L_k63
open PySem PySem.Spec CR
open CR (D O)
theorem side_ok (ls : List (Int × Int × Int)) (x y : Int) : ∃ (o y' : Int), (o = 1 ∨ o = -1) ∧ y'.natAbs = y.natAbs ∧ f_side_of [.lst (ls.map lineT), .tup [.int x, .int y]] = .ok (.tup [.lst ((withL ls o).map w3), .tup [.int x, .int y']]) := by
  cases h : decide (y < 0) with
  | true =>
    refine ⟨-1, -y, .inr rfl, by omega, ?_⟩
    simp only [CR.R.bind_pure, CR.R.bind_ok, CR.R.opt_some, CR.R.ite_true, CR.R.ite_false, CR.R.pure_eq, CR.R.nox_ok, CR.R.guard_true, boolD_bl, le_ii, lt_ii, gt_ii, ge_ii, len_t, len_l, isi_int, isi_bool, isi_str, isi_tuple, isi_list, g2_0, g2_1, g3_0, g3_1, g3_2, g3_m, eqi, nei, eq_mm, eq_mn, eq_am, eq_an, eq_aa, eq_md, in_m, in_a, in_ao, neg_i, Bool.not_false, Bool.not_true, retDR, retLR, CR.O.out, CR.O.nxtR, CR.O.aftR, List.length_cons, List.length_nil, f_side_of, r_side_of, h, with_ok]
  | false =>
    refine ⟨1, y, .inl rfl, rfl, ?_⟩
    simp only [CR.R.bind_pure, CR.R.bind_ok, CR.R.opt_some, CR.R.ite_true, CR.R.ite_false, CR.R.pure_eq, CR.R.nox_ok, CR.R.guard_true, boolD_bl, le_ii, lt_ii, gt_ii, ge_ii, len_t, len_l, isi_int, isi_bool, isi_str, isi_tuple, isi_list, g2_0, g2_1, g3_0, g3_1, g3_2, g3_m, eqi, nei, eq_mm, eq_mn, eq_am, eq_an, eq_aa, eq_md, in_m, in_a, in_ao, neg_i, Bool.not_false, Bool.not_true, retDR, retLR, CR.O.out, CR.O.nxtR, CR.O.aftR, List.length_cons, List.length_nil, f_side_of, r_side_of, h, with_ok]
theorem row_ok {x y : Int} (hx : x.natAbs ≤ 1000000) (hy : y.natAbs ≤ 1000000) : f_need_row [.tup [.int x, .int y]] = .ok .non := by
  have e1 : (decide (-1000000 ≤ x) && decide (x ≤ 1000000)) = true := by simp; omega
  have e2 : (decide (-1000000 ≤ y) && decide (y ≤ 1000000)) = true := by simp; omega
  have al : allD (.lst [.bl true, .bl true]) = some (.bl true) := rfl
  simp only [CR.R.bind_pure, CR.R.bind_ok, CR.R.opt_some, CR.R.ite_true, CR.R.ite_false, CR.R.pure_eq, CR.R.nox_ok, CR.R.guard_true, boolD_bl, le_ii, lt_ii, gt_ii, ge_ii, len_t, len_l, isi_int, isi_bool, isi_str, isi_tuple, isi_list, g2_0, g2_1, g3_0, g3_1, g3_2, g3_m, eqi, nei, eq_mm, eq_mn, eq_am, eq_an, eq_aa, eq_md, in_m, in_a, in_ao, neg_i, Bool.not_false, Bool.not_true, retDR, retLR, CR.O.out, CR.O.nxtR, CR.O.aftR, List.length_cons, List.length_nil, f_need_row, r_need_row, is_tuple_of_tup, s_tup, compR, is_whole_int, e1, e2, al]
  rfl
theorem greatest_ok {t : D} {ls} (h : Tst t ls) {x y : Int} (hx : x.natAbs ≤ 1000000) (hy : y.natAbs ≤ 1000000) : ∃ d, f_greatest_of [form t, .tup [.int x, .int y]] = .ok d := by
  obtain ⟨hl, g⟩ := h.good
  obtain ⟨bs, hbs, hb⟩ := bounds_ok hl g
  obtain ⟨lo, hlo, blo⟩ := lowest_ok hb
  obtain ⟨hi, hhi, bhi⟩ := highest_ok hb
  obtain ⟨b, hp, hc⟩ := points_iff hb hlo hhi
  obtain ⟨o, y', ho, hy', hs⟩ := side_ok ls x y
  have hw : ∀ q ∈ withL ls o, Wd q := with_wd g
  obtain ⟨e, he, hq⟩ := endless_ok hw hx (by rw [hy']; exact hy) hlo hhi (x := x) (y := y')
  have gt : ∀ a b : D, gmTup (gmCons Option.some (gmCons Option.some gmNil)) (.tup [a, b]) = some (a, b, ()) := fun _ _ => rfl
  cases b with
  | false =>
    simp only [CR.R.bind_pure, CR.R.bind_ok, CR.R.opt_some, CR.R.ite_true, CR.R.ite_false, CR.R.pure_eq, CR.R.nox_ok, CR.R.guard_true, boolD_bl, le_ii, lt_ii, gt_ii, ge_ii, len_t, len_l, isi_int, isi_bool, isi_str, isi_tuple, isi_list, g2_0, g2_1, g3_0, g3_1, g3_2, g3_m, eqi, nei, eq_mm, eq_mn, eq_am, eq_an, eq_aa, eq_md, in_m, in_a, in_ao, neg_i, Bool.not_false, Bool.not_true, retDR, retLR, CR.O.out, CR.O.nxtR, CR.O.aftR, List.length_cons, List.length_nil, f_greatest_of, r_greatest_of, need_ok h, row_ok hx hy, lines_ok h, hbs, hp]
    exact ⟨_, rfl⟩
  | true =>
    cases e with
    | true =>
      simp only [CR.R.bind_pure, CR.R.bind_ok, CR.R.opt_some, CR.R.ite_true, CR.R.ite_false, CR.R.pure_eq, CR.R.nox_ok, CR.R.guard_true, boolD_bl, le_ii, lt_ii, gt_ii, ge_ii, len_t, len_l, isi_int, isi_bool, isi_str, isi_tuple, isi_list, g2_0, g2_1, g3_0, g3_1, g3_2, g3_m, eqi, nei, eq_mm, eq_mn, eq_am, eq_an, eq_aa, eq_md, in_m, in_a, in_ao, neg_i, Bool.not_false, Bool.not_true, retDR, retLR, CR.O.out, CR.O.nxtR, CR.O.aftR, List.length_cons, List.length_nil, f_greatest_of, r_greatest_of, need_ok h, row_ok hx hy, lines_ok h, hbs, hp, hs, gt, he]
      exact ⟨_, rfl⟩
    | false =>
      obtain ⟨l, n, hld, hn⟩ := leads_pos hlo hhi blo bhi (hc rfl)
      obtain ⟨a, m, hbest⟩ := best_ok hw hx (by rw [hy']; exact hy) (hq rfl) hld hn (y := y')
      obtain ⟨d, hd⟩ := other_ok g x y a
      simp only [CR.R.bind_pure, CR.R.bind_ok, CR.R.opt_some, CR.R.ite_true, CR.R.ite_false, CR.R.pure_eq, CR.R.nox_ok, CR.R.guard_true, boolD_bl, le_ii, lt_ii, gt_ii, ge_ii, len_t, len_l, isi_int, isi_bool, isi_str, isi_tuple, isi_list, g2_0, g2_1, g3_0, g3_1, g3_2, g3_m, eqi, nei, eq_mm, eq_mn, eq_am, eq_an, eq_aa, eq_md, in_m, in_a, in_ao, neg_i, Bool.not_false, Bool.not_true, retDR, retLR, CR.O.out, CR.O.nxtR, CR.O.aftR, List.length_cons, List.length_nil, f_greatest_of, r_greatest_of, need_ok h, row_ok hx hy, lines_ok h, hbs, hp, hs, gt, he, hbest, hd]
      exact ⟨_, rfl⟩
theorem greatest_bad {d r : D} (h : f_fits_plain_set [d] = .ok (.bl false)) : f_greatest_of [d, r] = .exc "InvalidFormula" := by
  simp only [CR.R.bind_pure, CR.R.bind_ok, CR.R.opt_some, CR.R.ite_true, CR.R.ite_false, CR.R.pure_eq, CR.R.nox_ok, CR.R.guard_true, boolD_bl, le_ii, lt_ii, gt_ii, ge_ii, len_t, len_l, isi_int, isi_bool, isi_str, isi_tuple, isi_list, g2_0, g2_1, g3_0, g3_1, g3_2, g3_m, eqi, nei, eq_mm, eq_mn, eq_am, eq_an, eq_aa, eq_md, in_m, in_a, in_ao, neg_i, Bool.not_false, Bool.not_true, retDR, retLR, CR.O.out, CR.O.nxtR, CR.O.aftR, List.length_cons, List.length_nil, f_greatest_of, r_greatest_of, need_bad h]
  rfl
theorem greatest_row {t : D} {ls} (h : Tst t ls) {r : D} (hr : f_need_row [r] = .exc "InvalidRow") : f_greatest_of [form t, r] = .exc "InvalidRow" := by
  simp only [CR.R.bind_pure, CR.R.bind_ok, CR.R.opt_some, CR.R.ite_true, CR.R.ite_false, CR.R.pure_eq, CR.R.nox_ok, CR.R.guard_true, boolD_bl, le_ii, lt_ii, gt_ii, ge_ii, len_t, len_l, isi_int, isi_bool, isi_str, isi_tuple, isi_list, g2_0, g2_1, g3_0, g3_1, g3_2, g3_m, eqi, nei, eq_mm, eq_mn, eq_am, eq_an, eq_aa, eq_md, in_m, in_a, in_ao, neg_i, Bool.not_false, Bool.not_true, retDR, retLR, CR.O.out, CR.O.nxtR, CR.O.aftR, List.length_cons, List.length_nil, f_greatest_of, r_greatest_of, need_ok h, hr]
  rfl
end L_k63

set_option Elab.async false
set_option linter.all false
set_option maxRecDepth 100000
set_option maxHeartbeats 1000000
namespace L_k63
open PySem PySem.Spec CR
open CR (D O M R)
theorem roll_ok {n : Int} (h : 0 < n) (h2 : n < 1073741824) : (F__law_roll [.int n]).wp (fun d => ∃ r : Int, d = .int r ∧ 0 ≤ r ∧ r < n) fun _ => False := by
  show (M.bind (m__law_roll (.int n)) retD).wp _ _
  unfold m__law_roll
  rw [M.bind_assoc]
  intro cu ⟨i, j, e, hi, hj, hj2⟩
  subst e
  have n0 : n ≠ 0 := by omega
  have na : n.natAbs < 1073741824 := by omega
  cases hg : decide (i > 0) with
  | true =>
    simp only [CR.M.bind_assoc, CR.M.pure_bind, CR.M.opt_some, CR.M.ite_true, CR.M.ite_false, CR.M.guard_true, CR.M.nox_pure, boolD_bl, le_ii, lt_ii, gt_ii, ge_ii, len_t, len_l, at2_0, at2_1, g2_0, g2_1, g3_0, g3_1, g3_2, eqi, nei, neg_i, ad_i, sb_i, int_i, set2_0, set2_1, CR.O.out, Bool.not_false, Bool.not_true, retD, retL, hg, md_i n0, dv_i n0 na, List.set]
    refine ⟨⟨_, _, rfl, ?_, hj, hj2⟩, ?_⟩
    · exact Int.fdiv_nonneg hi (by omega)
    · exact ⟨_, rfl, Int.fmod_nonneg_of_pos _ h, Int.fmod_lt_of_pos _ h⟩
  | false =>
    have q1 : (2147483489 : Int) ≠ 0 := by decide
    have q2 : (2147483587 : Int) ≠ 0 := by decide
    have q3 : (829 : Int) ≠ 0 := by decide
    have q4 : (829 : Int).natAbs < 1073741824 := by decide
    have q5 : (31069 : Int).natAbs < 2 ^ 64 := by decide
    have b1 := Int.fmod_nonneg_of_pos (j * 31069 + 8017) (b := 2147483489) (by decide)
    have b2 := Int.fmod_lt_of_pos (j * 31069 + 8017) (b := 2147483489) (by decide)
    simp only [CR.M.bind_assoc, CR.M.pure_bind, CR.M.opt_some, CR.M.ite_true, CR.M.ite_false, CR.M.guard_true, CR.M.nox_pure, boolD_bl, le_ii, lt_ii, gt_ii, ge_ii, len_t, len_l, at2_0, at2_1, g2_0, g2_1, g3_0, g3_1, g3_2, eqi, nei, neg_i, ad_i, sb_i, int_i, set2_0, set2_1, CR.O.out, Bool.not_false, Bool.not_true, retD, retL, hg, md_i q1, ml_i q5, List.set]
    generalize (j * 31069 + 8017).fmod 2147483489 = c at b1 b2
    have q6 : (c + 241).natAbs < 2 ^ 64 := by omega
    simp only [CR.M.bind_assoc, CR.M.pure_bind, CR.M.opt_some, CR.M.ite_true, CR.M.ite_false, CR.M.guard_true, CR.M.nox_pure, boolD_bl, le_ii, lt_ii, gt_ii, ge_ii, len_t, len_l, at2_0, at2_1, g2_0, g2_1, g3_0, g3_1, g3_2, eqi, nei, neg_i, ad_i, sb_i, int_i, set2_0, set2_1, CR.O.out, Bool.not_false, Bool.not_true, retD, retL, md_i q2, ml_i q6, dv_i q3 q4, md_i n0]
    exact ⟨⟨_, _, rfl, hi, b1, b2⟩, _, rfl, Int.fmod_nonneg_of_pos _ h, Int.fmod_lt_of_pos _ h⟩
theorem atI_mem {xs : List D} {r : Int} (h0 : 0 ≤ r) (h1 : r < xs.length) : ∃ d ∈ xs, L2.atI xs r = some d := by
  have hl : r.toNat < xs.length := by omega
  refine ⟨xs[r.toNat], List.getElem_mem hl, ?_⟩
  unfold L2.atI L2.ixN
  rw [if_pos h0, if_pos h1]
  exact List.getElem?_eq_getElem hl
theorem at_0 (x : D) (xs : List D) : getD (.lst (x :: xs)) (.int 0) = some x := by
  show L2.atI _ _ = _
  unfold L2.atI L2.ixN
  rw [if_pos (by decide), if_pos (by simp)]
  rfl
theorem some_ok {xs : List D} (h : 0 < xs.length) (h2 : xs.length < 1000) : (F__law_some [.lst xs]).wp (fun d => d ∈ xs) fun _ => False := by
  show (M.bind (m__law_some (.lst xs)) retD).wp _ _
  unfold m__law_some
  simp only [CR.M.bind_assoc, CR.M.pure_bind, CR.M.opt_some, CR.M.ite_true, CR.M.ite_false, CR.M.guard_true, CR.M.nox_pure, boolD_bl, le_ii, lt_ii, gt_ii, ge_ii, len_t, len_l, at2_0, at2_1, g2_0, g2_1, g3_0, g3_1, g3_2, eqi, nei, neg_i, ad_i, sb_i, int_i, set2_0, set2_1, CR.O.out, Bool.not_false, Bool.not_true, retD, retL]
  refine M.seqx (roll_ok (by omega) (by omega)) fun d ⟨r, e, r0, r1⟩ => ?_
  subst e
  obtain ⟨d, hd, e⟩ := atI_mem r0 r1
  have g : getD (.lst xs) (.int r) = some d := e
  simp only [CR.M.bind_assoc, CR.M.pure_bind, CR.M.opt_some, CR.M.ite_true, CR.M.ite_false, CR.M.guard_true, CR.M.nox_pure, boolD_bl, le_ii, lt_ii, gt_ii, ge_ii, len_t, len_l, at2_0, at2_1, g2_0, g2_1, g3_0, g3_1, g3_2, eqi, nei, neg_i, ad_i, sb_i, int_i, set2_0, set2_1, CR.O.out, Bool.not_false, Bool.not_true, retD, retL, g]
  exact hd
theorem cup_ok (ns : List Int) (h : ns.length ≤ 63) : (F__law_cup [.lst (ns.map D.int)]).wp cupP fun _ => False := by
  have s0 : ∀ xs, seqD (.lst xs) = some xs := fun _ => rfl
  obtain ⟨x, xs, hx⟩ : ∃ x xs, ns.map D.int ++ [D.int 0] = D.int x :: xs := by
    cases ns with
    | nil => exact ⟨0, [], rfl⟩
    | cons x xs => exact ⟨x, _, rfl⟩
  have al : addL (.lst (ns.map D.int)) (.lst [.int 0]) = some (D.int x :: xs) := by
    show catL _ _ = _
    unfold catL
    rw [if_pos (Nat.le_trans (m := 100) (by simp; omega) (by decide)), hx]
  have g0 := at_0 (D.int x) xs
  have ab : absD (.int x) = some (.int (x.natAbs : Int)) := by
    show some (D.int _) = _
    congr 2
    split <;> omega
  have pw : powD (.int 10) (.int 18) = some (.int 1000000000000000000) := by kernel_rfl
  have q1 : (79 : Int) ≠ 0 := by decide
  have q2 : (79 : Int).natAbs < 1073741824 := by decide
  have q3 : (293 : Int).natAbs < 2 ^ 64 := by decide
  have q4 : (2077503127 : Int) ≠ 0 := by decide
  show (M.bind (m__law_cup _) retL).wp _ _
  unfold m__law_cup
  have c0 : (0 : Int) ≤ (x.natAbs : Int) := by omega
  generalize (x.natAbs : Int) = c at ab c0
  have b1 := Int.fmod_nonneg_of_pos (c * 293 + 2903) (b := 2077503127) (by decide)
  have b2 := Int.fmod_lt_of_pos (c * 293 + 2903) (b := 2077503127) (by decide)
  have ge : geB (.int c) (.int 1000000000000000000) = some (decide (1000000000000000000 ≤ c)) := rfl
  cases hg : decide (1000000000000000000 ≤ c) with
  | true =>
    simp only [CR.M.bind_assoc, CR.M.pure_bind, CR.M.opt_some, CR.M.ite_true, CR.M.ite_false, CR.M.guard_true, CR.M.nox_pure, boolD_bl, le_ii, lt_ii, gt_ii, ge_ii, len_t, len_l, at2_0, at2_1, g2_0, g2_1, g3_0, g3_1, g3_2, eqi, nei, neg_i, ad_i, sb_i, int_i, set2_0, set2_1, CR.O.out, Bool.not_false, Bool.not_true, retD, retL, s0, al, g0, ab, pw, ge, hg, dv_i q1 q2, ml_i q3, md_i q4]
    exact ⟨_, _, rfl, Int.fdiv_nonneg c0 (by decide), by omega, by omega⟩
  | false =>
    simp only [CR.M.bind_assoc, CR.M.pure_bind, CR.M.opt_some, CR.M.ite_true, CR.M.ite_false, CR.M.guard_true, CR.M.nox_pure, boolD_bl, le_ii, lt_ii, gt_ii, ge_ii, len_t, len_l, at2_0, at2_1, g2_0, g2_1, g3_0, g3_1, g3_2, eqi, nei, neg_i, ad_i, sb_i, int_i, set2_0, set2_1, CR.O.out, Bool.not_false, Bool.not_true, retD, retL, s0, al, g0, ab, pw, ge, hg, dv_i q1 q2, ml_i q3, md_i q4]
    exact ⟨_, _, rfl, by decide, by omega, by omega⟩
end L_k63

set_option Elab.async false
set_option linter.all false
set_option maxRecDepth 100000
set_option maxHeartbeats 1000000
namespace L_k63
open PySem PySem.Spec CR
open CR (D O M R)
theorem plain_set_ok : (F__law_plain_set []).wp (fun d => ∃ t ls, d = form t ∧ Tst t ls) fun _ => False := by
  show (M.bind m__law_plain_set retD).wp _ _
  unfold m__law_plain_set
  try simp only [CR.M.bind_assoc, CR.M.pure_bind, CR.M.opt_some, CR.M.ite_true, CR.M.ite_false, CR.M.guard_true, CR.M.nox_pure, boolD_bl, le_ii, lt_ii, gt_ii, ge_ii, len_t, len_l, at2_0, at2_1, g2_0, g2_1, g3_0, g3_1, g3_2, eqi, nei, neg_i, ad_i, sb_i, int_i, set2_0, set2_1, CR.O.out, Bool.not_false, Bool.not_true, retD, retL]
  refine M.seqx (some_ok (by simp) (by simp)) fun d hd => ?_
  obtain ⟨k, e, k0, k6⟩ : ∃ k : Int, d = .int k ∧ 0 ≤ k ∧ k ≤ 6 := by
    simp only [List.mem_cons, List.not_mem_nil, or_false] at hd
    rcases hd with h | h | h | h | h | h | h | h <;> exact ⟨_, h, by decide, by decide⟩
  subst e
  have hr : rngM (.int 0) (.int k) = some (rangeL 0 k.toNat) := by
    unfold rngM
    show (if _ then _ else _) = _
    rw [if_pos ⟨by decide, by decide, by omega, by omega, Nat.le_trans (m := 100) (by omega) (by decide)⟩]
    congr 2
    omega
  simp only [CR.M.bind_assoc, CR.M.pure_bind, CR.M.opt_some, CR.M.ite_true, CR.M.ite_false, CR.M.guard_true, CR.M.nox_pure, boolD_bl, le_ii, lt_ii, gt_ii, ge_ii, len_t, len_l, at2_0, at2_1, g2_0, g2_1, g3_0, g3_1, g3_2, eqi, nei, neg_i, ad_i, sb_i, int_i, set2_0, set2_1, CR.O.out, Bool.not_false, Bool.not_true, retD, retL, hr]
  have hlen : (rangeL 0 k.toNat).length = k.toNat := len_rng 0 k.toNat
  refine M.seq (forM_inv (fun n (a : List D) => ∃ ls : List (Int × Int × Int), a = ls.map leafD ∧ ls.length = n ∧ ∀ l ∈ ls, Good l) (rangeL 0 k.toNat) 0 [] ⟨[], rfl, rfl, fun _ h => by cases h⟩ ?_) ?_
  · intro x hx m a hm ⟨ls, ea, hl, hg⟩
    subst ea
    refine M.seqx (roll_ok (by decide) (by decide)) fun d ⟨r, e, r0, r1⟩ => ?_
    subst e
    try simp only [CR.M.bind_assoc, CR.M.pure_bind, CR.M.opt_some, CR.M.ite_true, CR.M.ite_false, CR.M.guard_true, CR.M.nox_pure, boolD_bl, le_ii, lt_ii, gt_ii, ge_ii, len_t, len_l, at2_0, at2_1, g2_0, g2_1, g3_0, g3_1, g3_2, eqi, nei, neg_i, ad_i, sb_i, int_i, set2_0, set2_1, CR.O.out, Bool.not_false, Bool.not_true, retD, retL]
    refine M.seqx (some_ok (by simp) (by simp)) fun d hd => ?_
    obtain ⟨c, e, c0, c1⟩ : ∃ c : Int, d = .int c ∧ -1 ≤ c ∧ c ≤ 1 := by
      simp only [List.mem_cons, List.not_mem_nil, or_false] at hd
      rcases hd with h | h | h | h | h <;> exact ⟨_, h, by decide, by decide⟩
    subst e
    try simp only [CR.M.bind_assoc, CR.M.pure_bind, CR.M.opt_some, CR.M.ite_true, CR.M.ite_false, CR.M.guard_true, CR.M.nox_pure, boolD_bl, le_ii, lt_ii, gt_ii, ge_ii, len_t, len_l, at2_0, at2_1, g2_0, g2_1, g3_0, g3_1, g3_2, eqi, nei, neg_i, ad_i, sb_i, int_i, set2_0, set2_1, CR.O.out, Bool.not_false, Bool.not_true, retD, retL]
    refine M.seqx (roll_ok (by decide) (by decide)) fun d ⟨u, e, u0, u1⟩ => ?_
    subst e
    try simp only [CR.M.bind_assoc, CR.M.pure_bind, CR.M.opt_some, CR.M.ite_true, CR.M.ite_false, CR.M.guard_true, CR.M.nox_pure, boolD_bl, le_ii, lt_ii, gt_ii, ge_ii, len_t, len_l, at2_0, at2_1, g2_0, g2_1, g3_0, g3_1, g3_2, eqi, nei, neg_i, ad_i, sb_i, int_i, set2_0, set2_1, CR.O.out, Bool.not_false, Bool.not_true, retD, retL]
    refine M.seqx (roll_ok (by decide) (by decide)) fun d ⟨v, e, v0, v1⟩ => ?_
    subst e
    try simp only [CR.M.bind_assoc, CR.M.pure_bind, CR.M.opt_some, CR.M.ite_true, CR.M.ite_false, CR.M.guard_true, CR.M.nox_pure, boolD_bl, le_ii, lt_ii, gt_ii, ge_ii, len_t, len_l, at2_0, at2_1, g2_0, g2_1, g3_0, g3_1, g3_2, eqi, nei, neg_i, ad_i, sb_i, int_i, set2_0, set2_1, CR.O.out, Bool.not_false, Bool.not_true, retD, retL]
    refine M.seqx (roll_ok (by decide) (by decide)) fun d ⟨w, e, w0, w1⟩ => ?_
    subst e
    try simp only [CR.M.bind_assoc, CR.M.pure_bind, CR.M.opt_some, CR.M.ite_true, CR.M.ite_false, CR.M.guard_true, CR.M.nox_pure, boolD_bl, le_ii, lt_ii, gt_ii, ge_ii, len_t, len_l, at2_0, at2_1, g2_0, g2_1, g3_0, g3_1, g3_2, eqi, nei, neg_i, ad_i, sb_i, int_i, set2_0, set2_1, CR.O.out, Bool.not_false, Bool.not_true, retD, retL]
    refine M.seqx (some_ok (by simp) (by simp)) fun d hd => ?_
    obtain ⟨z, e, z0, z1⟩ : ∃ z : Int, d = .int z ∧ -20 ≤ z ∧ z ≤ 20 := by
      simp only [List.mem_cons, List.not_mem_nil, or_false] at hd
      rcases hd with h | h | h <;> exact ⟨_, h, by omega, by omega⟩
    subst e
    have lb : lenB (ls.map leafD) = true := by
      unfold lenB
      rw [List.length_map]
      exact decide_eq_true (Nat.lt_of_lt_of_le (m := 100) (by omega) (by decide))
    simp only [CR.M.bind_assoc, CR.M.pure_bind, CR.M.opt_some, CR.M.ite_true, CR.M.ite_false, CR.M.guard_true, CR.M.nox_pure, boolD_bl, le_ii, lt_ii, gt_ii, ge_ii, len_t, len_l, at2_0, at2_1, g2_0, g2_1, g3_0, g3_1, g3_2, eqi, nei, neg_i, ad_i, sb_i, int_i, set2_0, set2_1, CR.O.out, Bool.not_false, Bool.not_true, retD, retL, lb]
    refine ⟨_, rfl, ls ++ [(r - 3, c, z)], ?_, ?_, ?_⟩
    · rw [List.map_append]
      rfl
    · rw [List.length_append, hl]
      rfl
    · intro l h
      rcases List.mem_append.mp h with h | h
      · exact hg l h
      · rw [List.mem_singleton.mp h]
        exact ⟨by show -3 ≤ r - 3; omega, by show r - 3 ≤ 3; omega, c0, c1, z0, z1⟩
  · intro o ⟨a, eo, ls, ea, hl, hg⟩
    subst eo
    subst ea
    have h6 : ls.length ≤ 6 := by omega
    have fin : (M.bind (M.opt (tupD (D.lst (ls.map leafD)))) fun a => M.bind (M.pure (D.tup [D.int 2, D.tup [], D.tup [D.str "and", a]])) fun d => M.bind (M.pure ((O.rt d : O Unit Empty))) retD).wp (fun d => ∃ t ls, d = form t ∧ Tst t ls) fun _ => False := by
      have : tupD (D.lst (ls.map leafD)) = some (.tup (ls.map leafD)) := rfl
      simp only [CR.M.bind_assoc, CR.M.pure_bind, CR.M.opt_some, CR.M.ite_true, CR.M.ite_false, CR.M.guard_true, CR.M.nox_pure, boolD_bl, le_ii, lt_ii, gt_ii, ge_ii, len_t, len_l, at2_0, at2_1, g2_0, g2_1, g3_0, g3_1, g3_2, eqi, nei, neg_i, ad_i, sb_i, int_i, set2_0, set2_1, CR.O.out, Bool.not_false, Bool.not_true, retD, retL, this]
      exact ⟨andD ls, ls, rfl, .and ls h6 hg⟩
    simp only [O.aft, len_l, M.opt_some, M.pure_bind, M.bind_assoc, eqi, List.length_map]
    cases he : ((ls.length : Int) == 1) with
    | false =>
      try simp only [CR.M.bind_assoc, CR.M.pure_bind, CR.M.opt_some, CR.M.ite_true, CR.M.ite_false, CR.M.guard_true, CR.M.nox_pure, boolD_bl, le_ii, lt_ii, gt_ii, ge_ii, len_t, len_l, at2_0, at2_1, g2_0, g2_1, g3_0, g3_1, g3_2, eqi, nei, neg_i, ad_i, sb_i, int_i, set2_0, set2_1, CR.O.out, Bool.not_false, Bool.not_true, retD, retL]
      exact fin
    | true =>
      try simp only [CR.M.bind_assoc, CR.M.pure_bind, CR.M.opt_some, CR.M.ite_true, CR.M.ite_false, CR.M.guard_true, CR.M.nox_pure, boolD_bl, le_ii, lt_ii, gt_ii, ge_ii, len_t, len_l, at2_0, at2_1, g2_0, g2_1, g3_0, g3_1, g3_2, eqi, nei, neg_i, ad_i, sb_i, int_i, set2_0, set2_1, CR.O.out, Bool.not_false, Bool.not_true, retD, retL]
      refine M.seqx (roll_ok (by decide) (by decide)) fun d ⟨r, e, r0, r1⟩ => ?_
      subst e
      try simp only [CR.M.bind_assoc, CR.M.pure_bind, CR.M.opt_some, CR.M.ite_true, CR.M.ite_false, CR.M.guard_true, CR.M.nox_pure, boolD_bl, le_ii, lt_ii, gt_ii, ge_ii, len_t, len_l, at2_0, at2_1, g2_0, g2_1, g3_0, g3_1, g3_2, eqi, nei, neg_i, ad_i, sb_i, int_i, set2_0, set2_1, CR.O.out, Bool.not_false, Bool.not_true, retD, retL]
      cases hz : (r == 0) with
      | false =>
        try simp only [CR.M.bind_assoc, CR.M.pure_bind, CR.M.opt_some, CR.M.ite_true, CR.M.ite_false, CR.M.guard_true, CR.M.nox_pure, boolD_bl, le_ii, lt_ii, gt_ii, ge_ii, len_t, len_l, at2_0, at2_1, g2_0, g2_1, g3_0, g3_1, g3_2, eqi, nei, neg_i, ad_i, sb_i, int_i, set2_0, set2_1, CR.O.out, Bool.not_false, Bool.not_true, retD, retL]
        exact fin
      | true =>
        obtain ⟨l, e⟩ : ∃ l, ls = [l] := by
          have : ls.length = 1 := by
            have := eq_of_beq he
            omega
          match ls, this with
          | [l], _ => exact ⟨l, rfl⟩
        subst e
        have g0 : getD (.lst ([l].map leafD)) (.int 0) = some (leafD l) := rfl
        simp only [CR.M.bind_assoc, CR.M.pure_bind, CR.M.opt_some, CR.M.ite_true, CR.M.ite_false, CR.M.guard_true, CR.M.nox_pure, boolD_bl, le_ii, lt_ii, gt_ii, ge_ii, len_t, len_l, at2_0, at2_1, g2_0, g2_1, g3_0, g3_1, g3_2, eqi, nei, neg_i, ad_i, sb_i, int_i, set2_0, set2_1, CR.O.out, Bool.not_false, Bool.not_true, retD, retL, g0]
        exact ⟨leafD l, [l], rfl, .one l (hg l List.mem_cons_self)⟩
end L_k63

set_option Elab.async false
set_option linter.all false
set_option maxRecDepth 100000
set_option maxHeartbeats 1000000
namespace L_k63
open PySem PySem.Spec CR
open CR (D O M R)
theorem is_plain {d : D} {b : Bool} (h : f_fits_plain_set [d] = .ok (.bl b)) : f_is_plain_set [d] = .ok (.bl b) := by
  simp only [CR.R.bind_pure, CR.R.bind_ok, CR.R.opt_some, CR.R.ite_true, CR.R.ite_false, CR.R.pure_eq, CR.R.nox_ok, CR.R.guard_true, boolD_bl, le_ii, lt_ii, gt_ii, ge_ii, len_t, len_l, isi_int, isi_bool, isi_str, isi_tuple, isi_list, g2_0, g2_1, g3_0, g3_1, g3_2, g3_m, eqi, nei, eq_mm, eq_mn, eq_am, eq_an, eq_aa, eq_md, in_m, in_a, in_ao, neg_i, Bool.not_false, Bool.not_true, retDR, retLR, CR.O.out, CR.O.nxtR, CR.O.aftR, List.length_cons, List.length_nil, f_is_plain_set, r_is_plain_set, h]
theorem lk_f : List.lookup ("InvalidFormula" : Str) [("CountError", (D.str "other")), ("InvalidFormula", (D.str "formula")), ("InvalidRow", (D.str "row"))] = some (.str "formula") := by kernel_rfl
theorem lk_r : List.lookup ("InvalidRow" : Str) [("CountError", (D.str "other")), ("InvalidFormula", (D.str "formula")), ("InvalidRow", (D.str "row"))] = some (.str "row") := by kernel_rfl
theorem is_n (d : D) : isB d .non = some (isNon d) := by cases d <;> rfl
theorem err_ok {f r d : D} (hn : isNon r = false) (h : f_greatest_of [f, r] = .ok d) : f__law_error [f, r] = .ok (.str "") := by
  simp only [CR.R.bind_pure, CR.R.bind_ok, CR.R.opt_some, CR.R.ite_true, CR.R.ite_false, CR.R.pure_eq, CR.R.nox_ok, CR.R.guard_true, boolD_bl, le_ii, lt_ii, gt_ii, ge_ii, len_t, len_l, isi_int, isi_bool, isi_str, isi_tuple, isi_list, g2_0, g2_1, g3_0, g3_1, g3_2, g3_m, eqi, nei, eq_mm, eq_mn, eq_am, eq_an, eq_aa, eq_md, in_m, in_a, in_ao, neg_i, Bool.not_false, Bool.not_true, retDR, retLR, CR.O.out, CR.O.nxtR, CR.O.aftR, List.length_cons, List.length_nil, f__law_error, r__law_error, is_n, hn, h]
  rfl
theorem err_ok0 {f d : D} (h : f_corners_of [f] = .ok d) : f__law_error [f, .non] = .ok (.str "") := by
  have hn : isNon .non = true := rfl
  simp only [CR.R.bind_pure, CR.R.bind_ok, CR.R.opt_some, CR.R.ite_true, CR.R.ite_false, CR.R.pure_eq, CR.R.nox_ok, CR.R.guard_true, boolD_bl, le_ii, lt_ii, gt_ii, ge_ii, len_t, len_l, isi_int, isi_bool, isi_str, isi_tuple, isi_list, g2_0, g2_1, g3_0, g3_1, g3_2, g3_m, eqi, nei, eq_mm, eq_mn, eq_am, eq_an, eq_aa, eq_md, in_m, in_a, in_ao, neg_i, Bool.not_false, Bool.not_true, retDR, retLR, CR.O.out, CR.O.nxtR, CR.O.aftR, List.length_cons, List.length_nil, f__law_error, r__law_error, is_n, hn, h]
  rfl
theorem err_exc0 {f : D} (h : f_corners_of [f] = .exc "InvalidFormula") : f__law_error [f, .non] = .ok (.str "formula") := by
  have hn : isNon .non = true := rfl
  simp only [CR.R.bind_pure, CR.R.bind_ok, CR.R.opt_some, CR.R.ite_true, CR.R.ite_false, CR.R.pure_eq, CR.R.nox_ok, CR.R.guard_true, boolD_bl, le_ii, lt_ii, gt_ii, ge_ii, len_t, len_l, isi_int, isi_bool, isi_str, isi_tuple, isi_list, g2_0, g2_1, g3_0, g3_1, g3_2, g3_m, eqi, nei, eq_mm, eq_mn, eq_am, eq_an, eq_aa, eq_md, in_m, in_a, in_ao, neg_i, Bool.not_false, Bool.not_true, retDR, retLR, CR.O.out, CR.O.nxtR, CR.O.aftR, List.length_cons, List.length_nil, f__law_error, r__law_error, is_n, hn, h, R.bind_exc, tryR, lk_f]
theorem err_exc {f r : D} (hn : isNon r = false) (h : f_greatest_of [f, r] = .exc "InvalidFormula") : f__law_error [f, r] = .ok (.str "formula") := by
  simp only [CR.R.bind_pure, CR.R.bind_ok, CR.R.opt_some, CR.R.ite_true, CR.R.ite_false, CR.R.pure_eq, CR.R.nox_ok, CR.R.guard_true, boolD_bl, le_ii, lt_ii, gt_ii, ge_ii, len_t, len_l, isi_int, isi_bool, isi_str, isi_tuple, isi_list, g2_0, g2_1, g3_0, g3_1, g3_2, g3_m, eqi, nei, eq_mm, eq_mn, eq_am, eq_an, eq_aa, eq_md, in_m, in_a, in_ao, neg_i, Bool.not_false, Bool.not_true, retDR, retLR, CR.O.out, CR.O.nxtR, CR.O.aftR, List.length_cons, List.length_nil, f__law_error, r__law_error, is_n, hn, h, R.bind_exc, tryR, lk_f]
theorem err_row {f r : D} (hn : isNon r = false) (h : f_greatest_of [f, r] = .exc "InvalidRow") : f__law_error [f, r] = .ok (.str "row") := by
  simp only [CR.R.bind_pure, CR.R.bind_ok, CR.R.opt_some, CR.R.ite_true, CR.R.ite_false, CR.R.pure_eq, CR.R.nox_ok, CR.R.guard_true, boolD_bl, le_ii, lt_ii, gt_ii, ge_ii, len_t, len_l, isi_int, isi_bool, isi_str, isi_tuple, isi_list, g2_0, g2_1, g3_0, g3_1, g3_2, g3_m, eqi, nei, eq_mm, eq_mn, eq_am, eq_an, eq_aa, eq_md, in_m, in_a, in_ao, neg_i, Bool.not_false, Bool.not_true, retDR, retLR, CR.O.out, CR.O.nxtR, CR.O.aftR, List.length_cons, List.length_nil, f__law_error, r__law_error, is_n, hn, h, R.bind_exc, tryR, lk_r]
end L_k63

set_option Elab.async false
set_option linter.all false
set_option maxRecDepth 100000
set_option maxHeartbeats 1000000
namespace L_k63
open PySem PySem.Spec CR
open CR (D O M R)
theorem pw106 : powD (.int 10) (.int 6) = some (.int 1000000) := by kernel_rfl
theorem ttt (b : Bool) : isntB (.bl b) (.bl true) = some (!b) := by cases b <;> rfl
theorem ttf (b : Bool) : isntB (.bl b) (.bl false) = some b := by cases b <;> rfl
theorem s_ss : neB (.str "") (.str "") = some false := by kernel_rfl
theorem s_ff : neB (.str "formula") (.str "formula") = some false := by kernel_rfl
theorem s_rr : neB (.str "row") (.str "row") = some false := by kernel_rfl
theorem mul7 (a : D) : mulD (.tup [a]) (.int 7) = some (.tup [a, a, a, a, a, a, a]) := by
  show repT [a] 7 = _
  unfold repT
  rw [if_pos ⟨by simp, by decide, by show ((1 : Nat) : Int) * 7 ≤ 1000000; decide⟩]
  rfl
theorem oL {α : Type} {xs ys : List D} {f : List D → M α} {Q E} (h : xs.length + ys.length ≤ 100) (k : (f (xs ++ ys)).wp Q E) : (M.bind (M.opt (addL (.lst xs) (.lst ys))) f).wp Q E := by
  have : addL (.lst xs) (.lst ys) = some (xs ++ ys) := by
    show catL _ _ = _
    unfold catL
    rw [if_pos (Nat.le_trans (m := 100) h (by decide))]
  rw [this]
  exact k
abbrev Bad (d : D) : Prop := f_fits_plain_set [d] = .ok (.bl false)
def body (v : D) : M D := M.bind (M.opt (getD v (.int 0))) fun a => M.bind (M.opt (eqB a (.str "and"))) fun t => M.ite t (M.bind (M.opt (getD v (.int 0))) fun a => M.bind (M.opt (getD v (.int 1))) fun b => M.bind (M.nox (F__law_some [.lst [.int 1, .int (-1)]])) fun k => M.bind (M.opt (stepT b k)) fun c => M.pure (.tup [a, c])) (M.pure v)
theorem body_no {s : Str} {xs : List D} {P : D → Prop} (h : eqB (.str s) (.str "and") = some false) (p : P (.tup (.str s :: xs))) : (body (.tup (.str s :: xs))).wp P fun _ => False := by
  have g0 : getD (.tup (.str s :: xs)) (.int 0) = some (.str s) := by
    show L2.atI _ _ = _
    unfold L2.atI L2.ixN
    rw [if_pos (by decide), if_pos (by simp)]
    rfl
  unfold body
  simp only [CR.M.bind_assoc, CR.M.pure_bind, CR.M.opt_some, CR.M.ite_true, CR.M.ite_false, CR.M.guard_true, CR.M.nox_pure, boolD_bl, le_ii, lt_ii, gt_ii, ge_ii, len_t, len_l, at2_0, at2_1, g2_0, g2_1, g3_0, g3_1, g3_2, eqi, nei, neg_i, ad_i, sb_i, int_i, set2_0, set2_1, CR.O.out, Bool.not_false, Bool.not_true, retD, retL, g0, h]
  exact p
theorem body_and {a b c : D} {P : D → Prop} (h1 : stepT a (.int 1) = some b) (h2 : stepT a (.int (-1)) = some c) (p : P (.tup [.str "and", b])) (q : P (.tup [.str "and", c])) : (body (.tup [.str "and", a])).wp P fun _ => False := by
  unfold body
  simp only [CR.M.bind_assoc, CR.M.pure_bind, CR.M.opt_some, CR.M.ite_true, CR.M.ite_false, CR.M.guard_true, CR.M.nox_pure, boolD_bl, le_ii, lt_ii, gt_ii, ge_ii, len_t, len_l, at2_0, at2_1, g2_0, g2_1, g3_0, g3_1, g3_2, eqi, nei, neg_i, ad_i, sb_i, int_i, set2_0, set2_1, CR.O.out, Bool.not_false, Bool.not_true, retD, retL, eq_aa]
  refine M.seqx (some_ok (by simp) (by simp)) fun d hd => ?_
  simp only [List.mem_cons, List.not_mem_nil, or_false] at hd
  rcases hd with h | h <;> subst h
  · simp only [CR.M.bind_assoc, CR.M.pure_bind, CR.M.opt_some, CR.M.ite_true, CR.M.ite_false, CR.M.guard_true, CR.M.nox_pure, boolD_bl, le_ii, lt_ii, gt_ii, ge_ii, len_t, len_l, at2_0, at2_1, g2_0, g2_1, g3_0, g3_1, g3_2, eqi, nei, neg_i, ad_i, sb_i, int_i, set2_0, set2_1, CR.O.out, Bool.not_false, Bool.not_true, retD, retL, h1]
    exact p
  · simp only [CR.M.bind_assoc, CR.M.pure_bind, CR.M.opt_some, CR.M.ite_true, CR.M.ite_false, CR.M.guard_true, CR.M.nox_pure, boolD_bl, le_ii, lt_ii, gt_ii, ge_ii, len_t, len_l, at2_0, at2_1, g2_0, g2_1, g3_0, g3_1, g3_2, eqi, nei, neg_i, ad_i, sb_i, int_i, set2_0, set2_1, CR.O.out, Bool.not_false, Bool.not_true, retD, retL, h2]
    exact q
theorem law_ok (ns : List Int) (hn : ns.length ≤ 63) : (F_law [.lst (ns.map D.int)]).wp (fun d => d = .bl true) fun _ => False := by
  show (M.bind (m_law _) retD).wp _ _
  unfold m_law
  try simp only [CR.M.bind_assoc, CR.M.pure_bind, CR.M.opt_some, CR.M.ite_true, CR.M.ite_false, CR.M.guard_true, CR.M.nox_pure, boolD_bl, le_ii, lt_ii, gt_ii, ge_ii, len_t, len_l, at2_0, at2_1, g2_0, g2_1, g3_0, g3_1, g3_2, eqi, nei, neg_i, ad_i, sb_i, int_i, set2_0, set2_1, CR.O.out, Bool.not_false, Bool.not_true, retD, retL]
  refine M.seq (cup_ok ns hn) fun cu hc => ?_
  rw [M.must_ok hc]
  simp only [CR.M.bind_assoc, CR.M.pure_bind, CR.M.opt_some, CR.M.ite_true, CR.M.ite_false, CR.M.guard_true, CR.M.nox_pure, boolD_bl, le_ii, lt_ii, gt_ii, ge_ii, len_t, len_l, at2_0, at2_1, g2_0, g2_1, g3_0, g3_1, g3_2, eqi, nei, neg_i, ad_i, sb_i, int_i, set2_0, set2_1, CR.O.out, Bool.not_false, Bool.not_true, retD, retL]
  intro _ _
  refine M.seqx plain_set_ok fun d ⟨t, ls, ed, ht⟩ => ?_
  subst ed
  obtain ⟨dc, hcor⟩ := corners_ok ht
  obtain ⟨dg, hgr⟩ := greatest_ok ht (x := 3) (y := -1000000) (by decide) (by decide)
  obtain ⟨dk, hgk⟩ := greatest_ok ht (x := -1000000) (y := 1000000) (by decide) (by decide)
  have gf2 : getD (form t) (.int 2) = some t := rfl
  have sf : seqD (form t) = some [.int 2, .tup [], t] := rfl
  simp only [CR.M.bind_assoc, CR.M.pure_bind, CR.M.opt_some, CR.M.ite_true, CR.M.ite_false, CR.M.guard_true, CR.M.nox_pure, boolD_bl, le_ii, lt_ii, gt_ii, ge_ii, len_t, len_l, at2_0, at2_1, g2_0, g2_1, g3_0, g3_1, g3_2, eqi, nei, neg_i, ad_i, sb_i, int_i, set2_0, set2_1, CR.O.out, Bool.not_false, Bool.not_true, retD, retL, gf2]
  refine M.seq ((s_is_plain_set _).gives (is_plain (plain_ok ht)) rfl) fun b hb => ?_
  subst hb
  try simp only [CR.M.bind_assoc, CR.M.pure_bind, CR.M.opt_some, CR.M.ite_true, CR.M.ite_false, CR.M.guard_true, CR.M.nox_pure, boolD_bl, le_ii, lt_ii, gt_ii, ge_ii, len_t, len_l, at2_0, at2_1, g2_0, g2_1, g3_0, g3_1, g3_2, eqi, nei, neg_i, ad_i, sb_i, int_i, set2_0, set2_1, CR.O.out, Bool.not_false, Bool.not_true, retD, retL, ttt]
  refine M.seq ((s__law_error _).gives (err_ok0 hcor) rfl) fun b hb => ?_
  subst hb
  try simp only [CR.M.bind_assoc, CR.M.pure_bind, CR.M.opt_some, CR.M.ite_true, CR.M.ite_false, CR.M.guard_true, CR.M.nox_pure, boolD_bl, le_ii, lt_ii, gt_ii, ge_ii, len_t, len_l, at2_0, at2_1, g2_0, g2_1, g3_0, g3_1, g3_2, eqi, nei, neg_i, ad_i, sb_i, int_i, set2_0, set2_1, CR.O.out, Bool.not_false, Bool.not_true, retD, retL, s_ss, pw106]
  refine M.seq ((s__law_error _).gives (err_ok rfl hgr) rfl) fun b hb => ?_
  subst hb
  try simp only [CR.M.bind_assoc, CR.M.pure_bind, CR.M.opt_some, CR.M.ite_true, CR.M.ite_false, CR.M.guard_true, CR.M.nox_pure, boolD_bl, le_ii, lt_ii, gt_ii, ge_ii, len_t, len_l, at2_0, at2_1, g2_0, g2_1, g3_0, g3_1, g3_2, eqi, nei, neg_i, ad_i, sb_i, int_i, set2_0, set2_1, CR.O.out, Bool.not_false, Bool.not_true, retD, retL, s_ss]
  rw [mul7]
  try simp only [CR.M.bind_assoc, CR.M.pure_bind, CR.M.opt_some, CR.M.ite_true, CR.M.ite_false, CR.M.guard_true, CR.M.nox_pure, boolD_bl, le_ii, lt_ii, gt_ii, ge_ii, len_t, len_l, at2_0, at2_1, g2_0, g2_1, g3_0, g3_1, g3_2, eqi, nei, neg_i, ad_i, sb_i, int_i, set2_0, set2_1, CR.O.out, Bool.not_false, Bool.not_true, retD, retL]
  refine oL (by decide) (oL (by decide) ?_)
  try simp only [CR.M.bind_assoc, CR.M.pure_bind, CR.M.opt_some, CR.M.ite_true, CR.M.ite_false, CR.M.guard_true, CR.M.nox_pure, boolD_bl, le_ii, lt_ii, gt_ii, ge_ii, len_t, len_l, at2_0, at2_1, g2_0, g2_1, g3_0, g3_1, g3_2, eqi, nei, neg_i, ad_i, sb_i, int_i, set2_0, set2_1, CR.O.out, Bool.not_false, Bool.not_true, retD, retL, s_lst]
  refine M.seq (compM_all (P := fun y => Bad (.tup [.int 2, .tup [], y])) _ ?_) fun ts ⟨lt, bt⟩ => ?_
  · simp only [List.cons_append, List.nil_append, List.forall_mem_cons]
    repeat' refine And.intro ?_ ?_
    all_goals first
      | exact ⟨_, rfl, body_and rfl rfl (by kernel_rfl) (by kernel_rfl)⟩
      | exact ⟨_, rfl, body_no (by kernel_rfl) (by kernel_rfl)⟩
      | exact fun _ h => by cases h
  simp only [List.length_append, List.length_cons, List.length_nil] at lt
  refine oL (by rw [lt]; decide) ?_
  try simp only [CR.M.bind_assoc, CR.M.pure_bind, CR.M.opt_some, CR.M.ite_true, CR.M.ite_false, CR.M.guard_true, CR.M.nox_pure, boolD_bl, le_ii, lt_ii, gt_ii, ge_ii, len_t, len_l, at2_0, at2_1, g2_0, g2_1, g3_0, g3_1, g3_2, eqi, nei, neg_i, ad_i, sb_i, int_i, set2_0, set2_1, CR.O.out, Bool.not_false, Bool.not_true, retD, retL, s_lst]
  refine M.seq (compM_all (P := Bad) _ ?_) fun bs ⟨lb, bb⟩ => ?_
  · intro x hx
    refine ⟨_, rfl, ?_⟩
    show Bad _
    rcases List.mem_append.mp hx with h | h
    · exact bt x h
    · clear hx
      revert x
      simp only [List.forall_mem_cons]
      exact ⟨by kernel_rfl, by kernel_rfl, by kernel_rfl, fun _ h => by cases h⟩
  simp only [List.length_append, List.length_cons, List.length_nil] at lb
  try simp only [CR.M.bind_assoc, CR.M.pure_bind, CR.M.opt_some, CR.M.ite_true, CR.M.ite_false, CR.M.guard_true, CR.M.nox_pure, boolD_bl, le_ii, lt_ii, gt_ii, ge_ii, len_t, len_l, at2_0, at2_1, g2_0, g2_1, g3_0, g3_1, g3_2, eqi, nei, neg_i, ad_i, sb_i, int_i, set2_0, set2_1, CR.O.out, Bool.not_false, Bool.not_true, retD, retL, sf]
  refine oL (by simp only [List.length_append, List.length_cons, List.length_nil, lb, lt]; decide) ?_
  refine oL (by simp only [List.length_append, List.length_cons, List.length_nil, lb, lt]; decide) ?_
  have ball : ∀ x ∈ bs ++ [D.tup [D.int 1, D.tup [D.str "some"], t], D.tup [D.int 2, D.tup [D.str "all"], D.tup [D.str "most", D.tup [D.int 1, D.int 1, D.int 1], D.int 0]], D.tup [D.int 3, D.tup [], D.tup [D.str "most", D.tup [D.int 1, D.int 1, D.int 1], D.int 0]], D.lst [D.int 2, D.tup [], t], D.non] ++ [D.tup [D.int 2, t], D.tup [D.int 2, D.tup [], t, D.tup []]], Bad x := by
    intro x hx
    rcases List.mem_append.mp hx with h1 | h
    · rcases List.mem_append.mp h1 with h | h
      · exact bb x h
      · clear hx h1
        revert x
        simp only [List.forall_mem_cons]
        exact ⟨plain_some ht, by kernel_rfl, by kernel_rfl, by kernel_rfl, by kernel_rfl, fun _ h => by cases h⟩
    · clear hx
      revert x
      simp only [List.forall_mem_cons]
      exact ⟨by kernel_rfl, by kernel_rfl, fun _ h => by cases h⟩
  have blen : (bs ++ [D.tup [D.int 1, D.tup [D.str "some"], t], D.tup [D.int 2, D.tup [D.str "all"], D.tup [D.str "most", D.tup [D.int 1, D.int 1, D.int 1], D.int 0]], D.tup [D.int 3, D.tup [], D.tup [D.str "most", D.tup [D.int 1, D.int 1, D.int 1], D.int 0]], D.lst [D.int 2, D.tup [], t], D.non] ++ [D.tup [D.int 2, t], D.tup [D.int 2, D.tup [], t, D.tup []]]).length = 27 := by
    simp only [List.length_append, List.length_cons, List.length_nil, lb, lt]
  revert ball blen
  generalize bs ++ _ ++ _ = bads
  intro ball blen
  try simp only [CR.M.bind_assoc, CR.M.pure_bind, CR.M.opt_some, CR.M.ite_true, CR.M.ite_false, CR.M.guard_true, CR.M.nox_pure, boolD_bl, le_ii, lt_ii, gt_ii, ge_ii, len_t, len_l, at2_0, at2_1, g2_0, g2_1, g3_0, g3_1, g3_2, eqi, nei, neg_i, ad_i, sb_i, int_i, set2_0, set2_1, CR.O.out, Bool.not_false, Bool.not_true, retD, retL, s_lst]
  refine M.seqx (some_ok (by rw [blen]; decide) (by rw [blen]; decide)) fun other ho => ?_
  have bo := ball other ho
  try simp only [CR.M.bind_assoc, CR.M.pure_bind, CR.M.opt_some, CR.M.ite_true, CR.M.ite_false, CR.M.guard_true, CR.M.nox_pure, boolD_bl, le_ii, lt_ii, gt_ii, ge_ii, len_t, len_l, at2_0, at2_1, g2_0, g2_1, g3_0, g3_1, g3_2, eqi, nei, neg_i, ad_i, sb_i, int_i, set2_0, set2_1, CR.O.out, Bool.not_false, Bool.not_true, retD, retL, s_lst]
  refine M.seq (compM_none bads ?_) fun z hz => ?_
  · intro x hx
    refine ⟨x, rfl, ?_⟩
    refine M.seq ((s_is_plain_set _).gives (is_plain (ball x hx)) rfl) fun b hb => ?_
    subst hb
    rfl
  subst hz
  try simp only [CR.M.bind_assoc, CR.M.pure_bind, CR.M.opt_some, CR.M.ite_true, CR.M.ite_false, CR.M.guard_true, CR.M.nox_pure, boolD_bl, le_ii, lt_ii, gt_ii, ge_ii, len_t, len_l, at2_0, at2_1, g2_0, g2_1, g3_0, g3_1, g3_2, eqi, nei, neg_i, ad_i, sb_i, int_i, set2_0, set2_1, CR.O.out, Bool.not_false, Bool.not_true, retD, retL, ne_nil, List.isEmpty_nil]
  refine M.seq ((s__law_error _).gives (err_exc0 (corners_bad bo)) rfl) fun b hb => ?_
  subst hb
  try simp only [CR.M.bind_assoc, CR.M.pure_bind, CR.M.opt_some, CR.M.ite_true, CR.M.ite_false, CR.M.guard_true, CR.M.nox_pure, boolD_bl, le_ii, lt_ii, gt_ii, ge_ii, len_t, len_l, at2_0, at2_1, g2_0, g2_1, g3_0, g3_1, g3_2, eqi, nei, neg_i, ad_i, sb_i, int_i, set2_0, set2_1, CR.O.out, Bool.not_false, Bool.not_true, retD, retL, s_ff]
  refine M.seqx (some_ok (by simp) (by simp)) fun r hr => ?_
  have nr : isNon r = false := by
    revert r
    simp only [List.forall_mem_cons]
    exact ⟨rfl, rfl, rfl, fun _ h => by cases h⟩
  refine M.seq ((s__law_error _).gives (err_exc nr (greatest_bad bo)) rfl) fun b hb => ?_
  subst hb
  try simp only [CR.M.bind_assoc, CR.M.pure_bind, CR.M.opt_some, CR.M.ite_true, CR.M.ite_false, CR.M.guard_true, CR.M.nox_pure, boolD_bl, le_ii, lt_ii, gt_ii, ge_ii, len_t, len_l, at2_0, at2_1, g2_0, g2_1, g3_0, g3_1, g3_2, eqi, nei, neg_i, ad_i, sb_i, int_i, set2_0, set2_1, CR.O.out, Bool.not_false, Bool.not_true, retD, retL, s_ff, pw106, s_lst]
  refine M.seq (compM_none _ ?_) fun z hz => ?_
  · have hx : ∀ r, isNon r = false → f_need_row [r] = .exc "InvalidRow" → ∃ g, some r = some g ∧ (M.bind (F__law_error [form t, g]) fun a => M.opt (neB a (D.str "row"))).wp (fun b => b = false) fun _ => False := fun r h1 h2 => by
      refine ⟨r, rfl, ?_⟩
      refine M.seq ((s__law_error _).gives (err_row h1 (greatest_row ht h2)) rfl) fun b hb => ?_
      subst hb
      rw [s_rr]
      rfl
    simp only [List.forall_mem_cons]
    repeat' refine And.intro ?_ ?_
    all_goals first
      | exact hx _ rfl (by kernel_rfl)
      | exact fun _ h => by cases h
  subst hz
  have e0 : eqB (.lst []) (.lst []) = some true := by kernel_rfl
  have e1 : eqB (.str "") (.str "") = some true := by kernel_rfl
  simp only [CR.M.bind_assoc, CR.M.pure_bind, CR.M.opt_some, CR.M.ite_true, CR.M.ite_false, CR.M.guard_true, CR.M.nox_pure, boolD_bl, le_ii, lt_ii, gt_ii, ge_ii, len_t, len_l, at2_0, at2_1, g2_0, g2_1, g3_0, g3_1, g3_2, eqi, nei, neg_i, ad_i, sb_i, int_i, set2_0, set2_1, CR.O.out, Bool.not_false, Bool.not_true, retD, retL, e0]
  refine M.seq ((s__law_error _).gives (err_ok rfl hgk) rfl) fun b hb => ?_
  subst hb
  simp only [CR.M.bind_assoc, CR.M.pure_bind, CR.M.opt_some, CR.M.ite_true, CR.M.ite_false, CR.M.guard_true, CR.M.nox_pure, boolD_bl, le_ii, lt_ii, gt_ii, ge_ii, len_t, len_l, at2_0, at2_1, g2_0, g2_1, g3_0, g3_1, g3_2, eqi, nei, neg_i, ad_i, sb_i, int_i, set2_0, set2_1, CR.O.out, Bool.not_false, Bool.not_true, retD, retL, e1]
  rfl
end L_k63
theorem PySem.Challenge.cw_countrealm_k63_plain_sets_holds : PySem.Challenge.rw_countrealm_k63_plain_sets.Holds :=
  L_k63.holds_of L_k63.law_ok

