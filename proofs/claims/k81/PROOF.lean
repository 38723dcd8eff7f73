import PyProof.Rows.All
import Wide.All
import OpenK.AllK
import Wide.FinOn
import PyProof.EqAt
import PyProof.EqKinds
import PyProof.TupleCall
import HandS.ForMost
import HandS.Exc
import HandS.ExcOwn
import HandS.TupAny
import HandS.Style
import HandS.Flow
import HandS.IsInst
import HandS.Deep
import HandS.Codes
import HandS.Walk
import HandS.WordsExc
import HandS.ExcIs
import HandS.Replace
import PyProof.CollectStr
import PyProof.ListStr
import HandS.Conv
import HandS.Ends
import PyProof.Rows.RegStrFacts
import PyProof.Rows.ReprOcc
import PySem.Challenge.RW_textwhole_k81_numbers_by_sums
import PyProof.StrLawsIn
set_option Elab.async false
set_option linter.all false
set_option maxRecDepth 100000
set_option maxHeartbeats 4000000
/-! DL, part 0: data without a heap. A def's meaning is a plain Lean function of data (PyData) in the monad M; this part: data in the heap, worlds, judgements. -/
namespace DL
open PySem PySem.Spec PyProof.Rows L2

abbrev D := PyData
abbrev Fg := PySem.W.Frag
inductive Ex where | unfit | wide
  deriving DecidableEq
/-- the law's drawing state -/
structure LS where
  cells : List Int
  at_ : Nat
  held : Int
  seed : Int
inductive Res (α : Type) where
  | ok (a : α) (s : LS) | err (e : Ex) (s : LS) | stuck
def M (α : Type) := LS → Res α
def M.bind {α β : Type} (m : M α) (k : α → M β) : M β := fun s => match m s with
  | .ok a s' => k a s'
  | .err e s' => .err e s'
  | .stuck => .stuck
def M.pure {α : Type} (a : α) : M α := fun s => .ok a s
instance : Monad M where
  pure := M.pure
  bind := M.bind
def stuck {α : Type} : M α := fun _ => .stuck
def raise {α : Type} (e : Ex) : M α := fun s => .err e s
theorem pure_ap {α : Type} (a : α) (s : LS) : (pure a : M α) s = .ok a s := rfl
theorem bind_ap {α β : Type} (m : M α) (k : α → M β) (s : LS) : (m >>= k) s = M.bind m k s := rfl
instance : LawfulMonad M := LawfulMonad.mk' M
  (id_map := fun x => by funext s; show M.bind x (fun a => M.pure (id a)) s = x s; unfold M.bind M.pure; cases x s <;> rfl)
  (pure_bind := fun a k => rfl)
  (bind_assoc := fun x f g => by funext s; show M.bind (M.bind x f) g s = M.bind x (fun a => M.bind (f a) g) s; unfold M.bind; cases x s <;> rfl)
theorem raise_bind {α β : Type} (e : Ex) (k : α → M β) : (raise e >>= k) = raise e := rfl
theorem stuck_bind {α β : Type} (k : α → M β) : (stuck >>= k) = stuck := rfl
/-- an operation that may not be served -/
def lift {α : Type} : Option α → M α
  | some a => pure a
  | none => stuck
theorem lift_some {α : Type} (a : α) : lift (some a) = pure a := rfl
theorem lift_none {α : Type} : lift (none : Option α) = stuck := rfl

/-! ### data in the heap -/
mutual
inductive Rep (K : Fg) (I : Hp) : V → D → Prop
  | non : Rep K I .non .none
  | bl (b : Bool) : Rep K I (.bl b) (.bool b)
  | int (i : Int) : Rep K I (.int i) (.int i)
  | str (x : Str) : Rep K I (.str x) (.str x)
  | lst {a : Addr} {xs : List V} {ds : List D} : I a = some (.lst xs) → Reps K I xs ds → Rep K I (.ref a) (.list ds)
  | tup {a : Addr} {xs : List V} {ds : List D} : SqT K I a xs → Reps K I xs ds → Rep K I (.ref a) (.tuple ds)
  | dic {a : Addr} : I a = some (.dK []) → Rep K I (.ref a) (.dict [])
inductive Reps (K : Fg) (I : Hp) : List V → List D → Prop
  | nil : Reps K I [] []
  | cons {v : V} {vs : List V} {d : D} {ds : List D} : Rep K I v d → Reps K I vs ds → Reps K I (v :: vs) (d :: ds)
end
theorem Rd.mono {I I' : Hp} {a : Addr} {u : HO} (s : Same I I') (h : Rd I a u) : Rd I' a u := by
  rcases h with h | ⟨o, h⟩
  · exact .inl (s _ _ h)
  · exact .inr ⟨o, s _ _ h⟩
theorem SqL.mono {K : Fg} {I I' : Hp} {a : Addr} {xs : List V} (s : Same I I') (h : SqL K I a xs) : SqL K I' a xs := h.imp (Rd.mono s) id
theorem SqT.mono {K : Fg} {I I' : Hp} {a : Addr} {xs : List V} (s : Same I I') (h : SqT K I a xs) : SqT K I' a xs := h.imp (Rd.mono s) id
mutual
theorem Rep.mono {K : Fg} {I I' : Hp} (s : Same I I') : ∀ {v : V} {d : D}, Rep K I v d → Rep K I' v d
  | _, _, .non => .non
  | _, _, .bl b => .bl b
  | _, _, .int i => .int i
  | _, _, .str x => .str x
  | _, _, .lst h r => .lst (s _ _ h) (Reps.mono s r)
  | _, _, .tup h r => .tup (SqT.mono s h) (Reps.mono s r)
  | _, _, .dic h => .dic (s _ _ h)
theorem Reps.mono {K : Fg} {I I' : Hp} (s : Same I I') : ∀ {vs : List V} {ds : List D}, Reps K I vs ds → Reps K I' vs ds
  | _, _, .nil => .nil
  | _, _, .cons h r => .cons (Rep.mono s h) (Reps.mono s r)
end
section
variable {K : Fg} {I I' : Hp}
theorem Reps.length : ∀ {vs : List V} {ds : List D}, Reps K I vs ds → vs.length = ds.length
  | _, _, .nil => rfl
  | _, _, .cons _ r => by rw [List.length_cons, List.length_cons, Reps.length r]
theorem Reps.append : ∀ {vs ws : List V} {ds es : List D}, Reps K I vs ds → Reps K I ws es → Reps K I (vs ++ ws) (ds ++ es)
  | _, _, _, _, .nil, r => r
  | _, _, _, _, .cons h t, r => .cons h (Reps.append t r)
theorem Reps.take : ∀ {vs : List V} {ds : List D} (n : Nat), Reps K I vs ds → Reps K I (vs.take n) (ds.take n)
  | _, _, 0, _ => .nil
  | _, _, _ + 1, .nil => .nil
  | _, _, n + 1, .cons h t => .cons h (Reps.take n t)
theorem Reps.drop : ∀ {vs : List V} {ds : List D} (n : Nat), Reps K I vs ds → Reps K I (vs.drop n) (ds.drop n)
  | _, _, 0, r => r
  | _, _, _ + 1, .nil => .nil
  | _, _, n + 1, .cons _ t => Reps.drop n t
theorem Reps.get : ∀ {vs : List V} {ds : List D} {i : Nat} {d : D}, Reps K I vs ds → ds[i]? = some d → ∃ v, vs[i]? = some v ∧ Rep K I v d
  | _, _, _, _, .nil, e => by simp at e
  | _, _, 0, _, .cons h _, e => by simp at e; subst e; exact ⟨_, rfl, h⟩
  | _, _, i + 1, d, .cons _ t, e => by
    obtain ⟨u, h1, h2⟩ := Reps.get (i := i) (d := d) t (by simpa using e)
    exact ⟨u, by simpa using h1, h2⟩
theorem Reps.getV : ∀ {vs : List V} {ds : List D} {i : Nat} {v : V}, Reps K I vs ds → vs[i]? = some v → ∃ d, ds[i]? = some d ∧ Rep K I v d
  | _, _, _, _, .nil, e => by simp at e
  | _, _, 0, _, .cons h _, e => by simp at e; subst e; exact ⟨_, rfl, h⟩
  | _, _, i + 1, d, .cons _ t, e => by
    obtain ⟨u, h1, h2⟩ := Reps.getV (i := i) (v := d) t (by simpa using e)
    exact ⟨u, by simpa using h1, h2⟩
theorem Reps.set {v : V} {d : D} (h : Rep K I v d) : ∀ {vs : List V} {ds : List D} (i : Nat), Reps K I vs ds → Reps K I (vs.set i v) (ds.set i d)
  | _, _, _, .nil => .nil
  | _, _, 0, .cons _ t => .cons h t
  | _, _, i + 1, .cons q t => .cons q (Reps.set h i t)
theorem Reps.reverse : ∀ {vs : List V} {ds : List D}, Reps K I vs ds → Reps K I vs.reverse ds.reverse
  | _, _, .nil => .nil
  | _, _, .cons h t => by rw [List.reverse_cons, List.reverse_cons]; exact (Reps.reverse t).append (.cons h .nil)
theorem Reps.erase : ∀ {vs : List V} {ds : List D} (i : Nat), Reps K I vs ds → Reps K I (vs.eraseIdx i) (ds.eraseIdx i)
  | _, _, _, .nil => .nil
  | _, _, 0, .cons _ t => t
  | _, _, i + 1, .cons q t => .cons q (Reps.erase i t)
/-- what is flat -/
def toV : D → Option V
  | .none => some .non
  | .bool b => some (.bl b)
  | .int i => some (.int i)
  | .str x => some (.str x)
  | _ => none
theorem Rep.toV {v : V} {d : D} {u : V} (h : Rep K I v d) (e : DL.toV d = some u) : v = u := by
  cases h <;> first | exact Option.some.inj e | (cases e)
theorem Rep.of_toV {d : D} {u : V} (e : DL.toV d = some u) : Rep K I u d := by
  cases d <;> first | (cases e; constructor) | (cases e)
end

/-! ### worlds -/
structure LSok (ls : LS) : Prop where
  at0 : ls.at_ ≤ ls.cells.length
  len : ls.cells.length ≤ 63
  held : 0 ≤ ls.held
  seed : 0 ≤ ls.seed ∧ ls.seed < 2147483647
/-- I: what is never changed again, within H; sA: where the drawing state stands -/
structure World (K : Fg) (sA : Option Addr) (H I : Hp) (ls : LS) : Prop where
  sub : Same I H
  st : ∀ a, sA = some a → I a = none ∧ LSok ls ∧ ∃ c, H a = some (.lst [.ref c, .int ls.at_, .int ls.held, .int ls.seed]) ∧ I c = some (.lst (ls.cells.map .int))
structure Grow (sA : Option Addr) (H I H' I' : Hp) : Prop where
  keep : ∀ b o, sA ≠ some b → H b = some o → H' b = some o
  dom : ∀ b, H b ≠ none → H' b ≠ none
  inc : Same I I'
  new : ∀ b, I' b ≠ none → I b ≠ none ∨ H b = none
section
variable {K : Fg} {sA : Option Addr} {H I H' I' H2 I2 : Hp} {ls : LS}
theorem Grow.refl : Grow sA H I H I := ⟨fun _ _ _ h => h, fun _ h => h, Same.refl _, fun _ h => .inl h⟩
theorem Grow.trans (a : Grow sA H I H' I') (b : Grow sA H' I' H2 I2) : Grow sA H I H2 I2 where
  keep := fun c o h e => b.keep c o h (a.keep c o h e)
  dom := fun c h => b.dom c (a.dom c h)
  inc := a.inc.trans b.inc
  new := fun c h => by
    rcases b.new c h with q | q
    · exact a.new c q
    · refine .inr ?_
      cases e : H c with
      | none => rfl
      | some o => exact absurd q (a.dom c (by rw [e]; simp))
theorem same_upd {H : Hp} {p : Addr} {o : HO} (h : H p = none) : Same H (upd H p o) := fun b x e => by
  rw [upd_ne (ne_of_none e h)]; exact e
theorem same_upd2 {H H' : Hp} {p : Addr} {o : HO} (h : Same H H') : Same (upd H p o) (upd H' p o) := fun b x e => by
  by_cases hb : b = p
  · subst hb; rw [upd_same] at e ⊢; exact e
  · rw [upd_ne hb] at e ⊢; exact h b x e
/-- a new object that never changes -/
theorem World.laid {p : Addr} {o : HO} (w : World K sA H I ls) (hn : H p = none) : World K sA (upd H p o) (upd I p o) ls := by
  have hi : I p = none := by
    cases e : I p with
    | none => rfl
    | some u => rw [w.sub _ _ e] at hn; cases hn
  refine ⟨same_upd2 w.sub, fun a e => ?_⟩
  obtain ⟨h1, h2, c, h3, h4⟩ := w.st a e
  have ha : a ≠ p := ne_of_none h3 hn
  exact ⟨by rw [upd_ne ha]; exact h1, h2, c, by rw [upd_ne ha]; exact h3, same_upd hi _ _ h4⟩
theorem World.free {p : Addr} (w : World K sA H I ls) (hn : H p = none) : I p = none := by
  cases e : I p with
  | none => rfl
  | some u => rw [w.sub _ _ e] at hn; cases hn
theorem Grow.laid {p : Addr} {o : HO} (w : World K sA H I ls) (hn : H p = none) : Grow sA H I (upd H p o) (upd I p o) where
  keep := fun b u _ e => same_upd hn b u e
  dom := fun b h => by
    cases e : H b with
    | none => exact absurd e h
    | some u => rw [same_upd hn b u e]; simp
  inc := same_upd (w.free hn)
  new := fun b h => by
    by_cases hb : b = p
    · subst hb; exact .inr hn
    · rw [upd_ne hb] at h; exact .inl h
/-- .. that may be changed (not in I) -/
theorem World.laidM {p : Addr} {o : HO} (w : World K sA H I ls) (hn : H p = none) : World K sA (upd H p o) I ls := by
  refine ⟨w.sub.trans (same_upd hn), fun a e => ?_⟩
  obtain ⟨h1, h2, c, h3, h4⟩ := w.st a e
  exact ⟨h1, h2, c, by rw [upd_ne (ne_of_none h3 hn)]; exact h3, h4⟩
theorem Grow.laidM {p : Addr} {o : HO} (hn : H p = none) : Grow sA H I (upd H p o) I where
  keep := fun b u _ e => same_upd hn b u e
  dom := fun b h => by
    cases e : H b with
    | none => exact absurd e h
    | some u => rw [same_upd hn b u e]; simp
  inc := Same.refl _
  new := fun b h => .inl h
/-- what may be changed is made lasting -/
theorem World.freeze {p : Addr} {o : HO} (w : World K sA H I ls) (hp : H p = some o) (hi : I p = none) (hs : sA ≠ some p) : World K sA H (upd I p o) ls := by
  refine ⟨fun b u e => ?_, fun a e => ?_⟩
  · by_cases hb : b = p
    · subst hb; rw [upd_same] at e; rw [hp]; exact e
    · rw [upd_ne hb] at e; exact w.sub b u e
  · obtain ⟨h1, h2, c, h3, h4⟩ := w.st a e
    have ha : a ≠ p := fun z => hs (by rw [e, z])
    exact ⟨by rw [upd_ne ha]; exact h1, h2, c, h3, same_upd hi _ _ h4⟩
end

/-! ### what may be changed -/
def keyD : Key → D
  | .inl i => .int i
  | .inr x => .str x
def OwnAt (K : Fg) (H I : Hp) (a : Addr) : D → Prop
  | .list ds => ∃ vs, H a = some (.lst vs) ∧ Reps K I vs ds
  | .dict kvs => (∃ (ks : List (Key × V)), H a = some (.dK ks) ∧ kvs.map (·.1) = ks.map (keyD ·.1) ∧ Reps K I (ks.map (·.2)) (kvs.map (·.2))) ∨
      (∃ (ks : List (List Key × V)), H a = some (.dT ks) ∧ kvs.map (·.1) = ks.map (fun k => .tuple (k.1.map keyD)) ∧ Reps K I (ks.map (·.2)) (kvs.map (·.2)))
  | _ => False
theorem OwnAt.mono {K : Fg} {H I H' I' : Hp} {a : Addr} {d : D} (h : OwnAt K H I a d) (e : ∀ o, H a = some o → H' a = some o) (s : Same I I') : OwnAt K H' I' a d := by
  cases d with
  | list ds => obtain ⟨vs, h1, h2⟩ := h; exact ⟨vs, e _ h1, h2.mono s⟩
  | dict kvs =>
    rcases h with ⟨ks, h1, h2, h3⟩ | ⟨ks, h1, h2, h3⟩
    · exact .inl ⟨ks, e _ h1, h2, h3.mono s⟩
    · exact .inr ⟨ks, e _ h1, h2, h3.mono s⟩
  | _ => exact h.elim
theorem OwnAt.there {K : Fg} {H I : Hp} {a : Addr} {d : D} (h : OwnAt K H I a d) : ∃ o, H a = some o := by
  cases d with
  | list ds => obtain ⟨vs, h1, h2⟩ := h; exact ⟨_, h1⟩
  | dict kvs =>
    rcases h with ⟨ks, h1, h2, h3⟩ | ⟨ks, h1, h2, h3⟩
    · exact ⟨_, h1⟩
    · exact ⟨_, h1⟩
  | _ => exact h.elim
inductive DV where
  | val (d : D) | own (d : D) | st | exc
abbrev DEnv := List (Option DV)
structure RelE (K : Fg) (sA : Option Addr) (H0 : Hp) (σ : L2.St) (H I : Hp) (env : DEnv) : Prop where
  len : env.length = σ.length
  val : ∀ (i : Nat) d, env[i]? = some (some (.val d)) → ∃ v, σ[i]? = some (some v) ∧ Rep K I v d
  own : ∀ (i : Nat) d, env[i]? = some (some (.own d)) → ∃ a, σ[i]? = some (some (.ref a)) ∧ OwnAt K H I a d ∧ H0 a = none ∧ I a = none ∧ sA ≠ some a
  inj : ∀ (i j : Nat) a d e, env[i]? = some (some (.own d)) → env[j]? = some (some (.own e)) → σ[i]? = some (some (.ref a)) → σ[j]? = some (some (.ref a)) → i = j
  st : ∀ (i : Nat), env[i]? = some (some .st) → ∃ a, sA = some a ∧ σ[i]? = some (some (.ref a))
theorem RelE.grow {K : Fg} {sA : Option Addr} {H0 H I H' I' : Hp} {σ : L2.St} {env : DEnv} (r : RelE K sA H0 σ H I env) (g : Grow sA H I H' I') : RelE K sA H0 σ H' I' env where
  len := r.len
  val := fun i d e => let ⟨v, h1, h2⟩ := r.val i d e; ⟨v, h1, h2.mono g.inc⟩
  own := fun i d e => by
    obtain ⟨a, h1, h2, h3, h4, h5⟩ := r.own i d e
    refine ⟨a, h1, h2.mono (fun o q => g.keep a o h5 q) g.inc, h3, ?_, h5⟩
    obtain ⟨o, ho⟩ := h2.there
    cases q : I' a with
    | none => rfl
    | some u =>
      rcases g.new a (by rw [q]; simp) with z | z
      · exact absurd h4 z
      · rw [ho] at z; cases z
  inj := r.inj
  st := r.st

/-! ### judgements -/
inductive Md where | strict | oper | fresh
def RepO (K : Fg) (sA : Option Addr) (H I : Hp) (v : V) (d : D) : Prop := Rep K I v d ∨ ∃ a, v = .ref a ∧ OwnAt K H I a d ∧ I a = none ∧ sA ≠ some a
def RepM (K : Fg) (sA : Option Addr) (Hs : Hp) (md : Md) (H I : Hp) (v : V) (d : D) : Prop := match md with
  | .strict => Rep K I v d
  | .oper => RepO K sA H I v d
  | .fresh => ∃ a, v = .ref a ∧ OwnAt K H I a d ∧ Hs a = none ∧ I a = none ∧ sA ≠ some a
/-- what is wanted of a result: of a value, or of an exception -/
def Post (K : Fg) (ev : Ex → Value) (W : WX) (sA : Option Addr) (σ : L2.St) (H I : Hp) {α : Type} (r : Res α) (R : α → LS → Hp → Hp → Prop) : Prop := match r with
  | .ok a ls' => ∀ H' I', Grow sA H I H' I' → World K sA H' I' ls' → R a ls' H' I'
  | .err e ls' => ∀ H' I', Grow sA H I H' I' → World K sA H' I' ls' → W (ev e) none σ H'
  | .stuck => False
abbrev PostE (K : Fg) (ev : Ex → Value) (W : WX) (sA : Option Addr) (σ : L2.St) (H I : Hp) (md : Md) (r : Res D) (Q : VK) : Prop :=
  Post K ev W sA σ H I r fun d _ H' I' => ∀ v, RepM K sA H md H' I' v d → Q v H'
/-- the reading t is met by f -/
def Sat (K : Fg) (ev : Ex → Value) (W : WX) (md : Md) (t : TE) (f : DEnv → M D) : Prop :=
  ∀ sA H0 σ H I ls env Q, World K sA H I ls → RelE K sA H0 σ H I env → PostE K ev W sA σ H I md (f env ls) Q → t σ H Q
/-- the expression's value is f -/
def DE (X : Cx) (ev : Ex → Value) (W : WX) (md : Md) (e : Expr) (f : DEnv → M D) : Prop := ∃ t, PE X e t ∧ Sat X.K ev W md t f
section
variable {K : Fg} {ev : Ex → Value} {W : WX} {sA : Option Addr} {σ : L2.St} {H I H1 I1 : Hp} {α β : Type}
theorem Post.mono {r : Res α} {R R' : α → LS → Hp → Hp → Prop} (h : Post K ev W sA σ H I r R) (k : ∀ a ls' H' I', r = .ok a ls' → Grow sA H I H' I' → World K sA H' I' ls' → R a ls' H' I' → R' a ls' H' I') : Post K ev W sA σ H I r R' := by
  cases r with
  | ok a ls' => exact fun H' I' g w => k a ls' H' I' rfl g w (h H' I' g w)
  | err e ls' => exact h
  | stuck => exact h
theorem Post.grow {r : Res α} {R : α → LS → Hp → Hp → Prop} (g : Grow sA H I H1 I1) (h : Post K ev W sA σ H I r R) : Post K ev W sA σ H1 I1 r R := by
  cases r with
  | ok a ls' => exact fun H' I' g' w => h H' I' (g.trans g') w
  | err e ls' => exact fun H' I' g' w => h H' I' (g.trans g') w
  | stuck => exact h
theorem Post.bind {m : M α} {k : α → M β} {ls : LS} {R : β → LS → Hp → Hp → Prop} (h : Post K ev W sA σ H I ((m >>= k) ls) R) :
    Post K ev W sA σ H I (m ls) fun a ls1 H1 I1 => Post K ev W sA σ H I (k a ls1) R := by
  revert h
  show Post K ev W sA σ H I (M.bind m k ls) R → _
  unfold M.bind
  cases m ls with
  | ok a ls' => exact fun h H' I' g w => h
  | err e ls' => exact id
  | stuck => exact id
/-- one expression, then the rest -/
theorem Sat.run {md : Md} {t : TE} {f : DEnv → M D} {H0 : Hp} {ls : LS} {env : DEnv} {Q : VK} {k : D → M β} {R : β → LS → Hp → Hp → Prop} (h : Sat K ev W md t f) (w : World K sA H I ls) (r : RelE K sA H0 σ H I env)
    (po : Post K ev W sA σ H I ((f env >>= k) ls) R)
    (nx : ∀ v d ls1 H1 I1, Grow sA H I H1 I1 → World K sA H1 I1 ls1 → RelE K sA H0 σ H1 I1 env → RepM K sA H md H1 I1 v d → Post K ev W sA σ H I (k d ls1) R → Q v H1) : t σ H Q := by
  refine h sA H0 σ H I ls env Q w r (po.bind.mono fun d ls1 H1 I1 _ g w1 p v rp => nx v d ls1 H1 I1 g w1 (r.grow g) rp p)
end
theorem RepO.grow {K : Fg} {sA : Option Addr} {H I H' I' : Hp} {v : V} {d : D} (h : RepO K sA H I v d) (g : Grow sA H I H' I') : RepO K sA H' I' v d := by
  rcases h with h | ⟨a, e, h1, h2, h3⟩
  · exact .inl (h.mono g.inc)
  · refine .inr ⟨a, e, h1.mono (fun o q => g.keep a o h3 q) g.inc, ?_, h3⟩
    obtain ⟨o, ho⟩ := h1.there
    cases q : I' a with
    | none => rfl
    | some u =>
      rcases g.new a (by rw [q]; simp) with z | z
      · exact absurd h2 z
      · rw [ho] at z; cases z
section
variable {X : Cx} {ev : Ex → Value} {W : WX} {e : Expr} {f : DEnv → M D} {md : Md}
theorem DE.op (h : DE X ev W .strict e f) : DE X ev W .oper e f := by
  obtain ⟨t, p, q⟩ := h
  exact ⟨t, p, fun sA H0 σ H I ls env Q w r po => q sA H0 σ H I ls env Q w r (po.mono fun d ls' H' I' _ g w' po v rp => po v (.inl rp))⟩
theorem DE.fop (h : DE X ev W .fresh e f) : DE X ev W .oper e f := by
  obtain ⟨t, p, q⟩ := h
  exact ⟨t, p, fun sA H0 σ H I ls env Q w r po => q sA H0 σ H I ls env Q w r (po.mono fun d ls' H' I' _ g w' po v ⟨a, e, h1, _, h2, h3⟩ => po v (.inr ⟨a, e, h1, h2, h3⟩))⟩
/-- what is new is made lasting (a list) -/
def isL : D → Bool
  | .list _ => true
  | _ => false
def frz (f : DEnv → M D) : DEnv → M D := fun env => f env >>= fun d => if isL d = true then pure d else stuck
theorem DE.frz (h : DE X ev W .fresh e f) : DE X ev W .strict e (DL.frz f) := by
  obtain ⟨t, p, q⟩ := h
  refine ⟨t, p, fun sA H0 σ H I ls env Q w r po => q.run w r po fun v d ls1 H1 I1 g w1 r1 ⟨a, ee, h1, hs, h2, h3⟩ po => ?_⟩
  subst ee
  cases d with
  | list ds =>
    obtain ⟨vs, k1, k2⟩ := h1
    refine po H1 (upd I1 a (.lst vs)) ⟨g.keep, g.dom, g.inc.trans (same_upd h2), fun b hb => ?_⟩ (w1.freeze k1 h2 h3) (.ref a) (.lst upd_same (k2.mono (same_upd h2)))
    by_cases z : b = a
    · subst z; exact .inr hs
    · rw [upd_ne z] at hb; exact g.new b hb
  | _ => exact po.elim
end
end DL

/-! DL, part 1: expressions. -/
namespace DL
open PySem PySem.Spec PyProof.Rows L2

section
variable {K : Fg} {sA : Option Addr} {H I : Hp} {ls : LS} {v : V}
theorem RepO.list {ds : List D} (w : World K sA H I ls) (h : RepO K sA H I v (.list ds)) : ∃ a xs, v = .ref a ∧ H a = some (.lst xs) ∧ Reps K I xs ds := by
  rcases h with h | ⟨a, e, ⟨vs, h1, h2⟩, _, _⟩
  · cases h with
    | lst h1 h2 => exact ⟨_, _, rfl, w.sub _ _ h1, h2⟩
  · exact ⟨a, vs, e, h1, h2⟩
theorem RepO.tup {ds : List D} (w : World K sA H I ls) (h : RepO K sA H I v (.tuple ds)) : ∃ a xs, v = .ref a ∧ SqT K H a xs ∧ SqT K I a xs ∧ Reps K I xs ds := by
  rcases h with h | ⟨a, e, h1, _, _⟩
  · cases h with
    | tup h1 h2 => exact ⟨_, _, rfl, SqT.mono w.sub h1, h1, h2⟩
  · exact h1.elim
theorem RepO.flat {d : D} {u : V} (h : RepO K sA H I v d) (e : toV d = some u) : v = u := by
  rcases h with h | ⟨a, _, h1, _, _⟩
  · exact h.toV e
  · cases d <;> first | exact h1.elim | (cases e)
theorem RepO.int {i : Int} (h : RepO K sA H I v (.int i)) : v = .int i := h.flat rfl
theorem RepO.str {i : Str} (h : RepO K sA H I v (.str i)) : v = .str i := h.flat rfl
theorem RepO.bl {i : Bool} (h : RepO K sA H I v (.bool i)) : v = .bl i := h.flat rfl
theorem RepO.non (h : RepO K sA H I v .none) : v = .non := h.flat rfl
mutual
theorem Rep.dp (s : Same I H) : ∀ {v : V} {d : D}, Rep K I v d → d.canLay0 = true → Dp K H v d
  | _, _, .non, _ => .non
  | _, _, .bl b, _ => .bl b
  | _, _, .int i, _ => .int i
  | _, _, .str x, _ => .str x
  | _, _, .lst h r, e => .lst (.inl (.inl (s _ _ h))) (Reps.dp s r (by simpa [PyData.canLay0] using e))
  | _, _, .tup h r, e => .tup (SqT.mono s h) (Reps.dp s r (by simpa [PyData.canLay0] using e))
  | _, _, .dic h, e => by simp [PyData.canLay0] at e
theorem Reps.dp (s : Same I H) : ∀ {vs : List V} {ds : List D}, Reps K I vs ds → PyData.canLayAll0 ds = true → DpAll K H vs ds
  | _, _, .nil, _ => .nil
  | _, _, .cons h r, e => .cons (Rep.dp s h (by simp [PyData.canLayAll0] at e; exact e.1)) (Reps.dp s r (by simp [PyData.canLayAll0] at e; exact e.2))
end
theorem RepO.dp {d : D} (w : World K sA H I ls) (h : RepO K sA H I v d) (e : d.canLay0 = true) : Dp K H v d := by
  rcases h with h | ⟨a, ee, h1, _, _⟩
  · exact h.dp w.sub e
  · subst ee
    cases d with
    | list ds =>
      obtain ⟨vs, k1, k2⟩ := h1
      exact .lst (.inl (.inl k1)) (k2.dp w.sub (by simpa [PyData.canLay0] using e))
    | dict kvs => simp [PyData.canLay0] at e
    | _ => exact h1.elim
abbrev RepsO (K : Fg) (sA : Option Addr) (H I : Hp) : List V → List D → Prop := Paired (RepO K sA H I)
theorem RepsO.grow {H' I' : Hp} {vs : List V} {ds : List D} (h : RepsO K sA H I vs ds) (g : Grow sA H I H' I') : RepsO K sA H' I' vs ds := Paired.mapP h fun _ _ r => r.grow g
theorem repsO_of {vs : List V} {ds : List D} (h : Reps K I vs ds) : RepsO K sA H I vs ds := by
  induction ds generalizing vs with
  | nil => cases h; exact .nil
  | cons d ds ih => cases h with | cons h1 h2 => exact .cons (.inl h1) (ih h2)
end

section
variable {X : Cx} {ev : Ex → Value} {W : WX} {md : Md} {a b c e : Expr} {fa fb fc f : DEnv → M D} {pos : Pos}
def eV (i : Nat) : DEnv → M D := fun env => match env[i]? with
  | some (some (.val d)) => pure d
  | _ => stuck
def eO (i : Nat) : DEnv → M D := fun env => match env[i]? with
  | some (some (.val d)) => pure d
  | some (some (.own d)) => pure d
  | _ => stuck
def eC (d : D) : DEnv → M D := fun _ => pure d
theorem de_var (i : Nat) {x : Str} (hN : X.N[i]? = some x := by rfl) (hv : Vis X.env.scope x := by first | exact Or.inl rfl | exact Or.inr (Or.inl rfl) | exact Or.inr (Or.inr rfl)) (hd : (x == ("__debug__" : Str)) = false := by decide)
    (hcd : (x == ("__classdict__" : Str)) = false := by decide) : DE X ev W .strict (.Name x pos) (eV i) := by
  refine ⟨_, pe_var hN hv hd hcd, fun sA H0 σ H I ls env Q w r po => ?_⟩
  show ∃ v, _
  revert po
  show PostE _ _ _ _ _ _ _ _ (eV i env ls) _ → _
  unfold eV
  cases e : env[i]? with
  | none => exact fun po => po.elim
  | some o =>
    cases o with
    | none => exact fun po => po.elim
    | some x =>
      cases x with
      | val d => exact fun po => let ⟨v, h1, h2⟩ := r.val i d e; ⟨v, h1, po H I .refl w v h2⟩
      | _ => exact fun po => po.elim
theorem de_own (i : Nat) {x : Str} (hN : X.N[i]? = some x := by rfl) (hv : Vis X.env.scope x := by first | exact Or.inl rfl | exact Or.inr (Or.inl rfl) | exact Or.inr (Or.inr rfl)) (hd : (x == ("__debug__" : Str)) = false := by decide)
    (hcd : (x == ("__classdict__" : Str)) = false := by decide) : DE X ev W .oper (.Name x pos) (eO i) := by
  refine ⟨_, pe_var hN hv hd hcd, fun sA H0 σ H I ls env Q w r po => ?_⟩
  show ∃ v, _
  revert po
  show PostE _ _ _ _ _ _ _ _ (eO i env ls) _ → _
  unfold eO
  cases e : env[i]? with
  | none => exact fun po => po.elim
  | some o =>
    cases o with
    | none => exact fun po => po.elim
    | some x =>
      cases x with
      | val d => exact fun po => let ⟨v, h1, h2⟩ := r.val i d e; ⟨v, h1, po H I .refl w v (.inl h2)⟩
      | own d => exact fun po => let ⟨a, h1, h2, _, h4, h5⟩ := r.own i d e; ⟨_, h1, po H I .refl w _ (.inr ⟨a, rfl, h2, h4, h5⟩)⟩
      | _ => exact fun po => po.elim
theorem de_int {i j} : DE X ev W .strict (.Constant (.int i) j pos) (eC (.int i)) := ⟨_, pe_int, fun sA H0 σ H I ls env Q w r po => po H I .refl w _ (.int i)⟩
theorem de_bl {i j} : DE X ev W .strict (.Constant (.bool i) j pos) (eC (.bool i)) := ⟨_, pe_bl, fun sA H0 σ H I ls env Q w r po => po H I .refl w _ (.bl i)⟩
theorem de_str {i j} : DE X ev W .strict (.Constant (.str i) j pos) (eC (.str i)) := ⟨_, pe_str, fun sA H0 σ H I ls env Q w r po => po H I .refl w _ (.str i)⟩
theorem de_non {j} : DE X ev W .strict (.Constant .none j pos) (eC .none) := ⟨_, pe_non, fun sA H0 σ H I ls env Q w r po => po H I .refl w _ .non⟩
/-- a module's constant -/
theorem de_glob {x : Str} {v : V} {u : Value} {d : D} (hm : X.mg x = some u) (r : RelV v u) (rp : ∀ I, Rep X.K I v d) (hg : Gl X x := by rfl) (hd : (x == ("__debug__" : Str)) = false := by decide) : DE X ev W .strict (.Name x pos) (eC d) :=
  ⟨_, pe_glob hg hm r hd, fun sA H0 σ H I ls env Q w _ po => po H I .refl w _ (rp I)⟩

/-! ### operators by values -/
def Meets2 (K : Fg) (md : Md) (r : R2) (g : D → D → Option D) : Prop :=
  ∀ sA H I ls x y a b d Q, World K sA H I ls → RepO K sA H I x a → RepO K sA H I y b → g a b = some d →
    (∀ v H' I', Grow sA H I H' I' → World K sA H' I' ls → RepM K sA H md H' I' v d → Q v H') → r x y H Q
def Meets1 (K : Fg) (md : Md) (r : V → Hp → VK → Prop) (g : D → Option D) : Prop :=
  ∀ sA H I ls x a d Q, World K sA H I ls → RepO K sA H I x a → g a = some d →
    (∀ v H' I', Grow sA H I H' I' → World K sA H' I' ls → RepM K sA H md H' I' v d → Q v H') → r x H Q
def MeetsL (K : Fg) (md : Md) (r : List V → Hp → VK → Prop) (g : List D → Option D) : Prop :=
  ∀ sA H I ls xs ds d Q, World K sA H I ls → RepsO K sA H I xs ds → g ds = some d →
    (∀ v H' I', Grow sA H I H' I' → World K sA H' I' ls → RepM K sA H md H' I' v d → Q v H') → r xs H Q
theorem RepM.back {K : Fg} {sA : Option Addr} {H H1 H' I I1 I' : Hp} {v : V} {d : D} (g : Grow sA H I H1 I1) (h : RepM K sA H1 md H' I' v d) : RepM K sA H md H' I' v d := by
  cases md with
  | strict => exact h
  | oper => exact h
  | fresh =>
    obtain ⟨a, h1, h2, h3, h4⟩ := h
    refine ⟨a, h1, h2, ?_, h4⟩
    cases e : H a with
    | none => rfl
    | some o => exact absurd h3 (g.dom a (by rw [e]; simp))
def e1 (g : D → Option D) (fa : DEnv → M D) : DEnv → M D := fun env => fa env >>= fun x => lift (g x)
def e2 (g : D → D → Option D) (fa fb : DEnv → M D) : DEnv → M D := fun env => fa env >>= fun x => fb env >>= fun y => lift (g x y)
/-- the last step: what an operation leaves -/
theorem lift_post {K : Fg} {sA : Option Addr} {σ : L2.St} {H I H1 I1 : Hp} {ls : LS} {Q : VK} {o : Option D} (g : Grow sA H I H1 I1) (po : PostE K ev W sA σ H I md ((lift o : M D) ls) Q) :
    ∃ d, o = some d ∧ ∀ v H' I', Grow sA H1 I1 H' I' → World K sA H' I' ls → RepM K sA H1 md H' I' v d → Q v H' := by
  cases o with
  | none => exact po.elim
  | some d => exact ⟨d, rfl, fun v H' I' g' w r => po H' I' (g.trans g') w v (r.back g)⟩
theorem sat_un {K : Fg} {ta : TE} {r : V → Hp → VK → Prop} {g : D → Option D} (ho : Meets1 K md r g) (ha : Sat K ev W .oper ta fa) : Sat K ev W md (tUn r ta) (e1 g fa) := fun sA H0 σ H I ls env Q w rl po =>
  ha.run w rl po fun x d ls1 H1 I1 g1 w1 r1 rp1 po1 => by
    obtain ⟨d', e, q⟩ := lift_post g1 po1
    exact ho sA H1 I1 ls1 x d d' Q w1 rp1 e q
theorem sat_bin {K : Fg} {ta tb : TE} {r : R2} {g : D → D → Option D} (ho : Meets2 K md r g) (ha : Sat K ev W .oper ta fa) (hb : Sat K ev W .oper tb fb) : Sat K ev W md (tOp r ta tb) (e2 g fa fb) := fun sA H0 σ H I ls env Q w rl po =>
  ha.run w rl po fun x d ls1 H1 I1 g1 w1 r1 rp1 po1 => hb.run w1 r1 (po1.grow g1) fun y d' ls2 H2 I2 g2 w2 r2 rp2 po2 => by
    have q0 : PostE K ev W sA σ H1 I1 md (lift (g d d') ls2) Q := po2.mono fun a ls' H' I' _ g' w' po v rp => po v (RepM.back g1 rp)
    obtain ⟨d', e, q⟩ := lift_post g2 q0
    exact ho sA H2 I2 ls2 x y d _ d' Q w2 (rp1.grow g2) rp2 e q
def OpS (X : Cx) (md : Md) (f : Value → Value → Sem Value) (g : D → D → Option D) : Prop := ∃ r, OpR X f r ∧ Meets2 X.K md r g
theorem de_bin {op : Operator} {g : D → D → Option D} (ho : OpS X md (binaryOp op) g) (ha : DE X ev W .oper a fa) (hb : DE X ev W .oper b fb) : DE X ev W md (.BinOp a op b pos) (e2 g fa fb) :=
  let ⟨_, hr, ho⟩ := ho; let ⟨_, pa, qa⟩ := ha; let ⟨_, pb, qb⟩ := hb; ⟨_, pe_op hr pa pb, sat_bin ho qa qb⟩
theorem de_cmp {op : CmpOp} {g : D → D → Option D} (ho : OpS X md (compareOp op) g) (ha : DE X ev W .oper a fa) (hb : DE X ev W .oper b fb) (hm : behindInMarks op b = false := by first | exact nomark _ | with_unfolding_all rfl) : DE X ev W md (.Compare a [op] [b] pos) (e2 g fa fb) :=
  let ⟨_, hr, ho⟩ := ho; let ⟨_, pa, qa⟩ := ha; let ⟨_, pb, qb⟩ := hb; ⟨_, pe_cmpR hr pa pb hm, sat_bin ho qa qb⟩
def IxS (X : Cx) (md : Md) (g : D → D → Option D) : Prop := ∃ r, IxR X r ∧ Meets2 X.K md r g
theorem de_ix {g : D → D → Option D} (ho : IxS X md g) (ha : DE X ev W .oper a fa) (hb : DE X ev W .oper b fb) (hs : PlainIx b := by exact fun _ _ => rfl) : DE X ev W md (.Subscript a b pos) (e2 g fa fb) :=
  let ⟨_, hr, ho⟩ := ho; let ⟨_, pa, qa⟩ := ha; let ⟨_, pb, qb⟩ := hb; ⟨_, pe_ix hr pa pb hs, sat_bin ho qa qb⟩
def UnS (X : Cx) (md : Md) (f : Value → Sem Value) (g : D → Option D) : Prop := ∃ r, UnR X f r ∧ Meets1 X.K md r g
theorem de_un {op : UnaryOp} {g : D → Option D} (ho : UnS X md (unaryOp op) g) (ha : DE X ev W .oper a fa) : DE X ev W md (.UnaryOp op a pos) (e1 g fa) :=
  let ⟨_, hr, ho⟩ := ho; let ⟨_, pa, qa⟩ := ha; ⟨_, pe_un hr pa, sat_un ho qa⟩

/-! ### argument lists -/
def SatA (K : Fg) (ev : Ex → Value) (W : WX) (t : TA) (f : DEnv → M (List D)) : Prop :=
  ∀ sA H0 σ H I ls env Q, World K sA H I ls → RelE K sA H0 σ H I env → Post K ev W sA σ H I (f env ls) (fun ds _ H' I' => ∀ vs, Reps K I' vs ds → Q vs H') → t σ H Q
def SatO (K : Fg) (ev : Ex → Value) (W : WX) (t : TA) (f : DEnv → M (List D)) : Prop :=
  ∀ sA H0 σ H I ls env Q, World K sA H I ls → RelE K sA H0 σ H I env → Post K ev W sA σ H I (f env ls) (fun ds _ H' I' => ∀ vs, RepsO K sA H' I' vs ds → Q vs H') → t σ H Q
def DA (X : Cx) (ev : Ex → Value) (W : WX) (es : List Expr) (f : DEnv → M (List D)) : Prop := ∃ t, PA X es t ∧ SatA X.K ev W t f
def DO (X : Cx) (ev : Ex → Value) (W : WX) (es : List Expr) (f : DEnv → M (List D)) : Prop := ∃ t, PA X es t ∧ SatO X.K ev W t f
def aNil : DEnv → M (List D) := fun _ => pure []
def aCons (fa : DEnv → M D) (fr : DEnv → M (List D)) : DEnv → M (List D) := fun env => fa env >>= fun d => fr env >>= fun ds => pure (d :: ds)
variable {es : List Expr} {fr : DEnv → M (List D)}
theorem da_nil : DA X ev W [] aNil := ⟨_, pa_nil, fun sA H0 σ H I ls env Q w r po => po H I .refl w [] .nil⟩
theorem do_nil : DO X ev W [] aNil := ⟨_, pa_nil, fun sA H0 σ H I ls env Q w r po => po H I .refl w [] .nil⟩
theorem da_cons (ha : DE X ev W .strict a fa) (hr : DA X ev W es fr) (hs : starEach (a :: es) X.env = (false, eval a X.env) :: starEach es X.env := by rfl) : DA X ev W (a :: es) (aCons fa fr) := by
  obtain ⟨_, pa, qa⟩ := ha
  obtain ⟨_, pr, qr⟩ := hr
  refine ⟨_, pa_cons pa pr hs, fun sA H0 σ H I ls env Q w r po => qa.run w r po fun v d ls1 H1 I1 g1 w1 r1 rp1 po1 => ?_⟩
  refine qr sA H0 σ H1 I1 ls1 env _ w1 r1 ((po1.grow g1).bind.mono fun ds ls2 H2 I2 _ g2 w2 p vs rs => ?_)
  exact p H2 I2 g2 w2 (v :: vs) (.cons (rp1.mono g2.inc) rs)
theorem do_cons (ha : DE X ev W .oper a fa) (hr : DO X ev W es fr) (hs : starEach (a :: es) X.env = (false, eval a X.env) :: starEach es X.env := by rfl) : DO X ev W (a :: es) (aCons fa fr) := by
  obtain ⟨_, pa, qa⟩ := ha
  obtain ⟨_, pr, qr⟩ := hr
  refine ⟨_, pa_cons pa pr hs, fun sA H0 σ H I ls env Q w r po => qa.run w r po fun v d ls1 H1 I1 g1 w1 r1 rp1 po1 => ?_⟩
  refine qr sA H0 σ H1 I1 ls1 env _ w1 r1 ((po1.grow g1).bind.mono fun ds ls2 H2 I2 _ g2 w2 p vs rs => ?_)
  exact p H2 I2 g2 w2 (v :: vs) (.cons (rp1.grow g2) rs)
/-- a tuple; a list (new) -/
def lim {α : Type} (ds : List α) : Bool := decide (ds.length ≤ 16777216)
def eTup (fr : DEnv → M (List D)) : DEnv → M D := fun env => fr env >>= fun ds => if lim ds = true then pure (.tuple ds) else stuck
def eLst (fr : DEnv → M (List D)) : DEnv → M D := fun env => fr env >>= fun ds => if lim ds = true then pure (.list ds) else stuck
theorem lim_of {α : Type} {ds : List α} (h : lim ds = true) : ds.length ≤ sizeLine := by rw [sizeLine_eq]; exact of_decide_eq_true h
theorem de_tup {x1} (h : DA X ev W es fr) : DE X ev W .strict (.Tuple es x1 pos) (eTup fr) := by
  obtain ⟨_, pr, qr⟩ := h
  refine ⟨_, pe_tup pr, fun sA H0 σ H I ls env Q w r po => ?_⟩
  refine qr sA H0 σ H I ls env _ w r (po.bind.mono fun ds ls2 H2 I2 _ g2 w2 p vs rs => ?_)
  by_cases hl : lim ds = true
  · rw [if_pos hl] at p
    refine ⟨by rw [rs.length]; exact lim_of hl, fun q hq => ?_⟩
    exact p (upd H2 q (.tup vs)) (upd I2 q (.tup vs)) (g2.trans (.laid w2 hq)) (w2.laid hq) _ (.tup (.inl (.inl upd_same)) (rs.mono (same_upd (w2.free hq))))
  · rw [if_neg hl] at p; exact p.elim
theorem de_lst (h : DA X ev W es fr) : DE X ev W .fresh (.List es pos) (eLst fr) := by
  obtain ⟨_, pr, qr⟩ := h
  refine ⟨_, pe_lst pr, fun sA H0 σ H I ls env Q w r po => ?_⟩
  refine qr sA H0 σ H I ls env _ w r (po.bind.mono fun ds ls2 H2 I2 _ g2 w2 p vs rs => ?_)
  by_cases hl : lim ds = true
  · rw [if_pos hl] at p
    refine ⟨by rw [rs.length]; exact lim_of hl, fun q hq => ?_⟩
    refine p (upd H2 q (.lst vs)) I2 (g2.trans (.laidM hq)) (w2.laidM hq) _ ⟨q, rfl, ⟨vs, upd_same, rs⟩, ?_, w2.free hq, fun z => ?_⟩
    · cases e : H q with
      | none => rfl
      | some o => exact absurd hq (g2.dom q (by rw [e]; simp))
    · obtain ⟨_, _, c, h3, _⟩ := w2.st q z
      rw [h3] at hq; cases hq
  · rw [if_neg hl] at p; exact p.elim

/-! ### calls of built-ins, methods -/
def eCall (g : List D → Option D) (fr : DEnv → M (List D)) : DEnv → M D := fun env => fr env >>= fun ds => lift (g ds)
theorem sat_call {K : Fg} {t : TA} {r : List V → Hp → VK → Prop} {g : List D → Option D} (ho : MeetsL K md r g) (ha : SatO K ev W t fr) : Sat K ev W md (tCB r t) (eCall g fr) := fun sA H0 σ H I ls env Q w rl po =>
  ha sA H0 σ H I ls env _ w rl (po.bind.mono fun ds ls1 H1 I1 _ g1 w1 p vs rs => by
    obtain ⟨d', e, q⟩ := lift_post g1 p
    exact ho sA H1 I1 ls1 vs ds d' Q w1 rs e q)
def CallS (X : Cx) (md : Md) (f : Value) (g : List D → Option D) : Prop := ∃ r, CallR X f r ∧ MeetsL X.K md r g
theorem de_callB {id : String} {x : Str} {p : Pos} {g : List D → Option D} (hc : CallS X md (.builtin id) g) (hm : X.mg x = none) (hv : bootBuiltins x = some (.builtin id)) (ha : DO X ev W (e :: es) fr) (hg : Gl X x := by rfl) (hn : x ≠ "__name__" := by decide) (hdb : (x == ("__debug__" : Str)) = false := by decide)
    (he : starEach (e :: es) X.env = (false, eval e X.env) :: starEach es X.env := by rfl) (hpl : (backTo pos (starEach es X.env)).any (·.1) = false := by rfl) : DE X ev W md (.Call (.Name x p) (e :: es) [] pos) (eCall g fr) :=
  let ⟨_, hr, ho⟩ := hc; let ⟨_, pa, qa⟩ := ha; ⟨_, pe_callB hr hg hm hv pa hn hdb he hpl, sat_call ho qa⟩
theorem de_callT {id : String} {x : Str} {p : Pos} {g : List D → Option D} (hc : CallS X md (.type id) g) (hm : X.mg x = none) (hv : bootBuiltins x = some (.type id)) (ha : DO X ev W (e :: es) fr) (hg : Gl X x := by rfl) (hn : x ≠ "__name__" := by decide) (hdb : (x == ("__debug__" : Str)) = false := by decide)
    (he : starEach (e :: es) X.env = (false, eval e X.env) :: starEach es X.env := by rfl) (hpl : (backTo pos (starEach es X.env)).any (·.1) = false := by rfl) : DE X ev W md (.Call (.Name x p) (e :: es) [] pos) (eCall g fr) :=
  let ⟨_, hr, ho⟩ := hc; let ⟨_, pa, qa⟩ := ha; ⟨_, pe_callTy hr hg hm hv pa hn hdb he hpl, sat_call ho qa⟩
/-- o.m(..), T's m -/
def MeetsM (K : Fg) (md : Md) (T : String) (r : V → List V → Hp → VK → Prop) (g : D → List D → Option D) : Prop :=
  (∀ sA H I ls x a ds d, World K sA H I ls → RepO K sA H I x a → g a ds = some d → tyV K T x H) ∧
  ∀ sA H I ls x xs a ds d Q, World K sA H I ls → RepO K sA H I x a → RepsO K sA H I xs ds → g a ds = some d →
    (∀ v H' I', Grow sA H I H' I' → World K sA H' I' ls → RepM K sA H md H' I' v d → Q v H') → r x xs H Q
/-- g's first look: what it takes as a receiver -/
def eMt (isT : D → Bool) (g : D → List D → Option D) (fo : DEnv → M D) (fr : DEnv → M (List D)) : DEnv → M D := fun env => fo env >>= fun o => if isT o = true then fr env >>= fun ds => lift (g o ds) else stuck
def MtS (X : Cx) (md : Md) (T id : String) (isT : D → Bool) (g : D → List D → Option D) : Prop := ∃ r, MtR X id r ∧
  (∀ sA H I ls x a, World X.K sA H I ls → RepO X.K sA H I x a → isT a = true → tyV X.K T x H) ∧
  ∀ sA H I ls x xs a ds d Q, World X.K sA H I ls → RepO X.K sA H I x a → RepsO X.K sA H I xs ds → g a ds = some d →
    (∀ v H' I', Grow sA H I H' I' → World X.K sA H' I' ls → RepM X.K sA H md H' I' v d → Q v H') → r x xs H Q
variable {o : Expr} {name : Str} {apos cpos : Pos} {T id : String} {isT : D → Bool} {g : D → List D → Option D} {fo : DEnv → M D}
theorem de_mt (pa : PlainAttrs T) (slot : Slot T name id) (hty : typeOf (.builtin id) = pure (.type "method_descriptor")) (hm : MtS X md T id isT g) (ho : DE X ev W .oper o fo) (ha : DO X ev W (e :: es) fr)
    (hbase : attributeBase o name X.env (eval o X.env) = eval o X.env := by rfl)
    (hfew : ((backTo cpos (starEach (e :: es) X.env)).all (fun x => !x.1) && (backToKw cpos (keywordEach [] X.env)).all (fun x => x.1.isSome)
      && decide ((e :: es).length + ([] : List Keyword).length + (if ([] : List Keyword).isEmpty then 0 else 1) < 30)) = true := by rfl)
    (hline : (apos.endLine == cpos.line) = true := by rfl) (hs : starEach (e :: es) X.env = (false, eval e X.env) :: starEach es X.env := by rfl) (hplain : (backTo cpos (starEach es X.env)).any (·.1) = false := by rfl) :
    DE X ev W md (.Call (.Attribute o name apos) (e :: es) [] cpos) (eMt isT g fo fr) := by
  obtain ⟨r, hr, hT, hM⟩ := hm
  obtain ⟨_, po, qo⟩ := ho
  obtain ⟨_, pa', qa⟩ := ha
  refine ⟨_, pe_bm pa slot hty hr po pa' hbase hfew hline hs hplain, fun sA H0 σ H I ls env Q w rl p => qo.run w rl p fun x d ls1 H1 I1 g1 w1 r1 rp1 p1 => ?_⟩
  by_cases hi : isT d = true
  · rw [if_pos hi] at p1
    refine ⟨hT sA H1 I1 ls1 x d w1 rp1 hi, ?_⟩
    refine qa sA H0 σ H1 I1 ls1 env _ w1 r1 ((p1.grow g1).bind.mono fun ds ls2 H2 I2 _ g2 w2 p vs rs => ?_)
    have q0 : PostE X.K ev W sA σ H1 I1 md (lift (g d ds) ls2) Q := p.mono fun a ls' H' I' _ g' w' po v rp => po v (RepM.back g1 rp)
    obtain ⟨d', e, q⟩ := lift_post g2 q0
    exact hM sA H2 I2 ls2 x vs d ds d' Q w2 (rp1.grow g2) rs e q
  · rw [if_neg hi] at p1; exact p1.elim
end
end DL

/-! DL, part 2: the operations. -/
namespace DL
open PySem PySem.Spec PyProof.Rows L2

/-! ### int, str, tuple, list operators -/
def okLen (n : Nat) : Bool := decide (n ≤ 16777216)
def addD : D → D → Option D
  | .int i, .int j => some (.int (i + j))
  | .str x, .str y => if okLen (x.length + y.length) = true then some (.str (x ++ y)) else none
  | .tuple xs, .tuple ys => if okLen (xs.length + ys.length) = true then some (.tuple (xs ++ ys)) else none
  | .list xs, .list ys => if okLen (xs.length + ys.length) = true then some (.list (xs ++ ys)) else none
  | _, _ => none
def catD : D → D → Option D
  | .list xs, .list ys => if okLen (xs.length + ys.length) = true then some (.list (xs ++ ys)) else none
  | _, _ => none
def subD : D → D → Option D
  | .int i, .int j => some (.int (i - j))
  | _, _ => none
@[irreducible] def small64 (i : Int) : Bool := decide (-(2 ^ 64) < i) && decide (i < 2 ^ 64)
def strMul (x : Str) (n : Int) : Str := ⟨(List.replicate n.toNat x.cps.toList).flatten.toArray⟩
def mulD : D → D → Option D
  | .int i, .int j => if (small64 i || small64 j) = true then some (.int (i * j)) else none
  | .str x, .int n => if (decide (-1000000 ≤ n) && decide (n ≤ 1000000) && decide (x.length * n.toNat ≤ 1000000)) = true then some (.str (strMul x n)) else none
  | _, _ => none
def modD : D → D → Option D
  | .int i, .int j => if j = 0 then none else some (.int (i.fmod j))
  | _, _ => none
def fdivD : D → D → Option D
  | .int i, .int j => if (decide (j ≠ 0) && decide (j.natAbs < 1073741824)) = true then some (.int (i.fdiv j)) else none
  | _, _ => none
def powD : D → D → Option D
  | .int i, .int j => if (decide (0 ≤ j) && decide (j ≤ 1000000) && decide (i.natAbs < 2 ^ 64)) = true then some (.int (i ^ j.toNat)) else none
  | _, _ => none
def negD : D → Option D
  | .int i => some (.int (-i))
  | _ => none
theorem okLen_of {n : Nat} (h : okLen n = true) : n ≤ sizeLine := by rw [sizeLine_eq]; exact of_decide_eq_true h
section
variable {X : Cx}
theorem strMul_eq (x : Str) (n : Nat) : (⟨(List.replicate n x.cps).foldl (· ++ ·) #[]⟩ : Str) = ⟨(List.replicate n x.cps.toList).flatten.toArray⟩ := by
  have h : ∀ (n : Nat) (acc : Array Nat), (List.replicate n x.cps).foldl (· ++ ·) acc = acc ++ (List.replicate n x.cps.toList).flatten.toArray := by
    intro n
    induction n with
    | zero => intro acc; simp
    | succ n ih => intro acc; rw [List.replicate_succ, List.foldl_cons, ih, List.replicate_succ, List.flatten_cons]; apply Array.ext'; simp
  rw [h]; simp
theorem op_mul_str : OpR X (binaryOp .Mult) (fun x y H Q => ∃ (z : Str) (n : Int), x = .str z ∧ y = .int n ∧ -1000000 ≤ n ∧ n ≤ 1000000 ∧ z.length * n.toNat ≤ 1000000 ∧ Q (.str (strMul z n)) H) := by
  intro pins s σ H x y v u Q I rx ry h
  obtain ⟨z, n, rfl, rfl, h1, h2, h3, q⟩ := h
  obtain ⟨t, rfl⟩ := rx
  obtain ⟨t', rfl⟩ := ry
  have e : Txt.mul z n = strMul z n := by
    unfold Txt.mul strMul
    by_cases h4 : n < 1
    · rw [if_pos h4, show n.toNat = 0 by omega]; rfl
    · rw [if_neg h4]
      by_cases h5 : (n == 1 || z.length == 0) = true
      · rw [if_pos h5]
        rw [Bool.or_eq_true, beq_iff_eq, beq_iff_eq] at h5
        rcases h5 with h5 | h5
        · subst h5
          show z = ⟨(List.replicate 1 z.cps.toList).flatten.toArray⟩
          simp
        · have hz : z.cps = #[] := by
            apply Array.eq_empty_of_size_eq_zero; exact h5
          have : ∀ k, (List.replicate k ([] : List Nat)).flatten = [] := fun k => by simp
          rw [hz]
          show z = ⟨(List.replicate n.toNat ([] : List Nat)).flatten.toArray⟩
          rw [this]
          cases z; cases hz; rfl
      · rw [if_neg h5, strMul_eq]
  have q' : ∀ t' k, EP X pins σ Q (.str (Txt.mul z n) t') { s with toks := k } := fun t' k => by rw [e]; exact ⟨.str (strMul z n), H, I.tok _, ⟨_, rfl⟩, q⟩
  refine SB.mul ⟨?_, fun h4 h5 h6 => ?_, fun h4 _ => ?_⟩ q'
  · rw [decide_eq_false (by omega), decide_eq_false (by omega)]; rfl
  · have h7 : z.length ≤ 1000000 := Nat.le_trans (by
      have : z.length * 1 ≤ z.length * n.toNat := Nat.mul_le_mul_left _ (by omega)
      omega) h3
    have : (1000000 : Int) ≤ (2 ^ 63 - 1) / n := (Int.le_ediv_iff_mul_le (by omega)).mpr (by omega)
    omega
  · have : ¬ (z.length * n.toNat > 16777216) := by omega
    show decide (z.length * n.toNat > sizeLine) = false
    rw [sizeLine_eq]
    exact decide_eq_false this
theorem os_add : OpS X .strict (binaryOp .Add) addD := by
  refine ⟨_, (op_add.or (op_add_str.or (op_catA.or op_cat))), fun sA H I ls x y a b d Q w ra rb e q => ?_⟩
  cases a with
  | int i =>
    cases b with
    | int j => cases e; exact .inl ⟨i, j, ra.int, rb.int, q _ H I .refl w (.int _)⟩
    | _ => cases e
  | str i =>
    cases b with
    | str j =>
      simp only [addD] at e
      split at e
      · rename_i hl
        cases e
        exact .inr (.inl ⟨i, j, ra.str, rb.str, okLen_of hl, q _ H I .refl w (.str _)⟩)
      · cases e
    | _ => cases e
  | tuple i =>
    cases b with
    | tuple j =>
      simp only [addD] at e
      split at e
      · rename_i hl
        cases e
        obtain ⟨p, xs, rfl, h1, h1', h2⟩ := ra.tup w
        obtain ⟨p', ys, rfl, h3, h3', h4⟩ := rb.tup w
        refine .inr (.inr (.inl ⟨p, p', xs, ys, rfl, rfl, h1, h3, by rw [h2.length, h4.length]; exact okLen_of hl, fun e => ?_, fun _ e => ?_, fun _ _ r hr => ?_⟩))
        · subst e; cases h2; exact q _ H I .refl w (.tup h3' h4)
        · subst e; cases h4; rw [List.append_nil] at q; exact q _ H I .refl w (.tup h1' h2)
        · exact q _ _ (upd I r (.tup (xs ++ ys))) (.laid w hr) (w.laid hr) (.tup (.inl (.inl upd_same)) ((h2.append h4).mono (same_upd (w.free hr))))
      · cases e
    | _ => cases e
  | list i =>
    cases b with
    | list j =>
      simp only [addD] at e
      split at e
      · rename_i hl
        cases e
        obtain ⟨p, xs, rfl, h1, h2⟩ := ra.list w
        obtain ⟨p', ys, rfl, h3, h4⟩ := rb.list w
        exact .inr (.inr (.inr ⟨p, p', xs, ys, rfl, rfl, h1, h3, by rw [h2.length, h4.length]; exact okLen_of hl, fun r hr =>
          q _ _ (upd I r (.lst (xs ++ ys))) (.laid w hr) (w.laid hr) (.lst upd_same ((h2.append h4).mono (same_upd (w.free hr))))⟩))
      · cases e
    | _ => cases e
  | _ => cases e
/-- a new list that may be changed -/
theorem fresh_at {K : Fg} {sA : Option Addr} {H I : Hp} {ls : LS} {p : Addr} {xs : List V} {ds : List D} (w : World K sA H I ls) (hp : H p = none) (r : Reps K I xs ds) : RepM K sA H .fresh (upd H p (.lst xs)) I (.ref p) (.list ds) :=
  ⟨p, rfl, ⟨xs, upd_same, r⟩, hp, w.free hp, fun z => by obtain ⟨_, _, c, h3, _⟩ := w.st p z; rw [h3] at hp; cases hp⟩
theorem os_cat : OpS X .fresh (binaryOp .Add) catD := by
  refine ⟨_, op_cat, fun sA H I ls x y a b d Q w ra rb e q => ?_⟩
  cases a with
  | list i =>
    cases b with
    | list j =>
      simp only [catD] at e
      split at e
      · rename_i hl
        cases e
        obtain ⟨p, xs, rfl, h1, h2⟩ := ra.list w
        obtain ⟨p', ys, rfl, h3, h4⟩ := rb.list w
        exact ⟨p, p', xs, ys, rfl, rfl, h1, h3, by rw [h2.length, h4.length]; exact okLen_of hl, fun r hr => q _ _ I (.laidM hr) (w.laidM hr) (fresh_at w hr (h2.append h4))⟩
      · cases e
    | _ => cases e
  | _ => cases e
theorem os_sub : OpS X .strict (binaryOp .Sub) subD := by
  refine ⟨_, op_sub, fun sA H I ls x y a b d Q w ra rb e q => ?_⟩
  cases a <;> cases b <;> first | (cases e; exact ⟨_, _, ra.int, rb.int, q _ H I .refl w (.int _)⟩) | (cases e)
theorem os_mul : OpS X .strict (binaryOp .Mult) mulD := by
  refine ⟨_, op_mul.or op_mul_str, fun sA H I ls x y a b d Q w ra rb e q => ?_⟩
  cases a with
  | int i =>
    cases b with
    | int j =>
      simp only [mulD] at e
      split at e
      · rename_i hl
        cases e
        refine .inl ⟨_, _, ra.int, rb.int, ?_, q _ H I .refl w (.int _)⟩
        simp only [Bool.or_eq_true, small64, Bool.and_eq_true, decide_eq_true_eq] at hl
        exact hl
      · cases e
    | _ => cases e
  | str i =>
    cases b with
    | int j =>
      simp only [mulD] at e
      split at e
      · rename_i hl
        cases e
        simp only [Bool.and_eq_true, decide_eq_true_eq] at hl
        exact .inr ⟨_, _, ra.str, rb.int, hl.1.1, hl.1.2, hl.2, q _ H I .refl w (.str _)⟩
      · cases e
    | _ => cases e
  | _ => cases e
theorem os_mod : OpS X .strict (binaryOp .Mod) modD := by
  refine ⟨_, op_modN, fun sA H I ls x y a b d Q w ra rb e q => ?_⟩
  cases a <;> cases b <;> first
    | (simp only [modD] at e; split at e <;> first | (cases e; exact ⟨_, _, ra.int, rb.int, by assumption, q _ H I .refl w (.int _)⟩) | (cases e))
    | (cases e)
theorem os_fdiv : OpS X .strict (binaryOp .FloorDiv) fdivD := by
  refine ⟨_, op_fdivN, fun sA H I ls x y a b d Q w ra rb e q => ?_⟩
  cases a <;> cases b <;> first
    | (simp only [fdivD] at e; split at e <;> first
        | (rename_i hl; cases e; simp only [Bool.and_eq_true, decide_eq_true_eq] at hl; exact ⟨_, _, ra.int, rb.int, hl, q _ H I .refl w (.int _)⟩)
        | (cases e))
    | (cases e)
theorem os_pow : OpS X .strict (binaryOp .Pow) powD := by
  refine ⟨_, op_pow, fun sA H I ls x y a b d Q w ra rb e q => ?_⟩
  cases a <;> cases b <;> first
    | (simp only [powD] at e; split at e <;> first
        | (rename_i hl; cases e; simp only [Bool.and_eq_true, decide_eq_true_eq] at hl; exact ⟨_, _, ra.int, rb.int, ⟨hl.1.1, hl.1.2, hl.2⟩, q _ H I .refl w (.int _)⟩)
        | (cases e))
    | (cases e)
theorem us_neg : UnS X .strict (unaryOp .USub) negD := by
  refine ⟨_, un_neg, fun sA H I ls x a d Q w ra e q => ?_⟩
  cases a <;> first | (cases e; exact ⟨_, ra.int, q _ H I .refl w (.int _)⟩) | (cases e)
end

/-! ### comparisons -/
def flatD : D → Bool
  | .none => true
  | .bool _ => true
  | .int _ => true
  | .str _ => true
  | _ => false
def okEq (a b : D) : Bool := (flatD a && flatD b) || (SeqAt.shaped a && SeqAt.shaped b)
def eqD (a b : D) : Option D := if okEq a b = true then some (.bool (PyData.eqv a b)) else none
def neD (a b : D) : Option D := if okEq a b = true then some (.bool (!PyData.eqv a b)) else none
def ltD : D → D → Option D
  | .int i, .int j => some (.bool (decide (i < j)))
  | .str i, .str j => some (.bool (decide (i.cps.toList < j.cps.toList)))
  | _, _ => none
def leD : D → D → Option D
  | .int i, .int j => some (.bool (decide (i ≤ j)))
  | _, _ => none
def gtD : D → D → Option D
  | .int i, .int j => some (.bool (decide (j < i)))
  | _, _ => none
def geD : D → D → Option D
  | .int i, .int j => some (.bool (decide (j ≤ i)))
  | _, _ => none
def isD : D → D → Option D
  | .none, .none => some (.bool true)
  | _, .none => some (.bool false)
  | .bool a, .bool b => some (.bool (decide (a = b)))
  | _, _ => none
def isNotD : D → D → Option D
  | .none, .none => some (.bool false)
  | _, .none => some (.bool true)
  | .bool a, .bool b => some (.bool (!decide (a = b)))
  | _, _ => none
section
variable {X : Cx}
theorem shaped_lay {d : D} (h : SeqAt.shaped d = true) : d.canLay0 = true := SeqAt.canLay_of_shaped h
theorem os_eq (hu : X.A.units + 64 < cLine) : OpS X .strict (compareOp .Eq) eqD := by
  refine ⟨_, op_eq.or (op_eqD hu), fun sA H I ls x y a b d Q w ra rb e q => ?_⟩
  unfold eqD at e
  split at e
  · rename_i hl
    cases e
    have q' := q _ H I .refl w (.bl (PyData.eqv a b))
    have deep : SeqAt.shaped a = true → SeqAt.shaped b = true → _ := fun h1 h2 => show rEq x y H Q ∨ rEqD X.K x y H Q from .inr ⟨a, b, ra.dp w (shaped_lay h1), rb.dp w (shaped_lay h2), h1, h2, q'⟩
    unfold okEq at hl
    rw [Bool.or_eq_true, Bool.and_eq_true, Bool.and_eq_true] at hl
    rcases hl with ⟨h1, h2⟩ | ⟨h1, h2⟩
    · cases a with
      | none =>
        cases b with
        | none => rw [ra.non, rb.non]; exact .inl ⟨rfl, by simpa [PyData.eqv] using q'⟩
        | bool _ => rw [ra.non, rb.bl]; exact .inl ⟨rfl, by simpa [PyData.eqv] using q'⟩
        | int _ => rw [ra.non, rb.int]; exact .inl ⟨rfl, by simpa [PyData.eqv] using q'⟩
        | str _ => rw [ra.non, rb.str]; exact .inl ⟨rfl, by simpa [PyData.eqv] using q'⟩
        | _ => cases h2
      | bool i =>
        cases b with
        | none => rw [ra.bl, rb.non]; exact .inl ⟨rfl, by simpa [PyData.eqv] using q'⟩
        | bool j => rw [ra.bl, rb.bl]; refine .inl ⟨rfl, ?_⟩; rw [dec_bl]; simpa [PyData.eqv] using q'
        | int _ => exact deep rfl rfl
        | str _ => rw [ra.bl, rb.str]; exact .inl ⟨rfl, by simpa [PyData.eqv] using q'⟩
        | _ => cases h2
      | int i =>
        cases b with
        | none => rw [ra.int, rb.non]; exact .inl ⟨rfl, by simpa [PyData.eqv] using q'⟩
        | bool j => exact deep rfl rfl
        | int j => rw [ra.int, rb.int]; refine .inl ⟨rfl, ?_⟩; rw [dec_int]; simpa [PyData.eqv] using q'
        | str _ => rw [ra.int, rb.str]; exact .inl ⟨rfl, by simpa [PyData.eqv] using q'⟩
        | _ => cases h2
      | str i =>
        cases b with
        | none => rw [ra.str, rb.non]; exact .inl ⟨rfl, by simpa [PyData.eqv] using q'⟩
        | bool j => rw [ra.str, rb.bl]; exact .inl ⟨rfl, by simpa [PyData.eqv] using q'⟩
        | int j => rw [ra.str, rb.int]; exact .inl ⟨rfl, by simpa [PyData.eqv] using q'⟩
        | str j => rw [ra.str, rb.str]; refine .inl ⟨rfl, ?_⟩; rw [dec_str]; simpa [PyData.eqv] using q'
        | _ => cases h2
      | _ => cases h1
    · exact deep h1 h2
  · cases e
theorem os_ne (hu : X.A.units + 64 < cLine) : OpS X .strict (compareOp .NotEq) neD := by
  refine ⟨_, op_ne.or (op_neD hu), fun sA H I ls x y a b d Q w ra rb e q => ?_⟩
  unfold neD at e
  split at e
  · rename_i hl
    cases e
    have q' := q _ H I .refl w (.bl (!PyData.eqv a b))
    have deep : SeqAt.shaped a = true → SeqAt.shaped b = true → _ := fun h1 h2 => show rNe x y H Q ∨ rNeD X.K x y H Q from .inr ⟨a, b, ra.dp w (shaped_lay h1), rb.dp w (shaped_lay h2), h1, h2, q'⟩
    unfold okEq at hl
    rw [Bool.or_eq_true, Bool.and_eq_true, Bool.and_eq_true] at hl
    rcases hl with ⟨h1, h2⟩ | ⟨h1, h2⟩
    · cases a with
      | none =>
        cases b with
        | none => rw [ra.non, rb.non]; exact .inl ⟨rfl, by simpa [PyData.eqv] using q'⟩
        | bool _ => rw [ra.non, rb.bl]; exact .inl ⟨rfl, by simpa [PyData.eqv] using q'⟩
        | int _ => rw [ra.non, rb.int]; exact .inl ⟨rfl, by simpa [PyData.eqv] using q'⟩
        | str _ => rw [ra.non, rb.str]; exact .inl ⟨rfl, by simpa [PyData.eqv] using q'⟩
        | _ => cases h2
      | bool i =>
        cases b with
        | none => rw [ra.bl, rb.non]; exact .inl ⟨rfl, by simpa [PyData.eqv] using q'⟩
        | bool j => rw [ra.bl, rb.bl]; refine .inl ⟨rfl, ?_⟩; rw [dec_bl]; simpa [PyData.eqv] using q'
        | int _ => exact deep rfl rfl
        | str _ => rw [ra.bl, rb.str]; exact .inl ⟨rfl, by simpa [PyData.eqv] using q'⟩
        | _ => cases h2
      | int i =>
        cases b with
        | none => rw [ra.int, rb.non]; exact .inl ⟨rfl, by simpa [PyData.eqv] using q'⟩
        | bool j => exact deep rfl rfl
        | int j => rw [ra.int, rb.int]; refine .inl ⟨rfl, ?_⟩; rw [dec_int]; simpa [PyData.eqv] using q'
        | str _ => rw [ra.int, rb.str]; exact .inl ⟨rfl, by simpa [PyData.eqv] using q'⟩
        | _ => cases h2
      | str i =>
        cases b with
        | none => rw [ra.str, rb.non]; exact .inl ⟨rfl, by simpa [PyData.eqv] using q'⟩
        | bool j => rw [ra.str, rb.bl]; exact .inl ⟨rfl, by simpa [PyData.eqv] using q'⟩
        | int j => rw [ra.str, rb.int]; exact .inl ⟨rfl, by simpa [PyData.eqv] using q'⟩
        | str j => rw [ra.str, rb.str]; refine .inl ⟨rfl, ?_⟩; rw [dec_str]; simpa [PyData.eqv] using q'
        | _ => cases h2
      | _ => cases h1
    · exact deep h1 h2
  · cases e
theorem os_lt : OpS X .strict (compareOp .Lt) ltD := by
  refine ⟨_, op_lt.or op_lt_str, fun sA H I ls x y a b d Q w ra rb e q => ?_⟩
  cases a <;> cases b <;> first
    | (cases e; exact .inl ⟨_, _, ra.int, rb.int, q _ H I .refl w (.bl _)⟩)
    | (cases e; exact .inr ⟨_, _, ra.str, rb.str, q _ H I .refl w (.bl _)⟩)
    | (cases e)
theorem os_le : OpS X .strict (compareOp .LtE) leD := by
  refine ⟨_, op_le, fun sA H I ls x y a b d Q w ra rb e q => ?_⟩
  cases a <;> cases b <;> first | (cases e; exact ⟨_, _, ra.int, rb.int, q _ H I .refl w (.bl _)⟩) | (cases e)
theorem os_gt : OpS X .strict (compareOp .Gt) gtD := by
  refine ⟨_, op_gt, fun sA H I ls x y a b d Q w ra rb e q => ?_⟩
  cases a <;> cases b <;> first | (cases e; exact ⟨_, _, ra.int, rb.int, q _ H I .refl w (.bl _)⟩) | (cases e)
theorem os_ge : OpS X .strict (compareOp .GtE) geD := by
  refine ⟨_, op_ge, fun sA H I ls x y a b d Q w ra rb e q => ?_⟩
  cases a <;> cases b <;> first | (cases e; exact ⟨_, _, ra.int, rb.int, q _ H I .refl w (.bl _)⟩) | (cases e)
def nonD : D → Bool
  | .none => true
  | _ => false
theorem nonV {K : Fg} {sA : Option Addr} {H I : Hp} {ls : LS} {v : V} {d : D} (w : World K sA H I ls) (h : RepO K sA H I v d) : decide (v = .non) = nonD d := by
  cases d with
  | none => rw [h.non]; rfl
  | bool b => rw [h.bl]; rfl
  | int b => rw [h.int]; rfl
  | str b => rw [h.str]; rfl
  | list b => obtain ⟨a, xs, e, _⟩ := h.list w; rw [e]; rfl
  | tuple b => obtain ⟨a, xs, e, _⟩ := h.tup w; rw [e]; rfl
  | dict b =>
    rcases h with h | ⟨a, e, _⟩
    · cases h; rfl
    · rw [e]; rfl
theorem os_is : OpS X .strict (compareOp .Is) isD := by
  refine ⟨_, op_isN.or op_isBl, fun sA H I ls x y a b d Q w ra rb e q => ?_⟩
  cases b with
  | none =>
    have h := nonV w ra
    refine .inl ⟨rb.non, ?_⟩
    rw [h]
    cases a <;> (cases e; exact q _ H I .refl w (.bl _))
  | bool j =>
    cases a with
    | bool i => cases e; exact .inr ⟨_, _, ra.bl, rb.bl, q _ H I .refl w (.bl _)⟩
    | _ => cases e
  | _ => cases a <;> cases e
theorem os_isNot : OpS X .strict (compareOp .IsNot) isNotD := by
  refine ⟨_, op_notN.or op_notBl, fun sA H I ls x y a b d Q w ra rb e q => ?_⟩
  cases b with
  | none =>
    have h := nonV w ra
    refine .inl ⟨rb.non, ?_⟩
    rw [h]
    cases a <;> (cases e; exact q _ H I .refl w (.bl _))
  | bool j =>
    cases a with
    | bool i => cases e; exact .inr ⟨_, _, ra.bl, rb.bl, q _ H I .refl w (.bl _)⟩
    | _ => cases e
  | _ => cases a <;> cases e
end
end DL

/-! DL, part 3: tests, subscripts, slices, built-ins. -/
namespace DL
open PySem PySem.Spec PyProof.Rows L2

/-! ### tests -/
def SatT (K : Fg) (ev : Ex → Value) (W : WX) (t : TT) (f : DEnv → M Bool) : Prop :=
  ∀ sA H0 σ H I ls env Q, World K sA H I ls → RelE K sA H0 σ H I env → Post K ev W sA σ H I (f env ls) (fun b _ H' _ => Q b H') → t σ H Q
def DT (X : Cx) (ev : Ex → Value) (W : WX) (e : Expr) (f : DEnv → M Bool) : Prop := ∃ t, PT X e t ∧ SatT X.K ev W t f
def DW (X : Cx) (ev : Ex → Value) (W : WX) (e : Expr) (f : DEnv → M Bool) : Prop := ∃ t, PW X e t ∧ SatT X.K ev W t f
def truD : D → Option Bool
  | .none => some false
  | .bool b => some b
  | .int i => some (i != 0)
  | .str x => if okLen x.length = true then some ((x.length : Int) != 0) else none
  | .list xs => some (!xs.isEmpty)
  | .tuple xs => some (!xs.isEmpty)
  | .dict _ => none
def boolD : D → Option Bool
  | .bool b => some b
  | _ => none
def tTru (f : DEnv → M D) : DEnv → M Bool := fun env => f env >>= fun d => lift (truD d)
def tVal (f : DEnv → M D) : DEnv → M Bool := fun env => f env >>= fun d => lift (boolD d)
def tAndB (f g : DEnv → M Bool) : DEnv → M Bool := fun env => f env >>= fun b => if b = true then g env else pure false
def tOrB (f g : DEnv → M Bool) : DEnv → M Bool := fun env => f env >>= fun b => if b = true then pure true else g env
def tNotB (f : DEnv → M Bool) : DEnv → M Bool := fun env => f env >>= fun b => pure (!b)
def eIf (c : DEnv → M Bool) (f g : DEnv → M D) : DEnv → M D := fun env => c env >>= fun b => if b = true then f env else g env
def eAnd (f g : DEnv → M D) : DEnv → M D := fun env => f env >>= fun d => lift (boolD d) >>= fun b => if b = true then g env else pure (.bool false)
def eOr (f g : DEnv → M D) : DEnv → M D := fun env => f env >>= fun d => lift (truD d) >>= fun b => if b = true then pure d else g env
def eNot (f : DEnv → M D) : DEnv → M D := fun env => f env >>= fun d => lift (boolD d) >>= fun b => pure (.bool !b)
section
variable {X : Cx} {ev : Ex → Value} {W : WX} {md : Md} {a b c e : Expr} {fa fb fc f : DEnv → M D} {fta ftb : DEnv → M Bool} {pos : Pos} {rest : List Expr}
theorem lenV {vs : List V} {K : Fg} {I : Hp} {ds : List D} (r : Reps K I vs ds) : (!vs.isEmpty) = (!ds.isEmpty) := by cases r <;> rfl
theorem truV {K : Fg} {sA : Option Addr} {H I : Hp} {ls : LS} {v : V} {d : D} {k : Bool} (w : World K sA H I ls) (r : RepO K sA H I v d) (e : truD d = some k) : TruV K v H k := by
  cases d with
  | none => cases e; rw [r.non]; rfl
  | bool b => cases e; rw [r.bl]; rfl
  | int b => cases e; rw [r.int]; rfl
  | str b =>
    simp only [truD] at e
    split at e
    · rename_i hl; cases e; rw [r.str]; exact ⟨okLen_of hl, rfl⟩
    · cases e
  | list b => cases e; obtain ⟨p, xs, rfl, h1, h2⟩ := r.list w; exact .inl ⟨xs, .inl (.inl h1), (lenV h2).symm⟩
  | tuple b => cases e; obtain ⟨p, xs, rfl, h1, _, h2⟩ := r.tup w; exact .inr (.inl ⟨xs, h1, (lenV h2).symm⟩)
  | dict b => cases e
theorem dt_tru (ha : DE X ev W .oper a fa) (he : ∀ whole, isTrue a X.env whole = (do let v ← whole; standAt a.pos; holding [v] (truthy v)) := by exact fun _ => rfl) : DT X ev W a (tTru fa) := by
  obtain ⟨_, pa, qa⟩ := ha
  refine ⟨_, pt_truth pa he, fun sA H0 σ H I ls env Q w r po => qa.run w r po fun v d ls1 H1 I1 g1 w1 r1 rp1 p1 => ?_⟩
  cases e : truD d with
  | none => rw [e] at p1; exact p1.elim
  | some k => rw [e] at p1; exact ⟨k, truV w1 rp1 e, p1 H1 I1 g1 w1⟩
theorem dt_cmp {op : CmpOp} {g : D → D → Option D} (ho : OpS X .oper (compareOp op) g) (ha : DE X ev W .oper a fa) (hb : DE X ev W .oper b fb) (hm : behindInMarks op b = false := by first | exact nomark _ | with_unfolding_all rfl) : DT X ev W (.Compare a [op] [b] pos) (tVal (e2 g fa fb)) := by
  obtain ⟨_, hr, ho⟩ := ho
  obtain ⟨_, pa, qa⟩ := ha
  obtain ⟨_, pb, qb⟩ := hb
  refine ⟨_, pt_cmpR hr pa pb hm, fun sA H0 σ H I ls env Q w r po => (sat_bin ho qa qb).run w r po fun v d ls1 H1 I1 g1 w1 r1 rp1 p1 => ?_⟩
  cases d with
  | bool k => exact ⟨k, RepO.bl (show RepO X.K sA H1 I1 v (.bool k) from rp1), p1 H1 I1 g1 w1⟩
  | _ => exact p1.elim
theorem OpS.op {f : Value → Value → Sem Value} {g : D → D → Option D} (h : OpS X .strict f g) : OpS X .oper f g := by
  obtain ⟨r, h1, h2⟩ := h
  exact ⟨r, h1, fun sA H I ls x y a b d Q w ra rb e q => h2 sA H I ls x y a b d Q w ra rb e fun v H' I' g w' rp => q v H' I' g w' (.inl rp)⟩
/-- a test of a bool -/
theorem dt_not (ha : DT X ev W a fta) : DT X ev W (.UnaryOp .Not a pos) (tNotB fta) := by
  obtain ⟨_, pa, qa⟩ := ha
  exact ⟨_, pt_not pa, fun sA H0 σ H I ls env Q w r po => qa sA H0 σ H I ls env _ w r (po.bind.mono fun b ls1 H1 I1 _ g1 w1 p => p H1 I1 g1 w1)⟩
theorem dw_and1 (ha : DT X ev W a fta) : DW X ev W (.BoolOp .And [a] pos) fta := let ⟨_, pa, qa⟩ := ha; ⟨_, pw_and1 pa, qa⟩
theorem dw_or1 (ha : DT X ev W a fta) : DW X ev W (.BoolOp .Or [a] pos) fta := let ⟨_, pa, qa⟩ := ha; ⟨_, pw_or1 pa, qa⟩
theorem dw_and (ha : DT X ev W a fta) (hb : DW X ev W (.BoolOp .And (b :: rest) pos) ftb) : DW X ev W (.BoolOp .And (a :: b :: rest) pos) (tAndB fta ftb) := by
  obtain ⟨_, pa, qa⟩ := ha
  obtain ⟨_, pb, qb⟩ := hb
  refine ⟨_, pw_and pa pb, fun sA H0 σ H I ls env Q w r po => qa sA H0 σ H I ls env _ w r (po.bind.mono fun k ls1 H1 I1 _ g1 w1 p => ?_)⟩
  cases k with
  | true => exact qb sA H0 σ H1 I1 ls1 env Q w1 (r.grow g1) (p.grow g1)
  | false => exact p H1 I1 g1 w1
theorem dw_or (ha : DT X ev W a fta) (hb : DW X ev W (.BoolOp .Or (b :: rest) pos) ftb) : DW X ev W (.BoolOp .Or (a :: b :: rest) pos) (tOrB fta ftb) := by
  obtain ⟨_, pa, qa⟩ := ha
  obtain ⟨_, pb, qb⟩ := hb
  refine ⟨_, pw_or pa pb, fun sA H0 σ H I ls env Q w r po => qa sA H0 σ H I ls env _ w r (po.bind.mono fun k ls1 H1 I1 _ g1 w1 p => ?_)⟩
  cases k with
  | false => exact qb sA H0 σ H1 I1 ls1 env Q w1 (r.grow g1) (p.grow g1)
  | true => exact p H1 I1 g1 w1
theorem dt_w (h : DW X ev W a fta) : DT X ev W a fta := let ⟨_, pa, qa⟩ := h; ⟨_, pa.pt, qa⟩
theorem de_if (hc : DT X ev W c fta) (ha : DE X ev W md a fa) (hb : DE X ev W md b fb) : DE X ev W md (.IfExp c a b pos) (eIf fta fa fb) := by
  obtain ⟨_, pc, qc⟩ := hc
  obtain ⟨_, pa, qa⟩ := ha
  obtain ⟨_, pb, qb⟩ := hb
  refine ⟨_, pe_ifExp pc pa pb, fun sA H0 σ H I ls env Q w r po => qc sA H0 σ H I ls env _ w r (po.bind.mono fun k ls1 H1 I1 _ g1 w1 p => ?_)⟩
  have back : ∀ {r : Res D}, PostE X.K ev W sA σ H I md r Q → PostE X.K ev W sA σ H1 I1 md r Q := fun {r} p => (p.grow g1).mono fun a ls' H' I' _ g' w' po v rp => po v (rp.back g1)
  cases k with
  | true => exact qa sA H0 σ H1 I1 ls1 env Q w1 (r.grow g1) (back p)
  | false => exact qb sA H0 σ H1 I1 ls1 env Q w1 (r.grow g1) (back p)
theorem de_one {op} (h : DE X ev W md a fa) : DE X ev W md (.BoolOp op [a] pos) fa := let ⟨_, pa, qa⟩ := h; ⟨_, pe_one pa, qa⟩
theorem de_and (ha : DE X ev W .strict a fa) (hb : DE X ev W .strict (.BoolOp .And (b :: rest) pos) fb) : DE X ev W .strict (.BoolOp .And (a :: b :: rest) pos) (eAnd fa fb) := by
  obtain ⟨_, pa, qa⟩ := ha
  obtain ⟨_, pb, qb⟩ := hb
  refine ⟨_, pe_and pa pb, fun sA H0 σ H I ls env Q w r po => qa.run w r po fun v d ls1 H1 I1 g1 w1 r1 rp1 p1 => ?_⟩
  cases d with
  | bool k =>
    refine ⟨k, (RepO.bl (sA := sA) (H := H1) (.inl rp1)), ?_⟩
    cases k with
    | true => exact qb sA H0 σ H1 I1 ls1 env Q w1 r1 (p1.grow g1)
    | false => exact p1 H1 I1 g1 w1 _ (.bl false)
  | _ => exact p1.elim
theorem de_or (ha : DE X ev W .strict a fa) (hb : DE X ev W .strict (.BoolOp .Or (b :: rest) pos) fb) : DE X ev W .strict (.BoolOp .Or (a :: b :: rest) pos) (eOr fa fb) := by
  obtain ⟨_, pa, qa⟩ := ha
  obtain ⟨_, pb, qb⟩ := hb
  refine ⟨_, pe_orT pa pb, fun sA H0 σ H I ls env Q w r po => qa.run w r po fun v d ls1 H1 I1 g1 w1 r1 rp1 p1 => ?_⟩
  cases e : truD d with
  | none => rw [e] at p1; exact p1.elim
  | some k =>
    rw [e] at p1
    refine ⟨k, truV w1 (.inl rp1) e, ?_⟩
    cases k with
    | false => exact qb sA H0 σ H1 I1 ls1 env Q w1 r1 (p1.grow g1)
    | true => exact p1 H1 I1 g1 w1 _ rp1
theorem de_not (ha : DE X ev W .strict a fa) : DE X ev W .strict (.UnaryOp .Not a pos) (eNot fa) := by
  obtain ⟨_, pa, qa⟩ := ha
  refine ⟨_, pe_not pa, fun sA H0 σ H I ls env Q w r po => qa.run w r po fun v d ls1 H1 I1 g1 w1 r1 rp1 p1 => ?_⟩
  cases d with
  | bool k => exact ⟨k, (RepO.bl (sA := sA) (H := H1) (.inl rp1)), p1 H1 I1 g1 w1 _ (.bl _)⟩
  | _ => exact p1.elim
/-- a op1 b op2 c -/
def eChain (g g' : D → D → Option D) (fa fb fc : DEnv → M D) : DEnv → M D := fun env => fa env >>= fun x => fb env >>= fun y => lift (g x y) >>= fun z => lift (boolD z) >>= fun k =>
  if k = true then fc env >>= fun u => lift (g' y u) else pure (.bool false)
theorem sat_chain {K : Fg} {r r' : R2} {g g' : D → D → Option D} {ta tb tc : TE} (ho : Meets2 K .strict r g) (ho' : Meets2 K .strict r' g') (ha : Sat K ev W .oper ta fa) (hb : Sat K ev W .oper tb fb) (hc : Sat K ev W .oper tc fc) : Sat K ev W .strict (tChain r r' ta tb tc) (eChain g g' fa fb fc) := by
  intro sA H0 σ H I ls env Q w rl po
  refine ha.run w rl po fun x d ls1 H1 I1 g1 w1 r1 rp1 po1 => hb.run w1 r1 (po1.grow g1) fun y d' ls2 H2 I2 g2 w2 r2 rp2 po2 => ?_
  cases e : g d d' with
  | none => rw [e] at po2; exact po2.elim
  | some z =>
    rw [e] at po2
    cases z with
    | bool k =>
      refine ho sA H2 I2 ls2 x y d d' (.bool k) _ w2 (rp1.grow g2) rp2 e fun v H3 I3 g3 w3 rp3 => ⟨k, RepO.bl (sA := sA) (H := H3) (.inl rp3), ?_⟩
      cases k with
      | true =>
        rw [if_pos rfl]
        have po3 : Post K ev W sA σ H3 I3 ((fc env >>= fun u => lift (g' d' u)) ls2) _ := (po2.grow g2).grow g3
        refine hc.run w3 (r2.grow g3) po3 fun u d3 ls4 H4 I4 g4 w4 r4 rp4 po4 => ?_
        obtain ⟨d', e, q⟩ := lift_post (md := .strict) g4 (po4.mono fun a ls' H' I' _ g' w' po v rp => po v rp)
        exact ho' sA H4 I4 ls4 y u _ _ d' Q w4 ((rp2.grow g3).grow g4) rp4 e q
      | false => rw [if_neg Bool.false_ne_true]; exact po2 H3 I3 (g2.trans g3) w3 _ (.bl false)
    | _ => exact po2.elim
theorem de_chain {op op' : CmpOp} {g g' : D → D → Option D} (ho : OpS X .strict (compareOp op) g) (ho' : OpS X .strict (compareOp op') g') (ha : DE X ev W .oper a fa) (hb : DE X ev W .oper b fb) (hc : DE X ev W .oper c fc)
    (hm : lastMarks [op, op'] [b, c] = false := by with_unfolding_all rfl) : DE X ev W .strict (.Compare a [op, op'] [b, c] pos) (eChain g g' fa fb fc) :=
  let ⟨_, hr, ho⟩ := ho; let ⟨_, hr', ho'⟩ := ho'; let ⟨_, pa, qa⟩ := ha; let ⟨_, pb, qb⟩ := hb; let ⟨_, pc, qc⟩ := hc; ⟨_, L2.pe_chain hr hr' pa pb pc hm, sat_chain ho ho' qa qb qc⟩
theorem dt_chain {op op' : CmpOp} {g g' : D → D → Option D} (ho : OpS X .strict (compareOp op) g) (ho' : OpS X .strict (compareOp op') g') (ha : DE X ev W .oper a fa) (hb : DE X ev W .oper b fb) (hc : DE X ev W .oper c fc)
    (hm : lastMarks [op, op'] [b, c] = false := by with_unfolding_all rfl) : DT X ev W (.Compare a [op, op'] [b, c] pos) (tVal (eChain g g' fa fb fc)) := by
  obtain ⟨_, hr, ho⟩ := ho
  obtain ⟨_, hr', ho'⟩ := ho'
  obtain ⟨_, pa, qa⟩ := ha
  obtain ⟨_, pb, qb⟩ := hb
  obtain ⟨_, pc, qc⟩ := hc
  refine ⟨_, L2.pt_chain hr hr' pa pb pc hm, fun sA H0 σ H I ls env Q w r po => (sat_chain ho ho' qa qb qc).run w r po fun v d ls1 H1 I1 g1 w1 r1 rp1 p1 => ?_⟩
  cases d with
  | bool k => exact ⟨k, RepO.bl (sA := sA) (H := H1) (.inl rp1), p1 H1 I1 g1 w1⟩
  | _ => exact p1.elim
end

/-! ### subscripts, slices -/
def one (c : Nat) : Str := ⟨#[c]⟩
def ixD : D → D → Option D
  | .list xs, .int i => atI xs i
  | .tuple xs, .int i => atI xs i
  | .str z, .int i => if okLen z.length = true then (atI z.cps.toList i).map fun c => .str (one c) else none
  | _, _ => none
def optI : D → Option (Option Int)
  | .int i => some (some i)
  | _ => none
/-- the part xs[lo:hi] -/
def cut {α : Type} (xs : List α) (lo hi : Option Int) : List α := (xs.drop (HT.sIx xs.length 0 lo)).take (HT.sIx xs.length xs.length hi - HT.sIx xs.length 0 lo)
def slD (d : D) (lo hi : Option Int) : Option D := match d with
  | .list xs => some (.list (cut xs lo hi))
  | .tuple xs => some (.tuple (cut xs lo hi))
  | .str z => if okLen z.length = true then some (.str ⟨(cut z.cps.toList lo hi).toArray⟩) else none
  | _ => none
theorem atI_reps {K : Fg} {I : Hp} {vs : List V} {ds : List D} {i : Int} {d : D} (r : Reps K I vs ds) (h : atI ds i = some d) : ∃ v, atI vs i = some v ∧ Rep K I v d := by
  unfold atI at h ⊢
  rw [r.length]
  cases e : ixN ds.length i with
  | none => rw [e] at h; cases h
  | some j =>
    rw [e] at h
    exact r.get h
theorem cut_reps {K : Fg} {I : Hp} {vs : List V} {ds : List D} {lo hi : Option Int} (r : Reps K I vs ds) : Reps K I (cutV vs lo hi) (cut ds lo hi) := by
  unfold cutV cut
  rw [r.length]
  exact (r.drop _).take _
section
variable {X : Cx} {ev : Ex → Value} {W : WX} {md : Md} {a b c e : Expr} {fa fb fc f : DEnv → M D} {pos : Pos}
theorem is_ix : IxS X .strict ixD := by
  refine ⟨_, ix_seq, fun sA H I ls x y a b d Q w ra rb e q => ?_⟩
  cases b with
  | int i =>
    cases a with
    | list xs =>
      obtain ⟨p, vs, rfl, h1, h2⟩ := ra.list w
      obtain ⟨v, h3, h4⟩ := atI_reps h2 e
      exact .inl ⟨p, vs, i, v, rfl, rb.int, .inl (.inl h1), h3, q _ H I .refl w h4⟩
    | tuple xs =>
      obtain ⟨p, vs, rfl, h1, _, h2⟩ := ra.tup w
      obtain ⟨v, h3, h4⟩ := atI_reps h2 e
      exact .inr (.inl ⟨p, vs, i, v, rfl, rb.int, h1, h3, q _ H I .refl w h4⟩)
    | str z =>
      simp only [ixD] at e
      split at e
      · rename_i hl
        cases e2 : atI z.cps.toList i with
        | none => rw [e2] at e; cases e
        | some c => rw [e2] at e; cases e; exact .inr (.inr ⟨z, i, c, ra.str, rb.int, okLen_of hl, e2, q _ H I .refl w (.str _)⟩)
      · cases e
    | _ => cases e
  | _ => cases a <;> cases e
/-- a part of a slice -/
def SatP (K : Fg) (ev : Ex → Value) (W : WX) (t : TO) (f : DEnv → M (Option Int)) : Prop :=
  ∀ sA H0 σ H I ls env Q, World K sA H I ls → RelE K sA H0 σ H I env → Post K ev W sA σ H I (f env ls) (fun o _ H' _ => Q o H') → t σ H Q
def DP (X : Cx) (ev : Ex → Value) (W : WX) (e : Option Expr) (f : DEnv → M (Option Int)) : Prop := ∃ t, PO X e t ∧ SatP X.K ev W t f
def pNo : DEnv → M (Option Int) := fun _ => pure none
def pAt (f : DEnv → M D) : DEnv → M (Option Int) := fun env => f env >>= fun d => lift (optI d)
theorem dp_no : DP X ev W none pNo := ⟨_, po_none, fun sA H0 σ H I ls env Q w r po => po H I .refl w⟩
theorem dp_at (h : DE X ev W .oper e f) : DP X ev W (some e) (pAt f) := by
  obtain ⟨_, pa, qa⟩ := h
  refine ⟨_, po_some pa, fun sA H0 σ H I ls env Q w r po => qa.run w r po fun v d ls1 H1 I1 g1 w1 r1 rp1 p1 => ?_⟩
  cases d with
  | int i => exact ⟨i, RepO.int (show RepO X.K sA H1 I1 v (.int i) from rp1), p1 H1 I1 g1 w1⟩
  | _ => exact p1.elim
def eSl (f : DEnv → M D) (lo hi : DEnv → M (Option Int)) : DEnv → M D := fun env => f env >>= fun d => lo env >>= fun l => hi env >>= fun u => lift (slD d l u)
theorem de_sl {lo hi : Option Expr} {fl fh : DEnv → M (Option Int)} {p2 : Pos} (he : DE X ev W .oper e f) (hl : DP X ev W lo fl) (hh : DP X ev W hi fh) : DE X ev W .strict (.Subscript e (.Slice lo hi none p2) pos) (eSl f fl fh) := by
  obtain ⟨_, pa, qa⟩ := he
  obtain ⟨_, pl, ql⟩ := hl
  obtain ⟨_, ph, qh⟩ := hh
  refine ⟨_, pe_slice (sl_list.or (sl_tupA.or sl_str)) pa pl ph, fun sA H0 σ H I ls env Q w r po => qa.run w r po fun v d ls1 H1 I1 g1 w1 r1 rp1 p1 => ?_⟩
  refine ql sA H0 σ H1 I1 ls1 env _ w1 r1 ((p1.grow g1).bind.mono fun l ls2 H2 I2 _ g2 w2 p2 => ?_)
  refine qh sA H0 σ H2 I2 ls2 env _ w2 (r1.grow g2) ((p2.grow g2).bind.mono fun u ls3 H3 I3 _ g3 w3 p3 => ?_)
  have rp := ((show RepO X.K sA H1 I1 v d from rp1).grow g2).grow g3
  have p3 := p3.grow g3
  cases d with
  | list xs =>
    obtain ⟨p, vs, rfl, h1, h2⟩ := rp.list w3
    exact .inl ⟨p, vs, rfl, .inl (.inl h1), fun q hq => p3 _ (upd I3 q (.lst (cutV vs l u))) (.laid w3 hq) (w3.laid hq) _ (.lst upd_same ((cut_reps h2).mono (same_upd (w3.free hq))))⟩
  | tuple xs =>
    obtain ⟨p, vs, rfl, h1, h1', h2⟩ := rp.tup w3
    refine .inr (.inl ⟨p, vs, rfl, h1, fun hw => ?_, fun _ q hq => ?_⟩)
    · have e : cut xs l u = xs := by
        unfold cut
        rw [← h2.length, hw.1, hw.2, List.drop_zero, Nat.sub_zero, h2.length, List.take_length]
      refine p3 H3 I3 .refl w3 _ ?_
      show Rep X.K I3 (.ref p) (.tuple (cut xs l u))
      rw [e]; exact .tup h1' h2
    · exact p3 _ (upd I3 q (.tup (cutV vs l u))) (.laid w3 hq) (w3.laid hq) _ (.tup (.inl (.inl upd_same)) ((cut_reps h2).mono (same_upd (w3.free hq))))
  | str z =>
    by_cases hz : okLen z.length = true
    · have e : slD (.str z) l u = some (.str (cutS z l u)) := by
        show (if okLen z.length = true then _ else _) = _
        rw [if_pos hz]
        show some (PyData.str ⟨(cut z.cps.toList l u).toArray⟩) = some (.str (cutS z l u))
        unfold cut cutS Str.length
        rw [Array.length_toList]
      rw [e] at p3
      exact .inr (.inr ⟨z, rp.str, okLen_of hz, p3 H3 I3 .refl w3 _ (.str _)⟩)
    · have e : slD (.str z) l u = none := if_neg hz
      rw [e] at p3; exact p3.elim
  | _ => exact p3.elim
end

/-! ### built-ins -/
def lenD : List D → Option D
  | [.str z] => if okLen z.length = true then some (.int z.length) else none
  | [.list xs] => some (.int xs.length)
  | [.tuple xs] => some (.int xs.length)
  | _ => none
def tyD : D → String
  | .none => "NoneType"
  | .bool _ => "bool"
  | .int _ => "int"
  | .str _ => "str"
  | .list _ => "list"
  | .tuple _ => "tuple"
  | .dict _ => "dict"
def isiD (T : String) (d : D) : Bool := match d with
  | .bool _ => T == "bool" || T == "int"
  | d => T == tyD d
def tupD : List D → Option D
  | [.list xs] => some (.tuple xs)
  | [.tuple xs] => some (.tuple xs)
  | _ => none
def listD : List D → Option D
  | [.list xs] => some (.list xs)
  | [.tuple xs] => some (.list xs)
  | _ => none
def intD : List D → Option D
  | [.int i] => some (.int i)
  | [.bool b] => some (.int (if b then 1 else 0))
  | _ => none
def strD : List D → Option D
  | [.int i] => if decide (i.natAbs.log2 < 1920) = true then some (.str (toString i)) else none
  | _ => none
def absD : List D → Option D
  | [.int i] => some (.int (if i < 0 then -i else i))
  | _ => none
def max2D : List D → Option D
  | [.int i, .int j] => some (.int (if j > i then j else i))
  | _ => none
def min2D : List D → Option D
  | [.int i, .int j] => some (.int (if j < i then j else i))
  | _ => none
section
variable {X : Cx}
theorem RepsO.one {K : Fg} {sA : Option Addr} {H I : Hp} {xs : List V} {d : D} (h : RepsO K sA H I xs [d]) : ∃ x, xs = [x] ∧ RepO K sA H I x d := by
  cases h with | cons h1 h2 => cases h2; exact ⟨_, rfl, h1⟩
theorem RepsO.two {K : Fg} {sA : Option Addr} {H I : Hp} {xs : List V} {d e : D} (h : RepsO K sA H I xs [d, e]) : ∃ x y, xs = [x, y] ∧ RepO K sA H I x d ∧ RepO K sA H I y e := by
  cases h with | cons h1 h2 => cases h2 with | cons h2 h3 => cases h3; exact ⟨_, _, rfl, h1, h2⟩
theorem cs_len : CallS X .strict (.builtin "len") lenD := by
  refine ⟨_, call_len, fun sA H I ls xs ds d Q w rs e q => ?_⟩
  match ds, e with
  | [.str z], e =>
    simp only [lenD] at e
    split at e
    · rename_i hl
      cases e
      obtain ⟨x, rfl, r⟩ := rs.one
      exact ⟨_, z.length, rfl, by rw [r.str]; exact ⟨okLen_of hl, rfl⟩, q _ H I .refl w (.int _)⟩
    · cases e
  | [.list z], e =>
    cases e
    obtain ⟨x, rfl, r⟩ := rs.one
    obtain ⟨p, vs, rfl, h1, h2⟩ := r.list w
    exact ⟨_, z.length, rfl, .inl ⟨vs, .inl (.inl h1), h2.length.symm⟩, q _ H I .refl w (.int _)⟩
  | [.tuple z], e =>
    cases e
    obtain ⟨x, rfl, r⟩ := rs.one
    obtain ⟨p, vs, rfl, h1, _, h2⟩ := r.tup w
    exact ⟨_, z.length, rfl, .inr ⟨vs, h1, h2.length.symm⟩, q _ H I .refl w (.int _)⟩
theorem cs_tuple : CallS X .strict (.type "tuple") tupD := by
  refine ⟨_, call_tuple_of, fun sA H I ls xs ds d Q w rs e q => ?_⟩
  match ds, e with
  | [.list z], e =>
    cases e
    obtain ⟨x, rfl, r⟩ := rs.one
    obtain ⟨p, vs, rfl, h1, h2⟩ := r.list w
    exact ⟨p, vs, rfl, .inl ⟨.inl (.inl h1), fun l hl => q _ _ (upd I l (.tup vs)) (.laid w hl) (w.laid hl) (.tup (.inl (.inl upd_same)) (h2.mono (same_upd (w.free hl))))⟩⟩
  | [.tuple z], e =>
    cases e
    obtain ⟨x, rfl, r⟩ := rs.one
    obtain ⟨p, vs, rfl, h1, h1', h2⟩ := r.tup w
    exact ⟨p, vs, rfl, .inr ⟨h1, q _ H I .refl w (.tup h1' h2)⟩⟩
theorem cs_list : CallS X .fresh (.type "list") listD := by
  refine ⟨_, call_list_of, fun sA H I ls xs ds d Q w rs e q => ?_⟩
  match ds, e with
  | [.list z], e =>
    cases e
    obtain ⟨x, rfl, r⟩ := rs.one
    obtain ⟨p, vs, rfl, h1, h2⟩ := r.list w
    exact ⟨p, vs, rfl, .inl (.inl (.inl h1)), fun l hl => q _ _ I (.laidM hl) (w.laidM hl) (fresh_at w hl h2)⟩
  | [.tuple z], e =>
    cases e
    obtain ⟨x, rfl, r⟩ := rs.one
    obtain ⟨p, vs, rfl, h1, h1', h2⟩ := r.tup w
    exact ⟨p, vs, rfl, .inr h1, fun l hl => q _ _ I (.laidM hl) (w.laidM hl) (fresh_at w hl h2)⟩
theorem cs_int : CallS X .strict (.type "int") intD := by
  refine ⟨_, call_int1, fun sA H I ls xs ds d Q w rs e q => ?_⟩
  match ds, e with
  | [.int z], e => cases e; obtain ⟨x, rfl, r⟩ := rs.one; exact .inl ⟨_, by rw [r.int], q _ H I .refl w (.int _)⟩
  | [.bool z], e => cases e; obtain ⟨x, rfl, r⟩ := rs.one; exact .inr ⟨_, by rw [r.bl], q _ H I .refl w (.int _)⟩
theorem cs_str : CallS X .strict (.type "str") strD := by
  refine ⟨_, call_str_int, fun sA H I ls xs ds d Q w rs e q => ?_⟩
  match ds, e with
  | [.int z], e =>
    simp only [strD] at e
    split at e
    · rename_i hl; cases e; obtain ⟨x, rfl, r⟩ := rs.one; exact ⟨_, by rw [r.int], of_decide_eq_true hl, q _ H I .refl w (.str _)⟩
    · cases e
theorem cs_abs : CallS X .strict (.builtin "abs") absD := by
  refine ⟨_, call_abs, fun sA H I ls xs ds d Q w rs e q => ?_⟩
  match ds, e with
  | [.int z], e => cases e; obtain ⟨x, rfl, r⟩ := rs.one; exact ⟨_, by rw [r.int], q _ H I .refl w (.int _)⟩
theorem cs_max2 (hc : X.calm = true) : CallS X .strict (.builtin "max") max2D := by
  refine ⟨_, call_max2 hc, fun sA H I ls xs ds d Q w rs e q => ?_⟩
  match ds, e with
  | [.int z, .int u], e => cases e; obtain ⟨x, y, rfl, r1, r2⟩ := rs.two; exact ⟨_, _, by rw [r1.int, r2.int], q _ H I .refl w (.int _)⟩
theorem cs_min2 (hc : X.calm = true) : CallS X .strict (.builtin "min") min2D := by
  refine ⟨_, call_min2 hc, fun sA H I ls xs ds d Q w rs e q => ?_⟩
  match ds, e with
  | [.int z, .int u], e => cases e; obtain ⟨x, y, rfl, r1, r2⟩ := rs.two; exact ⟨_, _, by rw [r1.int, r2.int], q _ H I .refl w (.int _)⟩
end
end DL

/-! DL, part 4: isinstance, own defs called, what is walked, comprehensions. -/
namespace DL
open PySem PySem.Spec PyProof.Rows L2

/-! ### isinstance(e, T), isinstance(e, (T, U)) -/
theorem tyX_of {K : Fg} {sA : Option Addr} {H I : Hp} {ls : LS} {v : V} {d : D} (w : World K sA H I ls) (r : RepO K sA H I v d) : TyX K H v (.type (tyD d)) := by
  cases d with
  | none => rw [r.non]; exact .base .non
  | bool b => rw [r.bl]; exact .base (.bl b)
  | int b => rw [r.int]; exact .base (.int b)
  | str b => rw [r.str]; exact .base (.str b)
  | list b => obtain ⟨p, xs, rfl, h1, _⟩ := r.list w; exact .base (.lst h1)
  | tuple b =>
    obtain ⟨p, xs, rfl, h1, _⟩ := r.tup w
    rcases h1 with (h1 | ⟨o, h1⟩) | ⟨o, its, n, hk, hc, _⟩
    · exact .base (.tup h1)
    · exact .fTuple h1
    · exact .kTuple hk hc
  | dict b =>
    rcases r with r | ⟨a, rfl, r, _⟩
    · cases r with | dic h => exact .base (.dK (w.sub _ _ h))
    · rcases r with ⟨ks, h1, _⟩ | ⟨ks, h1, _⟩
      · exact .base (.dK h1)
      · exact .base (.dT h1)
/-- the classes that are asked -/
inductive Cl where | int | str | tuple | bool | list
def Cl.name : Cl → String
  | .int => "int"
  | .str => "str"
  | .tuple => "tuple"
  | .bool => "bool"
  | .list => "list"
def isCl (c : Cl) (d : D) : Bool := match c, d with
  | .int, .int _ => true
  | .int, .bool _ => true
  | .bool, .bool _ => true
  | .str, .str _ => true
  | .tuple, .tuple _ => true
  | .list, .list _ => true
  | _, _ => false
theorem isCl_kit {K : Fg} (c : Cl) (d : D) : PySem.W.kitOne K (.type (tyD d)) (.type c.name) = some (isCl c d) := by
  refine kit_ty ?_
  cases c <;> cases d <;> (simp only [tyD, Cl.name, isCl]; decide +kernel)
section
variable {X : Cx} {ev : Ex → Value} {W : WX} {md : Md} {a b c e : Expr} {fa fb fc f : DEnv → M D} {pos : Pos} {es : List Expr} {fr : DEnv → M (List D)}
def eIsi (c : Cl) (f : DEnv → M D) : DEnv → M D := fun env => f env >>= fun d => pure (.bool (isCl c d))
def eIsi2 (c c' : Cl) (f : DEnv → M D) : DEnv → M D := fun env => f env >>= fun d => pure (.bool (isCl c d || isCl c' d))
theorem de_isi {x : Str} {p p1 : Pos} (cl : Cl) (hm1 : X.mg x = none) (hm : X.mg "isinstance" = none) (hx : bootBuiltins x = some (.type cl.name)) (he : DE X ev W .oper e f) (hg1 : Gl X x := by rfl) (hg : Gl X "isinstance" := by rfl)
    (hn : x ≠ "__name__" := by decide) (hd : (x == ("__debug__" : Str)) = false := by decide) (hs1 : starEach [e, .Name x p1] X.env = (false, eval e X.env) :: starEach [.Name x p1] X.env := by rfl) (hs2 : starEach [.Name x p1] X.env = (false, eval (.Name x p1) X.env) :: starEach [] X.env := by rfl)
    (hpl : (backTo pos (starEach [.Name x p1] X.env)).any (·.1) = false := by rfl) : DE X ev W .strict (.Call (.Name "isinstance" p) [e, .Name x p1] [] pos) (eIsi cl f) := by
  obtain ⟨_, pa, qa⟩ := he
  refine ⟨_, L2.pe_callB call_isi hg hm PyProof.Rows.boot_isinstance (pa_cons pa (pa_cons (pe_bltn hg1 hm1 hx (v := .ty cl.name) rfl hn hd) pa_nil hs2) hs1) (by decide) (by decide) hs1 hpl, fun sA H0 σ H I ls env Q w r po => qa.run w r po fun v d ls1 H1 I1 g1 w1 r1 rp1 p1 => ?_⟩
  exact ⟨v, .ty cl.name, .type (tyD d), .type cl.name, isCl cl d, rfl, .ty _, tyX_of w1 rp1, isCl_kit cl d, p1 H1 I1 g1 w1 _ (.bl _)⟩
theorem de_isi2 {x y : Str} {p p1 p2 p3 : Pos} {kk} (cl cl' : Cl) (hm1 : X.mg x = none) (hm2 : X.mg y = none) (hm : X.mg "isinstance" = none) (hx : bootBuiltins x = some (.type cl.name)) (hy : bootBuiltins y = some (.type cl'.name)) (he : DE X ev W .oper e f) (hg1 : Gl X x := by rfl) (hg2 : Gl X y := by rfl) (hg : Gl X "isinstance" := by rfl)
    (hn : x ≠ "__name__" := by decide) (hd : (x == ("__debug__" : Str)) = false := by decide) (hn' : y ≠ "__name__" := by decide) (hd' : (y == ("__debug__" : Str)) = false := by decide)
    (hs0 : starEach [.Name x p1, .Name y p2] X.env = (false, eval (.Name x p1) X.env) :: starEach [.Name y p2] X.env := by rfl) (hs0' : starEach [.Name y p2] X.env = (false, eval (.Name y p2) X.env) :: starEach [] X.env := by rfl)
    (hs1 : starEach [e, .Tuple [.Name x p1, .Name y p2] kk p3] X.env = (false, eval e X.env) :: starEach [.Tuple [.Name x p1, .Name y p2] kk p3] X.env := by rfl) (hs2 : starEach [.Tuple [.Name x p1, .Name y p2] kk p3] X.env = (false, eval (.Tuple [.Name x p1, .Name y p2] kk p3) X.env) :: starEach [] X.env := by rfl)
    (hpl : (backTo pos (starEach [.Tuple [.Name x p1, .Name y p2] kk p3] X.env)).any (·.1) = false := by rfl) : DE X ev W .strict (.Call (.Name "isinstance" p) [e, .Tuple [.Name x p1, .Name y p2] kk p3] [] pos) (eIsi2 cl cl' f) := by
  obtain ⟨_, pa, qa⟩ := he
  refine ⟨_, L2.pe_callB call_isiT hg hm PyProof.Rows.boot_isinstance (pa_cons pa (pa_cons (L2.pe_tup (pa_cons (pe_bltn hg1 hm1 hx (v := .ty cl.name) rfl hn hd) (pa_cons (pe_bltn hg2 hm2 hy (v := .ty cl'.name) rfl hn' hd') pa_nil hs0') hs0)) pa_nil hs2) hs1) (by decide) (by decide) hs1 hpl,
    fun sA H0 σ H I ls env Q w r po => qa.run w r po fun v d ls1 H1 I1 g1 w1 r1 rp1 p1 => ?_⟩
  refine ⟨by show 2 ≤ sizeLine; rw [sizeLine_eq]; decide, fun q hq => ?_⟩
  have w2 := w1.laid (o := .tup [V.ty cl.name, V.ty cl'.name]) hq
  have g2 : Grow sA H1 I1 (upd H1 q (.tup [V.ty cl.name, V.ty cl'.name])) (upd I1 q (.tup [V.ty cl.name, V.ty cl'.name])) := Grow.laid w1 hq
  refine ⟨v, q, [.ty cl.name, .ty cl'.name], .type (tyD d), [.type cl.name, .type cl'.name], isCl cl d || isCl cl' d, rfl, upd_same, .cons (.ty _) (.cons (.ty _) .nil), tyX_of w2 (RepO.grow rp1 g2), ?_, p1 _ _ (g1.trans g2) w2 _ (.bl _)⟩
  refine kitAny_cons (isCl_kit cl d) (fun e1 => ?_) (fun e1 => by rw [e1]; rfl)
  refine kitAny_cons (isCl_kit cl' d) (fun e2 => ?_) (fun e2 => by rw [e1, e2]; rfl)
  rw [e1, e2]; exact kitAny_nil
end

/-! ### own defs -/
abbrev wE (E : XK) : WX := fun cls d _ H => E cls d H
def spD (K : Fg) (ev : Ex → Value) (n : Nat) (F : List D → M D) : Sp := fun vs H Q E => ∃ sA I ls ds, World K sA H I ls ∧ Reps K I vs ds ∧ ds.length = n ∧
  PostE K ev (wE E) sA [] H I .strict (F ds ls) Q
/-- .. whose first argument is the drawing state -/
def spS (K : Fg) (ev : Ex → Value) (n : Nat) (F : List D → M D) : Sp := fun vs H Q E => ∃ a vs' I ls ds, vs = .ref a :: vs' ∧ World K (some a) H I ls ∧ Reps K I vs' ds ∧ ds.length = n ∧
  PostE K ev (wE E) (some a) [] H I .strict (F ds ls) Q
structure Fnd (P : Program) (w : PySem.World) (K : Fg) (mg : Str → Option Value) (base : Heap) (x : Str) (k : Nat) (sp : Sp) : Prop where
  ex : ∃ (f : Addr) (fd : FuncData) (ps : List Str), FnOk P w K mg base (L2.CX P w) k f fd ps sp ∧ mg x = some (.ref f) ∧ PySem.W.keepIn K (.ref f) = true ∧ Binds K fd ps []
section
variable {X : Cx} {ev : Ex → Value} {W : WX} {md : Md} {a b c e : Expr} {fa fb fc f : DEnv → M D} {pos p : Pos} {es : List Expr} {fr : DEnv → M (List D)} {x : Str} {j k n : Nat} {F : List D → M D}
theorem post_wish {K : Fg} {W W' : WX} {sA : Option Addr} {σ σ' : L2.St} {H I : Hp} {α : Type} {r : Res α} {R : α → LS → Hp → Hp → Prop} (h : Post K ev W sA σ H I r R) (k : ∀ e H', W (ev e) none σ H' → W' (ev e) none σ' H') : Post K ev W' sA σ' H I r R := by
  cases r with
  | ok a ls' => exact h
  | err e ls' => exact fun H' I' g w => k e H' (h H' I' g w)
  | stuck => exact h
def eFn (n : Nat) (F : List D → M D) (fr : DEnv → M (List D)) : DEnv → M D := fun env => fr env >>= fun ds => if ds.length = n then F ds else stuck
theorem de_fn (c : Fnd X.prog X.w X.K X.mg X.base x k (spD X.K ev n F)) (tk : Takes X W) (hr : Room j X.A) (ha : DA X ev W (e :: es) fr) (hk : k ≤ j := by decide) (hg : Gl X x := by rfl) (hdb : (x == ("__debug__" : Str)) = false := by decide)
    (he : starEach (e :: es) X.env = (false, eval e X.env) :: starEach es X.env := by rfl) (hpl : (backTo pos (starEach es X.env)).any (·.1) = false := by rfl) : DE X ev W .strict (.Call (.Name x p) (e :: es) [] pos) (eFn n F fr) := by
  obtain ⟨f, fd, ps, hF, hm, hkp, hb⟩ := c.ex
  obtain ⟨_, pa, qa⟩ := ha
  refine ⟨_, pe_callS hF (hr.mono hk) hg hm hkp hb (E := WE W) (passAt tk) pa hdb he hpl, fun sA H0 σ H I ls env Q w r po => ?_⟩
  refine qa sA H0 σ H I ls env _ w r (po.bind.mono fun ds ls1 H1 I1 _ g1 w1 p1 vs rs => ?_)
  by_cases hl : ds.length = n
  · rw [if_pos hl] at p1
    exact ⟨sA, I1, ls1, ds, w1, rs, hl, post_wish ((p1.grow g1).mono fun a ls' H' I' _ g' w' po v rp => po v rp) fun e H' h => h⟩
  · rw [if_neg hl] at p1; exact p1.elim
def eFnS (i n : Nat) (F : List D → M D) (fr : DEnv → M (List D)) : DEnv → M D := fun env => match env[i]? with
  | some (some .st) => fr env >>= fun ds => if ds.length = n then F ds else stuck
  | _ => stuck
theorem de_fnS {y : Str} {py : Pos} (i : Nat) (c : Fnd X.prog X.w X.K X.mg X.base x k (spS X.K ev n F)) (tk : Takes X W) (hr : Room j X.A) (ha : DA X ev W es fr) (hk : k ≤ j := by decide) (hN : X.N[i]? = some y := by rfl) (hv : Vis X.env.scope y := by first | exact Or.inl rfl | exact Or.inr (Or.inl rfl) | exact Or.inr (Or.inr rfl))
    (hg : Gl X x := by rfl) (hdb : (x == ("__debug__" : Str)) = false := by decide) (hd : (y == ("__debug__" : Str)) = false := by decide) (hcd : (y == ("__classdict__" : Str)) = false := by decide)
    (he : starEach (.Name y py :: es) X.env = (false, eval (.Name y py) X.env) :: starEach es X.env := by rfl) (hpl : (backTo pos (starEach es X.env)).any (·.1) = false := by rfl) : DE X ev W .strict (.Call (.Name x p) (.Name y py :: es) [] pos) (eFnS i n F fr) := by
  obtain ⟨f, fd, ps, hF, hm, hkp, hb⟩ := c.ex
  obtain ⟨_, pa, qa⟩ := ha
  refine ⟨_, pe_callS hF (hr.mono hk) hg hm hkp hb (E := WE W) (passAt tk) (pa_cons (pe_var hN hv hd hcd) pa he) hdb he hpl, fun sA H0 σ H I ls env Q w r po => ?_⟩
  show ∃ v, _
  revert po
  show PostE _ _ _ _ _ _ _ _ (eFnS i n F fr env ls) _ → _
  unfold eFnS
  cases e : env[i]? with
  | none => exact fun po => po.elim
  | some o =>
    cases o with
    | none => exact fun po => po.elim
    | some dv =>
      cases dv with
      | st =>
        intro po
        obtain ⟨a, ea, ev'⟩ := r.st i e
        subst ea
        refine ⟨_, ev', ?_⟩
        refine qa (some a) H0 σ H I ls env _ w r (po.bind.mono fun ds ls1 H1 I1 _ g1 w1 p1 vs rs => ?_)
        by_cases hl : ds.length = n
        · rw [if_pos hl] at p1
          exact ⟨a, vs, I1, ls1, ds, rfl, w1, rs, hl, post_wish ((p1.grow g1).mono fun a ls' H' I' _ g' w' po v rp => po v rp) fun e H' h => h⟩
        · rw [if_neg hl] at p1; exact p1.elim
      | _ => exact fun po => po.elim
end

/-! ### what is walked -/
/-- J walks ds while I's part of the heap stands (own = false), or while the heap grows (own = true) -/
structure Wlk (K : Fg) (sA : Option Addr) (J : It) (ds : List D) (own : Bool) (H I : Hp) : Prop where
  ex : ∃ (G : Hp → Prop) (Y : Nat → Hp → V → Hp → Prop), Walk J ds.length G Y ∧ (∀ H' I', Same I I' → Same I' H' → (own = true → Grow sA H I H' I') → G H') ∧
    ∀ i H' I' ls x H2, Same I I' → (own = true → Grow sA H I H' I') → World K sA H' I' ls → i < ds.length → Y i H' x H2 → ∃ I2 d, Grow sA H' I' H2 I2 ∧ World K sA H2 I2 ls ∧ ds[i]? = some d ∧ Rep K I2 x d
def SatI (K : Fg) (ev : Ex → Value) (W : WX) (own : Bool) (wi : TI) (f : DEnv → M (List D)) : Prop :=
  ∀ sA H0 σ H I ls env R, World K sA H I ls → RelE K sA H0 σ H I env → Post K ev W sA σ H I (f env ls) (fun ds _ H' I' => ∀ J, Wlk K sA J ds own H' I' → R J H') → wi σ H R
def DI (X : Cx) (ev : Ex → Value) (W : WX) (own : Bool) (tg iter : Expr) (f : DEnv → M (List D)) : Prop := ∃ wi, PI X tg iter wi ∧ SatI X.K ev W own wi f
section
variable {X : Cx} {ev : Ex → Value} {W : WX} {md : Md} {a b c e tg : Expr} {fa fb fc f : DEnv → M D} {pos p : Pos} {es : List Expr} {fr : DEnv → M (List D)}
theorem DI.own (h : DI X ev W false tg e fr) : DI X ev W true tg e fr := by
  obtain ⟨wi, p, q⟩ := h
  refine ⟨wi, p, fun sA H0 σ H I ls env R w r po => q sA H0 σ H I ls env R w r (po.mono fun ds _ H' I' _ _ _ k J ⟨G, Y, h1, h2, h3⟩ => k J ⟨G, Y, h1, fun H' I' a b _ => h2 H' I' a b (fun z => by cases z), fun i H' I' ls x H2 a _ => h3 i H' I' ls x H2 a (fun z => by cases z)⟩)⟩
def itemsL : D → Option (List D)
  | .list xs => some xs
  | _ => none
def itemsT : D → Option (List D)
  | .tuple xs => some xs
  | _ => none
def itemsS : D → Option (List D)
  | .str z => some (z.cps.toList.map fun c => .str (one c))
  | _ => none
def iOf (g : D → Option (List D)) (f : DEnv → M D) : DEnv → M (List D) := fun env => f env >>= fun d => lift (g d)
theorem di_list (h : DE X ev W .strict e f) : DI X ev W false tg e (iOf itemsL f) := by
  obtain ⟨_, pa, qa⟩ := h
  refine ⟨_, L2.pi_list pa, fun sA H0 σ H I ls env Q w r po => qa.run w r po fun v d ls1 H1 I1 g1 w1 r1 rp1 p1 => ?_⟩
  cases d with
  | list ds =>
    cases rp1 with
    | @lst a xs _ h1 h2 =>
      have h1' := w1.sub _ _ h1
      refine ⟨a, rfl, ⟨xs, .inl (.inl h1')⟩, p1 H1 I1 g1 w1 _ ⟨_, _, (h2.length ▸ walk_list (K := X.K) (a := a) (xs := xs) : Walk _ ds.length _ _), fun H' I' h3 h4 _ => .inl (.inl (h4 _ _ (h3 _ _ h1))), fun i H' I' ls x H2 h3 _ w' hi y => ?_⟩⟩
      obtain ⟨rfl, hx⟩ := y
      obtain ⟨d, hd, hr⟩ := h2.getV hx
      exact ⟨I', d, .refl, w', hd, hr.mono h3⟩
  | _ => exact p1.elim
/-- over a list that may be changed elsewhere -/
theorem di_listO (h : DE X ev W .oper e f) : DI X ev W true tg e (iOf itemsL f) := by
  obtain ⟨_, pa, qa⟩ := h
  refine ⟨_, L2.pi_list pa, fun sA H0 σ H I ls env Q w r po => qa.run w r po fun v d ls1 H1 I1 g1 w1 r1 rp1 p1 => ?_⟩
  cases d with
  | list ds =>
    have key : ∃ a xs, v = .ref a ∧ H1 a = some (.lst xs) ∧ Reps X.K I1 xs ds ∧ (I1 a = some (.lst xs) ∨ sA ≠ some a) := by
      rcases rp1 with h | ⟨a, e, ⟨vs, h1, h2⟩, h3, h4⟩
      · cases h with | lst h1 h2 => exact ⟨_, _, rfl, w1.sub _ _ h1, h2, .inl h1⟩
      · exact ⟨a, vs, e, h1, h2, .inr h4⟩
    obtain ⟨a, xs, rfl, h1, h2, h5⟩ := key
    refine ⟨a, rfl, ⟨xs, .inl (.inl h1)⟩, p1 H1 I1 g1 w1 _ ⟨_, _, (h2.length ▸ walk_list (K := X.K) (a := a) (xs := xs) : Walk _ ds.length _ _), fun H' I' h3 h4 hg => ?_, fun i H' I' ls x H2 h3 _ w' hi y => ?_⟩⟩
    · rcases h5 with h5 | h5
      · exact .inl (.inl (h4 _ _ (h3 _ _ h5)))
      · exact .inl (.inl ((hg rfl).keep a _ h5 h1))
    · obtain ⟨rfl, hx⟩ := y
      obtain ⟨d, hd, hr⟩ := h2.getV hx
      exact ⟨I', d, .refl, w', hd, hr.mono h3⟩
  | _ => exact p1.elim
theorem di_tup (h : DE X ev W .strict e f) : DI X ev W false tg e (iOf itemsT f) := by
  obtain ⟨_, pa, qa⟩ := h
  refine ⟨_, L2.pi_tup pa, fun sA H0 σ H I ls env Q w r po => qa.run w r po fun v d ls1 H1 I1 g1 w1 r1 rp1 p1 => ?_⟩
  cases d with
  | tuple ds =>
    cases rp1 with
    | @tup a xs _ h1 h2 =>
      refine ⟨a, rfl, ⟨xs, SqT.mono w1.sub h1⟩, p1 H1 I1 g1 w1 _ ⟨_, _, (h2.length ▸ walk_tup (K := X.K) (a := a) (xs := xs) : Walk _ ds.length _ _), fun H' I' h3 h4 _ => SqT.mono h4 (SqT.mono h3 h1), fun i H' I' ls x H2 h3 _ w' hi y => ?_⟩⟩
      obtain ⟨rfl, hx⟩ := y
      obtain ⟨d, hd, hr⟩ := h2.getV hx
      exact ⟨I', d, .refl, w', hd, hr.mono h3⟩
  | _ => exact p1.elim
theorem di_str (h : DE X ev W .strict e f) : DI X ev W false tg e (iOf itemsS f) := by
  obtain ⟨_, pa, qa⟩ := h
  refine ⟨_, L2.pi_str pa, fun sA H0 σ H I ls env Q w r po => qa.run w r po fun v d ls1 H1 I1 g1 w1 r1 rp1 p1 => ?_⟩
  cases d with
  | str z =>
    have hl : (z.cps.toList.map fun c => PyData.str (one c)).length = z.cps.size := by rw [List.length_map, Array.length_toList]
    refine ⟨z, (RepO.str (sA := sA) (H := H1) (.inl rp1)), p1 H1 I1 g1 w1 _ ⟨_, _, (hl.symm ▸ walk_str (z := z) : Walk _ (z.cps.toList.map fun c => PyData.str (one c)).length _ _), fun _ _ _ _ _ => trivial, fun i H' I' ls x H2 h3 _ w' hi y => ?_⟩⟩
    · obtain ⟨rfl, c, hc, rfl⟩ := y
      refine ⟨I', .str (one c), .refl, w', ?_, .str _⟩
      rw [List.getElem?_map, Array.getElem?_toList, hc]; rfl
  | _ => exact p1.elim
def rangeL (lo c : Int) (n : Nat) : List D := (List.range n).map fun i => .int (lo + (i : Nat) * c)
@[irreducible] def b62 (i : Int) : Bool := decide (-(2 ^ 62) ≤ i) && decide (i < 2 ^ 62)
def rng1 : List D → Option (List D)
  | [.int j] => if b62 j = true then some (rangeL 0 1 j.toNat) else none
  | _ => none
def rng2 : List D → Option (List D)
  | [.int i, .int j] => if (b62 i && b62 j) = true then some (rangeL i 1 (j - i).toNat) else none
  | _ => none
def rng3 : List D → Option (List D)
  | [.int i, .int j, .int c] => if (b62 i && b62 j && decide (c = -1)) = true then some (rangeL i (-1) (i - j).toNat) else none
  | _ => none
def iRng (g : List D → Option (List D)) (fr : DEnv → M (List D)) : DEnv → M (List D) := fun env => fr env >>= fun ds => lift (g ds)
theorem b62_of {i : Int} (h : b62 i = true) : -(2 ^ 62) ≤ i ∧ i < 2 ^ 62 := by simpa [b62] using h
theorem wlk_range {K : Fg} {sA : Option Addr} {own : Bool} {H I : Hp} (lo c : Int) (n : Nat) (J : It) (w : Walk J n (fun _ => True) (YFn fun i => .int (lo + (i : Nat) * c))) : Wlk K sA J (rangeL lo c n) own H I := by
  have hl : (rangeL lo c n).length = n := by simp [rangeL]
  refine ⟨_, _, (hl.symm ▸ w : Walk J (rangeL lo c n).length _ _), fun _ _ _ _ _ => trivial, fun i H' I' ls x H2 h3 _ w' hi y => ?_⟩
  obtain ⟨rfl, rfl⟩ := y
  rw [hl] at hi
  exact ⟨I', _, .refl, w', by simp [rangeL, hi], .int _⟩
theorem di_range1 (hm : X.mg "range" = none) (ha : DO X ev W [a] fr) (hg : Gl X "range" := by rfl) (hs : starEach [a] X.env = [(false, eval a X.env)] := by rfl) : DI X ev W false tg (.Call (.Name "range" p) [a] [] pos) (iRng rng1 fr) := by
  obtain ⟨_, pa, qa⟩ := ha
  refine ⟨_, L2.pi_range1 hg hm pa hs, fun sA H0 σ H I ls env Q w r po => ?_⟩
  refine qa sA H0 σ H I ls env _ w r (po.bind.mono fun ds ls1 H1 I1 _ g1 w1 p1 vs rs => ?_)
  match ds, p1, rs with
  | [.int j], p1, rs =>
    obtain ⟨x, rfl, r1⟩ := rs.one
    simp only [rng1] at p1
    split at p1
    · rename_i hj
      refine ⟨j, by rw [r1.int], (b62_of hj).1, (b62_of hj).2, p1 H1 I1 g1 w1 _ (wlk_range 0 1 j.toNat _ ?_)⟩
      have := walk_range (lo := 0) (n := j.toNat)
      simpa using this
    · exact p1.elim
theorem di_range2 (hm : X.mg "range" = none) (ha : DO X ev W [a, b] fr) (hg : Gl X "range" := by rfl) (hs : starEach [a, b] X.env = [(false, eval a X.env), (false, eval b X.env)] := by rfl) (hs2 : starEach [b] X.env = [(false, eval b X.env)] := by rfl) : DI X ev W false tg (.Call (.Name "range" p) [a, b] [] pos) (iRng rng2 fr) := by
  obtain ⟨_, pa, qa⟩ := ha
  refine ⟨_, L2.pi_range2 hg hm pa hs hs2, fun sA H0 σ H I ls env Q w r po => ?_⟩
  refine qa sA H0 σ H I ls env _ w r (po.bind.mono fun ds ls1 H1 I1 _ g1 w1 p1 vs rs => ?_)
  match ds, p1, rs with
  | [.int i, .int j], p1, rs =>
    obtain ⟨x, y, rfl, r1, r2⟩ := rs.two
    simp only [rng2] at p1
    split at p1
    · rename_i hj
      rw [Bool.and_eq_true] at hj
      obtain ⟨h1, h2⟩ := b62_of hj.1
      obtain ⟨h3, h4⟩ := b62_of hj.2
      refine ⟨i, j, by rw [r1.int, r2.int], ⟨h1, h2, h3, h4⟩, p1 H1 I1 g1 w1 _ (wlk_range i 1 (j - i).toNat _ ?_)⟩
      have := walk_range (lo := i) (n := (j - i).toNat)
      simpa using this
    · exact p1.elim
theorem di_range3 (hm : X.mg "range" = none) (ha : DO X ev W [a, b, c] fr) (hg : Gl X "range" := by rfl) (hs : starEach [a, b, c] X.env = (false, eval a X.env) :: starEach [b, c] X.env := by rfl) (hpl : (backTo pos (starEach [b, c] X.env)).any (·.1) = false := by rfl) : DI X ev W false tg (.Call (.Name "range" p) [a, b, c] [] pos) (iRng rng3 fr) := by
  obtain ⟨_, pa, qa⟩ := ha
  refine ⟨_, L2.pi_range3 hg hm pa hs hpl, fun sA H0 σ H I ls env Q w r po => ?_⟩
  refine qa sA H0 σ H I ls env _ w r (po.bind.mono fun ds ls1 H1 I1 _ g1 w1 p1 vs rs => ?_)
  match ds, p1, rs with
  | [.int i, .int j, .int c], p1, rs =>
    simp only [rng3] at p1
    split at p1
    · rename_i hj
      rw [Bool.and_eq_true, Bool.and_eq_true, decide_eq_true_eq] at hj
      obtain ⟨h1, h2⟩ := b62_of hj.1.1
      obtain ⟨h3, h4⟩ := b62_of hj.1.2
      obtain rfl := hj.2
      cases rs with | cons r1 rs => cases rs with | cons r2 rs => cases rs with | cons r3 rs =>
        cases rs
        exact ⟨i, j, -1, (i - j).toNat, by rw [r1.int, r2.int, r3.int], RgC.neg h1 h2 h3 h4, p1 H1 I1 g1 w1 _ (wlk_range i (-1) (i - j).toNat _ walk_rangeC)⟩
    · exact p1.elim
end
end DL

/-! DL, part 5: targets, comprehensions. -/
namespace DL
open PySem PySem.Spec PyProof.Rows L2

/-! ### slots -/
section
variable {K : Fg} {sA : Option Addr} {H0 H I H' : Hp} {σ : L2.St} {env : DEnv}
theorem RelE.set {v : V} {d : D} (r : RelE K sA H0 σ H I env) (i : Nat) (h : Rep K I v d) : RelE K sA H0 (σ.set i (some v)) H I (env.set i (some (.val d))) where
  len := by rw [List.length_set, List.length_set]; exact r.len
  val := fun j e q => by
    by_cases hj : i = j
    · subst hj
      have hi : i < env.length := by
        have h2 := (List.getElem?_eq_some_iff.mp q).1
        rw [List.length_set] at h2; exact h2
      rw [List.getElem?_set_self hi] at q
      cases q
      exact ⟨v, by rw [List.getElem?_set_self (by rw [← r.len]; exact hi)], h⟩
    · rw [List.getElem?_set_ne hj] at q ⊢
      exact r.val j e q
  own := fun j e q => by
    by_cases hj : i = j
    · subst hj
      have hi : i < env.length := by
        have h2 := (List.getElem?_eq_some_iff.mp q).1
        rw [List.length_set] at h2; exact h2
      rw [List.getElem?_set_self hi] at q
      cases q
    · rw [List.getElem?_set_ne hj] at q ⊢
      exact r.own j e q
  inj := fun j l a d1 d2 q1 q2 q3 q4 => by
    have ne : ∀ {j d1}, (env.set i (some (.val d)))[j]? = some (some (.own d1)) → i ≠ j := fun {j d1} q hj => by
      subst hj
      have hi : i < env.length := by
        have h2 := (List.getElem?_eq_some_iff.mp q).1
        rw [List.length_set] at h2; exact h2
      rw [List.getElem?_set_self hi] at q
      cases q
    have h1 := ne q1
    have h2 := ne q2
    rw [List.getElem?_set_ne h1] at q1 q3
    rw [List.getElem?_set_ne h2] at q2 q4
    exact r.inj j l a d1 d2 q1 q2 q3 q4
  st := fun j q => by
    by_cases hj : i = j
    · subst hj
      have hi : i < env.length := by
        have h2 := (List.getElem?_eq_some_iff.mp q).1
        rw [List.length_set] at h2; exact h2
      rw [List.getElem?_set_self hi] at q
      cases q
    · rw [List.getElem?_set_ne hj] at q ⊢
      exact r.st j q
theorem RelE.unset (r : RelE K sA H0 σ H I env) (i : Nat) : RelE K sA H0 (σ.set i none) H I (env.set i none) := by
  have ne : ∀ {j : Nat} {x : DV}, (env.set i none)[j]? = some (some x) → i ≠ j ∧ env[j]? = some (some x) ∧ (σ.set i none)[j]? = σ[j]? := fun {j x} q => by
    by_cases hj : i = j
    · subst hj
      have hi : i < env.length := by
        have h2 := (List.getElem?_eq_some_iff.mp q).1
        rw [List.length_set] at h2; exact h2
      rw [List.getElem?_set_self hi] at q
      cases q
    · rw [List.getElem?_set_ne hj] at q
      exact ⟨hj, q, List.getElem?_set_ne hj⟩
  refine ⟨by rw [List.length_set, List.length_set]; exact r.len, fun j e q => ?_, fun j e q => ?_, fun j l a d1 d2 q1 q2 q3 q4 => ?_, fun j q => ?_⟩
  · obtain ⟨h1, h2, h3⟩ := ne q; rw [h3]; exact r.val j e h2
  · obtain ⟨h1, h2, h3⟩ := ne q; rw [h3]; exact r.own j e h2
  · obtain ⟨h1, h2, h3⟩ := ne q1
    obtain ⟨h1', h2', h3'⟩ := ne q2
    rw [h3] at q3; rw [h3'] at q4
    exact r.inj j l a d1 d2 h2 h2' q3 q4
  · obtain ⟨h1, h2, h3⟩ := ne q; rw [h3]; exact r.st j h2
def wipeE (env : DEnv) : List Nat → DEnv
  | [] => env
  | v :: vs => (wipeE env vs).set v none
theorem RelE.wipe (r : RelE K sA H0 σ H I env) : ∀ vs : List Nat, RelE K sA H0 (L2.wipe σ vs) H I (wipeE env vs)
  | [] => r
  | v :: vs => (RelE.wipe r vs).unset v
theorem wipe_set {σ : L2.St} {i : Nat} {x : Option V} : ∀ {vs : List Nat}, i ∈ vs → L2.wipe (σ.set i x) vs = L2.wipe σ vs
  | [], h => by simp at h
  | v :: vs, h => by
    have comm : ∀ (σ : L2.St) (j : Nat) (y : Option V) (ws : List Nat), L2.wipe (σ.set j y) ws = (if j ∈ ws then L2.wipe σ ws else (L2.wipe σ ws).set j y) := by
      intro σ j y ws
      induction ws with
      | nil => simp [L2.wipe]
      | cons w ws ih =>
        show (L2.wipe (σ.set j y) ws).set w none = _
        rw [ih]
        by_cases hj : j ∈ ws
        · rw [if_pos hj, if_pos (List.mem_cons_of_mem _ hj)]; rfl
        · rw [if_neg hj]
          by_cases hw : j = w
          · subst hw
            rw [if_pos List.mem_cons_self, List.set_set]; rfl
          · rw [if_neg (by simp [hw, hj]), List.set_comm _ _ hw]; rfl
    rw [comm, if_pos h]
end

theorem wipe_idem {σ : L2.St} {ws : List Nat} : ∀ {us : List Nat}, (∀ i ∈ us, i ∈ ws) → L2.wipe (L2.wipe σ us) ws = L2.wipe σ ws
  | [], _ => rfl
  | v :: us, h => (wipe_set (σ := L2.wipe σ us) (h v List.mem_cons_self)).trans (wipe_idem fun i hi => h i (List.mem_cons_of_mem _ hi))

/-! ### targets -/
abbrev Bd := D → DEnv → Option DEnv
def bName (i : Nat) : Bd := fun d env => some (env.set i (some (.val d)))
def bAll : List Bd → List D → DEnv → Option DEnv
  | [], [], env => some env
  | b :: bs, d :: ds, env => match b d env with
    | some env' => bAll bs ds env'
    | none => none
  | _, _, _ => none
def bTup (bs : List Bd) : Bd := fun d env => match d with
  | .tuple ds => bAll bs ds env
  | _ => none
def bLst (bs : List Bd) : Bd := fun d env => match d with
  | .list ds => bAll bs ds env
  | _ => none
def SatG (K : Fg) (g : TG) (ts : List Nat) (bd : Bd) : Prop := ∀ sA H0 v d σ H I env env' Q, Same I H → RelE K sA H0 σ H I env → Rep K I v d → bd d env = some env' →
  (∀ σ', RelE K sA H0 σ' H I env' → (∀ vs : List Nat, (∀ i ∈ ts, i ∈ vs) → L2.wipe σ' vs = L2.wipe σ vs) → Q σ' H) → g v σ H Q
def SatGs (K : Fg) (g : TGs) (ts : List Nat) (bds : List Bd) : Prop := ∀ sA H0 vs ds σ H I env env' Q, Same I H → RelE K sA H0 σ H I env → Reps K I vs ds → bAll bds ds env = some env' →
  (∀ σ', RelE K sA H0 σ' H I env' → (∀ vs : List Nat, (∀ i ∈ ts, i ∈ vs) → L2.wipe σ' vs = L2.wipe σ vs) → Q σ' H) → g vs σ H Q
def DG (X : Cx) (tg : Expr) (ts : List Nat) (bd : Bd) : Prop := ∃ g, PG X tg g ∧ SatG X.K g ts bd
def DGs (X : Cx) (tgs : List Expr) (ts : List Nat) (bds : List Bd) : Prop := ∃ g, PGs X tgs g ∧ SatGs X.K g ts bds
section
variable {X : Cx} {pos : Pos} {e : Expr} {es : List Expr} {ts us : List Nat} {bd : Bd} {bds : List Bd}
theorem dg_name (i : Nat) {x : Str} (hN : X.N.Nodup) (hi : X.N[i]? = some x := by rfl) (hx : Loc X.env.scope x := by first | exact Or.inl rfl | exact Or.inr rfl) (hf : X.fn x = true ∨ X.env.scope.names.lookup x = some .local := by first | exact .inl rfl | exact .inr rfl) : DG X (.Name x pos) [i] (bName i) := by
  refine ⟨_, pg_name hN hi hx hf, fun sA H0 v d σ H I env env' Q s r rp e q => ?_⟩
  cases e
  exact q _ (r.set i rp) fun vs h => wipe_set (h i (by simp))
theorem dgs_nil : DGs X [] [] [] := by
  refine ⟨_, pgs_nil, fun sA H0 vs ds σ H I env env' Q s r rp e q => ?_⟩
  cases rp with
  | nil => cases e; exact ⟨rfl, q _ r fun _ _ => rfl⟩
  | cons _ _ => cases e
theorem dgs_cons (h1 : DG X e ts bd) (h2 : DGs X es us bds) (hs : (assignEach (e :: es) X.env).map (·.2) = assign e X.env :: (assignEach es X.env).map (·.2) := by rfl) : DGs X (e :: es) (ts ++ us) (bd :: bds) := by
  obtain ⟨g, p1, q1⟩ := h1
  obtain ⟨gs, p2, q2⟩ := h2
  refine ⟨_, pgs_cons p1 p2 hs, fun sA H0 vs ds σ H I env env' Q s r rp ee q => ?_⟩
  cases rp with
  | nil => cases ee
  | cons h t =>
    simp only [bAll] at ee
    split at ee
    · rename_i d ds vs' v env1 e1
      refine ⟨_, _, rfl, q1 sA H0 _ _ σ H I env _ _ s r h e1 fun σ1 r1 k1 => ?_⟩
      refine q2 sA H0 _ _ σ1 H I _ env' Q s r1 t ee fun σ2 r2 k2 => q σ2 r2 fun vs hv => ?_
      rw [k2 vs (fun i hi => hv i (List.mem_append_right _ hi)), k1 vs (fun i hi => hv i (List.mem_append_left _ hi))]
    · cases ee
theorem bAll_len : ∀ {bds : List Bd} {ds : List D} {env env' : DEnv}, bAll bds ds env = some env' → ds.length = bds.length
  | [], [], _, _, _ => rfl
  | [], _ :: _, _, _, h => by cases h
  | _ :: _, [], _, _, h => by cases h
  | b :: bs, d :: ds, env, env', h => by
    simp only [bAll] at h
    split at h
    · rw [List.length_cons, List.length_cons, bAll_len h]
    · cases h
theorem dg_tup {k : Nat} (hc : X.calm = true) (h : DGs X es ts bds) (hn : (assignEach es X.env).length = bds.length := by rfl) (hst : (assignEach es X.env).findIdx? (·.1) = none := by rfl) : DG X (.Tuple es k pos) ts (bTup bds) := by
  obtain ⟨g, p1, q1⟩ := h
  refine ⟨_, pg_tup hc p1 hn hst, fun sA H0 v d σ H I env env' Q s r rp e q => ?_⟩
  cases d with
  | tuple ds =>
    cases rp with
    | tup h1 h2 => exact ⟨_, _, rfl, SqT.mono s h1, by rw [h2.length]; exact bAll_len e, q1 sA H0 _ _ σ H I env env' Q s r h2 e q⟩
  | _ => cases e
end

/-! ### comprehensions -/
theorem Grow.mut {sA : Option Addr} {H I H' I' : Hp} {p : Addr} {o : HO} (g : Grow sA H I H' I') (hp : H p = none) : Grow sA H I (upd H' p o) I' where
  keep := fun b u h e => by rw [upd_ne (ne_of_none e hp)]; exact g.keep b u h e
  dom := fun b h => by
    by_cases hb : b = p
    · subst hb; rw [upd_same]; simp
    · rw [upd_ne hb]; exact g.dom b h
  inc := g.inc
  new := g.new
theorem World.mut {K : Fg} {sA : Option Addr} {H I : Hp} {ls : LS} {p : Addr} {o : HO} (w : World K sA H I ls) (hi : I p = none) (hs : sA ≠ some p) : World K sA (upd H p o) I ls := by
  refine ⟨fun b u e => by rw [upd_ne (ne_of_none e hi)]; exact w.sub b u e, fun a e => ?_⟩
  obtain ⟨h1, h2, c, h3, h4⟩ := w.st a e
  exact ⟨h1, h2, c, by rw [upd_ne (fun z => hs (by rw [e, z]))]; exact h3, h4⟩

def tSem (K : Fg) (ev : Ex → Value) (W : WX) (md : Md) (f : DEnv → M D) : TE := fun σ H Q => ∃ sA H0 I ls env, World K sA H I ls ∧ RelE K sA H0 σ H I env ∧ PostE K ev W sA σ H I md (f env ls) Q
def ttSem (K : Fg) (ev : Ex → Value) (W : WX) (f : DEnv → M Bool) : TT := fun σ H Q => ∃ sA H0 I ls env, World K sA H I ls ∧ RelE K sA H0 σ H I env ∧ Post K ev W sA σ H I (f env ls) (fun b _ H' _ => Q b H')
def gSem (K : Fg) (ts : List Nat) (bd : Bd) : TG := fun v σ H Q => ∃ sA H0 d I env env', Same I H ∧ RelE K sA H0 σ H I env ∧ Rep K I v d ∧ bd d env = some env' ∧
  (∀ σ', RelE K sA H0 σ' H I env' → (∀ vs : List Nat, (∀ i ∈ ts, i ∈ vs) → L2.wipe σ' vs = L2.wipe σ vs) → Q σ' H)
theorem DE.sem {X : Cx} {ev : Ex → Value} {W : WX} {md : Md} {e : Expr} {f : DEnv → M D} (h : DE X ev W md e f) : PE X e (tSem X.K ev W md f) := by
  obtain ⟨t, p, q⟩ := h
  exact ⟨fun pins s σ H Q I ⟨sA, H0, I', ls, env, w, r, po⟩ => p.run pins s σ H Q I (q sA H0 σ H I' ls env Q w r po)⟩
theorem DT.sem {X : Cx} {ev : Ex → Value} {W : WX} {e : Expr} {f : DEnv → M Bool} (h : DT X ev W e f) : PT X e (ttSem X.K ev W f) := by
  obtain ⟨t, p, q⟩ := h
  exact ⟨fun pins s σ H Q I ⟨sA, H0, I', ls, env, w, r, po⟩ => p.run pins s σ H Q I (q sA H0 σ H I' ls env Q w r po)⟩
theorem DG.sem {X : Cx} {e : Expr} {ts : List Nat} {bd : Bd} (h : DG X e ts bd) : PG X e (gSem X.K ts bd) := by
  obtain ⟨t, p, q⟩ := h
  exact ⟨fun pins s σ H v u Q I rv ⟨sA, H0, d, I', env, env', sm, r, rp, e, k⟩ => p.run pins s σ H v u Q I rv (q sA H0 v d σ H I' env env' Q sm r rp e k)⟩
/-- in a comprehension nothing may be raised -/
abbrev W0 : WX := fun _ _ _ _ => False
def noErr {α : Type} (m : M α) : M α := fun s => match m s with
  | .err _ _ => .stuck
  | r => r
theorem noErr_post {K : Fg} {ev : Ex → Value} {W W' : WX} {sA : Option Addr} {σ σ' : L2.St} {H I : Hp} {α β : Type} {m : M α} {k : α → M β} {ls : LS} {R : β → LS → Hp → Hp → Prop} (h : Post K ev W sA σ H I ((noErr m >>= k) ls) R) :
    Post K ev W' sA σ' H I (m ls) fun a ls1 H1 I1 => Post K ev W sA σ H I (k a ls1) R := by
  revert h
  show Post K ev W sA σ H I (M.bind (noErr m) k ls) R → _
  unfold M.bind noErr
  cases m ls with
  | ok a ls' => exact fun h H' I' g w => h
  | err e ls' => exact fun h => h.elim
  | stuck => exact fun h => h.elim
def lcGo (bd : Bd) (ft : DEnv → M Bool) (fe : DEnv → M D) (env : DEnv) : List D → M (List D)
  | [] => pure []
  | d :: ds => match bd d env with
    | none => stuck
    | some env1 => noErr (ft env1) >>= fun b => if b = true then noErr (fe env1) >>= fun y => lcGo bd ft fe env ds >>= fun ys => pure (y :: ys) else lcGo bd ft fe env ds
def lim1 {α : Type} (ds : List α) : Bool := decide (ds.length < 16777216)
def eLc (vs : List Nat) (bd : Bd) (fi : DEnv → M (List D)) (ft : DEnv → M Bool) (fe : DEnv → M D) : DEnv → M D := fun env => fi env >>= fun ds =>
  if lim1 ds = true then lcGo bd ft fe (wipeE env vs) ds >>= fun ys => pure (.list ys) else stuck
def tYesB : DEnv → M Bool := fun _ => pure true
def DTs (X : Cx) (ev : Ex → Value) (W : WX) (ifs : List Expr) (f : DEnv → M Bool) : Prop := PTs X ifs (ttSem X.K ev W f)
section
variable {X : Cx} {ev : Ex → Value} {W : WX} {md : Md} {elt tg iter c : Expr} {fe : DEnv → M D} {pos p : Pos} {fi : DEnv → M (List D)} {ft : DEnv → M Bool} {scope : Scope} {own : List (Str × Nat)} {ts : List Nat} {bd : Bd} {ifs : List Expr}
theorem dts_nil : DTs X ev W [] tYesB := ⟨fun pins s σ H Q I ⟨sA, H0, I', ls, env, w, r, po⟩ => pts_nil.run pins s σ H Q I (po H I' .refl w)⟩
theorem dts_one (h : DT X ev W c ft) : DTs X ev W [c] ft := pts_one h.sem
theorem sat_lc {K : Fg} {wi : TI} {vs : List Nat} (qi : SatI K ev W true wi fi) (hts : ∀ i ∈ ts, i ∈ vs) : Sat K ev W .fresh (tLc wi (gSem K ts bd) (ttSem K ev W0 ft) (tSem K ev W0 .strict fe) vs) (eLc vs bd fi ft fe) := by
  intro sA H0 σ H I ls env Q w r po
  refine qi sA H0 σ H I ls env _ w r (po.bind.mono fun ds ls1 H1 I1 _ g1 w1 p1 J ⟨G, Y, wk, hG, hY⟩ Dl hD => ?_)
  by_cases hl : lim1 ds = true
  · rw [if_pos hl] at p1
    have hl' : ds.length < 16777216 := of_decide_eq_true hl
    have r1 := (r.grow g1).wipe (vs)
    have sD : sA ≠ some Dl := fun z => by obtain ⟨_, _, c, h3, _⟩ := w1.st Dl z; rw [h3] at hD; cases hD
    refine lc_it wk (fun i Hx => ∃ I' ls' accV acc, Grow sA H1 I1 Hx I' ∧ World K sA Hx I' ls' ∧ Hx Dl = some (.lst accV) ∧ I' Dl = none ∧ Reps K I' accV acc ∧ acc.length ≤ i ∧
      Post K ev W sA σ H I ((lcGo bd ft fe (wipeE env (vs)) (ds.drop i) >>= fun ys => pure (PyData.list (acc ++ ys))) ls') fun d _ H' I' => ∀ v, RepM K sA H .fresh H' I' v d → Q v H') ?_ ?_ ?_ ?_
    · refine ⟨I1, ls1, [], [], .laidM hD, w1.laidM hD, upd_same, w1.free hD, .nil, Nat.le_refl _, ?_⟩
      exact p1
    · rintro i Hx hi ⟨I', ls', accV, acc, g2, w2, _⟩
      exact hG Hx I' g2.inc w2.sub fun _ => g2
    · rintro i x Hx H' hi ⟨I', ls', accV, acc, g2, w2, hD2, hI2, ra, hal, po2⟩ y
      obtain ⟨I2, d, g3, w3, hd, hr⟩ := hY i Hx I' ls' x H' g2.inc (fun _ => g2) w2 hi y
      have hdrop : ds.drop i = d :: ds.drop (i + 1) := by
        have hlt : i < ds.length := hi
        rw [List.drop_eq_getElem_cons hlt]
        have : ds[i] = d := by rw [List.getElem?_eq_getElem hlt] at hd; exact Option.some.inj hd
        rw [this]
      rw [hdrop] at po2
      have r3 := (r1.grow g2).grow g3
      have hD3 : H' Dl = some (.lst accV) := g3.keep Dl _ sD hD2
      have hI3 : I2 Dl = none := by
        cases e : I2 Dl with
        | none => rfl
        | some u => rcases g3.new Dl (by rw [e]; simp) with z | z
                    · exact absurd hI2 z
                    · rw [hD2] at z; cases z
      have ra3 := ra.mono g3.inc
      cases eb : bd d (wipeE env (vs)) with
      | none => simp only [lcGo, eb] at po2; exact po2.elim
      | some env1 =>
        simp only [lcGo, eb] at po2
        refine ⟨sA, H0, d, I2, _, env1, w3.sub, r3, hr, eb, fun σ2 r4 k4 => ⟨(k4 _ hts).trans (wipe_idem fun i h => h), ?_⟩⟩
        rw [bind_assoc] at po2
        have gg := (g1.trans g2).trans g3
        refine ⟨sA, H0, I2, ls', env1, w3, r4, ((noErr_post (W' := W0) (σ' := σ2) po2).grow gg).mono fun b ls4 H4 I4 _ g4 w4 p4 => ?_⟩
        have hD4 : H4 Dl = some (.lst accV) := g4.keep Dl _ sD hD3
        have hI4 : I4 Dl = none := by
          cases e : I4 Dl with
          | none => rfl
          | some u => rcases g4.new Dl (by rw [e]; simp) with z | z
                      · exact absurd hI3 z
                      · rw [hD3] at z; cases z
        cases b with
        | true =>
          dsimp only
          rw [if_pos rfl] at p4 ⊢
          rw [bind_assoc] at p4
          refine ⟨sA, H0, I4, ls4, env1, w4, r4.grow g4, ((noErr_post (W' := W0) (σ' := σ2) p4).grow (gg.trans g4)).mono fun yd ls5 H5 I5 _ g5 w5 p5 y hy => ?_⟩
          have hD5 : H5 Dl = some (.lst accV) := g5.keep Dl _ sD hD4
          have hI5 : I5 Dl = none := by
            cases e : I5 Dl with
            | none => rfl
            | some u => rcases g5.new Dl (by rw [e]; simp) with z | z
                        · exact absurd hI4 z
                        · rw [hD4] at z; cases z
          have ra5 : Reps K I5 accV acc := (ra3.mono g4.inc).mono g5.inc
          refine ⟨accV, hD5, by rw [ra5.length, sizeLine_eq]; omega, I5, ls5, accV ++ [y], acc ++ [yd], ((((Grow.mut (g2.trans (g3.trans (g4.trans g5))) hD)))), w5.mut hI5 sD, upd_same, hI5, ra5.append (.cons hy .nil), by rw [List.length_append]; simp; omega, ?_⟩
          rw [bind_assoc] at p5
          simpa [pure_bind, List.append_assoc] using p5
        | false =>
          dsimp only
          rw [if_neg Bool.false_ne_true] at p4 ⊢
          exact ⟨I4, ls4, accV, acc, g2.trans (g3.trans g4), w4, hD4, hI4, ra3.mono g4.inc, by omega, p4⟩
    · rintro Hx ⟨I', ls', accV, acc, g2, w2, hD2, hI2, ra, hal, po2⟩
      rw [List.drop_length] at po2
      have p3 : Post K ev W sA σ H I ((pure (PyData.list (acc ++ [])) : M D) ls') _ := po2
      refine p3 Hx I' (g1.trans g2) w2 _ ⟨Dl, rfl, ⟨accV, hD2, by rw [List.append_nil]; exact ra⟩, ?_, hI2, sD⟩
      cases e : H Dl with
      | none => rfl
      | some o => exact absurd hD (g1.dom Dl (by rw [e]; simp))
  · rw [if_neg hl] at p1; exact p1.elim
theorem de_lc (hc : X.calm = true) (hN : X.N.Nodup) (hi : DI X ev W true tg iter fi) (ok : BlkOk X.N X.env.scope scope own) (hts : ∀ i ∈ ts, i ∈ own.map (·.2))
    (hg : ∀ (s : Shared) (H : Hp) (C : Addr) (cl : List (Str × Addr)) (fp : List Addr), DG (X.blk s H scope (compEnvC scope cl C X.env) fp) tg ts bd)
    (ht : ∀ (s : Shared) (H : Hp) (C : Addr) (cl : List (Str × Addr)) (fp : List Addr), DTs (X.blk s H scope (compEnvC scope cl C X.env) fp) ev W0 ifs ft)
    (he : ∀ (s : Shared) (H : Hp) (C : Addr) (cl : List (Str × Addr)) (fp : List Addr), DE (X.blk s H scope (compEnvC scope cl C X.env) fp) ev W0 .strict elt fe) (hs : ∀ x, foldedSetIterable iter X.env x = pure x := by intro _; rfl) :
    DE X ev W .fresh (.ListComp elt [⟨tg, iter, ifs, 0⟩] scope pos) (eLc (own.map (·.2)) bd fi ft fe) := by
  obtain ⟨wi, pi, qi⟩ := hi
  exact ⟨_, pe_lc (g := gSem X.K ts bd) (tt := ttSem X.K ev W0 ft) (te := tSem X.K ev W0 .strict fe) hc hN pi ok (fun s H C cl fp => (hg s H C cl fp).sem) (fun s H C cl fp => ht s H C cl fp) (fun s H C cl fp => (he s H C cl fp).sem) hs, sat_lc qi hts⟩
end
end DL

/-! DL, part 6: statements, defs. -/
namespace DL
open PySem PySem.Spec PyProof.Rows L2

inductive Out where
  | nx (e : DEnv) | rt (d : D) | bk (e : DEnv) | ct (e : DEnv)
def PostS (K : Fg) (ev : Ex → Value) (W : WX) (sA : Option Addr) (H0 I0 : Hp) (r : Res Out) (Dn : Ends) : Prop := match r with
  | .ok (.nx env) ls => ∀ σ H I, Grow sA H0 I0 H I → World K sA H I ls → RelE K sA H0 σ H I env → Dn.nx σ H
  | .ok (.rt d) ls => ∀ v H I, Grow sA H0 I0 H I → World K sA H I ls → Rep K I v d → Dn.rt v H
  | .ok (.bk env) ls => ∀ σ H I, Grow sA H0 I0 H I → World K sA H I ls → RelE K sA H0 σ H I env → Dn.bk σ H
  | .ok (.ct env) ls => ∀ σ H I, Grow sA H0 I0 H I → World K sA H I ls → RelE K sA H0 σ H I env → Dn.ct σ H
  | .err e ls => ∀ σ H I, Grow sA H0 I0 H I → World K sA H I ls → W (ev e) none σ H
  | .stuck => False
def SatS (K : Fg) (ev : Ex → Value) (W : WX) (t : TS) (g : DEnv → M Out) : Prop := ∀ sA H0 I0 σ H I ls env Dn, Grow sA H0 I0 H I → World K sA H I ls → RelE K sA H0 σ H I env → PostS K ev W sA H0 I0 (g env ls) Dn → t Dn σ H
def DS (X : Cx) (ev : Ex → Value) (W : WX) (st : Stmt) (g : DEnv → M Out) : Prop := ∃ t, PS X st t ∧ SatS X.K ev W t g
def DSs (X : Cx) (ev : Ex → Value) (W : WX) (sts : List Stmt) (g : DEnv → M Out) : Prop := ∃ t, PSs X sts t ∧ SatS X.K ev W t g
section
variable {K : Fg} {ev : Ex → Value} {W : WX} {sA : Option Addr} {H0 I0 H I : Hp} {σ : L2.St} {α : Type}
theorem postS_bind {m : M α} {k : α → M Out} {ls : LS} {Dn : Ends} (g : Grow sA H0 I0 H I) (po : PostS K ev W sA H0 I0 ((m >>= k) ls) Dn) :
    Post K ev W sA σ H I (m ls) fun a ls1 H1 I1 => Grow sA H0 I0 H1 I1 ∧ PostS K ev W sA H0 I0 (k a ls1) Dn := by
  revert po
  show PostS K ev W sA H0 I0 (M.bind m k ls) Dn → _
  unfold M.bind
  cases m ls with
  | ok a ls' => exact fun po H1 I1 g1 w1 => ⟨g.trans g1, po⟩
  | err e ls' => exact fun po H1 I1 g1 w1 => po σ H1 I1 (g.trans g1) w1
  | stuck => exact id
theorem Sat.runS {md : Md} {t : TE} {f : DEnv → M D} {ls : LS} {env : DEnv} {Q : VK} {k : D → M Out} {Dn : Ends} (h : Sat K ev W md t f) (g : Grow sA H0 I0 H I) (w : World K sA H I ls) (r : RelE K sA H0 σ H I env)
    (po : PostS K ev W sA H0 I0 ((f env >>= k) ls) Dn)
    (nx : ∀ v d ls1 H1 I1, Grow sA H0 I0 H1 I1 → Grow sA H I H1 I1 → World K sA H1 I1 ls1 → RelE K sA H0 σ H1 I1 env → RepM K sA H md H1 I1 v d → PostS K ev W sA H0 I0 (k d ls1) Dn → Q v H1) : t σ H Q :=
  h sA H0 σ H I ls env Q w r ((postS_bind g po).mono fun d ls1 H1 I1 _ g1 w1 ⟨g2, p⟩ v rp => nx v d ls1 H1 I1 g2 g1 w1 (r.grow g1) rp p)
/-- what may be changed, at slot i -/
theorem RelE.setO {env : DEnv} {a : Addr} {d : D} (r : RelE K sA H0 σ H I env) (i : Nat) (h1 : OwnAt K H I a d) (h2 : H0 a = none) (h3 : I a = none) (h4 : sA ≠ some a)
    (h5 : ∀ j e, j ≠ i → env[j]? = some (some (.own e)) → σ[j]? ≠ some (some (.ref a))) : RelE K sA H0 (σ.set i (some (.ref a))) H I (env.set i (some (.own d))) := by
  have ne : ∀ {j : Nat} {x : DV}, i ≠ j → (env.set i (some (.own d)))[j]? = some (some x) → env[j]? = some (some x) ∧ (σ.set i (some (.ref a)))[j]? = σ[j]? := fun {j x} hj q => by
    rw [List.getElem?_set_ne hj] at q
    exact ⟨q, List.getElem?_set_ne hj⟩
  have at_ : ∀ {x : DV}, (env.set i (some (.own d)))[i]? = some (some x) → x = .own d ∧ (σ.set i (some (.ref a)))[i]? = some (some (.ref a)) := fun {x} q => by
    have hi : i < env.length := by
      have h2 := (List.getElem?_eq_some_iff.mp q).1
      rw [List.length_set] at h2; exact h2
    rw [List.getElem?_set_self hi] at q
    cases q
    exact ⟨rfl, by rw [List.getElem?_set_self (by rw [← r.len]; exact hi)]⟩
  refine ⟨by rw [List.length_set, List.length_set]; exact r.len, fun j e q => ?_, fun j e q => ?_, fun j l b d1 d2 q1 q2 q3 q4 => ?_, fun j q => ?_⟩
  · by_cases hj : i = j
    · subst hj; obtain ⟨z, _⟩ := at_ q; cases z
    · obtain ⟨k1, k2⟩ := ne hj q; rw [k2]; exact r.val j e k1
  · by_cases hj : i = j
    · subst hj; obtain ⟨z, k⟩ := at_ q; cases z; exact ⟨a, k, h1, h2, h3, h4⟩
    · obtain ⟨k1, k2⟩ := ne hj q; rw [k2]; exact r.own j e k1
  · by_cases hj : i = j
    · subst hj
      by_cases hl : i = l
      · exact hl
      · obtain ⟨k1, k2⟩ := ne hl q2
        obtain ⟨_, k3⟩ := at_ q1
        rw [k3] at q3; cases q3
        rw [k2] at q4
        exact absurd q4 (h5 l d2 (Ne.symm hl) k1)
    · obtain ⟨k1, k2⟩ := ne hj q1
      rw [k2] at q3
      by_cases hl : i = l
      · subst hl
        obtain ⟨_, k3⟩ := at_ q2
        rw [k3] at q4; cases q4
        exact absurd q3 (h5 j d1 (Ne.symm hj) k1)
      · obtain ⟨k1', k2'⟩ := ne hl q2
        rw [k2'] at q4
        exact r.inj j l b d1 d2 k1 k1' q3 q4
  · by_cases hj : i = j
    · subst hj; obtain ⟨z, _⟩ := at_ q; cases z
    · obtain ⟨k1, k2⟩ := ne hj q; rw [k2]; exact r.st j k1
/-- the object at slot i is changed -/
theorem RelE.mutO {env : DEnv} {a : Addr} {d d' : D} {o : HO} (r : RelE K sA H0 σ H I env) {i : Nat} (hi : env[i]? = some (some (.own d))) (hs : σ[i]? = some (some (.ref a))) (h1 : OwnAt K (upd H a o) I a d') :
    RelE K sA H0 σ (upd H a o) I (env.set i (some (.own d'))) := by
  obtain ⟨b, k1, k2, k3, k4, k5⟩ := r.own i d hi
  rw [hs] at k1; cases k1
  have other : ∀ j e, j ≠ i → env[j]? = some (some (.own e)) → σ[j]? ≠ some (some (.ref a)) := fun j e hj q z => hj (r.inj j i a e d q hi z hs)
  have hil : i < σ.length := (List.getElem?_eq_some_iff.mp hs).1
  have r' : RelE K sA H0 σ (upd H a o) I (env.set i none) := by
    have r0 := r.unset i
    have ne : ∀ {j : Nat} {x : DV}, (env.set i none)[j]? = some (some x) → i ≠ j ∧ env[j]? = some (some x) := fun {j x} q => by
      by_cases hj : i = j
      · subst hj
        have hi : i < env.length := by
          have h2 := (List.getElem?_eq_some_iff.mp q).1
          rw [List.length_set] at h2; exact h2
        rw [List.getElem?_set_self hi] at q
        cases q
      · rw [List.getElem?_set_ne hj] at q
        exact ⟨hj, q⟩
    refine ⟨by rw [List.length_set]; exact r.len, fun j e q => r.val j e (ne q).2, fun j e q => ?_, fun j l b d1 d2 q1 q2 => r.inj j l b d1 d2 (ne q1).2 (ne q2).2, fun j q => r.st j (ne q).2⟩
    obtain ⟨hj, q'⟩ := ne q
    obtain ⟨c, z1, z2, z3, z4, z5⟩ := r.own j e q'
    have hca : c ≠ a := fun z => other j e (Ne.symm hj) q' (by rw [← z]; exact z1)
    exact ⟨c, z1, z2.mono (fun o h => by rw [upd_ne hca]; exact h) (Same.refl _), z3, z4, z5⟩
  have r2 := r'.setO i (d := d') h1 k3 k4 k5 fun j e hj q => by
    rw [List.getElem?_set_ne (Ne.symm hj)] at q
    exact other j e hj q
  rw [List.set_set] at r2
  have : σ.set i (some (V.ref a)) = σ := by
    apply List.ext_getElem?
    intro n
    by_cases hn : i = n
    · subst hn; rw [List.getElem?_set_self hil, hs]
    · rw [List.getElem?_set_ne hn]
  rw [this] at r2
  exact r2
theorem World.mutO {ls : LS} {env : DEnv} {a : Addr} {d : D} {o : HO} (w : World K sA H I ls) (r : RelE K sA H0 σ H I env) {i : Nat} (hi : env[i]? = some (some (.own d))) (hs : σ[i]? = some (some (.ref a))) : World K sA (upd H a o) I ls := by
  obtain ⟨b, k1, k2, k3, k4, k5⟩ := r.own i d hi
  rw [hs] at k1; cases k1
  exact w.mut k4 k5
theorem Grow.mutO {env : DEnv} {a : Addr} {d : D} {o : HO} (g : Grow sA H0 I0 H I) (r : RelE K sA H0 σ H I env) {i : Nat} (hi : env[i]? = some (some (.own d))) (hs : σ[i]? = some (some (.ref a))) : Grow sA H0 I0 (upd H a o) I := by
  obtain ⟨b, k1, k2, k3, k4, k5⟩ := r.own i d hi
  rw [hs] at k1; cases k1
  exact g.mut k3
end

/-! ### statements -/
def sNext : DEnv → M Out := fun env => pure (.nx env)
def sSeq (f g : DEnv → M Out) : DEnv → M Out := fun env => f env >>= fun o => match o with
  | .nx e => g e
  | o => pure o
section
variable {X : Cx} {ev : Ex → Value} {W : WX} {st : Stmt} {rest a b : List Stmt} {e c : Expr} {f fa : DEnv → M D} {fc : DEnv → M Bool} {g h : DEnv → M Out} {pos p : Pos} {ts : List Nat} {bd : Bd}
theorem dss_nil : DSs X ev W [] sNext := ⟨_, pss_nil, fun sA H0 I0 σ H I ls env Dn gr w r po => po σ H I gr w r⟩
theorem dss_one (h1 : DS X ev W st g) : DSs X ev W [st] g := let ⟨_, p, q⟩ := h1; ⟨_, pss_one p, q⟩
theorem dss_cons (h1 : DS X ev W st g) (h2 : DSs X ev W rest h) : DSs X ev W (st :: rest) (sSeq g h) := by
  obtain ⟨t, p1, q1⟩ := h1
  obtain ⟨u, p2, q2⟩ := h2
  refine ⟨_, pss_cons p1 p2, fun sA H0 I0 σ H I ls env Dn gr w r po => q1 sA H0 I0 σ H I ls env _ gr w r ?_⟩
  revert po
  show PostS X.K ev W sA H0 I0 (M.bind (g env) _ ls) Dn → _
  unfold M.bind
  cases g env ls with
  | ok o ls' =>
    cases o with
    | nx e => exact fun po σ' H' I' g' w' r' => q2 sA H0 I0 σ' H' I' ls' e Dn g' w' r' po
    | rt d => exact id
    | bk e => exact id
    | ct e => exact id
  | err e ls' => exact id
  | stuck => exact id
theorem ds_pass : DS X ev W (.Pass pos) sNext := ⟨_, ps_pass, fun sA H0 I0 σ H I ls env Dn gr w r po => po σ H I gr w r⟩
theorem ds_break : DS X ev W (.Break pos) (fun env => pure (.bk env)) := ⟨_, ps_break, fun sA H0 I0 σ H I ls env Dn gr w r po => po σ H I gr w r⟩
theorem ds_continue : DS X ev W (.Continue pos) (fun env => pure (.ct env)) := ⟨_, ps_continue, fun sA H0 I0 σ H I ls env Dn gr w r po => po σ H I gr w r⟩
def sRet (f : DEnv → M D) : DEnv → M Out := fun env => f env >>= fun d => pure (.rt d)
theorem ds_ret (h : DE X ev W .strict e f) : DS X ev W (.Return (some e) pos) (sRet f) := by
  obtain ⟨t, p, q⟩ := h
  exact ⟨_, ps_ret p, fun sA H0 I0 σ H I ls env Dn gr w r po => q.runS gr w r po fun v d ls1 H1 I1 g0 g1 w1 r1 rp p1 => p1 v H1 I1 g0 w1 rp⟩
def sExpr (f : DEnv → M D) : DEnv → M Out := fun env => f env >>= fun _ => pure (.nx env)
theorem ds_expr (h : DE X ev W .strict e f) (hs : swapsWith e none pos.line X.env = pure false := by rfl) : DS X ev W (.Expr e pos) (sExpr f) := by
  obtain ⟨t, p, q⟩ := h
  exact ⟨_, ps_expr p hs, fun sA H0 I0 σ H I ls env Dn gr w r po => q.runS gr w r po fun v d ls1 H1 I1 g0 g1 w1 r1 rp p1 => p1 σ H1 I1 g0 w1 r1⟩
def sIf (c : DEnv → M Bool) (g h : DEnv → M Out) : DEnv → M Out := fun env => c env >>= fun b => if b = true then g env else h env
theorem ds_if (hc : DT X ev W c fc) (ha : DSs X ev W a g) (hb : DSs X ev W b h) : DS X ev W (.If c a b pos) (sIf fc g h) := by
  obtain ⟨tc, pc, qc⟩ := hc
  obtain ⟨ta, pa, qa⟩ := ha
  obtain ⟨tb, pb, qb⟩ := hb
  refine ⟨_, ps_if pc pa pb, fun sA H0 I0 σ H I ls env Dn gr w r po => qc sA H0 σ H I ls env _ w r ((postS_bind gr po).mono fun k ls1 H1 I1 _ g1 w1 ⟨g0, p1⟩ => ?_)⟩
  cases k with
  | true => exact qa sA H0 I0 σ H1 I1 ls1 env Dn g0 w1 (r.grow g1) p1
  | false => exact qb sA H0 I0 σ H1 I1 ls1 env Dn g0 w1 (r.grow g1) p1
/-- a name, from a value that never changes -/
def sSet (i : Nat) (f : DEnv → M D) : DEnv → M Out := fun env => f env >>= fun d => pure (.nx (env.set i (some (.val d))))
theorem ds_set (i : Nat) {x : Str} {pos' : Pos} (hN : X.N.Nodup) (he : DE X ev W .strict e f) (hi : X.N[i]? = some x := by rfl) (hx : Loc X.env.scope x := by first | exact Or.inl rfl | exact Or.inr rfl) (hs : swapsWith e (some (.Name x pos')) pos.line X.env = pure false := by rfl)
    (hf : X.fn x = true ∨ X.env.scope.names.lookup x = some .local := by first | exact .inl rfl | exact .inr rfl) : DS X ev W (.Assign [.Name x pos'] e pos) (sSet i f) := by
  obtain ⟨t, p, q⟩ := he
  exact ⟨_, ps_set hN hi hx p hs hf, fun sA H0 I0 σ H I ls env Dn gr w r po => q.runS gr w r po fun v d ls1 H1 I1 g0 g1 w1 r1 rp p1 => p1 _ H1 I1 g0 w1 (r1.set i rp)⟩
/-- .. from a new list that may be changed -/
def sOwn (i : Nat) (f : DEnv → M D) : DEnv → M Out := fun env => f env >>= fun d => pure (.nx (env.set i (some (.own d))))
theorem ds_own (i : Nat) {x : Str} {pos' : Pos} (hN : X.N.Nodup) (he : DE X ev W .fresh e f) (hi : X.N[i]? = some x := by rfl) (hx : Loc X.env.scope x := by first | exact Or.inl rfl | exact Or.inr rfl) (hs : swapsWith e (some (.Name x pos')) pos.line X.env = pure false := by rfl)
    (hf : X.fn x = true ∨ X.env.scope.names.lookup x = some .local := by first | exact .inl rfl | exact .inr rfl) : DS X ev W (.Assign [.Name x pos'] e pos) (sOwn i f) := by
  obtain ⟨t, p, q⟩ := he
  refine ⟨_, ps_set hN hi hx p hs hf, fun sA H0 I0 σ H I ls env Dn gr w r po => q.runS gr w r po fun v d ls1 H1 I1 g0 g1 w1 r1 rp p1 => ?_⟩
  obtain ⟨a, rfl, h1, h2, h3, h4⟩ := rp
  refine p1 _ H1 I1 g0 w1 (r1.setO i h1 ?_ h3 h4 fun j e hj q z => ?_)
  · cases k : H0 a with
    | none => rfl
    | some o => exact absurd h2 (gr.dom a (by rw [k]; simp))
  · obtain ⟨b, z1, z2, _⟩ := r.own j e q
    rw [z] at z1; cases z1
    obtain ⟨o, ho⟩ := z2.there
    rw [ho] at h2; cases h2
/-- any target -/
def sAsg (bd : Bd) (f : DEnv → M D) : DEnv → M Out := fun env => f env >>= fun d => match bd d env with
  | some env' => pure (.nx env')
  | none => stuck
theorem ds_asg {tg : Expr} (he : DE X ev W .strict e f) (hg : DG X tg ts bd) (hs : swapsWithSole [tg] e pos.line X.env = pure false := by rfl) (hw : swappedStores [tg] e X.env = pure none := by rfl)
    (h1 : (assignEach [tg] X.env).map (·.2) = [assign tg X.env] := by rfl) : DS X ev W (.Assign [tg] e pos) (sAsg bd f) := by
  obtain ⟨t, p, q⟩ := he
  obtain ⟨gg, pg, qg⟩ := hg
  refine ⟨_, ps_asg p pg hs hw h1, fun sA H0 I0 σ H I ls env Dn gr w r po => q.runS gr w r po fun v d ls1 H1 I1 g0 g1 w1 r1 rp p1 => ?_⟩
  cases eb : bd d env with
  | none => rw [eb] at p1; exact p1.elim
  | some env' =>
    rw [eb] at p1
    exact qg sA H0 v d σ H1 I1 env env' _ w1.sub r1 rp eb fun σ' r' _ => p1 σ' H1 I1 g0 w1 r'
/-- x, y = a, b -/
def sPar (i j : Nat) (fr : DEnv → M (List D)) : DEnv → M Out := fun env => fr env >>= fun ds => match ds with
  | [d1, d2] => pure (.nx ((env.set i (some (.val d1))).set j (some (.val d2))))
  | _ => stuck
theorem ds_par (i j : Nat) {x y : Str} {e1 e2 : Expr} {fr : DEnv → M (List D)} {px py pt : Pos} {kt k2 pt2} (hc : X.calm = true) (hN : X.N.Nodup) (ha : DA X ev W [e1, e2] fr) (hi : X.N[i]? = some x := by rfl) (hj : X.N[j]? = some y := by rfl) (hij : i ≠ j := by decide)
    (hx : X.env.scope.names.lookup x = some .local := by rfl) (hy : X.env.scope.names.lookup y = some .local := by rfl)
    (hw : swappedStores [.Tuple [.Name x px, .Name y py] kt pt] (.Tuple [e1, e2] k2 pt2) X.env = pure (some [x, y]) := by rfl)
    (hs : swapsWithSole [.Tuple [.Name x px, .Name y py] kt pt] (.Tuple [e1, e2] k2 pt2) pos.line X.env = pure false := by rfl) :
    DS X ev W (.Assign [.Tuple [.Name x px, .Name y py] kt pt] (.Tuple [e1, e2] k2 pt2) pos) (sPar i j fr) := by
  obtain ⟨t, p, q⟩ := ha
  refine ⟨_, ps_par hc hN hi hj hij hx hy p hw hs, fun sA H0 I0 σ H I ls env Dn gr w r po => q sA H0 σ H I ls env _ w r ((postS_bind gr po).mono fun ds ls1 H1 I1 _ g1 w1 ⟨g0, p1⟩ vs rs => ?_)⟩
  match ds, p1, rs with
  | [d1, d2], p1, .cons r1 (.cons r2 .nil) => exact ⟨_, _, rfl, p1 _ H1 I1 g0 w1 (((r.grow g1).set i r1).set j r2)⟩
/-- name op= e -/
def sAug (i : Nat) (op : D → D → Option D) (f : DEnv → M D) : DEnv → M Out := fun env => eV i env >>= fun x => f env >>= fun y => lift (op x y) >>= fun z => pure (.nx (env.set i (some (.val z))))
theorem ds_aug (i : Nat) {x : Str} {op : Operator} {o : D → D → Option D} {pos' : Pos} (hN : X.N.Nodup) (ho : OpS X .strict (inplaceOp op) o) (he : DE X ev W .oper e f) (hi : X.N[i]? = some x := by rfl) (hx : Loc X.env.scope x := by first | exact Or.inl rfl | exact Or.inr rfl)
    (hf : X.fn x = true ∨ X.env.scope.names.lookup x = some .local := by first | exact .inl rfl | exact .inr rfl) : DS X ev W (.AugAssign (.Name x pos') op e pos) (sAug i o f) := by
  obtain ⟨t, p, q⟩ := he
  obtain ⟨rr, ho1, ho2⟩ := ho
  refine ⟨_, ps_aug hN hi hx p (ti := rr) (fun pins s σ H x y v u Q I rx ry h => ho1 pins s σ H x y v u Q I rx ry h) hf, fun sA H0 I0 σ H I ls env Dn gr w r po => ?_⟩
  have key : ∃ d, env[i]? = some (some (.val d)) ∧ PostS X.K ev W sA H0 I0 ((f env >>= fun y => lift (o d y) >>= fun z => pure (.nx (env.set i (some (.val z))))) ls) Dn := by
    revert po
    show PostS X.K ev W sA H0 I0 (M.bind (eV i env) _ ls) Dn → _
    unfold eV
    cases k : env[i]? with
    | none => exact fun po => po.elim
    | some ov =>
      cases ov with
      | none => exact fun po => po.elim
      | some dv =>
        cases dv with
        | val d => exact fun po => ⟨d, rfl, po⟩
        | _ => exact fun po => po.elim
  obtain ⟨d, hd, po⟩ := key
  obtain ⟨v, hv, rv⟩ := r.val i d hd
  refine ⟨v, hv, q.runS gr w r po fun y dy ls1 H1 I1 g0 g1 w1 r1 rp p1 => ?_⟩
  cases k : o d dy with
  | none => rw [k] at p1; exact p1.elim
  | some z =>
    rw [k] at p1
    exact ho2 sA H1 I1 ls1 v y d dy z _ w1 (.inl (rv.mono g1.inc)) rp k fun u H2 I2 g2 w2 ru => p1 _ H2 I2 (g0.trans g2) w2 ((r1.grow g2).set i ru)
end

/-! ### loops -/
def forGo (bd : Bd) (body : DEnv → M Out) : List D → DEnv → M Out
  | [], env => pure (.nx env)
  | d :: ds, env => match bd d env with
    | none => stuck
    | some e1 => body e1 >>= fun o => match o with
      | .nx e => forGo bd body ds e
      | .ct e => forGo bd body ds e
      | .bk e => pure (.nx e)
      | .rt d => pure (.rt d)
def sFor (bd : Bd) (fi : DEnv → M (List D)) (body : DEnv → M Out) : DEnv → M Out := fun env => fi env >>= fun ds => forGo bd body ds env
def whGo (c : DEnv → M Bool) (body : DEnv → M Out) : Nat → DEnv → M Out
  | 0, _ => stuck
  | n + 1, env => c env >>= fun b => if b = true then body env >>= fun o => match o with
      | .nx e => whGo c body n e
      | .ct e => whGo c body n e
      | .bk e => pure (.nx e)
      | .rt d => pure (.rt d)
    else pure (.nx env)
section
variable {X : Cx} {ev : Ex → Value} {W : WX} {body : List Stmt} {tg iter c : Expr} {fc : DEnv → M Bool} {fi : DEnv → M (List D)} {g : DEnv → M Out} {pos : Pos} {ts : List Nat} {bd : Bd}
theorem ds_while (fuel : Nat) (hp : PassesOwn (model X.prog X.w) X.A X.env X.xe) (hc : DT X ev W c fc) (hb : DSs X ev W body g) : DS X ev W (.While c body [] pos) (whGo fc g fuel) := by
  obtain ⟨tc, pc, qc⟩ := hc
  obtain ⟨tb, pb, qb⟩ := hb
  refine ⟨_, ps_while hp pc pb, fun sA H0 I0 σ H I ls env Dn gr w r po => ?_⟩
  let Wv : Nat → L2.St → Hp → Prop := fun m σ H => ∃ I ls env, Grow sA H0 I0 H I ∧ World X.K sA H I ls ∧ RelE X.K sA H0 σ H I env ∧ PostS X.K ev W sA H0 I0 (whGo fc g m env ls) Dn
  refine ⟨Wv, ⟨fuel, I, ls, env, gr, w, r, po⟩, ?_⟩
  rintro m σ H ⟨I, ls, env, gr, w, r, po⟩
  cases m with
  | zero => exact po.elim
  | succ m =>
    refine qc sA H0 σ H I ls env _ w r ((postS_bind gr po).mono fun k ls1 H1 I1 _ g1 w1 ⟨g0, p1⟩ => ?_)
    cases k with
    | false => exact p1 σ H1 I1 g0 w1 (r.grow g1)
    | true =>
      refine iteT ⟨Wv m, fun σ' H' h => ⟨m, Nat.lt_succ_self _, h⟩, qb sA H0 I0 σ H1 I1 ls1 env _ g0 w1 (r.grow g1) ?_⟩
      revert p1
      show PostS X.K ev W sA H0 I0 (M.bind (g env) _ ls1) Dn → _
      unfold M.bind
      cases g env ls1 with
      | ok o ls' =>
        cases o with
        | nx e => exact fun po σ' H' I' g' w' r' => ⟨I', ls', e, g', w', r', po⟩
        | rt d => exact id
        | bk e => exact id
        | ct e => exact fun po σ' H' I' g' w' r' => ⟨I', ls', e, g', w', r', po⟩
      | err e ls' => exact id
      | stuck => exact id
theorem ds_for (hp : PassesOwn (model X.prog X.w) X.A X.env X.xe) (hc : X.calm = true) (hi : DI X ev W false tg iter fi) (hg : DG X tg ts bd) (hb : DSs X ev W body g)
    (hs : ∀ x, foldedSetIterable iter X.env x = pure x := by intro _; rfl) : DS X ev W (.For tg iter body [] pos) (sFor bd fi g) := by
  obtain ⟨wi, pi, qi⟩ := hi
  obtain ⟨gg, pg, qg⟩ := hg
  obtain ⟨tb, pb, qb⟩ := hb
  refine ⟨_, ps_for hp hc pi pg pb hs, fun sA H0 I0 σ H I ls env Dn gr w r po => ?_⟩
  refine qi sA H0 σ H I ls env _ w r ((postS_bind gr po).mono fun ds ls1 H1 I1 _ g1 w1 ⟨g0, p1⟩ J ⟨G, Y, wk, hG, hY⟩ => ?_)
  refine for_it wk (fun i σ Hx => ∃ I' ls' env', Grow sA H0 I0 Hx I' ∧ Same I1 I' ∧ World X.K sA Hx I' ls' ∧ RelE X.K sA H0 σ Hx I' env' ∧ PostS X.K ev W sA H0 I0 (forGo bd g (ds.drop i) env' ls') Dn) ?_ ?_ ?_ ?_
  · exact ⟨I1, ls1, env, g0, Same.refl _, w1, r.grow g1, p1⟩
  · rintro i σ Hx hi ⟨I', ls', env', g2, s2, w2, _⟩
    exact hG Hx I' s2 w2.sub fun z => nomatch z
  · rintro i x σ Hx H' hi ⟨I', ls', env', g2, s2, w2, r2, p2⟩ y
    obtain ⟨I2, d, g3, w3, hd, hr⟩ := hY i Hx I' ls' x H' s2 (fun z => nomatch z) w2 hi y
    have hdrop : ds.drop i = d :: ds.drop (i + 1) := by
      rw [List.drop_eq_getElem_cons hi]
      have : ds[i] = d := by rw [List.getElem?_eq_getElem hi] at hd; exact Option.some.inj hd
      rw [this]
    rw [hdrop] at p2
    cases eb : bd d env' with
    | none => simp only [forGo, eb] at p2; exact p2.elim
    | some e1 =>
      simp only [forGo, eb] at p2
      refine qg sA H0 x d σ H' I2 env' e1 _ w3.sub (r2.grow g3) hr eb fun σ' r' _ => ?_
      have gb := g2.trans g3
      have gr2 : Grow sA H0 I2 H' I2 := ⟨gb.keep, gb.dom, Same.refl _, fun _ h => .inl h⟩
      have back : ∀ {H3 I3 : Hp}, Grow sA H0 I2 H3 I3 → Grow sA H0 I0 H3 I3 := fun {H3 I3} k => ⟨k.keep, k.dom, gb.inc.trans k.inc, fun b h => (k.new b h).elim (fun z => gb.new b z) .inr⟩
      refine qb sA H0 I2 σ' H' I2 ls' e1 _ gr2 w3 r' ?_
      revert p2
      show PostS X.K ev W sA H0 I0 (M.bind (g e1) _ ls') Dn → _
      unfold M.bind
      cases g e1 ls' with
      | ok o ls'' =>
        cases o with
        | nx e => exact fun po σ3 H3 I3 g' w' r' => ⟨I3, ls'', e, back g', s2.trans (g3.inc.trans g'.inc), w', r', po⟩
        | rt d => exact fun po v H I k => po v H I (back k)
        | bk e => exact fun po v H I k => po v H I (back k)
        | ct e => exact fun po σ3 H3 I3 g' w' r' => ⟨I3, ls'', e, back g', s2.trans (g3.inc.trans g'.inc), w', r', po⟩
      | err e ls' => exact fun po v H I k => po v H I (back k)
      | stuck => exact id
  · rintro σ Hx ⟨I', ls', env', g2, s2, w2, r2, p2⟩
    rw [List.drop_length] at p2
    exact p2 σ Hx I' g2 w2 r2
end
end DL

/-! DL, part 7: what may be changed; raise; defs. -/
namespace DL
open PySem PySem.Spec PyProof.Rows L2

/-! ### lists that are changed -/
def ownL (env : DEnv) (i : Nat) : Option (List D) := match env[i]? with
  | some (some (.own (.list ds))) => some ds
  | _ => none
theorem ownL_some {env : DEnv} {i : Nat} {ds : List D} (h : ownL env i = some ds) : env[i]? = some (some (.own (.list ds))) := by
  unfold ownL at h
  split at h
  · cases h; assumption
  · cases h
section
variable {X : Cx} {ev : Ex → Value} {W : WX} {e c : Expr} {f fi fa : DEnv → M D} {g h : DEnv → M Out} {pos p apos cpos tpos : Pos}
theorem lift_postS {K : Fg} {sA : Option Addr} {H0 I0 : Hp} {α : Type} {o : Option α} {k : α → M Out} {ls : LS} {Dn : Ends} (po : PostS K ev W sA H0 I0 ((lift o >>= k) ls) Dn) : ∃ a, o = some a ∧ PostS K ev W sA H0 I0 (k a ls) Dn := by
  cases o with
  | none => exact po.elim
  | some a => exact ⟨a, rfl, po⟩
/-- return x, x a list that was changed -/
def sRetO (i : Nat) : DEnv → M Out := fun env => lift (ownL env i) >>= fun ds => pure (.rt (.list ds))
theorem ds_retO (i : Nat) {x : Str} (hN : X.N[i]? = some x := by rfl) (hv : Vis X.env.scope x := by first | exact Or.inl rfl | exact Or.inr (Or.inl rfl) | exact Or.inr (Or.inr rfl)) (hd : (x == ("__debug__" : Str)) = false := by decide)
    (hcd : (x == ("__classdict__" : Str)) = false := by decide) : DS X ev W (.Return (some (.Name x p)) pos) (sRetO i) := by
  refine ⟨_, ps_ret (pe_var hN hv hd hcd), fun sA H0 I0 σ H I ls env Dn gr w r po => ?_⟩
  obtain ⟨ds, e, po⟩ := lift_postS po
  obtain ⟨a, h1, ⟨vs, k1, k2⟩, h3, h4, h5⟩ := r.own i _ (ownL_some e)
  refine ⟨_, h1, po (.ref a) H (upd I a (.lst vs)) ⟨gr.keep, gr.dom, gr.inc.trans (same_upd h4), fun b hb => ?_⟩ (w.freeze k1 h4 h5) (.lst upd_same (k2.mono (same_upd h4)))⟩
  by_cases z : b = a
  · subst z; exact .inr h3
  · rw [upd_ne z] at hb; exact gr.new b hb
/-- x = y, y a list that was changed: neither is changed again -/
def sMove (i j : Nat) : DEnv → M Out := fun env => lift (ownL env j) >>= fun ds => pure (.nx ((env.set j (some (.val (.list ds)))).set i (some (.val (.list ds)))))
theorem RelE.freeze {K : Fg} {sA : Option Addr} {H0 H I : Hp} {σ : L2.St} {env : DEnv} {j : Nat} {ds : List D} {a : Addr} {vs : List V} (r : RelE K sA H0 σ H I env) (hj : env[j]? = some (some (.own (.list ds)))) (h1 : σ[j]? = some (some (.ref a))) (k1 : H a = some (.lst vs)) (k2 : Reps K I vs ds) (h4 : I a = none) :
    RelE K sA H0 σ H (upd I a (.lst vs)) (env.set j (some (.val (.list ds)))) := by
  have s := same_upd (o := .lst vs) h4
  have ne : ∀ {l : Nat} {x : DV}, j ≠ l → (env.set j (some (.val (.list ds))))[l]? = some (some x) → env[l]? = some (some x) := fun {l x} hl q => by rw [List.getElem?_set_ne hl] at q; exact q
  have at_ : ∀ {x : DV}, (env.set j (some (.val (.list ds))))[j]? = some (some x) → x = .val (.list ds) := fun {x} q => by
    have hi : j < env.length := by
      have h2 := (List.getElem?_eq_some_iff.mp q).1
      rw [List.length_set] at h2; exact h2
    rw [List.getElem?_set_self hi] at q
    cases q; rfl
  refine ⟨by rw [List.length_set]; exact r.len, fun l d q => ?_, fun l d q => ?_, fun l m b d1 d2 q1 q2 q3 q4 => ?_, fun l q => ?_⟩
  · by_cases hl : j = l
    · subst hl; cases at_ q; exact ⟨_, h1, .lst upd_same (k2.mono s)⟩
    · obtain ⟨v, z1, z2⟩ := r.val l d (ne hl q); exact ⟨v, z1, z2.mono s⟩
  · by_cases hl : j = l
    · subst hl; cases at_ q
    · obtain ⟨b, z1, z2, z3, z4, z5⟩ := r.own l d (ne hl q)
      have hb : b ≠ a := fun z => hl (r.inj j l a _ _ hj (ne hl q) h1 (by rw [← z]; exact z1))
      exact ⟨b, z1, z2.mono (fun o h => h) s, z3, by rw [upd_ne hb]; exact z4, z5⟩
  · have hl : j ≠ l := fun z => by subst z; cases at_ q1
    have hm : j ≠ m := fun z => by subst z; cases at_ q2
    exact r.inj l m b d1 d2 (ne hl q1) (ne hm q2) q3 q4
  · by_cases hl : j = l
    · subst hl; cases at_ q
    · exact r.st l (ne hl q)
theorem ds_move (i j : Nat) {x y : Str} {pos' : Pos} (hN : X.N.Nodup) (hi : X.N[i]? = some x := by rfl) (hx : Loc X.env.scope x := by first | exact Or.inl rfl | exact Or.inr rfl) (hj : X.N[j]? = some y := by rfl)
    (hv : Vis X.env.scope y := by first | exact Or.inl rfl | exact Or.inr (Or.inl rfl) | exact Or.inr (Or.inr rfl)) (hd : (y == ("__debug__" : Str)) = false := by decide) (hcd : (y == ("__classdict__" : Str)) = false := by decide)
    (hs : swapsWith (.Name y p) (some (.Name x pos')) pos.line X.env = pure false := by rfl) (hf : X.fn x = true ∨ X.env.scope.names.lookup x = some .local := by first | exact .inl rfl | exact .inr rfl) :
    DS X ev W (.Assign [.Name x pos'] (.Name y p) pos) (sMove i j) := by
  refine ⟨_, ps_set hN hi hx (pe_var hj hv hd hcd) hs hf, fun sA H0 I0 σ H I ls env Dn gr w r po => ?_⟩
  obtain ⟨ds, e, po⟩ := lift_postS po
  obtain ⟨a, h1, ⟨vs, k1, k2⟩, h3, h4, h5⟩ := r.own j _ (ownL_some e)
  have r2 := (r.freeze (ownL_some e) h1 k1 k2 h4)
  refine ⟨_, h1, po _ H (upd I a (.lst vs)) ⟨gr.keep, gr.dom, gr.inc.trans (same_upd h4), fun b hb => ?_⟩ (w.freeze k1 h4 h5) (r2.set i (.lst upd_same (k2.mono (same_upd h4))))⟩
  by_cases z : b = a
  · subst z; exact .inr h3
  · rw [upd_ne z] at hb; exact gr.new b hb
/-- x.append(e) -/
def sApp (i : Nat) (f : DEnv → M D) : DEnv → M Out := fun env => lift (ownL env i) >>= fun ds => f env >>= fun d => if lim1 ds = true then pure (.nx (env.set i (some (.own (.list (ds ++ [d])))))) else stuck
theorem ds_app (i : Nat) {x : Str} (he : DE X ev W .strict e f) (hN : X.N[i]? = some x := by rfl) (hv : Vis X.env.scope x := by first | exact Or.inl rfl | exact Or.inr (Or.inl rfl) | exact Or.inr (Or.inr rfl)) (hd : (x == ("__debug__" : Str)) = false := by decide)
    (hcd : (x == ("__classdict__" : Str)) = false := by decide)
    (hbase : attributeBase (.Name x p) "append" X.env (eval (.Name x p) X.env) = eval (.Name x p) X.env := by rfl)
    (hfew : ((backTo cpos (starEach [e] X.env)).all (fun x => !x.1) && (backToKw cpos (keywordEach [] X.env)).all (fun x => x.1.isSome)
      && decide ([e].length + ([] : List Keyword).length + (if ([] : List Keyword).isEmpty then 0 else 1) < 30)) = true := by rfl)
    (hline : (apos.endLine == cpos.line) = true := by rfl) (hs : starEach [e] X.env = (false, eval e X.env) :: starEach [] X.env := by rfl) (hplain : (backTo cpos (starEach [] X.env)).any (·.1) = false := by rfl)
    (hsw : swapsWith (.Call (.Attribute (.Name x p) "append" apos) [e] [] cpos) none pos.line X.env = pure false := by rfl) : DS X ev W (.Expr (.Call (.Attribute (.Name x p) "append" apos) [e] [] cpos) pos) (sApp i f) := by
  obtain ⟨t, pe, q⟩ := he
  refine ⟨_, ps_expr (L2.pe_bm PySem.F.plainAttrs_list PySem.F.slot_list_append PySem.F.type_list_append mt_append (pe_var hN hv hd hcd) (pa_cons pe pa_nil hs) hbase hfew hline hs hplain) hsw, fun sA H0 I0 σ H I ls env Dn gr w r po => ?_⟩
  obtain ⟨ds, e, po⟩ := lift_postS po
  have hi := ownL_some e
  obtain ⟨a, h1, ⟨vs, k1, k2⟩, h3, h4, h5⟩ := r.own i _ hi
  refine ⟨_, h1, .inl ⟨rfl, vs, .inl (.inl k1)⟩, q.runS gr w r po fun v d ls1 H1 I1 g0 g1 w1 r1 rp p1 => ?_⟩
  by_cases hl : lim1 ds = true
  · rw [if_pos hl] at p1
    have hl' : ds.length < 16777216 := of_decide_eq_true hl
    have k1' := g1.keep a _ h5 k1
    have k2' := k2.mono g1.inc
    refine ⟨a, vs, v, rfl, rfl, k1', by rw [k2.length, sizeLine_eq]; omega, p1 _ _ I1 (g0.mutO r1 hi h1) (w1.mutO r1 hi h1) (r1.mutO hi h1 ⟨vs ++ [v], upd_same, k2'.append (.cons rp .nil)⟩)⟩
  · rw [if_neg hl] at p1; exact p1.elim
/-- x[k] = e -/
def sPut (i : Nat) (fi f : DEnv → M D) : DEnv → M Out := fun env => f env >>= fun d => lift (ownL env i) >>= fun ds => fi env >>= fun k => match k with
  | .int n => match ixN ds.length n with
    | some j => pure (.nx (env.set i (some (.own (.list (ds.set j d))))))
    | none => stuck
  | _ => stuck
theorem ds_put (i : Nat) {x : Str} {ix : Expr} (he : DE X ev W .strict e f) (hi : DE X ev W .strict ix fi) (hN : X.N[i]? = some x := by rfl) (hv : Vis X.env.scope x := by first | exact Or.inl rfl | exact Or.inr (Or.inl rfl) | exact Or.inr (Or.inr rfl)) (hd : (x == ("__debug__" : Str)) = false := by decide)
    (hcd : (x == ("__classdict__" : Str)) = false := by decide)
    (ha : ∀ v, assign (.Subscript (.Name x p) ix tpos) X.env v = (do
      let ov ← holding [v] (eval (.Name x p) X.env)
      let iv ← holding [v, ov] (eval ix X.env)
      standAt tpos
      holding [v, ov, iv] (setItem ov iv v)
      release [v, ov, iv] []) := by intro _; rfl)
    (hs : swapsWithSole [.Subscript (.Name x p) ix tpos] e pos.line X.env = pure false := by rfl) (hw : swappedStores [.Subscript (.Name x p) ix tpos] e X.env = pure none := by rfl)
    (h1 : (assignEach [.Subscript (.Name x p) ix tpos] X.env).map (·.2) = [assign (.Subscript (.Name x p) ix tpos) X.env] := by rfl) : DS X ev W (.Assign [.Subscript (.Name x p) ix tpos] e pos) (sPut i fi f) := by
  obtain ⟨t, pe, q⟩ := he
  obtain ⟨ti, pi, qi⟩ := hi
  refine ⟨_, ps_asg pe (pg_sub (pe_var hN hv hd hcd) pi set_list ha) hs hw h1, fun sA H0 I0 σ H I ls env Dn gr w r po => q.runS gr w r po fun v d ls1 H1 I1 g0 g1 w1 r1 rp p1 => ?_⟩
  obtain ⟨ds, eo, p1⟩ := lift_postS p1
  have ho := ownL_some eo
  obtain ⟨a, h1, ⟨vs, k1, k2⟩, h3, h4, h5⟩ := r1.own i _ ho
  refine ⟨_, h1, qi.runS g0 w1 r1 p1 fun v2 d2 ls2 H2 I2 g2 g3 w2 r2 rp2 p2 => ?_⟩
  have k1' := g3.keep a _ h5 k1
  have k2' := k2.mono g3.inc
  cases d2 with
  | int n =>
    cases ej : ixN ds.length n with
    | none => simp only [ej] at p2; exact p2.elim
    | some j =>
      simp only [ej] at p2
      exact ⟨a, vs, n, j, rfl, RepO.int (sA := sA) (H := H2) (.inl rp2), k1', by rw [k2.length]; exact ej, p2 _ _ I2 (g2.mutO r2 ho h1) (w2.mutO r2 ho h1) (r2.mutO ho h1 ⟨vs.set j v, upd_same, k2'.set (Rep.mono g3.inc rp) j⟩)⟩
  | _ => exact p2.elim
/-- x[k] op= e -/
def sAugI (i : Nat) (fi : DEnv → M D) (op : D → D → Option D) (f : DEnv → M D) : DEnv → M Out := fun env => lift (ownL env i) >>= fun ds => fi env >>= fun k => match k with
  | .int n => match ixN ds.length n with
    | some j => match ds[j]? with
      | some old => f env >>= fun y => lift (op old y) >>= fun z => pure (.nx (env.set i (some (.own (.list (ds.set j z))))))
      | none => stuck
    | none => stuck
  | _ => stuck
theorem ds_augI (i : Nat) {x : Str} {ix : Expr} {op : Operator} {o : D → D → Option D} (ho : OpS X .strict (inplaceOp op) o) (he : DE X ev W .oper e f) (hi : DE X ev W .strict ix fi) (hget : PGet X (rIxL X.K)) (hN : X.N[i]? = some x := by rfl) (hv : Vis X.env.scope x := by first | exact Or.inl rfl | exact Or.inr (Or.inl rfl) | exact Or.inr (Or.inr rfl)) (hd : (x == ("__debug__" : Str)) = false := by decide)
    (hcd : (x == ("__classdict__" : Str)) = false := by decide)
    (ha : ∀ ov iv new, augStore ix ov iv new = (do holding [new, ov, iv] (setItem ov iv new); release [new, ov, iv] []; pure .next) := by intros; rfl) : DS X ev W (.AugAssign (.Subscript (.Name x p) ix tpos) op e pos) (sAugI i fi o f) := by
  obtain ⟨t, pe, q⟩ := he
  obtain ⟨ti, pi, qi⟩ := hi
  obtain ⟨rr, ho1, ho2⟩ := ho
  refine ⟨_, ps_augS (pe_var hN hv hd hcd) pi hget pe (tip := rr) (fun pins s σ H x y v u Q I rx ry h => ho1 pins s σ H x y v u Q I rx ry h) set_list ha, fun sA H0 I0 σ H I ls env Dn gr w r po => ?_⟩
  obtain ⟨ds, eo, po⟩ := lift_postS po
  have ho := ownL_some eo
  obtain ⟨a, h1, ⟨vs, k1, k2⟩, h3, h4, h5⟩ := r.own i _ ho
  refine ⟨_, h1, qi.runS gr w r po fun v2 d2 ls2 H2 I2 g2 g3 w2 r2 rp2 p2 => ?_⟩
  have k1' := g3.keep a _ h5 k1
  have k2' := k2.mono g3.inc
  cases d2 with
  | int n =>
    have e2 := RepO.int (sA := sA) (H := H2) (.inl rp2)
    cases ej : ixN ds.length n with
    | none => simp only [ej] at p2; exact p2.elim
    | some j =>
      simp only [ej] at p2
      cases eold : ds[j]? with
      | none => simp only [eold] at p2; exact p2.elim
      | some old =>
        simp only [eold] at p2
        obtain ⟨ov, hov, rov⟩ := k2'.get eold
        refine ⟨a, vs, n, ov, rfl, e2, .inl (.inl k1'), by unfold atI; rw [k2.length, ej]; exact hov, ?_⟩
        refine q.runS g2 w2 r2 p2 fun y dy ls3 H3 I3 g4 g5 w3 r3 rp3 p3 => ?_
        obtain ⟨z, ez, p3⟩ := lift_postS p3
        refine ho2 sA H3 I3 ls3 ov y old dy z _ w3 (.inl (rov.mono g5.inc)) rp3 ez fun u H4 I4 g6 w4 ru => ?_
        have k1'' := g6.keep a _ h5 (g5.keep a _ h5 k1')
        have r4 := r3.grow g6
        exact ⟨a, vs, n, j, rfl, e2, k1'', by rw [k2.length]; exact ej, p3 _ _ I4 ((g4.trans g6).mutO r4 ho h1) (w4.mutO r4 ho h1) (r4.mutO ho h1 ⟨vs.set j u, upd_same, ((k2'.mono g5.inc).mono g6.inc).set ru j⟩)⟩
  | _ => exact p2.elim
end

/-! ### raise -/
section
variable {X : Cx} {ev : Ex → Value} {W : WX} {pos : Pos}
def sRaise (e : Ex) : DEnv → M Out := fun _ => raise e
/-- what is known of an own exception's class -/
structure ExC (K : Fg) (mg : Str → Option Value) (x : Str) (C : Addr) : Prop where
  gC : mg x = some (.ref C)
  xC : PySem.W.excIn K C [.type "ValueError", .type "Exception", .type "BaseException", .type "object"] "ValueError.__new__" = true
  kC : PySem.W.keepIn K (.ref C) = true
  bC : PySem.W.subIn K (.ref C) (.type "BaseException") = some true
  tC : PySem.W.typeIn K (.ref C) = some (.type "type")
theorem ds_raise {x m : Str} {j : Nat} {p p2 cpos : Pos} {C : Addr} (ex : Ex) (c : ExC X.K X.mg x C) (he : ev ex = .ref C) (hc : X.calm = true) (tk : Takes X W) (hg : Gl X x := by rfl) (hdb : (x == ("__debug__" : Str)) = false := by decide) :
    DS X ev W (.Raise (some (.Call (.Name x p) [.Constant (.str m) j p2] [] cpos)) none pos) (sRaise ex) := by
  refine ⟨_, ps_raise hc tk (pmk_own PySem.F.excBase_ValueError c.xC c.gC c.kC (raises_own c.bC c.tC) hg hdb), fun sA H0 I0 σ H I ls env Dn gr w r po => ?_⟩
  show W (.ref C) none σ H
  rw [← he]
  exact po σ H I gr w
end

/-! ### defs -/
def runB (n : Nat) (body : DEnv → M Out) (args : DEnv) : M D := body (args ++ List.replicate n none) >>= fun o => match o with
  | .rt d => pure d
  | .nx _ => pure .none
  | _ => stuck
/-- a def of n parameters and m further names -/
def runD (m : Nat) (body : DEnv → M Out) (ds : List D) : M D := runB m body (ds.map fun d => some (.val d))
/-- .. the first parameter being the drawing state -/
def runS (m : Nat) (body : DEnv → M Out) (ds : List D) : M D := runB m body (some .st :: ds.map fun d => some (.val d))
section
variable {P : Program} {w : PySem.World} {K : Fg} {mg : Str → Option Value} {base : Heap} {ev : Ex → Value}
theorem relE_start {sA : Option Addr} {H0 H I : Hp} {vs : List V} {ds : List D} {m : Nat} (r : Reps K I vs ds) : RelE K sA H0 (vs.map some ++ List.replicate m none) H I (ds.map (fun d => some (.val d)) ++ List.replicate m none) := by
  have none_of : ∀ (i : Nat) (x : DV), (ds.map (fun d => some (DV.val d)) ++ List.replicate m none)[i]? = some (some x) → ∃ d, ds[i]? = some d ∧ x = .val d := fun i x h => by
    by_cases hi : i < ds.length
    · rw [List.getElem?_append_left (by simpa using hi), List.getElem?_map] at h
      cases e : ds[i]? with
      | none => rw [e] at h; cases h
      | some d => rw [e] at h; cases h; exact ⟨d, rfl, rfl⟩
    · rw [List.getElem?_append_right (by simpa using hi), List.getElem?_replicate] at h
      split at h <;> cases h
  refine ⟨by simp [r.length], fun i d h => ?_, fun i d h => ?_, fun i j a d e h => ?_, fun i h => ?_⟩
  · obtain ⟨d', h1, h2⟩ := none_of i _ h
    cases h2
    obtain ⟨v, h3, h4⟩ := r.get h1
    have hi : i < vs.length := (List.getElem?_eq_some_iff.mp h3).1
    exact ⟨v, by rw [List.getElem?_append_left (by simpa using hi), List.getElem?_map, h3]; rfl, h4⟩
  · obtain ⟨d', h1, h2⟩ := none_of i _ h; cases h2
  · obtain ⟨d', h1, h2⟩ := none_of i _ h; cases h2
  · obtain ⟨d', h1, h2⟩ := none_of i _ h; cases h2
theorem relE_startS {a : Addr} {H0 H I : Hp} {vs : List V} {ds : List D} {m : Nat} (r : Reps K I vs ds) : RelE K (some a) H0 ((V.ref a :: vs).map some ++ List.replicate m none) H I (some DV.st :: ds.map (fun d => some (.val d)) ++ List.replicate m none) := by
  have r0 := relE_start (sA := some a) (H0 := H0) (H := H) (m := m) r
  refine ⟨by simp [r.length], fun i d h => ?_, fun i d h => ?_, fun i j b d e h h' k k' => ?_, fun i h => ?_⟩
  · cases i with
    | zero => cases h
    | succ i => exact r0.val i d h
  · cases i with
    | zero => cases h
    | succ i => exact r0.own i d h
  · cases i with
    | zero => cases h
    | succ i =>
      cases j with
      | zero => cases h'
      | succ j => rw [r0.inj i j b d e h h' k k']
  · cases i with
    | zero => exact ⟨a, rfl, rfl⟩
    | succ i => exact r0.st i h
theorem postS_runB {sA : Option Addr} {H I : Hp} {ls : LS} {body : DEnv → M Out} {args : DEnv} {m : Nat} {Q : VK} {E : XK} (po : PostE K ev (wE E) sA [] H I .strict (runB m body args ls) Q) :
    PostS K ev (wE E) sA H I (body (args ++ List.replicate m none) ls) { nx := fun _ H' => Q .non H', rt := Q } := by
  revert po
  show PostE K ev (wE E) sA [] H I .strict (M.bind (body (args ++ List.replicate m none)) _ ls) Q → _
  unfold M.bind
  cases body (args ++ List.replicate m none) ls with
  | ok o ls' =>
    cases o with
    | nx e => exact fun po σ' H' I' g w r => po H' I' g w _ .non
    | rt d => exact fun po v H' I' g w r => po H' I' g w v r
    | bk e => exact fun po => po.elim
    | ct e => exact fun po => po.elim
  | err e ls' => exact fun po σ' H' I' g w => po H' I' g w
  | stuck => exact id
/-- a def's promise, by its body -/
theorem fnD {x qual : Str} {st : Stmt} {f : Addr} {fd : FuncData} {N ps : List Str} {k m : Nat} {body : DEnv → M Out} (F : Fun K x qual st f fd) (S : FnScope N ps (defScope st)) (hm : mg x = some (.ref f)) (hb : Binds K fd ps []) (hn : N.length = ps.length + m)
    (hbody : ∀ (cdv : Value) (A : Around) (outer : List Env) (s : Shared) (H : Hp) (E : XK), Room k (A.deeper (envOfC qual (defScope st) s.heap.objs.size f cdv)) →
      DSs (cxOf (L2.CX P w) P w K mg base N qual (defScope st) f cdv A outer s H E) ev (wE E) (defBody st) body) : Fnd P w K mg base x (k + 1) (spD K ev ps.length (runD m body)) := by
  refine ⟨f, fd, ps, F.okX S (fun vs H Q E ⟨sA, I, ls, ds, w', r, hl, po⟩ => by rw [r.length]; exact hl) (fun cdv A outer s H vs Q E hr ⟨sA, I, ls, ds, w', r, hl, po⟩ => ?_), hm, F.kp, hb⟩
  obtain ⟨t, pt, qt⟩ := hbody cdv A outer s H E hr
  refine ⟨t, pt, qt sA H I _ H I ls _ _ .refl w' ?_ (postS_runB po)⟩
  have hl' : N.length - vs.length = m := by rw [r.length, hl, hn]; omega
  show RelE K sA H (vs.map some ++ List.replicate (N.length - vs.length) none) H I _
  rw [hl']
  exact relE_start r
theorem fnS {x qual : Str} {st : Stmt} {f : Addr} {fd : FuncData} {N ps : List Str} {k m n : Nat} {body : DEnv → M Out} (F : Fun K x qual st f fd) (S : FnScope N ps (defScope st)) (hm : mg x = some (.ref f)) (hb : Binds K fd ps []) (hn : N.length = ps.length + m) (hp : ps.length = n + 1)
    (hbody : ∀ (cdv : Value) (A : Around) (outer : List Env) (s : Shared) (H : Hp) (E : XK), Room k (A.deeper (envOfC qual (defScope st) s.heap.objs.size f cdv)) →
      DSs (cxOf (L2.CX P w) P w K mg base N qual (defScope st) f cdv A outer s H E) ev (wE E) (defBody st) body) : Fnd P w K mg base x (k + 1) (spS K ev n (runS m body)) := by
  refine ⟨f, fd, ps, F.okX S (fun vs H Q E ⟨a, vs', I, ls, ds, e, w', r, hl, po⟩ => by rw [e, List.length_cons, r.length, hl, hp]) (fun cdv A outer s H vs Q E hr ⟨a, vs', I, ls, ds, e, w', r, hl, po⟩ => ?_), hm, F.kp, hb⟩
  subst e
  obtain ⟨t, pt, qt⟩ := hbody cdv A outer s H E hr
  refine ⟨t, pt, qt (some a) H I _ H I ls _ _ .refl w' ?_ (postS_runB po)⟩
  have hl' : N.length - (V.ref a :: vs').length = m := by rw [List.length_cons, r.length, hl, hn, hp]; omega
  show RelE K (some a) H ((V.ref a :: vs').map some ++ List.replicate (N.length - (V.ref a :: vs').length) none) H I _
  rw [hl']
  exact relE_startS r
/-- the takes of a def's body -/
theorem takesD {N : List Str} {qual : Str} {scope : Scope} {f : Addr} {cd : Value} {A : Around} {outer : List Env} {s : Shared} {H : Hp} {E : XK} : Takes (cxOf (L2.CX P w) P w K mg base N qual scope f cd A outer s H E) (wE E) := takes_of rfl rfl rfl rfl
theorem passD {N : List Str} {qual : Str} {scope : Scope} {f : Addr} {cd : Value} {A : Around} {outer : List Env} {s : Shared} {H : Hp} {E : XK} : PassesOwn (model P w) (A.deeper (envOfC qual scope s.heap.objs.size f cd)) (envOfC qual scope s.heap.objs.size f cd) (cxOf (L2.CX P w) P w K mg base N qual scope f cd A outer s H E).xe := passes_of (X := cxOf (L2.CX P w) P w K mg base N qual scope f cd A outer s H E) (K := fun e s' => L2.CX P w outer H s E e s') (E₁ := fun e s' => L2.CX P w outer H s E e s') rfl
end
end DL

/-! DL, part 8: try .. except X as error (one clause or several). -/
namespace DL
open PySem PySem.Spec PyProof.Rows L2

/-- the ends behind a suite: the clause's name is gone -/
def dropI (i : Nat) (Dn : Ends) : Ends := ⟨fun σ H => Dn.nx (σ.set i none) H, Dn.rt, fun σ H => Dn.bk (σ.set i none) H, fun σ H => Dn.ct (σ.set i none) H⟩
abbrev Suite := Addr → Value → Option Addr → TS
/-- clauses 'except x as n', n's slot being i: what they wish of an exception -/
def wCl (K : Fg) (i : Nat) (Wout : WX) (Dn : Ends) : List (Value × Suite) → WX
  | [] => Wout
  | (c, ts) :: r => fun cls d σ H => ∃ b, PySem.W.exmOne K cls c = some b ∧ (b = true → ∀ a, H a = none → ts a cls d (dropI i Dn) (σ.set i (some (.ref a))) H) ∧ (b = false → wCl K i Wout Dn r cls d σ H)
inductive ClOk (X : Cx) (n : Str) : List ExceptHandler → List (Value × Suite) → Prop
  | nil : ClOk X n [] []
  | cons {x : Str} {c : Value} {ts : Suite} {b₀ : Stmt} {suite : List Stmt} {np ps : Pos} {hds : List ExceptHandler} {l : List (Value × Suite)} (hc : Names X x c)
      (hsu : ∀ (a : Addr) (oe : Obj) (cls : Value) (d : Option Addr) (pn : List (Addr × Obj)), Zc cls d oe → (∃ vs, oe.data = .fields vs) → PSs (X.suite a ((a, oe) :: pn)) (b₀ :: suite) (ts a cls d)) (r : ClOk X n hds l) :
      ClOk X n (.ExceptHandler (some (.Name x np)) (some n) (b₀ :: suite) ps :: hds) ((c, ts) :: l)
section
variable {X : Cx} {body : List Stmt} {h₀ : ExceptHandler} {hds : List ExceptHandler} {l : List (Value × Suite)} {pos : Pos} {tb : WX → TS} {Wout : WX} {n : Str} {i : Nat}
theorem notFrame {B h : Heap} {outer : List Env} {env : Env} {a : Addr} {o : Obj} {vs : Array Value} (ff : h.FunFrames B (env :: outer)) (e : h.get? a = some o) (dd : o.data = .fields vs) : a ∉ frs (env :: outer) := by
  intro hm
  obtain ⟨_, o2, e2, bad⟩ := ff.mem hm
  exact bad vs (by rw [← Option.some.inj (e.symm.trans e2)]; exact dd)
theorem ps_try_cl (hs : X.stack = X.env :: X.outer) (hf : X.env.frame = some X.env.locals) (hN : X.N.Nodup) (hi : X.N[i]? = some n) (hln : X.env.kindOf n = some .local) (tk : Takes X Wout)
    (hb : ∀ (W : WX) (pn : List (Addr × Obj)) (xe : Value → Shared → Prop), Takes (X.tr pn xe) W → PassesOwn (model X.prog X.w) X.A X.env xe → PSs (X.tr pn xe) body (tb W))
    (hh : ClOk X n (h₀ :: hds) l) : PS X (.Try body (h₀ :: hds) [] [] pos) (fun Dn σ H => tb (wCl X.K i Wout Dn l) Dn σ H) := by
  constructor
  intro pins s σ H Dn I hyp
  have okX := I.ok
  have stk : X.A.frames = some (X.env :: X.outer) := okX.frames.trans (congrArg some hs)
  apply wpAny_Try_except
  have wtk : Takes (X.tr (X.pn ++ pins) (fun e s₁ => wpAny (model X.prog X.w) X.A (noteFrame e X.env) (fun _ s₂ => wpAny (model X.prog X.w) X.A (setFlight e none) (fun _ s₃ => wpAny (model X.prog X.w) X.A (handleBy e X.env (h₀ :: hds)) (SP X pins Dn) X.xe s₃) X.xe s₂) X.xe s₁)) (wCl X.K i Wout Dn l) := by
    rintro u s' ⟨a, B, sI, pins', σ', H', cls, d, rfl, J0, nb, up, sky, na, os, ag, wish⟩
    have J : Inv X pins σ' H' sI := J0.ofTry okX
    have sk : Sky B (X.env :: X.outer) a (Zc cls d) X.env.locals s'.heap := hs ▸ sky
    show wpAny (model X.prog X.w) X.A (noteFrame (.ref a) X.env) _ _ _
    apply Sky.land Zc.steady stk hf sk
    intro h3 fl up3
    have J3 : Inv X pins σ' H' { s' with heap := h3 } := J.landed nb fl.1 (up.trans up3) os ag
    obtain ⟨oe, vs, eo, zo, dvs⟩ := fl.there
    have nFr := notFrame fl.2.2.1 eo dvs
    have nLoc : a ≠ X.env.locals := fun z => nFr (List.mem_filterMap.mpr ⟨X.env, List.mem_cons_self, by rw [hf, z]⟩)
    have nOut : a ∉ X.fs := by
      intro z
      obtain ⟨en, h1, h2⟩ := List.mem_filterMap.mp z
      exact nFr (List.mem_filterMap.mpr ⟨en, List.mem_cons_of_mem _ h1, h2⟩)
    have S3 := J3.suite eo dvs na nLoc nOut
    suffices go : ∀ {hs' : List ExceptHandler} {l' : List (Value × Suite)}, ClOk X n hs' l' → wCl X.K i Wout Dn l' cls d σ' H' → wpAny (model X.prog X.w) X.A (handleBy (.ref a) X.env hs') (SP X pins Dn) X.xe { s' with heap := h3 } from go hh wish
    intro hs' l' hk
    induction hk with
    | nil =>
      intro wsh
      apply wpAny_handleBy_nil
      obtain ⟨_, _, _, o1, v1, T, oT, t1, q1, _, q2, q3, q4⟩ := id fl
      unfold PySem.passOn
      apply wpAny_bind
      apply wpAny_field q1 q2 q3
      rw [if_neg (by simp : ¬ ((Value.ref T == Value.none) = true))]
      have last : wpAny (model X.prog X.w) X.A (setFlight (.ref a) X.env.frame) (fun _ s4 => wpAny (model X.prog X.w) X.A (throw (.ref a) : Sem Flow) (SP X pins Dn) X.xe s4) X.xe { s' with heap := h3 } := by
        rw [hf]
        apply HandSPX.setFlight_upZ fl
        intro h4 hh4 up4
        exact wpAny_throw (tk _ _ ⟨a, B, sI, pins, σ', H', cls, d, rfl, J, nb, (up.trans up3).trans up4, .inr (.inr (by rw [hs]; exact hh4)), na, os, ag, wsh⟩)
      first
        | exact wpAny_bind (wpAny_pure (wpAny_bind last))
        | exact wpAny_bind last
    | @cons x c ts b₀ suite np ps hds2 l2 hc hsu r ih =>
      rintro ⟨b, eb, yes, no⟩
      apply wpAny_handleBy_cons (codeAny_handlers_test _) (by intro q; cases q)
      have typ : PySem.W.Looks (model X.prog X.w) h3 (typeOf (.ref a)) cls := fun A Q E s k q => wpAny_typeOf_ref (k _ _ eo) (by rw [zo.1]; exact q)
      have mt := PySem.W.exm_one (M := model X.prog X.w) J3.kIn typ eb
      have nm : ∀ {Q : Value → Shared → Prop} {E : Value → Shared → Prop}, Q c { s' with heap := h3 } → wpAny (model X.prog X.w) (X.A.mark (some (.ref a))) (eval (.Name x np) X.env) Q E { s' with heap := h3 } := by
        intro Q E q
        obtain ⟨g1, g2, g3 | ⟨g3, g4, g5⟩⟩ := hc
        · exact ld_glob (X := X.suite a ((a, oe) :: (X.pn ++ pins))) S3 g1 g3 q g2
        · exact ld_blt (X := X.suite a ((a, oe) :: (X.pn ++ pins))) S3 g1 g3 g4 q g5 g2
      apply nm
      apply mt.here
      cases b with
      | false => exact ih (no rfl)
      | true =>
        apply codeAny_handlers_suite_as
        apply HandSPX.lands_againZ fl
        intro h4 fl4 up4
        have J4 : Inv X pins σ' H' { s' with heap := h4 } := J.landed nb fl4.1 ((up.trans up3).trans up4) os ag
        obtain ⟨o4, v4, e4, z4, d4⟩ := fl4.there
        have S4 := J4.suite e4 d4 na nLoc nOut
        apply store_ok (X := X.suite a ((a, o4) :: (X.pn ++ pins))) (v := .ref a) S4 hN hi (Or.inl hln) rfl _ (.inr hln)
        intro s5 S5
        refine wpAny_mono ((hsu a o4 cls d (X.pn ++ pins) z4 ⟨_, d4⟩).run [] s5 _ H' (dropI i Dn) S5 (yes rfl a na)) ?_ (fun _ _ z => z.elim)
        have fin : ∀ {σ6 : L2.St} {H6 : Hp} {Q : Shared → Prop} {s6 : Shared}, Inv (X.suite a ((a, o4) :: (X.pn ++ pins))) [] σ6 H6 s6 → (∀ s7, Inv X pins (σ6.set i none) H6 s7 → Q s7) →
            wpAny (model X.prog X.w) X.A (do bindName X.env n .none; unbindBehindTheSuite X.env n ps) (fun _ s7 => Q s7) X.xe s6 := fun S6 q => gone_ok (S6.unsuite okX) hN hi hln q
        intro fl6 s6 hsp
        cases fl6 with
        | next => obtain ⟨σ6, H6, S6, q6⟩ := hsp; exact fin S6 fun s7 J7 => ⟨_, _, J7, q6⟩
        | brk => obtain ⟨σ6, H6, S6, q6⟩ := hsp; exact fin S6 fun s7 J7 => ⟨_, _, J7, q6⟩
        | cont => obtain ⟨σ6, H6, S6, q6⟩ := hsp; exact fin S6 fun s7 J7 => ⟨_, _, J7, q6⟩
        | ret u => obtain ⟨v6, σ6, H6, S6, r6, q6⟩ := hsp; exact fin S6 fun s7 J7 => ⟨_, _, _, J7, r6, q6⟩
  refine wpAny_mono ((hb (wCl X.K i Wout Dn l) (X.pn ++ pins) _ wtk PassesOwn.looking).run [] s σ H Dn (I.toTry _) hyp) ?_ (fun _ _ z => z)
  intro fl s1 hsp
  cases fl with
  | next => obtain ⟨σ', H', J', q⟩ := hsp; exact wpAny_execs_nil ⟨σ', H', J'.ofTry okX, q⟩
  | brk => obtain ⟨σ', H', J', q⟩ := hsp; exact ⟨σ', H', J'.ofTry okX, q⟩
  | cont => obtain ⟨σ', H', J', q⟩ := hsp; exact ⟨σ', H', J'.ofTry okX, q⟩
  | ret u => obtain ⟨v, σ', H', J', r, q⟩ := hsp; exact ⟨v, σ', H', J'.ofTry okX, r, q⟩
end

/-! ### a try's body: nothing is stored -/
def SatQ (K : Fg) (ev : Ex → Value) (W : WX) (t : TS) (g : DEnv → M (Option D)) : Prop := ∀ sA H0 σ H I ls env Dn, World K sA H I ls → RelE K sA H0 σ H I env →
  Post K ev W sA σ H I (g env ls) (fun o _ H' I' => match o with | none => Dn.nx σ H' | some d => ∀ v, Rep K I' v d → Dn.rt v H') → t Dn σ H
def DQ (X : Cx) (ev : Ex → Value) (W : WX) (st : Stmt) (g : DEnv → M (Option D)) : Prop := ∃ t, PS X st t ∧ SatQ X.K ev W t g
def DQs (X : Cx) (ev : Ex → Value) (W : WX) (sts : List Stmt) (g : DEnv → M (Option D)) : Prop := ∃ t, PSs X sts t ∧ SatQ X.K ev W t g
section
variable {X : Cx} {ev : Ex → Value} {W : WX} {st : Stmt} {rest a b : List Stmt} {e c : Expr} {f : DEnv → M D} {fc : DEnv → M Bool} {g h : DEnv → M (Option D)} {pos : Pos}
def qRet (f : DEnv → M D) : DEnv → M (Option D) := fun env => f env >>= fun d => pure (some d)
def qExpr (f : DEnv → M D) : DEnv → M (Option D) := fun env => f env >>= fun _ => pure none
def qIf (c : DEnv → M Bool) (g h : DEnv → M (Option D)) : DEnv → M (Option D) := fun env => c env >>= fun b => if b = true then g env else h env
def qSeq (g h : DEnv → M (Option D)) : DEnv → M (Option D) := fun env => g env >>= fun o => match o with
  | none => h env
  | some d => pure (some d)
theorem dq_ret (he : DE X ev W .strict e f) : DQ X ev W (.Return (some e) pos) (qRet f) := by
  obtain ⟨t, p, q⟩ := he
  exact ⟨_, ps_ret p, fun sA H0 σ H I ls env Dn w r po => q.run w r po fun v d ls1 H1 I1 g1 w1 r1 rp p1 => p1 H1 I1 g1 w1 v rp⟩
theorem dq_expr (he : DE X ev W .strict e f) (hs : swapsWith e none pos.line X.env = pure false := by rfl) : DQ X ev W (.Expr e pos) (qExpr f) := by
  obtain ⟨t, p, q⟩ := he
  exact ⟨_, ps_expr p hs, fun sA H0 σ H I ls env Dn w r po => q.run w r po fun v d ls1 H1 I1 g1 w1 r1 rp p1 => p1 H1 I1 g1 w1⟩
theorem dqs_one (h1 : DQ X ev W st g) : DQs X ev W [st] g := let ⟨_, p, q⟩ := h1; ⟨_, pss_one p, q⟩
theorem dq_if (hc : DT X ev W c fc) (ha : DQs X ev W a g) (hb : DQs X ev W b h) : DQ X ev W (.If c a b pos) (qIf fc g h) := by
  obtain ⟨tc, pc, qc⟩ := hc
  obtain ⟨ta, pa, qa⟩ := ha
  obtain ⟨tb, pb, qb⟩ := hb
  refine ⟨_, ps_if pc pa pb, fun sA H0 σ H I ls env Dn w r po => qc sA H0 σ H I ls env _ w r (po.bind.mono fun k ls1 H1 I1 _ g1 w1 p1 => ?_)⟩
  cases k with
  | true => exact qa sA H0 σ H1 I1 ls1 env Dn w1 (r.grow g1) (p1.grow g1)
  | false => exact qb sA H0 σ H1 I1 ls1 env Dn w1 (r.grow g1) (p1.grow g1)
theorem dqs_cons (h1 : DQ X ev W st g) (h2 : DQs X ev W rest h) : DQs X ev W (st :: rest) (qSeq g h) := by
  obtain ⟨t, p1, q1⟩ := h1
  obtain ⟨u, p2, q2⟩ := h2
  refine ⟨_, pss_cons p1 p2, fun sA H0 σ H I ls env Dn w r po => q1 sA H0 σ H I ls env _ w r (po.bind.mono fun o ls1 H1 I1 _ g1 w1 p1 => ?_)⟩
  cases o with
  | none => exact q2 sA H0 σ H1 I1 ls1 env Dn w1 (r.grow g1) (p1.grow g1)
  | some d => exact fun v rp => p1 H1 I1 g1 w1 v rp
def tqSem (K : Fg) (ev : Ex → Value) (W : WX) (g : DEnv → M (Option D)) : TS := fun Dn σ H => ∃ sA H0 I ls env, World K sA H I ls ∧ RelE K sA H0 σ H I env ∧
  Post K ev W sA σ H I (g env ls) (fun o _ H' I' => match o with | none => Dn.nx σ H' | some d => ∀ v, Rep K I' v d → Dn.rt v H')
theorem DQs.sem {sts : List Stmt} (h : DQs X ev W sts g) : PSs X sts (tqSem X.K ev W g) := by
  obtain ⟨t, p, q⟩ := h
  exact ⟨fun pins s σ H Dn I ⟨sA, H0, I', ls, env, w, r, po⟩ => p.run pins s σ H Dn I (q sA H0 σ H I' ls env Dn w r po)⟩
end

/-! ### the suites that a law has -/
/-- what is known of an own exception's class, for except and isinstance -/
structure ExI (K : Fg) (mg : Str → Option Value) (x : Str) (C : Addr) : Prop where
  c : ExC K mg x C
  i : ExcC K C
  v : PySem.W.kitOne K (.ref C) (.type "ValueError") = some true
section
variable {X : Cx} {ev : Ex → Value} {W : WX} {pos : Pos} {K : Fg}
/-- isinstance(error, ValueError), in a suite -/
theorem pt_isV {a C : Addr} {oe : Obj} {cls : Value} {d : Option Addr} {pn : List (Addr × Obj)} {i : Nat} {n : Str} {p p1 p2 q : Pos} {mg : Str → Option Value} {x : Str} (hm : X.mg "isinstance" = none) (hv : X.mg "ValueError" = none) (ic : ExcC X.K C) (kv : PySem.W.kitOne X.K (.ref C) (.type "ValueError") = some true) (hz : Zc cls d oe) (hfs : ∃ vs, oe.data = .fields vs)
    (hN : X.N[i]? = some n) (hvis : Vis X.env.scope n) (hd1 : (n == ("__debug__" : Str)) = false) (hd2 : (n == ("__classdict__" : Str)) = false) (hg : Gl X "isinstance") (hgv : Gl X "ValueError")
    (hs1 : starEach [.Name n p1, .Name "ValueError" p2] X.env = (false, eval (.Name n p1) X.env) :: starEach [.Name "ValueError" p2] X.env) (hs2 : starEach [.Name "ValueError" p2] X.env = (false, eval (.Name "ValueError" p2) X.env) :: starEach [] X.env)
    (hpl : (backTo q (starEach [.Name "ValueError" p2] X.env)).any (·.1) = false) :
    PT (X.suite a ((a, oe) :: pn)) (.Call (.Name "isinstance" p) [.Name n p1, .Name "ValueError" p2] [] q) (fun σ H Q => cls = .ref C ∧ d = none ∧ σ[i]? = some (some (.ref a)) ∧ Q true H) := by
  constructor
  rintro pins s σ H Q I ⟨rfl, rfl, hσ, hq⟩
  have pv : PE (X.suite a ((a, oe) :: pn)) (.Name n p1) (tVar i) := pe_var (X := X.suite a ((a, oe) :: pn)) hN hvis hd1 hd2
  have pw : PE (X.suite a ((a, oe) :: pn)) (.Name "ValueError" p2) (tC (.ty "ValueError")) := pe_bltn (X := X.suite a ((a, oe) :: pn)) hgv hv (by decide +kernel) (v := .ty "ValueError") rfl (by decide) (by decide)
  have pc := L2.pe_callB (X := X.suite a ((a, oe) :: pn)) (pos := q) (p := p) (call_isE ic hz hfs) hg hm PyProof.Rows.boot_isinstance (pa_cons pv (pa_cons pw pa_nil hs2) hs1) (by decide) (by decide) hs1 hpl
  refine (pt_val pc (by intro _; rfl)).run pins s σ H Q I ⟨.ref a, hσ, ?_⟩
  exact ⟨.ty "ValueError", .type "ValueError", true, rfl, fun u hu => hu, kv, true, rfl, hq⟩

/-- try: .. except UnfitText as error: return () if isinstance(error, ValueError) else None except TooWide as error: the same -/
def sTryA (i : Nat) (g : DEnv → M (Option D)) : DEnv → M Out := fun env ls => match g env ls with
  | .ok none ls' => .ok (.nx env) ls'
  | .ok (some d) ls' => .ok (.rt d) ls'
  | .err _ ls' => if i < env.length then .ok (.rt (.tuple [])) ls' else .stuck
  | .stuck => .stuck
/-- try: .. except UnfitText as error: if not isinstance(error, ValueError): return False -/
def sTryB (i : Nat) (g : DEnv → M (Option D)) : DEnv → M Out := fun env ls => match g env ls with
  | .ok none ls' => .ok (.nx env) ls'
  | .ok (some d) ls' => .ok (.rt d) ls'
  | .err .unfit ls' => if i < env.length then .ok (.nx (env.set i none)) ls' else .stuck
  | .err e ls' => .err e ls'
  | .stuck => .stuck
structure Exs (K : Fg) (mg : Str → Option Value) (ev : Ex → Value) (cU cW : Addr) : Prop where
  u : ExI K mg "UnfitText" cU
  w : ExI K mg "TooWide" cW
  eu : ev .unfit = .ref cU
  ew : ev .wide = .ref cW
  uu : PySem.W.exmOne K (.ref cU) (.ref cU) = some true
  wu : PySem.W.exmOne K (.ref cW) (.ref cU) = some false
  ww : PySem.W.exmOne K (.ref cW) (.ref cW) = some true
/-- return () if isinstance(error, ValueError) else None -/
abbrev suA (n : Str) (p p1 p2 q p3 p4 p5 p6 : Pos) (k1 : Nat) (k2 : Nat) : List Stmt := [.Return (some (.IfExp (.Call (.Name "isinstance" p) [.Name n p1, .Name "ValueError" p2] [] q) (.Tuple [] k1 p3) (.Constant .none k2 p4) p5)) p6]
def tsA (C : Addr) (i : Nat) : Suite := fun a cls d Dn σ H => cls = .ref C ∧ d = none ∧ σ[i]? = some (some (.ref a)) ∧ ∀ p, H p = none → Dn.rt (.ref p) (upd H p (.tup []))
def tsB (C : Addr) (i : Nat) : Suite := fun a cls d Dn σ H => cls = .ref C ∧ d = none ∧ σ[i]? = some (some (.ref a)) ∧ Dn.nx σ H
theorem pss_suA {a C : Addr} {oe : Obj} {cls : Value} {d : Option Addr} {pn : List (Addr × Obj)} {i : Nat} {n : Str} {p p1 p2 q p3 p4 p5 p6 : Pos} {k1 k2} (hm : X.mg "isinstance" = none) (hv : X.mg "ValueError" = none) (ic : ExcC X.K C) (kv : PySem.W.kitOne X.K (.ref C) (.type "ValueError") = some true) (hz : Zc cls d oe) (hfs : ∃ vs, oe.data = .fields vs)
    (hN : X.N[i]? = some n) (hvis : Vis X.env.scope n) (hd1 : (n == ("__debug__" : Str)) = false) (hd2 : (n == ("__classdict__" : Str)) = false) (hg : Gl X "isinstance") (hgv : Gl X "ValueError")
    (hs1 : starEach [.Name n p1, .Name "ValueError" p2] X.env = (false, eval (.Name n p1) X.env) :: starEach [.Name "ValueError" p2] X.env) (hs2 : starEach [.Name "ValueError" p2] X.env = (false, eval (.Name "ValueError" p2) X.env) :: starEach [] X.env)
    (hpl : (backTo q (starEach [.Name "ValueError" p2] X.env)).any (·.1) = false) : PSs (X.suite a ((a, oe) :: pn)) (suA n p p1 p2 q p3 p4 p5 p6 k1 k2) (tsA C i a cls d) := by
  have h := pss_one (ps_ret (pos := p6) (pe_ifExp (pos := p5) (pt_isV (pn := pn) (p := p) (p1 := p1) (p2 := p2) (q := q) (mg := X.mg) (x := n) hm hv ic kv hz hfs hN hvis hd1 hd2 hg hgv hs1 hs2 hpl) (L2.pe_tup (X := X.suite a ((a, oe) :: pn)) (x1 := k1) (pos := p3) pa_nil) (pe_non (X := X.suite a ((a, oe) :: pn)) (j := k2) (pos := p4))))
  constructor
  rintro pins s σ H Dn I ⟨h1, h2, h3, h4⟩
  exact h.run pins s σ H Dn I ⟨h1, h2, h3, by show 0 ≤ sizeLine; exact Nat.zero_le _, h4⟩
/-- if not isinstance(error, ValueError): return False -/
abbrev suB (n : Str) (p p1 p2 q p3 p4 p5 p6 : Pos) (k2 : Nat) : List Stmt := [.If (.UnaryOp .Not (.Call (.Name "isinstance" p) [.Name n p1, .Name "ValueError" p2] [] q) p3) [.Return (some (.Constant (.bool false) k2 p4)) p5] [] p6]
theorem pss_suB {a C : Addr} {oe : Obj} {cls : Value} {d : Option Addr} {pn : List (Addr × Obj)} {i : Nat} {n : Str} {p p1 p2 q p3 p4 p5 p6 : Pos} {k2} (hm : X.mg "isinstance" = none) (hv : X.mg "ValueError" = none) (ic : ExcC X.K C) (kv : PySem.W.kitOne X.K (.ref C) (.type "ValueError") = some true) (hz : Zc cls d oe) (hfs : ∃ vs, oe.data = .fields vs)
    (hN : X.N[i]? = some n) (hvis : Vis X.env.scope n) (hd1 : (n == ("__debug__" : Str)) = false) (hd2 : (n == ("__classdict__" : Str)) = false) (hg : Gl X "isinstance") (hgv : Gl X "ValueError")
    (hs1 : starEach [.Name n p1, .Name "ValueError" p2] X.env = (false, eval (.Name n p1) X.env) :: starEach [.Name "ValueError" p2] X.env) (hs2 : starEach [.Name "ValueError" p2] X.env = (false, eval (.Name "ValueError" p2) X.env) :: starEach [] X.env)
    (hpl : (backTo q (starEach [.Name "ValueError" p2] X.env)).any (·.1) = false) : PSs (X.suite a ((a, oe) :: pn)) (suB n p p1 p2 q p3 p4 p5 p6 k2) (tsB C i a cls d) := by
  have h := pss_one (ps_if (pos := p6) (pt_not (pos := p3) (pt_isV (pn := pn) (p := p) (p1 := p1) (p2 := p2) (q := q) (mg := X.mg) (x := n) hm hv ic kv hz hfs hN hvis hd1 hd2 hg hgv hs1 hs2 hpl)) (pss_one (ps_ret (X := X.suite a ((a, oe) :: pn)) (pos := p5) (pe_bl (X := X.suite a ((a, oe) :: pn)) (b := false) (j := k2) (pos := p4)))) (pss_nil (X := X.suite a ((a, oe) :: pn))))
  constructor
  rintro pins s σ H Dn I ⟨h1, h2, h3, h4⟩
  exact h.run pins s σ H Dn I ⟨h1, h2, h3, h4⟩
variable {cU cW : Addr} {body : List Stmt} {g : DEnv → M (Option D)}
theorem ds_tryA {i : Nat} {n : Str} {p p1 p2 q p3 p4 p5 p6 np ps p' p1' p2' q' p3' p4' p5' p6' np' ps' : Pos} {k1 k2 k1' k2'} (E : Exs X.K X.mg ev cU cW) (hs : X.stack = X.env :: X.outer) (hf : X.env.frame = some X.env.locals) (hN : X.N.Nodup) (tk : Takes X W) (hm : X.mg "isinstance" = none) (hv : X.mg "ValueError" = none)
    (hb : ∀ (W : WX) (pn : List (Addr × Obj)) (xe : Value → Shared → Prop), Takes (X.tr pn xe) W → DQs (X.tr pn xe) ev W body g)
    (hi : X.N[i]? = some n := by rfl) (hln : X.env.kindOf n = some .local := by rfl) (hvis : Vis X.env.scope n := by exact Or.inl rfl) (hd1 : (n == ("__debug__" : Str)) = false := by decide) (hd2 : (n == ("__classdict__" : Str)) = false := by decide) (hg : Gl X "isinstance" := by rfl) (hgv : Gl X "ValueError" := by rfl) (hgu : Gl X "UnfitText" := by rfl) (hgw : Gl X "TooWide" := by rfl)
    (hs1 : starEach [.Name n p1, .Name "ValueError" p2] X.env = (false, eval (.Name n p1) X.env) :: starEach [.Name "ValueError" p2] X.env := by rfl) (hs2 : starEach [.Name "ValueError" p2] X.env = (false, eval (.Name "ValueError" p2) X.env) :: starEach [] X.env := by rfl)
    (hpl : (backTo q (starEach [.Name "ValueError" p2] X.env)).any (·.1) = false := by rfl)
    (hs1' : starEach [.Name n p1', .Name "ValueError" p2'] X.env = (false, eval (.Name n p1') X.env) :: starEach [.Name "ValueError" p2'] X.env := by rfl) (hs2' : starEach [.Name "ValueError" p2'] X.env = (false, eval (.Name "ValueError" p2') X.env) :: starEach [] X.env := by rfl)
    (hpl' : (backTo q' (starEach [.Name "ValueError" p2'] X.env)).any (·.1) = false := by rfl) :
    DS X ev W (.Try body [.ExceptHandler (some (.Name "UnfitText" np)) (some n) (suA n p p1 p2 q p3 p4 p5 p6 k1 k2) ps, .ExceptHandler (some (.Name "TooWide" np')) (some n) (suA n p' p1' p2' q' p3' p4' p5' p6' k1' k2') ps'] [] [] pos) (sTryA i g) := by
  refine ⟨_, ps_try_cl (i := i) (tb := fun W => tqSem X.K ev W g) hs hf hN hi hln tk (fun W pn xe tk' _ => (hb W pn xe tk').sem)
    (.cons (c := .ref cU) (ts := tsA cU i) ⟨hgu, by decide, .inl E.u.c.gC⟩ (fun a oe cls d pn hz hfs => pss_suA hm hv E.u.i E.u.v hz hfs hi hvis hd1 hd2 hg hgv hs1 hs2 hpl)
      (.cons (c := .ref cW) (ts := tsA cW i) ⟨hgw, by decide, .inl E.w.c.gC⟩ (fun a oe cls d pn hz hfs => pss_suA hm hv E.w.i E.w.v hz hfs hi hvis hd1 hd2 hg hgv hs1' hs2' hpl') .nil)), fun sA H0 I0 σ H I ls env Dn gr w r po => ?_⟩
  refine ⟨sA, H0, I, ls, env, w, r, ?_⟩
  revert po
  show PostS X.K ev W sA H0 I0 (sTryA i g env ls) Dn → _
  unfold sTryA
  cases g env ls with
  | stuck => exact fun po => po.elim
  | ok o ls' =>
    cases o with
    | none => exact fun po H' I' g' w' => po σ H' I' (gr.trans g') w' (r.grow g')
    | some d => exact fun po H' I' g' w' v rp => po v H' I' (gr.trans g') w' rp
  | err e ls' =>
    intro po H' I' g' w'
    by_cases hil' : i < env.length
    case neg => dsimp only at po; rw [if_neg hil'] at po; exact po.elim
    dsimp only at po
    rw [if_pos hil'] at po
    have hil : i < σ.length := by rw [← r.len]; exact hil'
    have fin : ∀ p, H' p = none → Dn.rt (.ref p) (upd H' p (.tup [])) := fun p hp => po _ _ (upd I' p (.tup [])) ((gr.trans g').trans (.laid w' hp)) (w'.laid hp) (.tup (.inl (.inl upd_same)) .nil)
    cases e with
    | unfit =>
      rw [E.eu]
      exact ⟨true, E.uu, fun _ a ha => ⟨rfl, rfl, List.getElem?_set_self hil, fin⟩, fun z => nomatch z⟩
    | wide =>
      rw [E.ew]
      exact ⟨false, E.wu, (fun z => nomatch z), fun _ => ⟨true, E.ww, fun _ a ha => ⟨rfl, rfl, List.getElem?_set_self hil, fin⟩, fun z => nomatch z⟩⟩

theorem ds_tryB {i : Nat} {n : Str} {p p1 p2 q p3 p4 p5 p6 np ps : Pos} {k2} (E : Exs X.K X.mg ev cU cW) (hs : X.stack = X.env :: X.outer) (hf : X.env.frame = some X.env.locals) (hN : X.N.Nodup) (tk : Takes X W) (hm : X.mg "isinstance" = none) (hv : X.mg "ValueError" = none)
    (hb : ∀ (W : WX) (pn : List (Addr × Obj)) (xe : Value → Shared → Prop), Takes (X.tr pn xe) W → DQs (X.tr pn xe) ev W body g)
    (hi : X.N[i]? = some n := by rfl) (hln : X.env.kindOf n = some .local := by rfl) (hvis : Vis X.env.scope n := by exact Or.inl rfl) (hd1 : (n == ("__debug__" : Str)) = false := by decide) (hd2 : (n == ("__classdict__" : Str)) = false := by decide) (hg : Gl X "isinstance" := by rfl) (hgv : Gl X "ValueError" := by rfl) (hgu : Gl X "UnfitText" := by rfl)
    (hs1 : starEach [.Name n p1, .Name "ValueError" p2] X.env = (false, eval (.Name n p1) X.env) :: starEach [.Name "ValueError" p2] X.env := by rfl) (hs2 : starEach [.Name "ValueError" p2] X.env = (false, eval (.Name "ValueError" p2) X.env) :: starEach [] X.env := by rfl)
    (hpl : (backTo q (starEach [.Name "ValueError" p2] X.env)).any (·.1) = false := by rfl) :
    DS X ev W (.Try body [.ExceptHandler (some (.Name "UnfitText" np)) (some n) (suB n p p1 p2 q p3 p4 p5 p6 k2) ps] [] [] pos) (sTryB i g) := by
  refine ⟨_, ps_try_cl (i := i) (tb := fun W => tqSem X.K ev W g) hs hf hN hi hln tk (fun W pn xe tk' _ => (hb W pn xe tk').sem)
    (.cons (c := .ref cU) (ts := tsB cU i) ⟨hgu, by decide, .inl E.u.c.gC⟩ (fun a oe cls d pn hz hfs => pss_suB hm hv E.u.i E.u.v hz hfs hi hvis hd1 hd2 hg hgv hs1 hs2 hpl) .nil), fun sA H0 I0 σ H I ls env Dn gr w r po => ?_⟩
  refine ⟨sA, H0, I, ls, env, w, r, ?_⟩
  revert po
  show PostS X.K ev W sA H0 I0 (sTryB i g env ls) Dn → _
  unfold sTryB
  cases g env ls with
  | stuck => exact fun po => po.elim
  | ok o ls' =>
    cases o with
    | none => exact fun po H' I' g' w' => po σ H' I' (gr.trans g') w' (r.grow g')
    | some d => exact fun po H' I' g' w' v rp => po v H' I' (gr.trans g') w' rp
  | err e ls' =>
    intro po H' I' g' w'
    cases e with
    | unfit =>
      by_cases hil' : i < env.length
      case neg => dsimp only at po; rw [if_neg hil'] at po; exact po.elim
      dsimp only at po
      rw [if_pos hil'] at po
      rw [E.eu]
      refine ⟨true, E.uu, fun _ a ha => ⟨rfl, rfl, List.getElem?_set_self (by rw [← r.len]; exact hil'), ?_⟩, fun z => nomatch z⟩
      show Dn.nx ((σ.set i (some (.ref a))).set i none) H'
      rw [List.set_set]
      exact po _ H' I' (gr.trans g') w' ((r.grow g').unset i)
    | wide =>
      rw [E.ew]
      refine ⟨false, E.wu, (fun z => nomatch z), fun _ => ?_⟩
      have := po σ H' I' (gr.trans g') w'
      rw [E.ew] at this
      exact this
end
end DL

/-! DL, part 9: the drawing state's parts; in; more operations. -/
namespace DL
open PySem PySem.Spec PyProof.Rows L2

/-! ### the drawing state -/
def LS.part (ls : LS) : Nat → D
  | 0 => .list (ls.cells.map .int)
  | 1 => .int ls.at_
  | 2 => .int ls.held
  | _ => .int ls.seed
def eSt (i k : Nat) : DEnv → M D := fun env ls => match env[i]? with
  | some (some .st) => if k < 4 then .ok (ls.part k) ls else .stuck
  | _ => .stuck
def LS.put (ls : LS) (k : Nat) (d : D) : Option LS := match k, d with
  | 2, .int n => if 0 ≤ n then some { ls with held := n } else none
  | 3, .int n => if 0 ≤ n ∧ n < 2147483647 then some { ls with seed := n } else none
  | _, _ => none
def sStSet (i k : Nat) (f : DEnv → M D) : DEnv → M Out := fun env => f env >>= fun d ls => match env[i]?, ls.put k d with
  | some (some .st), some ls' => .ok (.nx env) ls'
  | _, _ => .stuck
def sStInc (i : Nat) : DEnv → M Out := fun env ls => match env[i]? with
  | some (some .st) => if ls.at_ < ls.cells.length then .ok (.nx env) { ls with at_ := ls.at_ + 1 } else .stuck
  | _ => .stuck
section
variable {X : Cx} {ev : Ex → Value} {W : WX} {e : Expr} {f : DEnv → M D} {pos p q tpos : Pos}
theorem reps_ints {K : Fg} {I : Hp} : ∀ ns : List Int, Reps K I (ns.map .int) (ns.map .int)
  | [] => .nil
  | n :: ns => .cons (.int n) (reps_ints ns)
theorem st_env {K : Fg} {sA : Option Addr} {H0 H I : Hp} {σ : L2.St} {env : DEnv} (r : RelE K sA H0 σ H I env) {i : Nat} {α : Type} {A B : α} {P : α → Prop} (h : P (match env[i]? with | some (some .st) => A | _ => B)) (hB : P B → False) : ∃ a, sA = some a ∧ σ[i]? = some (some (.ref a)) ∧ env[i]? = some (some .st) ∧ P A := by
  cases e : env[i]? with
  | none => rw [e] at h; exact (hB h).elim
  | some o =>
    cases o with
    | none => rw [e] at h; exact (hB h).elim
    | some dv =>
      cases dv with
      | st => rw [e] at h; obtain ⟨a, h1, h2⟩ := r.st i e; exact ⟨a, h1, h2, rfl, h⟩
      | _ => rw [e] at h; exact (hB h).elim
theorem de_st (i k : Nat) {x : Str} {j : Nat} (hN : X.N[i]? = some x := by rfl) (hv : Vis X.env.scope x := by first | exact Or.inl rfl | exact Or.inr (Or.inl rfl) | exact Or.inr (Or.inr rfl)) (hd : (x == ("__debug__" : Str)) = false := by decide)
    (hcd : (x == ("__classdict__" : Str)) = false := by decide) (hs : PlainIx (.Constant (.int (k : Int)) j q) := by exact fun _ _ => rfl) : DE X ev W .strict (.Subscript (.Name x p) (.Constant (.int (k : Int)) j q) pos) (eSt i k) := by
  refine ⟨_, L2.pe_ix ix_list (pe_var hN hv hd hcd) pe_int hs, fun sA H0 σ H I ls env Q w r po => ?_⟩
  obtain ⟨a, rfl, h2, h3, h4⟩ := st_env r (P := fun x => PostE X.K ev W sA σ H I .strict x Q) (A := if k < 4 then Res.ok (ls.part k) ls else .stuck) (B := .stuck) po id
  split at h4
  · rename_i hk
    obtain ⟨i0, lok, c, hc, hcI⟩ := w.st a rfl
    have key : ∃ v, ([V.ref c, .int ls.at_, .int ls.held, .int ls.seed] : List V)[k]? = some v ∧ Rep X.K I v (ls.part k) := by
      match k, hk with
      | 0, _ => exact ⟨_, rfl, .lst hcI (reps_ints _)⟩
      | 1, _ => exact ⟨_, rfl, .int _⟩
      | 2, _ => exact ⟨_, rfl, .int _⟩
      | 3, _ => exact ⟨_, rfl, .int _⟩
    obtain ⟨v, hv, rv⟩ := key
    exact ⟨_, h2, a, _, k, v, rfl, rfl, .inl (.inl hc), atI_nat hv, h4 H I .refl w v rv⟩
  · exact h4.elim
theorem World.putS {K : Fg} {a : Addr} {H I : Hp} {ls ls' : LS} {c : Addr} (w : World K (some a) H I ls) (hc : H a = some (.lst [.ref c, .int ls.at_, .int ls.held, .int ls.seed])) (hcI : I c = some (.lst (ls.cells.map .int))) (e : ls'.cells = ls.cells) (ok : LSok ls') :
    World K (some a) (upd H a (.lst [.ref c, .int ls'.at_, .int ls'.held, .int ls'.seed])) I ls' := by
  obtain ⟨i0, _⟩ := w.st a rfl
  refine ⟨fun b u q => by rw [upd_ne (ne_of_none q i0)]; exact w.sub b u q, fun b hb => ?_⟩
  cases hb
  exact ⟨i0, ok, c, upd_same, by rw [e]; exact hcI⟩
theorem Grow.putS {a : Addr} {H0 I0 H I : Hp} {o u : HO} (g : Grow (some a) H0 I0 H I) (hc : H a = some o) : Grow (some a) H0 I0 (upd H a u) I where
  keep := fun b x h e => by rw [upd_ne (fun z => h (by rw [z]))]; exact g.keep b x h e
  dom := fun b h => by
    by_cases hb : b = a
    · subst hb; rw [upd_same]; simp
    · rw [upd_ne hb]; exact g.dom b h
  inc := g.inc
  new := g.new
theorem RelE.putS {K : Fg} {a : Addr} {H0 H I : Hp} {σ : L2.St} {env : DEnv} {u : HO} (r : RelE K (some a) H0 σ H I env) : RelE K (some a) H0 σ (upd H a u) I env :=
  ⟨r.len, r.val, fun i d e => let ⟨b, h1, h2, h3, h4, h5⟩ := r.own i d e; ⟨b, h1, h2.mono (fun o q => by rw [upd_ne (fun z => h5 (by rw [z]))]; exact q) (Same.refl _), h3, h4, h5⟩, r.inj, r.st⟩
theorem ds_stSet (i k : Nat) {x : Str} {j : Nat} (he : DE X ev W .strict e f) (hN : X.N[i]? = some x := by rfl) (hv : Vis X.env.scope x := by first | exact Or.inl rfl | exact Or.inr (Or.inl rfl) | exact Or.inr (Or.inr rfl)) (hd : (x == ("__debug__" : Str)) = false := by decide)
    (hcd : (x == ("__classdict__" : Str)) = false := by decide)
    (ha : ∀ v, assign (.Subscript (.Name x p) (.Constant (.int (k : Int)) j q) tpos) X.env v = (do
      let ov ← holding [v] (eval (.Name x p) X.env)
      let iv ← holding [v, ov] (eval (.Constant (.int (k : Int)) j q) X.env)
      standAt tpos
      holding [v, ov, iv] (setItem ov iv v)
      release [v, ov, iv] []) := by intro _; rfl)
    (hs : swapsWithSole [.Subscript (.Name x p) (.Constant (.int (k : Int)) j q) tpos] e pos.line X.env = pure false := by rfl) (hw : swappedStores [.Subscript (.Name x p) (.Constant (.int (k : Int)) j q) tpos] e X.env = pure none := by rfl)
    (h1 : (assignEach [.Subscript (.Name x p) (.Constant (.int (k : Int)) j q) tpos] X.env).map (·.2) = [assign (.Subscript (.Name x p) (.Constant (.int (k : Int)) j q) tpos) X.env] := by rfl) : DS X ev W (.Assign [.Subscript (.Name x p) (.Constant (.int (k : Int)) j q) tpos] e pos) (sStSet i k f) := by
  obtain ⟨t, pe, qe⟩ := he
  refine ⟨_, ps_asg pe (pg_sub (pe_var hN hv hd hcd) pe_int set_list ha) hs hw h1, fun sA H0 I0 σ H I ls env Dn gr w r po => qe.runS gr w r po fun v d ls1 H1 I1 g0 g1 w1 r1 rp p1 => ?_⟩
  cases el : ls1.put k d with
  | none =>
    simp only [el] at p1
    cases e : env[i]? with
    | none => rw [e] at p1; exact p1.elim
    | some o =>
      cases o with
      | none => rw [e] at p1; exact p1.elim
      | some dv => rw [e] at p1; cases dv <;> exact p1.elim
  | some ls' =>
    simp only [el] at p1
    have p2 : PostS X.K ev W sA H0 I0 (match env[i]? with | some (some .st) => Res.ok (Out.nx env) ls' | _ => .stuck) Dn := by
      cases e : env[i]? with
      | none => rw [e] at p1; exact p1.elim
      | some o =>
        cases o with
        | none => rw [e] at p1; exact p1.elim
        | some dv => rw [e] at p1; cases dv <;> first | exact p1 | exact p1.elim
    obtain ⟨a, rfl, h2, h3, h4⟩ := st_env r1 (P := fun x => PostS X.K ev W sA H0 I0 x Dn) p2 id
    obtain ⟨i0, lok, c, hc, hcI⟩ := w1.st a rfl
    have key : ∃ n, d = .int n ∧ v = .int n ∧ LSok ls' ∧ ls'.cells = ls1.cells ∧ ([V.ref c, .int ls1.at_, .int ls1.held, .int ls1.seed] : List V).set k (.int n) = [V.ref c, .int ls'.at_, .int ls'.held, .int ls'.seed] ∧ k < 4 := by
      unfold LS.put at el
      split at el
      · split at el
        · rename_i n hn; cases el; exact ⟨n, rfl, RepO.int (sA := some a) (H := H1) (.inl rp), ⟨lok.at0, lok.len, hn, lok.seed⟩, rfl, rfl, by decide⟩
        · cases el
      · split at el
        · rename_i n hn; cases el; exact ⟨n, rfl, RepO.int (sA := some a) (H := H1) (.inl rp), ⟨lok.at0, lok.len, lok.held, hn⟩, rfl, rfl, by decide⟩
        · cases el
      · cases el
    obtain ⟨n, rfl, rfl, ok', ec, es, hk⟩ := key
    refine ⟨_, h2, a, _, k, k, rfl, rfl, hc, by unfold ixN; simp; omega, ?_⟩
    rw [es]
    exact h4 σ _ I1 (g0.putS hc) (w1.putS hc hcI ec ok') r1.putS
theorem ds_stInc (i : Nat) {x : Str} {j k : Nat} (hget : PGet X (rIxL X.K)) (hN : X.N[i]? = some x := by rfl) (hv : Vis X.env.scope x := by first | exact Or.inl rfl | exact Or.inr (Or.inl rfl) | exact Or.inr (Or.inr rfl)) (hd : (x == ("__debug__" : Str)) = false := by decide)
    (hcd : (x == ("__classdict__" : Str)) = false := by decide) {r1 : Pos}
    (ha : ∀ ov iv new, augStore (.Constant (.int 1) j q) ov iv new = (do holding [new, ov, iv] (setItem ov iv new); release [new, ov, iv] []; pure .next) := by intros; rfl) : DS X ev W (.AugAssign (.Subscript (.Name x p) (.Constant (.int 1) j q) tpos) .Add (.Constant (.int 1) k r1) pos) (sStInc i) := by
  refine ⟨_, ps_augS (pe_var hN hv hd hcd) pe_int hget pe_int (tip := ipI fun i j => i + j) ip_add set_list ha, fun sA H0 I0 σ H I ls env Dn gr w r po => ?_⟩
  obtain ⟨a, rfl, h2, h3, h4⟩ := st_env r (P := fun x => PostS X.K ev W sA H0 I0 x Dn) (A := if ls.at_ < ls.cells.length then Res.ok (Out.nx env) { ls with at_ := ls.at_ + 1 } else .stuck) (B := .stuck) po id
  split at h4
  · rename_i hlt
    obtain ⟨i0, lok, c, hc, hcI⟩ := w.st a rfl
    refine ⟨_, h2, a, _, 1, .int ls.at_, rfl, rfl, .inl (.inl hc), rfl, ls.at_, 1, rfl, rfl, a, _, 1, 1, rfl, rfl, hc, rfl, ?_⟩
    exact h4 σ _ I (gr.putS hc) (w.putS (ls' := { ls with at_ := ls.at_ + 1 }) hc hcI rfl ⟨hlt, lok.len, lok.held, lok.seed⟩) r.putS
  · exact h4.elim
theorem pget_list : PGet X (rIxL X.K) := by
  intro pins s σ H o i ov iv Q I r1 r2 h
  obtain ⟨pp, xs, n, v, rfl, rfl, hs, ha, q⟩ := h
  cases r1
  obtain ⟨tk, rfl⟩ := r2
  obtain ⟨its, rv, pl, _⟩ := I.list hs
  obtain ⟨j, k1, k2, _, k4, k5⟩ := atI_get ha
  obtain ⟨u, eu, ru⟩ := rv.get k2
  have len := rv.length
  have big := line63
  have small : xs.length ≤ sizeLine := by assumption
  have done : EP X pins σ Q u s := ⟨v, H, I, ru, q⟩
  rcases Int.lt_or_le n 0 with neg | pos
  · rw [seqIndex_neg neg k4] at k1
    have ej : (n + (its.toArray.size : Int)).toNat = j := by rw [List.size_toArray, ← len]; exact Option.some.inj k1
    exact wpAny_getItem_list_neg pl.isList neg (by rw [List.size_toArray]; omega) (by omega) (by rw [ej]; simpa using eu) done
  · rw [seqIndex_of pos k5] at k1
    have ej : n.toNat = j := Option.some.inj k1
    exact wpAny_getItem_list pl.isList pos (by omega) (by rw [ej]; simpa using eu) done
end

/-! ### in -/
def hasSub (z x : Str) : Bool := !(Builtin.Str.occurrences z x 0 z.length 1).isEmpty
def inD (x c : D) : Option D := match c with
  | .str z => match x with
    | .str y => some (.bool (hasSub z y))
    | _ => none
  | .list ys => if (flatD x && ys.all flatD || SeqAt.shaped x && SeqAt.shaped (.list ys)) = true then some (.bool (ys.any fun y => PyData.eqv y x)) else none
  | .tuple ys => if (flatD x && ys.all flatD) = true then some (.bool (ys.any fun y => PyData.eqv y x)) else none
  | _ => none
def notB : D → Option D
  | .bool b => some (.bool !b)
  | _ => none
def notInD (x c : D) : Option D := (inD x c).bind notB
theorem flatV_of {d : D} {v : V} {K : Fg} {I : Hp} (h : Rep K I v d) (f : flatD d = true) : flatV v = true ∧ toV d = some v := by
  cases h <;> first | exact ⟨rfl, rfl⟩ | (cases f)
theorem eqV_eqv {d e : D} {u v : V} (h1 : toV d = some u) (h2 : toV e = some v) : eqV u v = PyData.eqv d e := by
  cases d <;> cases e <;> first
    | (cases h1; cases h2; first | rfl | (simp [eqV, PyData.eqv]))
    | (cases h1; done)
    | (cases h2; done)
theorem any_eqV {K : Fg} {I : Hp} {x : V} {d : D} (hx : toV d = some x) : ∀ {vs : List V} {ds : List D}, Reps K I vs ds → ds.all flatD = true → vs.all flatV = true ∧ inV x vs = ds.any fun y => PyData.eqv y d
  | _, _, .nil, _ => ⟨rfl, rfl⟩
  | _, _, .cons h t, f => by
    rw [List.all_cons, Bool.and_eq_true] at f
    obtain ⟨f1, t1⟩ := flatV_of h f.1
    obtain ⟨f2, e2⟩ := any_eqV hx t f.2
    refine ⟨by rw [List.all_cons, f1, f2]; rfl, ?_⟩
    unfold inV at e2 ⊢
    rw [List.any_cons, List.any_cons, e2, eqV_eqv t1 hx]
section
variable {X : Cx}
theorem flat_toV {d : D} {K : Fg} {sA : Option Addr} {H I : Hp} {v : V} (h : RepO K sA H I v d) (f : flatD d = true) : flatV v = true ∧ toV d = some v := by
  cases d with
  | none => rw [h.non]; exact ⟨rfl, rfl⟩
  | bool b => rw [h.bl]; exact ⟨rfl, rfl⟩
  | int b => rw [h.int]; exact ⟨rfl, rfl⟩
  | str b => rw [h.str]; exact ⟨rfl, rfl⟩
  | _ => cases f
theorem meets_in (neg : Bool) (hu : X.A.units + 65 < cLine) : Meets2 X.K .strict
    (fun x y H Q => (∃ i j, x = .str i ∧ y = .str j ∧ Q (.bl (if neg then !(!(Builtin.Str.occurrences j i 0 j.length 1).isEmpty) else !(Builtin.Str.occurrences j i 0 j.length 1).isEmpty)) H) ∨ (rIn X.K neg x y H Q ∨ (∃ d ds, Dp X.K H x d ∧ Dp X.K H y (.list ds) ∧ SeqAt.shaped d = true ∧ SeqAt.shaped (.list ds) = true ∧ Q (.bl (if neg then !ds.any fun z => PyData.eqv z d else ds.any fun z => PyData.eqv z d)) H)))
    (fun x c => (inD x c).bind fun r => if neg then notB r else some r) := by
  intro sA H I ls x y a b d Q w ra rb e q
  cases b with
  | str z =>
    cases a with
    | str t =>
      have e' : (if neg then notB (.bool (hasSub z t)) else some (.bool (hasSub z t))) = some d := e
      refine .inl ⟨_, _, ra.str, rb.str, ?_⟩
      cases neg <;> (cases e'; exact q _ H I .refl w (.bl _))
    | _ => cases e
  | list ys =>
    by_cases hl : (flatD a && ys.all flatD || SeqAt.shaped a && SeqAt.shaped (.list ys)) = true
    · have e' : (if neg then notB (.bool (ys.any fun y => PyData.eqv y a)) else some (.bool (ys.any fun y => PyData.eqv y a))) = some d := by
        simp only [inD, hl, if_true, Option.bind_some] at e; exact e
      have q' : Q (.bl (if neg then !ys.any fun y => PyData.eqv y a else ys.any fun y => PyData.eqv y a)) H := by cases neg <;> (cases e'; exact q _ H I .refl w (.bl _))
      rw [Bool.or_eq_true, Bool.and_eq_true, Bool.and_eq_true] at hl
      rcases hl with ⟨h1, h2⟩ | ⟨h1, h2⟩
      · obtain ⟨p, vs, rfl, k1, k2⟩ := rb.list w
        obtain ⟨f1, t1⟩ := flat_toV ra h1
        obtain ⟨f2, e2⟩ := any_eqV t1 k2 h2
        exact .inr (.inl ⟨p, vs, rfl, .inl (.inl (.inl k1)), f1, f2, by rw [e2]; exact q'⟩)
      · exact .inr (.inr ⟨a, ys, ra.dp w (shaped_lay h1), rb.dp w (shaped_lay h2), h1, h2, q'⟩)
    · simp only [inD, hl] at e; cases e
  | tuple ys =>
    by_cases hl : (flatD a && ys.all flatD) = true
    · have e' : (if neg then notB (.bool (ys.any fun y => PyData.eqv y a)) else some (.bool (ys.any fun y => PyData.eqv y a))) = some d := by
        simp only [inD, hl, if_true, Option.bind_some] at e; exact e
      have q' : Q (.bl (if neg then !ys.any fun y => PyData.eqv y a else ys.any fun y => PyData.eqv y a)) H := by cases neg <;> (cases e'; exact q _ H I .refl w (.bl _))
      rw [Bool.and_eq_true] at hl
      obtain ⟨p, vs, rfl, k1, _, k2⟩ := rb.tup w
      obtain ⟨f1, t1⟩ := flat_toV ra hl.1
      obtain ⟨f2, e2⟩ := any_eqV t1 k2 hl.2
      exact .inr (.inl ⟨p, vs, rfl, .inr k1, f1, f2, by rw [e2]; exact q'⟩)
    · simp only [inD, hl] at e; cases e
  | _ => cases e
theorem os_in (hu : X.A.units + 65 < cLine) : OpS X .strict (compareOp .In) inD := by
  have h := meets_in (X := X) false hu
  refine ⟨_, op_in_str.or (op_in_seq.or (op_inD hu)), fun sA H I ls x y a b d Q w ra rb e q => h sA H I ls x y a b d Q w ra rb (by show (inD a b).bind _ = _; rw [e]; rfl) q⟩
theorem os_notIn (hu : X.A.units + 65 < cLine) : OpS X .strict (compareOp .NotIn) notInD := by
  have h := meets_in (X := X) true hu
  refine ⟨_, op_notIn_str.or (op_notIn_seq.or (op_notInD hu)), fun sA H I ls x y a b d Q w ra rb e q => h sA H I ls x y a b d Q w ra rb (by rw [← e]; rfl) q⟩

/-! ### name op= e -/
def iaddD : D → D → Option D
  | .int i, .int j => some (.int (i + j))
  | .str x, .str y => if okLen (x.length + y.length) = true then some (.str (x ++ y)) else none
  | _, _ => none
theorem os_iadd : OpS X .strict (inplaceOp .Add) iaddD := by
  refine ⟨_, iop_add.or iop_add_str, fun sA H I ls x y a b d Q w ra rb e q => ?_⟩
  cases a <;> cases b <;> first
    | (cases e; exact .inl ⟨_, _, ra.int, rb.int, q _ H I .refl w (.int _)⟩)
    | (simp only [iaddD] at e; split at e <;> first | (rename_i hl; cases e; exact .inr ⟨_, _, ra.str, rb.str, okLen_of hl, q _ H I .refl w (.str _)⟩) | (cases e))
    | (cases e)
theorem os_isub : OpS X .strict (inplaceOp .Sub) subD := by
  refine ⟨_, iop_sub, fun sA H I ls x y a b d Q w ra rb e q => ?_⟩
  cases a <;> cases b <;> first | (cases e; exact ⟨_, _, ra.int, rb.int, q _ H I .refl w (.int _)⟩) | (cases e)

/-! ### methods of texts -/
def isStr : D → Bool
  | .str _ => true
  | _ => false
theorem str_ty {K : Fg} : ∀ sA H I ls x a, World K sA H I ls → RepO K sA H I x a → isStr a = true → tyV K "str" x H := fun sA H I ls x a w r h => by
  cases a with
  | str z => rw [r.str]; rfl
  | _ => cases h
/-- all texts -/
def strsOf : List D → Option (List Str)
  | [] => some []
  | .str x :: r => (strsOf r).map (x :: ·)
  | _ :: _ => none
theorem strs_reps {K : Fg} {I : Hp} : ∀ {vs : List V} {ds : List D} {xs : List Str}, Reps K I vs ds → strsOf ds = some xs → vs = xs.map V.str
  | _, _, _, .nil, h => by cases h; rfl
  | _, _, _, .cons (d := d) r t, h => by
    cases d with
    | str x =>
      simp only [strsOf] at h
      cases e : strsOf _ with
      | none => rw [e] at h; cases h
      | some ys => rw [e] at h; cases h; rw [strs_reps t e]; cases r; rfl
    | _ => cases h
def joinD : D → List D → Option D
  | .str a, [.list ds] => match strsOf ds with
    | some ys => if okLen ((ys.map (·.length)).sum + ys.length * a.length) = true then some (.str (Txt.join a ys)) else none
    | none => none
  | .str a, [.tuple ds] => match strsOf ds with
    | some ys => if okLen ((ys.map (·.length)).sum + ys.length * a.length) = true then some (.str (Txt.join a ys)) else none
    | none => none
  | _, _ => none
theorem ms_join : MtS X .strict "str" "str.join" isStr joinD := by
  refine ⟨_, mt_join, str_ty, fun sA H I ls x xs a ds d Q w ra rs e q => ?_⟩
  cases a with
  | str a =>
    match ds, e with
    | [.list ds], e =>
      obtain ⟨y, rfl, r1⟩ := rs.one
      obtain ⟨p, vs, rfl, k1, k2⟩ := r1.list w
      simp only [joinD] at e
      cases es : strsOf ds with
      | none => rw [es] at e; cases e
      | some ys =>
        simp only [es] at e
        split at e
        · rename_i hl
          cases e
          exact ⟨a, p, ys, ra.str, rfl, .inl (.inl (.inl (by rw [← strs_reps k2 es]; exact k1))), by simpa [okLen] using hl, q _ H I .refl w (.str _)⟩
        · cases e
    | [.tuple ds], e =>
      obtain ⟨y, rfl, r1⟩ := rs.one
      obtain ⟨p, vs, rfl, k1, _, k2⟩ := r1.tup w
      simp only [joinD] at e
      cases es : strsOf ds with
      | none => rw [es] at e; cases e
      | some ys =>
        simp only [es] at e
        split at e
        · rename_i hl
          cases e
          exact ⟨a, p, ys, ra.str, rfl, .inr (by rw [← strs_reps k2 es]; exact k1), by simpa [okLen] using hl, q _ H I .refl w (.str _)⟩
        · cases e
  | _ => cases e
def indexD : D → List D → Option D
  | .str a, [.str b] => match Builtin.Str.occurrences a b 0 a.length 1 with
    | i :: _ => some (.int (i : Nat))
    | [] => none
  | _, _ => none
theorem ms_index : MtS X .strict "str" "str.index" isStr indexD := by
  refine ⟨_, mt_sindex, str_ty, fun sA H I ls x xs a ds d Q w ra rs e q => ?_⟩
  cases a with
  | str a =>
    match ds, e with
    | [.str b], e =>
      obtain ⟨y, rfl, r1⟩ := rs.one
      simp only [indexD] at e
      cases eo : Builtin.Str.occurrences a b 0 a.length 1 with
      | nil => rw [eo] at e; cases e
      | cons i rest => simp only [eo] at e; cases e; exact ⟨a, b, i, rest, ra.str, by rw [r1.str], eo, q _ H I .refl w (.int _)⟩
  | _ => cases e
end
end DL

/-! DL, part 10: x[::-1]; a comprehension given to a name; room. -/
namespace DL
open PySem PySem.Spec PyProof.Rows L2

theorem room65 {k : Nat} {A : Around} (r : Room k A) : A.units + 65 < cLine := by have := r.un; omega
/-! ### x[::-1] -/
def revD : D → Option D
  | .list xs => some (.list xs.reverse)
  | .tuple xs => some (.tuple xs.reverse)
  | .str z => if okLen z.length = true then some (.str ⟨z.cps.toList.reverse.toArray⟩) else none
  | _ => none
theorem back_range (n : Nat) : (List.range n).map (fun k => n - 1 - k) = (List.range n).reverse := PySem.W.krv_range n
theorem back_str (z : Str) : ((Builtin.Str.strSliceIndices none none (-1) z.length).filterMap (z.cps[·]?)) = z.cps.toList.reverse := by
  have e : Builtin.Str.strSliceIndices none none (-1) z.length = sliceRange ((z.length : Int) - 1) (-1) (-1) := rfl
  rw [e, PySem.W.krv_sliceRange, back_range, List.filterMap_reverse]
  exact congrArg List.reverse (PySem.W.krv_all z.cps)
theorem back_places (n : Nat) : Builtin.Slice.slicePlaces ((n : Int) - 1) (-1) (-1) = n := by
  unfold Builtin.Slice.slicePlaces
  rw [if_neg (by decide)]
  by_cases h : n = 0
  · subst h; rfl
  · rw [if_pos (by omega), show (-(-1) : Int) = 1 by decide, Int.ediv_one]; omega
theorem fm_congr {α β : Type} {f g : α → Option β} : ∀ {l : List α}, (∀ k ∈ l, f k = g k) → l.filterMap f = l.filterMap g
  | [], _ => rfl
  | a :: l, h => by
    rw [List.filterMap_cons, List.filterMap_cons, h a List.mem_cons_self, fm_congr fun k hk => h k (List.mem_cons_of_mem _ hk)]
theorem back_pick (xs : Array Value) : ((List.range xs.size).filterMap fun (k : Nat) => xs[(((xs.size : Int) - 1) + (k : Int) * (-1)).toNat]?) = xs.toList.reverse := by
  have h : (List.range xs.size).filterMap (fun (k : Nat) => xs[(((xs.size : Int) - 1) + (k : Int) * (-1)).toNat]?) = ((List.range xs.size).map fun k => xs.size - 1 - k).filterMap (xs[·]?) := by
    rw [List.filterMap_map]
    refine fm_congr fun k hk => ?_
    have := List.mem_range.mp hk
    have e : (((xs.size : Int) - 1) + (k : Int) * (-1)).toNat = xs.size - 1 - k := by omega
    show xs[(((xs.size : Int) - 1) + (k : Int) * (-1)).toNat]? = xs[xs.size - 1 - k]?
    rw [e]
  rw [h, back_range, List.filterMap_reverse]
  exact congrArg List.reverse (PySem.W.krv_all xs)
section
variable {X : Cx} {ev : Ex → Value} {W : WX} {e : Expr} {f : DEnv → M D} {pos p1 p2 p3 : Pos}
theorem tuple_back {prog : Program} {w : PySem.World} {A : Around} {E : Value → Shared → Prop} {s : Shared} {t sl : Addr} {its : Array Value} {tk : Tok} {Q : Value → Shared → Prop} (ht : IsTup s.heap t its) (hs : s.heap.IsSliceOf sl .none .none (.int (-1) tk)) (hz : its.size ≤ sizeLine)
    (h : Q (.ref s.heap.objs.size) { s with heap := s.heap.push { cls := .type "tuple", data := .seq its.toList.reverse.toArray } }) : wpAny (model prog w) A (getItem (.ref t) (.ref sl)) Q E s := by
  obtain ⟨os, hos, hcs, hds⟩ := id hs
  have isS : s.TypeIs (.ref sl) "slice" := ⟨os, hos, hcs⟩
  have fits : sizeOk (.seq its.toList.reverse.toArray) := by
    show its.toList.reverse.toArray.size ≤ sizeLine
    rw [List.size_toArray, List.length_reverse, Array.length_toList]; exact hz
  unfold getItem
  try with_reducible refine wpAny_holding ?_
  first | refine wpAny_bind (wpAny_pure ?_) | skip
  refine wpAny_bind (wpAny_sequenceKey ht.typeIs (by decide) (wpAny_bind (wpAny_callSpecial?_slot (name := Str.ofString "__getitem__") ht.typeIs PyProof.Rows.slot_tuple_getitem
    (wpAny_call_entry PyProof.Rows.slot_tuple_getitem ht.typeIs entry_tuple_getitem ?_ (args_tuple_getitem _ _)))))
  show wpAny _ _ (Builtin.Tuple.tupleItemsOf (.ref t) >>= _) _ _ s
  refine wpAny_bind (tupleItemsOf_ ht (wpAny_bind (wpAny_typeOf isS ?_)))
  rw [if_pos (by decide)]
  refine wpAny_bind ?_
  unfold Builtin.Slice.sliceApplied Builtin.Slice.sliceFields
  refine wpAny_bind (wpAny_bind (wpAny_field hos hds (x := .none) rfl ?_))
  refine wpAny_bind (wpAny_field hos hds (x := .none) rfl (wpAny_bind (wpAny_field hos hds (x := .int (-1) tk) rfl (wpAny_pure ?_))))
  refine wpAny_bind (HT.slicePart_ (.int (-1) tk) ?_)
  show wpAny _ _ (if ((-1 : Int) == 0) = true then _ else _) _ _ s
  rw [if_neg (by decide)]
  refine wpAny_bind (HT.slicePart_ .none (wpAny_bind (HT.slicePart_ .none (wpAny_bind (wpAny_pure ?_)))))
  show wpAny _ _ (pure (((its.size : Int) - 1), (-1 : Int), Builtin.Slice.slicePlaces ((its.size : Int) - 1) (-1) (-1))) _ _ s
  rw [back_places]
  refine wpAny_pure ?_
  have no : ¬ ((((its.size : Int) - 1) == 0 && (-1 : Int) == 1 && its.size == its.size) = true) := by
    intro q
    rw [Bool.and_eq_true, Bool.and_eq_true] at q
    exact absurd q.1.2 (by decide)
  show wpAny _ _ (if (((its.size : Int) - 1) == 0 && (-1 : Int) == 1 && its.size == its.size) = true then _ else _) _ _ s
  rw [if_neg no, back_pick]
  first
    | exact wpAny_bind (m := Builtin.Tuple.tupleExact _) (wpAny_newObj_type (wpAny_pure ⟨_, rfl, wpAny_pure h⟩) fits)
    | exact wpAny_bind (m := Builtin.Tuple.tupleExact _) (wpAny_newObj_type (wpAny_bind (wpAny_pure (wpAny_pure ⟨_, rfl, wpAny_pure h⟩))) fits)
    | exact wpAny_bind (wpAny_bind (m := Builtin.Tuple.tupleExact _) (wpAny_newObj_type (wpAny_pure (wpAny_pure ⟨_, rfl, wpAny_pure h⟩)) fits))
    | exact wpAny_bind (wpAny_bind (m := Builtin.Tuple.tupleExact _) (wpAny_newObj_type (wpAny_pure ⟨_, rfl, wpAny_pure h⟩) fits))
def rRev (K : Fg) : V → Hp → VK → Prop := fun x H1 Q => (∃ z, x = .str z ∧ z.length ≤ sizeLine ∧ Q (.str ⟨z.cps.toList.reverse.toArray⟩) H1) ∨ (∃ a xs, x = .ref a ∧ SqT K H1 a xs ∧ ∀ p, H1 p = none → Q (.ref p) (upd H1 p (.tup xs.reverse))) ∨
  (∃ a xs, x = .ref a ∧ SqL K H1 a xs ∧ ∀ p, H1 p = none → Q (.ref p) (upd H1 p (.lst xs.reverse)))
theorem pe_rev {te : TE} {k : Nat} (he : PE X e te) : PE X (.Subscript e (.Slice none none (some (.UnaryOp .USub (.Constant (.int 1) k p1) p2)) p3) pos) (tUn (rRev X.K) te) := by
  constructor
  intro pins s σ H Q I h
  apply Subscript_
  refine thn (he.run pins s σ H _ I h) ?_
  rintro v s1 ⟨x, H1, I1, r1, q1⟩
  have st : PO X (some (.UnaryOp .USub (.Constant (.int 1) k p1) p2)) (tPart (tUn (rU fun i => .int (-i)) (tC (.int 1)))) := po_some (pe_un un_neg pe_int)
  apply wpAny_Slice
  refine thn (po_none.run pins s1 σ H1 (fun o H2 => o = none ∧ H2 = H1) I1 ⟨rfl, rfl⟩) ?_
  rintro vl s2 ⟨l, H2, I2, pl, rfl, rfl⟩
  refine thn (po_none.run pins s2 σ H2 (fun o H3 => o = none ∧ H3 = H2) I2 ⟨rfl, rfl⟩) ?_
  rintro vu s3 ⟨u, H3, I3, pu, rfl, rfl⟩
  refine thn (st.run pins s3 σ H3 (fun o H4 => o = some (-1) ∧ H4 = H3) I3 ⟨1, rfl, -1, rfl, rfl, rfl⟩) ?_
  rintro vs s4 ⟨o, H4, I4, ps, rfl, rfl⟩
  cases pl
  cases pu
  cases ps with
  | int i tk =>
  have I5 : Inv X pins σ H4 { s4 with heap := s4.heap.push { cls := .type "slice", data := .fields #[.none, .none, .int (-1) tk] } } := I4.kept (t' := s4.toks) fun b ob q => Heap.get?_push_of_some _ q
  show wpAny (model X.prog X.w) X.A (subscriptTail e (.Slice none none (some (.UnaryOp .USub (.Constant (.int 1) k p1) p2)) p3) v (.ref s4.heap.objs.size)) (EP X pins σ Q) X.xe { s4 with heap := s4.heap.push { cls := .type "slice", data := .fields #[.none, .none, .int (-1) tk] } }
  rcases q1 with ⟨z, rfl, hz, q⟩ | ⟨a, xs, rfl, hx, q⟩ | ⟨a, xs, rfl, hx, q⟩
  · obtain ⟨t, rfl⟩ := r1
    refine tail_any (ops := [.str z t, .ref s4.heap.objs.size]) (typeIs_str _ z t) F.slot_str_getitem.lookup ?_ (by with_unfolding_all rfl)
    refine wpAny_getItem_str_slice (l := none) (u := none) (st := some (-1, tk)) ⟨_, Heap.get?_push_size _ rfl, rfl, rfl⟩ rfl ?_
    have e : sliceMade z t none none (some (-1, tk)) = .str ⟨z.cps.toList.reverse.toArray⟩ := by
      unfold sliceMade
      rw [if_neg (by simp)]
      show Made.str ⟨((Builtin.Str.strSliceIndices none none (-1) z.length).filterMap (z.cps[·]?)).toArray⟩ = _
      rw [back_str]
    rw [e]
    refine ⟨?_, .str _, H4, I5.tok _, ⟨_, rfl⟩, q⟩
    show z.cps.toList.reverse.toArray.size ≤ sizeLine
    rw [List.size_toArray, List.length_reverse, Array.length_toList]; exact hz
  · cases r1
    obtain ⟨its, r, ht, hz⟩ := I5.tuple hx
    have hl := r.length
    refine tail_any (ops := [.ref a, .ref s4.heap.objs.size]) ht.typeIs PyProof.Rows.slot_tuple_getitem.lookup ?_ (by with_unfolding_all rfl)
    refine tuple_back ht (Heap.IsSliceOf.new _ _ _ _) (by rw [List.size_toArray]; omega) ?_
    refine ⟨.ref _, _, I5.laid (t' := s4.toks) (o := .tup xs.reverse) (fun b ob q => Heap.get?_push_of_some _ q) (Nat.le_refl _) ?_, rfl, q _ (I5.hok.fresh (Nat.le_refl _))⟩
    exact ⟨by rw [List.length_reverse]; exact hz, its.reverse, r.reverse, ⟨_, Heap.get?_push_size _ rfl, rfl, _, rfl⟩⟩
  · cases r1
    obtain ⟨its, r, ht, hz⟩ := I5.list hx
    have hl := r.length
    refine tail_any (ops := [.ref a, .ref s4.heap.objs.size]) ht.isList.typeIs PySem.slot_list_getitem.lookup ?_ (by with_unfolding_all rfl)
    refine wpAny_getItem_list_slice ht.isList (Heap.IsSliceOf.new _ _ _ _) .none .none (.int (-1) tk) (by decide) ?_ (by rw [List.size_toArray]; omega)
    rw [PySem.W.krv_pick]
    refine ⟨.ref _, _, I5.laid (t' := s4.toks) (o := .lst xs.reverse) (fun b ob q => Heap.get?_push_of_some _ q) (Nat.le_refl _) ?_, rfl, q _ (I5.hok.fresh (Nat.le_refl _))⟩
    exact ⟨by rw [List.length_reverse]; exact hz, its.reverse, 0, r.reverse, Heap.get?_push_size _ rfl⟩
def eRev (f : DEnv → M D) : DEnv → M D := e1 revD f
theorem meets_rev : Meets1 X.K .strict (rRev X.K) revD := by
  intro sA H I ls x a d Q w ra e q
  cases a with
  | str z =>
    simp only [revD] at e
    split at e
    · rename_i hl; cases e; exact .inl ⟨z, ra.str, okLen_of hl, q _ H I .refl w (.str _)⟩
    · cases e
  | tuple ds =>
    cases e
    obtain ⟨p, xs, rfl, h1, _, h2⟩ := ra.tup w
    exact .inr (.inl ⟨p, xs, rfl, h1, fun r hr => q _ _ (upd I r (.tup xs.reverse)) (.laid w hr) (w.laid hr) (.tup (.inl (.inl upd_same)) (h2.reverse.mono (same_upd (w.free hr))))⟩)
  | list ds =>
    cases e
    obtain ⟨p, xs, rfl, h1, h2⟩ := ra.list w
    exact .inr (.inr ⟨p, xs, rfl, .inl (.inl h1), fun r hr => q _ _ (upd I r (.lst xs.reverse)) (.laid w hr) (w.laid hr) (.lst upd_same (h2.reverse.mono (same_upd (w.free hr))))⟩)
  | _ => cases e
theorem de_rev {k : Nat} (he : DE X ev W .oper e f) : DE X ev W .strict (.Subscript e (.Slice none none (some (.UnaryOp .USub (.Constant (.int 1) k p1) p2)) p3) pos) (eRev f) :=
  let ⟨_, pe, qe⟩ := he; ⟨_, pe_rev pe, sat_un meets_rev qe⟩
end

/-! ### x = [.. for ..] on one line, x a plain local -/
section
variable {X : Cx} {ev : Ex → Value} {W : WX} {elt tg iter : Expr} {fe : DEnv → M D} {pos spos py : Pos} {fi : DEnv → M (List D)} {ft : DEnv → M Bool} {scope : Scope} {own : List (Str × Nat)} {ts : List Nat} {bd : Bd} {ifs : List Expr} {y : Str}
theorem sat_setLc {K : Fg} {t : TE} {f : DEnv → M D} (i : Nat) (q : Sat K ev W .fresh t f) : SatS K ev W (tAsg t (gName i)) (sOwn i f) := fun sA H0 I0 σ H I ls env Dn gr w r po => q.runS gr w r po fun v d ls1 H1 I1 g0 g1 w1 r1 rp p1 => by
  obtain ⟨a, rfl, h1, h2, h3, h4⟩ := rp
  refine p1 _ H1 I1 g0 w1 (r1.setO i h1 ?_ h3 h4 fun j e hj q z => ?_)
  · cases k : H0 a with
    | none => rfl
    | some o => exact absurd h2 (gr.dom a (by rw [k]; simp))
  · obtain ⟨b, z1, z2, _⟩ := r.own j e q
    rw [z] at z1; cases z1
    obtain ⟨o, ho⟩ := z2.there
    rw [ho] at h2; cases h2
theorem sat_setLcS {K : Fg} {t : TE} {f : DEnv → M D} (i : Nat) (q : Sat K ev W .strict t f) : SatS K ev W (tAsg t (gName i)) (sSet i f) := fun sA H0 I0 σ H I ls env Dn gr w r po =>
  q.runS gr w r po fun v d ls1 H1 I1 g0 g1 w1 r1 rp p1 => p1 _ H1 I1 g0 w1 (r1.set i rp)
theorem sat_frz {K : Fg} {t : TE} {f : DEnv → M D} (q : Sat K ev W .fresh t f) : Sat K ev W .strict t (frz f) := fun sA H0 σ H I ls env Q w r po => q.run w r po fun v d ls1 H1 I1 g w1 r1 ⟨a, ee, h1, hs, h2, h3⟩ po => by
  subst ee
  cases d with
  | list ds =>
    obtain ⟨vs, k1, k2⟩ := h1
    refine po H1 (upd I1 a (.lst vs)) ⟨g.keep, g.dom, g.inc.trans (same_upd h2), fun b hb => ?_⟩ (w1.freeze k1 h2 h3) (.ref a) (.lst upd_same (k2.mono (same_upd h2)))
    by_cases z : b = a
    · subst z; exact .inr hs
    · rw [upd_ne z] at hb; exact g.new b hb
  | _ => exact po.elim
theorem ds_ownLc (i : Nat) (hc : X.calm = true) (hN : X.N.Nodup) (hi : DI X ev W true tg iter fi) (ok : BlkOk X.N X.env.scope scope own) (hts : ∀ i ∈ ts, i ∈ own.map (·.2))
    (hg : ∀ (s : Shared) (H : Hp) (C : Addr) (cl : List (Str × Addr)) (fp : List Addr), DG (X.blk s H scope (compEnvC scope cl C X.env) fp) tg ts bd)
    (ht : ∀ (s : Shared) (H : Hp) (C : Addr) (cl : List (Str × Addr)) (fp : List Addr), DTs (X.blk s H scope (compEnvC scope cl C X.env) fp) ev W0 ifs ft)
    (he : ∀ (s : Shared) (H : Hp) (C : Addr) (cl : List (Str × Addr)) (fp : List Addr), DE (X.blk s H scope (compEnvC scope cl C X.env) fp) ev W0 .strict elt fe)
    (hy : X.N[i]? = some y := by rfl) (hyl : X.env.scope.names.lookup y = some .local := by rfl) (hk : X.env.scope.kind = .function := by rfl) (hl : (py.line == pos.line) = true := by rfl)
    (ha : (scope.names.any fun (n, k) => n == y && (k == .local || k == .cell)) = false := by rfl) (hs : ∀ x, foldedSetIterable iter X.env x = pure x := by intro _; rfl) :
    DS X ev W (.Assign [.Name y py] (.ListComp elt [⟨tg, iter, ifs, 0⟩] scope pos) spos) (sOwn i (eLc (own.map (·.2)) bd fi ft fe)) := by
  obtain ⟨wi, pi, qi⟩ := hi
  exact ⟨_, ps_setLc (g := gSem X.K ts bd) (tt := ttSem X.K ev W0 ft) (te := tSem X.K ev W0 .strict fe) hc hN hy hyl (sw_true hk hyl hl ha) pi ok (fun s H C cl fp => (hg s H C cl fp).sem) (fun s H C cl fp => ht s H C cl fp) (fun s H C cl fp => (he s H C cl fp).sem) hs, sat_setLc i (sat_lc qi hts)⟩
theorem ds_setLc (i : Nat) (hc : X.calm = true) (hN : X.N.Nodup) (hi : DI X ev W true tg iter fi) (ok : BlkOk X.N X.env.scope scope own) (hts : ∀ i ∈ ts, i ∈ own.map (·.2))
    (hg : ∀ (s : Shared) (H : Hp) (C : Addr) (cl : List (Str × Addr)) (fp : List Addr), DG (X.blk s H scope (compEnvC scope cl C X.env) fp) tg ts bd)
    (ht : ∀ (s : Shared) (H : Hp) (C : Addr) (cl : List (Str × Addr)) (fp : List Addr), DTs (X.blk s H scope (compEnvC scope cl C X.env) fp) ev W0 ifs ft)
    (he : ∀ (s : Shared) (H : Hp) (C : Addr) (cl : List (Str × Addr)) (fp : List Addr), DE (X.blk s H scope (compEnvC scope cl C X.env) fp) ev W0 .strict elt fe)
    (hy : X.N[i]? = some y := by rfl) (hyl : X.env.scope.names.lookup y = some .local := by rfl) (hk : X.env.scope.kind = .function := by rfl) (hl : (py.line == pos.line) = true := by rfl)
    (ha : (scope.names.any fun (n, k) => n == y && (k == .local || k == .cell)) = false := by rfl) (hs : ∀ x, foldedSetIterable iter X.env x = pure x := by intro _; rfl) :
    DS X ev W (.Assign [.Name y py] (.ListComp elt [⟨tg, iter, ifs, 0⟩] scope pos) spos) (sSet i (frz (eLc (own.map (·.2)) bd fi ft fe))) := by
  obtain ⟨wi, pi, qi⟩ := hi
  exact ⟨_, ps_setLc (g := gSem X.K ts bd) (tt := ttSem X.K ev W0 ft) (te := tSem X.K ev W0 .strict fe) hc hN hy hyl (sw_true hk hyl hl ha) pi ok (fun s H C cl fp => (hg s H C cl fp).sem) (fun s H C cl fp => ht s H C cl fp) (fun s H C cl fp => (he s H C cl fp).sem) hs, sat_setLcS i (sat_frz (sat_lc qi hts))⟩
end
end DL

/-! DL, part 11: tuple(text), list(text); any row walked; x, y, z = ..; {}; what is not served. -/
namespace DL
open PySem PySem.Spec PyProof.Rows L2

section
variable {prog : Program} {w : PySem.World} {A : Around} {E : Value → Shared → Prop} {s : Shared}
theorem code_tup_txt {Qn : Value → Shared → Prop} (hh : A.handled = none) (z : Str) (tk0 : Tok) (hz : z.cps.size ≤ sizeLine)
    (fin : ∀ (s' : Shared) (acc : Array Value), (∀ b o, s.heap.get? b = some o → s'.heap.get? b = some o) → s'.gens = s.gens → s'.drawn = s.drawn → s'.os = s.os → ItemsOf (SignAt z) acc z.cps.size →
      Qn (.ref s'.heap.objs.size) { s' with heap := s'.heap.push { cls := .type "tuple", data := .seq acc } }) :
    codeAny (model prog w) A (.call (.builtin "tuple.__new__") ⟨[.type "tuple", .str z tk0], []⟩) (wants Qn E) s := by
  apply codeAny_of_tree
  show wpAny _ A.in1 (checkBuiltinCall "tuple.__new__" ⟨[.type "tuple", .str z tk0], []⟩ >>= fun _ => again (.builtin "tuple.__new__" ⟨[.type "tuple", .str z tk0], []⟩)) _ _ s
  refine wpAny_bind (wpAny_of_eq (F.newCall_tuple_1 _) (wpAny_pure ⟨plainId_quiet F.plain_tuple_new _, ?_⟩))
  apply codeAny_builtin F.entry_tuple_new
  rw [Around.under_plainId F.plain_tuple_new _]
  have k1 := sub_tuple_self
  have k2 := init_tuple_lookup
  have k3 := madeHere_tuple
  have k4 : s.TypeIs (.str z tk0) "str" := rfl
  have k5 : A.in1.handled = none := hh
  wp_walk using wpAny_typeOf k4, wpAny_collect_str (A := A.in1) (hn := hz) k5
  intro s' acc hk hg hd ho hacc
  show wpAny _ _ (Builtin.Tuple.tupleExact acc.toList.toArray >>= fun v => ret v) _ _ s'
  unfold Builtin.Tuple.tupleExact
  have ea : acc.toList.toArray = acc := by simp
  rw [ea]
  refine wpAny_bind (wpAny_newObj_type ?_ (by show acc.size ≤ sizeLine; rw [hacc.1]; exact hz))
  exact wpAny_pure (fin s' acc hk hg hd ho hacc)
theorem call_tup_txt {Qn : Value → Shared → Prop} (hh : A.handled = none) (z : Str) (tk0 : Tok) (hz : z.cps.size ≤ sizeLine)
    (fin : ∀ (s' : Shared) (acc : Array Value), (∀ b o, s.heap.get? b = some o → s'.heap.get? b = some o) → s'.gens = s.gens → s'.drawn = s.drawn → s'.os = s.os → ItemsOf (SignAt z) acc z.cps.size →
      Qn (.ref s'.heap.objs.size) { s' with heap := s'.heap.push { cls := .type "tuple", data := .seq acc } }) :
    wpAny (model prog w) A (call (.type "tuple") [.str z tk0]) Qn E s := by
  refine callType_codes (Q₁ := fun o s1 => s1.TypeIs o "tuple" ∧ Qn o s1) F.called_tuple (F.typeCall_tuple_1 _) F.entry_object_init ?_ fun o s1 h1 => ?_
  · exact code_tup_txt (A := A.in1) hh z tk0 hz fun s' acc a b c d e => ⟨⟨_, Heap.get?_push_size _ rfl, rfl⟩, fin s' acc a b c d e⟩
  · refine ⟨h1.1, F.args_object_init_2 o _, ?_⟩
    exact object_init_meets F.called_tuple.init.lookup F.called_tuple.made (by decide) prog w A.in1 _ s1 ⟨h1.1, rfl, h1.2⟩
end
/-- a text's signs -/
def signsV (z : Str) : List V := z.cps.toList.map fun c => .str (one c)
def signsD (z : Str) : List D := z.cps.toList.map fun c => .str (one c)
theorem signs_reps {K : Fg} {I : Hp} (z : Str) : Reps K I (signsV z) (signsD z) := by
  unfold signsV signsD
  induction z.cps.toList with
  | nil => exact .nil
  | cons c r ih => exact .cons (.str _) ih
theorem signs_len (z : Str) : (signsV z).length = z.cps.size := by simp [signsV]
theorem signs_vals {z : Str} {acc : Array Value} (h : ItemsOf (SignAt z) acc z.cps.size) : Vals (signsV z) acc.toList := by
  refine vals_of_at (by rw [signs_len, Array.length_toList, h.1]) fun j x u hx hu => ?_
  rw [Array.getElem?_toList] at hu
  obtain ⟨c, t, hc, rfl⟩ := h.2 j u hu
  unfold signsV at hx
  rw [List.getElem?_map, Array.getElem?_toList, hc] at hx
  cases hx
  exact ⟨t, rfl⟩
section
variable {X : Cx}
theorem call_tuple_txt (hc : X.calm = true) : CallR X (.type "tuple") (fun xs H Q => ∃ z, xs = [.str z] ∧ z.cps.size ≤ sizeLine ∧ ∀ p, H p = none → Q (.ref p) (upd H p (.tup (signsV z)))) := by
  intro pins s σ H xs us Q I r h
  obtain ⟨z, rfl, hz, q⟩ := h
  obtain ⟨u, rfl, tk, rfl⟩ := vals1 r
  refine call_tup_txt (I.ok.hd hc) z tk hz fun s' acc hk hg hd ho hacc => ?_
  obtain ⟨h1, t1, rfl⟩ : ∃ h1 t1, s' = { s with heap := h1, toks := t1 } := by
    obtain ⟨a, b, c, d, e⟩ := s'
    cases hg; cases hd; cases ho
    exact ⟨a, _, rfl⟩
  have I2 : Inv X pins σ H { s with heap := h1, toks := t1 } := I.kept hk
  refine ⟨.ref h1.objs.size, upd H h1.objs.size (.tup (signsV z)), I2.laid (t' := t1) (fun c o e => Heap.get?_push_of_some _ e) (Nat.le_refl _) (show ObjOk X.prog X.w _ _ _ (.tup (signsV z)) from ⟨?_, acc.toList, signs_vals hacc, ?_⟩), rfl, q _ (I2.hok.fresh (Nat.le_refl _))⟩
  · rw [signs_len]; exact hz
  · rw [Array.toArray_toList]; exact IsTup.new _ _
theorem call_list_txt (hc : X.calm = true) : CallR X (.type "list") (fun xs H Q => ∃ z, xs = [.str z] ∧ z.cps.size ≤ sizeLine ∧ ∀ p, H p = none → Q (.ref p) (upd H p (.lst (signsV z)))) := by
  intro pins s σ H xs us Q I r h
  obtain ⟨z, rfl, hz, q⟩ := h
  obtain ⟨u, rfl, tk, rfl⟩ := vals1 r
  refine call_list_str (hn := hz) (I.ok.hd hc) z tk fun h' tk' acc c' hk e' hacc => ?_
  refine ⟨.ref s.heap.objs.size, upd H s.heap.objs.size (.lst (signsV z)), I.laid hk (Nat.le_refl _) (show ObjOk X.prog X.w _ _ _ (.lst (signsV z)) from ⟨?_, acc.toList, c', signs_vals hacc, ?_⟩), rfl, q _ (I.hok.fresh (Nat.le_refl _))⟩
  · rw [signs_len]; exact hz
  · rw [Array.toArray_toList]; exact e'
def tupSD : List D → Option D
  | [.str z] => if okLen z.length = true then some (.tuple (signsD z)) else none
  | ds => tupD ds
def listSD : List D → Option D
  | [.str z] => if okLen z.length = true then some (.list (signsD z)) else none
  | ds => listD ds
theorem cs_tupleS (hc : X.calm = true) : CallS X .strict (.type "tuple") tupSD := by
  obtain ⟨r, h1, h2⟩ := cs_tuple (X := X)
  refine ⟨_, (call_tuple_txt hc).or h1, fun sA H I ls xs ds d Q w rs e q => ?_⟩
  unfold tupSD at e
  split at e
  · rename_i z
    split at e
    · rename_i hl
      cases e
      obtain ⟨x, rfl, r1⟩ := rs.one
      exact .inl ⟨z, by rw [r1.str], okLen_of hl, fun p hp => q _ _ (upd I p (.tup (signsV z))) (.laid w hp) (w.laid hp) (.tup (.inl (.inl upd_same)) (signs_reps z))⟩
    · cases e
  · exact .inr (h2 sA H I ls xs ds d Q w rs e q)
theorem cs_listS (hc : X.calm = true) : CallS X .fresh (.type "list") listSD := by
  obtain ⟨r, h1, h2⟩ := cs_list (X := X)
  refine ⟨_, (call_list_txt hc).or h1, fun sA H I ls xs ds d Q w rs e q => ?_⟩
  unfold listSD at e
  split at e
  · rename_i z
    split at e
    · rename_i hl
      cases e
      obtain ⟨x, rfl, r1⟩ := rs.one
      exact .inl ⟨z, by rw [r1.str], okLen_of hl, fun p hp => q _ _ I (.laidM hp) (w.laidM hp) (fresh_at w hp (signs_reps z))⟩
    · cases e
  · exact .inr (h2 sA H I ls xs ds d Q w rs e q)
end

/-! ### any row is walked -/
def itemsA : D → Option (List D)
  | .list xs => some xs
  | .tuple xs => some xs
  | .str z => some (signsD z)
  | _ => none
section
variable {X : Cx} {ev : Ex → Value} {W : WX} {e tg : Expr} {f : DEnv → M D} {pos : Pos}
theorem PI.or {wa wb : TI} (ha : PI X tg e wa) (hb : PI X tg e wb) : PI X tg e (fun σ H R => wa σ H R ∨ wb σ H R) :=
  ⟨fun pins s σ H R I h => h.elim (ha.run pins s σ H R I) (hb.run pins s σ H R I)⟩
theorem di_any (h : DE X ev W .strict e f) : DI X ev W false tg e (iOf itemsA f) := by
  obtain ⟨w1, p1, q1⟩ := di_list (tg := tg) h
  obtain ⟨w2, p2, q2⟩ := di_tup (tg := tg) h
  obtain ⟨w3, p3, q3⟩ := di_str (tg := tg) h
  refine ⟨_, PI.or p1 (PI.or p2 p3), fun sA H0 σ H I ls env R w r po => ?_⟩
  have same : ∀ g : D → Option (List D), (∀ d ls', f env ls = .ok d ls' → g d = itemsA d) → iOf g f env ls = iOf itemsA f env ls := fun g hg => by
    show M.bind (f env) (fun d => lift (g d)) ls = M.bind (f env) (fun d => lift (itemsA d)) ls
    unfold M.bind
    cases e : f env ls with
    | ok d ls' => show lift (g d) ls' = lift (itemsA d) ls'; rw [hg d ls' e]
    | err _ _ => rfl
    | stuck => rfl
  cases e : f env ls with
  | ok d ls' =>
    cases d with
    | tuple ds => exact .inr (.inl (q2 sA H0 σ H I ls env R w r (by rw [same itemsT fun d ls2 h => by rw [e] at h; cases h; rfl]; exact po)))
    | str z => exact .inr (.inr (q3 sA H0 σ H I ls env R w r (by rw [same itemsS fun d ls2 h => by rw [e] at h; cases h; rfl]; exact po)))
    | _ => exact .inl (q1 sA H0 σ H I ls env R w r (by rw [same itemsL fun d ls2 h => by rw [e] at h; cases h; rfl]; exact po))
  | err _ _ => exact .inl (q1 sA H0 σ H I ls env R w r (by rw [same itemsL fun d ls2 h => by rw [e] at h; cases h]; exact po))
  | stuck => exact .inl (q1 sA H0 σ H I ls env R w r (by rw [same itemsL fun d ls2 h => by rw [e] at h; cases h]; exact po))
/-- {} -/
theorem de_dict : DE X ev W .strict (.Dict [] [] pos) (eC (.dict [])) := by
  refine ⟨_, pe_dnewK, fun sA H0 σ H I ls env Q w r po => fun p hp => ?_⟩
  exact po _ (upd I p (.dK [])) (.laid w hp) (w.laid hp) _ (.dic upd_same)
end

/-! ### x, y, z = a, b, c -/
section
variable {X : Cx} {ev : Ex → Value} {W : WX} {pos : Pos} {sts : List Stmt}
def sPar3 (i j l : Nat) (fr : DEnv → M (List D)) : DEnv → M Out := fun env => fr env >>= fun ds => match ds with
  | [d1, d2, d3] => pure (.nx (((env.set i (some (.val d1))).set j (some (.val d2))).set l (some (.val d3))))
  | _ => stuck
theorem ds_par3 (i j l : Nat) {x y z : Str} {a b c : Expr} {fr : DEnv → M (List D)} {px py pz pt : Pos} {kt k2 pt2} (hc : X.calm = true) (hN : X.N.Nodup) (ha : DA X ev W [a, b, c] fr) (hi : X.N[i]? = some x := by rfl) (hj : X.N[j]? = some y := by rfl) (hl : X.N[l]? = some z := by rfl)
    (hij : i ≠ j := by decide) (hil : i ≠ l := by decide) (hjl : j ≠ l := by decide)
    (hx : X.env.scope.names.lookup x = some .local := by rfl) (hy : X.env.scope.names.lookup y = some .local := by rfl) (hz : X.env.scope.names.lookup z = some .local := by rfl)
    (hw : swappedStores [.Tuple [.Name x px, .Name y py, .Name z pz] kt pt] (.Tuple [a, b, c] k2 pt2) X.env = pure (some [x, y, z]) := by rfl)
    (hs : swapsWithSole [.Tuple [.Name x px, .Name y py, .Name z pz] kt pt] (.Tuple [a, b, c] k2 pt2) pos.line X.env = pure false := by rfl) :
    DS X ev W (.Assign [.Tuple [.Name x px, .Name y py, .Name z pz] kt pt] (.Tuple [a, b, c] k2 pt2) pos) (sPar3 i j l fr) := by
  obtain ⟨t, p, q⟩ := ha
  refine ⟨_, ps_par3 hc hN hi hj hl hij hil hjl hx hy hz p hw hs, fun sA H0 I0 σ H I ls env Dn gr w r po => q sA H0 σ H I ls env _ w r ((postS_bind gr po).mono fun ds ls1 H1 I1 _ g1 w1 ⟨g0, p1⟩ vs rs => ?_)⟩
  match ds, p1, rs with
  | [d1, d2, d3], p1, .cons r1 (.cons r2 (.cons r3 .nil)) => exact ⟨_, _, _, rfl, p1 _ H1 I1 g0 w1 ((((r.grow g1).set i r1).set j r2).set l r3)⟩
/-- what is not served -/
theorem dss_stuck : DSs X ev W sts (fun _ => stuck) := ⟨fun _ _ _ => False, ⟨fun _ _ _ _ _ _ h => h.elim⟩, fun sA H0 I0 σ H I ls env Dn gr w r po => po.elim⟩
end
end DL

/-! DL, part 12: what a linked text has written; the law's own beginning. -/
namespace DL
open PySem PySem.Spec PyProof.Rows L2

def evOf (cU cW : Addr) : Ex → Value
  | .unfit => .ref cU
  | .wide => .ref cW
/-- the built-ins that no module's name hides -/
def bltNames : List Str := ["isinstance", "int", "str", "tuple", "bool", "list", "dict", "set", "len", "abs", "max", "min", "sum", "range", "sorted", "zip", "enumerate", "repr", "ValueError", "reversed", "any", "all", "ord", "chr", "divmod"]
def isBlt (x : Str) : Bool := bltNames.contains x
theorem bt_isinstance : bootBuiltins "isinstance" = some (.builtin "isinstance") := by decide +kernel
theorem bt_len : bootBuiltins "len" = some (.builtin "len") := by decide +kernel
theorem bt_abs : bootBuiltins "abs" = some (.builtin "abs") := by decide +kernel
theorem bt_max : bootBuiltins "max" = some (.builtin "max") := by decide +kernel
theorem bt_min : bootBuiltins "min" = some (.builtin "min") := by decide +kernel
theorem bt_sum : bootBuiltins "sum" = some (.builtin "sum") := by decide +kernel
theorem bt_sorted : bootBuiltins "sorted" = some (.builtin "sorted") := by decide +kernel
theorem bt_repr : bootBuiltins "repr" = some (.builtin "repr") := by decide +kernel
theorem bt_any : bootBuiltins "any" = some (.builtin "any") := by decide +kernel
theorem bt_all : bootBuiltins "all" = some (.builtin "all") := by decide +kernel
theorem bt_ord : bootBuiltins "ord" = some (.builtin "ord") := by decide +kernel
theorem bt_chr : bootBuiltins "chr" = some (.builtin "chr") := by decide +kernel
theorem bt_divmod : bootBuiltins "divmod" = some (.builtin "divmod") := by decide +kernel
theorem bt_int : bootBuiltins "int" = some (.type "int") := by decide +kernel
theorem bt_str : bootBuiltins "str" = some (.type "str") := by decide +kernel
theorem bt_tuple : bootBuiltins "tuple" = some (.type "tuple") := by decide +kernel
theorem bt_bool : bootBuiltins "bool" = some (.type "bool") := by decide +kernel
theorem bt_list : bootBuiltins "list" = some (.type "list") := by decide +kernel
theorem bt_dict : bootBuiltins "dict" = some (.type "dict") := by decide +kernel
theorem bt_set : bootBuiltins "set" = some (.type "set") := by decide +kernel
theorem bt_range : bootBuiltins "range" = some (.type "range") := by decide +kernel
theorem bt_zip : bootBuiltins "zip" = some (.type "zip") := by decide +kernel
theorem bt_enumerate : bootBuiltins "enumerate" = some (.type "enumerate") := by decide +kernel
theorem bt_reversed : bootBuiltins "reversed" = some (.type "reversed") := by decide +kernel
structure DefAt (K : Fg) (mg : Str → Option Value) (x : Str) (st : Stmt) (ps : List Str) : Prop where
  ex : ∃ (f : Addr) (fd : FuncData), Fun K x x st f fd ∧ mg x = some (.ref f) ∧ Binds K fd ps []
structure Txt0 (K : Fg) (mg : Str → Option Value) (cU cW : Addr) : Prop where
  b : ∀ x, isBlt x = true → mg x = none
  exs : Exs K mg (evOf cU cW) cU cW
section
variable {K : Fg} {mg : Str → Option Value} {cU cW : Addr}
theorem Txt0.x_UnfitText (T : Txt0 K mg cU cW) : ExC K mg "UnfitText" cU := T.exs.u.c
theorem Txt0.x_TooWide (T : Txt0 K mg cU cW) : ExC K mg "TooWide" cW := T.exs.w.c
/-- a def's place in the written text -/
theorem defAt_mk {h : Heap} (X : K.In h) (G : h.Ns mainGlobals mg) {x : Str} {st : Stmt} {ps : List Str} {f : Addr} {oc : Value} {od an : Option Addr} {osl : Array (Option Value)} {kV doc pm cdv ct : Value}
    (a : PySem.W.nsIn K mainGlobals x = some (some (.ref f)))
    (l : K.lookup f = some ⟨oc, od, .func (PySem.W.fnOf x x (defArgs st) (defBody st) (defScope st) .none kV doc pm an cdv ct), osl⟩) (c : PySem.W.codeIn K cdv x = true) (k : PySem.W.keepIn K (.ref f) = true)
    (hb : ∀ (kV doc pm : Value) (an : Option Addr) (cdv ct : Value) (us : List Value), us.length = ps.length → bindArgs (PySem.W.fnOf x x (defArgs st) (defBody st) (defScope st) .none kV doc pm an cdv ct) ⟨us, []⟩ = pure (ps.zip us)) : DefAt K mg x st ps :=
  let F := fun_mk (st := st) l c k
  ⟨_, _, F, PySem.W.mg_of X G a, F.binds hb⟩
/-- a module's whole number -/
def NumAt (mg : Str → Option Value) (x : Str) (n : Int) : Prop := ∃ tk, mg x = some (.int n tk)
end
section
variable {X : Cx} {ev : Ex → Value} {W : WX} {pos : Pos}
theorem de_num {x : Str} {n : Int} (h : NumAt X.mg x n) (hg : Gl X x := by rfl) (hd : (x == ("__debug__" : Str)) = false := by decide) : DE X ev W .strict (.Name x pos) (eC (.int n)) := by
  obtain ⟨tk, h⟩ := h
  exact de_glob (v := .int n) h ⟨tk, rfl⟩ (fun I => .int n) hg hd
end
/-- the end of a law's walk -/
def spLaw (K : Fg) : Sp := fun vs H Q _ => ∃ (a : Addr) (ns : List Int), vs = [.ref a] ∧ SqL K H a (ns.map V.int) ∧ ns.length ≤ 63 ∧ ∀ H', Q (.bl true) H'
section
variable {P : Program} {w : PySem.World} {K : Fg} {mg : Str → Option Value} {base : Heap} {ev : Ex → Value}
/-- state = [list(script), 0, 0, 1], then the rest -/
theorem fnLaw {qual : Str} {st : Stmt} {rest : List Stmt} {f : Addr} {fd : FuncData} {N : List Str} {k m : Nat} {body : DEnv → M Out} {j1 j2 j3 : Nat} {p0 p1 p2 p3 p4 p5 p6 p7 p8 : Pos}
    (F : Fun K "law" qual st f fd) (S : FnScope N ["script"] (defScope st)) (hb : mg "list" = none) (hn : N.length = m + 2)
    (hst : defBody st = .Assign [.Name "state" p0] (.List [.Call (.Name "list" p1) [.Name "script" p2] [] p3, .Constant (.int 0) j1 p5, .Constant (.int 0) j2 p6, .Constant (.int 1) j3 p7] p4) p8 :: rest)
    (hgood : ∀ ns : List Int, ns.length ≤ 63 → ∃ ls', body (none :: some .st :: List.replicate m none) ⟨ns, 0, 0, 1⟩ = .ok (.rt (.bool true)) ls')
    (hbody : ∀ (cdv : Value) (A : Around) (outer : List Env) (s : Shared) (H : Hp) (E : XK), Room k (A.deeper (envOfC qual (defScope st) s.heap.objs.size f cdv)) →
      PS (cxOf (L2.CX P w) P w K mg base N qual (defScope st) f cdv A outer s H E) (.Assign [.Name "state" p0] (.List [.Call (.Name "list" p1) [.Name "script" p2] [] p3, .Constant (.int 0) j1 p5, .Constant (.int 0) j2 p6, .Constant (.int 1) j3 p7] p4) p8)
        (tAsg (tLst (tCons (tCB (fun xs H Q => ∃ p ys, xs = [.ref p] ∧ SqL K H p ys ∧ ∀ l, H l = none → Q (.ref l) (upd H l (.lst ys))) (tCons (tVar 0) tNil)) (tCons (tC (.int 0)) (tCons (tC (.int 0)) (tCons (tC (.int 1)) tNil))))) (gName 1)) ∧
      DSs (cxOf (L2.CX P w) P w K mg base N qual (defScope st) f cdv A outer s H E) ev (wE E) rest body) : FnOk P w K mg base (L2.CX P w) (k + 1) f fd ["script"] (spLaw K) := by
  refine F.okX S (fun vs H Q E ⟨a, ns, e, _⟩ => by subst e; rfl) (fun cdv A outer s H vs Q E hr ⟨a, ns, e, hS, hl, hq⟩ => ?_)
  obtain ⟨q1, t, q2, q3⟩ := hbody cdv A outer s H E hr
  refine ⟨tSeq _ t, by rw [hst]; exact pss_cons q1 q2, ?_⟩
  subst e
  obtain ⟨ls', good⟩ := hgood ns hl
  show tSeq _ t _ ((([V.ref a] : List V).map some) ++ List.replicate (N.length - 1) none) H
  rw [hn, show m + 2 - 1 = m + 1 from rfl, List.replicate_succ]
  refine ⟨_, rfl, a, ns.map V.int, rfl, hS, fun c hc => ⟨by show 4 ≤ sizeLine; rw [sizeLine_eq]; decide, fun p hp => ?_⟩⟩
  have hpc : p ≠ c := fun z => by subst z; rw [upd_same] at hp; cases hp
  have hpH : H p = none := by rw [upd_ne hpc] at hp; exact hp
  let I0 : Hp := upd (fun _ => none) c (.lst (ns.map V.int))
  have e1 : I0 p = none := by show upd _ c _ p = none; rw [upd_ne hpc]
  have w0 : World K (some p) (upd (upd H c (.lst (ns.map V.int))) p (.lst [.ref c, .int 0, .int 0, .int 1])) I0 ⟨ns, 0, 0, 1⟩ := by
    refine ⟨fun b o h => ?_, fun b hb => ?_⟩
    · by_cases z : b = c
      · subst z
        rw [upd_ne (Ne.symm hpc), upd_same]
        have h' : upd (fun _ => none) b (HO.lst (ns.map V.int)) b = some o := h
        rw [upd_same] at h'; exact h'
      · have h' : upd (fun _ => none) c (HO.lst (ns.map V.int)) b = some o := h
        rw [upd_ne z] at h'; cases h'
    · cases hb
      exact ⟨e1, ⟨Nat.zero_le _, hl, by show (0 : Int) ≤ 0; decide, ⟨by show (0 : Int) ≤ 1; decide, by show (1 : Int) < 2147483647; decide⟩⟩, c, upd_same, upd_same⟩
  refine q3 (some p) _ I0 _ _ I0 ⟨ns, 0, 0, 1⟩ (none :: some .st :: List.replicate m none) _ .refl w0 ?_ ?_
  · refine ⟨by simp, fun i d h => ?_, fun i d h => ?_, fun i j b d d' h => ?_, fun i h => ?_⟩
    · match i, h with
      | 0, h => cases h
      | 1, h => cases h
      | i + 2, h => have h2 : (List.replicate m (none : Option DV))[i]? = some (some (.val d)) := h; rw [List.getElem?_replicate] at h2; split at h2 <;> cases h2
    · match i, h with
      | 0, h => cases h
      | 1, h => cases h
      | i + 2, h => have h2 : (List.replicate m (none : Option DV))[i]? = some (some (.own d)) := h; rw [List.getElem?_replicate] at h2; split at h2 <;> cases h2
    · match i, h with
      | 0, h => cases h
      | 1, h => cases h
      | i + 2, h => have h2 : (List.replicate m (none : Option DV))[i]? = some (some (.own d)) := h; rw [List.getElem?_replicate] at h2; split at h2 <;> cases h2
    · match i, h with
      | 0, h => cases h
      | 1, h => exact ⟨p, rfl, rfl⟩
      | i + 2, h => have h2 : (List.replicate m (none : Option DV))[i]? = some (some .st) := h; rw [List.getElem?_replicate] at h2; split at h2 <;> cases h2
  · rw [good]
    intro v H' I' g' w' r
    cases r
    exact hq H'
end
end DL
namespace DL
open PySem PySem.Spec PyProof.Rows L2
theorem ps_lawStart {X : Cx} {j1 j2 j3 : Nat} {p0 p1 p2 p3 p4 p5 p6 p7 p8 : Pos} (hN : X.N.Nodup) (h0 : X.N[0]? = some ("script" : Str)) (h1 : X.N[1]? = some ("state" : Str)) (hx : Loc X.env.scope "state") (hv : Vis X.env.scope "script") (hm : X.mg "list" = none) (hg : Gl X "list")
    (hs : swapsWith (.List [.Call (.Name "list" p1) [.Name "script" p2] [] p3, .Constant (.int 0) j1 p5, .Constant (.int 0) j2 p6, .Constant (.int 1) j3 p7] p4) (some (.Name "state" p0)) p8.line X.env = pure false := by rfl)
    (hf : X.fn "state" = true ∨ X.env.scope.names.lookup ("state" : Str) = some NameKind.local := by first | exact .inl rfl | exact .inr rfl)
    (he : starEach [.Name "script" p2] X.env = (false, eval (.Name "script" p2) X.env) :: starEach [] X.env := by rfl) (hpl : (backTo p3 (starEach [] X.env)).any (·.1) = false := by rfl)
    (k0 : starEach [.Call (.Name "list" p1) [.Name "script" p2] [] p3, .Constant (.int 0) j1 p5, .Constant (.int 0) j2 p6, .Constant (.int 1) j3 p7] X.env = (false, eval (.Call (.Name "list" p1) [.Name "script" p2] [] p3) X.env) :: starEach [.Constant (.int 0) j1 p5, .Constant (.int 0) j2 p6, .Constant (.int 1) j3 p7] X.env := by rfl)
    (k1 : starEach [.Constant (.int 0) j1 p5, .Constant (.int 0) j2 p6, .Constant (.int 1) j3 p7] X.env = (false, eval (.Constant (.int 0) j1 p5) X.env) :: starEach [.Constant (.int 0) j2 p6, .Constant (.int 1) j3 p7] X.env := by rfl)
    (k2 : starEach [.Constant (.int 0) j2 p6, .Constant (.int 1) j3 p7] X.env = (false, eval (.Constant (.int 0) j2 p6) X.env) :: starEach [.Constant (.int 1) j3 p7] X.env := by rfl)
    (k3 : starEach [.Constant (.int 1) j3 p7] X.env = (false, eval (.Constant (.int 1) j3 p7) X.env) :: starEach [] X.env := by rfl) :
    PS X (.Assign [.Name "state" p0] (.List [.Call (.Name "list" p1) [.Name "script" p2] [] p3, .Constant (.int 0) j1 p5, .Constant (.int 0) j2 p6, .Constant (.int 1) j3 p7] p4) p8)
      (tAsg (tLst (tCons (tCB (fun xs H Q => ∃ p ys, xs = [.ref p] ∧ SqL X.K H p ys ∧ ∀ l, H l = none → Q (.ref l) (upd H l (.lst ys))) (tCons (tVar 0) tNil)) (tCons (tC (.int 0)) (tCons (tC (.int 0)) (tCons (tC (.int 1)) tNil))))) (gName 1)) := by
  have hc : CallR X (.type "list") (fun xs H Q => ∃ p ys, xs = [.ref p] ∧ SqL X.K H p ys ∧ ∀ l, H l = none → Q (.ref l) (upd H l (.lst ys))) := fun pins s σ H xs us Q I r ⟨p, ys, a, b, c⟩ => call_list_of pins s σ H xs us Q I r ⟨p, ys, a, .inl b, c⟩
  exact ps_set (i := 1) hN h1 hx (pe_lst (pa_cons (pe_callTy hc hg hm PyProof.Rows.boot_list (pa_cons (pe_var h0 hv (by decide) (by decide)) pa_nil he) (by decide) (by decide) he hpl) (pa_cons pe_int (pa_cons pe_int (pa_cons pe_int pa_nil k3) k2) k1) k0)) hs hf
end DL

/-! DL, part 13: what the laws' own shared defs mean (printed by gen.py). -/
namespace DL
open PySem PySem.Spec PyProof.Rows L2
/-- is_whole: slots value -/
def b_is_whole : DEnv → M Out := (sRet (eAnd (eIsi .int (eV 0)) (eNot (eIsi .bool (eV 0)))))
def f_is_whole : List D → M D := runD 0 b_is_whole
/-- is_told: slots told, word, count -/
def b_is_told : DEnv → M Out := (sSeq (sIf (tOrB (tNotB (tTru (eIsi .tuple (eV 0)))) (tVal (e2 neD (eCall lenD (aCons (eV 0) aNil)) (eV 2)))) (sRet (eC (.bool false))) sNext)
    (sRet (eAnd (eIsi .str (e2 ixD (eV 0) (eC (.int 0)))) (e2 eqD (e2 ixD (eV 0) (eC (.int 0))) (eV 1)))))
def f_is_told : List D → M D := runD 0 b_is_told
/-- are_places: slots value, most, part -/
def b_are_places : DEnv → M Out := (sRet (eAnd (eIsi .tuple (eV 0)) (e2 notInD (eC (.bool false)) (eLc [2] (bName 2) (iOf itemsA (eV 0)) tYesB (eAnd (eFn 1 f_is_whole (aCons (eV 2) aNil)) (eChain leD ltD (eC (.int 0)) (eV 2) (eV 1)))))))
def f_are_places : List D → M D := runD 1 b_are_places
/-- _law_next: slots state, limit, cell, value -/
def b_law_next : DEnv → M Out := (sSeq (sIf (tAndB (tVal (e2 eqD (eSt 0 2) (eC (.int 0)))) (tVal (e2 ltD (eSt 0 1) (eCall lenD (aCons (eSt 0 0) aNil))))) (sSeq (sSet 2 (e2 ixD (eSt 0 0) (eSt 0 1)))
    (sSeq (sStInc 0)
    (sIf (tVal (e2 geD (eV 2) (e2 powD (eC (.int 10)) (eC (.int 18))))) (sStSet 0 2 (eV 2)) (sStSet 0 3 (e2 modD (eCall intD (aCons (e2 addD (e2 addD (e2 mulD (eSt 0 3) (eC (.int 48271))) (e2 modD (eCall intD (aCons (eV 2) aNil)) (eC (.int 2147483647)))) (eC (.int 7))) aNil)) (eC (.int 2147483647))))))) sNext)
    (sSeq (sIf (tVal (e2 gtD (eSt 0 2) (eC (.int 0)))) (sSeq (sSet 3 (e2 modD (eCall intD (aCons (eSt 0 2) aNil)) (eV 1)))
    (sSeq (sStSet 0 2 (e2 fdivD (eSt 0 2) (eV 1)))
    (sRet (eV 3)))) sNext)
    (sSeq (sStSet 0 3 (e2 modD (eCall intD (aCons (e2 addD (e2 mulD (eSt 0 3) (eC (.int 69621))) (eC (.int 12345))) aNil)) (eC (.int 2147483647))))
    (sRet (e2 modD (eCall intD (aCons (e2 fdivD (eSt 0 3) (eC (.int 7))) aNil)) (eV 1))))))
def f_law_next : List D → M D := runS 2 b_law_next
/-- _law_same: slots actual, expected, k -/
def b_law_same (F : List D → M D) : DEnv → M Out := (sSeq (sIf (tVal (e2 isD (eV 1) (eC .none))) (sRet (e2 isD (eV 0) (eC .none))) sNext)
    (sSeq (sIf (tTru (eIsi .bool (eV 1))) (sRet (eAnd (eIsi .bool (eV 0)) (e2 eqD (eV 0) (eV 1)))) sNext)
    (sSeq (sIf (tTru (eIsi .int (eV 1))) (sRet (eAnd (eIsi .int (eV 0)) (eAnd (eNot (eIsi .bool (eV 0))) (e2 eqD (eV 0) (eV 1))))) sNext)
    (sSeq (sIf (tTru (eIsi .str (eV 1))) (sRet (eAnd (eIsi .str (eV 0)) (e2 eqD (eV 0) (eV 1)))) sNext)
    (sSeq (sIf (tAndB (tTru (eIsi .tuple (eV 1))) (tNotB (tTru (eIsi .tuple (eV 0))))) (sRet (eC (.bool false))) sNext)
    (sSeq (sIf (tAndB (tTru (eIsi .list (eV 1))) (tNotB (tTru (eIsi .list (eV 0))))) (sRet (eC (.bool false))) sNext)
    (sSeq (sIf (tVal (e2 neD (eCall lenD (aCons (eV 0) aNil)) (eCall lenD (aCons (eV 1) aNil)))) (sRet (eC (.bool false))) sNext)
    (sSeq (sFor (bName 2) (iRng rng1 (aCons (eCall lenD (aCons (eV 1) aNil)) aNil)) (sIf (tNotB (tTru (eFn 2 F (aCons (e2 ixD (eV 0) (eV 2)) (aCons (e2 ixD (eV 1) (eV 2)) aNil))))) (sRet (eC (.bool false))) sNext))
    (sRet (eC (.bool true)))))))))))
def f_law_same : Nat → List D → M D
  | 0 => fun _ => stuck
  | n + 1 => runD 1 (b_law_same (f_law_same n))
/-- _law_is_whole: slots value -/
def b_law_is_whole : DEnv → M Out := (sRet (eAnd (eIsi .int (eV 0)) (eNot (eIsi .bool (eV 0)))))
def f_law_is_whole : List D → M D := runD 0 b_law_is_whole
/-- _law_is_place: slots value, most -/
def b_law_is_place : DEnv → M Out := (sRet (eAnd (eFn 1 f_law_is_whole (aCons (eV 0) aNil)) (eChain leD ltD (eC (.int 0)) (eV 0) (eV 1))))
def f_law_is_place : List D → M D := runD 0 b_law_is_place
/-- _law_are_places: slots value, most, part -/
def b_law_are_places : DEnv → M Out := (sRet (eAnd (eIsi .tuple (eV 0)) (e2 eqD (eLc [2] (bName 2) (iOf itemsA (eV 0)) (tNotB (tTru (eFn 2 f_law_is_place (aCons (eV 2) (aCons (eV 1) aNil))))) (eV 2)) (eLst aNil))))
def f_law_are_places : List D → M D := runD 1 b_law_are_places
/-- _law_is: slots told, word, count -/
def b_law_is : DEnv → M Out := (sRet (eAnd (eIsi .tuple (eV 0)) (eAnd (e2 eqD (eCall lenD (aCons (eV 0) aNil)) (eV 2)) (eAnd (eIsi .str (e2 ixD (eV 0) (eC (.int 0)))) (e2 eqD (e2 ixD (eV 0) (eC (.int 0))) (eV 1))))))
def f_law_is : List D → M D := runD 0 b_law_is
/-- _law_changed: slots state, value, others, k, j, more, turn -/
def b_law_changed (F : List D → M D) : DEnv → M Out := (sSeq (sIf (tTru (eIsi .bool (eV 1))) (sRet (e2 ixD (eLst (aCons (eNot (eV 1)) (aCons (eCall intD (aCons (eV 1) aNil)) aNil))) (eFnS 0 1 f_law_next (aCons (eC (.int 2)) aNil)))) sNext)
    (sSeq (sIf (tOrB (tVal (e2 isD (eV 1) (eC .none))) (tTru (eIsi .int (eV 1)))) (sRet (e2 ixD (eLst (aCons (e2 addD (eOr (eV 1) (eC (.int 0))) (eC (.int 1))) (aCons (e2 subD (eOr (eV 1) (eC (.int 0))) (eC (.int 1))) (aCons (eC (.int 0)) (aCons (eC .none) (aCons (e2 eqD (eV 1) (eC (.int 1))) (aCons (eCall strD (aCons (eV 1) aNil)) (aCons (e2 mulD (eC (.int 2)) (eOr (eV 1) (eC (.int 1)))) aNil)))))))) (eFnS 0 1 f_law_next (aCons (eC (.int 7)) aNil)))) sNext)
    (sSeq (sIf (tTru (eIsi .str (eV 1))) (sSeq (sSet 2 (frz (eLst (aCons (eSl (eV 1) (pAt (eC (.int 1))) pNo) (aCons (e2 addD (eV 1) (eC (.str "a"))) (aCons (eRev (eV 1)) (aCons (e2 addD (eC (.str "b")) (eV 1)) (aCons (eC (.str "")) (aCons (eSl (eV 1) pNo (pAt (e1 negD (eC (.int 1))))) (aCons (eC (.str "left")) (aCons (eC (.int 3)) (aCons (eC (.str "in")) aNil))))))))))))
    (sRet (e2 ixD (eV 2) (eFnS 0 1 f_law_next (aCons (eCall lenD (aCons (eV 2) aNil)) aNil))))) sNext)
    (sSeq (sIf (tAndB (tTru (eIsi .tuple (eV 1))) (tAndB (tVal (e2 neD (eV 1) (eTup aNil))) (tVal (e2 gtD (eFnS 0 1 f_law_next (aCons (eC (.int 4)) aNil)) (eC (.int 0)))))) (sSeq (sSet 3 (eFnS 0 1 f_law_next (aCons (eCall lenD (aCons (eV 1) aNil)) aNil)))
    (sRet (e2 addD (e2 addD (eSl (eV 1) pNo (pAt (eV 3))) (eTup (aCons (eFnS 0 1 F (aCons (e2 ixD (eV 1) (eV 3)) aNil)) aNil))) (eSl (eV 1) (pAt (e2 addD (eV 3) (eC (.int 1)))) pNo)))) sNext)
    (sSeq (sIf (tNotB (tTru (eIsi .tuple (eV 1)))) (sRet (eTup aNil)) sNext)
    (sSeq (sSet 3 (eFnS 0 1 f_law_next (aCons (e2 addD (eCall lenD (aCons (eV 1) aNil)) (eC (.int 1))) aNil)))
    (sSeq (sSet 4 (eFnS 0 1 f_law_next (aCons (e2 addD (eCall lenD (aCons (eV 1) aNil)) (eC (.int 1))) aNil)))
    (sSeq (sSet 5 (frz (eLst (aCons (e2 addD (eSl (eV 1) pNo (pAt (eV 3))) (eSl (eV 1) (pAt (e2 addD (eV 3) (eC (.int 1)))) pNo)) (aCons (e2 addD (eV 1) (eSl (eV 1) pNo (pAt (eC (.int 1))))) (aCons (eRev (eV 1)) (aCons (e2 addD (eSl (eV 1) (pAt (eV 3)) pNo) (eSl (eV 1) pNo (pAt (eV 3)))) (aCons (frz (eCall listSD (aCons (eV 1) aNil))) (aCons (eSl (eV 1) pNo (pAt (eV 3))) (aCons (eTup aNil) (aCons (e2 addD (eV 1) (eTup (aCons (eC (.int 0)) aNil))) aNil)))))))))))
    (sSeq (sIf (tVal (eChain ltD ltD (eV 3) (eV 4) (eCall lenD (aCons (eV 1) aNil)))) (sSet 5 (e2 addD (eV 5) (eLc [6] (bName 6) (iRng rng1 (aCons (eC (.int 3)) aNil)) tYesB (e2 addD (e2 addD (e2 addD (e2 addD (eSl (eV 1) pNo (pAt (eV 3))) (eSl (eV 1) (pAt (eV 4)) (pAt (e2 addD (eV 4) (eC (.int 1)))))) (eSl (eV 1) (pAt (e2 addD (eV 3) (eC (.int 1)))) (pAt (eV 4)))) (eSl (eV 1) (pAt (eV 3)) (pAt (e2 addD (eV 3) (eC (.int 1)))))) (eSl (eV 1) (pAt (e2 addD (eV 4) (eC (.int 1)))) pNo))))) sNext)
    (sRet (e2 ixD (eV 5) (eFnS 0 1 f_law_next (aCons (eCall lenD (aCons (eV 5) aNil)) aNil)))))))))))))
def f_law_changed : Nat → List D → M D
  | 0 => fun _ => stuck
  | n + 1 => runS 5 (b_law_changed (f_law_changed n))
/-- _law_ints: slots value, found, part, number -/
def b_law_ints (F : List D → M D) : DEnv → M Out := (sSeq (sIf (tOrB (tTru (eIsi .bool (eV 0))) (tNotB (tTru (eIsi2 .int .tuple (eV 0))))) (sRet (frz (eLst aNil))) sNext)
    (sSeq (sIf (tTru (eIsi .int (eV 0))) (sRet (frz (eLst (aCons (eV 0) aNil)))) sNext)
    (sSeq (sSet 1 (frz (eLst aNil)))
    (sSeq (sFor (bName 2) (iOf itemsA (eV 0)) (sSet 1 (e2 addD (eV 1) (eLc [3] (bName 3) (iOf itemsA (eFn 1 F (aCons (eV 2) aNil))) (tVal (e2 notInD (eV 3) (eV 1))) (eV 3)))))
    (sRet (eV 1))))))
def f_law_ints : Nat → List D → M D
  | 0 => fun _ => stuck
  | n + 1 => runD 3 (b_law_ints (f_law_ints n))
/-- _law_exchanged: slots value, one, other, part -/
def b_law_exchanged (F : List D → M D) : DEnv → M Out := (sSeq (sIf (tOrB (tTru (eIsi .bool (eV 0))) (tNotB (tTru (eIsi2 .int .tuple (eV 0))))) (sRet (eV 0)) sNext)
    (sSeq (sIf (tTru (eIsi .int (eV 0))) (sRet (eIf (tVal (e2 eqD (eV 0) (eV 1))) (eV 2) (eIf (tVal (e2 eqD (eV 0) (eV 2))) (eV 1) (eV 0)))) sNext)
    (sRet (eCall tupSD (aCons (eLc [3] (bName 3) (iOf itemsA (eV 0)) tYesB (eFn 3 F (aCons (eV 3) (aCons (eV 1) (aCons (eV 2) aNil))))) aNil)))))
def f_law_exchanged : Nat → List D → M D
  | 0 => fun _ => stuck
  | n + 1 => runD 1 (b_law_exchanged (f_law_exchanged n))
/-- _law_cut: slots state, value, k, at, ways, part -/
def b_law_cut (F : List D → M D) : DEnv → M Out := (sSeq (sIf (tOrB (tNotB (tTru (eIsi .tuple (eV 1)))) (tVal (e2 eqD (eV 1) (eTup aNil)))) (sRet (eV 1)) sNext)
    (sSeq (sIf (tVal (e2 neD (eLc [5] (bName 5) (iOf itemsA (eV 1)) (tNotB (tTru (eIsi .str (eV 5)))) (eV 5)) (eLst aNil))) (sSeq (sSet 2 (eFnS 0 1 f_law_next (aCons (eCall lenD (aCons (eV 1) aNil)) aNil)))
    (sRet (e2 addD (e2 addD (eSl (eV 1) pNo (pAt (eV 2))) (eTup (aCons (eFnS 0 1 F (aCons (e2 ixD (eV 1) (eV 2)) aNil)) aNil))) (eSl (eV 1) (pAt (e2 addD (eV 2) (eC (.int 1)))) pNo)))) sNext)
    (sSeq (sSet 2 (eFnS 0 1 f_law_next (aCons (eCall lenD (aCons (eV 1) aNil)) aNil)))
    (sSeq (sSet 3 (eFnS 0 1 f_law_next (aCons (e2 addD (eCall lenD (aCons (e2 ixD (eV 1) (eV 2)) aNil)) (eC (.int 1))) aNil)))
    (sSeq (sSet 4 (frz (eLst (aCons (e2 addD (e2 addD (eSl (eV 1) pNo (pAt (eV 2))) (eTup (aCons (eSl (e2 ixD (eV 1) (eV 2)) pNo (pAt (eV 3))) (aCons (eSl (e2 ixD (eV 1) (eV 2)) (pAt (eV 3)) pNo) aNil)))) (eSl (eV 1) (pAt (e2 addD (eV 2) (eC (.int 1)))) pNo)) (aCons (e2 addD (e2 addD (eSl (eV 1) pNo (pAt (eV 2))) (eTup (aCons (eMt isStr joinD (eC (.str "")) (aCons (eSl (eV 1) (pAt (eV 2)) (pAt (e2 addD (eV 2) (eC (.int 2))))) aNil)) aNil))) (eSl (eV 1) (pAt (e2 addD (eV 2) (eC (.int 2)))) pNo)) aNil)))))
    (sSeq (sSet 4 (e2 addD (eV 4) (eLst (aCons (eTup (aCons (eMt isStr joinD (eC (.str "")) (aCons (eV 1) aNil)) aNil)) (aCons (eCall tupSD (aCons (eMt isStr joinD (eC (.str "")) (aCons (eV 1) aNil)) aNil)) (aCons (e2 addD (e2 addD (eSl (eV 1) pNo (pAt (eV 2))) (eTup (aCons (eC (.str "")) aNil))) (eSl (eV 1) (pAt (eV 2)) pNo)) (aCons (e2 addD (e2 addD (eSl (eV 1) pNo (pAt (eV 2))) (eRev (eSl (eV 1) (pAt (eV 2)) (pAt (e2 addD (eV 2) (eC (.int 2))))))) (eSl (eV 1) (pAt (e2 addD (eV 2) (eC (.int 2)))) pNo)) aNil)))))))
    (sRet (e2 ixD (eV 4) (eFnS 0 1 f_law_next (aCons (eCall lenD (aCons (eV 4) aNil)) aNil))))))))))
def f_law_cut : Nat → List D → M D
  | 0 => fun _ => stuck
  | n + 1 => runS 4 (b_law_cut (f_law_cut n))
/-- _law_turned_about: slots state, told, numbers, pick, one, other, k, j, part -/
def b_law_turned_about : DEnv → M Out := (sSeq (sSet 2 (eFn 1 (f_law_ints 12) (aCons (eV 1) aNil)))
    (sSeq (sSet 3 (eFnS 0 1 f_law_next (aCons (eC (.int 5)) aNil)))
    (sSeq (sIf (tAndB (tVal (e2 ltD (eV 3) (eC (.int 3)))) (tVal (e2 neD (eV 2) (eLst aNil)))) (sSeq (sSet 4 (e2 ixD (eV 2) (eFnS 0 1 f_law_next (aCons (eCall lenD (aCons (eV 2) aNil)) aNil))))
    (sSeq (sSet 5 (eIf (tVal (e2 eqD (eV 3) (eC (.int 0)))) (e2 addD (eV 4) (eC (.int 1))) (e2 ixD (eV 2) (eFnS 0 1 f_law_next (aCons (eCall lenD (aCons (eV 2) aNil)) aNil)))))
    (sRet (eFn 3 (f_law_exchanged 12) (aCons (eV 1) (aCons (eV 4) (aCons (eV 5) aNil))))))) sNext)
    (sSeq (sIf (tVal (e2 eqD (eV 3) (eC (.int 3)))) (sRet (e2 addD (eSl (eV 1) pNo (pAt (eC (.int 1)))) (eIf (tVal (e2 gtD (eCall lenD (aCons (eV 1) aNil)) (eC (.int 2)))) (eFnS 0 1 (f_law_cut 12) (aCons (eSl (eV 1) (pAt (eC (.int 1))) pNo) aNil)) (eCall tupSD (aCons (eLc [8] (bName 8) (iOf itemsA (eSl (eV 1) (pAt (eC (.int 1))) pNo)) tYesB (eFnS 0 1 (f_law_cut 12) (aCons (eV 8) aNil))) aNil))))) sNext)
    (sSeq (sPar 6 7 (aCons (eFnS 0 1 f_law_next (aCons (eCall lenD (aCons (eV 1) aNil)) aNil)) (aCons (eFnS 0 1 f_law_next (aCons (eCall lenD (aCons (eV 1) aNil)) aNil)) aNil)))
    (sSeq (sIf (tAndB (tVal (e2 eqD (eCall lenD (aCons (eV 1) aNil)) (eC (.int 2)))) (tAndB (tTru (eIsi .tuple (e2 ixD (eV 1) (eC (.int 1))))) (tVal (e2 neD (e2 ixD (eV 1) (eC (.int 1))) (eTup aNil))))) (sSeq (sPar 6 7 (aCons (eFnS 0 1 f_law_next (aCons (eCall lenD (aCons (e2 ixD (eV 1) (eC (.int 1))) aNil)) aNil)) (aCons (eFnS 0 1 f_law_next (aCons (eCall lenD (aCons (e2 ixD (eV 1) (eC (.int 1))) aNil)) aNil)) aNil)))
    (sRet (eTup (aCons (e2 ixD (eV 1) (eC (.int 0))) (aCons (e2 addD (e2 addD (eSl (e2 ixD (eV 1) (eC (.int 1))) pNo (pAt (eV 6))) (eSl (e2 ixD (eV 1) (eC (.int 1))) (pAt (eV 7)) (pAt (e2 addD (eV 7) (eC (.int 1)))))) (eSl (e2 ixD (eV 1) (eC (.int 1))) (pAt (e2 addD (eV 6) (eC (.int 1)))) pNo)) aNil))))) sNext)
    (sRet (eIf (tAndB (tVal (e2 gtD (eV 6) (eC (.int 0)))) (tVal (e2 gtD (eV 7) (eC (.int 0))))) (e2 addD (e2 addD (eSl (eV 1) pNo (pAt (eV 6))) (eSl (eV 1) (pAt (eV 7)) (pAt (e2 addD (eV 7) (eC (.int 1)))))) (eSl (eV 1) (pAt (e2 addD (eV 6) (eC (.int 1)))) pNo)) (eV 1)))))))))
def f_law_turned_about : List D → M D := runS 7 b_law_turned_about
/-- _law_odd: slots state, told, odd, pick -/
def b_law_odd : DEnv → M Out := (sSeq (sSet 2 (frz (eLst (aCons (eC .none) (aCons (eC (.str "")) (aCons (eC (.str "yes")) (aCons (eC (.dict [])) (aCons (eTup aNil) (aCons (eSl (eV 1) pNo (pAt (eC (.int 1)))) (aCons (frz (eCall listSD (aCons (eV 1) aNil))) (aCons (e2 addD (eV 1) (eTup (aCons (eC (.int 0)) aNil))) (aCons (e2 addD (eTup (aCons (frz (eLst (aCons (e2 ixD (eV 1) (eC (.int 0))) aNil))) aNil)) (eSl (eV 1) (pAt (eC (.int 1))) pNo)) (aCons (e2 addD (eTup (aCons (eC (.str "none such")) aNil)) (eSl (eV 1) (pAt (eC (.int 1))) pNo)) (aCons (eC (.int 7)) aNil))))))))))))))
    (sSeq (sSet 3 (eFnS 0 1 f_law_next (aCons (eC (.int 9)) aNil)))
    (sSeq (sIf (tVal (e2 gtD (eV 3) (eC (.int 4)))) (sRet (eFnS 0 1 f_law_turned_about (aCons (eV 1) aNil))) sNext)
    (sRet (eIf (tVal (e2 eqD (eV 3) (eC (.int 0)))) (e2 ixD (eV 2) (eFnS 0 1 f_law_next (aCons (eCall lenD (aCons (eV 2) aNil)) aNil))) (eFnS 0 1 (f_law_changed 12) (aCons (eV 1) aNil)))))))
def f_law_odd : List D → M D := runS 2 b_law_odd
/-- _law_drawn_text: slots state, signs, low, high, size, text, part, k -/
def b_law_drawn_text : DEnv → M Out := (sSeq (sSet 4 (e2 addD (eV 2) (eFnS 0 1 f_law_next (aCons (e2 addD (e2 subD (eV 3) (eV 2)) (eC (.int 1))) aNil))))
    (sSeq (sSet 5 (eMt isStr joinD (eC (.str "")) (aCons (eLc [7] (bName 7) (iRng rng1 (aCons (eV 4) aNil)) tYesB (e2 ixD (eV 1) (eFnS 0 1 f_law_next (aCons (eCall lenD (aCons (eV 1) aNil)) aNil)))) aNil)))
    (sSeq (sIf (tAndB (tVal (e2 eqD (eFnS 0 1 f_law_next (aCons (eC (.int 3)) aNil)) (eC (.int 0)))) (tVal (e2 neD (eV 5) (eC (.str ""))))) (sSeq (sSet 6 (eSl (eV 5) pNo (pAt (e2 addD (eC (.int 1)) (eFnS 0 1 f_law_next (aCons (eCall lenD (aCons (eV 5) aNil)) aNil))))))
    (sSet 5 (eSl (e2 mulD (eV 6) (e2 addD (eV 4) (eC (.int 1)))) pNo (pAt (eV 4))))) sNext)
    (sRet (eV 5)))))
def f_law_drawn_text : List D → M D := runS 4 b_law_drawn_text
/-- _law_neighbour: slots state, value, k -/
def b_law_neighbour (F : List D → M D) : DEnv → M Out := (sSeq (sIf (tTru (eIsi .str (eV 1))) (sSeq (sSet 2 (eFnS 0 1 f_law_next (aCons (e2 addD (eCall lenD (aCons (eV 1) aNil)) (eC (.int 1))) aNil)))
    (sRet (e2 addD (e2 addD (eSl (eV 1) pNo (pAt (eV 2))) (e2 ixD (eLst (aCons (eC (.str "a")) (aCons (eC (.str "b")) (aCons (eC (.str "")) aNil)))) (eFnS 0 1 f_law_next (aCons (eC (.int 3)) aNil)))) (eSl (eV 1) (pAt (e2 addD (eV 2) (eC (.int 1)))) pNo)))) sNext)
    (sSeq (sIf (tTru (eIsi .int (eV 1))) (sRet (e2 addD (eV 1) (e2 ixD (eLst (aCons (eC (.int 1)) (aCons (e1 negD (eC (.int 1))) aNil))) (eFnS 0 1 f_law_next (aCons (eC (.int 2)) aNil))))) sNext)
    (sSeq (sIf (tVal (e2 eqD (eV 1) (eTup aNil))) (sRet (eV 1)) sNext)
    (sSeq (sSet 2 (eFnS 0 1 f_law_next (aCons (eCall lenD (aCons (eV 1) aNil)) aNil)))
    (sSeq (sIf (tOrB (tTru (eIsi .tuple (e2 ixD (eV 1) (eV 2)))) (tAndB (tVal (e2 eqD (eFnS 0 1 f_law_next (aCons (eC (.int 3)) aNil)) (eC (.int 0)))) (tVal (e2 gtD (eCall lenD (aCons (eV 1) aNil)) (eC (.int 1)))))) (sRet (e2 addD (eSl (eV 1) pNo (pAt (eV 2))) (eSl (eV 1) (pAt (e2 addD (eV 2) (eC (.int 1)))) pNo))) sNext)
    (sRet (e2 addD (e2 addD (eSl (eV 1) pNo (pAt (eV 2))) (eTup (aCons (eFnS 0 1 F (aCons (e2 ixD (eV 1) (eV 2)) aNil)) aNil))) (eSl (eV 1) (pAt (e2 addD (eV 2) (eC (.int 1)))) pNo))))))))
def f_law_neighbour : Nat → List D → M D
  | 0 => fun _ => stuck
  | n + 1 => runS 1 (b_law_neighbour (f_law_neighbour n))
/-- check_text: slots text -/
def b_check_text : DEnv → M Out := (sIf (tVal (e2 gtD (eCall lenD (aCons (eV 0) aNil)) (eC (.int 60)))) (sRaise .wide) sNext)
def f_check_text : List D → M D := runD 0 b_check_text
/-- are_wholes: slots value, count, part -/
def b_are_wholes : DEnv → M Out := (sRet (eAnd (eIsi .tuple (eV 0)) (eAnd (e2 eqD (eCall lenD (aCons (eV 0) aNil)) (eV 1)) (e2 notInD (eC (.bool false)) (eLc [2] (bName 2) (iOf itemsA (eV 0)) tYesB (eFn 1 f_is_whole (aCons (eV 2) aNil)))))))
def f_are_wholes : List D → M D := runD 1 b_are_wholes
/-- _law_texts: slots state, signs, count, high, k -/
def b_law_texts : DEnv → M Out := (sRet (eCall tupSD (aCons (eLc [4] (bName 4) (iRng rng1 (aCons (e2 addD (eC (.int 1)) (eFnS 0 1 f_law_next (aCons (eV 2) aNil))) aNil)) tYesB (eFnS 0 3 f_law_drawn_text (aCons (eV 1) (aCons (eC (.int 0)) (aCons (eV 3) aNil))))) aNil)))
def f_law_texts : List D → M D := runS 1 b_law_texts
/-- _law_is_text: slots value -/
def b_law_is_text : DEnv → M Out := (sRet (eIsi .str (eV 0)))
def f_law_is_text : List D → M D := runD 0 b_law_is_text
/-- _law_are_wholes: slots value, count, part -/
def b_law_are_wholes : DEnv → M Out := (sRet (eAnd (eIsi .tuple (eV 0)) (eAnd (e2 eqD (eCall lenD (aCons (eV 0) aNil)) (eV 1)) (e2 eqD (eLc [2] (bName 2) (iOf itemsA (eV 0)) (tNotB (tTru (eFn 1 f_law_is_whole (aCons (eV 2) aNil)))) (eV 2)) (eLst aNil)))))
def f_law_are_wholes : List D → M D := runD 1 b_law_are_wholes
end DL

/-! DL, part 14: rules for what a meaning answers (no program, no heap). -/
namespace DL
open PySem PySem.Spec PyProof.Rows L2
/-- m ends well, in P -/
structure WP {α : Type} (m : M α) (s : LS) (P : α → LS → Prop) : Prop where
  ex : ∃ a s', m s = .ok a s' ∧ P a s'
/-- behind a statement -/
def ko (gs : DEnv → M Out) (RO : Out → LS → Prop) : Out → LS → Prop
  | .nx e, s => WP (gs e) s RO
  | o, s => RO o s
/-- behind a def's body -/
def kr (R : D → LS → Prop) : Out → LS → Prop
  | .rt d, s => R d s
  | .nx _, s => R .none s
  | _, _ => False
/-- behind a turn -/
def kf (go : DEnv → M Out) (RO : Out → LS → Prop) : Out → LS → Prop
  | .nx e, s => WP (go e) s RO
  | .ct e, s => WP (go e) s RO
  | .bk e, s => RO (.nx e) s
  | .rt d, s => RO (.rt d) s
/-- from every state -/
def Tr {α : Type} (m : M α) (P : α → Prop) : Prop := ∀ s, LSok s → WP m s fun a s' => LSok s' ∧ P a
section
variable {α β : Type} {m : M α} {k : α → M β} {s : LS} {P : α → LS → Prop} {Q : β → LS → Prop} {env : DEnv} {R : D → LS → Prop} {RL : List D → LS → Prop} {RB : Bool → LS → Prop} {RO : Out → LS → Prop}
theorem wp_pure {a : α} (h : P a s) : WP (pure a : M α) s P := ⟨a, s, rfl, h⟩
theorem wp_mono {P' : α → LS → Prop} (h : WP m s P) (q : ∀ a s', P a s' → P' a s') : WP m s P' := let ⟨a, s', e, p⟩ := h; ⟨a, s', e, q a s' p⟩
theorem wp_bind (h : WP m s fun a s' => WP (k a) s' Q) : WP (m >>= k) s Q := by
  obtain ⟨a, s', e, b, s'', e2, q⟩ := h
  refine ⟨b, s'', ?_, q⟩
  show M.bind m k s = _
  unfold M.bind
  rw [e]; exact e2
theorem wp_lift {o : Option α} (h : ∃ a, o = some a ∧ P a s) : WP (lift o) s P := by
  obtain ⟨a, rfl, p⟩ := h; exact ⟨a, s, rfl, p⟩
theorem wp_eq {m' : M α} (e : m = m') (h : WP m' s P) : WP m s P := by rw [e]; exact h
theorem wp_tr {P' : α → Prop} (t : Tr m P') (ok : LSok s) (q : ∀ a s', LSok s' → P' a → P a s') : WP m s P := wp_mono (t s ok) fun a s' h => q a s' h.1 h.2
theorem tr_mono {P P' : α → Prop} (t : Tr m P) (q : ∀ a, P a → P' a) : Tr m P' := fun s ok => wp_mono (t s ok) fun a s' h => ⟨h.1, q a h.2⟩
theorem tr_pure {a : α} {P : α → Prop} (h : P a) : Tr (pure a : M α) P := fun s ok => wp_pure ⟨ok, h⟩
theorem tr_eq {m' : M α} {P : α → Prop} (e : m = m') (h : Tr m' P) : Tr m P := by rw [e]; exact h
theorem wp_ite {c : Prop} [Decidable c] {a b : M α} (h1 : c → WP a s P) (h2 : ¬c → WP b s P) : WP (if c then a else b) s P := by
  by_cases h : c
  · rw [if_pos h]; exact h1 h
  · rw [if_neg h]; exact h2 h

/-! expressions -/
variable {fa fb fc : DEnv → M D} {fr : DEnv → M (List D)} {ft ftb : DEnv → M Bool} {g : D → D → Option D} {g1 : D → Option D} {gl : List D → Option D} {i : Nat} {d : D}
theorem wp_eV (e : env[i]? = some (some (.val d))) (h : R d s) : WP (eV i env) s R := by
  refine wp_eq ?_ (wp_pure h); unfold eV; rw [e]
theorem wp_eOv (e : env[i]? = some (some (.val d))) (h : R d s) : WP (eO i env) s R := by
  refine wp_eq ?_ (wp_pure h); unfold eO; rw [e]
theorem wp_eOo (e : env[i]? = some (some (.own d))) (h : R d s) : WP (eO i env) s R := by
  refine wp_eq ?_ (wp_pure h); unfold eO; rw [e]
theorem wp_eC (h : R d s) : WP (eC d env) s R := wp_pure h
theorem wp_e1 (h : WP (fa env) s fun x s' => ∃ z, g1 x = some z ∧ R z s') : WP (e1 g1 fa env) s R := wp_bind (wp_mono h fun _ _ h => wp_lift h)
theorem wp_e2 (h : WP (fa env) s fun x s' => WP (fb env) s' fun y s'' => ∃ z, g x y = some z ∧ R z s'') : WP (e2 g fa fb env) s R := wp_bind (wp_mono h fun _ _ h => wp_bind (wp_mono h fun _ _ h => wp_lift h))
theorem wp_nil (h : RL [] s) : WP (aNil env) s RL := wp_pure h
theorem wp_cons (h : WP (fa env) s fun d s' => WP (fr env) s' fun ds s'' => RL (d :: ds) s'') : WP (aCons fa fr env) s RL := wp_bind (wp_mono h fun _ _ h => wp_bind (wp_mono h fun _ _ h => wp_pure h))
theorem wp_tup (h : WP (fr env) s fun ds s' => lim ds = true ∧ R (.tuple ds) s') : WP (eTup fr env) s R := wp_bind (wp_mono h fun ds s' h => by rw [if_pos h.1]; exact wp_pure h.2)
theorem wp_lst (h : WP (fr env) s fun ds s' => lim ds = true ∧ R (.list ds) s') : WP (eLst fr env) s R := wp_bind (wp_mono h fun ds s' h => by rw [if_pos h.1]; exact wp_pure h.2)
theorem wp_frz (h : WP (fa env) s fun d s' => isL d = true ∧ R d s') : WP (frz fa env) s R := wp_bind (wp_mono h fun ds s' h => by rw [if_pos h.1]; exact wp_pure h.2)
theorem wp_call (h : WP (fr env) s fun ds s' => ∃ z, gl ds = some z ∧ R z s') : WP (eCall gl fr env) s R := wp_bind (wp_mono h fun _ _ h => wp_lift h)
theorem wp_mt {isT : D → Bool} {gm : D → List D → Option D} (h : WP (fa env) s fun o s' => isT o = true ∧ WP (fr env) s' fun ds s'' => ∃ z, gm o ds = some z ∧ R z s'') : WP (eMt isT gm fa fr env) s R :=
  wp_bind (wp_mono h fun o s' h => by rw [if_pos h.1]; exact wp_bind (wp_mono h.2 fun _ _ h => wp_lift h))
theorem wp_pNo {P : Option Int → LS → Prop} (h : P none s) : WP (pNo env) s P := wp_pure h
theorem wp_pAt {P : Option Int → LS → Prop} (h : WP (fa env) s fun d s' => ∃ n, d = .int n ∧ P (some n) s') : WP (pAt fa env) s P := wp_bind (wp_mono h fun d s' ⟨n, e, h⟩ => by subst e; exact wp_lift ⟨_, rfl, h⟩)
theorem wp_sl {lo hi : DEnv → M (Option Int)} (h : WP (fa env) s fun d s1 => WP (lo env) s1 fun l s2 => WP (hi env) s2 fun u s3 => ∃ z, slD d l u = some z ∧ R z s3) : WP (eSl fa lo hi env) s R :=
  wp_bind (wp_mono h fun _ _ h => wp_bind (wp_mono h fun _ _ h => wp_bind (wp_mono h fun _ _ h => wp_lift h)))
theorem wp_rev (h : WP (fa env) s fun x s' => ∃ z, revD x = some z ∧ R z s') : WP (eRev fa env) s R := wp_e1 h
theorem wp_eIf (h : WP (ft env) s fun b s' => (b = true → WP (fa env) s' R) ∧ (b = false → WP (fb env) s' R)) : WP (eIf ft fa fb env) s R :=
  wp_bind (wp_mono h fun b s' h => by cases b <;> first | exact h.1 rfl | exact h.2 rfl)
theorem wp_eAnd (h : WP (fa env) s fun d s' => ∃ b, d = .bool b ∧ (b = true → WP (fb env) s' R) ∧ (b = false → R (.bool false) s')) : WP (eAnd fa fb env) s R :=
  wp_bind (wp_mono h fun d s' ⟨b, e, h1, h2⟩ => by subst e; cases b <;> first | exact h1 rfl | exact wp_pure (h2 rfl))
theorem wp_eOr (h : WP (fa env) s fun d s' => ∃ b, truD d = some b ∧ (b = true → R d s') ∧ (b = false → WP (fb env) s' R)) : WP (eOr fa fb env) s R :=
  wp_bind (wp_mono h fun d s' ⟨b, e, h1, h2⟩ => by rw [e]; cases b <;> first | exact wp_pure (h1 rfl) | exact h2 rfl)
theorem wp_eNot (h : WP (fa env) s fun d s' => ∃ b, d = .bool b ∧ R (.bool !b) s') : WP (eNot fa env) s R :=
  wp_bind (wp_mono h fun d s' ⟨b, e, h1⟩ => by subst e; exact wp_pure h1)
theorem wp_chain {g' : D → D → Option D} (h : WP (fa env) s fun x s1 => WP (fb env) s1 fun y s2 => ∃ b, g x y = some (.bool b) ∧ (b = true → WP (fc env) s2 fun u s3 => ∃ z, g' y u = some z ∧ R z s3) ∧ (b = false → R (.bool false) s2)) : WP (eChain g g' fa fb fc env) s R :=
  wp_bind (wp_mono h fun x s1 h => wp_bind (wp_mono h fun y s2 ⟨b, e, h1, h2⟩ => by
    refine wp_bind (wp_lift ⟨_, e, ?_⟩)
    refine wp_bind (wp_lift ⟨b, rfl, ?_⟩)
    cases b with
    | true => exact wp_bind (wp_mono (h1 rfl) fun _ _ h => wp_lift h)
    | false => exact wp_pure (h2 rfl)))
theorem wp_isi {c : Cl} (h : WP (fa env) s fun d s' => R (.bool (isCl c d)) s') : WP (eIsi c fa env) s R := wp_bind (wp_mono h fun _ _ h => wp_pure h)
theorem wp_isi2 {c c' : Cl} (h : WP (fa env) s fun d s' => R (.bool (isCl c d || isCl c' d)) s') : WP (eIsi2 c c' fa env) s R := wp_bind (wp_mono h fun _ _ h => wp_pure h)
theorem wp_fn {n : Nat} {F : List D → M D} (h : WP (fr env) s fun ds s' => ds.length = n ∧ WP (F ds) s' R) : WP (eFn n F fr env) s R := wp_bind (wp_mono h fun ds s' h => by rw [if_pos h.1]; exact h.2)
theorem wp_fnS {n : Nat} {F : List D → M D} (e : env[i]? = some (some .st)) (h : WP (fr env) s fun ds s' => ds.length = n ∧ WP (F ds) s' R) : WP (eFnS i n F fr env) s R := by
  refine wp_eq (m' := fr env >>= fun ds => if ds.length = n then F ds else stuck) (by unfold eFnS; rw [e]) ?_
  exact wp_bind (wp_mono h fun ds s' h => by rw [if_pos h.1]; exact h.2)
theorem wp_st {k : Nat} (e : env[i]? = some (some .st)) (hk : k < 4) (h : R (s.part k) s) : WP (eSt i k env) s R := ⟨s.part k, s, by unfold eSt; rw [e]; simp [hk], h⟩
/-! tests -/
theorem wp_tVal (h : WP (fa env) s fun d s' => ∃ b, d = .bool b ∧ RB b s') : WP (tVal fa env) s RB := wp_bind (wp_mono h fun d s' ⟨b, e, h⟩ => by subst e; exact wp_lift ⟨b, rfl, h⟩)
theorem wp_tTru (h : WP (fa env) s fun d s' => ∃ b, truD d = some b ∧ RB b s') : WP (tTru fa env) s RB := wp_bind (wp_mono h fun d s' h => wp_lift h)
theorem wp_tAnd (h : WP (ft env) s fun b s' => (b = true → WP (ftb env) s' RB) ∧ (b = false → RB false s')) : WP (tAndB ft ftb env) s RB :=
  wp_bind (wp_mono h fun b s' h => by cases b <;> first | exact h.1 rfl | exact wp_pure (h.2 rfl))
theorem wp_tOr (h : WP (ft env) s fun b s' => (b = true → RB true s') ∧ (b = false → WP (ftb env) s' RB)) : WP (tOrB ft ftb env) s RB :=
  wp_bind (wp_mono h fun b s' h => by cases b <;> first | exact wp_pure (h.1 rfl) | exact h.2 rfl)
theorem wp_tNot (h : WP (ft env) s fun b s' => RB (!b) s') : WP (tNotB ft env) s RB := wp_bind (wp_mono h fun _ _ h => wp_pure h)
/-! what is walked -/
theorem wp_iOf {gi : D → Option (List D)} (h : WP (fa env) s fun d s' => ∃ ds, gi d = some ds ∧ RL ds s') : WP (iOf gi fa env) s RL := wp_bind (wp_mono h fun d s' h => wp_lift h)
theorem wp_iRng {gr : List D → Option (List D)} (h : WP (fr env) s fun d s' => ∃ ds, gr d = some ds ∧ RL ds s') : WP (iRng gr fr env) s RL := wp_bind (wp_mono h fun d s' h => wp_lift h)
theorem wp_noErr (h : WP m s P) : WP (noErr m) s P := by
  obtain ⟨a, s', e, p⟩ := h
  exact ⟨a, s', by unfold noErr; rw [e], p⟩
theorem noErr_pure {a : α} : noErr (pure a : M α) = pure a := rfl
/-- each item keeps J -/
theorem wp_lcGo {bd : Bd} (J : LS → Prop) (Qe : D → Prop) : ∀ {ds : List D} {s : LS}, J s → (∀ d ∈ ds, ∃ env1, bd d env = some env1 ∧ ∀ s, J s → WP (ft env1) s fun b s' => J s' ∧ (b = true → ∀ s, J s → WP (fa env1) s fun y s' => J s' ∧ Qe y)) →
    WP (lcGo bd ft fa env ds) s fun ys s' => J s' ∧ ys.length ≤ ds.length ∧ ∀ y ∈ ys, Qe y
  | [], s, hs, _ => wp_pure ⟨hs, Nat.le_refl _, fun _ h => by simp at h⟩
  | d :: ds, s, hs, h => by
    obtain ⟨env1, e, h1⟩ := h d List.mem_cons_self
    unfold lcGo
    rw [e]
    refine wp_bind (wp_noErr (wp_mono (h1 s hs) fun b s1 ⟨j1, h2⟩ => ?_))
    have ih : ∀ s, J s → WP (lcGo bd ft fa env ds) s fun ys s' => J s' ∧ ys.length ≤ ds.length ∧ ∀ y ∈ ys, Qe y := fun s js => wp_lcGo J Qe js fun d hd => h d (List.mem_cons_of_mem _ hd)
    cases b with
    | true =>
      rw [if_pos rfl]
      refine wp_bind (wp_noErr (wp_mono (h2 rfl s1 j1) fun y s2 ⟨j2, qy⟩ => wp_bind (wp_mono (ih s2 j2) fun ys s3 ⟨j3, hl, hq⟩ => wp_pure ⟨j3, by simp; omega, fun z hz => ?_⟩)))
      rcases List.mem_cons.mp hz with rfl | hz
      · exact qy
      · exact hq z hz
    | false =>
      rw [if_neg Bool.false_ne_true]
      exact wp_mono (ih s1 j1) fun ys s3 ⟨j3, hl, hq⟩ => ⟨j3, by simp; omega, hq⟩
/-- all items pass, nothing is drawn: the list is known -/
theorem lcGo_pure {bd : Bd} {p : D → Bool} {f : D → D} : ∀ {ds : List D}, (∀ d ∈ ds, ∃ env1, bd d env = some env1 ∧ ft env1 = pure (p d) ∧ (p d = true → fa env1 = pure (f d))) → lcGo bd ft fa env ds = pure ((ds.filter p).map f)
  | [], _ => rfl
  | d :: ds, h => by
    obtain ⟨env1, e, h1, h2⟩ := h d List.mem_cons_self
    have ih := @lcGo_pure bd p f ds fun d hd => h d (List.mem_cons_of_mem _ hd)
    unfold lcGo
    rw [e]
    dsimp only
    rw [h1, noErr_pure, pure_bind]
    cases hp : p d with
    | true => rw [if_pos rfl, h2 hp, noErr_pure, pure_bind, ih, pure_bind, List.filter_cons_of_pos hp]; rfl
    | false => rw [if_neg Bool.false_ne_true, ih, List.filter_cons_of_neg (by rw [hp]; simp)]
theorem wp_lc {vs : List Nat} {bd : Bd} {fi : DEnv → M (List D)} (h : WP (fi env) s fun ds s' => lim1 ds = true ∧ WP (lcGo bd ft fa (wipeE env vs) ds) s' fun ys s'' => R (.list ys) s'') : WP (eLc vs bd fi ft fa env) s R :=
  wp_bind (wp_mono h fun ds s' h => by rw [if_pos h.1]; exact wp_bind (wp_mono h.2 fun _ _ h => wp_pure h))
/-! statements -/
variable {fs gs : DEnv → M Out}
theorem wp_seq (h : WP (fs env) s (ko gs RO)) : WP (sSeq fs gs env) s RO :=
  wp_bind (wp_mono h fun o s' h => by cases o <;> first | exact h | exact wp_pure h)
theorem ko_nx {e : DEnv} (h : WP (gs e) s RO) : ko gs RO (.nx e) s := h
theorem ko_rt {d : D} (h : RO (.rt d) s) : ko gs RO (.rt d) s := h
theorem ko_bk {e : DEnv} (h : RO (.bk e) s) : ko gs RO (.bk e) s := h
theorem ko_ct {e : DEnv} (h : RO (.ct e) s) : ko gs RO (.ct e) s := h
theorem kr_rt {d : D} (h : R d s) : kr R (.rt d) s := h
theorem kr_nx {e : DEnv} (h : R .none s) : kr R (.nx e) s := h
theorem wp_sIf (h : WP (ft env) s fun b s' => (b = true → WP (fs env) s' RO) ∧ (b = false → WP (gs env) s' RO)) : WP (sIf ft fs gs env) s RO :=
  wp_bind (wp_mono h fun b s' h => by cases b <;> first | exact h.1 rfl | exact h.2 rfl)
theorem wp_guard (h1 : ∀ s, LSok s → WP (gs env) s RO) (h2 : WP (ft env) s fun b s' => LSok s' ∧ (b = true → WP (fs env) s' (ko gs RO))) : WP (sSeq (sIf ft fs sNext) gs env) s RO :=
  wp_bind (wp_bind (wp_mono h2 fun b s' h => by
    cases b with
    | true => exact wp_mono (h.2 rfl) fun o s2 h => by cases o <;> first | exact h | exact wp_pure h
    | false => exact wp_pure (h1 s' h.1)))
theorem wp_next (h : RO (.nx env) s) : WP (sNext env) s RO := wp_pure h
theorem wp_ret (h : WP (fa env) s fun d s' => RO (.rt d) s') : WP (sRet fa env) s RO := wp_bind (wp_mono h fun _ _ h => wp_pure h)
theorem wp_set (h : WP (fa env) s fun d s' => RO (.nx (env.set i (some (.val d)))) s') : WP (sSet i fa env) s RO := wp_bind (wp_mono h fun _ _ h => wp_pure h)
theorem wp_own (h : WP (fa env) s fun d s' => RO (.nx (env.set i (some (.own d)))) s') : WP (sOwn i fa env) s RO := wp_bind (wp_mono h fun _ _ h => wp_pure h)
theorem wp_par3 {j l : Nat} (h : WP (fr env) s fun ds s' => ∃ a b c, ds = [a, b, c] ∧ RO (.nx (((env.set i (some (.val a))).set j (some (.val b))).set l (some (.val c)))) s') : WP (sPar3 i j l fr env) s RO :=
  wp_bind (wp_mono h fun ds s' ⟨a, b, c, e, h⟩ => by subst e; exact wp_pure h)
theorem wp_par {j : Nat} (h : WP (fr env) s fun ds s' => ∃ a b, ds = [a, b] ∧ RO (.nx ((env.set i (some (.val a))).set j (some (.val b)))) s') : WP (sPar i j fr env) s RO :=
  wp_bind (wp_mono h fun ds s' ⟨a, b, e, h⟩ => by subst e; exact wp_pure h)
theorem wp_asg {bd : Bd} (h : WP (fa env) s fun d s' => ∃ e, bd d env = some e ∧ RO (.nx e) s') : WP (sAsg bd fa env) s RO := wp_bind (wp_mono h fun d s' ⟨e, q, h⟩ => by rw [q]; exact wp_pure h)
theorem wp_stSet {k : Nat} (e : env[i]? = some (some .st)) (h : WP (fa env) s fun d s' => ∃ s'', s'.put k d = some s'' ∧ RO (.nx env) s'') : WP (sStSet i k fa env) s RO := by
  obtain ⟨d, s', e1, s'', e2, q⟩ := h
  refine ⟨.nx env, s'', ?_, q⟩
  show M.bind (fa env) _ s = _
  unfold M.bind
  rw [e1]
  simp only [e, e2]
theorem wp_stInc (e : env[i]? = some (some .st)) (hl : s.at_ < s.cells.length) (h : RO (.nx env) { s with at_ := s.at_ + 1 }) : WP (sStInc i env) s RO := ⟨.nx env, _, by unfold sStInc; rw [e]; simp [hl], h⟩
theorem wp_for {bd : Bd} {fi : DEnv → M (List D)} (h : WP (fi env) s fun ds s' => WP (forGo bd fs ds env) s' RO) : WP (sFor bd fi fs env) s RO := wp_bind h
theorem wp_for_nil {bd : Bd} (h : RO (.nx env) s) : WP (forGo bd fs [] env) s RO := wp_pure h
theorem wp_for_cons {bd : Bd} {d : D} {ds : List D} {e1 : DEnv} (e : bd d env = some e1) (h : WP (fs e1) s (kf (forGo bd fs ds) RO)) : WP (forGo bd fs (d :: ds) env) s RO := by
  unfold forGo
  rw [e]
  exact wp_bind (wp_mono h fun o s' h => by cases o <;> first | exact h | exact wp_pure h)
/-- a loop with what stays true: no way out but the end -/
theorem wp_forInv {bd : Bd} (J : List D → DEnv → LS → Prop) : ∀ {ds : List D} {env : DEnv} {s : LS}, J ds env s → (∀ d ds env s, J (d :: ds) env s → ∃ e1, bd d env = some e1 ∧ WP (fs e1) s fun o s' => ∃ e, (o = .nx e ∨ o = .ct e) ∧ J ds e s') → (∀ env s, J [] env s → RO (.nx env) s) → WP (forGo bd fs ds env) s RO
  | [], env, s, h, _, q => wp_for_nil (q env s h)
  | d :: ds, env, s, h, st, q => by
    obtain ⟨e1, e, w⟩ := st d ds env s h
    refine wp_for_cons e (wp_mono w fun o s' ⟨e2, ho, j⟩ => ?_)
    rcases ho with rfl | rfl
    · exact wp_forInv J j st q
    · exact wp_forInv J j st q
/-! defs -/
theorem wp_runD {m : Nat} {body : DEnv → M Out} {ds : List D} (h : WP (body (ds.map (fun d => some (.val d)) ++ List.replicate m none)) s (kr R)) : WP (runD m body ds) s R :=
  wp_bind (wp_mono h fun o s' h => by cases o <;> first | exact wp_pure h | exact h.elim)
theorem wp_runS {m : Nat} {body : DEnv → M Out} {ds : List D} (h : WP (body (some .st :: ds.map (fun d => some (.val d)) ++ List.replicate m none)) s (kr R)) : WP (runS m body ds) s R :=
  wp_bind (wp_mono h fun o s' h => by cases o <;> first | exact wp_pure h | exact h.elim)
end
theorem some_get {α : Type} {xs : List α} {n : Nat} (h : n < xs.length) : xs[n]? = some xs[n] := List.getElem?_eq_getElem h
theorem ex_some {α : Type} {o : Option α} {z : α} {P : α → Prop} (e : o = some z) (h : P z) : ∃ a, o = some a ∧ P a := ⟨z, e, h⟩
theorem ex_sb {o : Option D} {b : Bool} {P : Bool → Prop} (e : o = some (.bool b)) (h : P b) : ∃ a, o = some (PyData.bool a) ∧ P a := ⟨b, e, h⟩
theorem mulB {i j : Int} (h : small64 j = true) : mulD (.int i) (.int j) = some (.int (i * j)) := if_pos (by rw [h, Bool.or_true])
theorem mulA {i j : Int} (h : small64 i = true) : mulD (.int i) (.int j) = some (.int (i * j)) := if_pos (by rw [h]; rfl)
theorem rngL {j : Int} (h : b62 j = true) : rng1 [.int j] = some (rangeL 0 1 j.toNat) := if_pos h
theorem ex_bool {b : Bool} {P : Bool → Prop} (h : P b) : ∃ a, PyData.bool b = .bool a ∧ P a := ⟨b, rfl, h⟩
theorem ex_int {b : Int} {P : Int → Prop} (h : P b) : ∃ a, PyData.int b = .int a ∧ P a := ⟨b, rfl, h⟩
theorem br_t {b : Bool} {A B : Prop} (e : b = true) (h : A) : (b = true → A) ∧ (b = false → B) := ⟨fun _ => h, fun z => by rw [e] at z; cases z⟩
theorem br_f {b : Bool} {A B : Prop} (e : b = false) (h : B) : (b = true → A) ∧ (b = false → B) := ⟨fun z => (by rw [e] at z; cases z), fun _ => h⟩
theorem f7 (z : Int) : 0 ≤ z.fmod 2147483647 ∧ z.fmod 2147483647 < 2147483647 := ⟨Int.fmod_nonneg_of_pos z (by decide), Int.fmod_lt_of_pos z (by decide)⟩
theorem mulS {s : LS} {n : Int} (h : small64 n = true) : mulD (s.part 3) (.int n) = some (.int (s.seed * n)) := if_pos (by rw [h, Bool.or_true])
theorem put_seed {s : LS} {z : Int} : s.put 3 (.int (z.fmod 2147483647)) = some { s with seed := z.fmod 2147483647 } := if_pos (f7 z)
theorem put_held {s : LS} {z : Int} (h : 0 ≤ z) : s.put 2 (.int z) = some { s with held := z } := if_pos h
theorem mod_ok {z l : Int} (h : l ≠ 0) : modD (.int z) (.int l) = some (.int (z.fmod l)) := if_neg h
theorem fdiv_ok {z l : Int} (h : l ≠ 0) (h2 : l.natAbs < 1073741824) : fdivD (.int z) (.int l) = some (.int (z.fdiv l)) := if_pos (by simp [h, h2])
/-- a number drawn below l -/
theorem tr_next (l : Int) (hl : 0 < l) (hl2 : l < 1073741824) : Tr (f_law_next [.int l]) fun r => ∃ k : Nat, r = .int k ∧ (k : Int) < l := by
  have fin : ∀ (z : Int) (s : LS), LSok s → LSok s ∧ ∃ k : Nat, PyData.int (z.fmod l) = .int k ∧ (k : Int) < l := fun z s h => by
    have h1 : 0 ≤ z.fmod l := Int.fmod_nonneg_of_pos z hl
    have h2 := Int.fmod_lt_of_pos z hl
    exact ⟨h, (z.fmod l).toNat, by rw [Int.toNat_of_nonneg h1], by rw [Int.toNat_of_nonneg h1]; exact h2⟩
  have l0 : l ≠ 0 := by omega
  intro s ok
  -- behind the first if the state is still one
  have tail : ∀ (c v : Option DV) (s : LS), LSok s →
      WP ((sSeq (sIf (tVal (e2 gtD (eSt 0 2) (eC (.int 0)))) (sSeq (sSet 3 (e2 modD (eCall intD (aCons (eSt 0 2) aNil)) (eV 1)))
    (sSeq (sStSet 0 2 (e2 fdivD (eSt 0 2) (eV 1)))
    (sRet (eV 3)))) sNext)
    (sSeq (sStSet 0 3 (e2 modD (eCall intD (aCons (e2 addD (e2 mulD (eSt 0 3) (eC (.int 69621))) (eC (.int 12345))) aNil)) (eC (.int 2147483647))))
    (sRet (e2 modD (eCall intD (aCons (e2 fdivD (eSt 0 3) (eC (.int 7))) aNil)) (eV 1))))) [some .st, some (.val (.int l)), c, v]) s
        (kr fun a s' => LSok s' ∧ ∃ k : Nat, a = .int k ∧ (k : Int) < l) := by
    intro c v s ok
    (repeat (first | with_reducible (first | apply wp_seq | apply wp_sIf | apply wp_next | apply wp_ret | apply wp_set | apply wp_own | apply wp_par | apply wp_par3 | apply wp_asg | apply wp_for | apply wp_tVal | apply wp_tTru | apply wp_tAnd | apply wp_tOr | apply wp_tNot | apply wp_e2 | apply wp_e1 | apply wp_eC | apply wp_call | apply wp_cons | apply wp_nil | apply wp_mt | apply wp_sl | apply wp_pNo | apply wp_pAt | apply wp_rev | apply wp_eIf | apply wp_eAnd | apply wp_eOr | apply wp_eNot | apply wp_chain | apply wp_isi | apply wp_isi2 | apply wp_fn | apply wp_iOf | apply wp_iRng | apply wp_lc | apply wp_tup | apply wp_lst | apply wp_frz | apply ko_nx | apply ko_rt | apply kr_rt | apply kr_nx | apply ex_bool | apply ex_int) | ((with_reducible apply wp_eV); rfl) | ((with_reducible apply wp_eOv); rfl) | ((with_reducible apply wp_eOo); rfl) | ((with_reducible apply wp_st); rfl; decide) | ((with_reducible apply wp_stSet); rfl) | ((with_reducible apply wp_fnS); rfl) | ((with_reducible apply ex_some); rfl) | ((with_reducible apply ex_sb); rfl) | ((with_reducible apply br_t); rfl) | ((with_reducible apply br_f); rfl) | ((with_reducible apply ex_some (mulB _)); decide +kernel) | ((with_reducible apply ex_some (mulA _)); decide +kernel) | ((with_reducible apply ex_some (rngL _)); decide +kernel) | (refine ⟨rfl, ?_⟩)))
    refine ⟨fun hb => ?_, fun hb => ?_⟩
    · (repeat (first | with_reducible (first | apply wp_seq | apply wp_sIf | apply wp_next | apply wp_ret | apply wp_set | apply wp_own | apply wp_par | apply wp_par3 | apply wp_asg | apply wp_for | apply wp_tVal | apply wp_tTru | apply wp_tAnd | apply wp_tOr | apply wp_tNot | apply wp_e2 | apply wp_e1 | apply wp_eC | apply wp_call | apply wp_cons | apply wp_nil | apply wp_mt | apply wp_sl | apply wp_pNo | apply wp_pAt | apply wp_rev | apply wp_eIf | apply wp_eAnd | apply wp_eOr | apply wp_eNot | apply wp_chain | apply wp_isi | apply wp_isi2 | apply wp_fn | apply wp_iOf | apply wp_iRng | apply wp_lc | apply wp_tup | apply wp_lst | apply wp_frz | apply ko_nx | apply ko_rt | apply kr_rt | apply kr_nx | apply ex_bool | apply ex_int) | ((with_reducible apply wp_eV); rfl) | ((with_reducible apply wp_eOv); rfl) | ((with_reducible apply wp_eOo); rfl) | ((with_reducible apply wp_st); rfl; decide) | ((with_reducible apply wp_stSet); rfl) | ((with_reducible apply wp_fnS); rfl) | ((with_reducible apply ex_some); rfl) | ((with_reducible apply ex_sb); rfl) | ((with_reducible apply br_t); rfl) | ((with_reducible apply br_f); rfl) | ((with_reducible apply ex_some (mulB _)); decide +kernel) | ((with_reducible apply ex_some (mulA _)); decide +kernel) | ((with_reducible apply ex_some (rngL _)); decide +kernel) | (refine ⟨rfl, ?_⟩)))
      refine ex_some (mod_ok l0) ?_
      (repeat (first | with_reducible (first | apply wp_seq | apply wp_sIf | apply wp_next | apply wp_ret | apply wp_set | apply wp_own | apply wp_par | apply wp_par3 | apply wp_asg | apply wp_for | apply wp_tVal | apply wp_tTru | apply wp_tAnd | apply wp_tOr | apply wp_tNot | apply wp_e2 | apply wp_e1 | apply wp_eC | apply wp_call | apply wp_cons | apply wp_nil | apply wp_mt | apply wp_sl | apply wp_pNo | apply wp_pAt | apply wp_rev | apply wp_eIf | apply wp_eAnd | apply wp_eOr | apply wp_eNot | apply wp_chain | apply wp_isi | apply wp_isi2 | apply wp_fn | apply wp_iOf | apply wp_iRng | apply wp_lc | apply wp_tup | apply wp_lst | apply wp_frz | apply ko_nx | apply ko_rt | apply kr_rt | apply kr_nx | apply ex_bool | apply ex_int) | ((with_reducible apply wp_eV); rfl) | ((with_reducible apply wp_eOv); rfl) | ((with_reducible apply wp_eOo); rfl) | ((with_reducible apply wp_st); rfl; decide) | ((with_reducible apply wp_stSet); rfl) | ((with_reducible apply wp_fnS); rfl) | ((with_reducible apply ex_some); rfl) | ((with_reducible apply ex_sb); rfl) | ((with_reducible apply br_t); rfl) | ((with_reducible apply br_f); rfl) | ((with_reducible apply ex_some (mulB _)); decide +kernel) | ((with_reducible apply ex_some (mulA _)); decide +kernel) | ((with_reducible apply ex_some (rngL _)); decide +kernel) | (refine ⟨rfl, ?_⟩)))
      refine ex_some (fdiv_ok l0 (by omega)) ?_
      have hq : 0 ≤ s.held.fdiv l := Int.fdiv_nonneg ok.held (by omega)
      refine ex_some (put_held hq) ?_
      (repeat (first | with_reducible (first | apply wp_seq | apply wp_sIf | apply wp_next | apply wp_ret | apply wp_set | apply wp_own | apply wp_par | apply wp_par3 | apply wp_asg | apply wp_for | apply wp_tVal | apply wp_tTru | apply wp_tAnd | apply wp_tOr | apply wp_tNot | apply wp_e2 | apply wp_e1 | apply wp_eC | apply wp_call | apply wp_cons | apply wp_nil | apply wp_mt | apply wp_sl | apply wp_pNo | apply wp_pAt | apply wp_rev | apply wp_eIf | apply wp_eAnd | apply wp_eOr | apply wp_eNot | apply wp_chain | apply wp_isi | apply wp_isi2 | apply wp_fn | apply wp_iOf | apply wp_iRng | apply wp_lc | apply wp_tup | apply wp_lst | apply wp_frz | apply ko_nx | apply ko_rt | apply kr_rt | apply kr_nx | apply ex_bool | apply ex_int) | ((with_reducible apply wp_eV); rfl) | ((with_reducible apply wp_eOv); rfl) | ((with_reducible apply wp_eOo); rfl) | ((with_reducible apply wp_st); rfl; decide) | ((with_reducible apply wp_stSet); rfl) | ((with_reducible apply wp_fnS); rfl) | ((with_reducible apply ex_some); rfl) | ((with_reducible apply ex_sb); rfl) | ((with_reducible apply br_t); rfl) | ((with_reducible apply br_f); rfl) | ((with_reducible apply ex_some (mulB _)); decide +kernel) | ((with_reducible apply ex_some (mulA _)); decide +kernel) | ((with_reducible apply ex_some (rngL _)); decide +kernel) | (refine ⟨rfl, ?_⟩)))
      exact fin _ _ ⟨ok.at0, ok.len, hq, ok.seed⟩
    · (repeat (first | with_reducible (first | apply wp_seq | apply wp_sIf | apply wp_next | apply wp_ret | apply wp_set | apply wp_own | apply wp_par | apply wp_par3 | apply wp_asg | apply wp_for | apply wp_tVal | apply wp_tTru | apply wp_tAnd | apply wp_tOr | apply wp_tNot | apply wp_e2 | apply wp_e1 | apply wp_eC | apply wp_call | apply wp_cons | apply wp_nil | apply wp_mt | apply wp_sl | apply wp_pNo | apply wp_pAt | apply wp_rev | apply wp_eIf | apply wp_eAnd | apply wp_eOr | apply wp_eNot | apply wp_chain | apply wp_isi | apply wp_isi2 | apply wp_fn | apply wp_iOf | apply wp_iRng | apply wp_lc | apply wp_tup | apply wp_lst | apply wp_frz | apply ko_nx | apply ko_rt | apply kr_rt | apply kr_nx | apply ex_bool | apply ex_int) | ((with_reducible apply wp_eV); rfl) | ((with_reducible apply wp_eOv); rfl) | ((with_reducible apply wp_eOo); rfl) | ((with_reducible apply wp_st); rfl; decide) | ((with_reducible apply wp_stSet); rfl) | ((with_reducible apply wp_fnS); rfl) | ((with_reducible apply ex_some); rfl) | ((with_reducible apply ex_sb); rfl) | ((with_reducible apply br_t); rfl) | ((with_reducible apply br_f); rfl) | ((with_reducible apply ex_some (mulB _)); decide +kernel) | ((with_reducible apply ex_some (mulA _)); decide +kernel) | ((with_reducible apply ex_some (rngL _)); decide +kernel) | (refine ⟨rfl, ?_⟩)))
      refine ex_some (mulS (by decide +kernel)) ?_
      (repeat (first | with_reducible (first | apply wp_seq | apply wp_sIf | apply wp_next | apply wp_ret | apply wp_set | apply wp_own | apply wp_par | apply wp_par3 | apply wp_asg | apply wp_for | apply wp_tVal | apply wp_tTru | apply wp_tAnd | apply wp_tOr | apply wp_tNot | apply wp_e2 | apply wp_e1 | apply wp_eC | apply wp_call | apply wp_cons | apply wp_nil | apply wp_mt | apply wp_sl | apply wp_pNo | apply wp_pAt | apply wp_rev | apply wp_eIf | apply wp_eAnd | apply wp_eOr | apply wp_eNot | apply wp_chain | apply wp_isi | apply wp_isi2 | apply wp_fn | apply wp_iOf | apply wp_iRng | apply wp_lc | apply wp_tup | apply wp_lst | apply wp_frz | apply ko_nx | apply ko_rt | apply kr_rt | apply kr_nx | apply ex_bool | apply ex_int) | ((with_reducible apply wp_eV); rfl) | ((with_reducible apply wp_eOv); rfl) | ((with_reducible apply wp_eOo); rfl) | ((with_reducible apply wp_st); rfl; decide) | ((with_reducible apply wp_stSet); rfl) | ((with_reducible apply wp_fnS); rfl) | ((with_reducible apply ex_some); rfl) | ((with_reducible apply ex_sb); rfl) | ((with_reducible apply br_t); rfl) | ((with_reducible apply br_f); rfl) | ((with_reducible apply ex_some (mulB _)); decide +kernel) | ((with_reducible apply ex_some (mulA _)); decide +kernel) | ((with_reducible apply ex_some (rngL _)); decide +kernel) | (refine ⟨rfl, ?_⟩)))
      refine ex_some put_seed ?_
      (repeat (first | with_reducible (first | apply wp_seq | apply wp_sIf | apply wp_next | apply wp_ret | apply wp_set | apply wp_own | apply wp_par | apply wp_par3 | apply wp_asg | apply wp_for | apply wp_tVal | apply wp_tTru | apply wp_tAnd | apply wp_tOr | apply wp_tNot | apply wp_e2 | apply wp_e1 | apply wp_eC | apply wp_call | apply wp_cons | apply wp_nil | apply wp_mt | apply wp_sl | apply wp_pNo | apply wp_pAt | apply wp_rev | apply wp_eIf | apply wp_eAnd | apply wp_eOr | apply wp_eNot | apply wp_chain | apply wp_isi | apply wp_isi2 | apply wp_fn | apply wp_iOf | apply wp_iRng | apply wp_lc | apply wp_tup | apply wp_lst | apply wp_frz | apply ko_nx | apply ko_rt | apply kr_rt | apply kr_nx | apply ex_bool | apply ex_int) | ((with_reducible apply wp_eV); rfl) | ((with_reducible apply wp_eOv); rfl) | ((with_reducible apply wp_eOo); rfl) | ((with_reducible apply wp_st); rfl; decide) | ((with_reducible apply wp_stSet); rfl) | ((with_reducible apply wp_fnS); rfl) | ((with_reducible apply ex_some); rfl) | ((with_reducible apply ex_sb); rfl) | ((with_reducible apply br_t); rfl) | ((with_reducible apply br_f); rfl) | ((with_reducible apply ex_some (mulB _)); decide +kernel) | ((with_reducible apply ex_some (mulA _)); decide +kernel) | ((with_reducible apply ex_some (rngL _)); decide +kernel) | (refine ⟨rfl, ?_⟩)))
      refine ex_some (mod_ok l0) ?_
      (repeat (first | with_reducible (first | apply wp_seq | apply wp_sIf | apply wp_next | apply wp_ret | apply wp_set | apply wp_own | apply wp_par | apply wp_par3 | apply wp_asg | apply wp_for | apply wp_tVal | apply wp_tTru | apply wp_tAnd | apply wp_tOr | apply wp_tNot | apply wp_e2 | apply wp_e1 | apply wp_eC | apply wp_call | apply wp_cons | apply wp_nil | apply wp_mt | apply wp_sl | apply wp_pNo | apply wp_pAt | apply wp_rev | apply wp_eIf | apply wp_eAnd | apply wp_eOr | apply wp_eNot | apply wp_chain | apply wp_isi | apply wp_isi2 | apply wp_fn | apply wp_iOf | apply wp_iRng | apply wp_lc | apply wp_tup | apply wp_lst | apply wp_frz | apply ko_nx | apply ko_rt | apply kr_rt | apply kr_nx | apply ex_bool | apply ex_int) | ((with_reducible apply wp_eV); rfl) | ((with_reducible apply wp_eOv); rfl) | ((with_reducible apply wp_eOo); rfl) | ((with_reducible apply wp_st); rfl; decide) | ((with_reducible apply wp_stSet); rfl) | ((with_reducible apply wp_fnS); rfl) | ((with_reducible apply ex_some); rfl) | ((with_reducible apply ex_sb); rfl) | ((with_reducible apply br_t); rfl) | ((with_reducible apply br_f); rfl) | ((with_reducible apply ex_some (mulB _)); decide +kernel) | ((with_reducible apply ex_some (mulA _)); decide +kernel) | ((with_reducible apply ex_some (rngL _)); decide +kernel) | (refine ⟨rfl, ?_⟩)))
      exact fin _ _ ⟨ok.at0, ok.len, ok.held, f7 _⟩
  apply wp_runS
  unfold b_law_next
  (repeat (first | with_reducible (first | apply wp_seq | apply wp_sIf | apply wp_next | apply wp_ret | apply wp_set | apply wp_own | apply wp_par | apply wp_par3 | apply wp_asg | apply wp_for | apply wp_tVal | apply wp_tTru | apply wp_tAnd | apply wp_tOr | apply wp_tNot | apply wp_e2 | apply wp_e1 | apply wp_eC | apply wp_call | apply wp_cons | apply wp_nil | apply wp_mt | apply wp_sl | apply wp_pNo | apply wp_pAt | apply wp_rev | apply wp_eIf | apply wp_eAnd | apply wp_eOr | apply wp_eNot | apply wp_chain | apply wp_isi | apply wp_isi2 | apply wp_fn | apply wp_iOf | apply wp_iRng | apply wp_lc | apply wp_tup | apply wp_lst | apply wp_frz | apply ko_nx | apply ko_rt | apply kr_rt | apply kr_nx | apply ex_bool | apply ex_int) | ((with_reducible apply wp_eV); rfl) | ((with_reducible apply wp_eOv); rfl) | ((with_reducible apply wp_eOo); rfl) | ((with_reducible apply wp_st); rfl; decide) | ((with_reducible apply wp_stSet); rfl) | ((with_reducible apply wp_fnS); rfl) | ((with_reducible apply ex_some); rfl) | ((with_reducible apply ex_sb); rfl) | ((with_reducible apply br_t); rfl) | ((with_reducible apply br_f); rfl) | ((with_reducible apply ex_some (mulB _)); decide +kernel) | ((with_reducible apply ex_some (mulA _)); decide +kernel) | ((with_reducible apply ex_some (rngL _)); decide +kernel) | (refine ⟨rfl, ?_⟩)))
  refine ⟨fun hb => ?_, fun hb => ?_⟩
  · (repeat (first | with_reducible (first | apply wp_seq | apply wp_sIf | apply wp_next | apply wp_ret | apply wp_set | apply wp_own | apply wp_par | apply wp_par3 | apply wp_asg | apply wp_for | apply wp_tVal | apply wp_tTru | apply wp_tAnd | apply wp_tOr | apply wp_tNot | apply wp_e2 | apply wp_e1 | apply wp_eC | apply wp_call | apply wp_cons | apply wp_nil | apply wp_mt | apply wp_sl | apply wp_pNo | apply wp_pAt | apply wp_rev | apply wp_eIf | apply wp_eAnd | apply wp_eOr | apply wp_eNot | apply wp_chain | apply wp_isi | apply wp_isi2 | apply wp_fn | apply wp_iOf | apply wp_iRng | apply wp_lc | apply wp_tup | apply wp_lst | apply wp_frz | apply ko_nx | apply ko_rt | apply kr_rt | apply kr_nx | apply ex_bool | apply ex_int) | ((with_reducible apply wp_eV); rfl) | ((with_reducible apply wp_eOv); rfl) | ((with_reducible apply wp_eOo); rfl) | ((with_reducible apply wp_st); rfl; decide) | ((with_reducible apply wp_stSet); rfl) | ((with_reducible apply wp_fnS); rfl) | ((with_reducible apply ex_some); rfl) | ((with_reducible apply ex_sb); rfl) | ((with_reducible apply br_t); rfl) | ((with_reducible apply br_f); rfl) | ((with_reducible apply ex_some (mulB _)); decide +kernel) | ((with_reducible apply ex_some (mulA _)); decide +kernel) | ((with_reducible apply ex_some (rngL _)); decide +kernel) | (refine ⟨rfl, ?_⟩)))
    refine ⟨fun hlt => ?_, fun hlt => ?_⟩
    · have hlt : s.at_ < s.cells.length := by
        have := of_decide_eq_true hlt
        rw [List.length_map] at this; omega
      (repeat (first | with_reducible (first | apply wp_seq | apply wp_sIf | apply wp_next | apply wp_ret | apply wp_set | apply wp_own | apply wp_par | apply wp_par3 | apply wp_asg | apply wp_for | apply wp_tVal | apply wp_tTru | apply wp_tAnd | apply wp_tOr | apply wp_tNot | apply wp_e2 | apply wp_e1 | apply wp_eC | apply wp_call | apply wp_cons | apply wp_nil | apply wp_mt | apply wp_sl | apply wp_pNo | apply wp_pAt | apply wp_rev | apply wp_eIf | apply wp_eAnd | apply wp_eOr | apply wp_eNot | apply wp_chain | apply wp_isi | apply wp_isi2 | apply wp_fn | apply wp_iOf | apply wp_iRng | apply wp_lc | apply wp_tup | apply wp_lst | apply wp_frz | apply ko_nx | apply ko_rt | apply kr_rt | apply kr_nx | apply ex_bool | apply ex_int) | ((with_reducible apply wp_eV); rfl) | ((with_reducible apply wp_eOv); rfl) | ((with_reducible apply wp_eOo); rfl) | ((with_reducible apply wp_st); rfl; decide) | ((with_reducible apply wp_stSet); rfl) | ((with_reducible apply wp_fnS); rfl) | ((with_reducible apply ex_some); rfl) | ((with_reducible apply ex_sb); rfl) | ((with_reducible apply br_t); rfl) | ((with_reducible apply br_f); rfl) | ((with_reducible apply ex_some (mulB _)); decide +kernel) | ((with_reducible apply ex_some (mulA _)); decide +kernel) | ((with_reducible apply ex_some (rngL _)); decide +kernel) | (refine ⟨rfl, ?_⟩)))
      refine ex_some (z := .int s.cells[s.at_]) ?_ ?_
      · show atI (s.cells.map PyData.int) (s.at_ : Nat) = _
        exact atI_nat (by rw [List.getElem?_map, some_get hlt]; rfl)
      · (repeat (first | with_reducible (first | apply wp_seq | apply wp_sIf | apply wp_next | apply wp_ret | apply wp_set | apply wp_own | apply wp_par | apply wp_par3 | apply wp_asg | apply wp_for | apply wp_tVal | apply wp_tTru | apply wp_tAnd | apply wp_tOr | apply wp_tNot | apply wp_e2 | apply wp_e1 | apply wp_eC | apply wp_call | apply wp_cons | apply wp_nil | apply wp_mt | apply wp_sl | apply wp_pNo | apply wp_pAt | apply wp_rev | apply wp_eIf | apply wp_eAnd | apply wp_eOr | apply wp_eNot | apply wp_chain | apply wp_isi | apply wp_isi2 | apply wp_fn | apply wp_iOf | apply wp_iRng | apply wp_lc | apply wp_tup | apply wp_lst | apply wp_frz | apply ko_nx | apply ko_rt | apply kr_rt | apply kr_nx | apply ex_bool | apply ex_int) | ((with_reducible apply wp_eV); rfl) | ((with_reducible apply wp_eOv); rfl) | ((with_reducible apply wp_eOo); rfl) | ((with_reducible apply wp_st); rfl; decide) | ((with_reducible apply wp_stSet); rfl) | ((with_reducible apply wp_fnS); rfl) | ((with_reducible apply ex_some); rfl) | ((with_reducible apply ex_sb); rfl) | ((with_reducible apply br_t); rfl) | ((with_reducible apply br_f); rfl) | ((with_reducible apply ex_some (mulB _)); decide +kernel) | ((with_reducible apply ex_some (mulA _)); decide +kernel) | ((with_reducible apply ex_some (rngL _)); decide +kernel) | (refine ⟨rfl, ?_⟩)))
        refine wp_stInc rfl hlt ?_
        (repeat (first | with_reducible (first | apply wp_seq | apply wp_sIf | apply wp_next | apply wp_ret | apply wp_set | apply wp_own | apply wp_par | apply wp_par3 | apply wp_asg | apply wp_for | apply wp_tVal | apply wp_tTru | apply wp_tAnd | apply wp_tOr | apply wp_tNot | apply wp_e2 | apply wp_e1 | apply wp_eC | apply wp_call | apply wp_cons | apply wp_nil | apply wp_mt | apply wp_sl | apply wp_pNo | apply wp_pAt | apply wp_rev | apply wp_eIf | apply wp_eAnd | apply wp_eOr | apply wp_eNot | apply wp_chain | apply wp_isi | apply wp_isi2 | apply wp_fn | apply wp_iOf | apply wp_iRng | apply wp_lc | apply wp_tup | apply wp_lst | apply wp_frz | apply ko_nx | apply ko_rt | apply kr_rt | apply kr_nx | apply ex_bool | apply ex_int) | ((with_reducible apply wp_eV); rfl) | ((with_reducible apply wp_eOv); rfl) | ((with_reducible apply wp_eOo); rfl) | ((with_reducible apply wp_st); rfl; decide) | ((with_reducible apply wp_stSet); rfl) | ((with_reducible apply wp_fnS); rfl) | ((with_reducible apply ex_some); rfl) | ((with_reducible apply ex_sb); rfl) | ((with_reducible apply br_t); rfl) | ((with_reducible apply br_f); rfl) | ((with_reducible apply ex_some (mulB _)); decide +kernel) | ((with_reducible apply ex_some (mulA _)); decide +kernel) | ((with_reducible apply ex_some (rngL _)); decide +kernel) | (refine ⟨rfl, ?_⟩)))
        refine ⟨fun hbig => ?_, fun _ => ?_⟩
        · have hbig := of_decide_eq_true hbig
          have e18 : (10 : Int) ^ (Int.toNat 18) = 1000000000000000000 := by decide
          rw [e18] at hbig
          have h0 : 0 ≤ s.cells[s.at_] := by omega
          (repeat (first | with_reducible (first | apply wp_seq | apply wp_sIf | apply wp_next | apply wp_ret | apply wp_set | apply wp_own | apply wp_par | apply wp_par3 | apply wp_asg | apply wp_for | apply wp_tVal | apply wp_tTru | apply wp_tAnd | apply wp_tOr | apply wp_tNot | apply wp_e2 | apply wp_e1 | apply wp_eC | apply wp_call | apply wp_cons | apply wp_nil | apply wp_mt | apply wp_sl | apply wp_pNo | apply wp_pAt | apply wp_rev | apply wp_eIf | apply wp_eAnd | apply wp_eOr | apply wp_eNot | apply wp_chain | apply wp_isi | apply wp_isi2 | apply wp_fn | apply wp_iOf | apply wp_iRng | apply wp_lc | apply wp_tup | apply wp_lst | apply wp_frz | apply ko_nx | apply ko_rt | apply kr_rt | apply kr_nx | apply ex_bool | apply ex_int) | ((with_reducible apply wp_eV); rfl) | ((with_reducible apply wp_eOv); rfl) | ((with_reducible apply wp_eOo); rfl) | ((with_reducible apply wp_st); rfl; decide) | ((with_reducible apply wp_stSet); rfl) | ((with_reducible apply wp_fnS); rfl) | ((with_reducible apply ex_some); rfl) | ((with_reducible apply ex_sb); rfl) | ((with_reducible apply br_t); rfl) | ((with_reducible apply br_f); rfl) | ((with_reducible apply ex_some (mulB _)); decide +kernel) | ((with_reducible apply ex_some (mulA _)); decide +kernel) | ((with_reducible apply ex_some (rngL _)); decide +kernel) | (refine ⟨rfl, ?_⟩)))
          refine ex_some (put_held h0) ?_
          exact tail _ _ _ ⟨hlt, ok.len, h0, ok.seed⟩
        · (repeat (first | with_reducible (first | apply wp_seq | apply wp_sIf | apply wp_next | apply wp_ret | apply wp_set | apply wp_own | apply wp_par | apply wp_par3 | apply wp_asg | apply wp_for | apply wp_tVal | apply wp_tTru | apply wp_tAnd | apply wp_tOr | apply wp_tNot | apply wp_e2 | apply wp_e1 | apply wp_eC | apply wp_call | apply wp_cons | apply wp_nil | apply wp_mt | apply wp_sl | apply wp_pNo | apply wp_pAt | apply wp_rev | apply wp_eIf | apply wp_eAnd | apply wp_eOr | apply wp_eNot | apply wp_chain | apply wp_isi | apply wp_isi2 | apply wp_fn | apply wp_iOf | apply wp_iRng | apply wp_lc | apply wp_tup | apply wp_lst | apply wp_frz | apply ko_nx | apply ko_rt | apply kr_rt | apply kr_nx | apply ex_bool | apply ex_int) | ((with_reducible apply wp_eV); rfl) | ((with_reducible apply wp_eOv); rfl) | ((with_reducible apply wp_eOo); rfl) | ((with_reducible apply wp_st); rfl; decide) | ((with_reducible apply wp_stSet); rfl) | ((with_reducible apply wp_fnS); rfl) | ((with_reducible apply ex_some); rfl) | ((with_reducible apply ex_sb); rfl) | ((with_reducible apply br_t); rfl) | ((with_reducible apply br_f); rfl) | ((with_reducible apply ex_some (mulB _)); decide +kernel) | ((with_reducible apply ex_some (mulA _)); decide +kernel) | ((with_reducible apply ex_some (rngL _)); decide +kernel) | (refine ⟨rfl, ?_⟩)))
          refine ex_some (mulS (by decide +kernel)) ?_
          (repeat (first | with_reducible (first | apply wp_seq | apply wp_sIf | apply wp_next | apply wp_ret | apply wp_set | apply wp_own | apply wp_par | apply wp_par3 | apply wp_asg | apply wp_for | apply wp_tVal | apply wp_tTru | apply wp_tAnd | apply wp_tOr | apply wp_tNot | apply wp_e2 | apply wp_e1 | apply wp_eC | apply wp_call | apply wp_cons | apply wp_nil | apply wp_mt | apply wp_sl | apply wp_pNo | apply wp_pAt | apply wp_rev | apply wp_eIf | apply wp_eAnd | apply wp_eOr | apply wp_eNot | apply wp_chain | apply wp_isi | apply wp_isi2 | apply wp_fn | apply wp_iOf | apply wp_iRng | apply wp_lc | apply wp_tup | apply wp_lst | apply wp_frz | apply ko_nx | apply ko_rt | apply kr_rt | apply kr_nx | apply ex_bool | apply ex_int) | ((with_reducible apply wp_eV); rfl) | ((with_reducible apply wp_eOv); rfl) | ((with_reducible apply wp_eOo); rfl) | ((with_reducible apply wp_st); rfl; decide) | ((with_reducible apply wp_stSet); rfl) | ((with_reducible apply wp_fnS); rfl) | ((with_reducible apply ex_some); rfl) | ((with_reducible apply ex_sb); rfl) | ((with_reducible apply br_t); rfl) | ((with_reducible apply br_f); rfl) | ((with_reducible apply ex_some (mulB _)); decide +kernel) | ((with_reducible apply ex_some (mulA _)); decide +kernel) | ((with_reducible apply ex_some (rngL _)); decide +kernel) | (refine ⟨rfl, ?_⟩)))
          refine ex_some put_seed ?_
          exact tail _ _ _ ⟨hlt, ok.len, ok.held, f7 _⟩
    · exact wp_next (tail _ _ s ok)
  · exact br_f rfl (wp_next (tail _ _ s ok))
end DL

/-! DL, part 15: data of a bounded size; the shared defs of the laws always answer, with such. -/
namespace DL
open PySem PySem.Spec PyProof.Rows L2
mutual
def wt : D → Nat
  | .str x => x.length + 1
  | .list xs => wts xs + 1
  | .tuple xs => wts xs + 1
  | _ => 1
def wts : List D → Nat
  | [] => 0
  | d :: ds => wt d + wts ds
end
mutual
/-- numbers (small), bools, texts, tuples of such -/
def plainB : D → Bool
  | .int i => decide (i.natAbs < 2 ^ 64)
  | .bool _ => true
  | .str _ => true
  | .tuple xs => plainAll xs
  | _ => false
def plainAll : List D → Bool
  | [] => true
  | d :: ds => plainB d && plainAll ds
end
theorem plainAll_mem : ∀ {xs : List D}, plainAll xs = true → ∀ x ∈ xs, plainB x = true
  | [], _, x, h => by simp at h
  | d :: ds, h, x, hx => by
    simp only [plainAll, Bool.and_eq_true] at h
    rcases List.mem_cons.mp hx with rfl | hx
    · exact h.1
    · exact plainAll_mem h.2 x hx
theorem layAll_iff : ∀ {xs : List D}, PyData.canLayAll0 xs = true ↔ ∀ x ∈ xs, PyData.canLay0 x = true
  | [] => by simp [PyData.canLayAll0]
  | d :: ds => by simp [PyData.canLayAll0, Bool.and_eq_true, layAll_iff (xs := ds)]
theorem depAll_iff : ∀ {xs : List D} {n : Nat}, PyData.depthAll xs ≤ n ↔ ∀ x ∈ xs, PyData.depth x ≤ n
  | [], n => by simp [PyData.depthAll]
  | d :: ds, n => by
    simp only [PyData.depthAll, List.mem_cons, forall_eq_or_imp]
    rw [← depAll_iff (xs := ds), Nat.max_le]
theorem wts_app : ∀ {xs ys : List D}, wts (xs ++ ys) = wts xs + wts ys
  | [], ys => by simp [wts]
  | d :: ds, ys => by rw [List.cons_append]; simp only [wts]; rw [wts_app]; omega
theorem wt_pos : ∀ {d : D}, 1 ≤ wt d
  | .str x => by simp [wt]
  | .list xs => by simp [wt]
  | .tuple xs => by simp [wt]
  | .none => Nat.le_refl _
  | .bool _ => Nat.le_refl _
  | .int _ => Nat.le_refl _
  | .dict _ => Nat.le_refl _
theorem wts_len : ∀ {xs : List D}, xs.length ≤ wts xs
  | [] => Nat.le_refl _
  | d :: ds => by have := wt_pos (d := d); have := wts_len (xs := ds); simp only [List.length_cons, wts]; omega
theorem wts_sub {xs ys : List D} (h : xs.Sublist ys) : wts xs ≤ wts ys := by
  induction h with
  | slnil => exact Nat.le_refl _
  | cons a _ ih => simp only [wts]; omega
  | cons_cons a _ ih => simp only [wts]; omega
theorem wt_mem {xs : List D} {d : D} (h : d ∈ xs) : wt d ≤ wts xs := by
  induction xs with
  | nil => simp at h
  | cons a r ih =>
    simp only [wts]
    rcases List.mem_cons.mp h with rfl | h
    · omega
    · have := ih h; omega
structure San (W n : Nat) (d : D) : Prop where
  lay : PyData.canLay0 d = true
  w : wt d ≤ W
  dep : PyData.depth d ≤ n
structure Sans (W n : Nat) (xs : List D) : Prop where
  all : ∀ x ∈ xs, PyData.canLay0 x = true ∧ PyData.depth x ≤ n
  w : wts xs ≤ W
section
variable {W V n m : Nat} {d : D} {xs ys : List D} {x y : Str}
theorem San.mono (h : San W n d) (h1 : W ≤ V) (h2 : n ≤ m) : San V m d := ⟨h.lay, Nat.le_trans h.w h1, Nat.le_trans h.dep h2⟩
theorem Sans.mono (h : Sans W n xs) (h1 : W ≤ V) (h2 : n ≤ m) : Sans V m xs := ⟨fun x hx => ⟨(h.all x hx).1, Nat.le_trans (h.all x hx).2 h2⟩, Nat.le_trans h.w h1⟩
theorem Sans.self (h : Sans W n xs) : Sans (wts xs) n xs := ⟨h.all, Nat.le_refl _⟩
theorem Sans.nil : Sans 0 n [] := ⟨fun _ h => by simp at h, Nat.le_refl _⟩
theorem Sans.cons (h : San W n d) (t : Sans V n xs) : Sans (W + V) n (d :: xs) := ⟨fun x hx => by
  rcases List.mem_cons.mp hx with rfl | hx
  · exact ⟨h.lay, h.dep⟩
  · exact t.all x hx, Nat.add_le_add h.w t.w⟩
theorem Sans.one (h : San W n d) : Sans W n [d] := .cons h .nil
theorem Sans.app (h : Sans W n xs) (t : Sans V n ys) : Sans (W + V) n (xs ++ ys) := ⟨fun x hx => by
  rcases List.mem_append.mp hx with hx | hx
  · exact h.all x hx
  · exact t.all x hx, by rw [wts_app]; exact Nat.add_le_add h.w t.w⟩
theorem Sans.sub (h : Sans W n xs) (s : ys.Sublist xs) : Sans W n ys := ⟨fun x hx => h.all x (s.subset hx), Nat.le_trans (wts_sub s) h.w⟩
theorem Sans.rev (h : Sans W n xs) : Sans W n xs.reverse := ⟨fun x hx => h.all x (List.mem_reverse.mp hx), by
  have : ∀ ys : List D, wts ys.reverse = wts ys := fun ys => by
    induction ys with
    | nil => rfl
    | cons a r ih => rw [List.reverse_cons, wts_app, ih]; simp only [wts]; omega
  rw [this]; exact h.w⟩
theorem Sans.mem (h : Sans W n xs) (hd : d ∈ xs) : San W n d := ⟨(h.all d hd).1, Nat.le_trans (wt_mem hd) h.w, (h.all d hd).2⟩
theorem Sans.tup (h : Sans W n xs) : San (W + 1) (n + 1) (.tuple xs) := ⟨layAll_iff.mpr fun x hx => (h.all x hx).1, Nat.succ_le_succ h.w, Nat.succ_le_succ (depAll_iff.mpr fun x hx => (h.all x hx).2)⟩
theorem Sans.lst (h : Sans W n xs) : San (W + 1) (n + 1) (.list xs) := ⟨layAll_iff.mpr fun x hx => (h.all x hx).1, Nat.succ_le_succ h.w, Nat.succ_le_succ (depAll_iff.mpr fun x hx => (h.all x hx).2)⟩
theorem San.ofTup (h : San W n (.tuple xs)) : Sans (W - 1) (n - 1) xs := ⟨fun x hx => ⟨layAll_iff.mp h.lay x hx, by have := depAll_iff.mp (Nat.le_refl _) x hx; have h2 : PyData.depthAll xs + 1 ≤ n := h.dep; omega⟩, by have h2 : wts xs + 1 ≤ W := h.w; omega⟩
theorem San.ofLst (h : San W n (.list xs)) : Sans (W - 1) (n - 1) xs := ⟨fun x hx => ⟨layAll_iff.mp h.lay x hx, by have := depAll_iff.mp (Nat.le_refl _) x hx; have h2 : PyData.depthAll xs + 1 ≤ n := h.dep; omega⟩, by have h2 : wts xs + 1 ≤ W := h.w; omega⟩
theorem San.int {i : Int} : San 1 n (.int i) := ⟨rfl, Nat.le_refl _, Nat.zero_le _⟩
theorem San.bool {i : Bool} : San 1 n (.bool i) := ⟨rfl, Nat.le_refl _, Nat.zero_le _⟩
theorem San.none : San 1 n .none := ⟨rfl, Nat.le_refl _, Nat.zero_le _⟩
theorem San.str (h : PyData.strOk x = true) : San (x.length + 1) n (.str x) := ⟨h, Nat.le_refl _, Nat.zero_le _⟩
theorem San.strOk (h : San W n (.str x)) : PyData.strOk x = true := h.lay
theorem shaped_san (h : San W n d) (hn : n ≤ 64) : SeqAt.shaped d = true := by
  unfold SeqAt.shaped
  rw [h.lay, Bool.true_and]
  exact decide_eq_true (Nat.le_trans h.dep hn)
theorem strOk_iff : PyData.strOk x = true ↔ ∀ c ∈ x.cps.toList, c < 1114112 := by
  unfold PyData.strOk
  rw [← Array.all_toList, List.all_eq_true]
  simp
theorem strOk_sub {l : List Nat} (h : PyData.strOk x = true) (s : ∀ c ∈ l, c ∈ x.cps.toList) : PyData.strOk ⟨l.toArray⟩ = true := by
  rw [strOk_iff] at h ⊢
  intro c hc
  exact h c (s c (by simpa using hc))
theorem strOk_cat (h : PyData.strOk x = true) (h2 : PyData.strOk y = true) : PyData.strOk (x ++ y) = true := by
  rw [strOk_iff] at h h2 ⊢
  intro c hc
  have e : (x ++ y).cps.toList = x.cps.toList ++ y.cps.toList := by show (x.cps ++ y.cps).toList = _; simp
  rw [e] at hc
  rcases List.mem_append.mp hc with hc | hc
  · exact h c hc
  · exact h2 c hc
theorem len_cat : (x ++ y).length = x.length + y.length := by show (x.cps ++ y.cps).size = _; rw [Array.size_append]; rfl
theorem San.cat (h : PyData.strOk x = true) (h2 : PyData.strOk y = true) : San (x.length + y.length + 1) n (.str (x ++ y)) := by
  have := San.str (n := n) (strOk_cat h h2)
  rwa [len_cat] at this
theorem cut_sub {α : Type} (xs : List α) (lo hi : Option Int) : (cut xs lo hi).Sublist xs := (List.take_sublist _ _).trans (List.drop_sublist _ _)
theorem San.cutS {lo hi : Option Int} (h : PyData.strOk x = true) : San (x.length + 1) n (.str ⟨(cut x.cps.toList lo hi).toArray⟩) := by
  have s := cut_sub x.cps.toList lo hi
  refine (San.str (strOk_sub h fun c hc => s.subset hc)).mono ?_ (Nat.le_refl _)
  have h1 := s.length_le
  have h3 : x.cps.toList.length = x.length := Array.length_toList
  show (cut x.cps.toList lo hi).length + 1 ≤ _
  omega
theorem San.revS (h : PyData.strOk x = true) : San (x.length + 1) n (.str ⟨x.cps.toList.reverse.toArray⟩) := by
  refine (San.str (strOk_sub h fun c hc => List.mem_reverse.mp hc)).mono ?_ (Nat.le_refl _)
  simp [Str.length]
theorem San.num {i : Int} (h : i.natAbs < 2 ^ 64) : San 1922 n (.str (toString i)) := by
  have hl : i.natAbs.log2 < 1920 := by
    by_cases h0 : i.natAbs = 0
    · rw [h0]; decide
    · have := (Nat.log2_lt h0).mpr h; omega
  refine (San.str ?_).mono (Nat.succ_le_succ (int_text_len_1921 hl)) (Nat.le_refl _)
  rw [strOk_iff]
  intro c hc
  by_cases k : c ≠ 45 ∧ (c < 48 ∨ 57 < c)
  · exact absurd hc (int_text_free' c k i)
  · omega
/-! operations that do not fail here -/
theorem okl {k : Nat} (h : k ≤ 1048576) : okLen k = true := decide_eq_true (by omega)
theorem sl_str {lo hi : Option Int} (h : x.length ≤ 1048576) : slD (.str x) lo hi = some (.str ⟨(cut x.cps.toList lo hi).toArray⟩) := if_pos (okl h)
theorem add_str (h : x.length + y.length ≤ 1048576) : addD (.str x) (.str y) = some (.str (x ++ y)) := if_pos (okl h)
theorem add_tup (h : xs.length + ys.length ≤ 1048576) : addD (.tuple xs) (.tuple ys) = some (.tuple (xs ++ ys)) := if_pos (okl h)
theorem add_lst (h : xs.length + ys.length ≤ 1048576) : addD (.list xs) (.list ys) = some (.list (xs ++ ys)) := if_pos (okl h)
theorem rev_str (h : x.length ≤ 1048576) : revD (.str x) = some (.str ⟨x.cps.toList.reverse.toArray⟩) := if_pos (okl h)
theorem len_str (h : x.length ≤ 1048576) : lenD [.str x] = some (.int x.length) := if_pos (okl h)
theorem ix_nat {k : Nat} (h : k < xs.length) : atI xs (k : Int) = some xs[k] := atI_nat (some_get h)
theorem wts_get {k : Nat} (h : k < xs.length) : wts (xs.take k) + wt xs[k] + wts (xs.drop (k + 1)) = wts xs := by
  have e : xs = xs.take k ++ (xs[k] :: xs.drop (k + 1)) := by
    have h1 := (List.take_append_drop k xs).symm
    rw [List.drop_eq_getElem_cons h] at h1
    exact h1
  have h2 : wts xs = wts (xs.take k ++ (xs[k] :: xs.drop (k + 1))) := congrArg wts e
  rw [h2, wts_app]
  simp only [wts]
  omega
theorem cut_to {α : Type} {xs : List α} {k : Nat} (h : k ≤ xs.length) : cut xs none (some (k : Int)) = xs.take k := by
  unfold cut
  rw [HT.sIx_none, HT.sIx_nat, Nat.sub_zero, List.drop_zero, Nat.min_eq_left h]
theorem cut_from {α : Type} {xs : List α} {k : Nat} (h : k ≤ xs.length) : cut xs (some (k : Int)) none = xs.drop k := by
  unfold cut
  rw [HT.sIx_none, HT.sIx_nat, Nat.min_eq_left h, List.take_of_length_le (by rw [List.length_drop]; exact Nat.le_refl _)]
end

/-! ### the shared defs -/
section
variable {W n : Nat} {d : D} {xs ys : List D} {s : LS}
theorem next_wp {l : Int} {P : D → LS → Prop} (hl : 0 < l) (hl2 : l ≤ 1048577) (ok : LSok s) (h : ∀ (k : Nat) s', LSok s' → (k : Int) < l → P (.int k) s') : WP (f_law_next [.int l]) s P :=
  wp_tr (tr_next l hl (by omega)) ok fun a s' ok' ⟨k, e, hk⟩ => by subst e; exact h k s' ok' hk
theorem next_wpN {l : Nat} {P : D → LS → Prop} (hl : 0 < l) (hl2 : l ≤ 1048577) (ok : LSok s) (h : ∀ (k : Nat) s', LSok s' → k < l → P (.int k) s') : WP (f_law_next [.int l]) s P :=
  next_wp (by omega) (by omega) ok fun k s' ok' hk => h k s' ok' (by omega)
theorem same_bool (a b : Bool) : f_law_same 12 [.bool a, .bool b] = pure (.bool (a == b)) := by cases a <;> cases b <;> rfl
theorem ix_all {P : D → Prop} {j : Nat} (h : ∀ x ∈ xs, P x) (hj : j < xs.length) : ∃ z, ixD (.list xs) (.int (j : Nat)) = some z ∧ P z := ⟨xs[j], ix_nat hj, h _ (List.getElem_mem hj)⟩
theorem eq_empty (h : San W n (.tuple xs)) (hn : n ≤ 64) : eqD (.tuple xs) (.tuple []) = some (.bool xs.isEmpty) := by
  have e : eqD (.tuple xs) (.tuple []) = some (.bool (PyData.eqv (.tuple xs) (.tuple []))) := if_pos (by unfold okEq; rw [shaped_san h hn]; rfl)
  rw [e]
  cases xs <;> rfl
theorem ne_empty (h : San W n (.tuple xs)) (hn : n ≤ 64) : neD (.tuple xs) (.tuple []) = some (.bool (!xs.isEmpty)) := by
  have e : neD (.tuple xs) (.tuple []) = some (.bool (!PyData.eqv (.tuple xs) (.tuple []))) := if_pos (by unfold okEq; rw [shaped_san h hn]; rfl)
  rw [e]
  cases xs <;> rfl
theorem str_num {i : Int} (h : i.natAbs < 2 ^ 64) : strD [.int i] = some (.str (toString i)) := if_pos (decide_eq_true (by
  by_cases h0 : i.natAbs = 0
  · rw [h0]; decide
  · have := (Nat.log2_lt h0).mpr h; omega))
/-- _law_changed -/
theorem tr_changed : ∀ (N : Nat) {k : Nat} {d : D}, plainB d = true → San 10000 k d → k < N → k ≤ 20 → Tr (f_law_changed N [d]) fun r => San (5 * wt d + 2000) (k + 2) r := by
  intro N
  induction N with
  | zero => intro k d _ _ hk; omega
  | succ N ih =>
    intro k d hp hs hk hk2 s ok
    have hw := hs.w
    unfold f_law_changed
    apply wp_runS
    unfold b_law_changed
    cases d with
    | bool b =>
      (repeat (first | with_reducible (first | apply wp_seq | apply wp_sIf | apply wp_next | apply wp_ret | apply wp_set | apply wp_own | apply wp_par | apply wp_par3 | apply wp_asg | apply wp_for | apply wp_tVal | apply wp_tTru | apply wp_tAnd | apply wp_tOr | apply wp_tNot | apply wp_e2 | apply wp_e1 | apply wp_eC | apply wp_call | apply wp_cons | apply wp_nil | apply wp_mt | apply wp_sl | apply wp_pNo | apply wp_pAt | apply wp_rev | apply wp_eIf | apply wp_eAnd | apply wp_eOr | apply wp_eNot | apply wp_chain | apply wp_isi | apply wp_isi2 | apply wp_fn | apply wp_iOf | apply wp_iRng | apply wp_lc | apply wp_tup | apply wp_lst | apply wp_frz | apply ko_nx | apply ko_rt | apply kr_rt | apply kr_nx | apply ex_bool | apply ex_int) | ((with_reducible apply wp_eV); rfl) | ((with_reducible apply wp_eOv); rfl) | ((with_reducible apply wp_eOo); rfl) | ((with_reducible apply wp_st); rfl; decide) | ((with_reducible apply wp_stSet); rfl) | ((with_reducible apply wp_fnS); rfl) | ((with_reducible apply ex_some); rfl) | ((with_reducible apply ex_sb); rfl) | ((with_reducible apply br_t); rfl) | ((with_reducible apply br_f); rfl) | ((with_reducible apply ex_some (mulB ?hh)); case hh => decide +kernel) | ((with_reducible apply ex_some (mulA ?hh)); case hh => decide +kernel) | ((with_reducible apply ex_some (rngL ?hh)); case hh => decide +kernel) | (refine ⟨rfl, ?_⟩)))
      refine next_wp (by decide) (by decide) ok fun j s' ok' hj => ?_
      obtain ⟨z, e, hz⟩ := ix_all (P := fun z => San 1 (k + 2) z) (xs := [.bool !b, .int (if b then 1 else 0)]) (j := j) (by
        intro x hx
        simp only [List.mem_cons, List.not_mem_nil, or_false] at hx
        rcases hx with rfl | rfl
        · exact .bool
        · exact .int) (by simp; omega)
      refine ex_some e ?_
      (repeat (first | with_reducible (first | apply wp_seq | apply wp_sIf | apply wp_next | apply wp_ret | apply wp_set | apply wp_own | apply wp_par | apply wp_par3 | apply wp_asg | apply wp_for | apply wp_tVal | apply wp_tTru | apply wp_tAnd | apply wp_tOr | apply wp_tNot | apply wp_e2 | apply wp_e1 | apply wp_eC | apply wp_call | apply wp_cons | apply wp_nil | apply wp_mt | apply wp_sl | apply wp_pNo | apply wp_pAt | apply wp_rev | apply wp_eIf | apply wp_eAnd | apply wp_eOr | apply wp_eNot | apply wp_chain | apply wp_isi | apply wp_isi2 | apply wp_fn | apply wp_iOf | apply wp_iRng | apply wp_lc | apply wp_tup | apply wp_lst | apply wp_frz | apply ko_nx | apply ko_rt | apply kr_rt | apply kr_nx | apply ex_bool | apply ex_int) | ((with_reducible apply wp_eV); rfl) | ((with_reducible apply wp_eOv); rfl) | ((with_reducible apply wp_eOo); rfl) | ((with_reducible apply wp_st); rfl; decide) | ((with_reducible apply wp_stSet); rfl) | ((with_reducible apply wp_fnS); rfl) | ((with_reducible apply ex_some); rfl) | ((with_reducible apply ex_sb); rfl) | ((with_reducible apply br_t); rfl) | ((with_reducible apply br_f); rfl) | ((with_reducible apply ex_some (mulB ?hh)); case hh => decide +kernel) | ((with_reducible apply ex_some (mulA ?hh)); case hh => decide +kernel) | ((with_reducible apply ex_some (rngL ?hh)); case hh => decide +kernel) | (refine ⟨rfl, ?_⟩)))
      exact ⟨ok', hz.mono (by omega) (Nat.le_refl _)⟩
    | int i =>
      have hi : i.natAbs < 2 ^ 64 := of_decide_eq_true hp
      have fin : ∀ (a b c d : Int) (u v w : D) (j : Nat) (s' : LS), San 2000 (k + 2) u → San 2000 (k + 2) v → San 2000 (k + 2) w → LSok s' → j < 7 → ∃ z, ixD (.list [.int a, .int b, .int c, u, v, w, .int d]) (.int (j : Nat)) = some z ∧ (LSok s' ∧ San (5 * wt (.int i) + 2000) (k + 2) z) := fun a b c d u v w j s' h1 h2 h3 ok' hj => by
        obtain ⟨z, e, hz⟩ := ix_all (P := fun z => San 2000 (k + 2) z) (xs := [.int a, .int b, .int c, u, v, w, .int d]) (j := j) (by
          intro x hx
          simp only [List.mem_cons, List.not_mem_nil, or_false] at hx
          rcases hx with rfl | rfl | rfl | rfl | rfl | rfl | rfl
          · exact San.int.mono (by omega) (Nat.le_refl _)
          · exact San.int.mono (by omega) (Nat.le_refl _)
          · exact San.int.mono (by omega) (Nat.le_refl _)
          · exact h1
          · exact h2
          · exact h3
          · exact San.int.mono (by omega) (Nat.le_refl _)) hj
        exact ⟨z, e, ok', hz.mono (by omega) (Nat.le_refl _)⟩
      have h2 : ∀ b, San 2000 (k + 2) (.bool b) := fun b => San.bool.mono (by omega) (Nat.le_refl _)
      have h3 : San 2000 (k + 2) (.str (toString i)) := (San.num hi).mono (by omega) (Nat.le_refl _)
      have h1 : San 2000 (k + 2) .none := San.none.mono (by omega) (Nat.le_refl _)
      by_cases h0 : i = 0
      · subst h0
        (repeat (first | with_reducible (first | apply wp_seq | apply wp_sIf | apply wp_next | apply wp_ret | apply wp_set | apply wp_own | apply wp_par | apply wp_par3 | apply wp_asg | apply wp_for | apply wp_tVal | apply wp_tTru | apply wp_tAnd | apply wp_tOr | apply wp_tNot | apply wp_e2 | apply wp_e1 | apply wp_eC | apply wp_call | apply wp_cons | apply wp_nil | apply wp_mt | apply wp_sl | apply wp_pNo | apply wp_pAt | apply wp_rev | apply wp_eIf | apply wp_eAnd | apply wp_eOr | apply wp_eNot | apply wp_chain | apply wp_isi | apply wp_isi2 | apply wp_fn | apply wp_iOf | apply wp_iRng | apply wp_lc | apply wp_tup | apply wp_lst | apply wp_frz | apply ko_nx | apply ko_rt | apply kr_rt | apply kr_nx | apply ex_bool | apply ex_int) | ((with_reducible apply wp_eV); rfl) | ((with_reducible apply wp_eOv); rfl) | ((with_reducible apply wp_eOo); rfl) | ((with_reducible apply wp_st); rfl; decide) | ((with_reducible apply wp_stSet); rfl) | ((with_reducible apply wp_fnS); rfl) | ((with_reducible apply ex_some); rfl) | ((with_reducible apply ex_sb); rfl) | ((with_reducible apply br_t); rfl) | ((with_reducible apply br_f); rfl) | ((with_reducible apply ex_some (mulB ?hh)); case hh => decide +kernel) | ((with_reducible apply ex_some (mulA ?hh)); case hh => decide +kernel) | ((with_reducible apply ex_some (rngL ?hh)); case hh => decide +kernel) | (refine ⟨rfl, ?_⟩)))
        refine next_wp (by decide) (by decide) ok fun j s' ok' hj => ?_
        exact fin _ _ _ _ _ _ _ j s' h1 (h2 _) h3 ok' (by omega)
      · have hb : (i != 0) = true := by simpa using h0
        (repeat (first | with_reducible (first | apply wp_seq | apply wp_sIf | apply wp_next | apply wp_ret | apply wp_set | apply wp_own | apply wp_par | apply wp_par3 | apply wp_asg | apply wp_for | apply wp_tVal | apply wp_tTru | apply wp_tAnd | apply wp_tOr | apply wp_tNot | apply wp_e2 | apply wp_e1 | apply wp_eC | apply wp_call | apply wp_cons | apply wp_nil | apply wp_mt | apply wp_sl | apply wp_pNo | apply wp_pAt | apply wp_rev | apply wp_eIf | apply wp_eAnd | apply wp_eOr | apply wp_eNot | apply wp_chain | apply wp_isi | apply wp_isi2 | apply wp_fn | apply wp_iOf | apply wp_iRng | apply wp_lc | apply wp_tup | apply wp_lst | apply wp_frz | apply ko_nx | apply ko_rt | apply kr_rt | apply kr_nx | apply ex_bool | apply ex_int) | ((with_reducible apply wp_eV); rfl) | ((with_reducible apply wp_eOv); rfl) | ((with_reducible apply wp_eOo); rfl) | ((with_reducible apply wp_st); rfl; decide) | ((with_reducible apply wp_stSet); rfl) | ((with_reducible apply wp_fnS); rfl) | ((with_reducible apply ex_some); rfl) | ((with_reducible apply ex_sb); rfl) | ((with_reducible apply br_t); rfl) | ((with_reducible apply br_f); rfl) | ((with_reducible apply ex_some (mulB ?hh)); case hh => decide +kernel) | ((with_reducible apply ex_some (mulA ?hh)); case hh => decide +kernel) | ((with_reducible apply ex_some (rngL ?hh)); case hh => decide +kernel) | (refine ⟨rfl, ?_⟩)))
        refine br_t hb ?_
        (repeat (first | with_reducible (first | apply wp_seq | apply wp_sIf | apply wp_next | apply wp_ret | apply wp_set | apply wp_own | apply wp_par | apply wp_par3 | apply wp_asg | apply wp_for | apply wp_tVal | apply wp_tTru | apply wp_tAnd | apply wp_tOr | apply wp_tNot | apply wp_e2 | apply wp_e1 | apply wp_eC | apply wp_call | apply wp_cons | apply wp_nil | apply wp_mt | apply wp_sl | apply wp_pNo | apply wp_pAt | apply wp_rev | apply wp_eIf | apply wp_eAnd | apply wp_eOr | apply wp_eNot | apply wp_chain | apply wp_isi | apply wp_isi2 | apply wp_fn | apply wp_iOf | apply wp_iRng | apply wp_lc | apply wp_tup | apply wp_lst | apply wp_frz | apply ko_nx | apply ko_rt | apply kr_rt | apply kr_nx | apply ex_bool | apply ex_int) | ((with_reducible apply wp_eV); rfl) | ((with_reducible apply wp_eOv); rfl) | ((with_reducible apply wp_eOo); rfl) | ((with_reducible apply wp_st); rfl; decide) | ((with_reducible apply wp_stSet); rfl) | ((with_reducible apply wp_fnS); rfl) | ((with_reducible apply ex_some); rfl) | ((with_reducible apply ex_sb); rfl) | ((with_reducible apply br_t); rfl) | ((with_reducible apply br_f); rfl) | ((with_reducible apply ex_some (mulB ?hh)); case hh => decide +kernel) | ((with_reducible apply ex_some (mulA ?hh)); case hh => decide +kernel) | ((with_reducible apply ex_some (rngL ?hh)); case hh => decide +kernel) | (refine ⟨rfl, ?_⟩)))
        refine br_t hb ?_
        (repeat (first | with_reducible (first | apply wp_seq | apply wp_sIf | apply wp_next | apply wp_ret | apply wp_set | apply wp_own | apply wp_par | apply wp_par3 | apply wp_asg | apply wp_for | apply wp_tVal | apply wp_tTru | apply wp_tAnd | apply wp_tOr | apply wp_tNot | apply wp_e2 | apply wp_e1 | apply wp_eC | apply wp_call | apply wp_cons | apply wp_nil | apply wp_mt | apply wp_sl | apply wp_pNo | apply wp_pAt | apply wp_rev | apply wp_eIf | apply wp_eAnd | apply wp_eOr | apply wp_eNot | apply wp_chain | apply wp_isi | apply wp_isi2 | apply wp_fn | apply wp_iOf | apply wp_iRng | apply wp_lc | apply wp_tup | apply wp_lst | apply wp_frz | apply ko_nx | apply ko_rt | apply kr_rt | apply kr_nx | apply ex_bool | apply ex_int) | ((with_reducible apply wp_eV); rfl) | ((with_reducible apply wp_eOv); rfl) | ((with_reducible apply wp_eOo); rfl) | ((with_reducible apply wp_st); rfl; decide) | ((with_reducible apply wp_stSet); rfl) | ((with_reducible apply wp_fnS); rfl) | ((with_reducible apply ex_some); rfl) | ((with_reducible apply ex_sb); rfl) | ((with_reducible apply br_t); rfl) | ((with_reducible apply br_f); rfl) | ((with_reducible apply ex_some (mulB ?hh)); case hh => decide +kernel) | ((with_reducible apply ex_some (mulA ?hh)); case hh => decide +kernel) | ((with_reducible apply ex_some (rngL ?hh)); case hh => decide +kernel) | (refine ⟨rfl, ?_⟩)))
        refine ex_some (str_num hi) ?_
        (repeat (first | with_reducible (first | apply wp_seq | apply wp_sIf | apply wp_next | apply wp_ret | apply wp_set | apply wp_own | apply wp_par | apply wp_par3 | apply wp_asg | apply wp_for | apply wp_tVal | apply wp_tTru | apply wp_tAnd | apply wp_tOr | apply wp_tNot | apply wp_e2 | apply wp_e1 | apply wp_eC | apply wp_call | apply wp_cons | apply wp_nil | apply wp_mt | apply wp_sl | apply wp_pNo | apply wp_pAt | apply wp_rev | apply wp_eIf | apply wp_eAnd | apply wp_eOr | apply wp_eNot | apply wp_chain | apply wp_isi | apply wp_isi2 | apply wp_fn | apply wp_iOf | apply wp_iRng | apply wp_lc | apply wp_tup | apply wp_lst | apply wp_frz | apply ko_nx | apply ko_rt | apply kr_rt | apply kr_nx | apply ex_bool | apply ex_int) | ((with_reducible apply wp_eV); rfl) | ((with_reducible apply wp_eOv); rfl) | ((with_reducible apply wp_eOo); rfl) | ((with_reducible apply wp_st); rfl; decide) | ((with_reducible apply wp_stSet); rfl) | ((with_reducible apply wp_fnS); rfl) | ((with_reducible apply ex_some); rfl) | ((with_reducible apply ex_sb); rfl) | ((with_reducible apply br_t); rfl) | ((with_reducible apply br_f); rfl) | ((with_reducible apply ex_some (mulB ?hh)); case hh => decide +kernel) | ((with_reducible apply ex_some (mulA ?hh)); case hh => decide +kernel) | ((with_reducible apply ex_some (rngL ?hh)); case hh => decide +kernel) | (refine ⟨rfl, ?_⟩)))
        refine br_t hb ?_
        (repeat (first | with_reducible (first | apply wp_seq | apply wp_sIf | apply wp_next | apply wp_ret | apply wp_set | apply wp_own | apply wp_par | apply wp_par3 | apply wp_asg | apply wp_for | apply wp_tVal | apply wp_tTru | apply wp_tAnd | apply wp_tOr | apply wp_tNot | apply wp_e2 | apply wp_e1 | apply wp_eC | apply wp_call | apply wp_cons | apply wp_nil | apply wp_mt | apply wp_sl | apply wp_pNo | apply wp_pAt | apply wp_rev | apply wp_eIf | apply wp_eAnd | apply wp_eOr | apply wp_eNot | apply wp_chain | apply wp_isi | apply wp_isi2 | apply wp_fn | apply wp_iOf | apply wp_iRng | apply wp_lc | apply wp_tup | apply wp_lst | apply wp_frz | apply ko_nx | apply ko_rt | apply kr_rt | apply kr_nx | apply ex_bool | apply ex_int) | ((with_reducible apply wp_eV); rfl) | ((with_reducible apply wp_eOv); rfl) | ((with_reducible apply wp_eOo); rfl) | ((with_reducible apply wp_st); rfl; decide) | ((with_reducible apply wp_stSet); rfl) | ((with_reducible apply wp_fnS); rfl) | ((with_reducible apply ex_some); rfl) | ((with_reducible apply ex_sb); rfl) | ((with_reducible apply br_t); rfl) | ((with_reducible apply br_f); rfl) | ((with_reducible apply ex_some (mulB ?hh)); case hh => decide +kernel) | ((with_reducible apply ex_some (mulA ?hh)); case hh => decide +kernel) | ((with_reducible apply ex_some (rngL ?hh)); case hh => decide +kernel) | (refine ⟨rfl, ?_⟩)))
        refine next_wp (by decide) (by decide) ok fun j s' ok' hj => ?_
        exact fin _ _ _ _ _ _ _ j s' h1 (h2 _) h3 ok' (by omega)
    | str z =>
      have hz : z.length ≤ 9999 := by have : z.length + 1 ≤ 10000 := hw; omega
      have so := hs.strOk
      (repeat (first | with_reducible (first | apply wp_seq | apply wp_sIf | apply wp_next | apply wp_ret | apply wp_set | apply wp_own | apply wp_par | apply wp_par3 | apply wp_asg | apply wp_for | apply wp_tVal | apply wp_tTru | apply wp_tAnd | apply wp_tOr | apply wp_tNot | apply wp_e2 | apply wp_e1 | apply wp_eC | apply wp_call | apply wp_cons | apply wp_nil | apply wp_mt | apply wp_sl | apply wp_pNo | apply wp_pAt | apply wp_rev | apply wp_eIf | apply wp_eAnd | apply wp_eOr | apply wp_eNot | apply wp_chain | apply wp_isi | apply wp_isi2 | apply wp_fn | apply wp_iOf | apply wp_iRng | apply wp_lc | apply wp_tup | apply wp_lst | apply wp_frz | apply ko_nx | apply ko_rt | apply kr_rt | apply kr_nx | apply ex_bool | apply ex_int) | ((with_reducible apply wp_eV); rfl) | ((with_reducible apply wp_eOv); rfl) | ((with_reducible apply wp_eOo); rfl) | ((with_reducible apply wp_st); rfl; decide) | ((with_reducible apply wp_stSet); rfl) | ((with_reducible apply wp_fnS); rfl) | ((with_reducible apply ex_some); rfl) | ((with_reducible apply ex_sb); rfl) | ((with_reducible apply br_t); rfl) | ((with_reducible apply br_f); rfl) | ((with_reducible apply ex_some (mulB ?hh)); case hh => decide +kernel) | ((with_reducible apply ex_some (mulA ?hh)); case hh => decide +kernel) | ((with_reducible apply ex_some (rngL ?hh)); case hh => decide +kernel) | (refine ⟨rfl, ?_⟩)))
      refine ex_some (sl_str (by omega)) ?_
      (repeat (first | with_reducible (first | apply wp_seq | apply wp_sIf | apply wp_next | apply wp_ret | apply wp_set | apply wp_own | apply wp_par | apply wp_par3 | apply wp_asg | apply wp_for | apply wp_tVal | apply wp_tTru | apply wp_tAnd | apply wp_tOr | apply wp_tNot | apply wp_e2 | apply wp_e1 | apply wp_eC | apply wp_call | apply wp_cons | apply wp_nil | apply wp_mt | apply wp_sl | apply wp_pNo | apply wp_pAt | apply wp_rev | apply wp_eIf | apply wp_eAnd | apply wp_eOr | apply wp_eNot | apply wp_chain | apply wp_isi | apply wp_isi2 | apply wp_fn | apply wp_iOf | apply wp_iRng | apply wp_lc | apply wp_tup | apply wp_lst | apply wp_frz | apply ko_nx | apply ko_rt | apply kr_rt | apply kr_nx | apply ex_bool | apply ex_int) | ((with_reducible apply wp_eV); rfl) | ((with_reducible apply wp_eOv); rfl) | ((with_reducible apply wp_eOo); rfl) | ((with_reducible apply wp_st); rfl; decide) | ((with_reducible apply wp_stSet); rfl) | ((with_reducible apply wp_fnS); rfl) | ((with_reducible apply ex_some); rfl) | ((with_reducible apply ex_sb); rfl) | ((with_reducible apply br_t); rfl) | ((with_reducible apply br_f); rfl) | ((with_reducible apply ex_some (mulB ?hh)); case hh => decide +kernel) | ((with_reducible apply ex_some (mulA ?hh)); case hh => decide +kernel) | ((with_reducible apply ex_some (rngL ?hh)); case hh => decide +kernel) | (refine ⟨rfl, ?_⟩)))
      refine ex_some (add_str (by show z.length + 1 ≤ _; omega)) ?_
      (repeat (first | with_reducible (first | apply wp_seq | apply wp_sIf | apply wp_next | apply wp_ret | apply wp_set | apply wp_own | apply wp_par | apply wp_par3 | apply wp_asg | apply wp_for | apply wp_tVal | apply wp_tTru | apply wp_tAnd | apply wp_tOr | apply wp_tNot | apply wp_e2 | apply wp_e1 | apply wp_eC | apply wp_call | apply wp_cons | apply wp_nil | apply wp_mt | apply wp_sl | apply wp_pNo | apply wp_pAt | apply wp_rev | apply wp_eIf | apply wp_eAnd | apply wp_eOr | apply wp_eNot | apply wp_chain | apply wp_isi | apply wp_isi2 | apply wp_fn | apply wp_iOf | apply wp_iRng | apply wp_lc | apply wp_tup | apply wp_lst | apply wp_frz | apply ko_nx | apply ko_rt | apply kr_rt | apply kr_nx | apply ex_bool | apply ex_int) | ((with_reducible apply wp_eV); rfl) | ((with_reducible apply wp_eOv); rfl) | ((with_reducible apply wp_eOo); rfl) | ((with_reducible apply wp_st); rfl; decide) | ((with_reducible apply wp_stSet); rfl) | ((with_reducible apply wp_fnS); rfl) | ((with_reducible apply ex_some); rfl) | ((with_reducible apply ex_sb); rfl) | ((with_reducible apply br_t); rfl) | ((with_reducible apply br_f); rfl) | ((with_reducible apply ex_some (mulB ?hh)); case hh => decide +kernel) | ((with_reducible apply ex_some (mulA ?hh)); case hh => decide +kernel) | ((with_reducible apply ex_some (rngL ?hh)); case hh => decide +kernel) | (refine ⟨rfl, ?_⟩)))
      refine ex_some (rev_str (by omega)) ?_
      (repeat (first | with_reducible (first | apply wp_seq | apply wp_sIf | apply wp_next | apply wp_ret | apply wp_set | apply wp_own | apply wp_par | apply wp_par3 | apply wp_asg | apply wp_for | apply wp_tVal | apply wp_tTru | apply wp_tAnd | apply wp_tOr | apply wp_tNot | apply wp_e2 | apply wp_e1 | apply wp_eC | apply wp_call | apply wp_cons | apply wp_nil | apply wp_mt | apply wp_sl | apply wp_pNo | apply wp_pAt | apply wp_rev | apply wp_eIf | apply wp_eAnd | apply wp_eOr | apply wp_eNot | apply wp_chain | apply wp_isi | apply wp_isi2 | apply wp_fn | apply wp_iOf | apply wp_iRng | apply wp_lc | apply wp_tup | apply wp_lst | apply wp_frz | apply ko_nx | apply ko_rt | apply kr_rt | apply kr_nx | apply ex_bool | apply ex_int) | ((with_reducible apply wp_eV); rfl) | ((with_reducible apply wp_eOv); rfl) | ((with_reducible apply wp_eOo); rfl) | ((with_reducible apply wp_st); rfl; decide) | ((with_reducible apply wp_stSet); rfl) | ((with_reducible apply wp_fnS); rfl) | ((with_reducible apply ex_some); rfl) | ((with_reducible apply ex_sb); rfl) | ((with_reducible apply br_t); rfl) | ((with_reducible apply br_f); rfl) | ((with_reducible apply ex_some (mulB ?hh)); case hh => decide +kernel) | ((with_reducible apply ex_some (mulA ?hh)); case hh => decide +kernel) | ((with_reducible apply ex_some (rngL ?hh)); case hh => decide +kernel) | (refine ⟨rfl, ?_⟩)))
      refine ex_some (add_str (by show 1 + z.length ≤ _; omega)) ?_
      (repeat (first | with_reducible (first | apply wp_seq | apply wp_sIf | apply wp_next | apply wp_ret | apply wp_set | apply wp_own | apply wp_par | apply wp_par3 | apply wp_asg | apply wp_for | apply wp_tVal | apply wp_tTru | apply wp_tAnd | apply wp_tOr | apply wp_tNot | apply wp_e2 | apply wp_e1 | apply wp_eC | apply wp_call | apply wp_cons | apply wp_nil | apply wp_mt | apply wp_sl | apply wp_pNo | apply wp_pAt | apply wp_rev | apply wp_eIf | apply wp_eAnd | apply wp_eOr | apply wp_eNot | apply wp_chain | apply wp_isi | apply wp_isi2 | apply wp_fn | apply wp_iOf | apply wp_iRng | apply wp_lc | apply wp_tup | apply wp_lst | apply wp_frz | apply ko_nx | apply ko_rt | apply kr_rt | apply kr_nx | apply ex_bool | apply ex_int) | ((with_reducible apply wp_eV); rfl) | ((with_reducible apply wp_eOv); rfl) | ((with_reducible apply wp_eOo); rfl) | ((with_reducible apply wp_st); rfl; decide) | ((with_reducible apply wp_stSet); rfl) | ((with_reducible apply wp_fnS); rfl) | ((with_reducible apply ex_some); rfl) | ((with_reducible apply ex_sb); rfl) | ((with_reducible apply br_t); rfl) | ((with_reducible apply br_f); rfl) | ((with_reducible apply ex_some (mulB ?hh)); case hh => decide +kernel) | ((with_reducible apply ex_some (mulA ?hh)); case hh => decide +kernel) | ((with_reducible apply ex_some (rngL ?hh)); case hh => decide +kernel) | (refine ⟨rfl, ?_⟩)))
      refine ex_some (sl_str (by omega)) ?_
      (repeat (first | with_reducible (first | apply wp_seq | apply wp_sIf | apply wp_next | apply wp_ret | apply wp_set | apply wp_own | apply wp_par | apply wp_par3 | apply wp_asg | apply wp_for | apply wp_tVal | apply wp_tTru | apply wp_tAnd | apply wp_tOr | apply wp_tNot | apply wp_e2 | apply wp_e1 | apply wp_eC | apply wp_call | apply wp_cons | apply wp_nil | apply wp_mt | apply wp_sl | apply wp_pNo | apply wp_pAt | apply wp_rev | apply wp_eIf | apply wp_eAnd | apply wp_eOr | apply wp_eNot | apply wp_chain | apply wp_isi | apply wp_isi2 | apply wp_fn | apply wp_iOf | apply wp_iRng | apply wp_lc | apply wp_tup | apply wp_lst | apply wp_frz | apply ko_nx | apply ko_rt | apply kr_rt | apply kr_nx | apply ex_bool | apply ex_int) | ((with_reducible apply wp_eV); rfl) | ((with_reducible apply wp_eOv); rfl) | ((with_reducible apply wp_eOo); rfl) | ((with_reducible apply wp_st); rfl; decide) | ((with_reducible apply wp_stSet); rfl) | ((with_reducible apply wp_fnS); rfl) | ((with_reducible apply ex_some); rfl) | ((with_reducible apply ex_sb); rfl) | ((with_reducible apply br_t); rfl) | ((with_reducible apply br_f); rfl) | ((with_reducible apply ex_some (mulB ?hh)); case hh => decide +kernel) | ((with_reducible apply ex_some (mulA ?hh)); case hh => decide +kernel) | ((with_reducible apply ex_some (rngL ?hh)); case hh => decide +kernel) | (refine ⟨rfl, ?_⟩)))
      refine next_wpN (by simp) (by simp) ok fun j s' ok' hj => ?_
      refine (ix_all (P := fun z => San _ (k + 2) z) ?_ hj).imp fun _ h => ⟨h.1, ok', h.2⟩
      have e : wt (.str z) = z.length + 1 := rfl
      intro x hx
      simp only [List.mem_cons, List.not_mem_nil, or_false] at hx
      rcases hx with rfl | rfl | rfl | rfl | rfl | rfl | rfl | rfl | rfl
      · exact (San.cutS so).mono (by omega) (Nat.le_refl _)
      · exact (San.cat (y := "a") so (by decide +kernel)).mono (by show z.length + 1 + 1 ≤ _; omega) (Nat.le_refl _)
      · exact (San.revS so).mono (by omega) (Nat.le_refl _)
      · exact (San.cat (x := "b") (by decide +kernel) so).mono (by show 1 + z.length + 1 ≤ _; omega) (Nat.le_refl _)
      · exact (San.str (x := "") (by decide +kernel)).mono (by show 1 ≤ _; omega) (Nat.le_refl _)
      · exact (San.cutS so).mono (by omega) (Nat.le_refl _)
      · exact (San.str (x := "left") (by decide +kernel)).mono (by show 5 ≤ _; omega) (Nat.le_refl _)
      · exact San.int.mono (by omega) (Nat.le_refl _)
      · exact (San.str (x := "in") (by decide +kernel)).mono (by show 3 ≤ _; omega) (Nat.le_refl _)
    | tuple xs =>
      have ss := hs.ofTup
      have e : wt (.tuple xs) = wts xs + 1 := rfl
      have hl := wts_len (xs := xs)
      rw [e] at hw
      apply wp_seq
      (repeat (first | with_reducible (first | apply wp_sIf | apply wp_next | apply wp_ret | apply wp_set | apply wp_own | apply wp_par | apply wp_par3 | apply wp_asg | apply wp_for | apply wp_tVal | apply wp_tTru | apply wp_tAnd | apply wp_tOr | apply wp_tNot | apply wp_e2 | apply wp_e1 | apply wp_eC | apply wp_call | apply wp_cons | apply wp_nil | apply wp_mt | apply wp_sl | apply wp_pNo | apply wp_pAt | apply wp_rev | apply wp_eIf | apply wp_eAnd | apply wp_eOr | apply wp_eNot | apply wp_chain | apply wp_isi | apply wp_isi2 | apply wp_fn | apply wp_iOf | apply wp_iRng | apply wp_lc | apply wp_tup | apply wp_lst | apply wp_frz | apply ko_rt | apply kr_rt | apply kr_nx | apply ex_bool | apply ex_int) | ((with_reducible apply wp_eV); rfl) | ((with_reducible apply wp_eOv); rfl) | ((with_reducible apply wp_eOo); rfl) | ((with_reducible apply wp_st); rfl; decide) | ((with_reducible apply wp_stSet); rfl) | ((with_reducible apply wp_fnS); rfl) | ((with_reducible apply ex_some); rfl) | ((with_reducible apply ex_sb); rfl) | ((with_reducible apply br_t); rfl) | ((with_reducible apply br_f); rfl) | ((with_reducible apply ex_some (mulB ?hh)); case hh => decide +kernel) | ((with_reducible apply ex_some (mulA ?hh)); case hh => decide +kernel) | ((with_reducible apply ex_some (rngL ?hh)); case hh => decide +kernel) | (refine ⟨rfl, ?_⟩)))
      apply ko_nx
      apply wp_seq
      (repeat (first | with_reducible (first | apply wp_sIf | apply wp_next | apply wp_ret | apply wp_set | apply wp_own | apply wp_par | apply wp_par3 | apply wp_asg | apply wp_for | apply wp_tVal | apply wp_tTru | apply wp_tAnd | apply wp_tOr | apply wp_tNot | apply wp_e2 | apply wp_e1 | apply wp_eC | apply wp_call | apply wp_cons | apply wp_nil | apply wp_mt | apply wp_sl | apply wp_pNo | apply wp_pAt | apply wp_rev | apply wp_eIf | apply wp_eAnd | apply wp_eOr | apply wp_eNot | apply wp_chain | apply wp_isi | apply wp_isi2 | apply wp_fn | apply wp_iOf | apply wp_iRng | apply wp_lc | apply wp_tup | apply wp_lst | apply wp_frz | apply ko_rt | apply kr_rt | apply kr_nx | apply ex_bool | apply ex_int) | ((with_reducible apply wp_eV); rfl) | ((with_reducible apply wp_eOv); rfl) | ((with_reducible apply wp_eOo); rfl) | ((with_reducible apply wp_st); rfl; decide) | ((with_reducible apply wp_stSet); rfl) | ((with_reducible apply wp_fnS); rfl) | ((with_reducible apply ex_some); rfl) | ((with_reducible apply ex_sb); rfl) | ((with_reducible apply br_t); rfl) | ((with_reducible apply br_f); rfl) | ((with_reducible apply ex_some (mulB ?hh)); case hh => decide +kernel) | ((with_reducible apply ex_some (mulA ?hh)); case hh => decide +kernel) | ((with_reducible apply ex_some (rngL ?hh)); case hh => decide +kernel) | (refine ⟨rfl, ?_⟩)))
      apply ko_nx
      apply wp_seq
      (repeat (first | with_reducible (first | apply wp_sIf | apply wp_next | apply wp_ret | apply wp_set | apply wp_own | apply wp_par | apply wp_par3 | apply wp_asg | apply wp_for | apply wp_tVal | apply wp_tTru | apply wp_tAnd | apply wp_tOr | apply wp_tNot | apply wp_e2 | apply wp_e1 | apply wp_eC | apply wp_call | apply wp_cons | apply wp_nil | apply wp_mt | apply wp_sl | apply wp_pNo | apply wp_pAt | apply wp_rev | apply wp_eIf | apply wp_eAnd | apply wp_eOr | apply wp_eNot | apply wp_chain | apply wp_isi | apply wp_isi2 | apply wp_fn | apply wp_iOf | apply wp_iRng | apply wp_lc | apply wp_tup | apply wp_lst | apply wp_frz | apply ko_rt | apply kr_rt | apply kr_nx | apply ex_bool | apply ex_int) | ((with_reducible apply wp_eV); rfl) | ((with_reducible apply wp_eOv); rfl) | ((with_reducible apply wp_eOo); rfl) | ((with_reducible apply wp_st); rfl; decide) | ((with_reducible apply wp_stSet); rfl) | ((with_reducible apply wp_fnS); rfl) | ((with_reducible apply ex_some); rfl) | ((with_reducible apply ex_sb); rfl) | ((with_reducible apply br_t); rfl) | ((with_reducible apply br_f); rfl) | ((with_reducible apply ex_some (mulB ?hh)); case hh => decide +kernel) | ((with_reducible apply ex_some (mulA ?hh)); case hh => decide +kernel) | ((with_reducible apply ex_some (rngL ?hh)); case hh => decide +kernel) | (refine ⟨rfl, ?_⟩)))
      apply ko_nx
      apply wp_guard
      · intro s ok
        have s0 := ss.self.mono (Nat.le_refl _) (Nat.sub_le k 1)
        have one : ∀ lo hi, Sans (wts xs) k (cut xs lo hi) := fun lo hi => s0.sub (cut_sub xs lo hi)
        have len1 : ∀ lo hi, (cut xs lo hi).length ≤ 10000 := fun lo hi => Nat.le_trans wts_len (Nat.le_trans (one lo hi).w (by omega))
        have tup : ∀ (ys : List D) (V : Nat), Sans V k ys → V ≤ 5 * wts xs + 1000 → San (5 * wt (.tuple xs) + 2000) (k + 2) (.tuple ys) := fun ys V h hV => h.tup.mono (by omega) (by omega)
        have fin : ∀ (ms : List D) (v1 v2 v3 v4 v6 : Option DV) (s : LS), LSok s → (∀ x ∈ ms, San (5 * wt (.tuple xs) + 2000) (k + 2) x) → 0 < ms.length → ms.length ≤ 20 →
            WP (sRet (e2 ixD (eV 5) (eFnS 0 1 f_law_next (aCons (eCall lenD (aCons (eV 5) aNil)) aNil))) [some .st, v1, v2, v3, v4, some (.val (.list ms)), v6]) s (kr fun a s' => LSok s' ∧ San (5 * wt (.tuple xs) + 2000) (k + 2) a) := by
          intro ms v1 v2 v3 v4 v6 s ok hms h1 h2
          (repeat (first | with_reducible (first | apply wp_seq | apply wp_sIf | apply wp_next | apply wp_ret | apply wp_set | apply wp_own | apply wp_par | apply wp_par3 | apply wp_asg | apply wp_for | apply wp_tVal | apply wp_tTru | apply wp_tAnd | apply wp_tOr | apply wp_tNot | apply wp_e2 | apply wp_e1 | apply wp_eC | apply wp_call | apply wp_cons | apply wp_nil | apply wp_mt | apply wp_sl | apply wp_pNo | apply wp_pAt | apply wp_rev | apply wp_eIf | apply wp_eAnd | apply wp_eOr | apply wp_eNot | apply wp_chain | apply wp_isi | apply wp_isi2 | apply wp_fn | apply wp_iOf | apply wp_iRng | apply wp_lc | apply wp_tup | apply wp_lst | apply wp_frz | apply ko_nx | apply ko_rt | apply kr_rt | apply kr_nx | apply ex_bool | apply ex_int) | ((with_reducible apply wp_eV); rfl) | ((with_reducible apply wp_eOv); rfl) | ((with_reducible apply wp_eOo); rfl) | ((with_reducible apply wp_st); rfl; decide) | ((with_reducible apply wp_stSet); rfl) | ((with_reducible apply wp_fnS); rfl) | ((with_reducible apply ex_some); rfl) | ((with_reducible apply ex_sb); rfl) | ((with_reducible apply br_t); rfl) | ((with_reducible apply br_f); rfl) | ((with_reducible apply ex_some (mulB ?hh)); case hh => decide +kernel) | ((with_reducible apply ex_some (mulA ?hh)); case hh => decide +kernel) | ((with_reducible apply ex_some (rngL ?hh)); case hh => decide +kernel) | (refine ⟨rfl, ?_⟩)))
          refine next_wpN h1 (by omega) ok fun j s' ok' hj => ?_
          exact (ix_all hms hj).imp fun _ h => ⟨h.1, ok', h.2⟩
        (repeat (first | with_reducible (first | apply wp_seq | apply wp_sIf | apply wp_next | apply wp_ret | apply wp_set | apply wp_own | apply wp_par | apply wp_par3 | apply wp_asg | apply wp_for | apply wp_tVal | apply wp_tTru | apply wp_tAnd | apply wp_tOr | apply wp_tNot | apply wp_e2 | apply wp_e1 | apply wp_eC | apply wp_call | apply wp_cons | apply wp_nil | apply wp_mt | apply wp_sl | apply wp_pNo | apply wp_pAt | apply wp_rev | apply wp_eIf | apply wp_eAnd | apply wp_eOr | apply wp_eNot | apply wp_chain | apply wp_isi | apply wp_isi2 | apply wp_fn | apply wp_iOf | apply wp_iRng | apply wp_lc | apply wp_tup | apply wp_lst | apply wp_frz | apply ko_nx | apply ko_rt | apply kr_rt | apply kr_nx | apply ex_bool | apply ex_int) | ((with_reducible apply wp_eV); rfl) | ((with_reducible apply wp_eOv); rfl) | ((with_reducible apply wp_eOo); rfl) | ((with_reducible apply wp_st); rfl; decide) | ((with_reducible apply wp_stSet); rfl) | ((with_reducible apply wp_fnS); rfl) | ((with_reducible apply ex_some); rfl) | ((with_reducible apply ex_sb); rfl) | ((with_reducible apply br_t); rfl) | ((with_reducible apply br_f); rfl) | ((with_reducible apply ex_some (mulB ?hh)); case hh => decide +kernel) | ((with_reducible apply ex_some (mulA ?hh)); case hh => decide +kernel) | ((with_reducible apply ex_some (rngL ?hh)); case hh => decide +kernel) | (refine ⟨rfl, ?_⟩)))
        refine next_wp (by omega) (by omega) ok fun a s1 ok1 ha => ?_
        (repeat (first | with_reducible (first | apply wp_seq | apply wp_sIf | apply wp_next | apply wp_ret | apply wp_set | apply wp_own | apply wp_par | apply wp_par3 | apply wp_asg | apply wp_for | apply wp_tVal | apply wp_tTru | apply wp_tAnd | apply wp_tOr | apply wp_tNot | apply wp_e2 | apply wp_e1 | apply wp_eC | apply wp_call | apply wp_cons | apply wp_nil | apply wp_mt | apply wp_sl | apply wp_pNo | apply wp_pAt | apply wp_rev | apply wp_eIf | apply wp_eAnd | apply wp_eOr | apply wp_eNot | apply wp_chain | apply wp_isi | apply wp_isi2 | apply wp_fn | apply wp_iOf | apply wp_iRng | apply wp_lc | apply wp_tup | apply wp_lst | apply wp_frz | apply ko_nx | apply ko_rt | apply kr_rt | apply kr_nx | apply ex_bool | apply ex_int) | ((with_reducible apply wp_eV); rfl) | ((with_reducible apply wp_eOv); rfl) | ((with_reducible apply wp_eOo); rfl) | ((with_reducible apply wp_st); rfl; decide) | ((with_reducible apply wp_stSet); rfl) | ((with_reducible apply wp_fnS); rfl) | ((with_reducible apply ex_some); rfl) | ((with_reducible apply ex_sb); rfl) | ((with_reducible apply br_t); rfl) | ((with_reducible apply br_f); rfl) | ((with_reducible apply ex_some (mulB ?hh)); case hh => decide +kernel) | ((with_reducible apply ex_some (mulA ?hh)); case hh => decide +kernel) | ((with_reducible apply ex_some (rngL ?hh)); case hh => decide +kernel) | (refine ⟨rfl, ?_⟩)))
        refine next_wp (by omega) (by omega) ok1 fun b s2 ok2 hb => ?_
        (repeat (first | with_reducible (first | apply wp_seq | apply wp_sIf | apply wp_next | apply wp_ret | apply wp_set | apply wp_own | apply wp_par | apply wp_par3 | apply wp_asg | apply wp_for | apply wp_tVal | apply wp_tTru | apply wp_tAnd | apply wp_tOr | apply wp_tNot | apply wp_e2 | apply wp_e1 | apply wp_eC | apply wp_call | apply wp_cons | apply wp_nil | apply wp_mt | apply wp_sl | apply wp_pNo | apply wp_pAt | apply wp_rev | apply wp_eIf | apply wp_eAnd | apply wp_eOr | apply wp_eNot | apply wp_chain | apply wp_isi | apply wp_isi2 | apply wp_fn | apply wp_iOf | apply wp_iRng | apply wp_lc | apply wp_tup | apply wp_lst | apply wp_frz | apply ko_nx | apply ko_rt | apply kr_rt | apply kr_nx | apply ex_bool | apply ex_int) | ((with_reducible apply wp_eV); rfl) | ((with_reducible apply wp_eOv); rfl) | ((with_reducible apply wp_eOo); rfl) | ((with_reducible apply wp_st); rfl; decide) | ((with_reducible apply wp_stSet); rfl) | ((with_reducible apply wp_fnS); rfl) | ((with_reducible apply ex_some); rfl) | ((with_reducible apply ex_sb); rfl) | ((with_reducible apply br_t); rfl) | ((with_reducible apply br_f); rfl) | ((with_reducible apply ex_some (mulB ?hh)); case hh => decide +kernel) | ((with_reducible apply ex_some (mulA ?hh)); case hh => decide +kernel) | ((with_reducible apply ex_some (rngL ?hh)); case hh => decide +kernel) | (refine ⟨rfl, ?_⟩)))
        refine ex_some (add_tup (by have := len1 none (some (a : Int)); have := len1 (some ((a : Int) + 1)) none; omega)) ?_
        (repeat (first | with_reducible (first | apply wp_seq | apply wp_sIf | apply wp_next | apply wp_ret | apply wp_set | apply wp_own | apply wp_par | apply wp_par3 | apply wp_asg | apply wp_for | apply wp_tVal | apply wp_tTru | apply wp_tAnd | apply wp_tOr | apply wp_tNot | apply wp_e2 | apply wp_e1 | apply wp_eC | apply wp_call | apply wp_cons | apply wp_nil | apply wp_mt | apply wp_sl | apply wp_pNo | apply wp_pAt | apply wp_rev | apply wp_eIf | apply wp_eAnd | apply wp_eOr | apply wp_eNot | apply wp_chain | apply wp_isi | apply wp_isi2 | apply wp_fn | apply wp_iOf | apply wp_iRng | apply wp_lc | apply wp_tup | apply wp_lst | apply wp_frz | apply ko_nx | apply ko_rt | apply kr_rt | apply kr_nx | apply ex_bool | apply ex_int) | ((with_reducible apply wp_eV); rfl) | ((with_reducible apply wp_eOv); rfl) | ((with_reducible apply wp_eOo); rfl) | ((with_reducible apply wp_st); rfl; decide) | ((with_reducible apply wp_stSet); rfl) | ((with_reducible apply wp_fnS); rfl) | ((with_reducible apply ex_some); rfl) | ((with_reducible apply ex_sb); rfl) | ((with_reducible apply br_t); rfl) | ((with_reducible apply br_f); rfl) | ((with_reducible apply ex_some (mulB ?hh)); case hh => decide +kernel) | ((with_reducible apply ex_some (mulA ?hh)); case hh => decide +kernel) | ((with_reducible apply ex_some (rngL ?hh)); case hh => decide +kernel) | (refine ⟨rfl, ?_⟩)))
        refine ex_some (add_tup (by have := len1 none (some 1); omega)) ?_
        (repeat (first | with_reducible (first | apply wp_seq | apply wp_sIf | apply wp_next | apply wp_ret | apply wp_set | apply wp_own | apply wp_par | apply wp_par3 | apply wp_asg | apply wp_for | apply wp_tVal | apply wp_tTru | apply wp_tAnd | apply wp_tOr | apply wp_tNot | apply wp_e2 | apply wp_e1 | apply wp_eC | apply wp_call | apply wp_cons | apply wp_nil | apply wp_mt | apply wp_sl | apply wp_pNo | apply wp_pAt | apply wp_rev | apply wp_eIf | apply wp_eAnd | apply wp_eOr | apply wp_eNot | apply wp_chain | apply wp_isi | apply wp_isi2 | apply wp_fn | apply wp_iOf | apply wp_iRng | apply wp_lc | apply wp_tup | apply wp_lst | apply wp_frz | apply ko_nx | apply ko_rt | apply kr_rt | apply kr_nx | apply ex_bool | apply ex_int) | ((with_reducible apply wp_eV); rfl) | ((with_reducible apply wp_eOv); rfl) | ((with_reducible apply wp_eOo); rfl) | ((with_reducible apply wp_st); rfl; decide) | ((with_reducible apply wp_stSet); rfl) | ((with_reducible apply wp_fnS); rfl) | ((with_reducible apply ex_some); rfl) | ((with_reducible apply ex_sb); rfl) | ((with_reducible apply br_t); rfl) | ((with_reducible apply br_f); rfl) | ((with_reducible apply ex_some (mulB ?hh)); case hh => decide +kernel) | ((with_reducible apply ex_some (mulA ?hh)); case hh => decide +kernel) | ((with_reducible apply ex_some (rngL ?hh)); case hh => decide +kernel) | (refine ⟨rfl, ?_⟩)))
        refine ex_some (add_tup (by have := len1 none (some (a : Int)); have := len1 (some (a : Int)) none; omega)) ?_
        (repeat (first | with_reducible (first | apply wp_seq | apply wp_sIf | apply wp_next | apply wp_ret | apply wp_set | apply wp_own | apply wp_par | apply wp_par3 | apply wp_asg | apply wp_for | apply wp_tVal | apply wp_tTru | apply wp_tAnd | apply wp_tOr | apply wp_tNot | apply wp_e2 | apply wp_e1 | apply wp_eC | apply wp_call | apply wp_cons | apply wp_nil | apply wp_mt | apply wp_sl | apply wp_pNo | apply wp_pAt | apply wp_rev | apply wp_eIf | apply wp_eAnd | apply wp_eOr | apply wp_eNot | apply wp_chain | apply wp_isi | apply wp_isi2 | apply wp_fn | apply wp_iOf | apply wp_iRng | apply wp_lc | apply wp_tup | apply wp_lst | apply wp_frz | apply ko_nx | apply ko_rt | apply kr_rt | apply kr_nx | apply ex_bool | apply ex_int) | ((with_reducible apply wp_eV); rfl) | ((with_reducible apply wp_eOv); rfl) | ((with_reducible apply wp_eOo); rfl) | ((with_reducible apply wp_st); rfl; decide) | ((with_reducible apply wp_stSet); rfl) | ((with_reducible apply wp_fnS); rfl) | ((with_reducible apply ex_some); rfl) | ((with_reducible apply ex_sb); rfl) | ((with_reducible apply br_t); rfl) | ((with_reducible apply br_f); rfl) | ((with_reducible apply ex_some (mulB ?hh)); case hh => decide +kernel) | ((with_reducible apply ex_some (mulA ?hh)); case hh => decide +kernel) | ((with_reducible apply ex_some (rngL ?hh)); case hh => decide +kernel) | (refine ⟨rfl, ?_⟩)))
        refine ex_some (add_tup (by simp; omega)) ?_
        (repeat (first | with_reducible (first | apply wp_seq | apply wp_sIf | apply wp_next | apply wp_ret | apply wp_set | apply wp_own | apply wp_par | apply wp_par3 | apply wp_asg | apply wp_for | apply wp_tVal | apply wp_tTru | apply wp_tAnd | apply wp_tOr | apply wp_tNot | apply wp_e2 | apply wp_e1 | apply wp_eC | apply wp_call | apply wp_cons | apply wp_nil | apply wp_mt | apply wp_sl | apply wp_pNo | apply wp_pAt | apply wp_rev | apply wp_eIf | apply wp_eAnd | apply wp_eOr | apply wp_eNot | apply wp_chain | apply wp_isi | apply wp_isi2 | apply wp_fn | apply wp_iOf | apply wp_iRng | apply wp_lc | apply wp_tup | apply wp_lst | apply wp_frz | apply ko_nx | apply ko_rt | apply kr_rt | apply kr_nx | apply ex_bool | apply ex_int) | ((with_reducible apply wp_eV); rfl) | ((with_reducible apply wp_eOv); rfl) | ((with_reducible apply wp_eOo); rfl) | ((with_reducible apply wp_st); rfl; decide) | ((with_reducible apply wp_stSet); rfl) | ((with_reducible apply wp_fnS); rfl) | ((with_reducible apply ex_some); rfl) | ((with_reducible apply ex_sb); rfl) | ((with_reducible apply br_t); rfl) | ((with_reducible apply br_f); rfl) | ((with_reducible apply ex_some (mulB ?hh)); case hh => decide +kernel) | ((with_reducible apply ex_some (mulA ?hh)); case hh => decide +kernel) | ((with_reducible apply ex_some (rngL ?hh)); case hh => decide +kernel) | (refine ⟨rfl, ?_⟩)))
        have base : ∀ x ∈ [PyData.tuple (cut xs none (some (a : Int)) ++ cut xs (some ((a : Int) + 1)) none), .tuple (xs ++ cut xs none (some 1)), .tuple xs.reverse, .tuple (cut xs (some (a : Int)) none ++ cut xs none (some (a : Int))), .list xs, .tuple (cut xs none (some (a : Int))), .tuple [], .tuple (xs ++ [.int 0])], San (5 * wt (.tuple xs) + 2000) (k + 2) x := by
          intro x hx
          simp only [List.mem_cons, List.not_mem_nil, or_false] at hx
          rcases hx with rfl | rfl | rfl | rfl | rfl | rfl | rfl | rfl
          · exact tup _ _ ((one _ _).app (one _ _)) (by omega)
          · exact tup _ _ (s0.app (one _ _)) (by omega)
          · exact tup _ _ s0.rev (by omega)
          · exact tup _ _ ((one _ _).app (one _ _)) (by omega)
          · exact s0.lst.mono (by omega) (by omega)
          · exact tup _ _ (one _ _) (by omega)
          · exact tup _ _ Sans.nil (by omega)
          · exact tup _ _ (s0.app (.one (San.int (n := k)))) (by omega)
        refine ⟨fun hc => ?_, fun hc => ?_⟩
        · (repeat (first | with_reducible (first | apply wp_seq | apply wp_sIf | apply wp_next | apply wp_ret | apply wp_set | apply wp_own | apply wp_par | apply wp_par3 | apply wp_asg | apply wp_for | apply wp_tVal | apply wp_tTru | apply wp_tAnd | apply wp_tOr | apply wp_tNot | apply wp_e2 | apply wp_e1 | apply wp_eC | apply wp_call | apply wp_cons | apply wp_nil | apply wp_mt | apply wp_sl | apply wp_pNo | apply wp_pAt | apply wp_rev | apply wp_eIf | apply wp_eAnd | apply wp_eOr | apply wp_eNot | apply wp_chain | apply wp_isi | apply wp_isi2 | apply wp_fn | apply wp_iOf | apply wp_iRng | apply wp_lc | apply wp_tup | apply wp_lst | apply wp_frz | apply ko_nx | apply ko_rt | apply kr_rt | apply kr_nx | apply ex_bool | apply ex_int) | ((with_reducible apply wp_eV); rfl) | ((with_reducible apply wp_eOv); rfl) | ((with_reducible apply wp_eOo); rfl) | ((with_reducible apply wp_st); rfl; decide) | ((with_reducible apply wp_stSet); rfl) | ((with_reducible apply wp_fnS); rfl) | ((with_reducible apply ex_some); rfl) | ((with_reducible apply ex_sb); rfl) | ((with_reducible apply br_t); rfl) | ((with_reducible apply br_f); rfl) | ((with_reducible apply ex_some (mulB ?hh)); case hh => decide +kernel) | ((with_reducible apply ex_some (mulA ?hh)); case hh => decide +kernel) | ((with_reducible apply ex_some (rngL ?hh)); case hh => decide +kernel) | (refine ⟨rfl, ?_⟩)))
          refine ⟨fun hc2 => ?_, fun hc2 => ?_⟩
          · (repeat (first | with_reducible (first | apply wp_seq | apply wp_sIf | apply wp_next | apply wp_ret | apply wp_set | apply wp_own | apply wp_par | apply wp_par3 | apply wp_asg | apply wp_for | apply wp_tVal | apply wp_tTru | apply wp_tAnd | apply wp_tOr | apply wp_tNot | apply wp_e2 | apply wp_e1 | apply wp_eC | apply wp_call | apply wp_cons | apply wp_nil | apply wp_mt | apply wp_sl | apply wp_pNo | apply wp_pAt | apply wp_rev | apply wp_eIf | apply wp_eAnd | apply wp_eOr | apply wp_eNot | apply wp_chain | apply wp_isi | apply wp_isi2 | apply wp_fn | apply wp_iOf | apply wp_iRng | apply wp_lc | apply wp_tup | apply wp_lst | apply wp_frz | apply ko_nx | apply ko_rt | apply kr_rt | apply kr_nx | apply ex_bool | apply ex_int) | ((with_reducible apply wp_eV); rfl) | ((with_reducible apply wp_eOv); rfl) | ((with_reducible apply wp_eOo); rfl) | ((with_reducible apply wp_st); rfl; decide) | ((with_reducible apply wp_stSet); rfl) | ((with_reducible apply wp_fnS); rfl) | ((with_reducible apply ex_some); rfl) | ((with_reducible apply ex_sb); rfl) | ((with_reducible apply br_t); rfl) | ((with_reducible apply br_f); rfl) | ((with_reducible apply ex_some (mulB ?hh)); case hh => decide +kernel) | ((with_reducible apply ex_some (mulA ?hh)); case hh => decide +kernel) | ((with_reducible apply ex_some (rngL ?hh)); case hh => decide +kernel) | (refine ⟨rfl, ?_⟩)))
            refine wp_mono (wp_lcGo LSok (San (5 * wt (.tuple xs) + 2000) (k + 2)) ok2 ?_) ?_
            · intro d hd
              refine ⟨_, rfl, fun s ok => ?_⟩
              refine wp_pure ⟨ok, fun _ s ok => ?_⟩
              have l1 := len1 none (some (a : Int))
              have l2 := len1 (some (b : Int)) (some ((b : Int) + 1))
              have l3 := len1 (some ((a : Int) + 1)) (some (b : Int))
              have l4 := len1 (some (a : Int)) (some ((a : Int) + 1))
              have l5 := len1 (some ((b : Int) + 1)) none
              (repeat (first | with_reducible (first | apply wp_seq | apply wp_sIf | apply wp_next | apply wp_ret | apply wp_set | apply wp_own | apply wp_par | apply wp_par3 | apply wp_asg | apply wp_for | apply wp_tVal | apply wp_tTru | apply wp_tAnd | apply wp_tOr | apply wp_tNot | apply wp_e2 | apply wp_e1 | apply wp_eC | apply wp_call | apply wp_cons | apply wp_nil | apply wp_mt | apply wp_sl | apply wp_pNo | apply wp_pAt | apply wp_rev | apply wp_eIf | apply wp_eAnd | apply wp_eOr | apply wp_eNot | apply wp_chain | apply wp_isi | apply wp_isi2 | apply wp_fn | apply wp_iOf | apply wp_iRng | apply wp_lc | apply wp_tup | apply wp_lst | apply wp_frz | apply ko_nx | apply ko_rt | apply kr_rt | apply kr_nx | apply ex_bool | apply ex_int) | ((with_reducible apply wp_eV); rfl) | ((with_reducible apply wp_eOv); rfl) | ((with_reducible apply wp_eOo); rfl) | ((with_reducible apply wp_st); rfl; decide) | ((with_reducible apply wp_stSet); rfl) | ((with_reducible apply wp_fnS); rfl) | ((with_reducible apply ex_some); rfl) | ((with_reducible apply ex_sb); rfl) | ((with_reducible apply br_t); rfl) | ((with_reducible apply br_f); rfl) | ((with_reducible apply ex_some (mulB ?hh)); case hh => decide +kernel) | ((with_reducible apply ex_some (mulA ?hh)); case hh => decide +kernel) | ((with_reducible apply ex_some (rngL ?hh)); case hh => decide +kernel) | (refine ⟨rfl, ?_⟩)))
              refine ex_some (add_tup (by omega)) ?_
              (repeat (first | with_reducible (first | apply wp_seq | apply wp_sIf | apply wp_next | apply wp_ret | apply wp_set | apply wp_own | apply wp_par | apply wp_par3 | apply wp_asg | apply wp_for | apply wp_tVal | apply wp_tTru | apply wp_tAnd | apply wp_tOr | apply wp_tNot | apply wp_e2 | apply wp_e1 | apply wp_eC | apply wp_call | apply wp_cons | apply wp_nil | apply wp_mt | apply wp_sl | apply wp_pNo | apply wp_pAt | apply wp_rev | apply wp_eIf | apply wp_eAnd | apply wp_eOr | apply wp_eNot | apply wp_chain | apply wp_isi | apply wp_isi2 | apply wp_fn | apply wp_iOf | apply wp_iRng | apply wp_lc | apply wp_tup | apply wp_lst | apply wp_frz | apply ko_nx | apply ko_rt | apply kr_rt | apply kr_nx | apply ex_bool | apply ex_int) | ((with_reducible apply wp_eV); rfl) | ((with_reducible apply wp_eOv); rfl) | ((with_reducible apply wp_eOo); rfl) | ((with_reducible apply wp_st); rfl; decide) | ((with_reducible apply wp_stSet); rfl) | ((with_reducible apply wp_fnS); rfl) | ((with_reducible apply ex_some); rfl) | ((with_reducible apply ex_sb); rfl) | ((with_reducible apply br_t); rfl) | ((with_reducible apply br_f); rfl) | ((with_reducible apply ex_some (mulB ?hh)); case hh => decide +kernel) | ((with_reducible apply ex_some (mulA ?hh)); case hh => decide +kernel) | ((with_reducible apply ex_some (rngL ?hh)); case hh => decide +kernel) | (refine ⟨rfl, ?_⟩)))
              refine ex_some (add_tup (by simp only [List.length_append]; omega)) ?_
              (repeat (first | with_reducible (first | apply wp_seq | apply wp_sIf | apply wp_next | apply wp_ret | apply wp_set | apply wp_own | apply wp_par | apply wp_par3 | apply wp_asg | apply wp_for | apply wp_tVal | apply wp_tTru | apply wp_tAnd | apply wp_tOr | apply wp_tNot | apply wp_e2 | apply wp_e1 | apply wp_eC | apply wp_call | apply wp_cons | apply wp_nil | apply wp_mt | apply wp_sl | apply wp_pNo | apply wp_pAt | apply wp_rev | apply wp_eIf | apply wp_eAnd | apply wp_eOr | apply wp_eNot | apply wp_chain | apply wp_isi | apply wp_isi2 | apply wp_fn | apply wp_iOf | apply wp_iRng | apply wp_lc | apply wp_tup | apply wp_lst | apply wp_frz | apply ko_nx | apply ko_rt | apply kr_rt | apply kr_nx | apply ex_bool | apply ex_int) | ((with_reducible apply wp_eV); rfl) | ((with_reducible apply wp_eOv); rfl) | ((with_reducible apply wp_eOo); rfl) | ((with_reducible apply wp_st); rfl; decide) | ((with_reducible apply wp_stSet); rfl) | ((with_reducible apply wp_fnS); rfl) | ((with_reducible apply ex_some); rfl) | ((with_reducible apply ex_sb); rfl) | ((with_reducible apply br_t); rfl) | ((with_reducible apply br_f); rfl) | ((with_reducible apply ex_some (mulB ?hh)); case hh => decide +kernel) | ((with_reducible apply ex_some (mulA ?hh)); case hh => decide +kernel) | ((with_reducible apply ex_some (rngL ?hh)); case hh => decide +kernel) | (refine ⟨rfl, ?_⟩)))
              refine ex_some (add_tup (by simp only [List.length_append]; omega)) ?_
              (repeat (first | with_reducible (first | apply wp_seq | apply wp_sIf | apply wp_next | apply wp_ret | apply wp_set | apply wp_own | apply wp_par | apply wp_par3 | apply wp_asg | apply wp_for | apply wp_tVal | apply wp_tTru | apply wp_tAnd | apply wp_tOr | apply wp_tNot | apply wp_e2 | apply wp_e1 | apply wp_eC | apply wp_call | apply wp_cons | apply wp_nil | apply wp_mt | apply wp_sl | apply wp_pNo | apply wp_pAt | apply wp_rev | apply wp_eIf | apply wp_eAnd | apply wp_eOr | apply wp_eNot | apply wp_chain | apply wp_isi | apply wp_isi2 | apply wp_fn | apply wp_iOf | apply wp_iRng | apply wp_lc | apply wp_tup | apply wp_lst | apply wp_frz | apply ko_nx | apply ko_rt | apply kr_rt | apply kr_nx | apply ex_bool | apply ex_int) | ((with_reducible apply wp_eV); rfl) | ((with_reducible apply wp_eOv); rfl) | ((with_reducible apply wp_eOo); rfl) | ((with_reducible apply wp_st); rfl; decide) | ((with_reducible apply wp_stSet); rfl) | ((with_reducible apply wp_fnS); rfl) | ((with_reducible apply ex_some); rfl) | ((with_reducible apply ex_sb); rfl) | ((with_reducible apply br_t); rfl) | ((with_reducible apply br_f); rfl) | ((with_reducible apply ex_some (mulB ?hh)); case hh => decide +kernel) | ((with_reducible apply ex_some (mulA ?hh)); case hh => decide +kernel) | ((with_reducible apply ex_some (rngL ?hh)); case hh => decide +kernel) | (refine ⟨rfl, ?_⟩)))
              refine ex_some (add_tup (by simp only [List.length_append]; omega)) ?_
              exact ⟨ok, tup _ _ (((((one _ _).app (one _ _)).app (one _ _)).app (one _ _)).app (one _ _)) (by omega)⟩
            · rintro ys s3 ⟨ok3, hl3, hy⟩
              have hl3 : ys.length ≤ 3 := hl3
              refine ex_some (add_lst (by simp; omega)) ?_
              apply ko_nx
              refine fin _ _ _ _ _ _ _ ok3 (fun x hx => ?_) (by simp) (by simp; omega)
              rcases List.mem_append.mp hx with hx | hx
              · exact base x hx
              · exact hy x hx
          · apply wp_next
            apply ko_nx
            exact fin _ _ _ _ _ _ _ ok2 base (by simp) (by simp)
        · (repeat (first | with_reducible (first | apply wp_sIf | apply wp_next | apply wp_ret | apply wp_set | apply wp_own | apply wp_par | apply wp_par3 | apply wp_asg | apply wp_for | apply wp_tVal | apply wp_tTru | apply wp_tAnd | apply wp_tOr | apply wp_tNot | apply wp_e2 | apply wp_e1 | apply wp_eC | apply wp_call | apply wp_cons | apply wp_nil | apply wp_mt | apply wp_sl | apply wp_pNo | apply wp_pAt | apply wp_rev | apply wp_eIf | apply wp_eAnd | apply wp_eOr | apply wp_eNot | apply wp_chain | apply wp_isi | apply wp_isi2 | apply wp_fn | apply wp_iOf | apply wp_iRng | apply wp_lc | apply wp_tup | apply wp_lst | apply wp_frz | apply ko_rt | apply kr_rt | apply kr_nx | apply ex_bool | apply ex_int) | ((with_reducible apply wp_eV); rfl) | ((with_reducible apply wp_eOv); rfl) | ((with_reducible apply wp_eOo); rfl) | ((with_reducible apply wp_st); rfl; decide) | ((with_reducible apply wp_stSet); rfl) | ((with_reducible apply wp_fnS); rfl) | ((with_reducible apply ex_some); rfl) | ((with_reducible apply ex_sb); rfl) | ((with_reducible apply br_t); rfl) | ((with_reducible apply br_f); rfl) | ((with_reducible apply ex_some (mulB ?hh)); case hh => decide +kernel) | ((with_reducible apply ex_some (mulA ?hh)); case hh => decide +kernel) | ((with_reducible apply ex_some (rngL ?hh)); case hh => decide +kernel) | (refine ⟨rfl, ?_⟩)))
          apply ko_nx
          exact fin _ _ _ _ _ _ _ ok2 base (by simp) (by simp)
      · (repeat (first | with_reducible (first | apply wp_sIf | apply wp_next | apply wp_ret | apply wp_set | apply wp_own | apply wp_par | apply wp_par3 | apply wp_asg | apply wp_for | apply wp_tVal | apply wp_tTru | apply wp_tAnd | apply wp_tOr | apply wp_tNot | apply wp_e2 | apply wp_e1 | apply wp_eC | apply wp_call | apply wp_cons | apply wp_nil | apply wp_mt | apply wp_sl | apply wp_pNo | apply wp_pAt | apply wp_rev | apply wp_eIf | apply wp_eAnd | apply wp_eOr | apply wp_eNot | apply wp_chain | apply wp_isi | apply wp_isi2 | apply wp_fn | apply wp_iOf | apply wp_iRng | apply wp_lc | apply wp_tup | apply wp_lst | apply wp_frz | apply ko_rt | apply kr_rt | apply kr_nx | apply ex_bool | apply ex_int) | ((with_reducible apply wp_eV); rfl) | ((with_reducible apply wp_eOv); rfl) | ((with_reducible apply wp_eOo); rfl) | ((with_reducible apply wp_st); rfl; decide) | ((with_reducible apply wp_stSet); rfl) | ((with_reducible apply wp_fnS); rfl) | ((with_reducible apply ex_some); rfl) | ((with_reducible apply ex_sb); rfl) | ((with_reducible apply br_t); rfl) | ((with_reducible apply br_f); rfl) | ((with_reducible apply ex_some (mulB ?hh)); case hh => decide +kernel) | ((with_reducible apply ex_some (mulA ?hh)); case hh => decide +kernel) | ((with_reducible apply ex_some (rngL ?hh)); case hh => decide +kernel) | (refine ⟨rfl, ?_⟩)))
        refine ex_some (ne_empty hs (by omega)) ?_
        (repeat (first | with_reducible (first | apply wp_sIf | apply wp_next | apply wp_ret | apply wp_set | apply wp_own | apply wp_par | apply wp_par3 | apply wp_asg | apply wp_for | apply wp_tVal | apply wp_tTru | apply wp_tAnd | apply wp_tOr | apply wp_tNot | apply wp_e2 | apply wp_e1 | apply wp_eC | apply wp_call | apply wp_cons | apply wp_nil | apply wp_mt | apply wp_sl | apply wp_pNo | apply wp_pAt | apply wp_rev | apply wp_eIf | apply wp_eAnd | apply wp_eOr | apply wp_eNot | apply wp_chain | apply wp_isi | apply wp_isi2 | apply wp_fn | apply wp_iOf | apply wp_iRng | apply wp_lc | apply wp_tup | apply wp_lst | apply wp_frz | apply ko_rt | apply kr_rt | apply kr_nx | apply ex_bool | apply ex_int) | ((with_reducible apply wp_eV); rfl) | ((with_reducible apply wp_eOv); rfl) | ((with_reducible apply wp_eOo); rfl) | ((with_reducible apply wp_st); rfl; decide) | ((with_reducible apply wp_stSet); rfl) | ((with_reducible apply wp_fnS); rfl) | ((with_reducible apply ex_some); rfl) | ((with_reducible apply ex_sb); rfl) | ((with_reducible apply br_t); rfl) | ((with_reducible apply br_f); rfl) | ((with_reducible apply ex_some (mulB ?hh)); case hh => decide +kernel) | ((with_reducible apply ex_some (mulA ?hh)); case hh => decide +kernel) | ((with_reducible apply ex_some (rngL ?hh)); case hh => decide +kernel) | (refine ⟨rfl, ?_⟩)))
        refine ⟨fun hne => ?_, fun _ => ?_⟩
        · (repeat (first | with_reducible (first | apply wp_sIf | apply wp_next | apply wp_ret | apply wp_set | apply wp_own | apply wp_par | apply wp_par3 | apply wp_asg | apply wp_for | apply wp_tVal | apply wp_tTru | apply wp_tAnd | apply wp_tOr | apply wp_tNot | apply wp_e2 | apply wp_e1 | apply wp_eC | apply wp_call | apply wp_cons | apply wp_nil | apply wp_mt | apply wp_sl | apply wp_pNo | apply wp_pAt | apply wp_rev | apply wp_eIf | apply wp_eAnd | apply wp_eOr | apply wp_eNot | apply wp_chain | apply wp_isi | apply wp_isi2 | apply wp_fn | apply wp_iOf | apply wp_iRng | apply wp_lc | apply wp_tup | apply wp_lst | apply wp_frz | apply ko_rt | apply kr_rt | apply kr_nx | apply ex_bool | apply ex_int) | ((with_reducible apply wp_eV); rfl) | ((with_reducible apply wp_eOv); rfl) | ((with_reducible apply wp_eOo); rfl) | ((with_reducible apply wp_st); rfl; decide) | ((with_reducible apply wp_stSet); rfl) | ((with_reducible apply wp_fnS); rfl) | ((with_reducible apply ex_some); rfl) | ((with_reducible apply ex_sb); rfl) | ((with_reducible apply br_t); rfl) | ((with_reducible apply br_f); rfl) | ((with_reducible apply ex_some (mulB ?hh)); case hh => decide +kernel) | ((with_reducible apply ex_some (mulA ?hh)); case hh => decide +kernel) | ((with_reducible apply ex_some (rngL ?hh)); case hh => decide +kernel) | (refine ⟨rfl, ?_⟩)))
          refine next_wp (by decide) (by decide) ok fun j s' ok' hj => ?_
          (repeat (first | with_reducible (first | apply wp_sIf | apply wp_next | apply wp_ret | apply wp_set | apply wp_own | apply wp_par | apply wp_par3 | apply wp_asg | apply wp_for | apply wp_tVal | apply wp_tTru | apply wp_tAnd | apply wp_tOr | apply wp_tNot | apply wp_e2 | apply wp_e1 | apply wp_eC | apply wp_call | apply wp_cons | apply wp_nil | apply wp_mt | apply wp_sl | apply wp_pNo | apply wp_pAt | apply wp_rev | apply wp_eIf | apply wp_eAnd | apply wp_eOr | apply wp_eNot | apply wp_chain | apply wp_isi | apply wp_isi2 | apply wp_fn | apply wp_iOf | apply wp_iRng | apply wp_lc | apply wp_tup | apply wp_lst | apply wp_frz | apply ko_rt | apply kr_rt | apply kr_nx | apply ex_bool | apply ex_int) | ((with_reducible apply wp_eV); rfl) | ((with_reducible apply wp_eOv); rfl) | ((with_reducible apply wp_eOo); rfl) | ((with_reducible apply wp_st); rfl; decide) | ((with_reducible apply wp_stSet); rfl) | ((with_reducible apply wp_fnS); rfl) | ((with_reducible apply ex_some); rfl) | ((with_reducible apply ex_sb); rfl) | ((with_reducible apply br_t); rfl) | ((with_reducible apply br_f); rfl) | ((with_reducible apply ex_some (mulB ?hh)); case hh => decide +kernel) | ((with_reducible apply ex_some (mulA ?hh)); case hh => decide +kernel) | ((with_reducible apply ex_some (rngL ?hh)); case hh => decide +kernel) | (refine ⟨rfl, ?_⟩)))
          refine ⟨ok', fun hj => ?_⟩
          have hlen : 0 < xs.length := by cases xs with | nil => cases hne | cons _ _ => simp
          (repeat (first | with_reducible (first | apply wp_seq | apply wp_sIf | apply wp_next | apply wp_ret | apply wp_set | apply wp_own | apply wp_par | apply wp_par3 | apply wp_asg | apply wp_for | apply wp_tVal | apply wp_tTru | apply wp_tAnd | apply wp_tOr | apply wp_tNot | apply wp_e2 | apply wp_e1 | apply wp_eC | apply wp_call | apply wp_cons | apply wp_nil | apply wp_mt | apply wp_sl | apply wp_pNo | apply wp_pAt | apply wp_rev | apply wp_eIf | apply wp_eAnd | apply wp_eOr | apply wp_eNot | apply wp_chain | apply wp_isi | apply wp_isi2 | apply wp_fn | apply wp_iOf | apply wp_iRng | apply wp_lc | apply wp_tup | apply wp_lst | apply wp_frz | apply ko_nx | apply ko_rt | apply kr_rt | apply kr_nx | apply ex_bool | apply ex_int) | ((with_reducible apply wp_eV); rfl) | ((with_reducible apply wp_eOv); rfl) | ((with_reducible apply wp_eOo); rfl) | ((with_reducible apply wp_st); rfl; decide) | ((with_reducible apply wp_stSet); rfl) | ((with_reducible apply wp_fnS); rfl) | ((with_reducible apply ex_some); rfl) | ((with_reducible apply ex_sb); rfl) | ((with_reducible apply br_t); rfl) | ((with_reducible apply br_f); rfl) | ((with_reducible apply ex_some (mulB ?hh)); case hh => decide +kernel) | ((with_reducible apply ex_some (mulA ?hh)); case hh => decide +kernel) | ((with_reducible apply ex_some (rngL ?hh)); case hh => decide +kernel) | (refine ⟨rfl, ?_⟩)))
          refine next_wpN hlen (by omega) ok' fun j s2 ok2 hj => ?_
          (repeat (first | with_reducible (first | apply wp_seq | apply wp_sIf | apply wp_next | apply wp_ret | apply wp_set | apply wp_own | apply wp_par | apply wp_par3 | apply wp_asg | apply wp_for | apply wp_tVal | apply wp_tTru | apply wp_tAnd | apply wp_tOr | apply wp_tNot | apply wp_e2 | apply wp_e1 | apply wp_eC | apply wp_call | apply wp_cons | apply wp_nil | apply wp_mt | apply wp_sl | apply wp_pNo | apply wp_pAt | apply wp_rev | apply wp_eIf | apply wp_eAnd | apply wp_eOr | apply wp_eNot | apply wp_chain | apply wp_isi | apply wp_isi2 | apply wp_fn | apply wp_iOf | apply wp_iRng | apply wp_lc | apply wp_tup | apply wp_lst | apply wp_frz | apply ko_nx | apply ko_rt | apply kr_rt | apply kr_nx | apply ex_bool | apply ex_int) | ((with_reducible apply wp_eV); rfl) | ((with_reducible apply wp_eOv); rfl) | ((with_reducible apply wp_eOo); rfl) | ((with_reducible apply wp_st); rfl; decide) | ((with_reducible apply wp_stSet); rfl) | ((with_reducible apply wp_fnS); rfl) | ((with_reducible apply ex_some); rfl) | ((with_reducible apply ex_sb); rfl) | ((with_reducible apply br_t); rfl) | ((with_reducible apply br_f); rfl) | ((with_reducible apply ex_some (mulB ?hh)); case hh => decide +kernel) | ((with_reducible apply ex_some (mulA ?hh)); case hh => decide +kernel) | ((with_reducible apply ex_some (rngL ?hh)); case hh => decide +kernel) | (refine ⟨rfl, ?_⟩)))
          refine ex_some (ix_nat hj) ?_
          (repeat (first | with_reducible (first | apply wp_seq | apply wp_sIf | apply wp_next | apply wp_ret | apply wp_set | apply wp_own | apply wp_par | apply wp_par3 | apply wp_asg | apply wp_for | apply wp_tVal | apply wp_tTru | apply wp_tAnd | apply wp_tOr | apply wp_tNot | apply wp_e2 | apply wp_e1 | apply wp_eC | apply wp_call | apply wp_cons | apply wp_nil | apply wp_mt | apply wp_sl | apply wp_pNo | apply wp_pAt | apply wp_rev | apply wp_eIf | apply wp_eAnd | apply wp_eOr | apply wp_eNot | apply wp_chain | apply wp_isi | apply wp_isi2 | apply wp_fn | apply wp_iOf | apply wp_iRng | apply wp_lc | apply wp_tup | apply wp_lst | apply wp_frz | apply ko_nx | apply ko_rt | apply kr_rt | apply kr_nx | apply ex_bool | apply ex_int) | ((with_reducible apply wp_eV); rfl) | ((with_reducible apply wp_eOv); rfl) | ((with_reducible apply wp_eOo); rfl) | ((with_reducible apply wp_st); rfl; decide) | ((with_reducible apply wp_stSet); rfl) | ((with_reducible apply wp_fnS); rfl) | ((with_reducible apply ex_some); rfl) | ((with_reducible apply ex_sb); rfl) | ((with_reducible apply br_t); rfl) | ((with_reducible apply br_f); rfl) | ((with_reducible apply ex_some (mulB ?hh)); case hh => decide +kernel) | ((with_reducible apply ex_some (mulA ?hh)); case hh => decide +kernel) | ((with_reducible apply ex_some (rngL ?hh)); case hh => decide +kernel) | (refine ⟨rfl, ?_⟩)))
          have hx := List.getElem_mem hj
          have hk1 : 1 ≤ k := by have h2 : PyData.depthAll xs + 1 ≤ k := hs.dep; omega
          refine wp_tr (ih (plainAll_mem hp _ hx) ((ss.mem hx).mono (by omega) (Nat.le_refl _)) (by omega) (by omega)) ok2 fun r s3 ok3 hr => ?_
          have l1 := (cut_sub xs none (some (j : Int))).length_le
          have l2 := (cut_sub xs (some ((j : Int) + 1)) none).length_le
          (repeat (first | with_reducible (first | apply wp_seq | apply wp_sIf | apply wp_next | apply wp_ret | apply wp_set | apply wp_own | apply wp_par | apply wp_par3 | apply wp_asg | apply wp_for | apply wp_tVal | apply wp_tTru | apply wp_tAnd | apply wp_tOr | apply wp_tNot | apply wp_e2 | apply wp_e1 | apply wp_eC | apply wp_call | apply wp_cons | apply wp_nil | apply wp_mt | apply wp_sl | apply wp_pNo | apply wp_pAt | apply wp_rev | apply wp_eIf | apply wp_eAnd | apply wp_eOr | apply wp_eNot | apply wp_chain | apply wp_isi | apply wp_isi2 | apply wp_fn | apply wp_iOf | apply wp_iRng | apply wp_lc | apply wp_tup | apply wp_lst | apply wp_frz | apply ko_nx | apply ko_rt | apply kr_rt | apply kr_nx | apply ex_bool | apply ex_int) | ((with_reducible apply wp_eV); rfl) | ((with_reducible apply wp_eOv); rfl) | ((with_reducible apply wp_eOo); rfl) | ((with_reducible apply wp_st); rfl; decide) | ((with_reducible apply wp_stSet); rfl) | ((with_reducible apply wp_fnS); rfl) | ((with_reducible apply ex_some); rfl) | ((with_reducible apply ex_sb); rfl) | ((with_reducible apply br_t); rfl) | ((with_reducible apply br_f); rfl) | ((with_reducible apply ex_some (mulB ?hh)); case hh => decide +kernel) | ((with_reducible apply ex_some (mulA ?hh)); case hh => decide +kernel) | ((with_reducible apply ex_some (rngL ?hh)); case hh => decide +kernel) | (refine ⟨rfl, ?_⟩)))
          refine ex_some (add_tup (by simp only [List.length_cons, List.length_nil]; omega)) ?_
          (repeat (first | with_reducible (first | apply wp_seq | apply wp_sIf | apply wp_next | apply wp_ret | apply wp_set | apply wp_own | apply wp_par | apply wp_par3 | apply wp_asg | apply wp_for | apply wp_tVal | apply wp_tTru | apply wp_tAnd | apply wp_tOr | apply wp_tNot | apply wp_e2 | apply wp_e1 | apply wp_eC | apply wp_call | apply wp_cons | apply wp_nil | apply wp_mt | apply wp_sl | apply wp_pNo | apply wp_pAt | apply wp_rev | apply wp_eIf | apply wp_eAnd | apply wp_eOr | apply wp_eNot | apply wp_chain | apply wp_isi | apply wp_isi2 | apply wp_fn | apply wp_iOf | apply wp_iRng | apply wp_lc | apply wp_tup | apply wp_lst | apply wp_frz | apply ko_nx | apply ko_rt | apply kr_rt | apply kr_nx | apply ex_bool | apply ex_int) | ((with_reducible apply wp_eV); rfl) | ((with_reducible apply wp_eOv); rfl) | ((with_reducible apply wp_eOo); rfl) | ((with_reducible apply wp_st); rfl; decide) | ((with_reducible apply wp_stSet); rfl) | ((with_reducible apply wp_fnS); rfl) | ((with_reducible apply ex_some); rfl) | ((with_reducible apply ex_sb); rfl) | ((with_reducible apply br_t); rfl) | ((with_reducible apply br_f); rfl) | ((with_reducible apply ex_some (mulB ?hh)); case hh => decide +kernel) | ((with_reducible apply ex_some (mulA ?hh)); case hh => decide +kernel) | ((with_reducible apply ex_some (rngL ?hh)); case hh => decide +kernel) | (refine ⟨rfl, ?_⟩)))
          refine ex_some (add_tup (by simp only [List.length_append, List.length_cons, List.length_nil]; omega)) ?_
          refine ⟨ok3, ?_⟩
          have e1 : cut xs none (some (j : Int)) = xs.take j := cut_to (by omega)
          have e2 : cut xs (some ((j : Int) + 1)) none = xs.drop (j + 1) := cut_from (k := j + 1) (by omega)
          rw [e1, e2]
          have t1 := (ss.sub (List.take_sublist j xs)).self
          have t2 := (ss.sub (List.drop_sublist (j + 1) xs)).self
          have g := wts_get hj
          exact ((((t1.mono (Nat.le_refl _) (m := k + 1) (by omega)).app (.one (hr.mono (Nat.le_refl _) (m := k + 1) (by omega)))).app (t2.mono (Nat.le_refl _) (m := k + 1) (by omega))).tup).mono (by omega) (by omega)
        · exact ⟨ok, fun h => by cases h⟩
    | _ => cases hp
end
end DL

/-! DL, part 16: the shared defs, on. -/
namespace DL
open PySem PySem.Spec PyProof.Rows L2 SX
section
variable {W n k : Nat} {d : D} {xs ys : List D} {s : LS}
theorem San.self' {V m : Nat} (h : San W n d) (h1 : wt d ≤ V) (h2 : n ≤ m) : San V m d := ⟨h.lay, h1, Nat.le_trans h.dep h2⟩
theorem wts_mul {B : Nat} : ∀ {ys : List D}, (∀ y ∈ ys, wt y ≤ B) → wts ys ≤ ys.length * B
  | [], _ => by simp [wts]
  | d :: ds, h => by
    have h1 := h d List.mem_cons_self
    have h2 := wts_mul (ys := ds) fun y hy => h y (List.mem_cons_of_mem _ hy)
    simp only [wts, List.length_cons, Nat.succ_mul]
    omega
theorem Sans.of_all {B : Nat} (h : ∀ y ∈ ys, San B n y) : Sans (ys.length * B) n ys := ⟨fun x hx => ⟨(h x hx).lay, (h x hx).dep⟩, wts_mul fun y hy => (h y hy).w⟩
theorem ints_of : ∀ {ys : List D}, (∀ y ∈ ys, ∃ i, y = .int i) → ∃ ns : List Int, ys = ns.map .int
  | [], _ => ⟨[], rfl⟩
  | d :: ds, h => by
    obtain ⟨i, rfl⟩ := h d List.mem_cons_self
    obtain ⟨ns, rfl⟩ := ints_of (ys := ds) fun y hy => h y (List.mem_cons_of_mem _ hy)
    exact ⟨i :: ns, rfl⟩
theorem flat_ints (ns : List Int) : (ns.map PyData.int).all flatD = true := by
  rw [List.all_eq_true]; intro x hx
  obtain ⟨i, _, rfl⟩ := List.mem_map.mp hx
  rfl
theorem notIn_ints {i : Int} {ns : List Int} : ∃ b, notInD (.int i) (.list (ns.map .int)) = some (.bool b) := by
  have h : (flatD (.int i) && (ns.map PyData.int).all flatD || SeqAt.shaped (.int i) && SeqAt.shaped (.list (ns.map .int))) = true := by rw [flat_ints]; rfl
  refine ⟨!((ns.map PyData.int).any fun y => PyData.eqv y (.int i)), ?_⟩
  unfold notInD inD
  simp only [h, if_true]
  rfl
theorem Sans.ints (ns : List Int) : Sans ns.length n (ns.map .int) := by
  have := Sans.of_all (ys := ns.map PyData.int) (n := n) (B := 1) fun y hy => by obtain ⟨i, _, rfl⟩ := List.mem_map.mp hy; exact San.int
  simpa using this
theorem eq_emptyL (h : San W n (.list xs)) (hn : n ≤ 64) : eqD (.list xs) (.list []) = some (.bool xs.isEmpty) := by
  have e : eqD (.list xs) (.list []) = some (.bool (PyData.eqv (.list xs) (.list []))) := if_pos (by unfold okEq; rw [shaped_san h hn]; rfl)
  rw [e]
  cases xs <;> rfl
theorem ne_emptyL (h : San W n (.list xs)) (hn : n ≤ 64) : neD (.list xs) (.list []) = some (.bool (!xs.isEmpty)) := by
  have e : neD (.list xs) (.list []) = some (.bool (!PyData.eqv (.list xs) (.list []))) := if_pos (by unfold okEq; rw [shaped_san h hn]; rfl)
  rw [e]
  cases xs <;> rfl
/-- _law_ints -/
theorem tr_ints : ∀ (N : Nat) {k : Nat} {d : D}, plainB d = true → San 10000 k d → k < N → Tr (f_law_ints N [d]) fun r => ∃ ns : List Int, r = .list (ns.map .int) ∧ ns.length ≤ wt d := by
  intro N
  induction N with
  | zero => intro k d _ _ hk; omega
  | succ N ih =>
    intro k d hp hs hk s ok
    unfold f_law_ints
    apply wp_runD
    unfold b_law_ints
    cases d with
    | bool b =>
      (repeat (first | with_reducible (first | apply wp_seq | apply wp_sIf | apply wp_next | apply wp_ret | apply wp_set | apply wp_own | apply wp_par | apply wp_par3 | apply wp_asg | apply wp_for | apply wp_tVal | apply wp_tTru | apply wp_tAnd | apply wp_tOr | apply wp_tNot | apply wp_e2 | apply wp_e1 | apply wp_eC | apply wp_call | apply wp_cons | apply wp_nil | apply wp_mt | apply wp_sl | apply wp_pNo | apply wp_pAt | apply wp_rev | apply wp_eIf | apply wp_eAnd | apply wp_eOr | apply wp_eNot | apply wp_chain | apply wp_isi | apply wp_isi2 | apply wp_fn | apply wp_iOf | apply wp_iRng | apply wp_lc | apply wp_tup | apply wp_lst | apply wp_frz | apply ko_nx | apply ko_rt | apply kr_rt | apply kr_nx | apply ex_bool | apply ex_int) | ((with_reducible apply wp_eV); rfl) | ((with_reducible apply wp_eOv); rfl) | ((with_reducible apply wp_eOo); rfl) | ((with_reducible apply wp_st); rfl; decide) | ((with_reducible apply wp_stSet); rfl) | ((with_reducible apply wp_fnS); rfl) | ((with_reducible apply ex_some); rfl) | ((with_reducible apply ex_sb); rfl) | ((with_reducible apply br_t); rfl) | ((with_reducible apply br_f); rfl) | ((with_reducible apply ex_some (mulB ?hh)); case hh => decide +kernel) | ((with_reducible apply ex_some (mulA ?hh)); case hh => decide +kernel) | ((with_reducible apply ex_some (rngL ?hh)); case hh => decide +kernel) | (refine ⟨rfl, ?_⟩)))
      exact ⟨ok, [], rfl, Nat.zero_le _⟩
    | int i =>
      (repeat (first | with_reducible (first | apply wp_seq | apply wp_sIf | apply wp_next | apply wp_ret | apply wp_set | apply wp_own | apply wp_par | apply wp_par3 | apply wp_asg | apply wp_for | apply wp_tVal | apply wp_tTru | apply wp_tAnd | apply wp_tOr | apply wp_tNot | apply wp_e2 | apply wp_e1 | apply wp_eC | apply wp_call | apply wp_cons | apply wp_nil | apply wp_mt | apply wp_sl | apply wp_pNo | apply wp_pAt | apply wp_rev | apply wp_eIf | apply wp_eAnd | apply wp_eOr | apply wp_eNot | apply wp_chain | apply wp_isi | apply wp_isi2 | apply wp_fn | apply wp_iOf | apply wp_iRng | apply wp_lc | apply wp_tup | apply wp_lst | apply wp_frz | apply ko_nx | apply ko_rt | apply kr_rt | apply kr_nx | apply ex_bool | apply ex_int) | ((with_reducible apply wp_eV); rfl) | ((with_reducible apply wp_eOv); rfl) | ((with_reducible apply wp_eOo); rfl) | ((with_reducible apply wp_st); rfl; decide) | ((with_reducible apply wp_stSet); rfl) | ((with_reducible apply wp_fnS); rfl) | ((with_reducible apply ex_some); rfl) | ((with_reducible apply ex_sb); rfl) | ((with_reducible apply br_t); rfl) | ((with_reducible apply br_f); rfl) | ((with_reducible apply ex_some (mulB ?hh)); case hh => decide +kernel) | ((with_reducible apply ex_some (mulA ?hh)); case hh => decide +kernel) | ((with_reducible apply ex_some (rngL ?hh)); case hh => decide +kernel) | (refine ⟨rfl, ?_⟩)))
      exact ⟨ok, [i], rfl, Nat.le_refl _⟩
    | str z =>
      (repeat (first | with_reducible (first | apply wp_seq | apply wp_sIf | apply wp_next | apply wp_ret | apply wp_set | apply wp_own | apply wp_par | apply wp_par3 | apply wp_asg | apply wp_for | apply wp_tVal | apply wp_tTru | apply wp_tAnd | apply wp_tOr | apply wp_tNot | apply wp_e2 | apply wp_e1 | apply wp_eC | apply wp_call | apply wp_cons | apply wp_nil | apply wp_mt | apply wp_sl | apply wp_pNo | apply wp_pAt | apply wp_rev | apply wp_eIf | apply wp_eAnd | apply wp_eOr | apply wp_eNot | apply wp_chain | apply wp_isi | apply wp_isi2 | apply wp_fn | apply wp_iOf | apply wp_iRng | apply wp_lc | apply wp_tup | apply wp_lst | apply wp_frz | apply ko_nx | apply ko_rt | apply kr_rt | apply kr_nx | apply ex_bool | apply ex_int) | ((with_reducible apply wp_eV); rfl) | ((with_reducible apply wp_eOv); rfl) | ((with_reducible apply wp_eOo); rfl) | ((with_reducible apply wp_st); rfl; decide) | ((with_reducible apply wp_stSet); rfl) | ((with_reducible apply wp_fnS); rfl) | ((with_reducible apply ex_some); rfl) | ((with_reducible apply ex_sb); rfl) | ((with_reducible apply br_t); rfl) | ((with_reducible apply br_f); rfl) | ((with_reducible apply ex_some (mulB ?hh)); case hh => decide +kernel) | ((with_reducible apply ex_some (mulA ?hh)); case hh => decide +kernel) | ((with_reducible apply ex_some (rngL ?hh)); case hh => decide +kernel) | (refine ⟨rfl, ?_⟩)))
      exact ⟨ok, [], rfl, Nat.zero_le _⟩
    | tuple xs =>
      have ss := hs.ofTup
      have hw : wts xs + 1 ≤ 10000 := hs.w
      have hk1 : 1 ≤ k := by have h2 : PyData.depthAll xs + 1 ≤ k := hs.dep; omega
      (repeat (first | with_reducible (first | apply wp_seq | apply wp_sIf | apply wp_next | apply wp_ret | apply wp_set | apply wp_own | apply wp_par | apply wp_par3 | apply wp_asg | apply wp_for | apply wp_tVal | apply wp_tTru | apply wp_tAnd | apply wp_tOr | apply wp_tNot | apply wp_e2 | apply wp_e1 | apply wp_eC | apply wp_call | apply wp_cons | apply wp_nil | apply wp_mt | apply wp_sl | apply wp_pNo | apply wp_pAt | apply wp_rev | apply wp_eIf | apply wp_eAnd | apply wp_eOr | apply wp_eNot | apply wp_chain | apply wp_isi | apply wp_isi2 | apply wp_fn | apply wp_iOf | apply wp_iRng | apply wp_lc | apply wp_tup | apply wp_lst | apply wp_frz | apply ko_nx | apply ko_rt | apply kr_rt | apply kr_nx | apply ex_bool | apply ex_int) | ((with_reducible apply wp_eV); rfl) | ((with_reducible apply wp_eOv); rfl) | ((with_reducible apply wp_eOo); rfl) | ((with_reducible apply wp_st); rfl; decide) | ((with_reducible apply wp_stSet); rfl) | ((with_reducible apply wp_fnS); rfl) | ((with_reducible apply ex_some); rfl) | ((with_reducible apply ex_sb); rfl) | ((with_reducible apply br_t); rfl) | ((with_reducible apply br_f); rfl) | ((with_reducible apply ex_some (mulB ?hh)); case hh => decide +kernel) | ((with_reducible apply ex_some (mulA ?hh)); case hh => decide +kernel) | ((with_reducible apply ex_some (rngL ?hh)); case hh => decide +kernel) | (refine ⟨rfl, ?_⟩)))
      refine wp_forInv (fun rest env s => LSok s ∧ ∃ (ns : List Int) (v2 v3 : Option DV), env = [some (.val (.tuple xs)), some (.val (.list (ns.map .int))), v2, v3] ∧ ns.length + wts rest ≤ wts xs ∧ ∀ d ∈ rest, d ∈ xs) ⟨ok, [], _, _, rfl, by simp, fun d h => h⟩ ?_ ?_
      · rintro d ds env s ⟨ok, ns, v2, v3, rfl, hl, hm⟩
        have hd := hm d List.mem_cons_self
        simp only [wts] at hl
        refine ⟨_, rfl, ?_⟩
        (repeat (first | with_reducible (first | apply wp_seq | apply wp_sIf | apply wp_next | apply wp_ret | apply wp_set | apply wp_own | apply wp_par | apply wp_par3 | apply wp_asg | apply wp_for | apply wp_tVal | apply wp_tTru | apply wp_tAnd | apply wp_tOr | apply wp_tNot | apply wp_e2 | apply wp_e1 | apply wp_eC | apply wp_call | apply wp_cons | apply wp_nil | apply wp_mt | apply wp_sl | apply wp_pNo | apply wp_pAt | apply wp_rev | apply wp_eIf | apply wp_eAnd | apply wp_eOr | apply wp_eNot | apply wp_chain | apply wp_isi | apply wp_isi2 | apply wp_fn | apply wp_iOf | apply wp_iRng | apply wp_lc | apply wp_tup | apply wp_lst | apply wp_frz | apply ko_nx | apply ko_rt | apply kr_rt | apply kr_nx | apply ex_bool | apply ex_int) | ((with_reducible apply wp_eV); rfl) | ((with_reducible apply wp_eOv); rfl) | ((with_reducible apply wp_eOo); rfl) | ((with_reducible apply wp_st); rfl; decide) | ((with_reducible apply wp_stSet); rfl) | ((with_reducible apply wp_fnS); rfl) | ((with_reducible apply ex_some); rfl) | ((with_reducible apply ex_sb); rfl) | ((with_reducible apply br_t); rfl) | ((with_reducible apply br_f); rfl) | ((with_reducible apply ex_some (mulB ?hh)); case hh => decide +kernel) | ((with_reducible apply ex_some (mulA ?hh)); case hh => decide +kernel) | ((with_reducible apply ex_some (rngL ?hh)); case hh => decide +kernel) | (refine ⟨rfl, ?_⟩)))
        refine wp_tr (ih (plainAll_mem hp _ hd) ((ss.mem hd).mono (by omega) (Nat.le_refl _)) (by omega)) ok fun r s1 ok1 ⟨ms, e, hms⟩ => ?_
        subst e
        refine ex_some rfl ?_
        refine ⟨decide_eq_true (by rw [List.length_map]; omega), ?_⟩
        refine wp_mono (wp_lcGo LSok (fun y => ∃ i, y = .int i) ok1 ?_) ?_
        · intro y hy
          obtain ⟨i, _, rfl⟩ := List.mem_map.mp hy
          refine ⟨_, rfl, fun s ok => ?_⟩
          obtain ⟨b, hb⟩ := notIn_ints (i := i) (ns := ns)
          (repeat (first | with_reducible (first | apply wp_seq | apply wp_sIf | apply wp_next | apply wp_ret | apply wp_set | apply wp_own | apply wp_par | apply wp_par3 | apply wp_asg | apply wp_for | apply wp_tVal | apply wp_tTru | apply wp_tAnd | apply wp_tOr | apply wp_tNot | apply wp_e2 | apply wp_e1 | apply wp_eC | apply wp_call | apply wp_cons | apply wp_nil | apply wp_mt | apply wp_sl | apply wp_pNo | apply wp_pAt | apply wp_rev | apply wp_eIf | apply wp_eAnd | apply wp_eOr | apply wp_eNot | apply wp_chain | apply wp_isi | apply wp_isi2 | apply wp_fn | apply wp_iOf | apply wp_iRng | apply wp_lc | apply wp_tup | apply wp_lst | apply wp_frz | apply ko_nx | apply ko_rt | apply kr_rt | apply kr_nx | apply ex_bool | apply ex_int) | ((with_reducible apply wp_eV); rfl) | ((with_reducible apply wp_eOv); rfl) | ((with_reducible apply wp_eOo); rfl) | ((with_reducible apply wp_st); rfl; decide) | ((with_reducible apply wp_stSet); rfl) | ((with_reducible apply wp_fnS); rfl) | ((with_reducible apply ex_some); rfl) | ((with_reducible apply ex_sb); rfl) | ((with_reducible apply br_t); rfl) | ((with_reducible apply br_f); rfl) | ((with_reducible apply ex_some (mulB ?hh)); case hh => decide +kernel) | ((with_reducible apply ex_some (mulA ?hh)); case hh => decide +kernel) | ((with_reducible apply ex_some (rngL ?hh)); case hh => decide +kernel) | (refine ⟨rfl, ?_⟩)))
          refine ex_some hb ?_
          (repeat (first | with_reducible (first | apply wp_seq | apply wp_sIf | apply wp_next | apply wp_ret | apply wp_set | apply wp_own | apply wp_par | apply wp_par3 | apply wp_asg | apply wp_for | apply wp_tVal | apply wp_tTru | apply wp_tAnd | apply wp_tOr | apply wp_tNot | apply wp_e2 | apply wp_e1 | apply wp_eC | apply wp_call | apply wp_cons | apply wp_nil | apply wp_mt | apply wp_sl | apply wp_pNo | apply wp_pAt | apply wp_rev | apply wp_eIf | apply wp_eAnd | apply wp_eOr | apply wp_eNot | apply wp_chain | apply wp_isi | apply wp_isi2 | apply wp_fn | apply wp_iOf | apply wp_iRng | apply wp_lc | apply wp_tup | apply wp_lst | apply wp_frz | apply ko_nx | apply ko_rt | apply kr_rt | apply kr_nx | apply ex_bool | apply ex_int) | ((with_reducible apply wp_eV); rfl) | ((with_reducible apply wp_eOv); rfl) | ((with_reducible apply wp_eOo); rfl) | ((with_reducible apply wp_st); rfl; decide) | ((with_reducible apply wp_stSet); rfl) | ((with_reducible apply wp_fnS); rfl) | ((with_reducible apply ex_some); rfl) | ((with_reducible apply ex_sb); rfl) | ((with_reducible apply br_t); rfl) | ((with_reducible apply br_f); rfl) | ((with_reducible apply ex_some (mulB ?hh)); case hh => decide +kernel) | ((with_reducible apply ex_some (mulA ?hh)); case hh => decide +kernel) | ((with_reducible apply ex_some (rngL ?hh)); case hh => decide +kernel) | (refine ⟨rfl, ?_⟩)))
          exact ⟨ok, fun _ s ok => wp_eV rfl ⟨ok, i, rfl⟩⟩
        · rintro ys s2 ⟨ok2, hl2, hy⟩
          obtain ⟨zs, rfl⟩ := ints_of hy
          rw [List.length_map, List.length_map] at hl2
          refine ex_some (add_lst (by rw [List.length_map, List.length_map]; omega)) ?_
          exact ⟨_, .inl rfl, ok2, ns ++ zs, _, _, by rw [List.map_append]; rfl, by rw [List.length_append]; omega, fun d h => hm d (List.mem_cons_of_mem _ h)⟩
      · rintro env s ⟨ok, ns, v2, v3, rfl, hl, hm⟩
        (repeat (first | with_reducible (first | apply wp_seq | apply wp_sIf | apply wp_next | apply wp_ret | apply wp_set | apply wp_own | apply wp_par | apply wp_par3 | apply wp_asg | apply wp_for | apply wp_tVal | apply wp_tTru | apply wp_tAnd | apply wp_tOr | apply wp_tNot | apply wp_e2 | apply wp_e1 | apply wp_eC | apply wp_call | apply wp_cons | apply wp_nil | apply wp_mt | apply wp_sl | apply wp_pNo | apply wp_pAt | apply wp_rev | apply wp_eIf | apply wp_eAnd | apply wp_eOr | apply wp_eNot | apply wp_chain | apply wp_isi | apply wp_isi2 | apply wp_fn | apply wp_iOf | apply wp_iRng | apply wp_lc | apply wp_tup | apply wp_lst | apply wp_frz | apply ko_nx | apply ko_rt | apply kr_rt | apply kr_nx | apply ex_bool | apply ex_int) | ((with_reducible apply wp_eV); rfl) | ((with_reducible apply wp_eOv); rfl) | ((with_reducible apply wp_eOo); rfl) | ((with_reducible apply wp_st); rfl; decide) | ((with_reducible apply wp_stSet); rfl) | ((with_reducible apply wp_fnS); rfl) | ((with_reducible apply ex_some); rfl) | ((with_reducible apply ex_sb); rfl) | ((with_reducible apply br_t); rfl) | ((with_reducible apply br_f); rfl) | ((with_reducible apply ex_some (mulB ?hh)); case hh => decide +kernel) | ((with_reducible apply ex_some (mulA ?hh)); case hh => decide +kernel) | ((with_reducible apply ex_some (rngL ?hh)); case hh => decide +kernel) | (refine ⟨rfl, ?_⟩)))
        refine ⟨ok, ns, rfl, ?_⟩
        show _ ≤ wts xs + 1
        omega
    | _ => cases hp
mutual
def exD (a b : Int) : D → D
  | .int i => if i = a then .int b else if i = b then .int a else .int i
  | .tuple xs => .tuple (exL a b xs)
  | d => d
def exL (a b : Int) : List D → List D
  | [] => []
  | d :: ds => exD a b d :: exL a b ds
end
theorem exL_map (a b : Int) : ∀ xs : List D, exL a b xs = xs.map (exD a b)
  | [] => rfl
  | d :: ds => by simp only [exL, List.map_cons]; rw [exL_map a b ds]
theorem san_ex (a b : Int) : ∀ (k : Nat) {d : D}, San W k d → San (wt d) k (exD a b d) := by
  intro k
  induction k generalizing W with
  | zero =>
    intro d h
    cases d with
    | int i => simp only [exD]; split <;> (try split) <;> exact San.int
    | tuple xs => have h2 : PyData.depthAll xs + 1 ≤ 0 := h.dep; omega
    | none => exact ⟨h.lay, Nat.le_refl _, h.dep⟩
    | bool b => exact ⟨h.lay, Nat.le_refl _, h.dep⟩
    | str b => exact ⟨h.lay, Nat.le_refl _, h.dep⟩
    | list b => exact ⟨h.lay, Nat.le_refl _, h.dep⟩
    | dict b => exact ⟨h.lay, Nat.le_refl _, h.dep⟩
  | succ k ih =>
    intro d h
    cases d with
    | int i => simp only [exD]; split <;> (try split) <;> exact San.int
    | tuple xs =>
      simp only [exD]
      have ss := h.ofTup
      have key : ∀ ys : List D, (∀ y ∈ ys, y ∈ xs) → Sans (wts ys) k (exL a b ys) := by
        intro ys
        induction ys with
        | nil => intro _; exact Sans.nil
        | cons y ys ih2 =>
          intro hm
          exact Sans.cons (ih (ss.mem (hm y List.mem_cons_self))) (ih2 fun z hz => hm z (List.mem_cons_of_mem _ hz))
      exact (key xs fun y h => h).tup
    | none => exact ⟨h.lay, Nat.le_refl _, h.dep⟩
    | bool b => exact ⟨h.lay, Nat.le_refl _, h.dep⟩
    | str b => exact ⟨h.lay, Nat.le_refl _, h.dep⟩
    | list b => exact ⟨h.lay, Nat.le_refl _, h.dep⟩
    | dict b => exact ⟨h.lay, Nat.le_refl _, h.dep⟩
/-- m ends in a, drawing nothing -/
structure Is {α : Type} (a : α) (s : LS) (b : α) (s' : LS) : Prop where
  hs : s' = s
  ha : b = a
theorem is_rfl {α : Type} {a : α} {s : LS} : Is a s a s := ⟨rfl, rfl⟩
theorem pure_of {α : Type} {m : M α} {a : α} (h : ∀ s, WP m s (Is a s)) : m = pure a := by
  funext s
  obtain ⟨b, s', e, h1, h2⟩ := h s
  subst h1
  subst h2
  exact e
theorem exch_eq (a b : Int) : ∀ (N : Nat) {k : Nat} {d : D}, plainB d = true → San 10000 k d → k < N → f_law_exchanged N [d, .int a, .int b] = pure (exD a b d) := by
  intro N
  induction N with
  | zero => intro k d _ _ hk; omega
  | succ N ih =>
    intro k d hp hs hk
    refine pure_of fun s => ?_
    unfold f_law_exchanged
    apply wp_runD
    unfold b_law_exchanged
    cases d with
    | bool b => (repeat (first | with_reducible (first | apply wp_seq | apply wp_sIf | apply wp_next | apply wp_ret | apply wp_set | apply wp_own | apply wp_par | apply wp_par3 | apply wp_asg | apply wp_for | apply wp_tVal | apply wp_tTru | apply wp_tAnd | apply wp_tOr | apply wp_tNot | apply wp_e2 | apply wp_e1 | apply wp_eC | apply wp_call | apply wp_cons | apply wp_nil | apply wp_mt | apply wp_sl | apply wp_pNo | apply wp_pAt | apply wp_rev | apply wp_eIf | apply wp_eAnd | apply wp_eOr | apply wp_eNot | apply wp_chain | apply wp_isi | apply wp_isi2 | apply wp_fn | apply wp_iOf | apply wp_iRng | apply wp_lc | apply wp_tup | apply wp_lst | apply wp_frz | apply ko_nx | apply ko_rt | apply kr_rt | apply kr_nx | apply ex_bool | apply ex_int) | ((with_reducible apply wp_eV); rfl) | ((with_reducible apply wp_eOv); rfl) | ((with_reducible apply wp_eOo); rfl) | ((with_reducible apply wp_st); rfl; decide) | ((with_reducible apply wp_stSet); rfl) | ((with_reducible apply wp_fnS); rfl) | ((with_reducible apply ex_some); rfl) | ((with_reducible apply ex_sb); rfl) | ((with_reducible apply br_t); rfl) | ((with_reducible apply br_f); rfl) | ((with_reducible apply ex_some (mulB ?hh)); case hh => decide +kernel) | ((with_reducible apply ex_some (mulA ?hh)); case hh => decide +kernel) | ((with_reducible apply ex_some (rngL ?hh)); case hh => decide +kernel) | (refine ⟨rfl, ?_⟩))); rfl
    | str b => (repeat (first | with_reducible (first | apply wp_seq | apply wp_sIf | apply wp_next | apply wp_ret | apply wp_set | apply wp_own | apply wp_par | apply wp_par3 | apply wp_asg | apply wp_for | apply wp_tVal | apply wp_tTru | apply wp_tAnd | apply wp_tOr | apply wp_tNot | apply wp_e2 | apply wp_e1 | apply wp_eC | apply wp_call | apply wp_cons | apply wp_nil | apply wp_mt | apply wp_sl | apply wp_pNo | apply wp_pAt | apply wp_rev | apply wp_eIf | apply wp_eAnd | apply wp_eOr | apply wp_eNot | apply wp_chain | apply wp_isi | apply wp_isi2 | apply wp_fn | apply wp_iOf | apply wp_iRng | apply wp_lc | apply wp_tup | apply wp_lst | apply wp_frz | apply ko_nx | apply ko_rt | apply kr_rt | apply kr_nx | apply ex_bool | apply ex_int) | ((with_reducible apply wp_eV); rfl) | ((with_reducible apply wp_eOv); rfl) | ((with_reducible apply wp_eOo); rfl) | ((with_reducible apply wp_st); rfl; decide) | ((with_reducible apply wp_stSet); rfl) | ((with_reducible apply wp_fnS); rfl) | ((with_reducible apply ex_some); rfl) | ((with_reducible apply ex_sb); rfl) | ((with_reducible apply br_t); rfl) | ((with_reducible apply br_f); rfl) | ((with_reducible apply ex_some (mulB ?hh)); case hh => decide +kernel) | ((with_reducible apply ex_some (mulA ?hh)); case hh => decide +kernel) | ((with_reducible apply ex_some (rngL ?hh)); case hh => decide +kernel) | (refine ⟨rfl, ?_⟩))); rfl
    | int i =>
      (repeat (first | with_reducible (first | apply wp_seq | apply wp_sIf | apply wp_next | apply wp_ret | apply wp_set | apply wp_own | apply wp_par | apply wp_par3 | apply wp_asg | apply wp_for | apply wp_tVal | apply wp_tTru | apply wp_tAnd | apply wp_tOr | apply wp_tNot | apply wp_e2 | apply wp_e1 | apply wp_eC | apply wp_call | apply wp_cons | apply wp_nil | apply wp_mt | apply wp_sl | apply wp_pNo | apply wp_pAt | apply wp_rev | apply wp_eIf | apply wp_eAnd | apply wp_eOr | apply wp_eNot | apply wp_chain | apply wp_isi | apply wp_isi2 | apply wp_fn | apply wp_iOf | apply wp_iRng | apply wp_lc | apply wp_tup | apply wp_lst | apply wp_frz | apply ko_nx | apply ko_rt | apply kr_rt | apply kr_nx | apply ex_bool | apply ex_int) | ((with_reducible apply wp_eV); rfl) | ((with_reducible apply wp_eOv); rfl) | ((with_reducible apply wp_eOo); rfl) | ((with_reducible apply wp_st); rfl; decide) | ((with_reducible apply wp_stSet); rfl) | ((with_reducible apply wp_fnS); rfl) | ((with_reducible apply ex_some); rfl) | ((with_reducible apply ex_sb); rfl) | ((with_reducible apply br_t); rfl) | ((with_reducible apply br_f); rfl) | ((with_reducible apply ex_some (mulB ?hh)); case hh => decide +kernel) | ((with_reducible apply ex_some (mulA ?hh)); case hh => decide +kernel) | ((with_reducible apply ex_some (rngL ?hh)); case hh => decide +kernel) | (refine ⟨rfl, ?_⟩)))
      simp only [exD]
      have eqb : ∀ j : Int, PyData.eqv (.int i) (.int j) = decide (i = j) := fun j => by show (i == j) = _; rw [Bool.eq_iff_iff]; simp
      rw [eqb]
      by_cases h : i = a
      · refine br_t (decide_eq_true h) ?_
        (repeat (first | with_reducible (first | apply wp_seq | apply wp_sIf | apply wp_next | apply wp_ret | apply wp_set | apply wp_own | apply wp_par | apply wp_par3 | apply wp_asg | apply wp_for | apply wp_tVal | apply wp_tTru | apply wp_tAnd | apply wp_tOr | apply wp_tNot | apply wp_e2 | apply wp_e1 | apply wp_eC | apply wp_call | apply wp_cons | apply wp_nil | apply wp_mt | apply wp_sl | apply wp_pNo | apply wp_pAt | apply wp_rev | apply wp_eIf | apply wp_eAnd | apply wp_eOr | apply wp_eNot | apply wp_chain | apply wp_isi | apply wp_isi2 | apply wp_fn | apply wp_iOf | apply wp_iRng | apply wp_lc | apply wp_tup | apply wp_lst | apply wp_frz | apply ko_nx | apply ko_rt | apply kr_rt | apply kr_nx | apply ex_bool | apply ex_int) | ((with_reducible apply wp_eV); rfl) | ((with_reducible apply wp_eOv); rfl) | ((with_reducible apply wp_eOo); rfl) | ((with_reducible apply wp_st); rfl; decide) | ((with_reducible apply wp_stSet); rfl) | ((with_reducible apply wp_fnS); rfl) | ((with_reducible apply ex_some); rfl) | ((with_reducible apply ex_sb); rfl) | ((with_reducible apply br_t); rfl) | ((with_reducible apply br_f); rfl) | ((with_reducible apply ex_some (mulB ?hh)); case hh => decide +kernel) | ((with_reducible apply ex_some (mulA ?hh)); case hh => decide +kernel) | ((with_reducible apply ex_some (rngL ?hh)); case hh => decide +kernel) | (refine ⟨rfl, ?_⟩)))
        rw [if_pos h]
      · refine br_f (decide_eq_false h) ?_
        (repeat (first | with_reducible (first | apply wp_seq | apply wp_sIf | apply wp_next | apply wp_ret | apply wp_set | apply wp_own | apply wp_par | apply wp_par3 | apply wp_asg | apply wp_for | apply wp_tVal | apply wp_tTru | apply wp_tAnd | apply wp_tOr | apply wp_tNot | apply wp_e2 | apply wp_e1 | apply wp_eC | apply wp_call | apply wp_cons | apply wp_nil | apply wp_mt | apply wp_sl | apply wp_pNo | apply wp_pAt | apply wp_rev | apply wp_eIf | apply wp_eAnd | apply wp_eOr | apply wp_eNot | apply wp_chain | apply wp_isi | apply wp_isi2 | apply wp_fn | apply wp_iOf | apply wp_iRng | apply wp_lc | apply wp_tup | apply wp_lst | apply wp_frz | apply ko_nx | apply ko_rt | apply kr_rt | apply kr_nx | apply ex_bool | apply ex_int) | ((with_reducible apply wp_eV); rfl) | ((with_reducible apply wp_eOv); rfl) | ((with_reducible apply wp_eOo); rfl) | ((with_reducible apply wp_st); rfl; decide) | ((with_reducible apply wp_stSet); rfl) | ((with_reducible apply wp_fnS); rfl) | ((with_reducible apply ex_some); rfl) | ((with_reducible apply ex_sb); rfl) | ((with_reducible apply br_t); rfl) | ((with_reducible apply br_f); rfl) | ((with_reducible apply ex_some (mulB ?hh)); case hh => decide +kernel) | ((with_reducible apply ex_some (mulA ?hh)); case hh => decide +kernel) | ((with_reducible apply ex_some (rngL ?hh)); case hh => decide +kernel) | (refine ⟨rfl, ?_⟩)))
        rw [eqb, if_neg h]
        by_cases h2 : i = b
        · refine br_t (decide_eq_true h2) ?_
          (repeat (first | with_reducible (first | apply wp_seq | apply wp_sIf | apply wp_next | apply wp_ret | apply wp_set | apply wp_own | apply wp_par | apply wp_par3 | apply wp_asg | apply wp_for | apply wp_tVal | apply wp_tTru | apply wp_tAnd | apply wp_tOr | apply wp_tNot | apply wp_e2 | apply wp_e1 | apply wp_eC | apply wp_call | apply wp_cons | apply wp_nil | apply wp_mt | apply wp_sl | apply wp_pNo | apply wp_pAt | apply wp_rev | apply wp_eIf | apply wp_eAnd | apply wp_eOr | apply wp_eNot | apply wp_chain | apply wp_isi | apply wp_isi2 | apply wp_fn | apply wp_iOf | apply wp_iRng | apply wp_lc | apply wp_tup | apply wp_lst | apply wp_frz | apply ko_nx | apply ko_rt | apply kr_rt | apply kr_nx | apply ex_bool | apply ex_int) | ((with_reducible apply wp_eV); rfl) | ((with_reducible apply wp_eOv); rfl) | ((with_reducible apply wp_eOo); rfl) | ((with_reducible apply wp_st); rfl; decide) | ((with_reducible apply wp_stSet); rfl) | ((with_reducible apply wp_fnS); rfl) | ((with_reducible apply ex_some); rfl) | ((with_reducible apply ex_sb); rfl) | ((with_reducible apply br_t); rfl) | ((with_reducible apply br_f); rfl) | ((with_reducible apply ex_some (mulB ?hh)); case hh => decide +kernel) | ((with_reducible apply ex_some (mulA ?hh)); case hh => decide +kernel) | ((with_reducible apply ex_some (rngL ?hh)); case hh => decide +kernel) | (refine ⟨rfl, ?_⟩)))
          rw [if_pos h2]
        · refine br_f (decide_eq_false h2) ?_
          (repeat (first | with_reducible (first | apply wp_seq | apply wp_sIf | apply wp_next | apply wp_ret | apply wp_set | apply wp_own | apply wp_par | apply wp_par3 | apply wp_asg | apply wp_for | apply wp_tVal | apply wp_tTru | apply wp_tAnd | apply wp_tOr | apply wp_tNot | apply wp_e2 | apply wp_e1 | apply wp_eC | apply wp_call | apply wp_cons | apply wp_nil | apply wp_mt | apply wp_sl | apply wp_pNo | apply wp_pAt | apply wp_rev | apply wp_eIf | apply wp_eAnd | apply wp_eOr | apply wp_eNot | apply wp_chain | apply wp_isi | apply wp_isi2 | apply wp_fn | apply wp_iOf | apply wp_iRng | apply wp_lc | apply wp_tup | apply wp_lst | apply wp_frz | apply ko_nx | apply ko_rt | apply kr_rt | apply kr_nx | apply ex_bool | apply ex_int) | ((with_reducible apply wp_eV); rfl) | ((with_reducible apply wp_eOv); rfl) | ((with_reducible apply wp_eOo); rfl) | ((with_reducible apply wp_st); rfl; decide) | ((with_reducible apply wp_stSet); rfl) | ((with_reducible apply wp_fnS); rfl) | ((with_reducible apply ex_some); rfl) | ((with_reducible apply ex_sb); rfl) | ((with_reducible apply br_t); rfl) | ((with_reducible apply br_f); rfl) | ((with_reducible apply ex_some (mulB ?hh)); case hh => decide +kernel) | ((with_reducible apply ex_some (mulA ?hh)); case hh => decide +kernel) | ((with_reducible apply ex_some (rngL ?hh)); case hh => decide +kernel) | (refine ⟨rfl, ?_⟩)))
          rw [if_neg h2]
    | tuple xs =>
      have ss := hs.ofTup
      have hw : wts xs + 1 ≤ 10000 := hs.w
      have hl := wts_len (xs := xs)
      have hk1 : 1 ≤ k := by have h2 : PyData.depthAll xs + 1 ≤ k := hs.dep; omega
      (repeat (first | with_reducible (first | apply wp_seq | apply wp_sIf | apply wp_next | apply wp_ret | apply wp_set | apply wp_own | apply wp_par | apply wp_par3 | apply wp_asg | apply wp_for | apply wp_tVal | apply wp_tTru | apply wp_tAnd | apply wp_tOr | apply wp_tNot | apply wp_e2 | apply wp_e1 | apply wp_eC | apply wp_call | apply wp_cons | apply wp_nil | apply wp_mt | apply wp_sl | apply wp_pNo | apply wp_pAt | apply wp_rev | apply wp_eIf | apply wp_eAnd | apply wp_eOr | apply wp_eNot | apply wp_chain | apply wp_isi | apply wp_isi2 | apply wp_fn | apply wp_iOf | apply wp_iRng | apply wp_lc | apply wp_tup | apply wp_lst | apply wp_frz | apply ko_nx | apply ko_rt | apply kr_rt | apply kr_nx | apply ex_bool | apply ex_int) | ((with_reducible apply wp_eV); rfl) | ((with_reducible apply wp_eOv); rfl) | ((with_reducible apply wp_eOo); rfl) | ((with_reducible apply wp_st); rfl; decide) | ((with_reducible apply wp_stSet); rfl) | ((with_reducible apply wp_fnS); rfl) | ((with_reducible apply ex_some); rfl) | ((with_reducible apply ex_sb); rfl) | ((with_reducible apply br_t); rfl) | ((with_reducible apply br_f); rfl) | ((with_reducible apply ex_some (mulB ?hh)); case hh => decide +kernel) | ((with_reducible apply ex_some (mulA ?hh)); case hh => decide +kernel) | ((with_reducible apply ex_some (rngL ?hh)); case hh => decide +kernel) | (refine ⟨rfl, ?_⟩)))
      refine ⟨decide_eq_true (by omega), ?_⟩
      refine wp_eq (lcGo_pure (p := fun _ => true) (f := exD a b) ?_) (wp_pure ?_)
      · intro d hd
        refine ⟨_, rfl, rfl, fun _ => ?_⟩
        exact ih (plainAll_mem hp _ hd) ((ss.mem hd).mono (by omega) (Nat.le_refl _)) (by omega)
      · rw [List.filter_eq_self.mpr fun _ _ => rfl, ← exL_map]
        (repeat (first | with_reducible (first | apply wp_seq | apply wp_sIf | apply wp_next | apply wp_ret | apply wp_set | apply wp_own | apply wp_par | apply wp_par3 | apply wp_asg | apply wp_for | apply wp_tVal | apply wp_tTru | apply wp_tAnd | apply wp_tOr | apply wp_tNot | apply wp_e2 | apply wp_e1 | apply wp_eC | apply wp_call | apply wp_cons | apply wp_nil | apply wp_mt | apply wp_sl | apply wp_pNo | apply wp_pAt | apply wp_rev | apply wp_eIf | apply wp_eAnd | apply wp_eOr | apply wp_eNot | apply wp_chain | apply wp_isi | apply wp_isi2 | apply wp_fn | apply wp_iOf | apply wp_iRng | apply wp_lc | apply wp_tup | apply wp_lst | apply wp_frz | apply ko_nx | apply ko_rt | apply kr_rt | apply kr_nx | apply ex_bool | apply ex_int) | ((with_reducible apply wp_eV); rfl) | ((with_reducible apply wp_eOv); rfl) | ((with_reducible apply wp_eOo); rfl) | ((with_reducible apply wp_st); rfl; decide) | ((with_reducible apply wp_stSet); rfl) | ((with_reducible apply wp_fnS); rfl) | ((with_reducible apply ex_some); rfl) | ((with_reducible apply ex_sb); rfl) | ((with_reducible apply br_t); rfl) | ((with_reducible apply br_f); rfl) | ((with_reducible apply ex_some (mulB ?hh)); case hh => decide +kernel) | ((with_reducible apply ex_some (mulA ?hh)); case hh => decide +kernel) | ((with_reducible apply ex_some (rngL ?hh)); case hh => decide +kernel) | (refine ⟨rfl, ?_⟩)))
        rfl
    | _ => cases hp

theorem strs_all : ∀ {ys : List D} {n : Nat}, Sans W n ys → (∀ y ∈ ys, isCl .str y = true) → ∃ zs : List (List Nat), strsOf ys = some (zs.map S) ∧ (zs.map List.length).sum ≤ wts ys ∧ ∀ c ∈ zs.flatten, c < 1114112
  | [], _, _, _ => ⟨[], rfl, Nat.zero_le _, fun _ h => by simp at h⟩
  | d :: ds, n, hs, h => by
    have h1 := h d List.mem_cons_self
    have s1 := hs.mem (List.mem_cons_self (a := d) (l := ds))
    obtain ⟨zs, e, hw, hc⟩ := strs_all (ys := ds) (hs.sub (List.sublist_cons_self d ds)) fun y hy => h y (List.mem_cons_of_mem _ hy)
    cases d with
    | str z =>
      refine ⟨z.cps.toList :: zs, ?_, ?_, ?_⟩
      · simp only [strsOf, e, List.map_cons, Option.map_some, S_tl]
      · simp only [List.map_cons, List.sum_cons, wts, wt, Array.length_toList]
        show z.length + _ ≤ _
        omega
      · intro c hc'
        rw [List.flatten_cons] at hc'
        rcases List.mem_append.mp hc' with hc' | hc'
        · exact (strOk_iff.mp s1.strOk) c hc'
        · exact hc c hc'
    | _ => cases h1
theorem joinL_nil : ∀ zs : List (List Nat), TL.joinL [] zs = zs.flatten
  | [] => rfl
  | [p] => by simp [TL.joinL]
  | p :: q :: r => by simp only [TL.joinL, List.nil_append, joinL_nil (q :: r), List.flatten_cons]
theorem join_empty {ys : List D} (hs : Sans W n ys) (h : ∀ y ∈ ys, isCl .str y = true) (hW : wts ys ≤ 10000) : ∃ z, joinD (.str "") [.tuple ys] = some (.str z) ∧ PyData.strOk z = true ∧ z.length ≤ wts ys := by
  obtain ⟨zs, e, hw, hc⟩ := strs_all hs h
  refine ⟨S zs.flatten, ?_, ?_, ?_⟩
  · simp only [joinD, e]
    have l : (((zs.map S).map (·.length)).sum + (zs.map S).length * Str.length (Str.ofString "")) ≤ 1048576 := by
      rw [lens]
      show (zs.map List.length).sum + _ * 0 ≤ _
      omega
    rw [if_pos (okl l)]
    have e0 : (Str.ofString "") = S [] := by decide +kernel
    rw [e0, join_S, joinL_nil]
  · rw [strOk_iff]
    intro c h2
    exact hc c (by simpa using h2)
  · rw [S_len, List.length_flatten]; omega
theorem signs_san {z : Str} (h : PyData.strOk z = true) : Sans (2 * z.length) n (signsD z) := by
  have a := Sans.of_all (ys := signsD z) (n := n) (B := 2) fun y hy => by
    obtain ⟨c, hc, rfl⟩ := List.mem_map.mp hy
    refine San.str (x := one c) ?_
    rw [strOk_iff]
    intro c2 h2
    have e : c2 = c := by simpa [one] using h2
    subst e
    exact (strOk_iff.mp h) _ hc
  have e : (signsD z).length = z.length := by rw [signsD, List.length_map, Array.length_toList]; rfl
  rw [e] at a
  exact a.mono (by omega) (Nat.le_refl _)
theorem plain_filter {xs : List D} {p : D → Bool} : (xs.filter p).isEmpty = true ↔ ∀ x ∈ xs, p x = false := by
  rw [List.isEmpty_iff, List.filter_eq_nil_iff]
  constructor
  · intro h x hx; have := h x hx; simpa using this
  · intro h x hx; rw [h x hx]; simp
/-- _law_cut -/
theorem tr_cut : ∀ (N : Nat) {k : Nat} {d : D}, plainB d = true → San 10000 k d → k < N → k ≤ 20 → Tr (f_law_cut N [d]) fun r => San (5 * wt d + 20) (k + 1) r ∧ (isCl .tuple d = true → isCl .tuple r = true) := by
  intro N
  induction N with
  | zero => intro k d _ _ hk; omega
  | succ N ih =>
    intro k d hp hs hk hk2 s ok
    unfold f_law_cut
    apply wp_runS
    unfold b_law_cut
    have self : San (5 * wt d + 20) (k + 1) d := ⟨hs.lay, by omega, by have := hs.dep; omega⟩
    cases d with
    | bool b => (repeat (first | with_reducible (first | apply wp_seq | apply wp_sIf | apply wp_next | apply wp_ret | apply wp_set | apply wp_own | apply wp_par | apply wp_par3 | apply wp_asg | apply wp_for | apply wp_tVal | apply wp_tTru | apply wp_tAnd | apply wp_tOr | apply wp_tNot | apply wp_e2 | apply wp_e1 | apply wp_eC | apply wp_call | apply wp_cons | apply wp_nil | apply wp_mt | apply wp_sl | apply wp_pNo | apply wp_pAt | apply wp_rev | apply wp_eIf | apply wp_eAnd | apply wp_eOr | apply wp_eNot | apply wp_chain | apply wp_isi | apply wp_isi2 | apply wp_fn | apply wp_iOf | apply wp_iRng | apply wp_lc | apply wp_tup | apply wp_lst | apply wp_frz | apply ko_nx | apply ko_rt | apply kr_rt | apply kr_nx | apply ex_bool | apply ex_int) | ((with_reducible apply wp_eV); rfl) | ((with_reducible apply wp_eOv); rfl) | ((with_reducible apply wp_eOo); rfl) | ((with_reducible apply wp_st); rfl; decide) | ((with_reducible apply wp_stSet); rfl) | ((with_reducible apply wp_fnS); rfl) | ((with_reducible apply ex_some); rfl) | ((with_reducible apply ex_sb); rfl) | ((with_reducible apply br_t); rfl) | ((with_reducible apply br_f); rfl) | ((with_reducible apply ex_some (mulB ?hh)); case hh => decide +kernel) | ((with_reducible apply ex_some (mulA ?hh)); case hh => decide +kernel) | ((with_reducible apply ex_some (rngL ?hh)); case hh => decide +kernel) | (refine ⟨rfl, ?_⟩))); exact ⟨ok, self, id⟩
    | int b => (repeat (first | with_reducible (first | apply wp_seq | apply wp_sIf | apply wp_next | apply wp_ret | apply wp_set | apply wp_own | apply wp_par | apply wp_par3 | apply wp_asg | apply wp_for | apply wp_tVal | apply wp_tTru | apply wp_tAnd | apply wp_tOr | apply wp_tNot | apply wp_e2 | apply wp_e1 | apply wp_eC | apply wp_call | apply wp_cons | apply wp_nil | apply wp_mt | apply wp_sl | apply wp_pNo | apply wp_pAt | apply wp_rev | apply wp_eIf | apply wp_eAnd | apply wp_eOr | apply wp_eNot | apply wp_chain | apply wp_isi | apply wp_isi2 | apply wp_fn | apply wp_iOf | apply wp_iRng | apply wp_lc | apply wp_tup | apply wp_lst | apply wp_frz | apply ko_nx | apply ko_rt | apply kr_rt | apply kr_nx | apply ex_bool | apply ex_int) | ((with_reducible apply wp_eV); rfl) | ((with_reducible apply wp_eOv); rfl) | ((with_reducible apply wp_eOo); rfl) | ((with_reducible apply wp_st); rfl; decide) | ((with_reducible apply wp_stSet); rfl) | ((with_reducible apply wp_fnS); rfl) | ((with_reducible apply ex_some); rfl) | ((with_reducible apply ex_sb); rfl) | ((with_reducible apply br_t); rfl) | ((with_reducible apply br_f); rfl) | ((with_reducible apply ex_some (mulB ?hh)); case hh => decide +kernel) | ((with_reducible apply ex_some (mulA ?hh)); case hh => decide +kernel) | ((with_reducible apply ex_some (rngL ?hh)); case hh => decide +kernel) | (refine ⟨rfl, ?_⟩))); exact ⟨ok, self, id⟩
    | str b => (repeat (first | with_reducible (first | apply wp_seq | apply wp_sIf | apply wp_next | apply wp_ret | apply wp_set | apply wp_own | apply wp_par | apply wp_par3 | apply wp_asg | apply wp_for | apply wp_tVal | apply wp_tTru | apply wp_tAnd | apply wp_tOr | apply wp_tNot | apply wp_e2 | apply wp_e1 | apply wp_eC | apply wp_call | apply wp_cons | apply wp_nil | apply wp_mt | apply wp_sl | apply wp_pNo | apply wp_pAt | apply wp_rev | apply wp_eIf | apply wp_eAnd | apply wp_eOr | apply wp_eNot | apply wp_chain | apply wp_isi | apply wp_isi2 | apply wp_fn | apply wp_iOf | apply wp_iRng | apply wp_lc | apply wp_tup | apply wp_lst | apply wp_frz | apply ko_nx | apply ko_rt | apply kr_rt | apply kr_nx | apply ex_bool | apply ex_int) | ((with_reducible apply wp_eV); rfl) | ((with_reducible apply wp_eOv); rfl) | ((with_reducible apply wp_eOo); rfl) | ((with_reducible apply wp_st); rfl; decide) | ((with_reducible apply wp_stSet); rfl) | ((with_reducible apply wp_fnS); rfl) | ((with_reducible apply ex_some); rfl) | ((with_reducible apply ex_sb); rfl) | ((with_reducible apply br_t); rfl) | ((with_reducible apply br_f); rfl) | ((with_reducible apply ex_some (mulB ?hh)); case hh => decide +kernel) | ((with_reducible apply ex_some (mulA ?hh)); case hh => decide +kernel) | ((with_reducible apply ex_some (rngL ?hh)); case hh => decide +kernel) | (refine ⟨rfl, ?_⟩))); exact ⟨ok, self, id⟩
    | tuple xs =>
      have ss := hs.ofTup
      have e : wt (.tuple xs) = wts xs + 1 := rfl
      have hw : wts xs + 1 ≤ 10000 := hs.w
      have hl := wts_len (xs := xs)
      have hk1 : 1 ≤ k := by have h2 : PyData.depthAll xs + 1 ≤ k := hs.dep; omega
      (repeat (first | with_reducible (first | apply wp_seq | apply wp_sIf | apply wp_next | apply wp_ret | apply wp_set | apply wp_own | apply wp_par | apply wp_par3 | apply wp_asg | apply wp_for | apply wp_tVal | apply wp_tTru | apply wp_tAnd | apply wp_tOr | apply wp_tNot | apply wp_e2 | apply wp_e1 | apply wp_eC | apply wp_call | apply wp_cons | apply wp_nil | apply wp_mt | apply wp_sl | apply wp_pNo | apply wp_pAt | apply wp_rev | apply wp_eIf | apply wp_eAnd | apply wp_eOr | apply wp_eNot | apply wp_chain | apply wp_isi | apply wp_isi2 | apply wp_fn | apply wp_iOf | apply wp_iRng | apply wp_lc | apply wp_tup | apply wp_lst | apply wp_frz | apply ko_nx | apply ko_rt | apply kr_rt | apply kr_nx | apply ex_bool | apply ex_int) | ((with_reducible apply wp_eV); rfl) | ((with_reducible apply wp_eOv); rfl) | ((with_reducible apply wp_eOo); rfl) | ((with_reducible apply wp_st); rfl; decide) | ((with_reducible apply wp_stSet); rfl) | ((with_reducible apply wp_fnS); rfl) | ((with_reducible apply ex_some); rfl) | ((with_reducible apply ex_sb); rfl) | ((with_reducible apply br_t); rfl) | ((with_reducible apply br_f); rfl) | ((with_reducible apply ex_some (mulB ?hh)); case hh => decide +kernel) | ((with_reducible apply ex_some (mulA ?hh)); case hh => decide +kernel) | ((with_reducible apply ex_some (rngL ?hh)); case hh => decide +kernel) | (refine ⟨rfl, ?_⟩)))
      refine ex_some (eq_empty hs (by omega)) ?_
      (repeat (first | with_reducible (first | apply wp_seq | apply wp_sIf | apply wp_next | apply wp_ret | apply wp_set | apply wp_own | apply wp_par | apply wp_par3 | apply wp_asg | apply wp_for | apply wp_tVal | apply wp_tTru | apply wp_tAnd | apply wp_tOr | apply wp_tNot | apply wp_e2 | apply wp_e1 | apply wp_eC | apply wp_call | apply wp_cons | apply wp_nil | apply wp_mt | apply wp_sl | apply wp_pNo | apply wp_pAt | apply wp_rev | apply wp_eIf | apply wp_eAnd | apply wp_eOr | apply wp_eNot | apply wp_chain | apply wp_isi | apply wp_isi2 | apply wp_fn | apply wp_iOf | apply wp_iRng | apply wp_lc | apply wp_tup | apply wp_lst | apply wp_frz | apply ko_nx | apply ko_rt | apply kr_rt | apply kr_nx | apply ex_bool | apply ex_int) | ((with_reducible apply wp_eV); rfl) | ((with_reducible apply wp_eOv); rfl) | ((with_reducible apply wp_eOo); rfl) | ((with_reducible apply wp_st); rfl; decide) | ((with_reducible apply wp_stSet); rfl) | ((with_reducible apply wp_fnS); rfl) | ((with_reducible apply ex_some); rfl) | ((with_reducible apply ex_sb); rfl) | ((with_reducible apply br_t); rfl) | ((with_reducible apply br_f); rfl) | ((with_reducible apply ex_some (mulB ?hh)); case hh => decide +kernel) | ((with_reducible apply ex_some (mulA ?hh)); case hh => decide +kernel) | ((with_reducible apply ex_some (rngL ?hh)); case hh => decide +kernel) | (refine ⟨rfl, ?_⟩)))
      by_cases hne : xs.isEmpty = true
      · refine br_t hne ?_
        (repeat (first | with_reducible (first | apply wp_seq | apply wp_sIf | apply wp_next | apply wp_ret | apply wp_set | apply wp_own | apply wp_par | apply wp_par3 | apply wp_asg | apply wp_for | apply wp_tVal | apply wp_tTru | apply wp_tAnd | apply wp_tOr | apply wp_tNot | apply wp_e2 | apply wp_e1 | apply wp_eC | apply wp_call | apply wp_cons | apply wp_nil | apply wp_mt | apply wp_sl | apply wp_pNo | apply wp_pAt | apply wp_rev | apply wp_eIf | apply wp_eAnd | apply wp_eOr | apply wp_eNot | apply wp_chain | apply wp_isi | apply wp_isi2 | apply wp_fn | apply wp_iOf | apply wp_iRng | apply wp_lc | apply wp_tup | apply wp_lst | apply wp_frz | apply ko_nx | apply ko_rt | apply kr_rt | apply kr_nx | apply ex_bool | apply ex_int) | ((with_reducible apply wp_eV); rfl) | ((with_reducible apply wp_eOv); rfl) | ((with_reducible apply wp_eOo); rfl) | ((with_reducible apply wp_st); rfl; decide) | ((with_reducible apply wp_stSet); rfl) | ((with_reducible apply wp_fnS); rfl) | ((with_reducible apply ex_some); rfl) | ((with_reducible apply ex_sb); rfl) | ((with_reducible apply br_t); rfl) | ((with_reducible apply br_f); rfl) | ((with_reducible apply ex_some (mulB ?hh)); case hh => decide +kernel) | ((with_reducible apply ex_some (mulA ?hh)); case hh => decide +kernel) | ((with_reducible apply ex_some (rngL ?hh)); case hh => decide +kernel) | (refine ⟨rfl, ?_⟩)))
        exact ⟨ok, self, id⟩
      · refine br_f (by simpa using hne) ?_
        have hlen : 0 < xs.length := by cases xs with | nil => exact absurd rfl hne | cons _ _ => simp
        have fe : (xs.filter fun d => !isCl .str d).Sublist xs := List.filter_sublist
        (repeat (first | with_reducible (first | apply wp_seq | apply wp_sIf | apply wp_next | apply wp_ret | apply wp_set | apply wp_own | apply wp_par | apply wp_par3 | apply wp_asg | apply wp_for | apply wp_tVal | apply wp_tTru | apply wp_tAnd | apply wp_tOr | apply wp_tNot | apply wp_e2 | apply wp_e1 | apply wp_eC | apply wp_call | apply wp_cons | apply wp_nil | apply wp_mt | apply wp_sl | apply wp_pNo | apply wp_pAt | apply wp_rev | apply wp_eIf | apply wp_eAnd | apply wp_eOr | apply wp_eNot | apply wp_chain | apply wp_isi | apply wp_isi2 | apply wp_fn | apply wp_iOf | apply wp_iRng | apply wp_lc | apply wp_tup | apply wp_lst | apply wp_frz | apply ko_nx | apply ko_rt | apply kr_rt | apply kr_nx | apply ex_bool | apply ex_int) | ((with_reducible apply wp_eV); rfl) | ((with_reducible apply wp_eOv); rfl) | ((with_reducible apply wp_eOo); rfl) | ((with_reducible apply wp_st); rfl; decide) | ((with_reducible apply wp_stSet); rfl) | ((with_reducible apply wp_fnS); rfl) | ((with_reducible apply ex_some); rfl) | ((with_reducible apply ex_sb); rfl) | ((with_reducible apply br_t); rfl) | ((with_reducible apply br_f); rfl) | ((with_reducible apply ex_some (mulB ?hh)); case hh => decide +kernel) | ((with_reducible apply ex_some (mulA ?hh)); case hh => decide +kernel) | ((with_reducible apply ex_some (rngL ?hh)); case hh => decide +kernel) | (refine ⟨rfl, ?_⟩)))
        refine ⟨decide_eq_true (by omega), ?_⟩
        refine wp_eq (lcGo_pure (p := fun d => !isCl .str d) (f := id) ?_) (wp_pure ?_)
        · intro d hd
          refine ⟨_, rfl, ?_, fun _ => rfl⟩
          refine pure_of fun s => ?_
          (repeat (first | with_reducible (first | apply wp_seq | apply wp_sIf | apply wp_next | apply wp_ret | apply wp_set | apply wp_own | apply wp_par | apply wp_par3 | apply wp_asg | apply wp_for | apply wp_tVal | apply wp_tTru | apply wp_tAnd | apply wp_tOr | apply wp_tNot | apply wp_e2 | apply wp_e1 | apply wp_eC | apply wp_call | apply wp_cons | apply wp_nil | apply wp_mt | apply wp_sl | apply wp_pNo | apply wp_pAt | apply wp_rev | apply wp_eIf | apply wp_eAnd | apply wp_eOr | apply wp_eNot | apply wp_chain | apply wp_isi | apply wp_isi2 | apply wp_fn | apply wp_iOf | apply wp_iRng | apply wp_lc | apply wp_tup | apply wp_lst | apply wp_frz | apply ko_nx | apply ko_rt | apply kr_rt | apply kr_nx | apply ex_bool | apply ex_int) | ((with_reducible apply wp_eV); rfl) | ((with_reducible apply wp_eOv); rfl) | ((with_reducible apply wp_eOo); rfl) | ((with_reducible apply wp_st); rfl; decide) | ((with_reducible apply wp_stSet); rfl) | ((with_reducible apply wp_fnS); rfl) | ((with_reducible apply ex_some); rfl) | ((with_reducible apply ex_sb); rfl) | ((with_reducible apply br_t); rfl) | ((with_reducible apply br_f); rfl) | ((with_reducible apply ex_some (mulB ?hh)); case hh => decide +kernel) | ((with_reducible apply ex_some (mulA ?hh)); case hh => decide +kernel) | ((with_reducible apply ex_some (rngL ?hh)); case hh => decide +kernel) | (refine ⟨rfl, ?_⟩)))
          cases d <;> rfl
        · rw [List.map_id]
          (repeat (first | with_reducible (first | apply wp_seq | apply wp_sIf | apply wp_next | apply wp_ret | apply wp_set | apply wp_own | apply wp_par | apply wp_par3 | apply wp_asg | apply wp_for | apply wp_tVal | apply wp_tTru | apply wp_tAnd | apply wp_tOr | apply wp_tNot | apply wp_e2 | apply wp_e1 | apply wp_eC | apply wp_call | apply wp_cons | apply wp_nil | apply wp_mt | apply wp_sl | apply wp_pNo | apply wp_pAt | apply wp_rev | apply wp_eIf | apply wp_eAnd | apply wp_eOr | apply wp_eNot | apply wp_chain | apply wp_isi | apply wp_isi2 | apply wp_fn | apply wp_iOf | apply wp_iRng | apply wp_lc | apply wp_tup | apply wp_lst | apply wp_frz | apply ko_nx | apply ko_rt | apply kr_rt | apply kr_nx | apply ex_bool | apply ex_int) | ((with_reducible apply wp_eV); rfl) | ((with_reducible apply wp_eOv); rfl) | ((with_reducible apply wp_eOo); rfl) | ((with_reducible apply wp_st); rfl; decide) | ((with_reducible apply wp_stSet); rfl) | ((with_reducible apply wp_fnS); rfl) | ((with_reducible apply ex_some); rfl) | ((with_reducible apply ex_sb); rfl) | ((with_reducible apply br_t); rfl) | ((with_reducible apply br_f); rfl) | ((with_reducible apply ex_some (mulB ?hh)); case hh => decide +kernel) | ((with_reducible apply ex_some (mulA ?hh)); case hh => decide +kernel) | ((with_reducible apply ex_some (rngL ?hh)); case hh => decide +kernel) | (refine ⟨rfl, ?_⟩)))
          refine ex_some (ne_emptyL (ss.sub fe).lst (by omega)) ?_
          (repeat (first | with_reducible (first | apply wp_seq | apply wp_sIf | apply wp_next | apply wp_ret | apply wp_set | apply wp_own | apply wp_par | apply wp_par3 | apply wp_asg | apply wp_for | apply wp_tVal | apply wp_tTru | apply wp_tAnd | apply wp_tOr | apply wp_tNot | apply wp_e2 | apply wp_e1 | apply wp_eC | apply wp_call | apply wp_cons | apply wp_nil | apply wp_mt | apply wp_sl | apply wp_pNo | apply wp_pAt | apply wp_rev | apply wp_eIf | apply wp_eAnd | apply wp_eOr | apply wp_eNot | apply wp_chain | apply wp_isi | apply wp_isi2 | apply wp_fn | apply wp_iOf | apply wp_iRng | apply wp_lc | apply wp_tup | apply wp_lst | apply wp_frz | apply ko_nx | apply ko_rt | apply kr_rt | apply kr_nx | apply ex_bool | apply ex_int) | ((with_reducible apply wp_eV); rfl) | ((with_reducible apply wp_eOv); rfl) | ((with_reducible apply wp_eOo); rfl) | ((with_reducible apply wp_st); rfl; decide) | ((with_reducible apply wp_stSet); rfl) | ((with_reducible apply wp_fnS); rfl) | ((with_reducible apply ex_some); rfl) | ((with_reducible apply ex_sb); rfl) | ((with_reducible apply br_t); rfl) | ((with_reducible apply br_f); rfl) | ((with_reducible apply ex_some (mulB ?hh)); case hh => decide +kernel) | ((with_reducible apply ex_some (mulA ?hh)); case hh => decide +kernel) | ((with_reducible apply ex_some (rngL ?hh)); case hh => decide +kernel) | (refine ⟨rfl, ?_⟩)))
          have sub1 : ∀ lo hi, Sans (wts xs) (k - 1) (cut xs lo hi) := fun lo hi => ss.self.sub (cut_sub xs lo hi)
          have len1 : ∀ lo hi, (cut xs lo hi).length ≤ 10000 := fun lo hi => Nat.le_trans wts_len (Nat.le_trans (sub1 lo hi).w (by omega))
          refine ⟨fun hf => ?_, fun hf => ?_⟩
          · (repeat (first | with_reducible (first | apply wp_seq | apply wp_sIf | apply wp_next | apply wp_ret | apply wp_set | apply wp_own | apply wp_par | apply wp_par3 | apply wp_asg | apply wp_for | apply wp_tVal | apply wp_tTru | apply wp_tAnd | apply wp_tOr | apply wp_tNot | apply wp_e2 | apply wp_e1 | apply wp_eC | apply wp_call | apply wp_cons | apply wp_nil | apply wp_mt | apply wp_sl | apply wp_pNo | apply wp_pAt | apply wp_rev | apply wp_eIf | apply wp_eAnd | apply wp_eOr | apply wp_eNot | apply wp_chain | apply wp_isi | apply wp_isi2 | apply wp_fn | apply wp_iOf | apply wp_iRng | apply wp_lc | apply wp_tup | apply wp_lst | apply wp_frz | apply ko_nx | apply ko_rt | apply kr_rt | apply kr_nx | apply ex_bool | apply ex_int) | ((with_reducible apply wp_eV); rfl) | ((with_reducible apply wp_eOv); rfl) | ((with_reducible apply wp_eOo); rfl) | ((with_reducible apply wp_st); rfl; decide) | ((with_reducible apply wp_stSet); rfl) | ((with_reducible apply wp_fnS); rfl) | ((with_reducible apply ex_some); rfl) | ((with_reducible apply ex_sb); rfl) | ((with_reducible apply br_t); rfl) | ((with_reducible apply br_f); rfl) | ((with_reducible apply ex_some (mulB ?hh)); case hh => decide +kernel) | ((with_reducible apply ex_some (mulA ?hh)); case hh => decide +kernel) | ((with_reducible apply ex_some (rngL ?hh)); case hh => decide +kernel) | (refine ⟨rfl, ?_⟩)))
            refine next_wpN hlen (by omega) ok fun j s1 ok1 hj => ?_
            have hx := List.getElem_mem hj
            (repeat (first | with_reducible (first | apply wp_seq | apply wp_sIf | apply wp_next | apply wp_ret | apply wp_set | apply wp_own | apply wp_par | apply wp_par3 | apply wp_asg | apply wp_for | apply wp_tVal | apply wp_tTru | apply wp_tAnd | apply wp_tOr | apply wp_tNot | apply wp_e2 | apply wp_e1 | apply wp_eC | apply wp_call | apply wp_cons | apply wp_nil | apply wp_mt | apply wp_sl | apply wp_pNo | apply wp_pAt | apply wp_rev | apply wp_eIf | apply wp_eAnd | apply wp_eOr | apply wp_eNot | apply wp_chain | apply wp_isi | apply wp_isi2 | apply wp_fn | apply wp_iOf | apply wp_iRng | apply wp_lc | apply wp_tup | apply wp_lst | apply wp_frz | apply ko_nx | apply ko_rt | apply kr_rt | apply kr_nx | apply ex_bool | apply ex_int) | ((with_reducible apply wp_eV); rfl) | ((with_reducible apply wp_eOv); rfl) | ((with_reducible apply wp_eOo); rfl) | ((with_reducible apply wp_st); rfl; decide) | ((with_reducible apply wp_stSet); rfl) | ((with_reducible apply wp_fnS); rfl) | ((with_reducible apply ex_some); rfl) | ((with_reducible apply ex_sb); rfl) | ((with_reducible apply br_t); rfl) | ((with_reducible apply br_f); rfl) | ((with_reducible apply ex_some (mulB ?hh)); case hh => decide +kernel) | ((with_reducible apply ex_some (mulA ?hh)); case hh => decide +kernel) | ((with_reducible apply ex_some (rngL ?hh)); case hh => decide +kernel) | (refine ⟨rfl, ?_⟩)))
            refine ex_some (ix_nat hj) ?_
            (repeat (first | with_reducible (first | apply wp_seq | apply wp_sIf | apply wp_next | apply wp_ret | apply wp_set | apply wp_own | apply wp_par | apply wp_par3 | apply wp_asg | apply wp_for | apply wp_tVal | apply wp_tTru | apply wp_tAnd | apply wp_tOr | apply wp_tNot | apply wp_e2 | apply wp_e1 | apply wp_eC | apply wp_call | apply wp_cons | apply wp_nil | apply wp_mt | apply wp_sl | apply wp_pNo | apply wp_pAt | apply wp_rev | apply wp_eIf | apply wp_eAnd | apply wp_eOr | apply wp_eNot | apply wp_chain | apply wp_isi | apply wp_isi2 | apply wp_fn | apply wp_iOf | apply wp_iRng | apply wp_lc | apply wp_tup | apply wp_lst | apply wp_frz | apply ko_nx | apply ko_rt | apply kr_rt | apply kr_nx | apply ex_bool | apply ex_int) | ((with_reducible apply wp_eV); rfl) | ((with_reducible apply wp_eOv); rfl) | ((with_reducible apply wp_eOo); rfl) | ((with_reducible apply wp_st); rfl; decide) | ((with_reducible apply wp_stSet); rfl) | ((with_reducible apply wp_fnS); rfl) | ((with_reducible apply ex_some); rfl) | ((with_reducible apply ex_sb); rfl) | ((with_reducible apply br_t); rfl) | ((with_reducible apply br_f); rfl) | ((with_reducible apply ex_some (mulB ?hh)); case hh => decide +kernel) | ((with_reducible apply ex_some (mulA ?hh)); case hh => decide +kernel) | ((with_reducible apply ex_some (rngL ?hh)); case hh => decide +kernel) | (refine ⟨rfl, ?_⟩)))
            refine wp_tr (ih (plainAll_mem hp _ hx) ((ss.mem hx).mono (by omega) (Nat.le_refl _)) (by omega) (by omega)) ok1 fun r s3 ok3 ⟨hr, _⟩ => ?_
            have l1 := len1 none (some (j : Int))
            have l2 := len1 (some ((j : Int) + 1)) none
            (repeat (first | with_reducible (first | apply wp_seq | apply wp_sIf | apply wp_next | apply wp_ret | apply wp_set | apply wp_own | apply wp_par | apply wp_par3 | apply wp_asg | apply wp_for | apply wp_tVal | apply wp_tTru | apply wp_tAnd | apply wp_tOr | apply wp_tNot | apply wp_e2 | apply wp_e1 | apply wp_eC | apply wp_call | apply wp_cons | apply wp_nil | apply wp_mt | apply wp_sl | apply wp_pNo | apply wp_pAt | apply wp_rev | apply wp_eIf | apply wp_eAnd | apply wp_eOr | apply wp_eNot | apply wp_chain | apply wp_isi | apply wp_isi2 | apply wp_fn | apply wp_iOf | apply wp_iRng | apply wp_lc | apply wp_tup | apply wp_lst | apply wp_frz | apply ko_nx | apply ko_rt | apply kr_rt | apply kr_nx | apply ex_bool | apply ex_int) | ((with_reducible apply wp_eV); rfl) | ((with_reducible apply wp_eOv); rfl) | ((with_reducible apply wp_eOo); rfl) | ((with_reducible apply wp_st); rfl; decide) | ((with_reducible apply wp_stSet); rfl) | ((with_reducible apply wp_fnS); rfl) | ((with_reducible apply ex_some); rfl) | ((with_reducible apply ex_sb); rfl) | ((with_reducible apply br_t); rfl) | ((with_reducible apply br_f); rfl) | ((with_reducible apply ex_some (mulB ?hh)); case hh => decide +kernel) | ((with_reducible apply ex_some (mulA ?hh)); case hh => decide +kernel) | ((with_reducible apply ex_some (rngL ?hh)); case hh => decide +kernel) | (refine ⟨rfl, ?_⟩)))
            refine ex_some (add_tup (by simp only [List.length_cons, List.length_nil]; omega)) ?_
            (repeat (first | with_reducible (first | apply wp_seq | apply wp_sIf | apply wp_next | apply wp_ret | apply wp_set | apply wp_own | apply wp_par | apply wp_par3 | apply wp_asg | apply wp_for | apply wp_tVal | apply wp_tTru | apply wp_tAnd | apply wp_tOr | apply wp_tNot | apply wp_e2 | apply wp_e1 | apply wp_eC | apply wp_call | apply wp_cons | apply wp_nil | apply wp_mt | apply wp_sl | apply wp_pNo | apply wp_pAt | apply wp_rev | apply wp_eIf | apply wp_eAnd | apply wp_eOr | apply wp_eNot | apply wp_chain | apply wp_isi | apply wp_isi2 | apply wp_fn | apply wp_iOf | apply wp_iRng | apply wp_lc | apply wp_tup | apply wp_lst | apply wp_frz | apply ko_nx | apply ko_rt | apply kr_rt | apply kr_nx | apply ex_bool | apply ex_int) | ((with_reducible apply wp_eV); rfl) | ((with_reducible apply wp_eOv); rfl) | ((with_reducible apply wp_eOo); rfl) | ((with_reducible apply wp_st); rfl; decide) | ((with_reducible apply wp_stSet); rfl) | ((with_reducible apply wp_fnS); rfl) | ((with_reducible apply ex_some); rfl) | ((with_reducible apply ex_sb); rfl) | ((with_reducible apply br_t); rfl) | ((with_reducible apply br_f); rfl) | ((with_reducible apply ex_some (mulB ?hh)); case hh => decide +kernel) | ((with_reducible apply ex_some (mulA ?hh)); case hh => decide +kernel) | ((with_reducible apply ex_some (rngL ?hh)); case hh => decide +kernel) | (refine ⟨rfl, ?_⟩)))
            refine ex_some (add_tup (by simp only [List.length_append, List.length_cons, List.length_nil]; omega)) ?_
            refine ⟨ok3, ?_, fun _ => rfl⟩
            have e1 : cut xs none (some (j : Int)) = xs.take j := cut_to (by omega)
            have e2 : cut xs (some ((j : Int) + 1)) none = xs.drop (j + 1) := cut_from (k := j + 1) (by omega)
            rw [e1, e2]
            have t1 := (ss.sub (List.take_sublist j xs)).self
            have t2 := (ss.sub (List.drop_sublist (j + 1) xs)).self
            have g := wts_get hj
            exact ((((t1.mono (Nat.le_refl _) (m := k) (by omega)).app (.one (hr.mono (Nat.le_refl _) (m := k) (by omega)))).app (t2.mono (Nat.le_refl _) (m := k) (by omega))).tup).mono (by omega) (by omega)
          · have allS : ∀ x ∈ xs, isCl .str x = true := fun x hx => by
              have h1 : (xs.filter fun d => !isCl .str d).isEmpty = true := by simpa using hf
              have h2 := plain_filter.mp h1 x hx
              simpa using h2
            have subS : ∀ lo hi, ∀ x ∈ cut xs lo hi, isCl .str x = true := fun lo hi x hx => allS x ((cut_sub xs lo hi).subset hx)
            (repeat (first | with_reducible (first | apply wp_seq | apply wp_sIf | apply wp_next | apply wp_ret | apply wp_set | apply wp_own | apply wp_par | apply wp_par3 | apply wp_asg | apply wp_for | apply wp_tVal | apply wp_tTru | apply wp_tAnd | apply wp_tOr | apply wp_tNot | apply wp_e2 | apply wp_e1 | apply wp_eC | apply wp_call | apply wp_cons | apply wp_nil | apply wp_mt | apply wp_sl | apply wp_pNo | apply wp_pAt | apply wp_rev | apply wp_eIf | apply wp_eAnd | apply wp_eOr | apply wp_eNot | apply wp_chain | apply wp_isi | apply wp_isi2 | apply wp_fn | apply wp_iOf | apply wp_iRng | apply wp_lc | apply wp_tup | apply wp_lst | apply wp_frz | apply ko_nx | apply ko_rt | apply kr_rt | apply kr_nx | apply ex_bool | apply ex_int) | ((with_reducible apply wp_eV); rfl) | ((with_reducible apply wp_eOv); rfl) | ((with_reducible apply wp_eOo); rfl) | ((with_reducible apply wp_st); rfl; decide) | ((with_reducible apply wp_stSet); rfl) | ((with_reducible apply wp_fnS); rfl) | ((with_reducible apply ex_some); rfl) | ((with_reducible apply ex_sb); rfl) | ((with_reducible apply br_t); rfl) | ((with_reducible apply br_f); rfl) | ((with_reducible apply ex_some (mulB ?hh)); case hh => decide +kernel) | ((with_reducible apply ex_some (mulA ?hh)); case hh => decide +kernel) | ((with_reducible apply ex_some (rngL ?hh)); case hh => decide +kernel) | (refine ⟨rfl, ?_⟩)))
            refine next_wpN hlen (by omega) ok fun j s1 ok1 hj => ?_
            have hx := List.getElem_mem hj
            obtain ⟨z, ez⟩ : ∃ z, xs[j] = .str z := by
              have h1 := allS _ hx
              cases e : xs[j] <;> first | exact ⟨_, rfl⟩ | (rw [e] at h1; cases h1)
            have hxs : ixD (.tuple xs) (.int (j : Nat)) = some (.str z) := by rw [← ez]; exact ix_nat hj
            have sz : PyData.strOk z = true := by have := (ss.mem hx).lay; rw [ez] at this; exact this
            have wz : z.length + 1 ≤ wts xs := by have := wt_mem hx; rw [ez] at this; exact this
            obtain ⟨zj, ejoin, sj, lj⟩ := join_empty (ss.sub (cut_sub xs (some (j : Int)) (some ((j : Int) + 2)))) (subS _ _) (Nat.le_trans (sub1 _ _).w (by omega))
            obtain ⟨za, ejoinA, sa, la⟩ := join_empty ss allS (by omega)
            have lj2 : zj.length ≤ wts xs := Nat.le_trans lj (sub1 _ _).w
            (repeat (first | with_reducible (first | apply wp_seq | apply wp_sIf | apply wp_next | apply wp_ret | apply wp_set | apply wp_own | apply wp_par | apply wp_par3 | apply wp_asg | apply wp_for | apply wp_tVal | apply wp_tTru | apply wp_tAnd | apply wp_tOr | apply wp_tNot | apply wp_e2 | apply wp_e1 | apply wp_eC | apply wp_call | apply wp_cons | apply wp_nil | apply wp_mt | apply wp_sl | apply wp_pNo | apply wp_pAt | apply wp_rev | apply wp_eIf | apply wp_eAnd | apply wp_eOr | apply wp_eNot | apply wp_chain | apply wp_isi | apply wp_isi2 | apply wp_fn | apply wp_iOf | apply wp_iRng | apply wp_lc | apply wp_tup | apply wp_lst | apply wp_frz | apply ko_nx | apply ko_rt | apply kr_rt | apply kr_nx | apply ex_bool | apply ex_int) | ((with_reducible apply wp_eV); rfl) | ((with_reducible apply wp_eOv); rfl) | ((with_reducible apply wp_eOo); rfl) | ((with_reducible apply wp_st); rfl; decide) | ((with_reducible apply wp_stSet); rfl) | ((with_reducible apply wp_fnS); rfl) | ((with_reducible apply ex_some); rfl) | ((with_reducible apply ex_sb); rfl) | ((with_reducible apply br_t); rfl) | ((with_reducible apply br_f); rfl) | ((with_reducible apply ex_some (mulB ?hh)); case hh => decide +kernel) | ((with_reducible apply ex_some (mulA ?hh)); case hh => decide +kernel) | ((with_reducible apply ex_some (rngL ?hh)); case hh => decide +kernel) | (refine ⟨rfl, ?_⟩)))
            refine ex_some hxs ?_
            (repeat (first | with_reducible (first | apply wp_seq | apply wp_sIf | apply wp_next | apply wp_ret | apply wp_set | apply wp_own | apply wp_par | apply wp_par3 | apply wp_asg | apply wp_for | apply wp_tVal | apply wp_tTru | apply wp_tAnd | apply wp_tOr | apply wp_tNot | apply wp_e2 | apply wp_e1 | apply wp_eC | apply wp_call | apply wp_cons | apply wp_nil | apply wp_mt | apply wp_sl | apply wp_pNo | apply wp_pAt | apply wp_rev | apply wp_eIf | apply wp_eAnd | apply wp_eOr | apply wp_eNot | apply wp_chain | apply wp_isi | apply wp_isi2 | apply wp_fn | apply wp_iOf | apply wp_iRng | apply wp_lc | apply wp_tup | apply wp_lst | apply wp_frz | apply ko_nx | apply ko_rt | apply kr_rt | apply kr_nx | apply ex_bool | apply ex_int) | ((with_reducible apply wp_eV); rfl) | ((with_reducible apply wp_eOv); rfl) | ((with_reducible apply wp_eOo); rfl) | ((with_reducible apply wp_st); rfl; decide) | ((with_reducible apply wp_stSet); rfl) | ((with_reducible apply wp_fnS); rfl) | ((with_reducible apply ex_some); rfl) | ((with_reducible apply ex_sb); rfl) | ((with_reducible apply br_t); rfl) | ((with_reducible apply br_f); rfl) | ((with_reducible apply ex_some (mulB ?hh)); case hh => decide +kernel) | ((with_reducible apply ex_some (mulA ?hh)); case hh => decide +kernel) | ((with_reducible apply ex_some (rngL ?hh)); case hh => decide +kernel) | (refine ⟨rfl, ?_⟩)))
            refine ex_some (len_str (by omega)) ?_
            (repeat (first | with_reducible (first | apply wp_seq | apply wp_sIf | apply wp_next | apply wp_ret | apply wp_set | apply wp_own | apply wp_par | apply wp_par3 | apply wp_asg | apply wp_for | apply wp_tVal | apply wp_tTru | apply wp_tAnd | apply wp_tOr | apply wp_tNot | apply wp_e2 | apply wp_e1 | apply wp_eC | apply wp_call | apply wp_cons | apply wp_nil | apply wp_mt | apply wp_sl | apply wp_pNo | apply wp_pAt | apply wp_rev | apply wp_eIf | apply wp_eAnd | apply wp_eOr | apply wp_eNot | apply wp_chain | apply wp_isi | apply wp_isi2 | apply wp_fn | apply wp_iOf | apply wp_iRng | apply wp_lc | apply wp_tup | apply wp_lst | apply wp_frz | apply ko_nx | apply ko_rt | apply kr_rt | apply kr_nx | apply ex_bool | apply ex_int) | ((with_reducible apply wp_eV); rfl) | ((with_reducible apply wp_eOv); rfl) | ((with_reducible apply wp_eOo); rfl) | ((with_reducible apply wp_st); rfl; decide) | ((with_reducible apply wp_stSet); rfl) | ((with_reducible apply wp_fnS); rfl) | ((with_reducible apply ex_some); rfl) | ((with_reducible apply ex_sb); rfl) | ((with_reducible apply br_t); rfl) | ((with_reducible apply br_f); rfl) | ((with_reducible apply ex_some (mulB ?hh)); case hh => decide +kernel) | ((with_reducible apply ex_some (mulA ?hh)); case hh => decide +kernel) | ((with_reducible apply ex_some (rngL ?hh)); case hh => decide +kernel) | (refine ⟨rfl, ?_⟩)))
            refine next_wp (by omega) (by omega) ok1 fun a s2 ok2 ha => ?_
            have l1 := len1 none (some (j : Int))
            have l2 := len1 (some ((j : Int) + 1)) none
            have l3 := len1 (some ((j : Int) + 2)) none
            have l4 := len1 (some (j : Int)) none
            have l5 := len1 (some (j : Int)) (some ((j : Int) + 2))
            (repeat (first | with_reducible (first | apply wp_seq | apply wp_sIf | apply wp_next | apply wp_ret | apply wp_set | apply wp_own | apply wp_par | apply wp_par3 | apply wp_asg | apply wp_for | apply wp_tVal | apply wp_tTru | apply wp_tAnd | apply wp_tOr | apply wp_tNot | apply wp_e2 | apply wp_e1 | apply wp_eC | apply wp_call | apply wp_cons | apply wp_nil | apply wp_mt | apply wp_sl | apply wp_pNo | apply wp_pAt | apply wp_rev | apply wp_eIf | apply wp_eAnd | apply wp_eOr | apply wp_eNot | apply wp_chain | apply wp_isi | apply wp_isi2 | apply wp_fn | apply wp_iOf | apply wp_iRng | apply wp_lc | apply wp_tup | apply wp_lst | apply wp_frz | apply ko_nx | apply ko_rt | apply kr_rt | apply kr_nx | apply ex_bool | apply ex_int) | ((with_reducible apply wp_eV); rfl) | ((with_reducible apply wp_eOv); rfl) | ((with_reducible apply wp_eOo); rfl) | ((with_reducible apply wp_st); rfl; decide) | ((with_reducible apply wp_stSet); rfl) | ((with_reducible apply wp_fnS); rfl) | ((with_reducible apply ex_some); rfl) | ((with_reducible apply ex_sb); rfl) | ((with_reducible apply br_t); rfl) | ((with_reducible apply br_f); rfl) | ((with_reducible apply ex_some (mulB ?hh)); case hh => decide +kernel) | ((with_reducible apply ex_some (mulA ?hh)); case hh => decide +kernel) | ((with_reducible apply ex_some (rngL ?hh)); case hh => decide +kernel) | (refine ⟨rfl, ?_⟩)))
            refine ex_some hxs ?_
            (repeat (first | with_reducible (first | apply wp_seq | apply wp_sIf | apply wp_next | apply wp_ret | apply wp_set | apply wp_own | apply wp_par | apply wp_par3 | apply wp_asg | apply wp_for | apply wp_tVal | apply wp_tTru | apply wp_tAnd | apply wp_tOr | apply wp_tNot | apply wp_e2 | apply wp_e1 | apply wp_eC | apply wp_call | apply wp_cons | apply wp_nil | apply wp_mt | apply wp_sl | apply wp_pNo | apply wp_pAt | apply wp_rev | apply wp_eIf | apply wp_eAnd | apply wp_eOr | apply wp_eNot | apply wp_chain | apply wp_isi | apply wp_isi2 | apply wp_fn | apply wp_iOf | apply wp_iRng | apply wp_lc | apply wp_tup | apply wp_lst | apply wp_frz | apply ko_nx | apply ko_rt | apply kr_rt | apply kr_nx | apply ex_bool | apply ex_int) | ((with_reducible apply wp_eV); rfl) | ((with_reducible apply wp_eOv); rfl) | ((with_reducible apply wp_eOo); rfl) | ((with_reducible apply wp_st); rfl; decide) | ((with_reducible apply wp_stSet); rfl) | ((with_reducible apply wp_fnS); rfl) | ((with_reducible apply ex_some); rfl) | ((with_reducible apply ex_sb); rfl) | ((with_reducible apply br_t); rfl) | ((with_reducible apply br_f); rfl) | ((with_reducible apply ex_some (mulB ?hh)); case hh => decide +kernel) | ((with_reducible apply ex_some (mulA ?hh)); case hh => decide +kernel) | ((with_reducible apply ex_some (rngL ?hh)); case hh => decide +kernel) | (refine ⟨rfl, ?_⟩)))
            refine ex_some (sl_str (by omega)) ?_
            (repeat (first | with_reducible (first | apply wp_seq | apply wp_sIf | apply wp_next | apply wp_ret | apply wp_set | apply wp_own | apply wp_par | apply wp_par3 | apply wp_asg | apply wp_for | apply wp_tVal | apply wp_tTru | apply wp_tAnd | apply wp_tOr | apply wp_tNot | apply wp_e2 | apply wp_e1 | apply wp_eC | apply wp_call | apply wp_cons | apply wp_nil | apply wp_mt | apply wp_sl | apply wp_pNo | apply wp_pAt | apply wp_rev | apply wp_eIf | apply wp_eAnd | apply wp_eOr | apply wp_eNot | apply wp_chain | apply wp_isi | apply wp_isi2 | apply wp_fn | apply wp_iOf | apply wp_iRng | apply wp_lc | apply wp_tup | apply wp_lst | apply wp_frz | apply ko_nx | apply ko_rt | apply kr_rt | apply kr_nx | apply ex_bool | apply ex_int) | ((with_reducible apply wp_eV); rfl) | ((with_reducible apply wp_eOv); rfl) | ((with_reducible apply wp_eOo); rfl) | ((with_reducible apply wp_st); rfl; decide) | ((with_reducible apply wp_stSet); rfl) | ((with_reducible apply wp_fnS); rfl) | ((with_reducible apply ex_some); rfl) | ((with_reducible apply ex_sb); rfl) | ((with_reducible apply br_t); rfl) | ((with_reducible apply br_f); rfl) | ((with_reducible apply ex_some (mulB ?hh)); case hh => decide +kernel) | ((with_reducible apply ex_some (mulA ?hh)); case hh => decide +kernel) | ((with_reducible apply ex_some (rngL ?hh)); case hh => decide +kernel) | (refine ⟨rfl, ?_⟩)))
            refine ex_some hxs ?_
            (repeat (first | with_reducible (first | apply wp_seq | apply wp_sIf | apply wp_next | apply wp_ret | apply wp_set | apply wp_own | apply wp_par | apply wp_par3 | apply wp_asg | apply wp_for | apply wp_tVal | apply wp_tTru | apply wp_tAnd | apply wp_tOr | apply wp_tNot | apply wp_e2 | apply wp_e1 | apply wp_eC | apply wp_call | apply wp_cons | apply wp_nil | apply wp_mt | apply wp_sl | apply wp_pNo | apply wp_pAt | apply wp_rev | apply wp_eIf | apply wp_eAnd | apply wp_eOr | apply wp_eNot | apply wp_chain | apply wp_isi | apply wp_isi2 | apply wp_fn | apply wp_iOf | apply wp_iRng | apply wp_lc | apply wp_tup | apply wp_lst | apply wp_frz | apply ko_nx | apply ko_rt | apply kr_rt | apply kr_nx | apply ex_bool | apply ex_int) | ((with_reducible apply wp_eV); rfl) | ((with_reducible apply wp_eOv); rfl) | ((with_reducible apply wp_eOo); rfl) | ((with_reducible apply wp_st); rfl; decide) | ((with_reducible apply wp_stSet); rfl) | ((with_reducible apply wp_fnS); rfl) | ((with_reducible apply ex_some); rfl) | ((with_reducible apply ex_sb); rfl) | ((with_reducible apply br_t); rfl) | ((with_reducible apply br_f); rfl) | ((with_reducible apply ex_some (mulB ?hh)); case hh => decide +kernel) | ((with_reducible apply ex_some (mulA ?hh)); case hh => decide +kernel) | ((with_reducible apply ex_some (rngL ?hh)); case hh => decide +kernel) | (refine ⟨rfl, ?_⟩)))
            refine ex_some (sl_str (by omega)) ?_
            (repeat (first | with_reducible (first | apply wp_seq | apply wp_sIf | apply wp_next | apply wp_ret | apply wp_set | apply wp_own | apply wp_par | apply wp_par3 | apply wp_asg | apply wp_for | apply wp_tVal | apply wp_tTru | apply wp_tAnd | apply wp_tOr | apply wp_tNot | apply wp_e2 | apply wp_e1 | apply wp_eC | apply wp_call | apply wp_cons | apply wp_nil | apply wp_mt | apply wp_sl | apply wp_pNo | apply wp_pAt | apply wp_rev | apply wp_eIf | apply wp_eAnd | apply wp_eOr | apply wp_eNot | apply wp_chain | apply wp_isi | apply wp_isi2 | apply wp_fn | apply wp_iOf | apply wp_iRng | apply wp_lc | apply wp_tup | apply wp_lst | apply wp_frz | apply ko_nx | apply ko_rt | apply kr_rt | apply kr_nx | apply ex_bool | apply ex_int) | ((with_reducible apply wp_eV); rfl) | ((with_reducible apply wp_eOv); rfl) | ((with_reducible apply wp_eOo); rfl) | ((with_reducible apply wp_st); rfl; decide) | ((with_reducible apply wp_stSet); rfl) | ((with_reducible apply wp_fnS); rfl) | ((with_reducible apply ex_some); rfl) | ((with_reducible apply ex_sb); rfl) | ((with_reducible apply br_t); rfl) | ((with_reducible apply br_f); rfl) | ((with_reducible apply ex_some (mulB ?hh)); case hh => decide +kernel) | ((with_reducible apply ex_some (mulA ?hh)); case hh => decide +kernel) | ((with_reducible apply ex_some (rngL ?hh)); case hh => decide +kernel) | (refine ⟨rfl, ?_⟩)))
            refine ex_some (add_tup (by simp only [List.length_cons, List.length_nil]; omega)) ?_
            (repeat (first | with_reducible (first | apply wp_seq | apply wp_sIf | apply wp_next | apply wp_ret | apply wp_set | apply wp_own | apply wp_par | apply wp_par3 | apply wp_asg | apply wp_for | apply wp_tVal | apply wp_tTru | apply wp_tAnd | apply wp_tOr | apply wp_tNot | apply wp_e2 | apply wp_e1 | apply wp_eC | apply wp_call | apply wp_cons | apply wp_nil | apply wp_mt | apply wp_sl | apply wp_pNo | apply wp_pAt | apply wp_rev | apply wp_eIf | apply wp_eAnd | apply wp_eOr | apply wp_eNot | apply wp_chain | apply wp_isi | apply wp_isi2 | apply wp_fn | apply wp_iOf | apply wp_iRng | apply wp_lc | apply wp_tup | apply wp_lst | apply wp_frz | apply ko_nx | apply ko_rt | apply kr_rt | apply kr_nx | apply ex_bool | apply ex_int) | ((with_reducible apply wp_eV); rfl) | ((with_reducible apply wp_eOv); rfl) | ((with_reducible apply wp_eOo); rfl) | ((with_reducible apply wp_st); rfl; decide) | ((with_reducible apply wp_stSet); rfl) | ((with_reducible apply wp_fnS); rfl) | ((with_reducible apply ex_some); rfl) | ((with_reducible apply ex_sb); rfl) | ((with_reducible apply br_t); rfl) | ((with_reducible apply br_f); rfl) | ((with_reducible apply ex_some (mulB ?hh)); case hh => decide +kernel) | ((with_reducible apply ex_some (mulA ?hh)); case hh => decide +kernel) | ((with_reducible apply ex_some (rngL ?hh)); case hh => decide +kernel) | (refine ⟨rfl, ?_⟩)))
            refine ex_some (add_tup (by simp only [List.length_append, List.length_cons, List.length_nil]; omega)) ?_
            (repeat (first | with_reducible (first | apply wp_seq | apply wp_sIf | apply wp_next | apply wp_ret | apply wp_set | apply wp_own | apply wp_par | apply wp_par3 | apply wp_asg | apply wp_for | apply wp_tVal | apply wp_tTru | apply wp_tAnd | apply wp_tOr | apply wp_tNot | apply wp_e2 | apply wp_e1 | apply wp_eC | apply wp_call | apply wp_cons | apply wp_nil | apply wp_mt | apply wp_sl | apply wp_pNo | apply wp_pAt | apply wp_rev | apply wp_eIf | apply wp_eAnd | apply wp_eOr | apply wp_eNot | apply wp_chain | apply wp_isi | apply wp_isi2 | apply wp_fn | apply wp_iOf | apply wp_iRng | apply wp_lc | apply wp_tup | apply wp_lst | apply wp_frz | apply ko_nx | apply ko_rt | apply kr_rt | apply kr_nx | apply ex_bool | apply ex_int) | ((with_reducible apply wp_eV); rfl) | ((with_reducible apply wp_eOv); rfl) | ((with_reducible apply wp_eOo); rfl) | ((with_reducible apply wp_st); rfl; decide) | ((with_reducible apply wp_stSet); rfl) | ((with_reducible apply wp_fnS); rfl) | ((with_reducible apply ex_some); rfl) | ((with_reducible apply ex_sb); rfl) | ((with_reducible apply br_t); rfl) | ((with_reducible apply br_f); rfl) | ((with_reducible apply ex_some (mulB ?hh)); case hh => decide +kernel) | ((with_reducible apply ex_some (mulA ?hh)); case hh => decide +kernel) | ((with_reducible apply ex_some (rngL ?hh)); case hh => decide +kernel) | (refine ⟨rfl, ?_⟩)))
            refine ex_some ejoin ?_
            (repeat (first | with_reducible (first | apply wp_seq | apply wp_sIf | apply wp_next | apply wp_ret | apply wp_set | apply wp_own | apply wp_par | apply wp_par3 | apply wp_asg | apply wp_for | apply wp_tVal | apply wp_tTru | apply wp_tAnd | apply wp_tOr | apply wp_tNot | apply wp_e2 | apply wp_e1 | apply wp_eC | apply wp_call | apply wp_cons | apply wp_nil | apply wp_mt | apply wp_sl | apply wp_pNo | apply wp_pAt | apply wp_rev | apply wp_eIf | apply wp_eAnd | apply wp_eOr | apply wp_eNot | apply wp_chain | apply wp_isi | apply wp_isi2 | apply wp_fn | apply wp_iOf | apply wp_iRng | apply wp_lc | apply wp_tup | apply wp_lst | apply wp_frz | apply ko_nx | apply ko_rt | apply kr_rt | apply kr_nx | apply ex_bool | apply ex_int) | ((with_reducible apply wp_eV); rfl) | ((with_reducible apply wp_eOv); rfl) | ((with_reducible apply wp_eOo); rfl) | ((with_reducible apply wp_st); rfl; decide) | ((with_reducible apply wp_stSet); rfl) | ((with_reducible apply wp_fnS); rfl) | ((with_reducible apply ex_some); rfl) | ((with_reducible apply ex_sb); rfl) | ((with_reducible apply br_t); rfl) | ((with_reducible apply br_f); rfl) | ((with_reducible apply ex_some (mulB ?hh)); case hh => decide +kernel) | ((with_reducible apply ex_some (mulA ?hh)); case hh => decide +kernel) | ((with_reducible apply ex_some (rngL ?hh)); case hh => decide +kernel) | (refine ⟨rfl, ?_⟩)))
            refine ex_some (add_tup (by simp only [List.length_cons, List.length_nil]; omega)) ?_
            (repeat (first | with_reducible (first | apply wp_seq | apply wp_sIf | apply wp_next | apply wp_ret | apply wp_set | apply wp_own | apply wp_par | apply wp_par3 | apply wp_asg | apply wp_for | apply wp_tVal | apply wp_tTru | apply wp_tAnd | apply wp_tOr | apply wp_tNot | apply wp_e2 | apply wp_e1 | apply wp_eC | apply wp_call | apply wp_cons | apply wp_nil | apply wp_mt | apply wp_sl | apply wp_pNo | apply wp_pAt | apply wp_rev | apply wp_eIf | apply wp_eAnd | apply wp_eOr | apply wp_eNot | apply wp_chain | apply wp_isi | apply wp_isi2 | apply wp_fn | apply wp_iOf | apply wp_iRng | apply wp_lc | apply wp_tup | apply wp_lst | apply wp_frz | apply ko_nx | apply ko_rt | apply kr_rt | apply kr_nx | apply ex_bool | apply ex_int) | ((with_reducible apply wp_eV); rfl) | ((with_reducible apply wp_eOv); rfl) | ((with_reducible apply wp_eOo); rfl) | ((with_reducible apply wp_st); rfl; decide) | ((with_reducible apply wp_stSet); rfl) | ((with_reducible apply wp_fnS); rfl) | ((with_reducible apply ex_some); rfl) | ((with_reducible apply ex_sb); rfl) | ((with_reducible apply br_t); rfl) | ((with_reducible apply br_f); rfl) | ((with_reducible apply ex_some (mulB ?hh)); case hh => decide +kernel) | ((with_reducible apply ex_some (mulA ?hh)); case hh => decide +kernel) | ((with_reducible apply ex_some (rngL ?hh)); case hh => decide +kernel) | (refine ⟨rfl, ?_⟩)))
            refine ex_some (add_tup (by simp only [List.length_append, List.length_cons, List.length_nil]; omega)) ?_
            (repeat (first | with_reducible (first | apply wp_seq | apply wp_sIf | apply wp_next | apply wp_ret | apply wp_set | apply wp_own | apply wp_par | apply wp_par3 | apply wp_asg | apply wp_for | apply wp_tVal | apply wp_tTru | apply wp_tAnd | apply wp_tOr | apply wp_tNot | apply wp_e2 | apply wp_e1 | apply wp_eC | apply wp_call | apply wp_cons | apply wp_nil | apply wp_mt | apply wp_sl | apply wp_pNo | apply wp_pAt | apply wp_rev | apply wp_eIf | apply wp_eAnd | apply wp_eOr | apply wp_eNot | apply wp_chain | apply wp_isi | apply wp_isi2 | apply wp_fn | apply wp_iOf | apply wp_iRng | apply wp_lc | apply wp_tup | apply wp_lst | apply wp_frz | apply ko_nx | apply ko_rt | apply kr_rt | apply kr_nx | apply ex_bool | apply ex_int) | ((with_reducible apply wp_eV); rfl) | ((with_reducible apply wp_eOv); rfl) | ((with_reducible apply wp_eOo); rfl) | ((with_reducible apply wp_st); rfl; decide) | ((with_reducible apply wp_stSet); rfl) | ((with_reducible apply wp_fnS); rfl) | ((with_reducible apply ex_some); rfl) | ((with_reducible apply ex_sb); rfl) | ((with_reducible apply br_t); rfl) | ((with_reducible apply br_f); rfl) | ((with_reducible apply ex_some (mulB ?hh)); case hh => decide +kernel) | ((with_reducible apply ex_some (mulA ?hh)); case hh => decide +kernel) | ((with_reducible apply ex_some (rngL ?hh)); case hh => decide +kernel) | (refine ⟨rfl, ?_⟩)))
            refine ex_some ejoinA ?_
            (repeat (first | with_reducible (first | apply wp_seq | apply wp_sIf | apply wp_next | apply wp_ret | apply wp_set | apply wp_own | apply wp_par | apply wp_par3 | apply wp_asg | apply wp_for | apply wp_tVal | apply wp_tTru | apply wp_tAnd | apply wp_tOr | apply wp_tNot | apply wp_e2 | apply wp_e1 | apply wp_eC | apply wp_call | apply wp_cons | apply wp_nil | apply wp_mt | apply wp_sl | apply wp_pNo | apply wp_pAt | apply wp_rev | apply wp_eIf | apply wp_eAnd | apply wp_eOr | apply wp_eNot | apply wp_chain | apply wp_isi | apply wp_isi2 | apply wp_fn | apply wp_iOf | apply wp_iRng | apply wp_lc | apply wp_tup | apply wp_lst | apply wp_frz | apply ko_nx | apply ko_rt | apply kr_rt | apply kr_nx | apply ex_bool | apply ex_int) | ((with_reducible apply wp_eV); rfl) | ((with_reducible apply wp_eOv); rfl) | ((with_reducible apply wp_eOo); rfl) | ((with_reducible apply wp_st); rfl; decide) | ((with_reducible apply wp_stSet); rfl) | ((with_reducible apply wp_fnS); rfl) | ((with_reducible apply ex_some); rfl) | ((with_reducible apply ex_sb); rfl) | ((with_reducible apply br_t); rfl) | ((with_reducible apply br_f); rfl) | ((with_reducible apply ex_some (mulB ?hh)); case hh => decide +kernel) | ((with_reducible apply ex_some (mulA ?hh)); case hh => decide +kernel) | ((with_reducible apply ex_some (rngL ?hh)); case hh => decide +kernel) | (refine ⟨rfl, ?_⟩)))
            refine ex_some ejoinA ?_
            (repeat (first | with_reducible (first | apply wp_seq | apply wp_sIf | apply wp_next | apply wp_ret | apply wp_set | apply wp_own | apply wp_par | apply wp_par3 | apply wp_asg | apply wp_for | apply wp_tVal | apply wp_tTru | apply wp_tAnd | apply wp_tOr | apply wp_tNot | apply wp_e2 | apply wp_e1 | apply wp_eC | apply wp_call | apply wp_cons | apply wp_nil | apply wp_mt | apply wp_sl | apply wp_pNo | apply wp_pAt | apply wp_rev | apply wp_eIf | apply wp_eAnd | apply wp_eOr | apply wp_eNot | apply wp_chain | apply wp_isi | apply wp_isi2 | apply wp_fn | apply wp_iOf | apply wp_iRng | apply wp_lc | apply wp_tup | apply wp_lst | apply wp_frz | apply ko_nx | apply ko_rt | apply kr_rt | apply kr_nx | apply ex_bool | apply ex_int) | ((with_reducible apply wp_eV); rfl) | ((with_reducible apply wp_eOv); rfl) | ((with_reducible apply wp_eOo); rfl) | ((with_reducible apply wp_st); rfl; decide) | ((with_reducible apply wp_stSet); rfl) | ((with_reducible apply wp_fnS); rfl) | ((with_reducible apply ex_some); rfl) | ((with_reducible apply ex_sb); rfl) | ((with_reducible apply br_t); rfl) | ((with_reducible apply br_f); rfl) | ((with_reducible apply ex_some (mulB ?hh)); case hh => decide +kernel) | ((with_reducible apply ex_some (mulA ?hh)); case hh => decide +kernel) | ((with_reducible apply ex_some (rngL ?hh)); case hh => decide +kernel) | (refine ⟨rfl, ?_⟩)))
            refine ex_some (if_pos (okl (by omega))) ?_
            (repeat (first | with_reducible (first | apply wp_seq | apply wp_sIf | apply wp_next | apply wp_ret | apply wp_set | apply wp_own | apply wp_par | apply wp_par3 | apply wp_asg | apply wp_for | apply wp_tVal | apply wp_tTru | apply wp_tAnd | apply wp_tOr | apply wp_tNot | apply wp_e2 | apply wp_e1 | apply wp_eC | apply wp_call | apply wp_cons | apply wp_nil | apply wp_mt | apply wp_sl | apply wp_pNo | apply wp_pAt | apply wp_rev | apply wp_eIf | apply wp_eAnd | apply wp_eOr | apply wp_eNot | apply wp_chain | apply wp_isi | apply wp_isi2 | apply wp_fn | apply wp_iOf | apply wp_iRng | apply wp_lc | apply wp_tup | apply wp_lst | apply wp_frz | apply ko_nx | apply ko_rt | apply kr_rt | apply kr_nx | apply ex_bool | apply ex_int) | ((with_reducible apply wp_eV); rfl) | ((with_reducible apply wp_eOv); rfl) | ((with_reducible apply wp_eOo); rfl) | ((with_reducible apply wp_st); rfl; decide) | ((with_reducible apply wp_stSet); rfl) | ((with_reducible apply wp_fnS); rfl) | ((with_reducible apply ex_some); rfl) | ((with_reducible apply ex_sb); rfl) | ((with_reducible apply br_t); rfl) | ((with_reducible apply br_f); rfl) | ((with_reducible apply ex_some (mulB ?hh)); case hh => decide +kernel) | ((with_reducible apply ex_some (mulA ?hh)); case hh => decide +kernel) | ((with_reducible apply ex_some (rngL ?hh)); case hh => decide +kernel) | (refine ⟨rfl, ?_⟩)))
            refine ex_some (add_tup (by simp only [List.length_cons, List.length_nil]; omega)) ?_
            (repeat (first | with_reducible (first | apply wp_seq | apply wp_sIf | apply wp_next | apply wp_ret | apply wp_set | apply wp_own | apply wp_par | apply wp_par3 | apply wp_asg | apply wp_for | apply wp_tVal | apply wp_tTru | apply wp_tAnd | apply wp_tOr | apply wp_tNot | apply wp_e2 | apply wp_e1 | apply wp_eC | apply wp_call | apply wp_cons | apply wp_nil | apply wp_mt | apply wp_sl | apply wp_pNo | apply wp_pAt | apply wp_rev | apply wp_eIf | apply wp_eAnd | apply wp_eOr | apply wp_eNot | apply wp_chain | apply wp_isi | apply wp_isi2 | apply wp_fn | apply wp_iOf | apply wp_iRng | apply wp_lc | apply wp_tup | apply wp_lst | apply wp_frz | apply ko_nx | apply ko_rt | apply kr_rt | apply kr_nx | apply ex_bool | apply ex_int) | ((with_reducible apply wp_eV); rfl) | ((with_reducible apply wp_eOv); rfl) | ((with_reducible apply wp_eOo); rfl) | ((with_reducible apply wp_st); rfl; decide) | ((with_reducible apply wp_stSet); rfl) | ((with_reducible apply wp_fnS); rfl) | ((with_reducible apply ex_some); rfl) | ((with_reducible apply ex_sb); rfl) | ((with_reducible apply br_t); rfl) | ((with_reducible apply br_f); rfl) | ((with_reducible apply ex_some (mulB ?hh)); case hh => decide +kernel) | ((with_reducible apply ex_some (mulA ?hh)); case hh => decide +kernel) | ((with_reducible apply ex_some (rngL ?hh)); case hh => decide +kernel) | (refine ⟨rfl, ?_⟩)))
            refine ex_some (add_tup (by simp only [List.length_append, List.length_cons, List.length_nil]; omega)) ?_
            (repeat (first | with_reducible (first | apply wp_seq | apply wp_sIf | apply wp_next | apply wp_ret | apply wp_set | apply wp_own | apply wp_par | apply wp_par3 | apply wp_asg | apply wp_for | apply wp_tVal | apply wp_tTru | apply wp_tAnd | apply wp_tOr | apply wp_tNot | apply wp_e2 | apply wp_e1 | apply wp_eC | apply wp_call | apply wp_cons | apply wp_nil | apply wp_mt | apply wp_sl | apply wp_pNo | apply wp_pAt | apply wp_rev | apply wp_eIf | apply wp_eAnd | apply wp_eOr | apply wp_eNot | apply wp_chain | apply wp_isi | apply wp_isi2 | apply wp_fn | apply wp_iOf | apply wp_iRng | apply wp_lc | apply wp_tup | apply wp_lst | apply wp_frz | apply ko_nx | apply ko_rt | apply kr_rt | apply kr_nx | apply ex_bool | apply ex_int) | ((with_reducible apply wp_eV); rfl) | ((with_reducible apply wp_eOv); rfl) | ((with_reducible apply wp_eOo); rfl) | ((with_reducible apply wp_st); rfl; decide) | ((with_reducible apply wp_stSet); rfl) | ((with_reducible apply wp_fnS); rfl) | ((with_reducible apply ex_some); rfl) | ((with_reducible apply ex_sb); rfl) | ((with_reducible apply br_t); rfl) | ((with_reducible apply br_f); rfl) | ((with_reducible apply ex_some (mulB ?hh)); case hh => decide +kernel) | ((with_reducible apply ex_some (mulA ?hh)); case hh => decide +kernel) | ((with_reducible apply ex_some (rngL ?hh)); case hh => decide +kernel) | (refine ⟨rfl, ?_⟩)))
            refine ex_some (add_tup (by simp only [List.length_reverse]; omega)) ?_
            (repeat (first | with_reducible (first | apply wp_seq | apply wp_sIf | apply wp_next | apply wp_ret | apply wp_set | apply wp_own | apply wp_par | apply wp_par3 | apply wp_asg | apply wp_for | apply wp_tVal | apply wp_tTru | apply wp_tAnd | apply wp_tOr | apply wp_tNot | apply wp_e2 | apply wp_e1 | apply wp_eC | apply wp_call | apply wp_cons | apply wp_nil | apply wp_mt | apply wp_sl | apply wp_pNo | apply wp_pAt | apply wp_rev | apply wp_eIf | apply wp_eAnd | apply wp_eOr | apply wp_eNot | apply wp_chain | apply wp_isi | apply wp_isi2 | apply wp_fn | apply wp_iOf | apply wp_iRng | apply wp_lc | apply wp_tup | apply wp_lst | apply wp_frz | apply ko_nx | apply ko_rt | apply kr_rt | apply kr_nx | apply ex_bool | apply ex_int) | ((with_reducible apply wp_eV); rfl) | ((with_reducible apply wp_eOv); rfl) | ((with_reducible apply wp_eOo); rfl) | ((with_reducible apply wp_st); rfl; decide) | ((with_reducible apply wp_stSet); rfl) | ((with_reducible apply wp_fnS); rfl) | ((with_reducible apply ex_some); rfl) | ((with_reducible apply ex_sb); rfl) | ((with_reducible apply br_t); rfl) | ((with_reducible apply br_f); rfl) | ((with_reducible apply ex_some (mulB ?hh)); case hh => decide +kernel) | ((with_reducible apply ex_some (mulA ?hh)); case hh => decide +kernel) | ((with_reducible apply ex_some (rngL ?hh)); case hh => decide +kernel) | (refine ⟨rfl, ?_⟩)))
            refine ex_some (add_tup (by simp only [List.length_append, List.length_reverse]; omega)) ?_
            (repeat (first | with_reducible (first | apply wp_seq | apply wp_sIf | apply wp_next | apply wp_ret | apply wp_set | apply wp_own | apply wp_par | apply wp_par3 | apply wp_asg | apply wp_for | apply wp_tVal | apply wp_tTru | apply wp_tAnd | apply wp_tOr | apply wp_tNot | apply wp_e2 | apply wp_e1 | apply wp_eC | apply wp_call | apply wp_cons | apply wp_nil | apply wp_mt | apply wp_sl | apply wp_pNo | apply wp_pAt | apply wp_rev | apply wp_eIf | apply wp_eAnd | apply wp_eOr | apply wp_eNot | apply wp_chain | apply wp_isi | apply wp_isi2 | apply wp_fn | apply wp_iOf | apply wp_iRng | apply wp_lc | apply wp_tup | apply wp_lst | apply wp_frz | apply ko_nx | apply ko_rt | apply kr_rt | apply kr_nx | apply ex_bool | apply ex_int) | ((with_reducible apply wp_eV); rfl) | ((with_reducible apply wp_eOv); rfl) | ((with_reducible apply wp_eOo); rfl) | ((with_reducible apply wp_st); rfl; decide) | ((with_reducible apply wp_stSet); rfl) | ((with_reducible apply wp_fnS); rfl) | ((with_reducible apply ex_some); rfl) | ((with_reducible apply ex_sb); rfl) | ((with_reducible apply br_t); rfl) | ((with_reducible apply br_f); rfl) | ((with_reducible apply ex_some (mulB ?hh)); case hh => decide +kernel) | ((with_reducible apply ex_some (mulA ?hh)); case hh => decide +kernel) | ((with_reducible apply ex_some (rngL ?hh)); case hh => decide +kernel) | (refine ⟨rfl, ?_⟩)))
            refine next_wpN (by simp) (by simp) ok2 fun q s3 ok3 hq => ?_
            have up : ∀ lo hi, Sans (wts xs) k (cut xs lo hi) := fun lo hi => (sub1 lo hi).mono (Nat.le_refl _) (by omega)
            have tup : ∀ (ys : List D) (V : Nat), Sans V k ys → V ≤ 5 * wts xs + 20 → San (5 * wt (.tuple xs) + 20) (k + 1) (.tuple ys) := fun ys V h hV => h.tup.mono (by omega) (by omega)
            have st : ∀ {z : Str}, PyData.strOk z = true → Sans (z.length + 1) k [PyData.str z] := fun h => .one (.str h)
            have cu : ∀ lo hi, San (z.length + 1) k (.str ⟨(cut z.cps.toList lo hi).toArray⟩) := fun lo hi => San.cutS sz
            refine (ix_all (P := fun z => San (5 * wt (.tuple xs) + 20) (k + 1) z ∧ isCl .tuple z = true) ?_ hq).imp fun _ h => ⟨h.1, ok3, h.2.1, fun _ => h.2.2⟩
            intro x hx
            simp only [List.mem_append, List.mem_cons, List.not_mem_nil, or_false] at hx
            rcases hx with (rfl | rfl) | rfl | rfl | rfl | rfl
            · exact ⟨tup _ _ (((up _ _).app (.cons (cu _ _) (.one (cu _ _)))).app (up _ _)) (by omega), rfl⟩
            · exact ⟨tup _ _ (((up _ _).app (st sj)).app (up _ _)) (by omega), rfl⟩
            · exact ⟨tup _ _ (st sa) (by omega), rfl⟩
            · exact ⟨tup _ _ (signs_san sa) (by omega), rfl⟩
            · exact ⟨tup _ _ (((up _ _).app (st (z := "") (by decide +kernel))).app (up _ _)) (by show _ + (0 + 1) + _ ≤ _; omega), rfl⟩
            · exact ⟨tup _ _ (((up _ _).app (up _ _).rev).app (up _ _)) (by omega), rfl⟩
    | _ => cases hp

theorem plain_sub {ys : List D} (h : plainAll xs = true) (s : ∀ y ∈ ys, y ∈ xs) : plainAll ys = true := by
  induction ys with
  | nil => rfl
  | cons y ys ih =>
    simp only [plainAll, Bool.and_eq_true]
    exact ⟨plainAll_mem h y (s y List.mem_cons_self), ih fun z hz => s z (List.mem_cons_of_mem _ hz)⟩
theorem isTup {d : D} (h : isCl .tuple d = true) : ∃ xs, d = .tuple xs := by cases d <;> first | exact ⟨_, rfl⟩ | cases h
/-- _law_turned_about -/
theorem tr_turned {k : Nat} {xs : List D} (hp : plainB (.tuple xs) = true) (hs : San 5000 k (.tuple xs)) (hk : k < 12) (h0 : 0 < xs.length) : Tr (f_law_turned_about [.tuple xs]) (San (10 * wts xs + 100) (k + 2)) := by
  intro s ok
  have ss := hs.ofTup
  have hs1 := hs.mono (V := 10000) (by omega) (Nat.le_refl k)
  have hw : wts xs + 1 ≤ 5000 := hs.w
  have hl := wts_len (xs := xs)
  have hk1 : 1 ≤ k := by have h2 : PyData.depthAll xs + 1 ≤ k := hs.dep; omega
  have sub1 : ∀ lo hi, Sans (wts xs) k (cut xs lo hi) := fun lo hi => (ss.self.sub (cut_sub xs lo hi)).mono (Nat.le_refl _) (by omega)
  have len1 : ∀ lo hi, (cut xs lo hi).length ≤ xs.length := fun lo hi => (cut_sub xs lo hi).length_le
  have tup : ∀ (ys : List D) (V : Nat), Sans V k ys → V ≤ 10 * wts xs + 90 → San (10 * wts xs + 100) (k + 2) (.tuple ys) := fun ys V h hV => h.tup.mono (by omega) (by omega)
  have pcut : ∀ lo hi, plainB (.tuple (cut xs lo hi)) = true := fun lo hi => plain_sub hp fun y hy => (cut_sub xs lo hi).subset hy
  unfold f_law_turned_about
  apply wp_runS
  unfold b_law_turned_about
  (repeat (first | with_reducible (first | apply wp_seq | apply wp_sIf | apply wp_next | apply wp_ret | apply wp_set | apply wp_own | apply wp_par | apply wp_par3 | apply wp_asg | apply wp_for | apply wp_tVal | apply wp_tTru | apply wp_tAnd | apply wp_tOr | apply wp_tNot | apply wp_e2 | apply wp_e1 | apply wp_eC | apply wp_call | apply wp_cons | apply wp_nil | apply wp_mt | apply wp_sl | apply wp_pNo | apply wp_pAt | apply wp_rev | apply wp_eIf | apply wp_eAnd | apply wp_eOr | apply wp_eNot | apply wp_chain | apply wp_isi | apply wp_isi2 | apply wp_fn | apply wp_iOf | apply wp_iRng | apply wp_lc | apply wp_tup | apply wp_lst | apply wp_frz | apply ko_nx | apply ko_rt | apply kr_rt | apply kr_nx | apply ex_bool | apply ex_int) | ((with_reducible apply wp_eV); rfl) | ((with_reducible apply wp_eOv); rfl) | ((with_reducible apply wp_eOo); rfl) | ((with_reducible apply wp_st); rfl; decide) | ((with_reducible apply wp_stSet); rfl) | ((with_reducible apply wp_fnS); rfl) | ((with_reducible apply ex_some); rfl) | ((with_reducible apply ex_sb); rfl) | ((with_reducible apply br_t); rfl) | ((with_reducible apply br_f); rfl) | ((with_reducible apply ex_some (mulB ?hh)); case hh => decide +kernel) | ((with_reducible apply ex_some (mulA ?hh)); case hh => decide +kernel) | ((with_reducible apply ex_some (rngL ?hh)); case hh => decide +kernel) | (refine ⟨rfl, ?_⟩)))
  refine wp_tr (tr_ints 12 hp hs1 hk) ok fun r s1 ok1 ⟨ns, er, hns⟩ => ?_
  have hns : ns.length ≤ wts xs + 1 := hns
  subst er
  (repeat (first | with_reducible (first | apply wp_seq | apply wp_sIf | apply wp_next | apply wp_ret | apply wp_set | apply wp_own | apply wp_par | apply wp_par3 | apply wp_asg | apply wp_for | apply wp_tVal | apply wp_tTru | apply wp_tAnd | apply wp_tOr | apply wp_tNot | apply wp_e2 | apply wp_e1 | apply wp_eC | apply wp_call | apply wp_cons | apply wp_nil | apply wp_mt | apply wp_sl | apply wp_pNo | apply wp_pAt | apply wp_rev | apply wp_eIf | apply wp_eAnd | apply wp_eOr | apply wp_eNot | apply wp_chain | apply wp_isi | apply wp_isi2 | apply wp_fn | apply wp_iOf | apply wp_iRng | apply wp_lc | apply wp_tup | apply wp_lst | apply wp_frz | apply ko_nx | apply ko_rt | apply kr_rt | apply kr_nx | apply ex_bool | apply ex_int) | ((with_reducible apply wp_eV); rfl) | ((with_reducible apply wp_eOv); rfl) | ((with_reducible apply wp_eOo); rfl) | ((with_reducible apply wp_st); rfl; decide) | ((with_reducible apply wp_stSet); rfl) | ((with_reducible apply wp_fnS); rfl) | ((with_reducible apply ex_some); rfl) | ((with_reducible apply ex_sb); rfl) | ((with_reducible apply br_t); rfl) | ((with_reducible apply br_f); rfl) | ((with_reducible apply ex_some (mulB ?hh)); case hh => decide +kernel) | ((with_reducible apply ex_some (mulA ?hh)); case hh => decide +kernel) | ((with_reducible apply ex_some (rngL ?hh)); case hh => decide +kernel) | (refine ⟨rfl, ?_⟩)))
  refine next_wp (by decide) (by decide) ok1 fun pick s2 ok2 hpick => ?_
  apply ko_nx
  apply wp_guard
  · -- no number is exchanged
    intro s ok
    apply wp_guard
    · -- pick is not 3
      intro s ok
      (repeat (first | with_reducible (first | apply wp_seq | apply wp_sIf | apply wp_next | apply wp_ret | apply wp_set | apply wp_own | apply wp_par | apply wp_par3 | apply wp_asg | apply wp_for | apply wp_tVal | apply wp_tTru | apply wp_tAnd | apply wp_tOr | apply wp_tNot | apply wp_e2 | apply wp_e1 | apply wp_eC | apply wp_call | apply wp_cons | apply wp_nil | apply wp_mt | apply wp_sl | apply wp_pNo | apply wp_pAt | apply wp_rev | apply wp_eIf | apply wp_eAnd | apply wp_eOr | apply wp_eNot | apply wp_chain | apply wp_isi | apply wp_isi2 | apply wp_fn | apply wp_iOf | apply wp_iRng | apply wp_lc | apply wp_tup | apply wp_lst | apply wp_frz | apply ko_nx | apply ko_rt | apply kr_rt | apply kr_nx | apply ex_bool | apply ex_int) | ((with_reducible apply wp_eV); rfl) | ((with_reducible apply wp_eOv); rfl) | ((with_reducible apply wp_eOo); rfl) | ((with_reducible apply wp_st); rfl; decide) | ((with_reducible apply wp_stSet); rfl) | ((with_reducible apply wp_fnS); rfl) | ((with_reducible apply ex_some); rfl) | ((with_reducible apply ex_sb); rfl) | ((with_reducible apply br_t); rfl) | ((with_reducible apply br_f); rfl) | ((with_reducible apply ex_some (mulB ?hh)); case hh => decide +kernel) | ((with_reducible apply ex_some (mulA ?hh)); case hh => decide +kernel) | ((with_reducible apply ex_some (rngL ?hh)); case hh => decide +kernel) | (refine ⟨rfl, ?_⟩)))
      refine next_wpN h0 (by omega) ok fun a s1 ok1 ha => ?_
      (repeat (first | with_reducible (first | apply wp_seq | apply wp_sIf | apply wp_next | apply wp_ret | apply wp_set | apply wp_own | apply wp_par | apply wp_par3 | apply wp_asg | apply wp_for | apply wp_tVal | apply wp_tTru | apply wp_tAnd | apply wp_tOr | apply wp_tNot | apply wp_e2 | apply wp_e1 | apply wp_eC | apply wp_call | apply wp_cons | apply wp_nil | apply wp_mt | apply wp_sl | apply wp_pNo | apply wp_pAt | apply wp_rev | apply wp_eIf | apply wp_eAnd | apply wp_eOr | apply wp_eNot | apply wp_chain | apply wp_isi | apply wp_isi2 | apply wp_fn | apply wp_iOf | apply wp_iRng | apply wp_lc | apply wp_tup | apply wp_lst | apply wp_frz | apply ko_nx | apply ko_rt | apply kr_rt | apply kr_nx | apply ex_bool | apply ex_int) | ((with_reducible apply wp_eV); rfl) | ((with_reducible apply wp_eOv); rfl) | ((with_reducible apply wp_eOo); rfl) | ((with_reducible apply wp_st); rfl; decide) | ((with_reducible apply wp_stSet); rfl) | ((with_reducible apply wp_fnS); rfl) | ((with_reducible apply ex_some); rfl) | ((with_reducible apply ex_sb); rfl) | ((with_reducible apply br_t); rfl) | ((with_reducible apply br_f); rfl) | ((with_reducible apply ex_some (mulB ?hh)); case hh => decide +kernel) | ((with_reducible apply ex_some (mulA ?hh)); case hh => decide +kernel) | ((with_reducible apply ex_some (rngL ?hh)); case hh => decide +kernel) | (refine ⟨rfl, ?_⟩)))
      refine next_wpN h0 (by omega) ok1 fun b s2 ok2 hb => ?_
      apply wp_nil
      refine ⟨_, _, rfl, ?_⟩
      apply ko_nx
      apply wp_guard
      · intro s ok
        have l1 := len1 none (some (a : Int))
        have l2 := len1 (some (b : Int)) (some ((b : Int) + 1))
        have l3 := len1 (some ((a : Int) + 1)) none
        have self : San (10 * wts xs + 100) (k + 2) (.tuple xs) := hs.self' (by show wts xs + 1 ≤ _; omega) (by omega)
        (repeat (first | with_reducible (first | apply wp_seq | apply wp_sIf | apply wp_next | apply wp_ret | apply wp_set | apply wp_own | apply wp_par | apply wp_par3 | apply wp_asg | apply wp_for | apply wp_tVal | apply wp_tTru | apply wp_tAnd | apply wp_tOr | apply wp_tNot | apply wp_e2 | apply wp_e1 | apply wp_eC | apply wp_call | apply wp_cons | apply wp_nil | apply wp_mt | apply wp_sl | apply wp_pNo | apply wp_pAt | apply wp_rev | apply wp_eIf | apply wp_eAnd | apply wp_eOr | apply wp_eNot | apply wp_chain | apply wp_isi | apply wp_isi2 | apply wp_fn | apply wp_iOf | apply wp_iRng | apply wp_lc | apply wp_tup | apply wp_lst | apply wp_frz | apply ko_nx | apply ko_rt | apply kr_rt | apply kr_nx | apply ex_bool | apply ex_int) | ((with_reducible apply wp_eV); rfl) | ((with_reducible apply wp_eOv); rfl) | ((with_reducible apply wp_eOo); rfl) | ((with_reducible apply wp_st); rfl; decide) | ((with_reducible apply wp_stSet); rfl) | ((with_reducible apply wp_fnS); rfl) | ((with_reducible apply ex_some); rfl) | ((with_reducible apply ex_sb); rfl) | ((with_reducible apply br_t); rfl) | ((with_reducible apply br_f); rfl) | ((with_reducible apply ex_some (mulB ?hh)); case hh => decide +kernel) | ((with_reducible apply ex_some (mulA ?hh)); case hh => decide +kernel) | ((with_reducible apply ex_some (rngL ?hh)); case hh => decide +kernel) | (refine ⟨rfl, ?_⟩)))
        refine ⟨fun h1 => ?_, fun h1 => ?_⟩
        · (repeat (first | with_reducible (first | apply wp_seq | apply wp_sIf | apply wp_next | apply wp_ret | apply wp_set | apply wp_own | apply wp_par | apply wp_par3 | apply wp_asg | apply wp_for | apply wp_tVal | apply wp_tTru | apply wp_tAnd | apply wp_tOr | apply wp_tNot | apply wp_e2 | apply wp_e1 | apply wp_eC | apply wp_call | apply wp_cons | apply wp_nil | apply wp_mt | apply wp_sl | apply wp_pNo | apply wp_pAt | apply wp_rev | apply wp_eIf | apply wp_eAnd | apply wp_eOr | apply wp_eNot | apply wp_chain | apply wp_isi | apply wp_isi2 | apply wp_fn | apply wp_iOf | apply wp_iRng | apply wp_lc | apply wp_tup | apply wp_lst | apply wp_frz | apply ko_nx | apply ko_rt | apply kr_rt | apply kr_nx | apply ex_bool | apply ex_int) | ((with_reducible apply wp_eV); rfl) | ((with_reducible apply wp_eOv); rfl) | ((with_reducible apply wp_eOo); rfl) | ((with_reducible apply wp_st); rfl; decide) | ((with_reducible apply wp_stSet); rfl) | ((with_reducible apply wp_fnS); rfl) | ((with_reducible apply ex_some); rfl) | ((with_reducible apply ex_sb); rfl) | ((with_reducible apply br_t); rfl) | ((with_reducible apply br_f); rfl) | ((with_reducible apply ex_some (mulB ?hh)); case hh => decide +kernel) | ((with_reducible apply ex_some (mulA ?hh)); case hh => decide +kernel) | ((with_reducible apply ex_some (rngL ?hh)); case hh => decide +kernel) | (refine ⟨rfl, ?_⟩)))
          refine ⟨fun h2 => ?_, fun h2 => ?_⟩
          · (repeat (first | with_reducible (first | apply wp_seq | apply wp_sIf | apply wp_next | apply wp_ret | apply wp_set | apply wp_own | apply wp_par | apply wp_par3 | apply wp_asg | apply wp_for | apply wp_tVal | apply wp_tTru | apply wp_tAnd | apply wp_tOr | apply wp_tNot | apply wp_e2 | apply wp_e1 | apply wp_eC | apply wp_call | apply wp_cons | apply wp_nil | apply wp_mt | apply wp_sl | apply wp_pNo | apply wp_pAt | apply wp_rev | apply wp_eIf | apply wp_eAnd | apply wp_eOr | apply wp_eNot | apply wp_chain | apply wp_isi | apply wp_isi2 | apply wp_fn | apply wp_iOf | apply wp_iRng | apply wp_lc | apply wp_tup | apply wp_lst | apply wp_frz | apply ko_nx | apply ko_rt | apply kr_rt | apply kr_nx | apply ex_bool | apply ex_int) | ((with_reducible apply wp_eV); rfl) | ((with_reducible apply wp_eOv); rfl) | ((with_reducible apply wp_eOo); rfl) | ((with_reducible apply wp_st); rfl; decide) | ((with_reducible apply wp_stSet); rfl) | ((with_reducible apply wp_fnS); rfl) | ((with_reducible apply ex_some); rfl) | ((with_reducible apply ex_sb); rfl) | ((with_reducible apply br_t); rfl) | ((with_reducible apply br_f); rfl) | ((with_reducible apply ex_some (mulB ?hh)); case hh => decide +kernel) | ((with_reducible apply ex_some (mulA ?hh)); case hh => decide +kernel) | ((with_reducible apply ex_some (rngL ?hh)); case hh => decide +kernel) | (refine ⟨rfl, ?_⟩)))
            refine ex_some (add_tup (by omega)) ?_
            (repeat (first | with_reducible (first | apply wp_seq | apply wp_sIf | apply wp_next | apply wp_ret | apply wp_set | apply wp_own | apply wp_par | apply wp_par3 | apply wp_asg | apply wp_for | apply wp_tVal | apply wp_tTru | apply wp_tAnd | apply wp_tOr | apply wp_tNot | apply wp_e2 | apply wp_e1 | apply wp_eC | apply wp_call | apply wp_cons | apply wp_nil | apply wp_mt | apply wp_sl | apply wp_pNo | apply wp_pAt | apply wp_rev | apply wp_eIf | apply wp_eAnd | apply wp_eOr | apply wp_eNot | apply wp_chain | apply wp_isi | apply wp_isi2 | apply wp_fn | apply wp_iOf | apply wp_iRng | apply wp_lc | apply wp_tup | apply wp_lst | apply wp_frz | apply ko_nx | apply ko_rt | apply kr_rt | apply kr_nx | apply ex_bool | apply ex_int) | ((with_reducible apply wp_eV); rfl) | ((with_reducible apply wp_eOv); rfl) | ((with_reducible apply wp_eOo); rfl) | ((with_reducible apply wp_st); rfl; decide) | ((with_reducible apply wp_stSet); rfl) | ((with_reducible apply wp_fnS); rfl) | ((with_reducible apply ex_some); rfl) | ((with_reducible apply ex_sb); rfl) | ((with_reducible apply br_t); rfl) | ((with_reducible apply br_f); rfl) | ((with_reducible apply ex_some (mulB ?hh)); case hh => decide +kernel) | ((with_reducible apply ex_some (mulA ?hh)); case hh => decide +kernel) | ((with_reducible apply ex_some (rngL ?hh)); case hh => decide +kernel) | (refine ⟨rfl, ?_⟩)))
            refine ex_some (add_tup (by rw [List.length_append]; omega)) ?_
            exact ⟨ok, tup _ _ (((sub1 _ _).app (sub1 _ _)).app (sub1 _ _)) (by omega)⟩
          · (repeat (first | with_reducible (first | apply wp_seq | apply wp_sIf | apply wp_next | apply wp_ret | apply wp_set | apply wp_own | apply wp_par | apply wp_par3 | apply wp_asg | apply wp_for | apply wp_tVal | apply wp_tTru | apply wp_tAnd | apply wp_tOr | apply wp_tNot | apply wp_e2 | apply wp_e1 | apply wp_eC | apply wp_call | apply wp_cons | apply wp_nil | apply wp_mt | apply wp_sl | apply wp_pNo | apply wp_pAt | apply wp_rev | apply wp_eIf | apply wp_eAnd | apply wp_eOr | apply wp_eNot | apply wp_chain | apply wp_isi | apply wp_isi2 | apply wp_fn | apply wp_iOf | apply wp_iRng | apply wp_lc | apply wp_tup | apply wp_lst | apply wp_frz | apply ko_nx | apply ko_rt | apply kr_rt | apply kr_nx | apply ex_bool | apply ex_int) | ((with_reducible apply wp_eV); rfl) | ((with_reducible apply wp_eOv); rfl) | ((with_reducible apply wp_eOo); rfl) | ((with_reducible apply wp_st); rfl; decide) | ((with_reducible apply wp_stSet); rfl) | ((with_reducible apply wp_fnS); rfl) | ((with_reducible apply ex_some); rfl) | ((with_reducible apply ex_sb); rfl) | ((with_reducible apply br_t); rfl) | ((with_reducible apply br_f); rfl) | ((with_reducible apply ex_some (mulB ?hh)); case hh => decide +kernel) | ((with_reducible apply ex_some (mulA ?hh)); case hh => decide +kernel) | ((with_reducible apply ex_some (rngL ?hh)); case hh => decide +kernel) | (refine ⟨rfl, ?_⟩)))
            exact ⟨ok, self⟩
        · (repeat (first | with_reducible (first | apply wp_seq | apply wp_sIf | apply wp_next | apply wp_ret | apply wp_set | apply wp_own | apply wp_par | apply wp_par3 | apply wp_asg | apply wp_for | apply wp_tVal | apply wp_tTru | apply wp_tAnd | apply wp_tOr | apply wp_tNot | apply wp_e2 | apply wp_e1 | apply wp_eC | apply wp_call | apply wp_cons | apply wp_nil | apply wp_mt | apply wp_sl | apply wp_pNo | apply wp_pAt | apply wp_rev | apply wp_eIf | apply wp_eAnd | apply wp_eOr | apply wp_eNot | apply wp_chain | apply wp_isi | apply wp_isi2 | apply wp_fn | apply wp_iOf | apply wp_iRng | apply wp_lc | apply wp_tup | apply wp_lst | apply wp_frz | apply ko_nx | apply ko_rt | apply kr_rt | apply kr_nx | apply ex_bool | apply ex_int) | ((with_reducible apply wp_eV); rfl) | ((with_reducible apply wp_eOv); rfl) | ((with_reducible apply wp_eOo); rfl) | ((with_reducible apply wp_st); rfl; decide) | ((with_reducible apply wp_stSet); rfl) | ((with_reducible apply wp_fnS); rfl) | ((with_reducible apply ex_some); rfl) | ((with_reducible apply ex_sb); rfl) | ((with_reducible apply br_t); rfl) | ((with_reducible apply br_f); rfl) | ((with_reducible apply ex_some (mulB ?hh)); case hh => decide +kernel) | ((with_reducible apply ex_some (mulA ?hh)); case hh => decide +kernel) | ((with_reducible apply ex_some (rngL ?hh)); case hh => decide +kernel) | (refine ⟨rfl, ?_⟩)))
          exact ⟨ok, self⟩
      · (repeat (first | with_reducible (first | apply wp_sIf | apply wp_next | apply wp_ret | apply wp_set | apply wp_own | apply wp_par | apply wp_par3 | apply wp_asg | apply wp_for | apply wp_tVal | apply wp_tTru | apply wp_tAnd | apply wp_tOr | apply wp_tNot | apply wp_e2 | apply wp_e1 | apply wp_eC | apply wp_call | apply wp_cons | apply wp_nil | apply wp_mt | apply wp_sl | apply wp_pNo | apply wp_pAt | apply wp_rev | apply wp_eIf | apply wp_eAnd | apply wp_eOr | apply wp_eNot | apply wp_chain | apply wp_isi | apply wp_isi2 | apply wp_fn | apply wp_iOf | apply wp_iRng | apply wp_lc | apply wp_tup | apply wp_lst | apply wp_frz | apply ko_rt | apply kr_rt | apply kr_nx | apply ex_bool | apply ex_int) | ((with_reducible apply wp_eV); rfl) | ((with_reducible apply wp_eOv); rfl) | ((with_reducible apply wp_eOo); rfl) | ((with_reducible apply wp_st); rfl; decide) | ((with_reducible apply wp_stSet); rfl) | ((with_reducible apply wp_fnS); rfl) | ((with_reducible apply ex_some); rfl) | ((with_reducible apply ex_sb); rfl) | ((with_reducible apply br_t); rfl) | ((with_reducible apply br_f); rfl) | ((with_reducible apply ex_some (mulB ?hh)); case hh => decide +kernel) | ((with_reducible apply ex_some (mulA ?hh)); case hh => decide +kernel) | ((with_reducible apply ex_some (rngL ?hh)); case hh => decide +kernel) | (refine ⟨rfl, ?_⟩)))
        have h1 : wts xs + 1 ≤ 5000 := hw
        refine ⟨fun h2 => ?_, fun h2 => ⟨ok2, fun h => by cases h⟩⟩
        have hlen : xs.length = 2 := by
          have : PyData.eqv (.int xs.length) (.int 2) = true := h2
          have h3 : ((xs.length : Int) == 2) = true := this
          have h4 := eq_of_beq h3
          omega
        have i1 : ixD (.tuple xs) (.int 1) = some (xs[1]'(by omega)) := ix_nat (k := 1) (by omega)
        have i0 : ixD (.tuple xs) (.int 0) = some (xs[0]'(by omega)) := ix_nat (k := 0) (by omega)
        have m1 : xs[1]'(by omega) ∈ xs := List.getElem_mem _
        have m0 : xs[0]'(by omega) ∈ xs := List.getElem_mem _
        generalize xs[1]'(by omega) = x1 at *
        generalize xs[0]'(by omega) = x0 at *
        have s1 := ss.mem m1
        have s0 := ss.mem m0
        (repeat (first | with_reducible (first | apply wp_sIf | apply wp_next | apply wp_ret | apply wp_set | apply wp_own | apply wp_par | apply wp_par3 | apply wp_asg | apply wp_for | apply wp_tVal | apply wp_tTru | apply wp_tAnd | apply wp_tOr | apply wp_tNot | apply wp_e2 | apply wp_e1 | apply wp_eC | apply wp_call | apply wp_cons | apply wp_nil | apply wp_mt | apply wp_sl | apply wp_pNo | apply wp_pAt | apply wp_rev | apply wp_eIf | apply wp_eAnd | apply wp_eOr | apply wp_eNot | apply wp_chain | apply wp_isi | apply wp_isi2 | apply wp_fn | apply wp_iOf | apply wp_iRng | apply wp_lc | apply wp_tup | apply wp_lst | apply wp_frz | apply ko_rt | apply kr_rt | apply kr_nx | apply ex_bool | apply ex_int) | ((with_reducible apply wp_eV); rfl) | ((with_reducible apply wp_eOv); rfl) | ((with_reducible apply wp_eOo); rfl) | ((with_reducible apply wp_st); rfl; decide) | ((with_reducible apply wp_stSet); rfl) | ((with_reducible apply wp_fnS); rfl) | ((with_reducible apply ex_some); rfl) | ((with_reducible apply ex_sb); rfl) | ((with_reducible apply br_t); rfl) | ((with_reducible apply br_f); rfl) | ((with_reducible apply ex_some (mulB ?hh)); case hh => decide +kernel) | ((with_reducible apply ex_some (mulA ?hh)); case hh => decide +kernel) | ((with_reducible apply ex_some (rngL ?hh)); case hh => decide +kernel) | (refine ⟨rfl, ?_⟩)))
        refine ex_some i1 ?_
        (repeat (first | with_reducible (first | apply wp_sIf | apply wp_next | apply wp_ret | apply wp_set | apply wp_own | apply wp_par | apply wp_par3 | apply wp_asg | apply wp_for | apply wp_tVal | apply wp_tTru | apply wp_tAnd | apply wp_tOr | apply wp_tNot | apply wp_e2 | apply wp_e1 | apply wp_eC | apply wp_call | apply wp_cons | apply wp_nil | apply wp_mt | apply wp_sl | apply wp_pNo | apply wp_pAt | apply wp_rev | apply wp_eIf | apply wp_eAnd | apply wp_eOr | apply wp_eNot | apply wp_chain | apply wp_isi | apply wp_isi2 | apply wp_fn | apply wp_iOf | apply wp_iRng | apply wp_lc | apply wp_tup | apply wp_lst | apply wp_frz | apply ko_rt | apply kr_rt | apply kr_nx | apply ex_bool | apply ex_int) | ((with_reducible apply wp_eV); rfl) | ((with_reducible apply wp_eOv); rfl) | ((with_reducible apply wp_eOo); rfl) | ((with_reducible apply wp_st); rfl; decide) | ((with_reducible apply wp_stSet); rfl) | ((with_reducible apply wp_fnS); rfl) | ((with_reducible apply ex_some); rfl) | ((with_reducible apply ex_sb); rfl) | ((with_reducible apply br_t); rfl) | ((with_reducible apply br_f); rfl) | ((with_reducible apply ex_some (mulB ?hh)); case hh => decide +kernel) | ((with_reducible apply ex_some (mulA ?hh)); case hh => decide +kernel) | ((with_reducible apply ex_some (rngL ?hh)); case hh => decide +kernel) | (refine ⟨rfl, ?_⟩)))
        cases x1 with
        | tuple ys =>
          refine br_t rfl ?_
          have sy := s1.ofTup
          (repeat (first | with_reducible (first | apply wp_sIf | apply wp_next | apply wp_ret | apply wp_set | apply wp_own | apply wp_par | apply wp_par3 | apply wp_asg | apply wp_for | apply wp_tVal | apply wp_tTru | apply wp_tAnd | apply wp_tOr | apply wp_tNot | apply wp_e2 | apply wp_e1 | apply wp_eC | apply wp_call | apply wp_cons | apply wp_nil | apply wp_mt | apply wp_sl | apply wp_pNo | apply wp_pAt | apply wp_rev | apply wp_eIf | apply wp_eAnd | apply wp_eOr | apply wp_eNot | apply wp_chain | apply wp_isi | apply wp_isi2 | apply wp_fn | apply wp_iOf | apply wp_iRng | apply wp_lc | apply wp_tup | apply wp_lst | apply wp_frz | apply ko_rt | apply kr_rt | apply kr_nx | apply ex_bool | apply ex_int) | ((with_reducible apply wp_eV); rfl) | ((with_reducible apply wp_eOv); rfl) | ((with_reducible apply wp_eOo); rfl) | ((with_reducible apply wp_st); rfl; decide) | ((with_reducible apply wp_stSet); rfl) | ((with_reducible apply wp_fnS); rfl) | ((with_reducible apply ex_some); rfl) | ((with_reducible apply ex_sb); rfl) | ((with_reducible apply br_t); rfl) | ((with_reducible apply br_f); rfl) | ((with_reducible apply ex_some (mulB ?hh)); case hh => decide +kernel) | ((with_reducible apply ex_some (mulA ?hh)); case hh => decide +kernel) | ((with_reducible apply ex_some (rngL ?hh)); case hh => decide +kernel) | (refine ⟨rfl, ?_⟩)))
          refine ex_some i1 ?_
          (repeat (first | with_reducible (first | apply wp_sIf | apply wp_next | apply wp_ret | apply wp_set | apply wp_own | apply wp_par | apply wp_par3 | apply wp_asg | apply wp_for | apply wp_tVal | apply wp_tTru | apply wp_tAnd | apply wp_tOr | apply wp_tNot | apply wp_e2 | apply wp_e1 | apply wp_eC | apply wp_call | apply wp_cons | apply wp_nil | apply wp_mt | apply wp_sl | apply wp_pNo | apply wp_pAt | apply wp_rev | apply wp_eIf | apply wp_eAnd | apply wp_eOr | apply wp_eNot | apply wp_chain | apply wp_isi | apply wp_isi2 | apply wp_fn | apply wp_iOf | apply wp_iRng | apply wp_lc | apply wp_tup | apply wp_lst | apply wp_frz | apply ko_rt | apply kr_rt | apply kr_nx | apply ex_bool | apply ex_int) | ((with_reducible apply wp_eV); rfl) | ((with_reducible apply wp_eOv); rfl) | ((with_reducible apply wp_eOo); rfl) | ((with_reducible apply wp_st); rfl; decide) | ((with_reducible apply wp_stSet); rfl) | ((with_reducible apply wp_fnS); rfl) | ((with_reducible apply ex_some); rfl) | ((with_reducible apply ex_sb); rfl) | ((with_reducible apply br_t); rfl) | ((with_reducible apply br_f); rfl) | ((with_reducible apply ex_some (mulB ?hh)); case hh => decide +kernel) | ((with_reducible apply ex_some (mulA ?hh)); case hh => decide +kernel) | ((with_reducible apply ex_some (rngL ?hh)); case hh => decide +kernel) | (refine ⟨rfl, ?_⟩)))
          refine ex_some (ne_empty s1 (by omega)) ?_
          (repeat (first | with_reducible (first | apply wp_sIf | apply wp_next | apply wp_ret | apply wp_set | apply wp_own | apply wp_par | apply wp_par3 | apply wp_asg | apply wp_for | apply wp_tVal | apply wp_tTru | apply wp_tAnd | apply wp_tOr | apply wp_tNot | apply wp_e2 | apply wp_e1 | apply wp_eC | apply wp_call | apply wp_cons | apply wp_nil | apply wp_mt | apply wp_sl | apply wp_pNo | apply wp_pAt | apply wp_rev | apply wp_eIf | apply wp_eAnd | apply wp_eOr | apply wp_eNot | apply wp_chain | apply wp_isi | apply wp_isi2 | apply wp_fn | apply wp_iOf | apply wp_iRng | apply wp_lc | apply wp_tup | apply wp_lst | apply wp_frz | apply ko_rt | apply kr_rt | apply kr_nx | apply ex_bool | apply ex_int) | ((with_reducible apply wp_eV); rfl) | ((with_reducible apply wp_eOv); rfl) | ((with_reducible apply wp_eOo); rfl) | ((with_reducible apply wp_st); rfl; decide) | ((with_reducible apply wp_stSet); rfl) | ((with_reducible apply wp_fnS); rfl) | ((with_reducible apply ex_some); rfl) | ((with_reducible apply ex_sb); rfl) | ((with_reducible apply br_t); rfl) | ((with_reducible apply br_f); rfl) | ((with_reducible apply ex_some (mulB ?hh)); case hh => decide +kernel) | ((with_reducible apply ex_some (mulA ?hh)); case hh => decide +kernel) | ((with_reducible apply ex_some (rngL ?hh)); case hh => decide +kernel) | (refine ⟨rfl, ?_⟩)))
          refine ⟨ok2, fun hne => ?_⟩
          have hy0 : 0 < ys.length := by cases ys with | nil => cases hne | cons _ _ => simp
          have hyw : wts ys + 1 ≤ wts xs := wt_mem m1
          have hyl := wts_len (xs := ys)
          have w0 := wt_mem m0
          have hyk : 1 ≤ k - 1 := by have h2 : PyData.depthAll ys + 1 ≤ k - 1 := s1.dep; omega
          have suby : ∀ lo hi, Sans (wts ys) k (cut ys lo hi) := fun lo hi => (sy.self.sub (cut_sub ys lo hi)).mono (Nat.le_refl _) (by omega)
          have leny : ∀ lo hi, (cut ys lo hi).length ≤ ys.length := fun lo hi => (cut_sub ys lo hi).length_le
          (repeat (first | with_reducible (first | apply wp_seq | apply wp_sIf | apply wp_next | apply wp_ret | apply wp_set | apply wp_own | apply wp_par | apply wp_par3 | apply wp_asg | apply wp_for | apply wp_tVal | apply wp_tTru | apply wp_tAnd | apply wp_tOr | apply wp_tNot | apply wp_e2 | apply wp_e1 | apply wp_eC | apply wp_call | apply wp_cons | apply wp_nil | apply wp_mt | apply wp_sl | apply wp_pNo | apply wp_pAt | apply wp_rev | apply wp_eIf | apply wp_eAnd | apply wp_eOr | apply wp_eNot | apply wp_chain | apply wp_isi | apply wp_isi2 | apply wp_fn | apply wp_iOf | apply wp_iRng | apply wp_lc | apply wp_tup | apply wp_lst | apply wp_frz | apply ko_nx | apply ko_rt | apply kr_rt | apply kr_nx | apply ex_bool | apply ex_int) | ((with_reducible apply wp_eV); rfl) | ((with_reducible apply wp_eOv); rfl) | ((with_reducible apply wp_eOo); rfl) | ((with_reducible apply wp_st); rfl; decide) | ((with_reducible apply wp_stSet); rfl) | ((with_reducible apply wp_fnS); rfl) | ((with_reducible apply ex_some); rfl) | ((with_reducible apply ex_sb); rfl) | ((with_reducible apply br_t); rfl) | ((with_reducible apply br_f); rfl) | ((with_reducible apply ex_some (mulB ?hh)); case hh => decide +kernel) | ((with_reducible apply ex_some (mulA ?hh)); case hh => decide +kernel) | ((with_reducible apply ex_some (rngL ?hh)); case hh => decide +kernel) | (refine ⟨rfl, ?_⟩)))
          refine ex_some i1 ?_
          (repeat (first | with_reducible (first | apply wp_seq | apply wp_sIf | apply wp_next | apply wp_ret | apply wp_set | apply wp_own | apply wp_par | apply wp_par3 | apply wp_asg | apply wp_for | apply wp_tVal | apply wp_tTru | apply wp_tAnd | apply wp_tOr | apply wp_tNot | apply wp_e2 | apply wp_e1 | apply wp_eC | apply wp_call | apply wp_cons | apply wp_nil | apply wp_mt | apply wp_sl | apply wp_pNo | apply wp_pAt | apply wp_rev | apply wp_eIf | apply wp_eAnd | apply wp_eOr | apply wp_eNot | apply wp_chain | apply wp_isi | apply wp_isi2 | apply wp_fn | apply wp_iOf | apply wp_iRng | apply wp_lc | apply wp_tup | apply wp_lst | apply wp_frz | apply ko_nx | apply ko_rt | apply kr_rt | apply kr_nx | apply ex_bool | apply ex_int) | ((with_reducible apply wp_eV); rfl) | ((with_reducible apply wp_eOv); rfl) | ((with_reducible apply wp_eOo); rfl) | ((with_reducible apply wp_st); rfl; decide) | ((with_reducible apply wp_stSet); rfl) | ((with_reducible apply wp_fnS); rfl) | ((with_reducible apply ex_some); rfl) | ((with_reducible apply ex_sb); rfl) | ((with_reducible apply br_t); rfl) | ((with_reducible apply br_f); rfl) | ((with_reducible apply ex_some (mulB ?hh)); case hh => decide +kernel) | ((with_reducible apply ex_some (mulA ?hh)); case hh => decide +kernel) | ((with_reducible apply ex_some (rngL ?hh)); case hh => decide +kernel) | (refine ⟨rfl, ?_⟩)))
          refine next_wpN hy0 (by omega) ok2 fun a s3 ok3 ha => ?_
          (repeat (first | with_reducible (first | apply wp_seq | apply wp_sIf | apply wp_next | apply wp_ret | apply wp_set | apply wp_own | apply wp_par | apply wp_par3 | apply wp_asg | apply wp_for | apply wp_tVal | apply wp_tTru | apply wp_tAnd | apply wp_tOr | apply wp_tNot | apply wp_e2 | apply wp_e1 | apply wp_eC | apply wp_call | apply wp_cons | apply wp_nil | apply wp_mt | apply wp_sl | apply wp_pNo | apply wp_pAt | apply wp_rev | apply wp_eIf | apply wp_eAnd | apply wp_eOr | apply wp_eNot | apply wp_chain | apply wp_isi | apply wp_isi2 | apply wp_fn | apply wp_iOf | apply wp_iRng | apply wp_lc | apply wp_tup | apply wp_lst | apply wp_frz | apply ko_nx | apply ko_rt | apply kr_rt | apply kr_nx | apply ex_bool | apply ex_int) | ((with_reducible apply wp_eV); rfl) | ((with_reducible apply wp_eOv); rfl) | ((with_reducible apply wp_eOo); rfl) | ((with_reducible apply wp_st); rfl; decide) | ((with_reducible apply wp_stSet); rfl) | ((with_reducible apply wp_fnS); rfl) | ((with_reducible apply ex_some); rfl) | ((with_reducible apply ex_sb); rfl) | ((with_reducible apply br_t); rfl) | ((with_reducible apply br_f); rfl) | ((with_reducible apply ex_some (mulB ?hh)); case hh => decide +kernel) | ((with_reducible apply ex_some (mulA ?hh)); case hh => decide +kernel) | ((with_reducible apply ex_some (rngL ?hh)); case hh => decide +kernel) | (refine ⟨rfl, ?_⟩)))
          refine ex_some i1 ?_
          (repeat (first | with_reducible (first | apply wp_seq | apply wp_sIf | apply wp_next | apply wp_ret | apply wp_set | apply wp_own | apply wp_par | apply wp_par3 | apply wp_asg | apply wp_for | apply wp_tVal | apply wp_tTru | apply wp_tAnd | apply wp_tOr | apply wp_tNot | apply wp_e2 | apply wp_e1 | apply wp_eC | apply wp_call | apply wp_cons | apply wp_nil | apply wp_mt | apply wp_sl | apply wp_pNo | apply wp_pAt | apply wp_rev | apply wp_eIf | apply wp_eAnd | apply wp_eOr | apply wp_eNot | apply wp_chain | apply wp_isi | apply wp_isi2 | apply wp_fn | apply wp_iOf | apply wp_iRng | apply wp_lc | apply wp_tup | apply wp_lst | apply wp_frz | apply ko_nx | apply ko_rt | apply kr_rt | apply kr_nx | apply ex_bool | apply ex_int) | ((with_reducible apply wp_eV); rfl) | ((with_reducible apply wp_eOv); rfl) | ((with_reducible apply wp_eOo); rfl) | ((with_reducible apply wp_st); rfl; decide) | ((with_reducible apply wp_stSet); rfl) | ((with_reducible apply wp_fnS); rfl) | ((with_reducible apply ex_some); rfl) | ((with_reducible apply ex_sb); rfl) | ((with_reducible apply br_t); rfl) | ((with_reducible apply br_f); rfl) | ((with_reducible apply ex_some (mulB ?hh)); case hh => decide +kernel) | ((with_reducible apply ex_some (mulA ?hh)); case hh => decide +kernel) | ((with_reducible apply ex_some (rngL ?hh)); case hh => decide +kernel) | (refine ⟨rfl, ?_⟩)))
          refine next_wpN hy0 (by omega) ok3 fun b s4 ok4 hb => ?_
          apply wp_nil
          refine ⟨_, _, rfl, ?_⟩
          have l1 := leny none (some (a : Int))
          have l2 := leny (some (b : Int)) (some ((b : Int) + 1))
          have l3 := leny (some ((a : Int) + 1)) none
          (repeat (first | with_reducible (first | apply wp_seq | apply wp_sIf | apply wp_next | apply wp_ret | apply wp_set | apply wp_own | apply wp_par | apply wp_par3 | apply wp_asg | apply wp_for | apply wp_tVal | apply wp_tTru | apply wp_tAnd | apply wp_tOr | apply wp_tNot | apply wp_e2 | apply wp_e1 | apply wp_eC | apply wp_call | apply wp_cons | apply wp_nil | apply wp_mt | apply wp_sl | apply wp_pNo | apply wp_pAt | apply wp_rev | apply wp_eIf | apply wp_eAnd | apply wp_eOr | apply wp_eNot | apply wp_chain | apply wp_isi | apply wp_isi2 | apply wp_fn | apply wp_iOf | apply wp_iRng | apply wp_lc | apply wp_tup | apply wp_lst | apply wp_frz | apply ko_nx | apply ko_rt | apply kr_rt | apply kr_nx | apply ex_bool | apply ex_int) | ((with_reducible apply wp_eV); rfl) | ((with_reducible apply wp_eOv); rfl) | ((with_reducible apply wp_eOo); rfl) | ((with_reducible apply wp_st); rfl; decide) | ((with_reducible apply wp_stSet); rfl) | ((with_reducible apply wp_fnS); rfl) | ((with_reducible apply ex_some); rfl) | ((with_reducible apply ex_sb); rfl) | ((with_reducible apply br_t); rfl) | ((with_reducible apply br_f); rfl) | ((with_reducible apply ex_some (mulB ?hh)); case hh => decide +kernel) | ((with_reducible apply ex_some (mulA ?hh)); case hh => decide +kernel) | ((with_reducible apply ex_some (rngL ?hh)); case hh => decide +kernel) | (refine ⟨rfl, ?_⟩)))
          refine ex_some i0 ?_
          (repeat (first | with_reducible (first | apply wp_seq | apply wp_sIf | apply wp_next | apply wp_ret | apply wp_set | apply wp_own | apply wp_par | apply wp_par3 | apply wp_asg | apply wp_for | apply wp_tVal | apply wp_tTru | apply wp_tAnd | apply wp_tOr | apply wp_tNot | apply wp_e2 | apply wp_e1 | apply wp_eC | apply wp_call | apply wp_cons | apply wp_nil | apply wp_mt | apply wp_sl | apply wp_pNo | apply wp_pAt | apply wp_rev | apply wp_eIf | apply wp_eAnd | apply wp_eOr | apply wp_eNot | apply wp_chain | apply wp_isi | apply wp_isi2 | apply wp_fn | apply wp_iOf | apply wp_iRng | apply wp_lc | apply wp_tup | apply wp_lst | apply wp_frz | apply ko_nx | apply ko_rt | apply kr_rt | apply kr_nx | apply ex_bool | apply ex_int) | ((with_reducible apply wp_eV); rfl) | ((with_reducible apply wp_eOv); rfl) | ((with_reducible apply wp_eOo); rfl) | ((with_reducible apply wp_st); rfl; decide) | ((with_reducible apply wp_stSet); rfl) | ((with_reducible apply wp_fnS); rfl) | ((with_reducible apply ex_some); rfl) | ((with_reducible apply ex_sb); rfl) | ((with_reducible apply br_t); rfl) | ((with_reducible apply br_f); rfl) | ((with_reducible apply ex_some (mulB ?hh)); case hh => decide +kernel) | ((with_reducible apply ex_some (mulA ?hh)); case hh => decide +kernel) | ((with_reducible apply ex_some (rngL ?hh)); case hh => decide +kernel) | (refine ⟨rfl, ?_⟩)))
          refine ex_some i1 ?_
          (repeat (first | with_reducible (first | apply wp_seq | apply wp_sIf | apply wp_next | apply wp_ret | apply wp_set | apply wp_own | apply wp_par | apply wp_par3 | apply wp_asg | apply wp_for | apply wp_tVal | apply wp_tTru | apply wp_tAnd | apply wp_tOr | apply wp_tNot | apply wp_e2 | apply wp_e1 | apply wp_eC | apply wp_call | apply wp_cons | apply wp_nil | apply wp_mt | apply wp_sl | apply wp_pNo | apply wp_pAt | apply wp_rev | apply wp_eIf | apply wp_eAnd | apply wp_eOr | apply wp_eNot | apply wp_chain | apply wp_isi | apply wp_isi2 | apply wp_fn | apply wp_iOf | apply wp_iRng | apply wp_lc | apply wp_tup | apply wp_lst | apply wp_frz | apply ko_nx | apply ko_rt | apply kr_rt | apply kr_nx | apply ex_bool | apply ex_int) | ((with_reducible apply wp_eV); rfl) | ((with_reducible apply wp_eOv); rfl) | ((with_reducible apply wp_eOo); rfl) | ((with_reducible apply wp_st); rfl; decide) | ((with_reducible apply wp_stSet); rfl) | ((with_reducible apply wp_fnS); rfl) | ((with_reducible apply ex_some); rfl) | ((with_reducible apply ex_sb); rfl) | ((with_reducible apply br_t); rfl) | ((with_reducible apply br_f); rfl) | ((with_reducible apply ex_some (mulB ?hh)); case hh => decide +kernel) | ((with_reducible apply ex_some (mulA ?hh)); case hh => decide +kernel) | ((with_reducible apply ex_some (rngL ?hh)); case hh => decide +kernel) | (refine ⟨rfl, ?_⟩)))
          refine ex_some i1 ?_
          (repeat (first | with_reducible (first | apply wp_seq | apply wp_sIf | apply wp_next | apply wp_ret | apply wp_set | apply wp_own | apply wp_par | apply wp_par3 | apply wp_asg | apply wp_for | apply wp_tVal | apply wp_tTru | apply wp_tAnd | apply wp_tOr | apply wp_tNot | apply wp_e2 | apply wp_e1 | apply wp_eC | apply wp_call | apply wp_cons | apply wp_nil | apply wp_mt | apply wp_sl | apply wp_pNo | apply wp_pAt | apply wp_rev | apply wp_eIf | apply wp_eAnd | apply wp_eOr | apply wp_eNot | apply wp_chain | apply wp_isi | apply wp_isi2 | apply wp_fn | apply wp_iOf | apply wp_iRng | apply wp_lc | apply wp_tup | apply wp_lst | apply wp_frz | apply ko_nx | apply ko_rt | apply kr_rt | apply kr_nx | apply ex_bool | apply ex_int) | ((with_reducible apply wp_eV); rfl) | ((with_reducible apply wp_eOv); rfl) | ((with_reducible apply wp_eOo); rfl) | ((with_reducible apply wp_st); rfl; decide) | ((with_reducible apply wp_stSet); rfl) | ((with_reducible apply wp_fnS); rfl) | ((with_reducible apply ex_some); rfl) | ((with_reducible apply ex_sb); rfl) | ((with_reducible apply br_t); rfl) | ((with_reducible apply br_f); rfl) | ((with_reducible apply ex_some (mulB ?hh)); case hh => decide +kernel) | ((with_reducible apply ex_some (mulA ?hh)); case hh => decide +kernel) | ((with_reducible apply ex_some (rngL ?hh)); case hh => decide +kernel) | (refine ⟨rfl, ?_⟩)))
          refine ex_some (add_tup (by omega)) ?_
          (repeat (first | with_reducible (first | apply wp_seq | apply wp_sIf | apply wp_next | apply wp_ret | apply wp_set | apply wp_own | apply wp_par | apply wp_par3 | apply wp_asg | apply wp_for | apply wp_tVal | apply wp_tTru | apply wp_tAnd | apply wp_tOr | apply wp_tNot | apply wp_e2 | apply wp_e1 | apply wp_eC | apply wp_call | apply wp_cons | apply wp_nil | apply wp_mt | apply wp_sl | apply wp_pNo | apply wp_pAt | apply wp_rev | apply wp_eIf | apply wp_eAnd | apply wp_eOr | apply wp_eNot | apply wp_chain | apply wp_isi | apply wp_isi2 | apply wp_fn | apply wp_iOf | apply wp_iRng | apply wp_lc | apply wp_tup | apply wp_lst | apply wp_frz | apply ko_nx | apply ko_rt | apply kr_rt | apply kr_nx | apply ex_bool | apply ex_int) | ((with_reducible apply wp_eV); rfl) | ((with_reducible apply wp_eOv); rfl) | ((with_reducible apply wp_eOo); rfl) | ((with_reducible apply wp_st); rfl; decide) | ((with_reducible apply wp_stSet); rfl) | ((with_reducible apply wp_fnS); rfl) | ((with_reducible apply ex_some); rfl) | ((with_reducible apply ex_sb); rfl) | ((with_reducible apply br_t); rfl) | ((with_reducible apply br_f); rfl) | ((with_reducible apply ex_some (mulB ?hh)); case hh => decide +kernel) | ((with_reducible apply ex_some (mulA ?hh)); case hh => decide +kernel) | ((with_reducible apply ex_some (rngL ?hh)); case hh => decide +kernel) | (refine ⟨rfl, ?_⟩)))
          refine ex_some i1 ?_
          (repeat (first | with_reducible (first | apply wp_seq | apply wp_sIf | apply wp_next | apply wp_ret | apply wp_set | apply wp_own | apply wp_par | apply wp_par3 | apply wp_asg | apply wp_for | apply wp_tVal | apply wp_tTru | apply wp_tAnd | apply wp_tOr | apply wp_tNot | apply wp_e2 | apply wp_e1 | apply wp_eC | apply wp_call | apply wp_cons | apply wp_nil | apply wp_mt | apply wp_sl | apply wp_pNo | apply wp_pAt | apply wp_rev | apply wp_eIf | apply wp_eAnd | apply wp_eOr | apply wp_eNot | apply wp_chain | apply wp_isi | apply wp_isi2 | apply wp_fn | apply wp_iOf | apply wp_iRng | apply wp_lc | apply wp_tup | apply wp_lst | apply wp_frz | apply ko_nx | apply ko_rt | apply kr_rt | apply kr_nx | apply ex_bool | apply ex_int) | ((with_reducible apply wp_eV); rfl) | ((with_reducible apply wp_eOv); rfl) | ((with_reducible apply wp_eOo); rfl) | ((with_reducible apply wp_st); rfl; decide) | ((with_reducible apply wp_stSet); rfl) | ((with_reducible apply wp_fnS); rfl) | ((with_reducible apply ex_some); rfl) | ((with_reducible apply ex_sb); rfl) | ((with_reducible apply br_t); rfl) | ((with_reducible apply br_f); rfl) | ((with_reducible apply ex_some (mulB ?hh)); case hh => decide +kernel) | ((with_reducible apply ex_some (mulA ?hh)); case hh => decide +kernel) | ((with_reducible apply ex_some (rngL ?hh)); case hh => decide +kernel) | (refine ⟨rfl, ?_⟩)))
          refine ex_some (add_tup (by rw [List.length_append]; omega)) ?_
          (repeat (first | with_reducible (first | apply wp_seq | apply wp_sIf | apply wp_next | apply wp_ret | apply wp_set | apply wp_own | apply wp_par | apply wp_par3 | apply wp_asg | apply wp_for | apply wp_tVal | apply wp_tTru | apply wp_tAnd | apply wp_tOr | apply wp_tNot | apply wp_e2 | apply wp_e1 | apply wp_eC | apply wp_call | apply wp_cons | apply wp_nil | apply wp_mt | apply wp_sl | apply wp_pNo | apply wp_pAt | apply wp_rev | apply wp_eIf | apply wp_eAnd | apply wp_eOr | apply wp_eNot | apply wp_chain | apply wp_isi | apply wp_isi2 | apply wp_fn | apply wp_iOf | apply wp_iRng | apply wp_lc | apply wp_tup | apply wp_lst | apply wp_frz | apply ko_nx | apply ko_rt | apply kr_rt | apply kr_nx | apply ex_bool | apply ex_int) | ((with_reducible apply wp_eV); rfl) | ((with_reducible apply wp_eOv); rfl) | ((with_reducible apply wp_eOo); rfl) | ((with_reducible apply wp_st); rfl; decide) | ((with_reducible apply wp_stSet); rfl) | ((with_reducible apply wp_fnS); rfl) | ((with_reducible apply ex_some); rfl) | ((with_reducible apply ex_sb); rfl) | ((with_reducible apply br_t); rfl) | ((with_reducible apply br_f); rfl) | ((with_reducible apply ex_some (mulB ?hh)); case hh => decide +kernel) | ((with_reducible apply ex_some (mulA ?hh)); case hh => decide +kernel) | ((with_reducible apply ex_some (rngL ?hh)); case hh => decide +kernel) | (refine ⟨rfl, ?_⟩)))
          refine ⟨ok4, ?_⟩
          have t : San (3 * wts ys + 1) (k + 1) (.tuple (cut ys none (some (a : Int)) ++ cut ys (some (b : Int)) (some ((b : Int) + 1)) ++ cut ys (some ((a : Int) + 1)) none)) :=
            ((((suby _ _).app (suby _ _)).app (suby _ _)).tup).mono (by omega) (Nat.le_refl _)
          have t0 : San (wt x0) (k + 1) x0 := ⟨s0.lay, Nat.le_refl _, Nat.le_trans s0.dep (by omega)⟩
          exact ((Sans.cons t0 (.one t)).tup).mono (by omega) (Nat.le_refl _)
        | _ => exact br_f rfl ⟨ok2, fun h => by cases h⟩
    · (repeat (first | with_reducible (first | apply wp_sIf | apply wp_next | apply wp_ret | apply wp_set | apply wp_own | apply wp_par | apply wp_par3 | apply wp_asg | apply wp_for | apply wp_tVal | apply wp_tTru | apply wp_tAnd | apply wp_tOr | apply wp_tNot | apply wp_e2 | apply wp_e1 | apply wp_eC | apply wp_call | apply wp_cons | apply wp_nil | apply wp_mt | apply wp_sl | apply wp_pNo | apply wp_pAt | apply wp_rev | apply wp_eIf | apply wp_eAnd | apply wp_eOr | apply wp_eNot | apply wp_chain | apply wp_isi | apply wp_isi2 | apply wp_fn | apply wp_iOf | apply wp_iRng | apply wp_lc | apply wp_tup | apply wp_lst | apply wp_frz | apply ko_rt | apply kr_rt | apply kr_nx | apply ex_bool | apply ex_int) | ((with_reducible apply wp_eV); rfl) | ((with_reducible apply wp_eOv); rfl) | ((with_reducible apply wp_eOo); rfl) | ((with_reducible apply wp_st); rfl; decide) | ((with_reducible apply wp_stSet); rfl) | ((with_reducible apply wp_fnS); rfl) | ((with_reducible apply ex_some); rfl) | ((with_reducible apply ex_sb); rfl) | ((with_reducible apply br_t); rfl) | ((with_reducible apply br_f); rfl) | ((with_reducible apply ex_some (mulB ?hh)); case hh => decide +kernel) | ((with_reducible apply ex_some (mulA ?hh)); case hh => decide +kernel) | ((with_reducible apply ex_some (rngL ?hh)); case hh => decide +kernel) | (refine ⟨rfl, ?_⟩)))
      refine ⟨ok, fun h3 => ?_⟩
      (repeat (first | with_reducible (first | apply wp_seq | apply wp_sIf | apply wp_next | apply wp_ret | apply wp_set | apply wp_own | apply wp_par | apply wp_par3 | apply wp_asg | apply wp_for | apply wp_tVal | apply wp_tTru | apply wp_tAnd | apply wp_tOr | apply wp_tNot | apply wp_e2 | apply wp_e1 | apply wp_eC | apply wp_call | apply wp_cons | apply wp_nil | apply wp_mt | apply wp_sl | apply wp_pNo | apply wp_pAt | apply wp_rev | apply wp_eIf | apply wp_eAnd | apply wp_eOr | apply wp_eNot | apply wp_chain | apply wp_isi | apply wp_isi2 | apply wp_fn | apply wp_iOf | apply wp_iRng | apply wp_lc | apply wp_tup | apply wp_lst | apply wp_frz | apply ko_nx | apply ko_rt | apply kr_rt | apply kr_nx | apply ex_bool | apply ex_int) | ((with_reducible apply wp_eV); rfl) | ((with_reducible apply wp_eOv); rfl) | ((with_reducible apply wp_eOo); rfl) | ((with_reducible apply wp_st); rfl; decide) | ((with_reducible apply wp_stSet); rfl) | ((with_reducible apply wp_fnS); rfl) | ((with_reducible apply ex_some); rfl) | ((with_reducible apply ex_sb); rfl) | ((with_reducible apply br_t); rfl) | ((with_reducible apply br_f); rfl) | ((with_reducible apply ex_some (mulB ?hh)); case hh => decide +kernel) | ((with_reducible apply ex_some (mulA ?hh)); case hh => decide +kernel) | ((with_reducible apply ex_some (rngL ?hh)); case hh => decide +kernel) | (refine ⟨rfl, ?_⟩)))
      refine ⟨fun hbig => ?_, fun hsmall => ?_⟩
      · have sc := sub1 (some 1) none
        have sc' : Sans (wts xs) (k - 1) (cut xs (some 1) none) := ss.self.sub (cut_sub xs _ _)
        have st : San 10000 k (.tuple (cut xs (some 1) none)) := sc'.tup.mono (by omega) (by omega)
        (repeat (first | with_reducible (first | apply wp_seq | apply wp_sIf | apply wp_next | apply wp_ret | apply wp_set | apply wp_own | apply wp_par | apply wp_par3 | apply wp_asg | apply wp_for | apply wp_tVal | apply wp_tTru | apply wp_tAnd | apply wp_tOr | apply wp_tNot | apply wp_e2 | apply wp_e1 | apply wp_eC | apply wp_call | apply wp_cons | apply wp_nil | apply wp_mt | apply wp_sl | apply wp_pNo | apply wp_pAt | apply wp_rev | apply wp_eIf | apply wp_eAnd | apply wp_eOr | apply wp_eNot | apply wp_chain | apply wp_isi | apply wp_isi2 | apply wp_fn | apply wp_iOf | apply wp_iRng | apply wp_lc | apply wp_tup | apply wp_lst | apply wp_frz | apply ko_nx | apply ko_rt | apply kr_rt | apply kr_nx | apply ex_bool | apply ex_int) | ((with_reducible apply wp_eV); rfl) | ((with_reducible apply wp_eOv); rfl) | ((with_reducible apply wp_eOo); rfl) | ((with_reducible apply wp_st); rfl; decide) | ((with_reducible apply wp_stSet); rfl) | ((with_reducible apply wp_fnS); rfl) | ((with_reducible apply ex_some); rfl) | ((with_reducible apply ex_sb); rfl) | ((with_reducible apply br_t); rfl) | ((with_reducible apply br_f); rfl) | ((with_reducible apply ex_some (mulB ?hh)); case hh => decide +kernel) | ((with_reducible apply ex_some (mulA ?hh)); case hh => decide +kernel) | ((with_reducible apply ex_some (rngL ?hh)); case hh => decide +kernel) | (refine ⟨rfl, ?_⟩)))
        refine wp_tr (tr_cut 12 (pcut _ _) st hk (by omega)) ok fun r s3 ok3 ⟨hr, ht⟩ => ?_
        obtain ⟨ys, rfl⟩ := isTup (ht rfl)
        have sr := hr.ofTup
        have hwc : wts (cut xs (some 1) none) ≤ wts xs := sc'.w
        have ew : wt (.tuple (cut xs (some 1) none)) = wts (cut xs (some 1) none) + 1 := rfl
        have ly : ys.length ≤ 5 * wts xs + 24 := Nat.le_trans wts_len (Nat.le_trans sr.w (by omega))
        have l1 := len1 none (some 1)
        refine ex_some (add_tup (by omega)) ?_
        refine ⟨ok3, ?_⟩
        exact (((sub1 none (some 1)).mono (Nat.le_refl _) (m := k + 1) (by omega)).app (sr.mono (Nat.le_refl _) (m := k + 1) (by omega))).tup.mono (by omega) (by omega)
      · have hsmall : xs.length ≤ 2 := by have := of_decide_eq_false hsmall; omega
        have ec : cut xs (some 1) none = xs.drop 1 := cut_from (k := 1) (by omega)
        have l1 := len1 none (some 1)
        (repeat (first | with_reducible (first | apply wp_seq | apply wp_sIf | apply wp_next | apply wp_ret | apply wp_set | apply wp_own | apply wp_par | apply wp_par3 | apply wp_asg | apply wp_for | apply wp_tVal | apply wp_tTru | apply wp_tAnd | apply wp_tOr | apply wp_tNot | apply wp_e2 | apply wp_e1 | apply wp_eC | apply wp_call | apply wp_cons | apply wp_nil | apply wp_mt | apply wp_sl | apply wp_pNo | apply wp_pAt | apply wp_rev | apply wp_eIf | apply wp_eAnd | apply wp_eOr | apply wp_eNot | apply wp_chain | apply wp_isi | apply wp_isi2 | apply wp_fn | apply wp_iOf | apply wp_iRng | apply wp_lc | apply wp_tup | apply wp_lst | apply wp_frz | apply ko_nx | apply ko_rt | apply kr_rt | apply kr_nx | apply ex_bool | apply ex_int) | ((with_reducible apply wp_eV); rfl) | ((with_reducible apply wp_eOv); rfl) | ((with_reducible apply wp_eOo); rfl) | ((with_reducible apply wp_st); rfl; decide) | ((with_reducible apply wp_stSet); rfl) | ((with_reducible apply wp_fnS); rfl) | ((with_reducible apply ex_some); rfl) | ((with_reducible apply ex_sb); rfl) | ((with_reducible apply br_t); rfl) | ((with_reducible apply br_f); rfl) | ((with_reducible apply ex_some (mulB ?hh)); case hh => decide +kernel) | ((with_reducible apply ex_some (mulA ?hh)); case hh => decide +kernel) | ((with_reducible apply ex_some (rngL ?hh)); case hh => decide +kernel) | (refine ⟨rfl, ?_⟩)))
        rw [ec]
        refine ⟨decide_eq_true (by rw [List.length_drop]; omega), ?_⟩
        refine wp_mono (wp_lcGo LSok (San (5 * wts xs + 20) (k + 1)) ok ?_) ?_
        · intro d hd
          have hd := List.mem_of_mem_drop hd
          refine ⟨_, rfl, fun s ok => wp_pure ⟨ok, fun _ s ok => ?_⟩⟩
          (repeat (first | with_reducible (first | apply wp_seq | apply wp_sIf | apply wp_next | apply wp_ret | apply wp_set | apply wp_own | apply wp_par | apply wp_par3 | apply wp_asg | apply wp_for | apply wp_tVal | apply wp_tTru | apply wp_tAnd | apply wp_tOr | apply wp_tNot | apply wp_e2 | apply wp_e1 | apply wp_eC | apply wp_call | apply wp_cons | apply wp_nil | apply wp_mt | apply wp_sl | apply wp_pNo | apply wp_pAt | apply wp_rev | apply wp_eIf | apply wp_eAnd | apply wp_eOr | apply wp_eNot | apply wp_chain | apply wp_isi | apply wp_isi2 | apply wp_fn | apply wp_iOf | apply wp_iRng | apply wp_lc | apply wp_tup | apply wp_lst | apply wp_frz | apply ko_nx | apply ko_rt | apply kr_rt | apply kr_nx | apply ex_bool | apply ex_int) | ((with_reducible apply wp_eV); rfl) | ((with_reducible apply wp_eOv); rfl) | ((with_reducible apply wp_eOo); rfl) | ((with_reducible apply wp_st); rfl; decide) | ((with_reducible apply wp_stSet); rfl) | ((with_reducible apply wp_fnS); rfl) | ((with_reducible apply ex_some); rfl) | ((with_reducible apply ex_sb); rfl) | ((with_reducible apply br_t); rfl) | ((with_reducible apply br_f); rfl) | ((with_reducible apply ex_some (mulB ?hh)); case hh => decide +kernel) | ((with_reducible apply ex_some (mulA ?hh)); case hh => decide +kernel) | ((with_reducible apply ex_some (rngL ?hh)); case hh => decide +kernel) | (refine ⟨rfl, ?_⟩)))
          refine wp_tr (tr_cut 12 (plainAll_mem hp _ hd) ((ss.mem hd).mono (by omega) (Nat.le_refl _)) (by omega) (by omega)) ok fun r s3 ok3 ⟨hr, _⟩ => ?_
          have := wt_mem hd
          exact ⟨ok3, hr.mono (by omega) (by omega)⟩
        · rintro ys s3 ⟨ok3, hl3, hy⟩
          rw [List.length_drop] at hl3
          have sy := Sans.of_all hy
          have hly : ys.length ≤ 1 := by omega
          have hwy : ys.length * (5 * wts xs + 20) ≤ 5 * wts xs + 20 := by
            have := Nat.mul_le_mul_right (5 * wts xs + 20) hly
            omega
          (repeat (first | with_reducible (first | apply wp_seq | apply wp_sIf | apply wp_next | apply wp_ret | apply wp_set | apply wp_own | apply wp_par | apply wp_par3 | apply wp_asg | apply wp_for | apply wp_tVal | apply wp_tTru | apply wp_tAnd | apply wp_tOr | apply wp_tNot | apply wp_e2 | apply wp_e1 | apply wp_eC | apply wp_call | apply wp_cons | apply wp_nil | apply wp_mt | apply wp_sl | apply wp_pNo | apply wp_pAt | apply wp_rev | apply wp_eIf | apply wp_eAnd | apply wp_eOr | apply wp_eNot | apply wp_chain | apply wp_isi | apply wp_isi2 | apply wp_fn | apply wp_iOf | apply wp_iRng | apply wp_lc | apply wp_tup | apply wp_lst | apply wp_frz | apply ko_nx | apply ko_rt | apply kr_rt | apply kr_nx | apply ex_bool | apply ex_int) | ((with_reducible apply wp_eV); rfl) | ((with_reducible apply wp_eOv); rfl) | ((with_reducible apply wp_eOo); rfl) | ((with_reducible apply wp_st); rfl; decide) | ((with_reducible apply wp_stSet); rfl) | ((with_reducible apply wp_fnS); rfl) | ((with_reducible apply ex_some); rfl) | ((with_reducible apply ex_sb); rfl) | ((with_reducible apply br_t); rfl) | ((with_reducible apply br_f); rfl) | ((with_reducible apply ex_some (mulB ?hh)); case hh => decide +kernel) | ((with_reducible apply ex_some (mulA ?hh)); case hh => decide +kernel) | ((with_reducible apply ex_some (rngL ?hh)); case hh => decide +kernel) | (refine ⟨rfl, ?_⟩)))
          refine ex_some (add_tup (by omega)) ?_
          exact ⟨ok3, (((sub1 none (some 1)).mono (Nat.le_refl _) (m := k + 1) (by omega)).app sy).tup.mono (by omega) (by omega)⟩
  · (repeat (first | with_reducible (first | apply wp_sIf | apply wp_next | apply wp_ret | apply wp_set | apply wp_own | apply wp_par | apply wp_par3 | apply wp_asg | apply wp_for | apply wp_tVal | apply wp_tTru | apply wp_tAnd | apply wp_tOr | apply wp_tNot | apply wp_e2 | apply wp_e1 | apply wp_eC | apply wp_call | apply wp_cons | apply wp_nil | apply wp_mt | apply wp_sl | apply wp_pNo | apply wp_pAt | apply wp_rev | apply wp_eIf | apply wp_eAnd | apply wp_eOr | apply wp_eNot | apply wp_chain | apply wp_isi | apply wp_isi2 | apply wp_fn | apply wp_iOf | apply wp_iRng | apply wp_lc | apply wp_tup | apply wp_lst | apply wp_frz | apply ko_rt | apply kr_rt | apply kr_nx | apply ex_bool | apply ex_int) | ((with_reducible apply wp_eV); rfl) | ((with_reducible apply wp_eOv); rfl) | ((with_reducible apply wp_eOo); rfl) | ((with_reducible apply wp_st); rfl; decide) | ((with_reducible apply wp_stSet); rfl) | ((with_reducible apply wp_fnS); rfl) | ((with_reducible apply ex_some); rfl) | ((with_reducible apply ex_sb); rfl) | ((with_reducible apply br_t); rfl) | ((with_reducible apply br_f); rfl) | ((with_reducible apply ex_some (mulB ?hh)); case hh => decide +kernel) | ((with_reducible apply ex_some (mulA ?hh)); case hh => decide +kernel) | ((with_reducible apply ex_some (rngL ?hh)); case hh => decide +kernel) | (refine ⟨rfl, ?_⟩)))
    refine ⟨fun hp3 => ?_, fun _ => ⟨ok2, fun h => by cases h⟩⟩
    (repeat (first | with_reducible (first | apply wp_sIf | apply wp_next | apply wp_ret | apply wp_set | apply wp_own | apply wp_par | apply wp_par3 | apply wp_asg | apply wp_for | apply wp_tVal | apply wp_tTru | apply wp_tAnd | apply wp_tOr | apply wp_tNot | apply wp_e2 | apply wp_e1 | apply wp_eC | apply wp_call | apply wp_cons | apply wp_nil | apply wp_mt | apply wp_sl | apply wp_pNo | apply wp_pAt | apply wp_rev | apply wp_eIf | apply wp_eAnd | apply wp_eOr | apply wp_eNot | apply wp_chain | apply wp_isi | apply wp_isi2 | apply wp_fn | apply wp_iOf | apply wp_iRng | apply wp_lc | apply wp_tup | apply wp_lst | apply wp_frz | apply ko_rt | apply kr_rt | apply kr_nx | apply ex_bool | apply ex_int) | ((with_reducible apply wp_eV); rfl) | ((with_reducible apply wp_eOv); rfl) | ((with_reducible apply wp_eOo); rfl) | ((with_reducible apply wp_st); rfl; decide) | ((with_reducible apply wp_stSet); rfl) | ((with_reducible apply wp_fnS); rfl) | ((with_reducible apply ex_some); rfl) | ((with_reducible apply ex_sb); rfl) | ((with_reducible apply br_t); rfl) | ((with_reducible apply br_f); rfl) | ((with_reducible apply ex_some (mulB ?hh)); case hh => decide +kernel) | ((with_reducible apply ex_some (mulA ?hh)); case hh => decide +kernel) | ((with_reducible apply ex_some (rngL ?hh)); case hh => decide +kernel) | (refine ⟨rfl, ?_⟩)))
    refine ex_some (ne_emptyL (Sans.ints (n := 0) ns).lst (by omega)) ?_
    (repeat (first | with_reducible (first | apply wp_sIf | apply wp_next | apply wp_ret | apply wp_set | apply wp_own | apply wp_par | apply wp_par3 | apply wp_asg | apply wp_for | apply wp_tVal | apply wp_tTru | apply wp_tAnd | apply wp_tOr | apply wp_tNot | apply wp_e2 | apply wp_e1 | apply wp_eC | apply wp_call | apply wp_cons | apply wp_nil | apply wp_mt | apply wp_sl | apply wp_pNo | apply wp_pAt | apply wp_rev | apply wp_eIf | apply wp_eAnd | apply wp_eOr | apply wp_eNot | apply wp_chain | apply wp_isi | apply wp_isi2 | apply wp_fn | apply wp_iOf | apply wp_iRng | apply wp_lc | apply wp_tup | apply wp_lst | apply wp_frz | apply ko_rt | apply kr_rt | apply kr_nx | apply ex_bool | apply ex_int) | ((with_reducible apply wp_eV); rfl) | ((with_reducible apply wp_eOv); rfl) | ((with_reducible apply wp_eOo); rfl) | ((with_reducible apply wp_st); rfl; decide) | ((with_reducible apply wp_stSet); rfl) | ((with_reducible apply wp_fnS); rfl) | ((with_reducible apply ex_some); rfl) | ((with_reducible apply ex_sb); rfl) | ((with_reducible apply br_t); rfl) | ((with_reducible apply br_f); rfl) | ((with_reducible apply ex_some (mulB ?hh)); case hh => decide +kernel) | ((with_reducible apply ex_some (mulA ?hh)); case hh => decide +kernel) | ((with_reducible apply ex_some (rngL ?hh)); case hh => decide +kernel) | (refine ⟨rfl, ?_⟩)))
    refine ⟨ok2, fun hne => ?_⟩
    have hn0 : 0 < (ns.map PyData.int).length := by
      cases ns with
      | nil => cases hne
      | cons _ _ => simp
    have hn1 : (ns.map PyData.int).length ≤ 10000 := by rw [List.length_map]; omega
    have ixn : ∀ j : Nat, j < (ns.map PyData.int).length → ∃ i : Int, ixD (.list (ns.map .int)) (.int j) = some (.int i) := fun j hj => by
      rw [List.length_map] at hj
      exact ⟨ns[j], (ix_nat (xs := ns.map PyData.int) (by rw [List.length_map]; exact hj)).trans (by rw [List.getElem_map])⟩
    (repeat (first | with_reducible (first | apply wp_seq | apply wp_sIf | apply wp_next | apply wp_ret | apply wp_set | apply wp_own | apply wp_par | apply wp_par3 | apply wp_asg | apply wp_for | apply wp_tVal | apply wp_tTru | apply wp_tAnd | apply wp_tOr | apply wp_tNot | apply wp_e2 | apply wp_e1 | apply wp_eC | apply wp_call | apply wp_cons | apply wp_nil | apply wp_mt | apply wp_sl | apply wp_pNo | apply wp_pAt | apply wp_rev | apply wp_eIf | apply wp_eAnd | apply wp_eOr | apply wp_eNot | apply wp_chain | apply wp_isi | apply wp_isi2 | apply wp_fn | apply wp_iOf | apply wp_iRng | apply wp_lc | apply wp_tup | apply wp_lst | apply wp_frz | apply ko_nx | apply ko_rt | apply kr_rt | apply kr_nx | apply ex_bool | apply ex_int) | ((with_reducible apply wp_eV); rfl) | ((with_reducible apply wp_eOv); rfl) | ((with_reducible apply wp_eOo); rfl) | ((with_reducible apply wp_st); rfl; decide) | ((with_reducible apply wp_stSet); rfl) | ((with_reducible apply wp_fnS); rfl) | ((with_reducible apply ex_some); rfl) | ((with_reducible apply ex_sb); rfl) | ((with_reducible apply br_t); rfl) | ((with_reducible apply br_f); rfl) | ((with_reducible apply ex_some (mulB ?hh)); case hh => decide +kernel) | ((with_reducible apply ex_some (mulA ?hh)); case hh => decide +kernel) | ((with_reducible apply ex_some (rngL ?hh)); case hh => decide +kernel) | (refine ⟨rfl, ?_⟩)))
    refine next_wpN hn0 (by omega) ok2 fun a s3 ok3 ha => ?_
    obtain ⟨i, ei⟩ := ixn a ha
    refine ex_some ei ?_
    (repeat (first | with_reducible (first | apply wp_seq | apply wp_sIf | apply wp_next | apply wp_ret | apply wp_set | apply wp_own | apply wp_par | apply wp_par3 | apply wp_asg | apply wp_for | apply wp_tVal | apply wp_tTru | apply wp_tAnd | apply wp_tOr | apply wp_tNot | apply wp_e2 | apply wp_e1 | apply wp_eC | apply wp_call | apply wp_cons | apply wp_nil | apply wp_mt | apply wp_sl | apply wp_pNo | apply wp_pAt | apply wp_rev | apply wp_eIf | apply wp_eAnd | apply wp_eOr | apply wp_eNot | apply wp_chain | apply wp_isi | apply wp_isi2 | apply wp_fn | apply wp_iOf | apply wp_iRng | apply wp_lc | apply wp_tup | apply wp_lst | apply wp_frz | apply ko_nx | apply ko_rt | apply kr_rt | apply kr_nx | apply ex_bool | apply ex_int) | ((with_reducible apply wp_eV); rfl) | ((with_reducible apply wp_eOv); rfl) | ((with_reducible apply wp_eOo); rfl) | ((with_reducible apply wp_st); rfl; decide) | ((with_reducible apply wp_stSet); rfl) | ((with_reducible apply wp_fnS); rfl) | ((with_reducible apply ex_some); rfl) | ((with_reducible apply ex_sb); rfl) | ((with_reducible apply br_t); rfl) | ((with_reducible apply br_f); rfl) | ((with_reducible apply ex_some (mulB ?hh)); case hh => decide +kernel) | ((with_reducible apply ex_some (mulA ?hh)); case hh => decide +kernel) | ((with_reducible apply ex_some (rngL ?hh)); case hh => decide +kernel) | (refine ⟨rfl, ?_⟩)))
    refine ⟨fun hb => ?_, fun hb => ?_⟩
    · (repeat (first | with_reducible (first | apply wp_seq | apply wp_sIf | apply wp_next | apply wp_ret | apply wp_set | apply wp_own | apply wp_par | apply wp_par3 | apply wp_asg | apply wp_for | apply wp_tVal | apply wp_tTru | apply wp_tAnd | apply wp_tOr | apply wp_tNot | apply wp_e2 | apply wp_e1 | apply wp_eC | apply wp_call | apply wp_cons | apply wp_nil | apply wp_mt | apply wp_sl | apply wp_pNo | apply wp_pAt | apply wp_rev | apply wp_eIf | apply wp_eAnd | apply wp_eOr | apply wp_eNot | apply wp_chain | apply wp_isi | apply wp_isi2 | apply wp_fn | apply wp_iOf | apply wp_iRng | apply wp_lc | apply wp_tup | apply wp_lst | apply wp_frz | apply ko_nx | apply ko_rt | apply kr_rt | apply kr_nx | apply ex_bool | apply ex_int) | ((with_reducible apply wp_eV); rfl) | ((with_reducible apply wp_eOv); rfl) | ((with_reducible apply wp_eOo); rfl) | ((with_reducible apply wp_st); rfl; decide) | ((with_reducible apply wp_stSet); rfl) | ((with_reducible apply wp_fnS); rfl) | ((with_reducible apply ex_some); rfl) | ((with_reducible apply ex_sb); rfl) | ((with_reducible apply br_t); rfl) | ((with_reducible apply br_f); rfl) | ((with_reducible apply ex_some (mulB ?hh)); case hh => decide +kernel) | ((with_reducible apply ex_some (mulA ?hh)); case hh => decide +kernel) | ((with_reducible apply ex_some (rngL ?hh)); case hh => decide +kernel) | (refine ⟨rfl, ?_⟩)))
      refine wp_eq (exch_eq i (i + 1) 12 hp hs1 hk) (wp_pure ?_)
      (repeat (first | with_reducible (first | apply wp_seq | apply wp_sIf | apply wp_next | apply wp_ret | apply wp_set | apply wp_own | apply wp_par | apply wp_par3 | apply wp_asg | apply wp_for | apply wp_tVal | apply wp_tTru | apply wp_tAnd | apply wp_tOr | apply wp_tNot | apply wp_e2 | apply wp_e1 | apply wp_eC | apply wp_call | apply wp_cons | apply wp_nil | apply wp_mt | apply wp_sl | apply wp_pNo | apply wp_pAt | apply wp_rev | apply wp_eIf | apply wp_eAnd | apply wp_eOr | apply wp_eNot | apply wp_chain | apply wp_isi | apply wp_isi2 | apply wp_fn | apply wp_iOf | apply wp_iRng | apply wp_lc | apply wp_tup | apply wp_lst | apply wp_frz | apply ko_nx | apply ko_rt | apply kr_rt | apply kr_nx | apply ex_bool | apply ex_int) | ((with_reducible apply wp_eV); rfl) | ((with_reducible apply wp_eOv); rfl) | ((with_reducible apply wp_eOo); rfl) | ((with_reducible apply wp_st); rfl; decide) | ((with_reducible apply wp_stSet); rfl) | ((with_reducible apply wp_fnS); rfl) | ((with_reducible apply ex_some); rfl) | ((with_reducible apply ex_sb); rfl) | ((with_reducible apply br_t); rfl) | ((with_reducible apply br_f); rfl) | ((with_reducible apply ex_some (mulB ?hh)); case hh => decide +kernel) | ((with_reducible apply ex_some (mulA ?hh)); case hh => decide +kernel) | ((with_reducible apply ex_some (rngL ?hh)); case hh => decide +kernel) | (refine ⟨rfl, ?_⟩)))
      exact ⟨ok3, (san_ex _ _ k hs).mono (by show wts xs + 1 ≤ _; omega) (by omega)⟩
    · (repeat (first | with_reducible (first | apply wp_seq | apply wp_sIf | apply wp_next | apply wp_ret | apply wp_set | apply wp_own | apply wp_par | apply wp_par3 | apply wp_asg | apply wp_for | apply wp_tVal | apply wp_tTru | apply wp_tAnd | apply wp_tOr | apply wp_tNot | apply wp_e2 | apply wp_e1 | apply wp_eC | apply wp_call | apply wp_cons | apply wp_nil | apply wp_mt | apply wp_sl | apply wp_pNo | apply wp_pAt | apply wp_rev | apply wp_eIf | apply wp_eAnd | apply wp_eOr | apply wp_eNot | apply wp_chain | apply wp_isi | apply wp_isi2 | apply wp_fn | apply wp_iOf | apply wp_iRng | apply wp_lc | apply wp_tup | apply wp_lst | apply wp_frz | apply ko_nx | apply ko_rt | apply kr_rt | apply kr_nx | apply ex_bool | apply ex_int) | ((with_reducible apply wp_eV); rfl) | ((with_reducible apply wp_eOv); rfl) | ((with_reducible apply wp_eOo); rfl) | ((with_reducible apply wp_st); rfl; decide) | ((with_reducible apply wp_stSet); rfl) | ((with_reducible apply wp_fnS); rfl) | ((with_reducible apply ex_some); rfl) | ((with_reducible apply ex_sb); rfl) | ((with_reducible apply br_t); rfl) | ((with_reducible apply br_f); rfl) | ((with_reducible apply ex_some (mulB ?hh)); case hh => decide +kernel) | ((with_reducible apply ex_some (mulA ?hh)); case hh => decide +kernel) | ((with_reducible apply ex_some (rngL ?hh)); case hh => decide +kernel) | (refine ⟨rfl, ?_⟩)))
      refine next_wpN hn0 (by omega) ok3 fun b s4 ok4 hb => ?_
      obtain ⟨j, ej⟩ := ixn b hb
      refine ex_some ej ?_
      (repeat (first | with_reducible (first | apply wp_seq | apply wp_sIf | apply wp_next | apply wp_ret | apply wp_set | apply wp_own | apply wp_par | apply wp_par3 | apply wp_asg | apply wp_for | apply wp_tVal | apply wp_tTru | apply wp_tAnd | apply wp_tOr | apply wp_tNot | apply wp_e2 | apply wp_e1 | apply wp_eC | apply wp_call | apply wp_cons | apply wp_nil | apply wp_mt | apply wp_sl | apply wp_pNo | apply wp_pAt | apply wp_rev | apply wp_eIf | apply wp_eAnd | apply wp_eOr | apply wp_eNot | apply wp_chain | apply wp_isi | apply wp_isi2 | apply wp_fn | apply wp_iOf | apply wp_iRng | apply wp_lc | apply wp_tup | apply wp_lst | apply wp_frz | apply ko_nx | apply ko_rt | apply kr_rt | apply kr_nx | apply ex_bool | apply ex_int) | ((with_reducible apply wp_eV); rfl) | ((with_reducible apply wp_eOv); rfl) | ((with_reducible apply wp_eOo); rfl) | ((with_reducible apply wp_st); rfl; decide) | ((with_reducible apply wp_stSet); rfl) | ((with_reducible apply wp_fnS); rfl) | ((with_reducible apply ex_some); rfl) | ((with_reducible apply ex_sb); rfl) | ((with_reducible apply br_t); rfl) | ((with_reducible apply br_f); rfl) | ((with_reducible apply ex_some (mulB ?hh)); case hh => decide +kernel) | ((with_reducible apply ex_some (mulA ?hh)); case hh => decide +kernel) | ((with_reducible apply ex_some (rngL ?hh)); case hh => decide +kernel) | (refine ⟨rfl, ?_⟩)))
      refine wp_eq (exch_eq i j 12 hp hs1 hk) (wp_pure ?_)
      (repeat (first | with_reducible (first | apply wp_seq | apply wp_sIf | apply wp_next | apply wp_ret | apply wp_set | apply wp_own | apply wp_par | apply wp_par3 | apply wp_asg | apply wp_for | apply wp_tVal | apply wp_tTru | apply wp_tAnd | apply wp_tOr | apply wp_tNot | apply wp_e2 | apply wp_e1 | apply wp_eC | apply wp_call | apply wp_cons | apply wp_nil | apply wp_mt | apply wp_sl | apply wp_pNo | apply wp_pAt | apply wp_rev | apply wp_eIf | apply wp_eAnd | apply wp_eOr | apply wp_eNot | apply wp_chain | apply wp_isi | apply wp_isi2 | apply wp_fn | apply wp_iOf | apply wp_iRng | apply wp_lc | apply wp_tup | apply wp_lst | apply wp_frz | apply ko_nx | apply ko_rt | apply kr_rt | apply kr_nx | apply ex_bool | apply ex_int) | ((with_reducible apply wp_eV); rfl) | ((with_reducible apply wp_eOv); rfl) | ((with_reducible apply wp_eOo); rfl) | ((with_reducible apply wp_st); rfl; decide) | ((with_reducible apply wp_stSet); rfl) | ((with_reducible apply wp_fnS); rfl) | ((with_reducible apply ex_some); rfl) | ((with_reducible apply ex_sb); rfl) | ((with_reducible apply br_t); rfl) | ((with_reducible apply br_f); rfl) | ((with_reducible apply ex_some (mulB ?hh)); case hh => decide +kernel) | ((with_reducible apply ex_some (mulA ?hh)); case hh => decide +kernel) | ((with_reducible apply ex_some (rngL ?hh)); case hh => decide +kernel) | (refine ⟨rfl, ?_⟩)))
      exact ⟨ok4, (san_ex _ _ k hs).mono (by show wts xs + 1 ≤ _; omega) (by omega)⟩
/-- what is handed to the judges -/
def Odd (B n : Nat) (d : D) : Prop := San B n d ∨ d = .dict []
/-- _law_odd -/
theorem tr_odd {k : Nat} {xs : List D} (hp : plainB (.tuple xs) = true) (hs : San 5000 k (.tuple xs)) (hk : k < 12) (h0 : 0 < xs.length) : Tr (f_law_odd [.tuple xs]) (Odd 60000 (k + 2)) := by
  intro s ok
  have ss := hs.ofTup
  have hw : wts xs + 1 ≤ 5000 := hs.w
  have hl := wts_len (xs := xs)
  have hk1 : 1 ≤ k := by have h2 : PyData.depthAll xs + 1 ≤ k := hs.dep; omega
  have sub1 : ∀ lo hi, Sans (wts xs) (k + 1) (cut xs lo hi) := fun lo hi => (ss.self.sub (cut_sub xs lo hi)).mono (Nat.le_refl _) (by omega)
  have all1 : Sans (wts xs) (k + 1) xs := ss.self.mono (Nat.le_refl _) (by omega)
  have len1 : ∀ lo hi, (cut xs lo hi).length ≤ xs.length := fun lo hi => (cut_sub xs lo hi).length_le
  have i0 : ixD (.tuple xs) (.int 0) = some xs[0] := ix_nat (k := 0) h0
  have m0 : xs[0] ∈ xs := List.getElem_mem _
  have w0 := wt_mem m0
  have s0 := (ss.self.mem m0)
  have l1 := len1 (some 1) none
  unfold f_law_odd
  apply wp_runS
  unfold b_law_odd
  (repeat (first | with_reducible (first | apply wp_seq | apply wp_sIf | apply wp_next | apply wp_ret | apply wp_set | apply wp_own | apply wp_par | apply wp_par3 | apply wp_asg | apply wp_for | apply wp_tVal | apply wp_tTru | apply wp_tAnd | apply wp_tOr | apply wp_tNot | apply wp_e2 | apply wp_e1 | apply wp_eC | apply wp_call | apply wp_cons | apply wp_nil | apply wp_mt | apply wp_sl | apply wp_pNo | apply wp_pAt | apply wp_rev | apply wp_eIf | apply wp_eAnd | apply wp_eOr | apply wp_eNot | apply wp_chain | apply wp_isi | apply wp_isi2 | apply wp_fn | apply wp_iOf | apply wp_iRng | apply wp_lc | apply wp_tup | apply wp_lst | apply wp_frz | apply ko_nx | apply ko_rt | apply kr_rt | apply kr_nx | apply ex_bool | apply ex_int) | ((with_reducible apply wp_eV); rfl) | ((with_reducible apply wp_eOv); rfl) | ((with_reducible apply wp_eOo); rfl) | ((with_reducible apply wp_st); rfl; decide) | ((with_reducible apply wp_stSet); rfl) | ((with_reducible apply wp_fnS); rfl) | ((with_reducible apply ex_some); rfl) | ((with_reducible apply ex_sb); rfl) | ((with_reducible apply br_t); rfl) | ((with_reducible apply br_f); rfl) | ((with_reducible apply ex_some (mulB ?hh)); case hh => decide +kernel) | ((with_reducible apply ex_some (mulA ?hh)); case hh => decide +kernel) | ((with_reducible apply ex_some (rngL ?hh)); case hh => decide +kernel) | (refine ⟨rfl, ?_⟩)))
  refine ex_some (add_tup (by simp only [List.length_cons, List.length_nil]; omega)) ?_
  (repeat (first | with_reducible (first | apply wp_seq | apply wp_sIf | apply wp_next | apply wp_ret | apply wp_set | apply wp_own | apply wp_par | apply wp_par3 | apply wp_asg | apply wp_for | apply wp_tVal | apply wp_tTru | apply wp_tAnd | apply wp_tOr | apply wp_tNot | apply wp_e2 | apply wp_e1 | apply wp_eC | apply wp_call | apply wp_cons | apply wp_nil | apply wp_mt | apply wp_sl | apply wp_pNo | apply wp_pAt | apply wp_rev | apply wp_eIf | apply wp_eAnd | apply wp_eOr | apply wp_eNot | apply wp_chain | apply wp_isi | apply wp_isi2 | apply wp_fn | apply wp_iOf | apply wp_iRng | apply wp_lc | apply wp_tup | apply wp_lst | apply wp_frz | apply ko_nx | apply ko_rt | apply kr_rt | apply kr_nx | apply ex_bool | apply ex_int) | ((with_reducible apply wp_eV); rfl) | ((with_reducible apply wp_eOv); rfl) | ((with_reducible apply wp_eOo); rfl) | ((with_reducible apply wp_st); rfl; decide) | ((with_reducible apply wp_stSet); rfl) | ((with_reducible apply wp_fnS); rfl) | ((with_reducible apply ex_some); rfl) | ((with_reducible apply ex_sb); rfl) | ((with_reducible apply br_t); rfl) | ((with_reducible apply br_f); rfl) | ((with_reducible apply ex_some (mulB ?hh)); case hh => decide +kernel) | ((with_reducible apply ex_some (mulA ?hh)); case hh => decide +kernel) | ((with_reducible apply ex_some (rngL ?hh)); case hh => decide +kernel) | (refine ⟨rfl, ?_⟩)))
  refine ex_some i0 ?_
  (repeat (first | with_reducible (first | apply wp_seq | apply wp_sIf | apply wp_next | apply wp_ret | apply wp_set | apply wp_own | apply wp_par | apply wp_par3 | apply wp_asg | apply wp_for | apply wp_tVal | apply wp_tTru | apply wp_tAnd | apply wp_tOr | apply wp_tNot | apply wp_e2 | apply wp_e1 | apply wp_eC | apply wp_call | apply wp_cons | apply wp_nil | apply wp_mt | apply wp_sl | apply wp_pNo | apply wp_pAt | apply wp_rev | apply wp_eIf | apply wp_eAnd | apply wp_eOr | apply wp_eNot | apply wp_chain | apply wp_isi | apply wp_isi2 | apply wp_fn | apply wp_iOf | apply wp_iRng | apply wp_lc | apply wp_tup | apply wp_lst | apply wp_frz | apply ko_nx | apply ko_rt | apply kr_rt | apply kr_nx | apply ex_bool | apply ex_int) | ((with_reducible apply wp_eV); rfl) | ((with_reducible apply wp_eOv); rfl) | ((with_reducible apply wp_eOo); rfl) | ((with_reducible apply wp_st); rfl; decide) | ((with_reducible apply wp_stSet); rfl) | ((with_reducible apply wp_fnS); rfl) | ((with_reducible apply ex_some); rfl) | ((with_reducible apply ex_sb); rfl) | ((with_reducible apply br_t); rfl) | ((with_reducible apply br_f); rfl) | ((with_reducible apply ex_some (mulB ?hh)); case hh => decide +kernel) | ((with_reducible apply ex_some (mulA ?hh)); case hh => decide +kernel) | ((with_reducible apply ex_some (rngL ?hh)); case hh => decide +kernel) | (refine ⟨rfl, ?_⟩)))
  refine ex_some (add_tup (by simp only [List.length_cons, List.length_nil]; omega)) ?_
  (repeat (first | with_reducible (first | apply wp_seq | apply wp_sIf | apply wp_next | apply wp_ret | apply wp_set | apply wp_own | apply wp_par | apply wp_par3 | apply wp_asg | apply wp_for | apply wp_tVal | apply wp_tTru | apply wp_tAnd | apply wp_tOr | apply wp_tNot | apply wp_e2 | apply wp_e1 | apply wp_eC | apply wp_call | apply wp_cons | apply wp_nil | apply wp_mt | apply wp_sl | apply wp_pNo | apply wp_pAt | apply wp_rev | apply wp_eIf | apply wp_eAnd | apply wp_eOr | apply wp_eNot | apply wp_chain | apply wp_isi | apply wp_isi2 | apply wp_fn | apply wp_iOf | apply wp_iRng | apply wp_lc | apply wp_tup | apply wp_lst | apply wp_frz | apply ko_nx | apply ko_rt | apply kr_rt | apply kr_nx | apply ex_bool | apply ex_int) | ((with_reducible apply wp_eV); rfl) | ((with_reducible apply wp_eOv); rfl) | ((with_reducible apply wp_eOo); rfl) | ((with_reducible apply wp_st); rfl; decide) | ((with_reducible apply wp_stSet); rfl) | ((with_reducible apply wp_fnS); rfl) | ((with_reducible apply ex_some); rfl) | ((with_reducible apply ex_sb); rfl) | ((with_reducible apply br_t); rfl) | ((with_reducible apply br_f); rfl) | ((with_reducible apply ex_some (mulB ?hh)); case hh => decide +kernel) | ((with_reducible apply ex_some (mulA ?hh)); case hh => decide +kernel) | ((with_reducible apply ex_some (rngL ?hh)); case hh => decide +kernel) | (refine ⟨rfl, ?_⟩)))
  refine ex_some (add_tup (by simp only [List.length_cons, List.length_nil]; omega)) ?_
  (repeat (first | with_reducible (first | apply wp_seq | apply wp_sIf | apply wp_next | apply wp_ret | apply wp_set | apply wp_own | apply wp_par | apply wp_par3 | apply wp_asg | apply wp_for | apply wp_tVal | apply wp_tTru | apply wp_tAnd | apply wp_tOr | apply wp_tNot | apply wp_e2 | apply wp_e1 | apply wp_eC | apply wp_call | apply wp_cons | apply wp_nil | apply wp_mt | apply wp_sl | apply wp_pNo | apply wp_pAt | apply wp_rev | apply wp_eIf | apply wp_eAnd | apply wp_eOr | apply wp_eNot | apply wp_chain | apply wp_isi | apply wp_isi2 | apply wp_fn | apply wp_iOf | apply wp_iRng | apply wp_lc | apply wp_tup | apply wp_lst | apply wp_frz | apply ko_nx | apply ko_rt | apply kr_rt | apply kr_nx | apply ex_bool | apply ex_int) | ((with_reducible apply wp_eV); rfl) | ((with_reducible apply wp_eOv); rfl) | ((with_reducible apply wp_eOo); rfl) | ((with_reducible apply wp_st); rfl; decide) | ((with_reducible apply wp_stSet); rfl) | ((with_reducible apply wp_fnS); rfl) | ((with_reducible apply ex_some); rfl) | ((with_reducible apply ex_sb); rfl) | ((with_reducible apply br_t); rfl) | ((with_reducible apply br_f); rfl) | ((with_reducible apply ex_some (mulB ?hh)); case hh => decide +kernel) | ((with_reducible apply ex_some (mulA ?hh)); case hh => decide +kernel) | ((with_reducible apply ex_some (rngL ?hh)); case hh => decide +kernel) | (refine ⟨rfl, ?_⟩)))
  refine next_wp (by decide) (by decide) ok fun pick s1 ok1 hpick => ?_
  (repeat (first | with_reducible (first | apply wp_seq | apply wp_sIf | apply wp_next | apply wp_ret | apply wp_set | apply wp_own | apply wp_par | apply wp_par3 | apply wp_asg | apply wp_for | apply wp_tVal | apply wp_tTru | apply wp_tAnd | apply wp_tOr | apply wp_tNot | apply wp_e2 | apply wp_e1 | apply wp_eC | apply wp_call | apply wp_cons | apply wp_nil | apply wp_mt | apply wp_sl | apply wp_pNo | apply wp_pAt | apply wp_rev | apply wp_eIf | apply wp_eAnd | apply wp_eOr | apply wp_eNot | apply wp_chain | apply wp_isi | apply wp_isi2 | apply wp_fn | apply wp_iOf | apply wp_iRng | apply wp_lc | apply wp_tup | apply wp_lst | apply wp_frz | apply ko_nx | apply ko_rt | apply kr_rt | apply kr_nx | apply ex_bool | apply ex_int) | ((with_reducible apply wp_eV); rfl) | ((with_reducible apply wp_eOv); rfl) | ((with_reducible apply wp_eOo); rfl) | ((with_reducible apply wp_st); rfl; decide) | ((with_reducible apply wp_stSet); rfl) | ((with_reducible apply wp_fnS); rfl) | ((with_reducible apply ex_some); rfl) | ((with_reducible apply ex_sb); rfl) | ((with_reducible apply br_t); rfl) | ((with_reducible apply br_f); rfl) | ((with_reducible apply ex_some (mulB ?hh)); case hh => decide +kernel) | ((with_reducible apply ex_some (mulA ?hh)); case hh => decide +kernel) | ((with_reducible apply ex_some (rngL ?hh)); case hh => decide +kernel) | (refine ⟨rfl, ?_⟩)))
  refine ⟨fun h4 => ?_, fun h4 => ?_⟩
  · (repeat (first | with_reducible (first | apply wp_seq | apply wp_sIf | apply wp_next | apply wp_ret | apply wp_set | apply wp_own | apply wp_par | apply wp_par3 | apply wp_asg | apply wp_for | apply wp_tVal | apply wp_tTru | apply wp_tAnd | apply wp_tOr | apply wp_tNot | apply wp_e2 | apply wp_e1 | apply wp_eC | apply wp_call | apply wp_cons | apply wp_nil | apply wp_mt | apply wp_sl | apply wp_pNo | apply wp_pAt | apply wp_rev | apply wp_eIf | apply wp_eAnd | apply wp_eOr | apply wp_eNot | apply wp_chain | apply wp_isi | apply wp_isi2 | apply wp_fn | apply wp_iOf | apply wp_iRng | apply wp_lc | apply wp_tup | apply wp_lst | apply wp_frz | apply ko_nx | apply ko_rt | apply kr_rt | apply kr_nx | apply ex_bool | apply ex_int) | ((with_reducible apply wp_eV); rfl) | ((with_reducible apply wp_eOv); rfl) | ((with_reducible apply wp_eOo); rfl) | ((with_reducible apply wp_st); rfl; decide) | ((with_reducible apply wp_stSet); rfl) | ((with_reducible apply wp_fnS); rfl) | ((with_reducible apply ex_some); rfl) | ((with_reducible apply ex_sb); rfl) | ((with_reducible apply br_t); rfl) | ((with_reducible apply br_f); rfl) | ((with_reducible apply ex_some (mulB ?hh)); case hh => decide +kernel) | ((with_reducible apply ex_some (mulA ?hh)); case hh => decide +kernel) | ((with_reducible apply ex_some (rngL ?hh)); case hh => decide +kernel) | (refine ⟨rfl, ?_⟩)))
    refine wp_tr (tr_turned hp hs hk h0) ok1 fun r s2 ok2 hr => ?_
    (repeat (first | with_reducible (first | apply wp_seq | apply wp_sIf | apply wp_next | apply wp_ret | apply wp_set | apply wp_own | apply wp_par | apply wp_par3 | apply wp_asg | apply wp_for | apply wp_tVal | apply wp_tTru | apply wp_tAnd | apply wp_tOr | apply wp_tNot | apply wp_e2 | apply wp_e1 | apply wp_eC | apply wp_call | apply wp_cons | apply wp_nil | apply wp_mt | apply wp_sl | apply wp_pNo | apply wp_pAt | apply wp_rev | apply wp_eIf | apply wp_eAnd | apply wp_eOr | apply wp_eNot | apply wp_chain | apply wp_isi | apply wp_isi2 | apply wp_fn | apply wp_iOf | apply wp_iRng | apply wp_lc | apply wp_tup | apply wp_lst | apply wp_frz | apply ko_nx | apply ko_rt | apply kr_rt | apply kr_nx | apply ex_bool | apply ex_int) | ((with_reducible apply wp_eV); rfl) | ((with_reducible apply wp_eOv); rfl) | ((with_reducible apply wp_eOo); rfl) | ((with_reducible apply wp_st); rfl; decide) | ((with_reducible apply wp_stSet); rfl) | ((with_reducible apply wp_fnS); rfl) | ((with_reducible apply ex_some); rfl) | ((with_reducible apply ex_sb); rfl) | ((with_reducible apply br_t); rfl) | ((with_reducible apply br_f); rfl) | ((with_reducible apply ex_some (mulB ?hh)); case hh => decide +kernel) | ((with_reducible apply ex_some (mulA ?hh)); case hh => decide +kernel) | ((with_reducible apply ex_some (rngL ?hh)); case hh => decide +kernel) | (refine ⟨rfl, ?_⟩)))
    exact ⟨ok2, .inl (hr.mono (by omega) (Nat.le_refl _))⟩
  · (repeat (first | with_reducible (first | apply wp_seq | apply wp_sIf | apply wp_next | apply wp_ret | apply wp_set | apply wp_own | apply wp_par | apply wp_par3 | apply wp_asg | apply wp_for | apply wp_tVal | apply wp_tTru | apply wp_tAnd | apply wp_tOr | apply wp_tNot | apply wp_e2 | apply wp_e1 | apply wp_eC | apply wp_call | apply wp_cons | apply wp_nil | apply wp_mt | apply wp_sl | apply wp_pNo | apply wp_pAt | apply wp_rev | apply wp_eIf | apply wp_eAnd | apply wp_eOr | apply wp_eNot | apply wp_chain | apply wp_isi | apply wp_isi2 | apply wp_fn | apply wp_iOf | apply wp_iRng | apply wp_lc | apply wp_tup | apply wp_lst | apply wp_frz | apply ko_nx | apply ko_rt | apply kr_rt | apply kr_nx | apply ex_bool | apply ex_int) | ((with_reducible apply wp_eV); rfl) | ((with_reducible apply wp_eOv); rfl) | ((with_reducible apply wp_eOo); rfl) | ((with_reducible apply wp_st); rfl; decide) | ((with_reducible apply wp_stSet); rfl) | ((with_reducible apply wp_fnS); rfl) | ((with_reducible apply ex_some); rfl) | ((with_reducible apply ex_sb); rfl) | ((with_reducible apply br_t); rfl) | ((with_reducible apply br_f); rfl) | ((with_reducible apply ex_some (mulB ?hh)); case hh => decide +kernel) | ((with_reducible apply ex_some (mulA ?hh)); case hh => decide +kernel) | ((with_reducible apply ex_some (rngL ?hh)); case hh => decide +kernel) | (refine ⟨rfl, ?_⟩)))
    refine ⟨fun hz => ?_, fun hz => ?_⟩
    · (repeat (first | with_reducible (first | apply wp_seq | apply wp_sIf | apply wp_next | apply wp_ret | apply wp_set | apply wp_own | apply wp_par | apply wp_par3 | apply wp_asg | apply wp_for | apply wp_tVal | apply wp_tTru | apply wp_tAnd | apply wp_tOr | apply wp_tNot | apply wp_e2 | apply wp_e1 | apply wp_eC | apply wp_call | apply wp_cons | apply wp_nil | apply wp_mt | apply wp_sl | apply wp_pNo | apply wp_pAt | apply wp_rev | apply wp_eIf | apply wp_eAnd | apply wp_eOr | apply wp_eNot | apply wp_chain | apply wp_isi | apply wp_isi2 | apply wp_fn | apply wp_iOf | apply wp_iRng | apply wp_lc | apply wp_tup | apply wp_lst | apply wp_frz | apply ko_nx | apply ko_rt | apply kr_rt | apply kr_nx | apply ex_bool | apply ex_int) | ((with_reducible apply wp_eV); rfl) | ((with_reducible apply wp_eOv); rfl) | ((with_reducible apply wp_eOo); rfl) | ((with_reducible apply wp_st); rfl; decide) | ((with_reducible apply wp_stSet); rfl) | ((with_reducible apply wp_fnS); rfl) | ((with_reducible apply ex_some); rfl) | ((with_reducible apply ex_sb); rfl) | ((with_reducible apply br_t); rfl) | ((with_reducible apply br_f); rfl) | ((with_reducible apply ex_some (mulB ?hh)); case hh => decide +kernel) | ((with_reducible apply ex_some (mulA ?hh)); case hh => decide +kernel) | ((with_reducible apply ex_some (rngL ?hh)); case hh => decide +kernel) | (refine ⟨rfl, ?_⟩)))
      refine next_wpN (by simp) (by simp) ok1 fun j s2 ok2 hj => ?_
      refine (ix_all (P := Odd 60000 (k + 2)) ?_ hj).imp fun _ h => ⟨h.1, ok2, h.2⟩
      intro x hx
      simp only [List.mem_cons, List.not_mem_nil, or_false] at hx
      have tup : ∀ (ys : List D) (V : Nat), Sans V (k + 1) ys → V ≤ 59000 → Odd 60000 (k + 2) (.tuple ys) := fun ys V h hV => .inl (h.tup.mono (by omega) (by omega))
      have st : ∀ {z : Str}, PyData.strOk z = true → z.length ≤ 100 → San 200 (k + 1) (.str z) := fun h h2 => (San.str h).mono (by omega) (Nat.le_refl _)
      rcases hx with rfl | rfl | rfl | rfl | rfl | rfl | rfl | rfl | rfl | rfl | rfl
      · exact .inl (San.none.mono (by omega) (Nat.le_refl _))
      · exact .inl ((st (z := "") (by decide +kernel) (by decide)).mono (by omega) (by omega))
      · exact .inl ((st (z := "yes") (by decide +kernel) (by decide)).mono (by omega) (by omega))
      · exact .inr rfl
      · exact tup _ _ Sans.nil (by omega)
      · exact tup _ _ (sub1 _ _) (by omega)
      · exact .inl (all1.lst.mono (by omega) (by omega))
      · exact tup _ _ (all1.app (.one San.int)) (by omega)
      · exact tup _ _ ((Sans.one ((Sans.one s0).lst.mono (Nat.le_refl _) (m := k + 1) (by omega))).app (sub1 _ _)) (by omega)
      · exact tup _ _ ((Sans.one (st (z := "none such") (by decide +kernel) (by decide))).app (sub1 _ _)) (by omega)
      · exact .inl (San.int.mono (by omega) (Nat.le_refl _))
    · (repeat (first | with_reducible (first | apply wp_seq | apply wp_sIf | apply wp_next | apply wp_ret | apply wp_set | apply wp_own | apply wp_par | apply wp_par3 | apply wp_asg | apply wp_for | apply wp_tVal | apply wp_tTru | apply wp_tAnd | apply wp_tOr | apply wp_tNot | apply wp_e2 | apply wp_e1 | apply wp_eC | apply wp_call | apply wp_cons | apply wp_nil | apply wp_mt | apply wp_sl | apply wp_pNo | apply wp_pAt | apply wp_rev | apply wp_eIf | apply wp_eAnd | apply wp_eOr | apply wp_eNot | apply wp_chain | apply wp_isi | apply wp_isi2 | apply wp_fn | apply wp_iOf | apply wp_iRng | apply wp_lc | apply wp_tup | apply wp_lst | apply wp_frz | apply ko_nx | apply ko_rt | apply kr_rt | apply kr_nx | apply ex_bool | apply ex_int) | ((with_reducible apply wp_eV); rfl) | ((with_reducible apply wp_eOv); rfl) | ((with_reducible apply wp_eOo); rfl) | ((with_reducible apply wp_st); rfl; decide) | ((with_reducible apply wp_stSet); rfl) | ((with_reducible apply wp_fnS); rfl) | ((with_reducible apply ex_some); rfl) | ((with_reducible apply ex_sb); rfl) | ((with_reducible apply br_t); rfl) | ((with_reducible apply br_f); rfl) | ((with_reducible apply ex_some (mulB ?hh)); case hh => decide +kernel) | ((with_reducible apply ex_some (mulA ?hh)); case hh => decide +kernel) | ((with_reducible apply ex_some (rngL ?hh)); case hh => decide +kernel) | (refine ⟨rfl, ?_⟩)))
      refine wp_tr (tr_changed 12 hp (hs.mono (by omega) (Nat.le_refl _)) hk (by omega)) ok1 fun r s2 ok2 hr => ?_
      (repeat (first | with_reducible (first | apply wp_seq | apply wp_sIf | apply wp_next | apply wp_ret | apply wp_set | apply wp_own | apply wp_par | apply wp_par3 | apply wp_asg | apply wp_for | apply wp_tVal | apply wp_tTru | apply wp_tAnd | apply wp_tOr | apply wp_tNot | apply wp_e2 | apply wp_e1 | apply wp_eC | apply wp_call | apply wp_cons | apply wp_nil | apply wp_mt | apply wp_sl | apply wp_pNo | apply wp_pAt | apply wp_rev | apply wp_eIf | apply wp_eAnd | apply wp_eOr | apply wp_eNot | apply wp_chain | apply wp_isi | apply wp_isi2 | apply wp_fn | apply wp_iOf | apply wp_iRng | apply wp_lc | apply wp_tup | apply wp_lst | apply wp_frz | apply ko_nx | apply ko_rt | apply kr_rt | apply kr_nx | apply ex_bool | apply ex_int) | ((with_reducible apply wp_eV); rfl) | ((with_reducible apply wp_eOv); rfl) | ((with_reducible apply wp_eOo); rfl) | ((with_reducible apply wp_st); rfl; decide) | ((with_reducible apply wp_stSet); rfl) | ((with_reducible apply wp_fnS); rfl) | ((with_reducible apply ex_some); rfl) | ((with_reducible apply ex_sb); rfl) | ((with_reducible apply br_t); rfl) | ((with_reducible apply br_f); rfl) | ((with_reducible apply ex_some (mulB ?hh)); case hh => decide +kernel) | ((with_reducible apply ex_some (mulA ?hh)); case hh => decide +kernel) | ((with_reducible apply ex_some (rngL ?hh)); case hh => decide +kernel) | (refine ⟨rfl, ?_⟩)))
      exact ⟨ok2, .inl (hr.mono (by show 5 * (wts xs + 1) + 2000 ≤ _; omega) (Nat.le_refl _))⟩
end
end DL

/-! DL, part 17: loops; what the judges are asked; near things. -/
namespace DL
open PySem PySem.Spec PyProof.Rows L2 SX
section
variable {s : LS} {env : DEnv} {RO : Out → LS → Prop}
/-- a while: at most m turns more -/
theorem wp_while {fc : DEnv → M Bool} {g : DEnv → M Out} (J : Nat → DEnv → LS → Prop)
    (st : ∀ m env s, J m env s → WP (fc env) s fun b s' => (b = true → ∃ m', m = m' + 1 ∧ WP (g env) s' fun o s2 => ∃ e, (o = .nx e ∨ o = .ct e) ∧ J m' e s2) ∧ (b = false → RO (.nx env) s')) :
    ∀ (n m : Nat) {env : DEnv} {s : LS}, J m env s → m < n → WP (whGo fc g n env) s RO
  | 0, m, _, _, _, h => by omega
  | n + 1, m, env, s, j, h => by
    unfold whGo
    refine wp_bind (wp_mono (st m env s j) fun b s1 hb => ?_)
    cases b with
    | false => exact wp_pure (hb.2 rfl)
    | true =>
      obtain ⟨m', rfl, w⟩ := hb.1 rfl
      rw [if_pos rfl]
      refine wp_bind (wp_mono w fun o s2 ⟨e, ho, j2⟩ => ?_)
      rcases ho with rfl | rfl <;> exact wp_while J st n m' j2 (by omega)
/-- items, counted from the front: J done rest -/
theorem wp_forD {bd : Bd} {fs : DEnv → M Out} (J : Nat → DEnv → LS → Prop) (ds : List D) (st : ∀ (i : Nat) (h : i < ds.length) env s, J i env s → ∃ e1, bd ds[i] env = some e1 ∧ WP (fs e1) s fun o s' => ∃ e, (o = .nx e ∨ o = .ct e) ∧ J (i + 1) e s')
    (h0 : J 0 env s) (q : ∀ env s, J ds.length env s → RO (.nx env) s) : WP (forGo bd fs ds env) s RO := by
  refine wp_forInv (fun rest env s => ∃ i, rest = ds.drop i ∧ i ≤ ds.length ∧ J i env s) ⟨0, rfl, Nat.zero_le _, h0⟩ ?_ ?_
  · rintro d rest env s ⟨i, e, hi, j⟩
    have hlt : i < ds.length := by
      rcases Nat.lt_or_ge i ds.length with h | h
      · exact h
      · rw [List.drop_of_length_le h] at e; cases e
    rw [List.drop_eq_getElem_cons hlt] at e
    cases e
    obtain ⟨e1, he, w⟩ := st i hlt env s j
    exact ⟨e1, he, wp_mono w fun o s' ⟨e2, ho, j2⟩ => ⟨e2, ho, i + 1, rfl, hlt, j2⟩⟩
  · rintro env s ⟨i, e, hi, j⟩
    have : i = ds.length := by
      rcases Nat.lt_or_ge i ds.length with h | h
      · rw [List.drop_eq_getElem_cons h] at e; cases e
      · omega
    subst this
    exact q env s j
theorem set_set2 {α : Type} {l : List α} {i j : Nat} {a b c d : α} (h : i ≠ j) : (((l.set i a).set j b).set i c).set j d = (l.set i c).set j d := by
  rw [List.set_comm a b h, List.set_set, List.set_comm _ _ h.symm, List.set_set]
/-- the judges are asked -/
theorem wp_asks {kk ka kt ks : Nat} {ej ea : DEnv → M D} {ts sn : List D} {K : Nat} (ok : LSok s) (hlk : kk < env.length) (hla : ka < env.length) (h1 : kk ≠ ka) (h2 : kt ≠ kk) (h3 : kt ≠ ka) (h4 : ks ≠ kk) (h5 : ks ≠ ka) (h6 : 1 ≠ kk) (h7 : 1 ≠ ka)
    (q1 : env[1]? = some (some .st)) (q2 : env[kt]? = some (some (.val (.tuple ts)))) (q3 : env[ks]? = some (some (.val (.list sn)))) (hp : plainB (.tuple ts) = true) (hs : San 5000 K (.tuple ts)) (hk : K < 12) (h0 : 0 < ts.length) (hsn : ∀ x ∈ sn, Odd 60000 13 x) (hl : sn.length ≤ 100)
    (hj : ∀ (i : Nat) (d : D), Odd 60000 13 d → ∃ b, ej ((env.set kk (some (.val (.int i)))).set ka (some (.val d))) = pure (.bool b) ∧ ea ((env.set kk (some (.val (.int i)))).set ka (some (.val d))) = pure (.bool b)) :
    WP (sFor (bName kk) (iRng rng1 (aCons (e2 addD (eC (.int 8)) (eCall lenD (aCons (eV ks) aNil))) aNil)) (sSeq (sSet ka (eIf (tVal (e2 ltD (eV kk) (eC (.int 8)))) (eFnS 1 1 f_law_odd (aCons (eV kt) aNil)) (e2 ixD (eV ks) (e2 subD (eV kk) (eC (.int 8))))))
      (sIf (tNotB (tTru (eFn 2 (f_law_same 12) (aCons ej (aCons ea aNil))))) (sRet (eC (.bool false))) sNext)) env) s fun o s' => LSok s' ∧ ∃ vk va, o = .nx ((env.set kk vk).set ka va) := by
  have look : ∀ {j : Nat} {vk va : Option DV}, j ≠ kk → j ≠ ka → ((env.set kk vk).set ka va)[j]? = env[j]? := fun {j vk va} a b => by
    rw [List.getElem?_set_ne (Ne.symm b), List.getElem?_set_ne (Ne.symm a)]
  have start : env = (env.set kk env[kk]).set ka env[ka] := by rw [List.set_getElem_self, List.set_getElem_self]
  refine wp_for (wp_iRng (wp_cons (wp_e2 (wp_eC (wp_call (wp_cons (wp_eV q3 (wp_nil ⟨.int sn.length, rfl, .int (8 + sn.length), rfl, wp_nil ⟨rangeL 0 1 (8 + sn.length), ?_, ?_⟩⟩)))))))) 
  · have e : ((8 : Int) + (sn.length : Nat)).toNat = 8 + sn.length := by omega
    show (if b62 (8 + (sn.length : Nat)) = true then some (rangeL 0 1 ((8 : Int) + (sn.length : Nat)).toNat) else none) = _
    rw [if_pos (by simp only [b62, Bool.and_eq_true, decide_eq_true_eq]; omega), e]
  · refine wp_forD (fun i env' s => LSok s ∧ ∃ vk va, env' = (env.set kk vk).set ka va) _ ?_ ⟨ok, _, _, start⟩ fun env' s h => ⟨h.1, by obtain ⟨_, vk, va, rfl⟩ := h; exact ⟨vk, va, rfl⟩⟩
    rintro i hi env' s ⟨ok, vk, va, rfl⟩
    have hr : (rangeL 0 1 (8 + sn.length))[i] = .int i := by simp [rangeL]
    have hlen : (rangeL 0 1 (8 + sn.length)).length = 8 + sn.length := by simp [rangeL]
    rw [hlen] at hi
    refine ⟨((env.set kk (some (.val (.int i)))).set ka va), ?_, ?_⟩
    · rw [hr]
      show some (((env.set kk vk).set ka va).set kk (some (.val (.int i)))) = _
      rw [List.set_comm _ _ h1.symm, List.set_set]
    · have k1 : ((env.set kk (some (.val (.int (i : Nat))))).set ka va)[kk]? = some (some (.val (.int i))) := by rw [List.getElem?_set_ne h1.symm, List.getElem?_set_self hlk]
      have go : ∀ (d : D) (s : LS), LSok s → Odd 60000 13 d → WP (sIf (tNotB (tTru (eFn 2 (f_law_same 12) (aCons ej (aCons ea aNil))))) (sRet (eC (.bool false))) sNext (((env.set kk (some (.val (.int i)))).set ka va).set ka (some (.val d)))) s fun o s' => ∃ e, (o = .nx e ∨ o = .ct e) ∧ LSok s' ∧ ∃ vk va, e = (env.set kk vk).set ka va := by
        intro d s ok hd
        rw [List.set_set]
        obtain ⟨b, ej', ea'⟩ := hj i d hd
        refine wp_sIf (wp_tNot (wp_tTru (wp_fn (wp_cons (wp_eq ej' (wp_pure (wp_cons (wp_eq ea' (wp_pure (wp_nil ⟨rfl, wp_eq (same_bool b b) (wp_pure ⟨(b == b), rfl, ?_⟩)⟩)))))))))) 
        rw [beq_self_eq_true]
        exact ⟨(fun z => by cases z), fun _ => wp_next ⟨_, .inl rfl, ok, _, _, rfl⟩⟩
      refine wp_seq (wp_set (wp_eIf (wp_tVal (wp_e2 (wp_eV k1 (wp_eC ⟨.bool (decide ((i : Int) < 8)), rfl, _, rfl, fun hlt => ?_, fun hge => ?_⟩))))))
      · refine wp_fnS ((look h6 h7).trans q1) (wp_cons (wp_eV ((look h2 h3).trans q2) (wp_nil ⟨rfl, wp_tr (tr_odd hp hs hk h0) ok fun d s1 ok1 hd => ?_⟩)))
        refine ko_nx (go d s1 ok1 ?_)
        rcases hd with hd | hd
        · exact .inl (hd.mono (Nat.le_refl _) (by omega))
        · exact .inr hd
      · have hge := of_decide_eq_false hge
        have hj8 : i - 8 < sn.length := by omega
        refine wp_e2 (wp_eV ((look h4 h5).trans q3) (wp_e2 (wp_eV k1 (wp_eC ⟨.int ((i : Int) - 8), rfl, sn[i - 8], ?_, ?_⟩))))
        · have e : ((i : Int) - 8) = ((i - 8 : Nat) : Int) := by omega
          rw [e]
          exact ix_nat hj8
        · exact ko_nx (go _ s ok (hsn _ (List.getElem_mem _)))
end
/-! near things -/
section
variable {s : LS} {n : Nat}
theorem tr_near_int (N : Nat) (i : Int) : Tr (f_law_neighbour (N + 1) [.int i]) fun r => r = .int (i + 1) ∨ r = .int (i - 1) := by
  intro s ok
  unfold f_law_neighbour
  apply wp_runS
  unfold b_law_neighbour
  (repeat (first | with_reducible (first | apply wp_seq | apply wp_sIf | apply wp_next | apply wp_ret | apply wp_set | apply wp_own | apply wp_par | apply wp_par3 | apply wp_asg | apply wp_for | apply wp_tVal | apply wp_tTru | apply wp_tAnd | apply wp_tOr | apply wp_tNot | apply wp_e2 | apply wp_e1 | apply wp_eC | apply wp_call | apply wp_cons | apply wp_nil | apply wp_mt | apply wp_sl | apply wp_pNo | apply wp_pAt | apply wp_rev | apply wp_eIf | apply wp_eAnd | apply wp_eOr | apply wp_eNot | apply wp_chain | apply wp_isi | apply wp_isi2 | apply wp_fn | apply wp_iOf | apply wp_iRng | apply wp_lc | apply wp_tup | apply wp_lst | apply wp_frz | apply ko_nx | apply ko_rt | apply kr_rt | apply kr_nx | apply ex_bool | apply ex_int) | ((with_reducible apply wp_eV); rfl) | ((with_reducible apply wp_eOv); rfl) | ((with_reducible apply wp_eOo); rfl) | ((with_reducible apply wp_st); rfl; decide) | ((with_reducible apply wp_stSet); rfl) | ((with_reducible apply wp_fnS); rfl) | ((with_reducible apply ex_some); rfl) | ((with_reducible apply ex_sb); rfl) | ((with_reducible apply br_t); rfl) | ((with_reducible apply br_f); rfl) | ((with_reducible apply ex_some (mulB ?hh)); case hh => decide +kernel) | ((with_reducible apply ex_some (mulA ?hh)); case hh => decide +kernel) | ((with_reducible apply ex_some (rngL ?hh)); case hh => decide +kernel) | (refine ⟨rfl, ?_⟩)))
  refine next_wp (by decide) (by decide) ok fun j s1 ok1 hj => ?_
  have : j = 0 ∨ j = 1 := by omega
  rcases this with rfl | rfl
  · (repeat (first | with_reducible (first | apply wp_seq | apply wp_sIf | apply wp_next | apply wp_ret | apply wp_set | apply wp_own | apply wp_par | apply wp_par3 | apply wp_asg | apply wp_for | apply wp_tVal | apply wp_tTru | apply wp_tAnd | apply wp_tOr | apply wp_tNot | apply wp_e2 | apply wp_e1 | apply wp_eC | apply wp_call | apply wp_cons | apply wp_nil | apply wp_mt | apply wp_sl | apply wp_pNo | apply wp_pAt | apply wp_rev | apply wp_eIf | apply wp_eAnd | apply wp_eOr | apply wp_eNot | apply wp_chain | apply wp_isi | apply wp_isi2 | apply wp_fn | apply wp_iOf | apply wp_iRng | apply wp_lc | apply wp_tup | apply wp_lst | apply wp_frz | apply ko_nx | apply ko_rt | apply kr_rt | apply kr_nx | apply ex_bool | apply ex_int) | ((with_reducible apply wp_eV); rfl) | ((with_reducible apply wp_eOv); rfl) | ((with_reducible apply wp_eOo); rfl) | ((with_reducible apply wp_st); rfl; decide) | ((with_reducible apply wp_stSet); rfl) | ((with_reducible apply wp_fnS); rfl) | ((with_reducible apply ex_some); rfl) | ((with_reducible apply ex_sb); rfl) | ((with_reducible apply br_t); rfl) | ((with_reducible apply br_f); rfl) | ((with_reducible apply ex_some (mulB ?hh)); case hh => decide +kernel) | ((with_reducible apply ex_some (mulA ?hh)); case hh => decide +kernel) | ((with_reducible apply ex_some (rngL ?hh)); case hh => decide +kernel) | (refine ⟨rfl, ?_⟩))); exact ⟨ok1, .inl rfl⟩
  · (repeat (first | with_reducible (first | apply wp_seq | apply wp_sIf | apply wp_next | apply wp_ret | apply wp_set | apply wp_own | apply wp_par | apply wp_par3 | apply wp_asg | apply wp_for | apply wp_tVal | apply wp_tTru | apply wp_tAnd | apply wp_tOr | apply wp_tNot | apply wp_e2 | apply wp_e1 | apply wp_eC | apply wp_call | apply wp_cons | apply wp_nil | apply wp_mt | apply wp_sl | apply wp_pNo | apply wp_pAt | apply wp_rev | apply wp_eIf | apply wp_eAnd | apply wp_eOr | apply wp_eNot | apply wp_chain | apply wp_isi | apply wp_isi2 | apply wp_fn | apply wp_iOf | apply wp_iRng | apply wp_lc | apply wp_tup | apply wp_lst | apply wp_frz | apply ko_nx | apply ko_rt | apply kr_rt | apply kr_nx | apply ex_bool | apply ex_int) | ((with_reducible apply wp_eV); rfl) | ((with_reducible apply wp_eOv); rfl) | ((with_reducible apply wp_eOo); rfl) | ((with_reducible apply wp_st); rfl; decide) | ((with_reducible apply wp_stSet); rfl) | ((with_reducible apply wp_fnS); rfl) | ((with_reducible apply ex_some); rfl) | ((with_reducible apply ex_sb); rfl) | ((with_reducible apply br_t); rfl) | ((with_reducible apply br_f); rfl) | ((with_reducible apply ex_some (mulB ?hh)); case hh => decide +kernel) | ((with_reducible apply ex_some (mulA ?hh)); case hh => decide +kernel) | ((with_reducible apply ex_some (rngL ?hh)); case hh => decide +kernel) | (refine ⟨rfl, ?_⟩))); exact ⟨ok1, .inr rfl⟩
theorem tr_near_str (N : Nat) (z : Str) (hz : z.length ≤ 10000) : Tr (f_law_neighbour (N + 1) [.str z]) fun r => ∃ (k : Nat) (x : List Nat), k ≤ z.length ∧ (x = [97] ∨ x = [98] ∨ x = []) ∧ r = .str (S (z.cps.toList.take k ++ x ++ z.cps.toList.drop (k + 1))) := by
  intro s ok
  unfold f_law_neighbour
  apply wp_runS
  unfold b_law_neighbour
  have zl : z.cps.toList.length = z.length := Array.length_toList
  (repeat (first | with_reducible (first | apply wp_seq | apply wp_sIf | apply wp_next | apply wp_ret | apply wp_set | apply wp_own | apply wp_par | apply wp_par3 | apply wp_asg | apply wp_for | apply wp_tVal | apply wp_tTru | apply wp_tAnd | apply wp_tOr | apply wp_tNot | apply wp_e2 | apply wp_e1 | apply wp_eC | apply wp_call | apply wp_cons | apply wp_nil | apply wp_mt | apply wp_sl | apply wp_pNo | apply wp_pAt | apply wp_rev | apply wp_eIf | apply wp_eAnd | apply wp_eOr | apply wp_eNot | apply wp_chain | apply wp_isi | apply wp_isi2 | apply wp_fn | apply wp_iOf | apply wp_iRng | apply wp_lc | apply wp_tup | apply wp_lst | apply wp_frz | apply ko_nx | apply ko_rt | apply kr_rt | apply kr_nx | apply ex_bool | apply ex_int) | ((with_reducible apply wp_eV); rfl) | ((with_reducible apply wp_eOv); rfl) | ((with_reducible apply wp_eOo); rfl) | ((with_reducible apply wp_st); rfl; decide) | ((with_reducible apply wp_stSet); rfl) | ((with_reducible apply wp_fnS); rfl) | ((with_reducible apply ex_some); rfl) | ((with_reducible apply ex_sb); rfl) | ((with_reducible apply br_t); rfl) | ((with_reducible apply br_f); rfl) | ((with_reducible apply ex_some (mulB ?hh)); case hh => decide +kernel) | ((with_reducible apply ex_some (mulA ?hh)); case hh => decide +kernel) | ((with_reducible apply ex_some (rngL ?hh)); case hh => decide +kernel) | (refine ⟨rfl, ?_⟩)))
  refine ex_some (len_str (by omega)) ?_
  (repeat (first | with_reducible (first | apply wp_seq | apply wp_sIf | apply wp_next | apply wp_ret | apply wp_set | apply wp_own | apply wp_par | apply wp_par3 | apply wp_asg | apply wp_for | apply wp_tVal | apply wp_tTru | apply wp_tAnd | apply wp_tOr | apply wp_tNot | apply wp_e2 | apply wp_e1 | apply wp_eC | apply wp_call | apply wp_cons | apply wp_nil | apply wp_mt | apply wp_sl | apply wp_pNo | apply wp_pAt | apply wp_rev | apply wp_eIf | apply wp_eAnd | apply wp_eOr | apply wp_eNot | apply wp_chain | apply wp_isi | apply wp_isi2 | apply wp_fn | apply wp_iOf | apply wp_iRng | apply wp_lc | apply wp_tup | apply wp_lst | apply wp_frz | apply ko_nx | apply ko_rt | apply kr_rt | apply kr_nx | apply ex_bool | apply ex_int) | ((with_reducible apply wp_eV); rfl) | ((with_reducible apply wp_eOv); rfl) | ((with_reducible apply wp_eOo); rfl) | ((with_reducible apply wp_st); rfl; decide) | ((with_reducible apply wp_stSet); rfl) | ((with_reducible apply wp_fnS); rfl) | ((with_reducible apply ex_some); rfl) | ((with_reducible apply ex_sb); rfl) | ((with_reducible apply br_t); rfl) | ((with_reducible apply br_f); rfl) | ((with_reducible apply ex_some (mulB ?hh)); case hh => decide +kernel) | ((with_reducible apply ex_some (mulA ?hh)); case hh => decide +kernel) | ((with_reducible apply ex_some (rngL ?hh)); case hh => decide +kernel) | (refine ⟨rfl, ?_⟩)))
  refine next_wp (by omega) (by omega) ok fun k s1 ok1 hk => ?_
  (repeat (first | with_reducible (first | apply wp_seq | apply wp_sIf | apply wp_next | apply wp_ret | apply wp_set | apply wp_own | apply wp_par | apply wp_par3 | apply wp_asg | apply wp_for | apply wp_tVal | apply wp_tTru | apply wp_tAnd | apply wp_tOr | apply wp_tNot | apply wp_e2 | apply wp_e1 | apply wp_eC | apply wp_call | apply wp_cons | apply wp_nil | apply wp_mt | apply wp_sl | apply wp_pNo | apply wp_pAt | apply wp_rev | apply wp_eIf | apply wp_eAnd | apply wp_eOr | apply wp_eNot | apply wp_chain | apply wp_isi | apply wp_isi2 | apply wp_fn | apply wp_iOf | apply wp_iRng | apply wp_lc | apply wp_tup | apply wp_lst | apply wp_frz | apply ko_nx | apply ko_rt | apply kr_rt | apply kr_nx | apply ex_bool | apply ex_int) | ((with_reducible apply wp_eV); rfl) | ((with_reducible apply wp_eOv); rfl) | ((with_reducible apply wp_eOo); rfl) | ((with_reducible apply wp_st); rfl; decide) | ((with_reducible apply wp_stSet); rfl) | ((with_reducible apply wp_fnS); rfl) | ((with_reducible apply ex_some); rfl) | ((with_reducible apply ex_sb); rfl) | ((with_reducible apply br_t); rfl) | ((with_reducible apply br_f); rfl) | ((with_reducible apply ex_some (mulB ?hh)); case hh => decide +kernel) | ((with_reducible apply ex_some (mulA ?hh)); case hh => decide +kernel) | ((with_reducible apply ex_some (rngL ?hh)); case hh => decide +kernel) | (refine ⟨rfl, ?_⟩)))
  refine ex_some (sl_str (by omega)) ?_
  (repeat (first | with_reducible (first | apply wp_seq | apply wp_sIf | apply wp_next | apply wp_ret | apply wp_set | apply wp_own | apply wp_par | apply wp_par3 | apply wp_asg | apply wp_for | apply wp_tVal | apply wp_tTru | apply wp_tAnd | apply wp_tOr | apply wp_tNot | apply wp_e2 | apply wp_e1 | apply wp_eC | apply wp_call | apply wp_cons | apply wp_nil | apply wp_mt | apply wp_sl | apply wp_pNo | apply wp_pAt | apply wp_rev | apply wp_eIf | apply wp_eAnd | apply wp_eOr | apply wp_eNot | apply wp_chain | apply wp_isi | apply wp_isi2 | apply wp_fn | apply wp_iOf | apply wp_iRng | apply wp_lc | apply wp_tup | apply wp_lst | apply wp_frz | apply ko_nx | apply ko_rt | apply kr_rt | apply kr_nx | apply ex_bool | apply ex_int) | ((with_reducible apply wp_eV); rfl) | ((with_reducible apply wp_eOv); rfl) | ((with_reducible apply wp_eOo); rfl) | ((with_reducible apply wp_st); rfl; decide) | ((with_reducible apply wp_stSet); rfl) | ((with_reducible apply wp_fnS); rfl) | ((with_reducible apply ex_some); rfl) | ((with_reducible apply ex_sb); rfl) | ((with_reducible apply br_t); rfl) | ((with_reducible apply br_f); rfl) | ((with_reducible apply ex_some (mulB ?hh)); case hh => decide +kernel) | ((with_reducible apply ex_some (mulA ?hh)); case hh => decide +kernel) | ((with_reducible apply ex_some (rngL ?hh)); case hh => decide +kernel) | (refine ⟨rfl, ?_⟩)))
  refine next_wp (by decide) (by decide) ok1 fun j s2 ok2 hj => ?_
  have ek : cut z.cps.toList none (some (k : Int)) = z.cps.toList.take k := cut_to (by omega)
  have ek2 : cut z.cps.toList (some ((k : Int) + 1)) none = z.cps.toList.drop (k + 1) := by
    rcases Nat.lt_or_ge k z.length with h | h
    · exact cut_from (k := k + 1) (by omega)
    · rw [List.drop_of_length_le (by omega)]
      have : cut z.cps.toList (some ((k : Int) + 1)) none = z.cps.toList.drop (min (k + 1) z.cps.toList.length) := by
        unfold cut
        rw [HT.sIx_none]
        have e := HT.sIx_nat z.cps.toList.length 0 (k + 1)
        have e' : HT.sIx z.cps.toList.length 0 (some ((k : Int) + 1)) = min (k + 1) z.cps.toList.length := e
        rw [e', List.take_of_length_le (by rw [List.length_drop]; exact Nat.le_refl _)]
      rw [this, List.drop_of_length_le (by omega)]
  have l1 : (z.cps.toList.take k).length ≤ 10000 := by rw [List.length_take]; omega
  have l2 : (z.cps.toList.drop (k + 1)).length ≤ 10000 := by rw [List.length_drop]; omega
  rw [ek]
  have fin : ∀ x : List Nat, x.length ≤ 1 → (x = [97] ∨ x = [98] ∨ x = []) → ∃ a, addD (.str ⟨(z.cps.toList.take k).toArray⟩) (.str (S x)) = some a ∧ WP (eSl (eV 1) (pAt (e2 addD (eV 2) (eC (.int 1)))) pNo ((some DV.st :: List.map (fun d => some (DV.val d)) [PyData.str z] ++ List.replicate 1 none).set 2 (some (.val (.int k))))) s2 fun y s'' => ∃ z_1, addD a y = some z_1 ∧ kr (fun a s' => LSok s' ∧ (fun r => ∃ (k : Nat) (x : List Nat), k ≤ z.length ∧ (x = [97] ∨ x = [98] ∨ x = []) ∧ r = .str (S (z.cps.toList.take k ++ x ++ z.cps.toList.drop (k + 1)))) a) (.rt z_1) s'' := by
    intro x hx hx2
    refine ⟨.str (S (z.cps.toList.take k ++ x)), ?_, ?_⟩
    · have a1 : (S (z.cps.toList.take k)).length = _ := S_len _
      have a2 : (S x).length = _ := S_len _
      rw [add_str (by show (S (z.cps.toList.take k)).length + (S x).length ≤ _; omega)]
      exact congrArg (fun t => some (PyData.str t)) (S_cat _ _)
    · (repeat (first | with_reducible (first | apply wp_seq | apply wp_sIf | apply wp_next | apply wp_ret | apply wp_set | apply wp_own | apply wp_par | apply wp_par3 | apply wp_asg | apply wp_for | apply wp_tVal | apply wp_tTru | apply wp_tAnd | apply wp_tOr | apply wp_tNot | apply wp_e2 | apply wp_e1 | apply wp_eC | apply wp_call | apply wp_cons | apply wp_nil | apply wp_mt | apply wp_sl | apply wp_pNo | apply wp_pAt | apply wp_rev | apply wp_eIf | apply wp_eAnd | apply wp_eOr | apply wp_eNot | apply wp_chain | apply wp_isi | apply wp_isi2 | apply wp_fn | apply wp_iOf | apply wp_iRng | apply wp_lc | apply wp_tup | apply wp_lst | apply wp_frz | apply ko_nx | apply ko_rt | apply kr_rt | apply kr_nx | apply ex_bool | apply ex_int) | ((with_reducible apply wp_eV); rfl) | ((with_reducible apply wp_eOv); rfl) | ((with_reducible apply wp_eOo); rfl) | ((with_reducible apply wp_st); rfl; decide) | ((with_reducible apply wp_stSet); rfl) | ((with_reducible apply wp_fnS); rfl) | ((with_reducible apply ex_some); rfl) | ((with_reducible apply ex_sb); rfl) | ((with_reducible apply br_t); rfl) | ((with_reducible apply br_f); rfl) | ((with_reducible apply ex_some (mulB ?hh)); case hh => decide +kernel) | ((with_reducible apply ex_some (mulA ?hh)); case hh => decide +kernel) | ((with_reducible apply ex_some (rngL ?hh)); case hh => decide +kernel) | (refine ⟨rfl, ?_⟩)))
      refine ex_some (sl_str (by omega)) ?_
      rw [ek2]
      refine ⟨.str (S (z.cps.toList.take k ++ x ++ z.cps.toList.drop (k + 1))), ?_, ok2, k, x, by omega, hx2, rfl⟩
      have a1 : (S (z.cps.toList.take k ++ x)).length = _ := S_len _
      have a2 : (S (z.cps.toList.drop (k + 1))).length = _ := S_len _
      rw [List.length_append] at a1
      rw [add_str (by show (S (z.cps.toList.take k ++ x)).length + (S (z.cps.toList.drop (k + 1))).length ≤ _; omega)]
      exact congrArg (fun t => some (PyData.str t)) (S_cat _ _)
  have : j = 0 ∨ j = 1 ∨ j = 2 := by omega
  rcases this with rfl | rfl | rfl
  · have h : Str.ofString "a" = S [97] := by decide +kernel
    rw [h]
    refine ex_some (z := .str (S [97])) rfl ?_
    exact fin [97] (by decide) (.inl rfl)
  · have h : Str.ofString "b" = S [98] := by decide +kernel
    rw [h]
    refine ex_some (z := .str (S [98])) rfl ?_
    exact fin [98] (by decide) (.inr (.inl rfl))
  · have h : Str.ofString "" = S [] := by decide +kernel
    rw [h]
    refine ex_some (z := .str (S [])) rfl ?_
    exact fin [] (by decide) (.inr (.inr rfl))
end
end DL

/-! DL, part 18: small shared defs, told; try. -/
namespace DL
open PySem PySem.Spec PyProof.Rows L2 SX
section
variable {W n : Nat} {d : D} {xs ys : List D} {s : LS} {env : DEnv}
def wholeB : D → Bool
  | .int _ => true
  | _ => false
theorem is_whole_eq (d : D) : f_is_whole [d] = pure (.bool (wholeB d)) := by cases d <;> rfl
theorem law_is_whole_eq (d : D) : f_law_is_whole [d] = pure (.bool (wholeB d)) := by cases d <;> rfl
theorem is_text_eq (d : D) : f_law_is_text [d] = pure (.bool (isStr d)) := by cases d <;> rfl
/-- a tuple of n parts, the first the word w -/
def toldB (w : Str) (n : Nat) : D → Bool
  | .tuple xs => xs.length == n && (match xs with
    | .str z :: _ => z == w
    | _ => false)
  | _ => false
theorem eqv_int (i j : Int) : PyData.eqv (.int i) (.int j) = (i == j) := rfl
theorem eqv_str (i j : Str) : PyData.eqv (.str i) (.str j) = (i == j) := rfl
theorem len_eqv {a b : Nat} : PyData.eqv (.int a) (.int b) = (a == b) := by
  show ((a : Int) == (b : Int)) = (a == b)
  rw [Bool.eq_iff_iff, beq_iff_eq, beq_iff_eq]; omega
theorem is_told_eq (d : D) (w : Str) (n : Nat) (hn : 0 < n) : f_is_told [d, .str w, .int n] = pure (.bool (toldB w n d)) := by
  refine pure_of fun s => ?_
  unfold f_is_told
  apply wp_runD
  unfold b_is_told
  cases d with
  | tuple xs =>
    (repeat (first | with_reducible (first | apply wp_seq | apply wp_sIf | apply wp_next | apply wp_ret | apply wp_set | apply wp_own | apply wp_par | apply wp_par3 | apply wp_asg | apply wp_for | apply wp_tVal | apply wp_tTru | apply wp_tAnd | apply wp_tOr | apply wp_tNot | apply wp_e2 | apply wp_e1 | apply wp_eC | apply wp_call | apply wp_cons | apply wp_nil | apply wp_mt | apply wp_sl | apply wp_pNo | apply wp_pAt | apply wp_rev | apply wp_eIf | apply wp_eAnd | apply wp_eOr | apply wp_eNot | apply wp_chain | apply wp_isi | apply wp_isi2 | apply wp_fn | apply wp_iOf | apply wp_iRng | apply wp_lc | apply wp_tup | apply wp_lst | apply wp_frz | apply ko_nx | apply ko_rt | apply kr_rt | apply kr_nx | apply ex_bool | apply ex_int) | ((with_reducible apply wp_eV); rfl) | ((with_reducible apply wp_eOv); rfl) | ((with_reducible apply wp_eOo); rfl) | ((with_reducible apply wp_st); rfl; decide) | ((with_reducible apply wp_stSet); rfl) | ((with_reducible apply wp_fnS); rfl) | ((with_reducible apply ex_some); rfl) | ((with_reducible apply ex_sb); rfl) | ((with_reducible apply br_t); rfl) | ((with_reducible apply br_f); rfl) | ((with_reducible apply ex_some (mulB ?hh)); case hh => decide +kernel) | ((with_reducible apply ex_some (mulA ?hh)); case hh => decide +kernel) | ((with_reducible apply ex_some (rngL ?hh)); case hh => decide +kernel) | (refine ⟨rfl, ?_⟩)))
    rw [len_eqv]
    by_cases h : xs.length = n
    · subst h
      refine br_f (by simp) ?_
      (repeat (first | with_reducible (first | apply wp_seq | apply wp_sIf | apply wp_next | apply wp_ret | apply wp_set | apply wp_own | apply wp_par | apply wp_par3 | apply wp_asg | apply wp_for | apply wp_tVal | apply wp_tTru | apply wp_tAnd | apply wp_tOr | apply wp_tNot | apply wp_e2 | apply wp_e1 | apply wp_eC | apply wp_call | apply wp_cons | apply wp_nil | apply wp_mt | apply wp_sl | apply wp_pNo | apply wp_pAt | apply wp_rev | apply wp_eIf | apply wp_eAnd | apply wp_eOr | apply wp_eNot | apply wp_chain | apply wp_isi | apply wp_isi2 | apply wp_fn | apply wp_iOf | apply wp_iRng | apply wp_lc | apply wp_tup | apply wp_lst | apply wp_frz | apply ko_nx | apply ko_rt | apply kr_rt | apply kr_nx | apply ex_bool | apply ex_int) | ((with_reducible apply wp_eV); rfl) | ((with_reducible apply wp_eOv); rfl) | ((with_reducible apply wp_eOo); rfl) | ((with_reducible apply wp_st); rfl; decide) | ((with_reducible apply wp_stSet); rfl) | ((with_reducible apply wp_fnS); rfl) | ((with_reducible apply ex_some); rfl) | ((with_reducible apply ex_sb); rfl) | ((with_reducible apply br_t); rfl) | ((with_reducible apply br_f); rfl) | ((with_reducible apply ex_some (mulB ?hh)); case hh => decide +kernel) | ((with_reducible apply ex_some (mulA ?hh)); case hh => decide +kernel) | ((with_reducible apply ex_some (rngL ?hh)); case hh => decide +kernel) | (refine ⟨rfl, ?_⟩)))
      cases xs with
      | nil => cases hn
      | cons x r =>
        refine ex_some (z := x) (ix_nat (xs := x :: r) (k := 0) (Nat.succ_pos _)) ?_
        cases x <;> ((repeat (first | with_reducible (first | apply wp_seq | apply wp_sIf | apply wp_next | apply wp_ret | apply wp_set | apply wp_own | apply wp_par | apply wp_par3 | apply wp_asg | apply wp_for | apply wp_tVal | apply wp_tTru | apply wp_tAnd | apply wp_tOr | apply wp_tNot | apply wp_e2 | apply wp_e1 | apply wp_eC | apply wp_call | apply wp_cons | apply wp_nil | apply wp_mt | apply wp_sl | apply wp_pNo | apply wp_pAt | apply wp_rev | apply wp_eIf | apply wp_eAnd | apply wp_eOr | apply wp_eNot | apply wp_chain | apply wp_isi | apply wp_isi2 | apply wp_fn | apply wp_iOf | apply wp_iRng | apply wp_lc | apply wp_tup | apply wp_lst | apply wp_frz | apply ko_nx | apply ko_rt | apply kr_rt | apply kr_nx | apply ex_bool | apply ex_int) | ((with_reducible apply wp_eV); rfl) | ((with_reducible apply wp_eOv); rfl) | ((with_reducible apply wp_eOo); rfl) | ((with_reducible apply wp_st); rfl; decide) | ((with_reducible apply wp_stSet); rfl) | ((with_reducible apply wp_fnS); rfl) | ((with_reducible apply ex_some); rfl) | ((with_reducible apply ex_sb); rfl) | ((with_reducible apply br_t); rfl) | ((with_reducible apply br_f); rfl) | ((with_reducible apply ex_some (mulB ?hh)); case hh => decide +kernel) | ((with_reducible apply ex_some (mulA ?hh)); case hh => decide +kernel) | ((with_reducible apply ex_some (rngL ?hh)); case hh => decide +kernel) | (refine ⟨rfl, ?_⟩))); first | rfl | (simp [toldB]; done) | skip)
        refine ex_some (ix_nat (xs := PyData.str _ :: r) (k := 0) (Nat.succ_pos _)) ?_
        (repeat (first | with_reducible (first | apply wp_seq | apply wp_sIf | apply wp_next | apply wp_ret | apply wp_set | apply wp_own | apply wp_par | apply wp_par3 | apply wp_asg | apply wp_for | apply wp_tVal | apply wp_tTru | apply wp_tAnd | apply wp_tOr | apply wp_tNot | apply wp_e2 | apply wp_e1 | apply wp_eC | apply wp_call | apply wp_cons | apply wp_nil | apply wp_mt | apply wp_sl | apply wp_pNo | apply wp_pAt | apply wp_rev | apply wp_eIf | apply wp_eAnd | apply wp_eOr | apply wp_eNot | apply wp_chain | apply wp_isi | apply wp_isi2 | apply wp_fn | apply wp_iOf | apply wp_iRng | apply wp_lc | apply wp_tup | apply wp_lst | apply wp_frz | apply ko_nx | apply ko_rt | apply kr_rt | apply kr_nx | apply ex_bool | apply ex_int) | ((with_reducible apply wp_eV); rfl) | ((with_reducible apply wp_eOv); rfl) | ((with_reducible apply wp_eOo); rfl) | ((with_reducible apply wp_st); rfl; decide) | ((with_reducible apply wp_stSet); rfl) | ((with_reducible apply wp_fnS); rfl) | ((with_reducible apply ex_some); rfl) | ((with_reducible apply ex_sb); rfl) | ((with_reducible apply br_t); rfl) | ((with_reducible apply br_f); rfl) | ((with_reducible apply ex_some (mulB ?hh)); case hh => decide +kernel) | ((with_reducible apply ex_some (mulA ?hh)); case hh => decide +kernel) | ((with_reducible apply ex_some (rngL ?hh)); case hh => decide +kernel) | (refine ⟨rfl, ?_⟩)))
        simp [toldB, eqv_str]
    · refine br_t (by simpa using h) ?_
      (repeat (first | with_reducible (first | apply wp_seq | apply wp_sIf | apply wp_next | apply wp_ret | apply wp_set | apply wp_own | apply wp_par | apply wp_par3 | apply wp_asg | apply wp_for | apply wp_tVal | apply wp_tTru | apply wp_tAnd | apply wp_tOr | apply wp_tNot | apply wp_e2 | apply wp_e1 | apply wp_eC | apply wp_call | apply wp_cons | apply wp_nil | apply wp_mt | apply wp_sl | apply wp_pNo | apply wp_pAt | apply wp_rev | apply wp_eIf | apply wp_eAnd | apply wp_eOr | apply wp_eNot | apply wp_chain | apply wp_isi | apply wp_isi2 | apply wp_fn | apply wp_iOf | apply wp_iRng | apply wp_lc | apply wp_tup | apply wp_lst | apply wp_frz | apply ko_nx | apply ko_rt | apply kr_rt | apply kr_nx | apply ex_bool | apply ex_int) | ((with_reducible apply wp_eV); rfl) | ((with_reducible apply wp_eOv); rfl) | ((with_reducible apply wp_eOo); rfl) | ((with_reducible apply wp_st); rfl; decide) | ((with_reducible apply wp_stSet); rfl) | ((with_reducible apply wp_fnS); rfl) | ((with_reducible apply ex_some); rfl) | ((with_reducible apply ex_sb); rfl) | ((with_reducible apply br_t); rfl) | ((with_reducible apply br_f); rfl) | ((with_reducible apply ex_some (mulB ?hh)); case hh => decide +kernel) | ((with_reducible apply ex_some (mulA ?hh)); case hh => decide +kernel) | ((with_reducible apply ex_some (rngL ?hh)); case hh => decide +kernel) | (refine ⟨rfl, ?_⟩)))
      simp [toldB, h]
  | _ => (repeat (first | with_reducible (first | apply wp_seq | apply wp_sIf | apply wp_next | apply wp_ret | apply wp_set | apply wp_own | apply wp_par | apply wp_par3 | apply wp_asg | apply wp_for | apply wp_tVal | apply wp_tTru | apply wp_tAnd | apply wp_tOr | apply wp_tNot | apply wp_e2 | apply wp_e1 | apply wp_eC | apply wp_call | apply wp_cons | apply wp_nil | apply wp_mt | apply wp_sl | apply wp_pNo | apply wp_pAt | apply wp_rev | apply wp_eIf | apply wp_eAnd | apply wp_eOr | apply wp_eNot | apply wp_chain | apply wp_isi | apply wp_isi2 | apply wp_fn | apply wp_iOf | apply wp_iRng | apply wp_lc | apply wp_tup | apply wp_lst | apply wp_frz | apply ko_nx | apply ko_rt | apply kr_rt | apply kr_nx | apply ex_bool | apply ex_int) | ((with_reducible apply wp_eV); rfl) | ((with_reducible apply wp_eOv); rfl) | ((with_reducible apply wp_eOo); rfl) | ((with_reducible apply wp_st); rfl; decide) | ((with_reducible apply wp_stSet); rfl) | ((with_reducible apply wp_fnS); rfl) | ((with_reducible apply ex_some); rfl) | ((with_reducible apply ex_sb); rfl) | ((with_reducible apply br_t); rfl) | ((with_reducible apply br_f); rfl) | ((with_reducible apply ex_some (mulB ?hh)); case hh => decide +kernel) | ((with_reducible apply ex_some (mulA ?hh)); case hh => decide +kernel) | ((with_reducible apply ex_some (rngL ?hh)); case hh => decide +kernel) | (refine ⟨rfl, ?_⟩))); rfl
theorem law_is_eq (d : D) (w : Str) (n : Nat) (hn : 0 < n) : f_law_is [d, .str w, .int n] = pure (.bool (toldB w n d)) := by
  refine pure_of fun s => ?_
  unfold f_law_is
  apply wp_runD
  unfold b_law_is
  cases d with
  | tuple xs =>
    (repeat (first | with_reducible (first | apply wp_seq | apply wp_sIf | apply wp_next | apply wp_ret | apply wp_set | apply wp_own | apply wp_par | apply wp_par3 | apply wp_asg | apply wp_for | apply wp_tVal | apply wp_tTru | apply wp_tAnd | apply wp_tOr | apply wp_tNot | apply wp_e2 | apply wp_e1 | apply wp_eC | apply wp_call | apply wp_cons | apply wp_nil | apply wp_mt | apply wp_sl | apply wp_pNo | apply wp_pAt | apply wp_rev | apply wp_eIf | apply wp_eAnd | apply wp_eOr | apply wp_eNot | apply wp_chain | apply wp_isi | apply wp_isi2 | apply wp_fn | apply wp_iOf | apply wp_iRng | apply wp_lc | apply wp_tup | apply wp_lst | apply wp_frz | apply ko_nx | apply ko_rt | apply kr_rt | apply kr_nx | apply ex_bool | apply ex_int) | ((with_reducible apply wp_eV); rfl) | ((with_reducible apply wp_eOv); rfl) | ((with_reducible apply wp_eOo); rfl) | ((with_reducible apply wp_st); rfl; decide) | ((with_reducible apply wp_stSet); rfl) | ((with_reducible apply wp_fnS); rfl) | ((with_reducible apply ex_some); rfl) | ((with_reducible apply ex_sb); rfl) | ((with_reducible apply br_t); rfl) | ((with_reducible apply br_f); rfl) | ((with_reducible apply ex_some (mulB ?hh)); case hh => decide +kernel) | ((with_reducible apply ex_some (mulA ?hh)); case hh => decide +kernel) | ((with_reducible apply ex_some (rngL ?hh)); case hh => decide +kernel) | (refine ⟨rfl, ?_⟩)))
    rw [len_eqv]
    by_cases h : xs.length = n
    · subst h
      refine br_t (by simp) ?_
      (repeat (first | with_reducible (first | apply wp_seq | apply wp_sIf | apply wp_next | apply wp_ret | apply wp_set | apply wp_own | apply wp_par | apply wp_par3 | apply wp_asg | apply wp_for | apply wp_tVal | apply wp_tTru | apply wp_tAnd | apply wp_tOr | apply wp_tNot | apply wp_e2 | apply wp_e1 | apply wp_eC | apply wp_call | apply wp_cons | apply wp_nil | apply wp_mt | apply wp_sl | apply wp_pNo | apply wp_pAt | apply wp_rev | apply wp_eIf | apply wp_eAnd | apply wp_eOr | apply wp_eNot | apply wp_chain | apply wp_isi | apply wp_isi2 | apply wp_fn | apply wp_iOf | apply wp_iRng | apply wp_lc | apply wp_tup | apply wp_lst | apply wp_frz | apply ko_nx | apply ko_rt | apply kr_rt | apply kr_nx | apply ex_bool | apply ex_int) | ((with_reducible apply wp_eV); rfl) | ((with_reducible apply wp_eOv); rfl) | ((with_reducible apply wp_eOo); rfl) | ((with_reducible apply wp_st); rfl; decide) | ((with_reducible apply wp_stSet); rfl) | ((with_reducible apply wp_fnS); rfl) | ((with_reducible apply ex_some); rfl) | ((with_reducible apply ex_sb); rfl) | ((with_reducible apply br_t); rfl) | ((with_reducible apply br_f); rfl) | ((with_reducible apply ex_some (mulB ?hh)); case hh => decide +kernel) | ((with_reducible apply ex_some (mulA ?hh)); case hh => decide +kernel) | ((with_reducible apply ex_some (rngL ?hh)); case hh => decide +kernel) | (refine ⟨rfl, ?_⟩)))
      cases xs with
      | nil => cases hn
      | cons x r =>
        refine ex_some (z := x) (ix_nat (xs := x :: r) (k := 0) (Nat.succ_pos _)) ?_
        cases x <;> ((repeat (first | with_reducible (first | apply wp_seq | apply wp_sIf | apply wp_next | apply wp_ret | apply wp_set | apply wp_own | apply wp_par | apply wp_par3 | apply wp_asg | apply wp_for | apply wp_tVal | apply wp_tTru | apply wp_tAnd | apply wp_tOr | apply wp_tNot | apply wp_e2 | apply wp_e1 | apply wp_eC | apply wp_call | apply wp_cons | apply wp_nil | apply wp_mt | apply wp_sl | apply wp_pNo | apply wp_pAt | apply wp_rev | apply wp_eIf | apply wp_eAnd | apply wp_eOr | apply wp_eNot | apply wp_chain | apply wp_isi | apply wp_isi2 | apply wp_fn | apply wp_iOf | apply wp_iRng | apply wp_lc | apply wp_tup | apply wp_lst | apply wp_frz | apply ko_nx | apply ko_rt | apply kr_rt | apply kr_nx | apply ex_bool | apply ex_int) | ((with_reducible apply wp_eV); rfl) | ((with_reducible apply wp_eOv); rfl) | ((with_reducible apply wp_eOo); rfl) | ((with_reducible apply wp_st); rfl; decide) | ((with_reducible apply wp_stSet); rfl) | ((with_reducible apply wp_fnS); rfl) | ((with_reducible apply ex_some); rfl) | ((with_reducible apply ex_sb); rfl) | ((with_reducible apply br_t); rfl) | ((with_reducible apply br_f); rfl) | ((with_reducible apply ex_some (mulB ?hh)); case hh => decide +kernel) | ((with_reducible apply ex_some (mulA ?hh)); case hh => decide +kernel) | ((with_reducible apply ex_some (rngL ?hh)); case hh => decide +kernel) | (refine ⟨rfl, ?_⟩))); first | rfl | (simp [toldB]; done) | skip)
        refine ex_some (ix_nat (xs := PyData.str _ :: r) (k := 0) (Nat.succ_pos _)) ?_
        (repeat (first | with_reducible (first | apply wp_seq | apply wp_sIf | apply wp_next | apply wp_ret | apply wp_set | apply wp_own | apply wp_par | apply wp_par3 | apply wp_asg | apply wp_for | apply wp_tVal | apply wp_tTru | apply wp_tAnd | apply wp_tOr | apply wp_tNot | apply wp_e2 | apply wp_e1 | apply wp_eC | apply wp_call | apply wp_cons | apply wp_nil | apply wp_mt | apply wp_sl | apply wp_pNo | apply wp_pAt | apply wp_rev | apply wp_eIf | apply wp_eAnd | apply wp_eOr | apply wp_eNot | apply wp_chain | apply wp_isi | apply wp_isi2 | apply wp_fn | apply wp_iOf | apply wp_iRng | apply wp_lc | apply wp_tup | apply wp_lst | apply wp_frz | apply ko_nx | apply ko_rt | apply kr_rt | apply kr_nx | apply ex_bool | apply ex_int) | ((with_reducible apply wp_eV); rfl) | ((with_reducible apply wp_eOv); rfl) | ((with_reducible apply wp_eOo); rfl) | ((with_reducible apply wp_st); rfl; decide) | ((with_reducible apply wp_stSet); rfl) | ((with_reducible apply wp_fnS); rfl) | ((with_reducible apply ex_some); rfl) | ((with_reducible apply ex_sb); rfl) | ((with_reducible apply br_t); rfl) | ((with_reducible apply br_f); rfl) | ((with_reducible apply ex_some (mulB ?hh)); case hh => decide +kernel) | ((with_reducible apply ex_some (mulA ?hh)); case hh => decide +kernel) | ((with_reducible apply ex_some (rngL ?hh)); case hh => decide +kernel) | (refine ⟨rfl, ?_⟩)))
        simp [toldB, eqv_str]
    · refine br_f (by simpa using h) ?_
      (repeat (first | with_reducible (first | apply wp_seq | apply wp_sIf | apply wp_next | apply wp_ret | apply wp_set | apply wp_own | apply wp_par | apply wp_par3 | apply wp_asg | apply wp_for | apply wp_tVal | apply wp_tTru | apply wp_tAnd | apply wp_tOr | apply wp_tNot | apply wp_e2 | apply wp_e1 | apply wp_eC | apply wp_call | apply wp_cons | apply wp_nil | apply wp_mt | apply wp_sl | apply wp_pNo | apply wp_pAt | apply wp_rev | apply wp_eIf | apply wp_eAnd | apply wp_eOr | apply wp_eNot | apply wp_chain | apply wp_isi | apply wp_isi2 | apply wp_fn | apply wp_iOf | apply wp_iRng | apply wp_lc | apply wp_tup | apply wp_lst | apply wp_frz | apply ko_nx | apply ko_rt | apply kr_rt | apply kr_nx | apply ex_bool | apply ex_int) | ((with_reducible apply wp_eV); rfl) | ((with_reducible apply wp_eOv); rfl) | ((with_reducible apply wp_eOo); rfl) | ((with_reducible apply wp_st); rfl; decide) | ((with_reducible apply wp_stSet); rfl) | ((with_reducible apply wp_fnS); rfl) | ((with_reducible apply ex_some); rfl) | ((with_reducible apply ex_sb); rfl) | ((with_reducible apply br_t); rfl) | ((with_reducible apply br_f); rfl) | ((with_reducible apply ex_some (mulB ?hh)); case hh => decide +kernel) | ((with_reducible apply ex_some (mulA ?hh)); case hh => decide +kernel) | ((with_reducible apply ex_some (rngL ?hh)); case hh => decide +kernel) | (refine ⟨rfl, ?_⟩)))
      simp [toldB, h]
  | _ => (repeat (first | with_reducible (first | apply wp_seq | apply wp_sIf | apply wp_next | apply wp_ret | apply wp_set | apply wp_own | apply wp_par | apply wp_par3 | apply wp_asg | apply wp_for | apply wp_tVal | apply wp_tTru | apply wp_tAnd | apply wp_tOr | apply wp_tNot | apply wp_e2 | apply wp_e1 | apply wp_eC | apply wp_call | apply wp_cons | apply wp_nil | apply wp_mt | apply wp_sl | apply wp_pNo | apply wp_pAt | apply wp_rev | apply wp_eIf | apply wp_eAnd | apply wp_eOr | apply wp_eNot | apply wp_chain | apply wp_isi | apply wp_isi2 | apply wp_fn | apply wp_iOf | apply wp_iRng | apply wp_lc | apply wp_tup | apply wp_lst | apply wp_frz | apply ko_nx | apply ko_rt | apply kr_rt | apply kr_nx | apply ex_bool | apply ex_int) | ((with_reducible apply wp_eV); rfl) | ((with_reducible apply wp_eOv); rfl) | ((with_reducible apply wp_eOo); rfl) | ((with_reducible apply wp_st); rfl; decide) | ((with_reducible apply wp_stSet); rfl) | ((with_reducible apply wp_fnS); rfl) | ((with_reducible apply ex_some); rfl) | ((with_reducible apply ex_sb); rfl) | ((with_reducible apply br_t); rfl) | ((with_reducible apply br_f); rfl) | ((with_reducible apply ex_some (mulB ?hh)); case hh => decide +kernel) | ((with_reducible apply ex_some (mulA ?hh)); case hh => decide +kernel) | ((with_reducible apply ex_some (rngL ?hh)); case hh => decide +kernel) | (refine ⟨rfl, ?_⟩))); rfl
theorem toldB_two {w : Str} (h : toldB w 2 d = true) : ∃ x, d = .tuple [.str w, x] := by
  cases d with
  | tuple xs =>
    simp only [toldB, Bool.and_eq_true] at h
    obtain ⟨h1, h2⟩ := h
    have h1 : xs.length = 2 := by simpa using h1
    obtain ⟨x, y, rfl⟩ : ∃ x y, xs = [x, y] := by
      match xs, h1 with
      | [x, y], _ => exact ⟨x, y, rfl⟩
    cases x with
    | str z =>
      have e : z = w := by simpa using h2
      exact ⟨y, by rw [e]⟩
    | _ => cases h2
  | _ => cases h
theorem toldB_self {w : Str} {x : D} : toldB w 2 (.tuple [.str w, x]) = true := by simp [toldB]
theorem are_wholes_eq (xs : List D) (hs : Sans 60000 13 xs) : f_law_are_wholes [.tuple xs, .int xs.length] = pure (.bool (xs.all wholeB)) := by
  refine pure_of fun s => ?_
  unfold f_law_are_wholes
  apply wp_runD
  unfold b_law_are_wholes
  have hl : xs.length ≤ 60000 := Nat.le_trans wts_len hs.w
  (repeat (first | with_reducible (first | apply wp_seq | apply wp_sIf | apply wp_next | apply wp_ret | apply wp_set | apply wp_own | apply wp_par | apply wp_par3 | apply wp_asg | apply wp_for | apply wp_tVal | apply wp_tTru | apply wp_tAnd | apply wp_tOr | apply wp_tNot | apply wp_e2 | apply wp_e1 | apply wp_eC | apply wp_call | apply wp_cons | apply wp_nil | apply wp_mt | apply wp_sl | apply wp_pNo | apply wp_pAt | apply wp_rev | apply wp_eIf | apply wp_eAnd | apply wp_eOr | apply wp_eNot | apply wp_chain | apply wp_isi | apply wp_isi2 | apply wp_fn | apply wp_iOf | apply wp_iRng | apply wp_lc | apply wp_tup | apply wp_lst | apply wp_frz | apply ko_nx | apply ko_rt | apply kr_rt | apply kr_nx | apply ex_bool | apply ex_int) | ((with_reducible apply wp_eV); rfl) | ((with_reducible apply wp_eOv); rfl) | ((with_reducible apply wp_eOo); rfl) | ((with_reducible apply wp_st); rfl; decide) | ((with_reducible apply wp_stSet); rfl) | ((with_reducible apply wp_fnS); rfl) | ((with_reducible apply ex_some); rfl) | ((with_reducible apply ex_sb); rfl) | ((with_reducible apply br_t); rfl) | ((with_reducible apply br_f); rfl) | ((with_reducible apply ex_some (mulB ?hh)); case hh => decide +kernel) | ((with_reducible apply ex_some (mulA ?hh)); case hh => decide +kernel) | ((with_reducible apply ex_some (rngL ?hh)); case hh => decide +kernel) | (refine ⟨rfl, ?_⟩)))
  rw [len_eqv]
  refine br_t (by simp) ?_
  (repeat (first | with_reducible (first | apply wp_seq | apply wp_sIf | apply wp_next | apply wp_ret | apply wp_set | apply wp_own | apply wp_par | apply wp_par3 | apply wp_asg | apply wp_for | apply wp_tVal | apply wp_tTru | apply wp_tAnd | apply wp_tOr | apply wp_tNot | apply wp_e2 | apply wp_e1 | apply wp_eC | apply wp_call | apply wp_cons | apply wp_nil | apply wp_mt | apply wp_sl | apply wp_pNo | apply wp_pAt | apply wp_rev | apply wp_eIf | apply wp_eAnd | apply wp_eOr | apply wp_eNot | apply wp_chain | apply wp_isi | apply wp_isi2 | apply wp_fn | apply wp_iOf | apply wp_iRng | apply wp_lc | apply wp_tup | apply wp_lst | apply wp_frz | apply ko_nx | apply ko_rt | apply kr_rt | apply kr_nx | apply ex_bool | apply ex_int) | ((with_reducible apply wp_eV); rfl) | ((with_reducible apply wp_eOv); rfl) | ((with_reducible apply wp_eOo); rfl) | ((with_reducible apply wp_st); rfl; decide) | ((with_reducible apply wp_stSet); rfl) | ((with_reducible apply wp_fnS); rfl) | ((with_reducible apply ex_some); rfl) | ((with_reducible apply ex_sb); rfl) | ((with_reducible apply br_t); rfl) | ((with_reducible apply br_f); rfl) | ((with_reducible apply ex_some (mulB ?hh)); case hh => decide +kernel) | ((with_reducible apply ex_some (mulA ?hh)); case hh => decide +kernel) | ((with_reducible apply ex_some (rngL ?hh)); case hh => decide +kernel) | (refine ⟨rfl, ?_⟩)))
  refine ⟨decide_eq_true (by omega), ?_⟩
  refine wp_eq (lcGo_pure (p := fun d => !wholeB d) (f := id) ?_) (wp_pure ?_)
  · intro d hd
    refine ⟨_, rfl, ?_, fun _ => rfl⟩
    refine pure_of fun s => ?_
    (repeat (first | with_reducible (first | apply wp_seq | apply wp_sIf | apply wp_next | apply wp_ret | apply wp_set | apply wp_own | apply wp_par | apply wp_par3 | apply wp_asg | apply wp_for | apply wp_tVal | apply wp_tTru | apply wp_tAnd | apply wp_tOr | apply wp_tNot | apply wp_e2 | apply wp_e1 | apply wp_eC | apply wp_call | apply wp_cons | apply wp_nil | apply wp_mt | apply wp_sl | apply wp_pNo | apply wp_pAt | apply wp_rev | apply wp_eIf | apply wp_eAnd | apply wp_eOr | apply wp_eNot | apply wp_chain | apply wp_isi | apply wp_isi2 | apply wp_fn | apply wp_iOf | apply wp_iRng | apply wp_lc | apply wp_tup | apply wp_lst | apply wp_frz | apply ko_nx | apply ko_rt | apply kr_rt | apply kr_nx | apply ex_bool | apply ex_int) | ((with_reducible apply wp_eV); rfl) | ((with_reducible apply wp_eOv); rfl) | ((with_reducible apply wp_eOo); rfl) | ((with_reducible apply wp_st); rfl; decide) | ((with_reducible apply wp_stSet); rfl) | ((with_reducible apply wp_fnS); rfl) | ((with_reducible apply ex_some); rfl) | ((with_reducible apply ex_sb); rfl) | ((with_reducible apply br_t); rfl) | ((with_reducible apply br_f); rfl) | ((with_reducible apply ex_some (mulB ?hh)); case hh => decide +kernel) | ((with_reducible apply ex_some (mulA ?hh)); case hh => decide +kernel) | ((with_reducible apply ex_some (rngL ?hh)); case hh => decide +kernel) | (refine ⟨rfl, ?_⟩)))
    refine wp_eq (law_is_whole_eq d) (wp_pure ?_)
    (repeat (first | with_reducible (first | apply wp_seq | apply wp_sIf | apply wp_next | apply wp_ret | apply wp_set | apply wp_own | apply wp_par | apply wp_par3 | apply wp_asg | apply wp_for | apply wp_tVal | apply wp_tTru | apply wp_tAnd | apply wp_tOr | apply wp_tNot | apply wp_e2 | apply wp_e1 | apply wp_eC | apply wp_call | apply wp_cons | apply wp_nil | apply wp_mt | apply wp_sl | apply wp_pNo | apply wp_pAt | apply wp_rev | apply wp_eIf | apply wp_eAnd | apply wp_eOr | apply wp_eNot | apply wp_chain | apply wp_isi | apply wp_isi2 | apply wp_fn | apply wp_iOf | apply wp_iRng | apply wp_lc | apply wp_tup | apply wp_lst | apply wp_frz | apply ko_nx | apply ko_rt | apply kr_rt | apply kr_nx | apply ex_bool | apply ex_int) | ((with_reducible apply wp_eV); rfl) | ((with_reducible apply wp_eOv); rfl) | ((with_reducible apply wp_eOo); rfl) | ((with_reducible apply wp_st); rfl; decide) | ((with_reducible apply wp_stSet); rfl) | ((with_reducible apply wp_fnS); rfl) | ((with_reducible apply ex_some); rfl) | ((with_reducible apply ex_sb); rfl) | ((with_reducible apply br_t); rfl) | ((with_reducible apply br_f); rfl) | ((with_reducible apply ex_some (mulB ?hh)); case hh => decide +kernel) | ((with_reducible apply ex_some (mulA ?hh)); case hh => decide +kernel) | ((with_reducible apply ex_some (rngL ?hh)); case hh => decide +kernel) | (refine ⟨rfl, ?_⟩)))
    rfl
  · rw [List.map_id]
    (repeat (first | with_reducible (first | apply wp_seq | apply wp_sIf | apply wp_next | apply wp_ret | apply wp_set | apply wp_own | apply wp_par | apply wp_par3 | apply wp_asg | apply wp_for | apply wp_tVal | apply wp_tTru | apply wp_tAnd | apply wp_tOr | apply wp_tNot | apply wp_e2 | apply wp_e1 | apply wp_eC | apply wp_call | apply wp_cons | apply wp_nil | apply wp_mt | apply wp_sl | apply wp_pNo | apply wp_pAt | apply wp_rev | apply wp_eIf | apply wp_eAnd | apply wp_eOr | apply wp_eNot | apply wp_chain | apply wp_isi | apply wp_isi2 | apply wp_fn | apply wp_iOf | apply wp_iRng | apply wp_lc | apply wp_tup | apply wp_lst | apply wp_frz | apply ko_nx | apply ko_rt | apply kr_rt | apply kr_nx | apply ex_bool | apply ex_int) | ((with_reducible apply wp_eV); rfl) | ((with_reducible apply wp_eOv); rfl) | ((with_reducible apply wp_eOo); rfl) | ((with_reducible apply wp_st); rfl; decide) | ((with_reducible apply wp_stSet); rfl) | ((with_reducible apply wp_fnS); rfl) | ((with_reducible apply ex_some); rfl) | ((with_reducible apply ex_sb); rfl) | ((with_reducible apply br_t); rfl) | ((with_reducible apply br_f); rfl) | ((with_reducible apply ex_some (mulB ?hh)); case hh => decide +kernel) | ((with_reducible apply ex_some (mulA ?hh)); case hh => decide +kernel) | ((with_reducible apply ex_some (rngL ?hh)); case hh => decide +kernel) | (refine ⟨rfl, ?_⟩)))
    refine ex_some (eq_emptyL (hs.sub List.filter_sublist).lst (by omega)) ?_
    (repeat (first | with_reducible (first | apply wp_seq | apply wp_sIf | apply wp_next | apply wp_ret | apply wp_set | apply wp_own | apply wp_par | apply wp_par3 | apply wp_asg | apply wp_for | apply wp_tVal | apply wp_tTru | apply wp_tAnd | apply wp_tOr | apply wp_tNot | apply wp_e2 | apply wp_e1 | apply wp_eC | apply wp_call | apply wp_cons | apply wp_nil | apply wp_mt | apply wp_sl | apply wp_pNo | apply wp_pAt | apply wp_rev | apply wp_eIf | apply wp_eAnd | apply wp_eOr | apply wp_eNot | apply wp_chain | apply wp_isi | apply wp_isi2 | apply wp_fn | apply wp_iOf | apply wp_iRng | apply wp_lc | apply wp_tup | apply wp_lst | apply wp_frz | apply ko_nx | apply ko_rt | apply kr_rt | apply kr_nx | apply ex_bool | apply ex_int) | ((with_reducible apply wp_eV); rfl) | ((with_reducible apply wp_eOv); rfl) | ((with_reducible apply wp_eOo); rfl) | ((with_reducible apply wp_st); rfl; decide) | ((with_reducible apply wp_stSet); rfl) | ((with_reducible apply wp_fnS); rfl) | ((with_reducible apply ex_some); rfl) | ((with_reducible apply ex_sb); rfl) | ((with_reducible apply br_t); rfl) | ((with_reducible apply br_f); rfl) | ((with_reducible apply ex_some (mulB ?hh)); case hh => decide +kernel) | ((with_reducible apply ex_some (mulA ?hh)); case hh => decide +kernel) | ((with_reducible apply ex_some (rngL ?hh)); case hh => decide +kernel) | (refine ⟨rfl, ?_⟩)))
    refine congrArg PyData.bool ?_
    rw [Bool.eq_iff_iff, plain_filter, List.all_eq_true]
    simp
/-! try -/
theorem wp_tryA {i : Nat} {g : DEnv → M (Option D)} {RO : Out → LS → Prop} (h : (∃ d s', g env s = .ok (some d) s' ∧ RO (.rt d) s') ∨ (∃ e s', g env s = .err e s' ∧ i < env.length ∧ RO (.rt (.tuple [])) s')) : WP (sTryA i g env) s RO := by
  rcases h with ⟨d, s', e, q⟩ | ⟨e', s', e, hi, q⟩
  · exact ⟨_, _, by unfold sTryA; rw [e], q⟩
  · exact ⟨_, _, by unfold sTryA; rw [e]; simp only [hi, if_true], q⟩
/-- a def that ends in a value, drawing nothing, or refuses -/
def Ends (m : M D) (P : D → Prop) : Prop := (∃ r, m = pure r ∧ P r) ∨ ∃ e, m = raise e
theorem wp_tryE {i : Nat} {g : DEnv → M D} {F : List D → M D} {ds : List D} {RO : Out → LS → Prop} {P : D → Prop} (hg : ∀ s, g env s = F ds s) (h : Ends (F ds) P) (hi : i < env.length) (q1 : ∀ r, P r → RO (.rt r) s) (q2 : RO (.rt (.tuple [])) s) : WP (sTryA i (qRet g) env) s RO := by
  refine wp_tryA ?_
  rcases h with ⟨r, e, p⟩ | ⟨e', e⟩
  · left
    refine ⟨r, s, ?_, q1 r p⟩
    show M.bind (g env) _ s = _
    unfold M.bind
    rw [hg s, e]; rfl
  · right
    refine ⟨e', s, ?_, hi, q2⟩
    show M.bind (g env) _ s = _
    unfold M.bind
    rw [hg s, e]; rfl
theorem wp_put {i : Nat} {fi f : DEnv → M D} {RO : Out → LS → Prop} (h : WP (f env) s fun d s' => ∃ ds, ownL env i = some ds ∧ WP (fi env) s' fun k s2 => ∃ (n : Int) (j : Nat), k = .int n ∧ ixN ds.length n = some j ∧ RO (.nx (env.set i (some (.own (.list (ds.set j d)))))) s2) : WP (sPut i fi f env) s RO :=
  wp_bind (wp_mono h fun d s' ⟨ds, e, h⟩ => wp_bind (wp_lift ⟨ds, e, wp_bind (wp_mono h fun k s2 ⟨n, j, e1, e2, q⟩ => by subst e1; simp only [e2]; exact wp_pure q)⟩))
theorem wp_app {i : Nat} {f : DEnv → M D} {ds : List D} {RO : Out → LS → Prop} (e : env[i]? = some (some (.own (.list ds)))) (hl : ds.length < 1048577) (h : WP (f env) s fun d s' => RO (.nx (env.set i (some (.own (.list (ds ++ [d])))))) s') : WP (sApp i f env) s RO := by
  have eo : ownL env i = some ds := by unfold ownL; rw [e]
  refine wp_bind (wp_lift ⟨ds, eo, wp_bind (wp_mono h fun d s' q => ?_)⟩)
  have hl1 : lim1 ds = true := decide_eq_true (by omega)
  rw [if_pos hl1]
  exact wp_pure q
theorem wp_aug {i : Nat} {op : D → D → Option D} {f : DEnv → M D} {x : D} {RO : Out → LS → Prop} (e : env[i]? = some (some (.val x))) (h : WP (f env) s fun y s' => ∃ z, op x y = some z ∧ RO (.nx (env.set i (some (.val z)))) s') : WP (sAug i op f env) s RO :=
  wp_bind (wp_eV e (wp_bind (wp_mono h fun y s' ⟨z, e, q⟩ => wp_bind (wp_lift ⟨z, e, wp_pure q⟩))))
/-- _law_told_near of one value -/
def b_near1 (F : List D → M D) : DEnv → M Out := (sSeq (sOwn 2 (eLst (aCons (eV 1) aNil)))
    (sSeq (sSet 3 (eFnS 0 1 f_law_next (aCons (eC (.int 1)) aNil)))
    (sSeq (sPut 2 (eV 3) (eFnS 0 1 (f_law_neighbour 12) (aCons (e2 ixD (eO 2) (eV 3)) aNil)))
    (sTryA 4 (qRet (eFn 1 F (aCons (e2 ixD (eO 2) (eC (.int 0))) aNil)))))))
theorem tr_near1 {F : List D → M D} {x : D} {P Q : D → Prop} (hn : Tr (f_law_neighbour 12 [x]) P) (hF : ∀ d, P d → Ends (F [d]) Q) (q0 : Q (.tuple [])) : Tr (runS 3 (b_near1 F) [x]) Q := by
  intro s ok
  apply wp_runS
  unfold b_near1
  (repeat (first | with_reducible (first | apply wp_seq | apply wp_sIf | apply wp_next | apply wp_ret | apply wp_set | apply wp_own | apply wp_par | apply wp_par3 | apply wp_asg | apply wp_for | apply wp_tVal | apply wp_tTru | apply wp_tAnd | apply wp_tOr | apply wp_tNot | apply wp_e2 | apply wp_e1 | apply wp_eC | apply wp_call | apply wp_cons | apply wp_nil | apply wp_mt | apply wp_sl | apply wp_pNo | apply wp_pAt | apply wp_rev | apply wp_eIf | apply wp_eAnd | apply wp_eOr | apply wp_eNot | apply wp_chain | apply wp_isi | apply wp_isi2 | apply wp_fn | apply wp_iOf | apply wp_iRng | apply wp_lc | apply wp_tup | apply wp_lst | apply wp_frz | apply ko_nx | apply ko_rt | apply kr_rt | apply kr_nx | apply ex_bool | apply ex_int) | ((with_reducible apply wp_eV); rfl) | ((with_reducible apply wp_eOv); rfl) | ((with_reducible apply wp_eOo); rfl) | ((with_reducible apply wp_st); rfl; decide) | ((with_reducible apply wp_stSet); rfl) | ((with_reducible apply wp_fnS); rfl) | ((with_reducible apply ex_some); rfl) | ((with_reducible apply ex_sb); rfl) | ((with_reducible apply br_t); rfl) | ((with_reducible apply br_f); rfl) | ((with_reducible apply ex_some (mulB ?hh)); case hh => decide +kernel) | ((with_reducible apply ex_some (mulA ?hh)); case hh => decide +kernel) | ((with_reducible apply ex_some (rngL ?hh)); case hh => decide +kernel) | (refine ⟨rfl, ?_⟩)))
  refine next_wp (by decide) (by decide) ok fun k s1 ok1 hk => ?_
  have k0 : k = 0 := by omega
  subst k0
  apply ko_nx
  apply wp_seq
  apply wp_put
  (repeat (first | with_reducible (first | apply wp_seq | apply wp_sIf | apply wp_next | apply wp_ret | apply wp_set | apply wp_own | apply wp_par | apply wp_par3 | apply wp_asg | apply wp_for | apply wp_tVal | apply wp_tTru | apply wp_tAnd | apply wp_tOr | apply wp_tNot | apply wp_e2 | apply wp_e1 | apply wp_eC | apply wp_call | apply wp_cons | apply wp_nil | apply wp_mt | apply wp_sl | apply wp_pNo | apply wp_pAt | apply wp_rev | apply wp_eIf | apply wp_eAnd | apply wp_eOr | apply wp_eNot | apply wp_chain | apply wp_isi | apply wp_isi2 | apply wp_fn | apply wp_iOf | apply wp_iRng | apply wp_lc | apply wp_tup | apply wp_lst | apply wp_frz | apply ko_nx | apply ko_rt | apply kr_rt | apply kr_nx | apply ex_bool | apply ex_int) | ((with_reducible apply wp_eV); rfl) | ((with_reducible apply wp_eOv); rfl) | ((with_reducible apply wp_eOo); rfl) | ((with_reducible apply wp_st); rfl; decide) | ((with_reducible apply wp_stSet); rfl) | ((with_reducible apply wp_fnS); rfl) | ((with_reducible apply ex_some); rfl) | ((with_reducible apply ex_sb); rfl) | ((with_reducible apply br_t); rfl) | ((with_reducible apply br_f); rfl) | ((with_reducible apply ex_some (mulB ?hh)); case hh => decide +kernel) | ((with_reducible apply ex_some (mulA ?hh)); case hh => decide +kernel) | ((with_reducible apply ex_some (rngL ?hh)); case hh => decide +kernel) | (refine ⟨rfl, ?_⟩)))
  refine wp_tr hn ok1 fun d s2 ok2 hd => ?_
  refine ⟨[x], rfl, ?_⟩
  refine wp_eV rfl ⟨0, 0, rfl, rfl, ?_⟩
  apply ko_nx
  exact wp_tryE (F := F) (ds := [d]) (fun s => rfl) (hF d hd) (by simp) (fun r hr => ⟨ok2, hr⟩) ⟨ok2, q0⟩
end
end DL

/-! law 81: what its defs mean (printed by gen.py) -/
namespace DL.L81
open PySem PySem.Spec PyProof.Rows L2 DL
def c_MOST_NUMBER : DEnv → M D := eC (.int 1000000)
/-- in_steps: slots number, steps, text, step -/
def b_in_steps : DEnv → M Out := (sSeq (sIf (tNotB (tVal (eChain leD leD (eC (.int 0)) (eV 0) (eC (.int 1000000))))) (sRaise .unfit) sNext)
    (sSeq (sOwn 1 (eLst (aCons (eC (.int 1)) (aCons (eC (.int 2)) aNil))))
    (sSeq (whGo (tVal (e2 leD (e2 ixD (eO 1) (e1 negD (eC (.int 1)))) (eV 0))) (sApp 1 (e2 addD (e2 ixD (eO 1) (e1 negD (eC (.int 1)))) (e2 ixD (eO 1) (e1 negD (eC (.int 2)))))) 64)
    (sSeq (sSet 2 (eC (.str "")))
    (sSeq (sFor (bName 3) (iOf itemsA (eRev (eO 1))) (sIf (tVal (e2 leD (eV 3) (eV 0))) (sPar 2 0 (aCons (e2 addD (eV 2) (eC (.str "1"))) (aCons (e2 subD (eV 0) (eV 3)) aNil))) (sIf (tTru (eV 2)) (sAug 2 iaddD (eC (.str "0"))) sNext)))
    (sRet (eTup (aCons (eC (.str "text")) (aCons (eV 2) aNil)))))))))
def f_in_steps : List D → M D := runD 3 b_in_steps
/-- judge_in_steps: slots number, told, due -/
def b_judge_in_steps : DEnv → M Out := (sSeq (sSet 2 (eFn 1 f_in_steps (aCons (eV 0) aNil)))
    (sRet (eAnd (eFn 3 f_is_told (aCons (eV 1) (aCons (eC (.str "text")) (aCons (eC (.int 2)) aNil)))) (eAnd (eIsi .str (e2 ixD (eV 1) (eC (.int 1)))) (e2 eqD (eV 1) (eV 2))))))
def f_judge_in_steps : List D → M D := runD 1 b_judge_in_steps
/-- in_orders: slots number, row, part -/
def b_in_orders : DEnv → M Out := (sSeq (sIf (tNotB (tVal (eChain leD leD (eC (.int 0)) (eV 0) (eC (.int 1000000))))) (sRaise .unfit) sNext)
    (sSeq (sOwn 1 (eLst aNil))
    (sSeq (sSet 2 (eC (.int 2)))
    (sSeq (whGo (tVal (e2 gtD (eV 0) (eC (.int 0)))) (sSeq (sApp 1 (e2 modD (eV 0) (eV 2)))
    (sPar 0 2 (aCons (e2 fdivD (eV 0) (eV 2)) (aCons (e2 addD (eV 2) (eC (.int 1))) aNil)))) 64)
    (sRet (eTup (aCons (eC (.str "row")) (aCons (eCall tupSD (aCons (eRev (eO 1)) aNil)) aNil))))))))
def f_in_orders : List D → M D := runD 2 b_in_orders
/-- judge_in_orders: slots number, told, due, part -/
def b_judge_in_orders : DEnv → M Out := (sSeq (sSet 2 (eFn 1 f_in_orders (aCons (eV 0) aNil)))
    (sSeq (sIf (tOrB (tNotB (tTru (eFn 3 f_is_told (aCons (eV 1) (aCons (eC (.str "row")) (aCons (eC (.int 2)) aNil)))))) (tNotB (tTru (eIsi .tuple (e2 ixD (eV 1) (eC (.int 1))))))) (sRet (eC (.bool false))) sNext)
    (sRet (eAnd (e2 notInD (eC (.bool false)) (eLc [3] (bName 3) (iOf itemsA (e2 ixD (eV 1) (eC (.int 1)))) tYesB (eFn 1 f_is_whole (aCons (eV 3) aNil)))) (e2 eqD (eV 1) (eV 2))))))
def f_judge_in_orders : List D → M D := runD 2 b_judge_in_orders
/-- in_signs: slots number, text, rest -/
def b_in_signs : DEnv → M Out := (sSeq (sIf (tVal (e2 gtD (eCall absD (aCons (eV 0) aNil)) (eC (.int 1000000)))) (sRaise .wide) sNext)
    (sSeq (sSet 1 (eIf (tTru (eV 0)) (eC (.str "")) (eC (.str "0"))))
    (sSeq (whGo (tVal (e2 neD (eV 0) (eC (.int 0)))) (sSeq (sSet 2 (e2 subD (e2 modD (e2 addD (eV 0) (eC (.int 1))) (eC (.int 3))) (eC (.int 1))))
    (sSeq (sSet 1 (e2 addD (e2 ixD (eC (.str "a01")) (e2 addD (eV 2) (eC (.int 1)))) (eV 1)))
    (sSet 0 (e2 fdivD (e2 subD (eV 0) (eV 2)) (eC (.int 3)))))) 64)
    (sRet (eTup (aCons (eC (.str "text")) (aCons (eV 1) aNil)))))))
def f_in_signs : List D → M D := runD 2 b_in_signs
/-- judge_in_signs: slots number, told, due -/
def b_judge_in_signs : DEnv → M Out := (sSeq (sSet 2 (eFn 1 f_in_signs (aCons (eV 0) aNil)))
    (sRet (eAnd (eFn 3 f_is_told (aCons (eV 1) (aCons (eC (.str "text")) (aCons (eC (.int 2)) aNil)))) (eAnd (eIsi .str (e2 ixD (eV 1) (eC (.int 1)))) (e2 eqD (eV 1) (eV 2))))))
def f_judge_in_signs : List D → M D := runD 1 b_judge_in_signs
/-- _law_accepts: slots number, told, total, one, two, sign -/
def b_law_accepts : DEnv → M Out := (sSeq (sIf (tOrB (tNotB (tTru (eFn 3 f_law_is (aCons (eV 1) (aCons (eC (.str "text")) (aCons (eC (.int 2)) aNil)))))) (tOrB (tNotB (tTru (eFn 1 f_law_is_text (aCons (e2 ixD (eV 1) (eC (.int 1))) aNil)))) (tOrB (tVal (e2 gtD (eCall lenD (aCons (e2 ixD (eV 1) (eC (.int 1))) aNil)) (eC (.int 40)))) (tVal (e2 neD (eLc [5] (bName 5) (iOf itemsA (e2 ixD (eV 1) (eC (.int 1)))) (tVal (e2 notInD (eV 5) (eC (.str "01")))) (eV 5)) (eLst aNil)))))) (sRet (eC (.bool false))) sNext)
    (sSeq (sIf (tOrB (tVal (e2 inD (eC (.str "11")) (e2 ixD (eV 1) (eC (.int 1))))) (tVal (e2 eqD (eSl (e2 ixD (eV 1) (eC (.int 1))) pNo (pAt (eC (.int 1)))) (eC (.str "0"))))) (sRet (eC (.bool false))) sNext)
    (sSeq (sAsg (bTup [(bName 2), (bName 3), (bName 4)]) (eTup (aCons (eC (.int 0)) (aCons (eC (.int 1)) (aCons (eC (.int 2)) aNil)))))
    (sSeq (sFor (bName 5) (iOf itemsA (eRev (e2 ixD (eV 1) (eC (.int 1))))) (sSeq (sSet 2 (e2 addD (eV 2) (eIf (tVal (e2 eqD (eV 5) (eC (.str "1")))) (eV 3) (eC (.int 0)))))
    (sPar 3 4 (aCons (eV 4) (aCons (e2 addD (eV 3) (eV 4)) aNil)))))
    (sRet (e2 eqD (eV 2) (eV 0)))))))
def f_law_accepts : List D → M D := runD 4 b_law_accepts
/-- _law_told_near: slots state, number, things, pick, error -/
def b_law_told_near : DEnv → M Out := (sSeq (sOwn 2 (eLst (aCons (eV 1) aNil)))
    (sSeq (sSet 3 (eFnS 0 1 f_law_next (aCons (eC (.int 1)) aNil)))
    (sSeq (sPut 2 (eV 3) (eFnS 0 1 (f_law_neighbour 12) (aCons (e2 ixD (eO 2) (eV 3)) aNil)))
    (sTryA 4 (qRet (eFn 1 f_in_steps (aCons (e2 ixD (eO 2) (eC (.int 0))) aNil)))))))
def f_law_told_near : List D → M D := runS 3 b_law_told_near
/-- _law_unfit: slots number, judged, error -/
def b_law_unfit : DEnv → M Out := (sSeq (sFor (bName 1) (iOf itemsA (frz (eLst (aCons (eC (.bool false)) (aCons (eC (.bool true)) aNil))))) (sTryB 2 (qSeq (qIf (tTru (eV 1)) (qExpr (eFn 2 f_judge_in_steps (aCons (eV 0) (aCons (eC .none) aNil)))) (qExpr (eFn 1 f_in_steps (aCons (eV 0) aNil)))) (qRet (eC (.bool false))))))
    (sRet (eC (.bool true))))
def f_law_unfit : List D → M D := runD 2 b_law_unfit
/-- _law_accepts_too: slots number, told, total, part, k, value -/
def b_law_accepts_too : DEnv → M Out := (sSeq (sIf (tOrB (tNotB (tTru (eFn 3 f_law_is (aCons (eV 1) (aCons (eC (.str "row")) (aCons (eC (.int 2)) aNil)))))) (tOrB (tNotB (tTru (eIsi .tuple (e2 ixD (eV 1) (eC (.int 1)))))) (tOrB (tNotB (tTru (eFn 2 f_law_are_wholes (aCons (e2 ixD (eV 1) (eC (.int 1))) (aCons (eCall lenD (aCons (e2 ixD (eV 1) (eC (.int 1))) aNil)) aNil))))) (tOrB (tVal (e2 gtD (eCall lenD (aCons (e2 ixD (eV 1) (eC (.int 1))) aNil)) (eC (.int 20)))) (tVal (e2 eqD (eSl (e2 ixD (eV 1) (eC (.int 1))) pNo (pAt (eC (.int 1)))) (eTup (aCons (eC (.int 0)) aNil)))))))) (sRet (eC (.bool false))) sNext)
    (sSeq (sAsg (bTup [(bName 2), (bName 3)]) (eTup (aCons (eC (.int 0)) (aCons (eC (.int 1)) aNil))))
    (sSeq (sFor (bName 4) (iRng rng1 (aCons (eCall lenD (aCons (e2 ixD (eV 1) (eC (.int 1))) aNil)) aNil)) (sSeq (sSet 5 (e2 ixD (e2 ixD (eV 1) (eC (.int 1))) (e2 subD (e2 subD (eCall lenD (aCons (e2 ixD (eV 1) (eC (.int 1))) aNil)) (eC (.int 1))) (eV 4))))
    (sSeq (sSet 3 (e2 mulD (eV 3) (e2 addD (eV 4) (eC (.int 1)))))
    (sSeq (sIf (tNotB (tVal (eChain leD leD (eC (.int 0)) (eV 5) (e2 addD (eV 4) (eC (.int 1)))))) (sRet (eC (.bool false))) sNext)
    (sSet 2 (e2 addD (eV 2) (e2 mulD (eV 5) (eV 3))))))))
    (sRet (e2 eqD (eV 2) (eV 0))))))
def f_law_accepts_too : List D → M D := runD 4 b_law_accepts_too
/-- _law_told_near_too: slots state, number, things, pick, error -/
def b_law_told_near_too : DEnv → M Out := (sSeq (sOwn 2 (eLst (aCons (eV 1) aNil)))
    (sSeq (sSet 3 (eFnS 0 1 f_law_next (aCons (eC (.int 1)) aNil)))
    (sSeq (sPut 2 (eV 3) (eFnS 0 1 (f_law_neighbour 12) (aCons (e2 ixD (eO 2) (eV 3)) aNil)))
    (sTryA 4 (qRet (eFn 1 f_in_orders (aCons (e2 ixD (eO 2) (eC (.int 0))) aNil)))))))
def f_law_told_near_too : List D → M D := runS 3 b_law_told_near_too
/-- _law_unfit_too: slots number, judged, error -/
def b_law_unfit_too : DEnv → M Out := (sSeq (sFor (bName 1) (iOf itemsA (frz (eLst (aCons (eC (.bool false)) (aCons (eC (.bool true)) aNil))))) (sTryB 2 (qSeq (qIf (tTru (eV 1)) (qExpr (eFn 2 f_judge_in_orders (aCons (eV 0) (aCons (eC .none) aNil)))) (qExpr (eFn 1 f_in_orders (aCons (eV 0) aNil)))) (qRet (eC (.bool false))))))
    (sRet (eC (.bool true))))
def f_law_unfit_too : List D → M D := runD 2 b_law_unfit_too
/-- _law_accepts_three: slots number, told, total, sign -/
def b_law_accepts_three : DEnv → M Out := (sSeq (sIf (tOrB (tNotB (tTru (eFn 3 f_law_is (aCons (eV 1) (aCons (eC (.str "text")) (aCons (eC (.int 2)) aNil)))))) (tOrB (tNotB (tTru (eFn 1 f_law_is_text (aCons (e2 ixD (eV 1) (eC (.int 1))) aNil)))) (tOrB (tVal (e2 eqD (e2 ixD (eV 1) (eC (.int 1))) (eC (.str "")))) (tOrB (tVal (e2 gtD (eCall lenD (aCons (e2 ixD (eV 1) (eC (.int 1))) aNil)) (eC (.int 30)))) (tVal (e2 neD (eLc [3] (bName 3) (iOf itemsA (e2 ixD (eV 1) (eC (.int 1)))) (tVal (e2 notInD (eV 3) (eC (.str "a01")))) (eV 3)) (eLst aNil))))))) (sRet (eC (.bool false))) sNext)
    (sSeq (sSet 2 (eC (.int 0)))
    (sSeq (sFor (bName 3) (iOf itemsA (e2 ixD (eV 1) (eC (.int 1)))) (sSet 2 (e2 subD (e2 addD (e2 mulD (eC (.int 3)) (eV 2)) (eMt isStr indexD (eC (.str "a01")) (aCons (eV 3) aNil))) (eC (.int 1)))))
    (sRet (eAnd (e2 eqD (eV 2) (eV 0)) (eOr (e2 eqD (e2 ixD (eV 1) (eC (.int 1))) (eC (.str "0"))) (e2 neD (e2 ixD (e2 ixD (eV 1) (eC (.int 1))) (eC (.int 0))) (eC (.str "0")))))))))
def f_law_accepts_three : List D → M D := runD 2 b_law_accepts_three
/-- _law_told_near_three: slots state, number, things, pick, error -/
def b_law_told_near_three : DEnv → M Out := (sSeq (sOwn 2 (eLst (aCons (eV 1) aNil)))
    (sSeq (sSet 3 (eFnS 0 1 f_law_next (aCons (eC (.int 1)) aNil)))
    (sSeq (sPut 2 (eV 3) (eFnS 0 1 (f_law_neighbour 12) (aCons (e2 ixD (eO 2) (eV 3)) aNil)))
    (sTryA 4 (qRet (eFn 1 f_in_signs (aCons (e2 ixD (eO 2) (eC (.int 0))) aNil)))))))
def f_law_told_near_three : List D → M D := runS 3 b_law_told_near_three
/-- law: slots script, state, seen, seen_too, seen_three, turn, number, told, near_told, k, asked -/
def b_law : DEnv → M Out := (sSeq (sSet 2 (frz (eLst aNil)))
    (sSeq (sSet 3 (frz (eLst aNil)))
    (sSeq (sSet 4 (frz (eLst aNil)))
    (sSeq (sFor (bName 5) (iRng rng1 (aCons (eC (.int 3)) aNil)) (sSeq (sSet 6 (eFnS 1 1 f_law_next (aCons (e2 ixD (eLst (aCons (eC (.int 20)) (aCons (eC (.int 900)) aNil))) (eFnS 1 1 f_law_next (aCons (eC (.int 2)) aNil))) aNil)))
    (sSeq (sSet 7 (eFn 1 f_in_steps (aCons (eV 6) aNil)))
    (sSeq (sSet 8 (eFnS 1 1 f_law_told_near (aCons (eV 6) aNil)))
    (sSeq (sIf (tOrB (tNotB (tTru (eFn 2 f_law_accepts (aCons (eV 6) (aCons (eV 7) aNil))))) (tVal (e2 isNotD (eFn 2 f_judge_in_steps (aCons (eV 6) (aCons (eV 7) aNil))) (eC (.bool true))))) (sRet (eC (.bool false))) sNext)
    (sSeq (sIf (tOrB (tNotB (tTru (eFn 1 f_law_unfit (aCons (e1 negD (eC (.int 1))) aNil)))) (tNotB (tTru (eFn 1 f_law_unfit (aCons (eC (.int 1000001)) aNil))))) (sRet (eC (.bool false))) sNext)
    (sSeq (sSet 2 (e2 addD (eSl (eV 2) (pAt (e1 negD (eC (.int 3)))) pNo) (eLst (aCons (eV 7) (aCons (eV 8) aNil)))))
    (sSeq (sFor (bName 9) (iRng rng1 (aCons (e2 addD (eC (.int 8)) (eCall lenD (aCons (eV 2) aNil))) aNil)) (sSeq (sSet 10 (eIf (tVal (e2 ltD (eV 9) (eC (.int 8)))) (eFnS 1 1 f_law_odd (aCons (eV 7) aNil)) (e2 ixD (eV 2) (e2 subD (eV 9) (eC (.int 8))))))
    (sIf (tNotB (tTru (eFn 2 (f_law_same 12) (aCons (eFn 2 f_judge_in_steps (aCons (eV 6) (aCons (eV 10) aNil))) (aCons (eFn 2 f_law_accepts (aCons (eV 6) (aCons (eV 10) aNil))) aNil))))) (sRet (eC (.bool false))) sNext)))
    (sSeq (sSet 6 (eV 6))
    (sSeq (sSet 7 (eFn 1 f_in_orders (aCons (eV 6) aNil)))
    (sSeq (sSet 8 (eFnS 1 1 f_law_told_near_too (aCons (eV 6) aNil)))
    (sSeq (sIf (tOrB (tNotB (tTru (eFn 2 f_law_accepts_too (aCons (eV 6) (aCons (eV 7) aNil))))) (tVal (e2 isNotD (eFn 2 f_judge_in_orders (aCons (eV 6) (aCons (eV 7) aNil))) (eC (.bool true))))) (sRet (eC (.bool false))) sNext)
    (sSeq (sIf (tNotB (tTru (eFn 1 f_law_unfit_too (aCons (e1 negD (eC (.int 1))) aNil)))) (sRet (eC (.bool false))) sNext)
    (sSeq (sSet 3 (e2 addD (eSl (eV 3) (pAt (e1 negD (eC (.int 3)))) pNo) (eLst (aCons (eV 7) (aCons (eV 8) aNil)))))
    (sSeq (sFor (bName 9) (iRng rng1 (aCons (e2 addD (eC (.int 8)) (eCall lenD (aCons (eV 3) aNil))) aNil)) (sSeq (sSet 10 (eIf (tVal (e2 ltD (eV 9) (eC (.int 8)))) (eFnS 1 1 f_law_odd (aCons (eV 7) aNil)) (e2 ixD (eV 3) (e2 subD (eV 9) (eC (.int 8))))))
    (sIf (tNotB (tTru (eFn 2 (f_law_same 12) (aCons (eFn 2 f_judge_in_orders (aCons (eV 6) (aCons (eV 10) aNil))) (aCons (eFn 2 f_law_accepts_too (aCons (eV 6) (aCons (eV 10) aNil))) aNil))))) (sRet (eC (.bool false))) sNext)))
    (sSeq (sSet 6 (e2 subD (eV 6) (eC (.int 30))))
    (sSeq (sSet 7 (eFn 1 f_in_signs (aCons (eV 6) aNil)))
    (sSeq (sSet 8 (eFnS 1 1 f_law_told_near_three (aCons (eV 6) aNil)))
    (sSeq (sIf (tOrB (tNotB (tTru (eFn 2 f_law_accepts_three (aCons (eV 6) (aCons (eV 7) aNil))))) (tVal (e2 isNotD (eFn 2 f_judge_in_signs (aCons (eV 6) (aCons (eV 7) aNil))) (eC (.bool true))))) (sRet (eC (.bool false))) sNext)
    (sSeq (sSet 4 (e2 addD (eSl (eV 4) (pAt (e1 negD (eC (.int 3)))) pNo) (eLst (aCons (eV 7) (aCons (eV 8) aNil)))))
    (sFor (bName 9) (iRng rng1 (aCons (e2 addD (eC (.int 8)) (eCall lenD (aCons (eV 4) aNil))) aNil)) (sSeq (sSet 10 (eIf (tVal (e2 ltD (eV 9) (eC (.int 8)))) (eFnS 1 1 f_law_odd (aCons (eV 7) aNil)) (e2 ixD (eV 4) (e2 subD (eV 9) (eC (.int 8))))))
    (sIf (tNotB (tTru (eFn 2 (f_law_same 12) (aCons (eFn 2 f_judge_in_signs (aCons (eV 6) (aCons (eV 10) aNil))) (aCons (eFn 2 f_law_accepts_three (aCons (eV 6) (aCons (eV 10) aNil))) aNil))))) (sRet (eC (.bool false))) sNext)))))))))))))))))))))))
    (sRet (eC (.bool true)))))))
end DL.L81

/-! law 81: its defs hold their meanings (printed by gen.py) -/
namespace DL.L81
open PySem PySem.Spec PyProof.Rows L2 DL
def topS (i : Nat) : Stmt := PySem.Challenge.pw_textwhole_k81_numbers_by_sums.main.body.getD i (.Pass ⟨0, 0, 0, 0⟩)
abbrev s_is_whole : Stmt := topS 5
abbrev s_is_told : Stmt := topS 6
abbrev s_in_steps : Stmt := topS 9
abbrev s_judge_in_steps : Stmt := topS 10
abbrev s_in_orders : Stmt := topS 11
abbrev s_judge_in_orders : Stmt := topS 12
abbrev s_in_signs : Stmt := topS 13
abbrev s_judge_in_signs : Stmt := topS 14
abbrev s_law_next : Stmt := topS 16
abbrev s_law_same : Stmt := topS 17
abbrev s_law_is_whole : Stmt := topS 18
abbrev s_law_are_wholes : Stmt := topS 19
abbrev s_law_is : Stmt := topS 20
abbrev s_law_changed : Stmt := topS 21
abbrev s_law_ints : Stmt := topS 22
abbrev s_law_exchanged : Stmt := topS 23
abbrev s_law_cut : Stmt := topS 24
abbrev s_law_turned_about : Stmt := topS 25
abbrev s_law_odd : Stmt := topS 26
abbrev s_law_is_text : Stmt := topS 27
abbrev s_law_neighbour : Stmt := topS 28
abbrev s_law_accepts : Stmt := topS 29
abbrev s_law_told_near : Stmt := topS 30
abbrev s_law_unfit : Stmt := topS 31
abbrev s_law_accepts_too : Stmt := topS 32
abbrev s_law_told_near_too : Stmt := topS 33
abbrev s_law_unfit_too : Stmt := topS 34
abbrev s_law_accepts_three : Stmt := topS 35
abbrev s_law_told_near_three : Stmt := topS 36
abbrev s_law : Stmt := topS 37
/-- what the top has written -/
structure Txt (K : Fg) (mg : Str → Option Value) (cU cW : Addr) : Prop extends Txt0 K mg cU cW where
  d_is_whole : DefAt K mg "is_whole" s_is_whole ["value"]
  d_is_told : DefAt K mg "is_told" s_is_told ["told", "word", "count"]
  d_in_steps : DefAt K mg "in_steps" s_in_steps ["number"]
  d_judge_in_steps : DefAt K mg "judge_in_steps" s_judge_in_steps ["number", "told"]
  d_in_orders : DefAt K mg "in_orders" s_in_orders ["number"]
  d_judge_in_orders : DefAt K mg "judge_in_orders" s_judge_in_orders ["number", "told"]
  d_in_signs : DefAt K mg "in_signs" s_in_signs ["number"]
  d_judge_in_signs : DefAt K mg "judge_in_signs" s_judge_in_signs ["number", "told"]
  d_law_next : DefAt K mg "_law_next" s_law_next ["state", "limit"]
  d_law_same : DefAt K mg "_law_same" s_law_same ["actual", "expected"]
  d_law_is_whole : DefAt K mg "_law_is_whole" s_law_is_whole ["value"]
  d_law_are_wholes : DefAt K mg "_law_are_wholes" s_law_are_wholes ["value", "count"]
  d_law_is : DefAt K mg "_law_is" s_law_is ["told", "word", "count"]
  d_law_changed : DefAt K mg "_law_changed" s_law_changed ["state", "value"]
  d_law_ints : DefAt K mg "_law_ints" s_law_ints ["value"]
  d_law_exchanged : DefAt K mg "_law_exchanged" s_law_exchanged ["value", "one", "other"]
  d_law_cut : DefAt K mg "_law_cut" s_law_cut ["state", "value"]
  d_law_turned_about : DefAt K mg "_law_turned_about" s_law_turned_about ["state", "told"]
  d_law_odd : DefAt K mg "_law_odd" s_law_odd ["state", "told"]
  d_law_is_text : DefAt K mg "_law_is_text" s_law_is_text ["value"]
  d_law_neighbour : DefAt K mg "_law_neighbour" s_law_neighbour ["state", "value"]
  d_law_accepts : DefAt K mg "_law_accepts" s_law_accepts ["number", "told"]
  d_law_told_near : DefAt K mg "_law_told_near" s_law_told_near ["state", "number"]
  d_law_unfit : DefAt K mg "_law_unfit" s_law_unfit ["number"]
  d_law_accepts_too : DefAt K mg "_law_accepts_too" s_law_accepts_too ["number", "told"]
  d_law_told_near_too : DefAt K mg "_law_told_near_too" s_law_told_near_too ["state", "number"]
  d_law_unfit_too : DefAt K mg "_law_unfit_too" s_law_unfit_too ["number"]
  d_law_accepts_three : DefAt K mg "_law_accepts_three" s_law_accepts_three ["number", "told"]
  d_law_told_near_three : DefAt K mg "_law_told_near_three" s_law_told_near_three ["state", "number"]
  c_MOST_NUMBER : NumAt mg "MOST_NUMBER" 1000000
section
variable {P : Program} {w : PySem.World} {K : Fg} {mg : Str → Option Value} {base : Heap} {cU cW : Addr}
theorem sc_is_whole : FnScope ["value"] ["value"] (defScope s_is_whole) := ⟨rfl, rfl, rfl, by decide +kernel, rfl, by decide +kernel, by decide +kernel⟩
theorem ok_is_whole (T : Txt K mg cU cW) : Fnd P w K mg base "is_whole" 1 (spD K (evOf cU cW) 1 f_is_whole) := by
  obtain ⟨f, fd, hF, hm, hb⟩ := T.d_is_whole.ex
  have sc := sc_is_whole
  refine fnD (k := 0) (body := b_is_whole) hF sc hm hb rfl (fun cdv A outer s H E hr => ?_)
  exact (dss_one (ds_ret (de_and (de_isi .int (T.b _ (by rfl)) (T.b _ (by rfl)) bt_int ((de_var 0)).op) (de_one (de_not (de_isi .bool (T.b _ (by rfl)) (T.b _ (by rfl)) bt_bool ((de_var 0)).op))))))
theorem sc_is_told : FnScope ["told", "word", "count"] ["told", "word", "count"] (defScope s_is_told) := ⟨rfl, rfl, rfl, by decide +kernel, rfl, by decide +kernel, by decide +kernel⟩
theorem ok_is_told (T : Txt K mg cU cW) : Fnd P w K mg base "is_told" 1 (spD K (evOf cU cW) 3 f_is_told) := by
  obtain ⟨f, fd, hF, hm, hb⟩ := T.d_is_told.ex
  have sc := sc_is_told
  refine fnD (k := 0) (body := b_is_told) hF sc hm hb rfl (fun cdv A outer s H E hr => ?_)
  exact (dss_cons (ds_if (dt_w (dw_or (dt_not (dt_tru ((de_isi .tuple (T.b _ (by rfl)) (T.b _ (by rfl)) bt_tuple ((de_var 0)).op)).op)) (dw_or1 (dt_cmp (os_ne hr.units).op ((de_callB (cs_len) (T.b _ (by rfl)) bt_len (do_cons ((de_var 0)).op do_nil))).op ((de_var 2)).op)))) (dss_one (ds_ret de_bl)) dss_nil)
    (dss_one (ds_ret (de_and (de_isi .str (T.b _ (by rfl)) (T.b _ (by rfl)) bt_str ((de_ix is_ix ((de_var 0)).op (de_int).op)).op) (de_one (de_cmp (os_eq hr.units) ((de_ix is_ix ((de_var 0)).op (de_int).op)).op ((de_var 1)).op))))))
theorem sc_in_steps : FnScope ["number", "steps", "text", "step"] ["number"] (defScope s_in_steps) := ⟨rfl, rfl, rfl, by decide +kernel, rfl, by decide +kernel, by decide +kernel⟩
theorem ok_in_steps (T : Txt K mg cU cW) : Fnd P w K mg base "in_steps" 1 (spD K (evOf cU cW) 1 f_in_steps) := by
  obtain ⟨f, fd, hF, hm, hb⟩ := T.d_in_steps.ex
  have sc := sc_in_steps
  refine fnD (k := 0) (body := b_in_steps) hF sc hm hb rfl (fun cdv A outer s H E hr => ?_)
  exact (dss_cons (ds_if (dt_not (dt_chain os_le os_le (de_int).op ((de_var 0)).op ((de_num T.c_MOST_NUMBER)).op)) (dss_one (ds_raise .unfit T.x_UnfitText rfl rfl takesD)) dss_nil)
    (dss_cons (ds_own 1 sc.nd (de_lst (da_cons de_int (da_cons de_int da_nil))))
    (dss_cons (ds_while 64 passD (dt_cmp os_le.op ((de_ix is_ix (de_own 1) ((de_un us_neg (de_int).op)).op)).op ((de_var 0)).op) (dss_one (ds_app 1 (de_bin os_add ((de_ix is_ix (de_own 1) ((de_un us_neg (de_int).op)).op)).op ((de_ix is_ix (de_own 1) ((de_un us_neg (de_int).op)).op)).op))))
    (dss_cons (ds_set 2 sc.nd de_str)
    (dss_cons (ds_for passD rfl (di_any (de_rev (de_own 1))) (dg_name 3 sc.nd) (dss_one (ds_if (dt_cmp os_le.op ((de_var 3)).op ((de_var 0)).op) (dss_one (ds_par 2 0 rfl sc.nd (da_cons (de_bin os_add ((de_var 2)).op (de_str).op) (da_cons (de_bin os_sub ((de_var 0)).op ((de_var 3)).op) da_nil)))) (dss_one (ds_if (dt_tru ((de_var 2)).op) (dss_one (ds_aug 2 sc.nd os_iadd (de_str).op)) dss_nil)))))
    (dss_one (ds_ret (de_tup (da_cons de_str (da_cons (de_var 2) da_nil))))))))))
theorem sc_judge_in_steps : FnScope ["number", "told", "due"] ["number", "told"] (defScope s_judge_in_steps) := ⟨rfl, rfl, rfl, by decide +kernel, rfl, by decide +kernel, by decide +kernel⟩
theorem ok_judge_in_steps (T : Txt K mg cU cW) : Fnd P w K mg base "judge_in_steps" 2 (spD K (evOf cU cW) 2 f_judge_in_steps) := by
  obtain ⟨f, fd, hF, hm, hb⟩ := T.d_judge_in_steps.ex
  have c_in_steps := ok_in_steps (P := P) (w := w) (base := base) T
  have c_is_told := ok_is_told (P := P) (w := w) (base := base) T
  have sc := sc_judge_in_steps
  refine fnD (k := 1) (body := b_judge_in_steps) hF sc hm hb rfl (fun cdv A outer s H E hr => ?_)
  exact (dss_cons (ds_set 2 sc.nd (de_fn c_in_steps takesD hr (da_cons (de_var 0) da_nil) ))
    (dss_one (ds_ret (de_and (de_fn c_is_told takesD hr (da_cons (de_var 1) (da_cons de_str (da_cons de_int da_nil))) ) (de_and (de_isi .str (T.b _ (by rfl)) (T.b _ (by rfl)) bt_str ((de_ix is_ix ((de_var 1)).op (de_int).op)).op) (de_one (de_cmp (os_eq hr.units) ((de_var 1)).op ((de_var 2)).op)))))))
theorem sc_in_orders : FnScope ["number", "row", "part"] ["number"] (defScope s_in_orders) := ⟨rfl, rfl, rfl, by decide +kernel, rfl, by decide +kernel, by decide +kernel⟩
theorem ok_in_orders (T : Txt K mg cU cW) : Fnd P w K mg base "in_orders" 1 (spD K (evOf cU cW) 1 f_in_orders) := by
  obtain ⟨f, fd, hF, hm, hb⟩ := T.d_in_orders.ex
  have sc := sc_in_orders
  refine fnD (k := 0) (body := b_in_orders) hF sc hm hb rfl (fun cdv A outer s H E hr => ?_)
  exact (dss_cons (ds_if (dt_not (dt_chain os_le os_le (de_int).op ((de_var 0)).op ((de_num T.c_MOST_NUMBER)).op)) (dss_one (ds_raise .unfit T.x_UnfitText rfl rfl takesD)) dss_nil)
    (dss_cons (ds_own 1 sc.nd (de_lst da_nil))
    (dss_cons (ds_set 2 sc.nd de_int)
    (dss_cons (ds_while 64 passD (dt_cmp os_gt.op ((de_var 0)).op (de_int).op) (dss_cons (ds_app 1 (de_bin os_mod ((de_var 0)).op ((de_var 2)).op))
    (dss_one (ds_par 0 2 rfl sc.nd (da_cons (de_bin os_fdiv ((de_var 0)).op ((de_var 2)).op) (da_cons (de_bin os_add ((de_var 2)).op (de_int).op) da_nil))))))
    (dss_one (ds_ret (de_tup (da_cons de_str (da_cons (de_callT (cs_tupleS rfl) (T.b _ (by rfl)) bt_tuple (do_cons ((de_rev (de_own 1))).op do_nil)) da_nil)))))))))
theorem sc_judge_in_orders : FnScope ["number", "told", "due", "part"] ["number", "told"] (defScope s_judge_in_orders) := ⟨rfl, rfl, rfl, by decide +kernel, rfl, by decide +kernel, by decide +kernel⟩
theorem ok_judge_in_orders (T : Txt K mg cU cW) : Fnd P w K mg base "judge_in_orders" 2 (spD K (evOf cU cW) 2 f_judge_in_orders) := by
  obtain ⟨f, fd, hF, hm, hb⟩ := T.d_judge_in_orders.ex
  have c_in_orders := ok_in_orders (P := P) (w := w) (base := base) T
  have c_is_told := ok_is_told (P := P) (w := w) (base := base) T
  have c_is_whole := ok_is_whole (P := P) (w := w) (base := base) T
  have sc := sc_judge_in_orders
  refine fnD (k := 1) (body := b_judge_in_orders) hF sc hm hb rfl (fun cdv A outer s H E hr => ?_)
  exact (dss_cons (ds_set 2 sc.nd (de_fn c_in_orders takesD hr (da_cons (de_var 0) da_nil) ))
    (dss_cons (ds_if (dt_w (dw_or (dt_not (dt_tru ((de_fn c_is_told takesD hr (da_cons (de_var 1) (da_cons de_str (da_cons de_int da_nil))) )).op)) (dw_or1 (dt_not (dt_tru ((de_isi .tuple (T.b _ (by rfl)) (T.b _ (by rfl)) bt_tuple ((de_ix is_ix ((de_var 1)).op (de_int).op)).op)).op))))) (dss_one (ds_ret de_bl)) dss_nil)
    (dss_one (ds_ret (de_and (de_cmp (os_notIn (room65 hr)) (de_bl).op ((de_lc rfl sc.nd ((di_any (de_ix is_ix ((de_var 1)).op (de_int).op))).own (own := [("part", 3)]) (blkOk_by (N := ["number", "told", "due", "part"]) (sc := defScope s_judge_in_orders) (by decide +kernel)) (by decide) (fun s H C cl fp => (dg_name 3 sc.nd)) (fun s H C cl fp => dts_nil) (fun s H C cl fp => (de_fn c_is_whole takes0 hr (da_cons (de_var 3) da_nil) )))).fop) (de_one (de_cmp (os_eq hr.units) ((de_var 1)).op ((de_var 2)).op)))))))
theorem sc_in_signs : FnScope ["number", "text", "rest"] ["number"] (defScope s_in_signs) := ⟨rfl, rfl, rfl, by decide +kernel, rfl, by decide +kernel, by decide +kernel⟩
theorem ok_in_signs (T : Txt K mg cU cW) : Fnd P w K mg base "in_signs" 1 (spD K (evOf cU cW) 1 f_in_signs) := by
  obtain ⟨f, fd, hF, hm, hb⟩ := T.d_in_signs.ex
  have sc := sc_in_signs
  refine fnD (k := 0) (body := b_in_signs) hF sc hm hb rfl (fun cdv A outer s H E hr => ?_)
  exact (dss_cons (ds_if (dt_cmp os_gt.op ((de_callB (cs_abs) (T.b _ (by rfl)) bt_abs (do_cons ((de_var 0)).op do_nil))).op ((de_num T.c_MOST_NUMBER)).op) (dss_one (ds_raise .wide T.x_TooWide rfl rfl takesD)) dss_nil)
    (dss_cons (ds_set 1 sc.nd (de_if (dt_tru ((de_var 0)).op) de_str de_str))
    (dss_cons (ds_while 64 passD (dt_cmp (os_ne hr.units).op ((de_var 0)).op (de_int).op) (dss_cons (ds_set 2 sc.nd (de_bin os_sub ((de_bin os_mod ((de_bin os_add ((de_var 0)).op (de_int).op)).op (de_int).op)).op (de_int).op))
    (dss_cons (ds_set 1 sc.nd (de_bin os_add ((de_ix is_ix (de_str).op ((de_bin os_add ((de_var 2)).op (de_int).op)).op)).op ((de_var 1)).op))
    (dss_one (ds_set 0 sc.nd (de_bin os_fdiv ((de_bin os_sub ((de_var 0)).op ((de_var 2)).op)).op (de_int).op))))))
    (dss_one (ds_ret (de_tup (da_cons de_str (da_cons (de_var 1) da_nil))))))))
theorem sc_judge_in_signs : FnScope ["number", "told", "due"] ["number", "told"] (defScope s_judge_in_signs) := ⟨rfl, rfl, rfl, by decide +kernel, rfl, by decide +kernel, by decide +kernel⟩
theorem ok_judge_in_signs (T : Txt K mg cU cW) : Fnd P w K mg base "judge_in_signs" 2 (spD K (evOf cU cW) 2 f_judge_in_signs) := by
  obtain ⟨f, fd, hF, hm, hb⟩ := T.d_judge_in_signs.ex
  have c_in_signs := ok_in_signs (P := P) (w := w) (base := base) T
  have c_is_told := ok_is_told (P := P) (w := w) (base := base) T
  have sc := sc_judge_in_signs
  refine fnD (k := 1) (body := b_judge_in_signs) hF sc hm hb rfl (fun cdv A outer s H E hr => ?_)
  exact (dss_cons (ds_set 2 sc.nd (de_fn c_in_signs takesD hr (da_cons (de_var 0) da_nil) ))
    (dss_one (ds_ret (de_and (de_fn c_is_told takesD hr (da_cons (de_var 1) (da_cons de_str (da_cons de_int da_nil))) ) (de_and (de_isi .str (T.b _ (by rfl)) (T.b _ (by rfl)) bt_str ((de_ix is_ix ((de_var 1)).op (de_int).op)).op) (de_one (de_cmp (os_eq hr.units) ((de_var 1)).op ((de_var 2)).op)))))))
theorem sc_law_next : FnScope ["state", "limit", "cell", "value"] ["state", "limit"] (defScope s_law_next) := ⟨rfl, rfl, rfl, by decide +kernel, rfl, by decide +kernel, by decide +kernel⟩
theorem ok_law_next (T : Txt K mg cU cW) : Fnd P w K mg base "_law_next" 1 (spS K (evOf cU cW) 1 f_law_next) := by
  obtain ⟨f, fd, hF, hm, hb⟩ := T.d_law_next.ex
  have sc := sc_law_next
  refine fnS (k := 0) (body := b_law_next) hF sc hm hb rfl rfl (fun cdv A outer s H E hr => ?_)
  exact (dss_cons (ds_if (dt_w (dw_and (dt_cmp (os_eq hr.units).op ((de_st 0 2)).op (de_int).op) (dw_and1 (dt_cmp os_lt.op ((de_st 0 1)).op ((de_callB (cs_len) (T.b _ (by rfl)) bt_len (do_cons ((de_st 0 0)).op do_nil))).op)))) (dss_cons (ds_set 2 sc.nd (de_ix is_ix ((de_st 0 0)).op ((de_st 0 1)).op))
    (dss_cons (ds_stInc 0 pget_list)
    (dss_one (ds_if (dt_cmp os_ge.op ((de_var 2)).op ((de_bin os_pow (de_int).op (de_int).op)).op) (dss_one (ds_stSet 0 2 (de_var 2))) (dss_one (ds_stSet 0 3 (de_bin os_mod ((de_callT (cs_int) (T.b _ (by rfl)) bt_int (do_cons ((de_bin os_add ((de_bin os_add ((de_bin os_mul ((de_st 0 3)).op (de_int).op)).op ((de_bin os_mod ((de_callT (cs_int) (T.b _ (by rfl)) bt_int (do_cons ((de_var 2)).op do_nil))).op (de_int).op)).op)).op (de_int).op)).op do_nil))).op (de_int).op))))))) dss_nil)
    (dss_cons (ds_if (dt_cmp os_gt.op ((de_st 0 2)).op (de_int).op) (dss_cons (ds_set 3 sc.nd (de_bin os_mod ((de_callT (cs_int) (T.b _ (by rfl)) bt_int (do_cons ((de_st 0 2)).op do_nil))).op ((de_var 1)).op))
    (dss_cons (ds_stSet 0 2 (de_bin os_fdiv ((de_st 0 2)).op ((de_var 1)).op))
    (dss_one (ds_ret (de_var 3))))) dss_nil)
    (dss_cons (ds_stSet 0 3 (de_bin os_mod ((de_callT (cs_int) (T.b _ (by rfl)) bt_int (do_cons ((de_bin os_add ((de_bin os_mul ((de_st 0 3)).op (de_int).op)).op (de_int).op)).op do_nil))).op (de_int).op))
    (dss_one (ds_ret (de_bin os_mod ((de_callT (cs_int) (T.b _ (by rfl)) bt_int (do_cons ((de_bin os_fdiv ((de_st 0 3)).op (de_int).op)).op do_nil))).op ((de_var 1)).op))))))
theorem sc_law_same : FnScope ["actual", "expected", "k"] ["actual", "expected"] (defScope s_law_same) := ⟨rfl, rfl, rfl, by decide +kernel, rfl, by decide +kernel, by decide +kernel⟩
theorem ok_law_same (T : Txt K mg cU cW) : ∀ n, Fnd P w K mg base "_law_same" (1 + n) (spD K (evOf cU cW) 2 (f_law_same n))
  | 0 => by
    obtain ⟨f, fd, hF, hm, hb⟩ := T.d_law_same.ex
    exact fnD (k := 0) (m := 1) (body := fun _ => stuck) hF sc_law_same hm hb rfl (fun cdv A outer s H E hr => dss_stuck)
  | n + 1 => by
    have ih := ok_law_same T n
    obtain ⟨f, fd, hF, hm, hb⟩ := T.d_law_same.ex
    have sc := sc_law_same
    refine fnD (k := 1 + n) (body := b_law_same (f_law_same n)) hF sc hm hb rfl (fun cdv A outer s H E hr => ?_)
    exact (dss_cons (ds_if (dt_cmp os_is.op ((de_var 1)).op (de_non).op) (dss_one (ds_ret (de_cmp os_is ((de_var 0)).op (de_non).op))) dss_nil)
    (dss_cons (ds_if (dt_tru ((de_isi .bool (T.b _ (by rfl)) (T.b _ (by rfl)) bt_bool ((de_var 1)).op)).op) (dss_one (ds_ret (de_and (de_isi .bool (T.b _ (by rfl)) (T.b _ (by rfl)) bt_bool ((de_var 0)).op) (de_one (de_cmp (os_eq hr.units) ((de_var 0)).op ((de_var 1)).op))))) dss_nil)
    (dss_cons (ds_if (dt_tru ((de_isi .int (T.b _ (by rfl)) (T.b _ (by rfl)) bt_int ((de_var 1)).op)).op) (dss_one (ds_ret (de_and (de_isi .int (T.b _ (by rfl)) (T.b _ (by rfl)) bt_int ((de_var 0)).op) (de_and (de_not (de_isi .bool (T.b _ (by rfl)) (T.b _ (by rfl)) bt_bool ((de_var 0)).op)) (de_one (de_cmp (os_eq hr.units) ((de_var 0)).op ((de_var 1)).op)))))) dss_nil)
    (dss_cons (ds_if (dt_tru ((de_isi .str (T.b _ (by rfl)) (T.b _ (by rfl)) bt_str ((de_var 1)).op)).op) (dss_one (ds_ret (de_and (de_isi .str (T.b _ (by rfl)) (T.b _ (by rfl)) bt_str ((de_var 0)).op) (de_one (de_cmp (os_eq hr.units) ((de_var 0)).op ((de_var 1)).op))))) dss_nil)
    (dss_cons (ds_if (dt_w (dw_and (dt_tru ((de_isi .tuple (T.b _ (by rfl)) (T.b _ (by rfl)) bt_tuple ((de_var 1)).op)).op) (dw_and1 (dt_not (dt_tru ((de_isi .tuple (T.b _ (by rfl)) (T.b _ (by rfl)) bt_tuple ((de_var 0)).op)).op))))) (dss_one (ds_ret de_bl)) dss_nil)
    (dss_cons (ds_if (dt_w (dw_and (dt_tru ((de_isi .list (T.b _ (by rfl)) (T.b _ (by rfl)) bt_list ((de_var 1)).op)).op) (dw_and1 (dt_not (dt_tru ((de_isi .list (T.b _ (by rfl)) (T.b _ (by rfl)) bt_list ((de_var 0)).op)).op))))) (dss_one (ds_ret de_bl)) dss_nil)
    (dss_cons (ds_if (dt_cmp (os_ne hr.units).op ((de_callB (cs_len) (T.b _ (by rfl)) bt_len (do_cons ((de_var 0)).op do_nil))).op ((de_callB (cs_len) (T.b _ (by rfl)) bt_len (do_cons ((de_var 1)).op do_nil))).op) (dss_one (ds_ret de_bl)) dss_nil)
    (dss_cons (ds_for passD rfl (di_range1 (T.b _ (by rfl)) (do_cons ((de_callB (cs_len) (T.b _ (by rfl)) bt_len (do_cons ((de_var 1)).op do_nil))).op do_nil)) (dg_name 2 sc.nd) (dss_one (ds_if (dt_not (dt_tru ((de_fn ih takesD hr (da_cons (de_ix is_ix ((de_var 0)).op ((de_var 2)).op) (da_cons (de_ix is_ix ((de_var 1)).op ((de_var 2)).op) da_nil)) (hk := by omega))).op)) (dss_one (ds_ret de_bl)) dss_nil)))
    (dss_one (ds_ret de_bl))))))))))
theorem sc_law_is_whole : FnScope ["value"] ["value"] (defScope s_law_is_whole) := ⟨rfl, rfl, rfl, by decide +kernel, rfl, by decide +kernel, by decide +kernel⟩
theorem ok_law_is_whole (T : Txt K mg cU cW) : Fnd P w K mg base "_law_is_whole" 1 (spD K (evOf cU cW) 1 f_law_is_whole) := by
  obtain ⟨f, fd, hF, hm, hb⟩ := T.d_law_is_whole.ex
  have sc := sc_law_is_whole
  refine fnD (k := 0) (body := b_law_is_whole) hF sc hm hb rfl (fun cdv A outer s H E hr => ?_)
  exact (dss_one (ds_ret (de_and (de_isi .int (T.b _ (by rfl)) (T.b _ (by rfl)) bt_int ((de_var 0)).op) (de_one (de_not (de_isi .bool (T.b _ (by rfl)) (T.b _ (by rfl)) bt_bool ((de_var 0)).op))))))
theorem sc_law_are_wholes : FnScope ["value", "count", "part"] ["value", "count"] (defScope s_law_are_wholes) := ⟨rfl, rfl, rfl, by decide +kernel, rfl, by decide +kernel, by decide +kernel⟩
theorem ok_law_are_wholes (T : Txt K mg cU cW) : Fnd P w K mg base "_law_are_wholes" 2 (spD K (evOf cU cW) 2 f_law_are_wholes) := by
  obtain ⟨f, fd, hF, hm, hb⟩ := T.d_law_are_wholes.ex
  have c_law_is_whole := ok_law_is_whole (P := P) (w := w) (base := base) T
  have sc := sc_law_are_wholes
  refine fnD (k := 1) (body := b_law_are_wholes) hF sc hm hb rfl (fun cdv A outer s H E hr => ?_)
  exact (dss_one (ds_ret (de_and (de_isi .tuple (T.b _ (by rfl)) (T.b _ (by rfl)) bt_tuple ((de_var 0)).op) (de_and (de_cmp (os_eq hr.units) ((de_callB (cs_len) (T.b _ (by rfl)) bt_len (do_cons ((de_var 0)).op do_nil))).op ((de_var 1)).op) (de_one (de_cmp (os_eq hr.units) ((de_lc rfl sc.nd ((di_any (de_var 0))).own (own := [("part", 2)]) (blkOk_by (N := ["value", "count", "part"]) (sc := defScope s_law_are_wholes) (by decide +kernel)) (by decide) (fun s H C cl fp => (dg_name 2 sc.nd)) (fun s H C cl fp => (dts_one (dt_not (dt_tru ((de_fn c_law_is_whole takes0 hr (da_cons (de_var 2) da_nil) )).op)))) (fun s H C cl fp => (de_var 2)))).fop ((de_lst da_nil)).fop))))))
theorem sc_law_is : FnScope ["told", "word", "count"] ["told", "word", "count"] (defScope s_law_is) := ⟨rfl, rfl, rfl, by decide +kernel, rfl, by decide +kernel, by decide +kernel⟩
theorem ok_law_is (T : Txt K mg cU cW) : Fnd P w K mg base "_law_is" 1 (spD K (evOf cU cW) 3 f_law_is) := by
  obtain ⟨f, fd, hF, hm, hb⟩ := T.d_law_is.ex
  have sc := sc_law_is
  refine fnD (k := 0) (body := b_law_is) hF sc hm hb rfl (fun cdv A outer s H E hr => ?_)
  exact (dss_one (ds_ret (de_and (de_isi .tuple (T.b _ (by rfl)) (T.b _ (by rfl)) bt_tuple ((de_var 0)).op) (de_and (de_cmp (os_eq hr.units) ((de_callB (cs_len) (T.b _ (by rfl)) bt_len (do_cons ((de_var 0)).op do_nil))).op ((de_var 2)).op) (de_and (de_isi .str (T.b _ (by rfl)) (T.b _ (by rfl)) bt_str ((de_ix is_ix ((de_var 0)).op (de_int).op)).op) (de_one (de_cmp (os_eq hr.units) ((de_ix is_ix ((de_var 0)).op (de_int).op)).op ((de_var 1)).op)))))))
theorem sc_law_changed : FnScope ["state", "value", "others", "k", "j", "more", "turn"] ["state", "value"] (defScope s_law_changed) := ⟨rfl, rfl, rfl, by decide +kernel, rfl, by decide +kernel, by decide +kernel⟩
theorem ok_law_changed (T : Txt K mg cU cW) : ∀ n, Fnd P w K mg base "_law_changed" (2 + n) (spS K (evOf cU cW) 1 (f_law_changed n))
  | 0 => by
    obtain ⟨f, fd, hF, hm, hb⟩ := T.d_law_changed.ex
    exact fnS (k := 1) (m := 5) (body := fun _ => stuck) hF sc_law_changed hm hb rfl rfl (fun cdv A outer s H E hr => dss_stuck)
  | n + 1 => by
    have ih := ok_law_changed T n
    obtain ⟨f, fd, hF, hm, hb⟩ := T.d_law_changed.ex
    have c_law_next := ok_law_next (P := P) (w := w) (base := base) T
    have sc := sc_law_changed
    refine fnS (k := 2 + n) (body := b_law_changed (f_law_changed n)) hF sc hm hb rfl rfl (fun cdv A outer s H E hr => ?_)
    exact (dss_cons (ds_if (dt_tru ((de_isi .bool (T.b _ (by rfl)) (T.b _ (by rfl)) bt_bool ((de_var 1)).op)).op) (dss_one (ds_ret (de_ix is_ix ((de_lst (da_cons (de_not (de_var 1)) (da_cons (de_callT (cs_int) (T.b _ (by rfl)) bt_int (do_cons ((de_var 1)).op do_nil)) da_nil)))).fop ((de_fnS 0 c_law_next takesD hr (da_cons de_int da_nil) (hk := by omega))).op))) dss_nil)
    (dss_cons (ds_if (dt_w (dw_or (dt_cmp os_is.op ((de_var 1)).op (de_non).op) (dw_or1 (dt_tru ((de_isi .int (T.b _ (by rfl)) (T.b _ (by rfl)) bt_int ((de_var 1)).op)).op)))) (dss_one (ds_ret (de_ix is_ix ((de_lst (da_cons (de_bin os_add ((de_or (de_var 1) (de_one de_int))).op (de_int).op) (da_cons (de_bin os_sub ((de_or (de_var 1) (de_one de_int))).op (de_int).op) (da_cons de_int (da_cons de_non (da_cons (de_cmp (os_eq hr.units) ((de_var 1)).op (de_int).op) (da_cons (de_callT (cs_str) (T.b _ (by rfl)) bt_str (do_cons ((de_var 1)).op do_nil)) (da_cons (de_bin os_mul (de_int).op ((de_or (de_var 1) (de_one de_int))).op) da_nil))))))))).fop ((de_fnS 0 c_law_next takesD hr (da_cons de_int da_nil) (hk := by omega))).op))) dss_nil)
    (dss_cons (ds_if (dt_tru ((de_isi .str (T.b _ (by rfl)) (T.b _ (by rfl)) bt_str ((de_var 1)).op)).op) (dss_cons (ds_set 2 sc.nd ((de_lst (da_cons (de_sl ((de_var 1)).op (dp_at (de_int).op) dp_no) (da_cons (de_bin os_add ((de_var 1)).op (de_str).op) (da_cons (de_rev ((de_var 1)).op) (da_cons (de_bin os_add (de_str).op ((de_var 1)).op) (da_cons de_str (da_cons (de_sl ((de_var 1)).op dp_no (dp_at ((de_un us_neg (de_int).op)).op)) (da_cons de_str (da_cons de_int (da_cons de_str da_nil))))))))))).frz)
    (dss_one (ds_ret (de_ix is_ix ((de_var 2)).op ((de_fnS 0 c_law_next takesD hr (da_cons (de_callB (cs_len) (T.b _ (by rfl)) bt_len (do_cons ((de_var 2)).op do_nil)) da_nil) (hk := by omega))).op)))) dss_nil)
    (dss_cons (ds_if (dt_w (dw_and (dt_tru ((de_isi .tuple (T.b _ (by rfl)) (T.b _ (by rfl)) bt_tuple ((de_var 1)).op)).op) (dw_and (dt_cmp (os_ne hr.units).op ((de_var 1)).op ((de_tup da_nil)).op) (dw_and1 (dt_cmp os_gt.op ((de_fnS 0 c_law_next takesD hr (da_cons de_int da_nil) (hk := by omega))).op (de_int).op))))) (dss_cons (ds_set 3 sc.nd (de_fnS 0 c_law_next takesD hr (da_cons (de_callB (cs_len) (T.b _ (by rfl)) bt_len (do_cons ((de_var 1)).op do_nil)) da_nil) (hk := by omega)))
    (dss_one (ds_ret (de_bin os_add ((de_bin os_add ((de_sl ((de_var 1)).op dp_no (dp_at ((de_var 3)).op))).op ((de_tup (da_cons (de_fnS 0 ih takesD hr (da_cons (de_ix is_ix ((de_var 1)).op ((de_var 3)).op) da_nil) (hk := by omega)) da_nil))).op)).op ((de_sl ((de_var 1)).op (dp_at ((de_bin os_add ((de_var 3)).op (de_int).op)).op) dp_no)).op)))) dss_nil)
    (dss_cons (ds_if (dt_not (dt_tru ((de_isi .tuple (T.b _ (by rfl)) (T.b _ (by rfl)) bt_tuple ((de_var 1)).op)).op)) (dss_one (ds_ret (de_tup da_nil))) dss_nil)
    (dss_cons (ds_set 3 sc.nd (de_fnS 0 c_law_next takesD hr (da_cons (de_bin os_add ((de_callB (cs_len) (T.b _ (by rfl)) bt_len (do_cons ((de_var 1)).op do_nil))).op (de_int).op) da_nil) (hk := by omega)))
    (dss_cons (ds_set 4 sc.nd (de_fnS 0 c_law_next takesD hr (da_cons (de_bin os_add ((de_callB (cs_len) (T.b _ (by rfl)) bt_len (do_cons ((de_var 1)).op do_nil))).op (de_int).op) da_nil) (hk := by omega)))
    (dss_cons (ds_set 5 sc.nd ((de_lst (da_cons (de_bin os_add ((de_sl ((de_var 1)).op dp_no (dp_at ((de_var 3)).op))).op ((de_sl ((de_var 1)).op (dp_at ((de_bin os_add ((de_var 3)).op (de_int).op)).op) dp_no)).op) (da_cons (de_bin os_add ((de_var 1)).op ((de_sl ((de_var 1)).op dp_no (dp_at (de_int).op))).op) (da_cons (de_rev ((de_var 1)).op) (da_cons (de_bin os_add ((de_sl ((de_var 1)).op (dp_at ((de_var 3)).op) dp_no)).op ((de_sl ((de_var 1)).op dp_no (dp_at ((de_var 3)).op))).op) (da_cons ((de_callT (cs_listS rfl) (T.b _ (by rfl)) bt_list (do_cons ((de_var 1)).op do_nil))).frz (da_cons (de_sl ((de_var 1)).op dp_no (dp_at ((de_var 3)).op)) (da_cons (de_tup da_nil) (da_cons (de_bin os_add ((de_var 1)).op ((de_tup (da_cons de_int da_nil))).op) da_nil)))))))))).frz)
    (dss_cons (ds_if (dt_chain os_lt os_lt ((de_var 3)).op ((de_var 4)).op ((de_callB (cs_len) (T.b _ (by rfl)) bt_len (do_cons ((de_var 1)).op do_nil))).op) (dss_one (ds_set 5 sc.nd (de_bin os_add ((de_var 5)).op ((de_lc rfl sc.nd ((di_range1 (T.b _ (by rfl)) (do_cons (de_int).op do_nil))).own (own := [("turn", 6)]) (blkOk_by (N := ["state", "value", "others", "k", "j", "more", "turn"]) (sc := defScope s_law_changed) (by decide +kernel)) (by decide) (fun s H C cl fp => (dg_name 6 sc.nd)) (fun s H C cl fp => dts_nil) (fun s H C cl fp => (de_bin os_add ((de_bin os_add ((de_bin os_add ((de_bin os_add ((de_sl ((de_var 1)).op dp_no (dp_at ((de_var 3)).op))).op ((de_sl ((de_var 1)).op (dp_at ((de_var 4)).op) (dp_at ((de_bin os_add ((de_var 4)).op (de_int).op)).op))).op)).op ((de_sl ((de_var 1)).op (dp_at ((de_bin os_add ((de_var 3)).op (de_int).op)).op) (dp_at ((de_var 4)).op))).op)).op ((de_sl ((de_var 1)).op (dp_at ((de_var 3)).op) (dp_at ((de_bin os_add ((de_var 3)).op (de_int).op)).op))).op)).op ((de_sl ((de_var 1)).op (dp_at ((de_bin os_add ((de_var 4)).op (de_int).op)).op) dp_no)).op)))).fop))) dss_nil)
    (dss_one (ds_ret (de_ix is_ix ((de_var 5)).op ((de_fnS 0 c_law_next takesD hr (da_cons (de_callB (cs_len) (T.b _ (by rfl)) bt_len (do_cons ((de_var 5)).op do_nil)) da_nil) (hk := by omega))).op))))))))))))
theorem sc_law_ints : FnScope ["value", "found", "part", "number"] ["value"] (defScope s_law_ints) := ⟨rfl, rfl, rfl, by decide +kernel, rfl, by decide +kernel, by decide +kernel⟩
theorem ok_law_ints (T : Txt K mg cU cW) : ∀ n, Fnd P w K mg base "_law_ints" (1 + n) (spD K (evOf cU cW) 1 (f_law_ints n))
  | 0 => by
    obtain ⟨f, fd, hF, hm, hb⟩ := T.d_law_ints.ex
    exact fnD (k := 0) (m := 3) (body := fun _ => stuck) hF sc_law_ints hm hb rfl (fun cdv A outer s H E hr => dss_stuck)
  | n + 1 => by
    have ih := ok_law_ints T n
    obtain ⟨f, fd, hF, hm, hb⟩ := T.d_law_ints.ex
    have sc := sc_law_ints
    refine fnD (k := 1 + n) (body := b_law_ints (f_law_ints n)) hF sc hm hb rfl (fun cdv A outer s H E hr => ?_)
    exact (dss_cons (ds_if (dt_w (dw_or (dt_tru ((de_isi .bool (T.b _ (by rfl)) (T.b _ (by rfl)) bt_bool ((de_var 0)).op)).op) (dw_or1 (dt_not (dt_tru ((de_isi2 .int .tuple (T.b _ (by rfl)) (T.b _ (by rfl)) (T.b _ (by rfl)) bt_int bt_tuple ((de_var 0)).op)).op))))) (dss_one (ds_ret ((de_lst da_nil)).frz)) dss_nil)
    (dss_cons (ds_if (dt_tru ((de_isi .int (T.b _ (by rfl)) (T.b _ (by rfl)) bt_int ((de_var 0)).op)).op) (dss_one (ds_ret ((de_lst (da_cons (de_var 0) da_nil))).frz)) dss_nil)
    (dss_cons (ds_set 1 sc.nd ((de_lst da_nil)).frz)
    (dss_cons (ds_for passD rfl (di_any (de_var 0)) (dg_name 2 sc.nd) (dss_one (ds_set 1 sc.nd (de_bin os_add ((de_var 1)).op ((de_lc rfl sc.nd ((di_any (de_fn ih takesD hr (da_cons (de_var 2) da_nil) (hk := by omega)))).own (own := [("number", 3)]) (blkOk_by (N := ["value", "found", "part", "number"]) (sc := defScope s_law_ints) (by decide +kernel)) (by decide) (fun s H C cl fp => (dg_name 3 sc.nd)) (fun s H C cl fp => (dts_one (dt_cmp (os_notIn (room65 hr)).op ((de_var 3)).op ((de_var 1)).op))) (fun s H C cl fp => (de_var 3)))).fop))))
    (dss_one (ds_ret (de_var 1)))))))
theorem sc_law_exchanged : FnScope ["value", "one", "other", "part"] ["value", "one", "other"] (defScope s_law_exchanged) := ⟨rfl, rfl, rfl, by decide +kernel, rfl, by decide +kernel, by decide +kernel⟩
theorem ok_law_exchanged (T : Txt K mg cU cW) : ∀ n, Fnd P w K mg base "_law_exchanged" (1 + n) (spD K (evOf cU cW) 3 (f_law_exchanged n))
  | 0 => by
    obtain ⟨f, fd, hF, hm, hb⟩ := T.d_law_exchanged.ex
    exact fnD (k := 0) (m := 1) (body := fun _ => stuck) hF sc_law_exchanged hm hb rfl (fun cdv A outer s H E hr => dss_stuck)
  | n + 1 => by
    have ih := ok_law_exchanged T n
    obtain ⟨f, fd, hF, hm, hb⟩ := T.d_law_exchanged.ex
    have sc := sc_law_exchanged
    refine fnD (k := 1 + n) (body := b_law_exchanged (f_law_exchanged n)) hF sc hm hb rfl (fun cdv A outer s H E hr => ?_)
    exact (dss_cons (ds_if (dt_w (dw_or (dt_tru ((de_isi .bool (T.b _ (by rfl)) (T.b _ (by rfl)) bt_bool ((de_var 0)).op)).op) (dw_or1 (dt_not (dt_tru ((de_isi2 .int .tuple (T.b _ (by rfl)) (T.b _ (by rfl)) (T.b _ (by rfl)) bt_int bt_tuple ((de_var 0)).op)).op))))) (dss_one (ds_ret (de_var 0))) dss_nil)
    (dss_cons (ds_if (dt_tru ((de_isi .int (T.b _ (by rfl)) (T.b _ (by rfl)) bt_int ((de_var 0)).op)).op) (dss_one (ds_ret (de_if (dt_cmp (os_eq hr.units).op ((de_var 0)).op ((de_var 1)).op) (de_var 2) (de_if (dt_cmp (os_eq hr.units).op ((de_var 0)).op ((de_var 2)).op) (de_var 1) (de_var 0))))) dss_nil)
    (dss_one (ds_ret (de_callT (cs_tupleS rfl) (T.b _ (by rfl)) bt_tuple (do_cons ((de_lc rfl sc.nd ((di_any (de_var 0))).own (own := [("part", 3)]) (blkOk_by (N := ["value", "one", "other", "part"]) (sc := defScope s_law_exchanged) (by decide +kernel)) (by decide) (fun s H C cl fp => (dg_name 3 sc.nd)) (fun s H C cl fp => dts_nil) (fun s H C cl fp => (de_fn ih takes0 hr (da_cons (de_var 3) (da_cons (de_var 1) (da_cons (de_var 2) da_nil))) (hk := by omega))))).fop do_nil))))))
theorem sc_law_cut : FnScope ["state", "value", "k", "at", "ways", "part"] ["state", "value"] (defScope s_law_cut) := ⟨rfl, rfl, rfl, by decide +kernel, rfl, by decide +kernel, by decide +kernel⟩
theorem ok_law_cut (T : Txt K mg cU cW) : ∀ n, Fnd P w K mg base "_law_cut" (2 + n) (spS K (evOf cU cW) 1 (f_law_cut n))
  | 0 => by
    obtain ⟨f, fd, hF, hm, hb⟩ := T.d_law_cut.ex
    exact fnS (k := 1) (m := 4) (body := fun _ => stuck) hF sc_law_cut hm hb rfl rfl (fun cdv A outer s H E hr => dss_stuck)
  | n + 1 => by
    have ih := ok_law_cut T n
    obtain ⟨f, fd, hF, hm, hb⟩ := T.d_law_cut.ex
    have c_law_next := ok_law_next (P := P) (w := w) (base := base) T
    have sc := sc_law_cut
    refine fnS (k := 2 + n) (body := b_law_cut (f_law_cut n)) hF sc hm hb rfl rfl (fun cdv A outer s H E hr => ?_)
    exact (dss_cons (ds_if (dt_w (dw_or (dt_not (dt_tru ((de_isi .tuple (T.b _ (by rfl)) (T.b _ (by rfl)) bt_tuple ((de_var 1)).op)).op)) (dw_or1 (dt_cmp (os_eq hr.units).op ((de_var 1)).op ((de_tup da_nil)).op)))) (dss_one (ds_ret (de_var 1))) dss_nil)
    (dss_cons (ds_if (dt_cmp (os_ne hr.units).op ((de_lc rfl sc.nd ((di_any (de_var 1))).own (own := [("part", 5)]) (blkOk_by (N := ["state", "value", "k", "at", "ways", "part"]) (sc := defScope s_law_cut) (by decide +kernel)) (by decide) (fun s H C cl fp => (dg_name 5 sc.nd)) (fun s H C cl fp => (dts_one (dt_not (dt_tru ((de_isi .str (T.b _ (by rfl)) (T.b _ (by rfl)) bt_str ((de_var 5)).op)).op)))) (fun s H C cl fp => (de_var 5)))).fop ((de_lst da_nil)).fop) (dss_cons (ds_set 2 sc.nd (de_fnS 0 c_law_next takesD hr (da_cons (de_callB (cs_len) (T.b _ (by rfl)) bt_len (do_cons ((de_var 1)).op do_nil)) da_nil) (hk := by omega)))
    (dss_one (ds_ret (de_bin os_add ((de_bin os_add ((de_sl ((de_var 1)).op dp_no (dp_at ((de_var 2)).op))).op ((de_tup (da_cons (de_fnS 0 ih takesD hr (da_cons (de_ix is_ix ((de_var 1)).op ((de_var 2)).op) da_nil) (hk := by omega)) da_nil))).op)).op ((de_sl ((de_var 1)).op (dp_at ((de_bin os_add ((de_var 2)).op (de_int).op)).op) dp_no)).op)))) dss_nil)
    (dss_cons (ds_set 2 sc.nd (de_fnS 0 c_law_next takesD hr (da_cons (de_callB (cs_len) (T.b _ (by rfl)) bt_len (do_cons ((de_var 1)).op do_nil)) da_nil) (hk := by omega)))
    (dss_cons (ds_set 3 sc.nd (de_fnS 0 c_law_next takesD hr (da_cons (de_bin os_add ((de_callB (cs_len) (T.b _ (by rfl)) bt_len (do_cons ((de_ix is_ix ((de_var 1)).op ((de_var 2)).op)).op do_nil))).op (de_int).op) da_nil) (hk := by omega)))
    (dss_cons (ds_set 4 sc.nd ((de_lst (da_cons (de_bin os_add ((de_bin os_add ((de_sl ((de_var 1)).op dp_no (dp_at ((de_var 2)).op))).op ((de_tup (da_cons (de_sl ((de_ix is_ix ((de_var 1)).op ((de_var 2)).op)).op dp_no (dp_at ((de_var 3)).op)) (da_cons (de_sl ((de_ix is_ix ((de_var 1)).op ((de_var 2)).op)).op (dp_at ((de_var 3)).op) dp_no) da_nil)))).op)).op ((de_sl ((de_var 1)).op (dp_at ((de_bin os_add ((de_var 2)).op (de_int).op)).op) dp_no)).op) (da_cons (de_bin os_add ((de_bin os_add ((de_sl ((de_var 1)).op dp_no (dp_at ((de_var 2)).op))).op ((de_tup (da_cons (de_mt PySem.F.plainAttrs_str PySem.F.slot_str_join PySem.F.type_str_join ms_join (de_str).op (do_cons ((de_sl ((de_var 1)).op (dp_at ((de_var 2)).op) (dp_at ((de_bin os_add ((de_var 2)).op (de_int).op)).op))).op do_nil)) da_nil))).op)).op ((de_sl ((de_var 1)).op (dp_at ((de_bin os_add ((de_var 2)).op (de_int).op)).op) dp_no)).op) da_nil)))).frz)
    (dss_cons (ds_set 4 sc.nd (de_bin os_add ((de_var 4)).op ((de_lst (da_cons (de_tup (da_cons (de_mt PySem.F.plainAttrs_str PySem.F.slot_str_join PySem.F.type_str_join ms_join (de_str).op (do_cons ((de_var 1)).op do_nil)) da_nil)) (da_cons (de_callT (cs_tupleS rfl) (T.b _ (by rfl)) bt_tuple (do_cons ((de_mt PySem.F.plainAttrs_str PySem.F.slot_str_join PySem.F.type_str_join ms_join (de_str).op (do_cons ((de_var 1)).op do_nil))).op do_nil)) (da_cons (de_bin os_add ((de_bin os_add ((de_sl ((de_var 1)).op dp_no (dp_at ((de_var 2)).op))).op ((de_tup (da_cons de_str da_nil))).op)).op ((de_sl ((de_var 1)).op (dp_at ((de_var 2)).op) dp_no)).op) (da_cons (de_bin os_add ((de_bin os_add ((de_sl ((de_var 1)).op dp_no (dp_at ((de_var 2)).op))).op ((de_rev ((de_sl ((de_var 1)).op (dp_at ((de_var 2)).op) (dp_at ((de_bin os_add ((de_var 2)).op (de_int).op)).op))).op)).op)).op ((de_sl ((de_var 1)).op (dp_at ((de_bin os_add ((de_var 2)).op (de_int).op)).op) dp_no)).op) da_nil)))))).fop))
    (dss_one (ds_ret (de_ix is_ix ((de_var 4)).op ((de_fnS 0 c_law_next takesD hr (da_cons (de_callB (cs_len) (T.b _ (by rfl)) bt_len (do_cons ((de_var 4)).op do_nil)) da_nil) (hk := by omega))).op)))))))))
theorem sc_law_turned_about : FnScope ["state", "told", "numbers", "pick", "one", "other", "k", "j", "part"] ["state", "told"] (defScope s_law_turned_about) := ⟨rfl, rfl, rfl, by decide +kernel, rfl, by decide +kernel, by decide +kernel⟩
theorem ok_law_turned_about (T : Txt K mg cU cW) : Fnd P w K mg base "_law_turned_about" 15 (spS K (evOf cU cW) 1 f_law_turned_about) := by
  obtain ⟨f, fd, hF, hm, hb⟩ := T.d_law_turned_about.ex
  have c_law_ints := ok_law_ints (P := P) (w := w) (base := base) T 12
  have c_law_next := ok_law_next (P := P) (w := w) (base := base) T
  have c_law_exchanged := ok_law_exchanged (P := P) (w := w) (base := base) T 12
  have c_law_cut := ok_law_cut (P := P) (w := w) (base := base) T 12
  have sc := sc_law_turned_about
  refine fnS (k := 14) (body := b_law_turned_about) hF sc hm hb rfl rfl (fun cdv A outer s H E hr => ?_)
  exact (dss_cons (ds_set 2 sc.nd (de_fn c_law_ints takesD hr (da_cons (de_var 1) da_nil) ))
    (dss_cons (ds_set 3 sc.nd (de_fnS 0 c_law_next takesD hr (da_cons de_int da_nil) ))
    (dss_cons (ds_if (dt_w (dw_and (dt_cmp os_lt.op ((de_var 3)).op (de_int).op) (dw_and1 (dt_cmp (os_ne hr.units).op ((de_var 2)).op ((de_lst da_nil)).fop)))) (dss_cons (ds_set 4 sc.nd (de_ix is_ix ((de_var 2)).op ((de_fnS 0 c_law_next takesD hr (da_cons (de_callB (cs_len) (T.b _ (by rfl)) bt_len (do_cons ((de_var 2)).op do_nil)) da_nil) )).op))
    (dss_cons (ds_set 5 sc.nd (de_if (dt_cmp (os_eq hr.units).op ((de_var 3)).op (de_int).op) (de_bin os_add ((de_var 4)).op (de_int).op) (de_ix is_ix ((de_var 2)).op ((de_fnS 0 c_law_next takesD hr (da_cons (de_callB (cs_len) (T.b _ (by rfl)) bt_len (do_cons ((de_var 2)).op do_nil)) da_nil) )).op)))
    (dss_one (ds_ret (de_fn c_law_exchanged takesD hr (da_cons (de_var 1) (da_cons (de_var 4) (da_cons (de_var 5) da_nil))) ))))) dss_nil)
    (dss_cons (ds_if (dt_cmp (os_eq hr.units).op ((de_var 3)).op (de_int).op) (dss_one (ds_ret (de_bin os_add ((de_sl ((de_var 1)).op dp_no (dp_at (de_int).op))).op (de_if (dt_cmp os_gt.op ((de_callB (cs_len) (T.b _ (by rfl)) bt_len (do_cons ((de_var 1)).op do_nil))).op (de_int).op) ((de_fnS 0 c_law_cut takesD hr (da_cons (de_sl ((de_var 1)).op (dp_at (de_int).op) dp_no) da_nil) )).op ((de_callT (cs_tupleS rfl) (T.b _ (by rfl)) bt_tuple (do_cons ((de_lc rfl sc.nd ((di_any (de_sl ((de_var 1)).op (dp_at (de_int).op) dp_no))).own (own := [("part", 8)]) (blkOk_by (N := ["state", "told", "numbers", "pick", "one", "other", "k", "j", "part"]) (sc := defScope s_law_turned_about) (by decide +kernel)) (by decide) (fun s H C cl fp => (dg_name 8 sc.nd)) (fun s H C cl fp => dts_nil) (fun s H C cl fp => (de_fnS 0 c_law_cut takes0 hr (da_cons (de_var 8) da_nil) )))).fop do_nil))).op)))) dss_nil)
    (dss_cons (ds_par 6 7 rfl sc.nd (da_cons (de_fnS 0 c_law_next takesD hr (da_cons (de_callB (cs_len) (T.b _ (by rfl)) bt_len (do_cons ((de_var 1)).op do_nil)) da_nil) ) (da_cons (de_fnS 0 c_law_next takesD hr (da_cons (de_callB (cs_len) (T.b _ (by rfl)) bt_len (do_cons ((de_var 1)).op do_nil)) da_nil) ) da_nil)))
    (dss_cons (ds_if (dt_w (dw_and (dt_cmp (os_eq hr.units).op ((de_callB (cs_len) (T.b _ (by rfl)) bt_len (do_cons ((de_var 1)).op do_nil))).op (de_int).op) (dw_and (dt_tru ((de_isi .tuple (T.b _ (by rfl)) (T.b _ (by rfl)) bt_tuple ((de_ix is_ix ((de_var 1)).op (de_int).op)).op)).op) (dw_and1 (dt_cmp (os_ne hr.units).op ((de_ix is_ix ((de_var 1)).op (de_int).op)).op ((de_tup da_nil)).op))))) (dss_cons (ds_par 6 7 rfl sc.nd (da_cons (de_fnS 0 c_law_next takesD hr (da_cons (de_callB (cs_len) (T.b _ (by rfl)) bt_len (do_cons ((de_ix is_ix ((de_var 1)).op (de_int).op)).op do_nil)) da_nil) ) (da_cons (de_fnS 0 c_law_next takesD hr (da_cons (de_callB (cs_len) (T.b _ (by rfl)) bt_len (do_cons ((de_ix is_ix ((de_var 1)).op (de_int).op)).op do_nil)) da_nil) ) da_nil)))
    (dss_one (ds_ret (de_tup (da_cons (de_ix is_ix ((de_var 1)).op (de_int).op) (da_cons (de_bin os_add ((de_bin os_add ((de_sl ((de_ix is_ix ((de_var 1)).op (de_int).op)).op dp_no (dp_at ((de_var 6)).op))).op ((de_sl ((de_ix is_ix ((de_var 1)).op (de_int).op)).op (dp_at ((de_var 7)).op) (dp_at ((de_bin os_add ((de_var 7)).op (de_int).op)).op))).op)).op ((de_sl ((de_ix is_ix ((de_var 1)).op (de_int).op)).op (dp_at ((de_bin os_add ((de_var 6)).op (de_int).op)).op) dp_no)).op) da_nil)))))) dss_nil)
    (dss_one (ds_ret (de_if (dt_w (dw_and (dt_cmp os_gt.op ((de_var 6)).op (de_int).op) (dw_and1 (dt_cmp os_gt.op ((de_var 7)).op (de_int).op)))) (de_bin os_add ((de_bin os_add ((de_sl ((de_var 1)).op dp_no (dp_at ((de_var 6)).op))).op ((de_sl ((de_var 1)).op (dp_at ((de_var 7)).op) (dp_at ((de_bin os_add ((de_var 7)).op (de_int).op)).op))).op)).op ((de_sl ((de_var 1)).op (dp_at ((de_bin os_add ((de_var 6)).op (de_int).op)).op) dp_no)).op) (de_var 1))))))))))
theorem sc_law_odd : FnScope ["state", "told", "odd", "pick"] ["state", "told"] (defScope s_law_odd) := ⟨rfl, rfl, rfl, by decide +kernel, rfl, by decide +kernel, by decide +kernel⟩
theorem ok_law_odd (T : Txt K mg cU cW) : Fnd P w K mg base "_law_odd" 16 (spS K (evOf cU cW) 1 f_law_odd) := by
  obtain ⟨f, fd, hF, hm, hb⟩ := T.d_law_odd.ex
  have c_law_next := ok_law_next (P := P) (w := w) (base := base) T
  have c_law_turned_about := ok_law_turned_about (P := P) (w := w) (base := base) T
  have c_law_changed := ok_law_changed (P := P) (w := w) (base := base) T 12
  have sc := sc_law_odd
  refine fnS (k := 15) (body := b_law_odd) hF sc hm hb rfl rfl (fun cdv A outer s H E hr => ?_)
  exact (dss_cons (ds_set 2 sc.nd ((de_lst (da_cons de_non (da_cons de_str (da_cons de_str (da_cons de_dict (da_cons (de_tup da_nil) (da_cons (de_sl ((de_var 1)).op dp_no (dp_at (de_int).op)) (da_cons ((de_callT (cs_listS rfl) (T.b _ (by rfl)) bt_list (do_cons ((de_var 1)).op do_nil))).frz (da_cons (de_bin os_add ((de_var 1)).op ((de_tup (da_cons de_int da_nil))).op) (da_cons (de_bin os_add ((de_tup (da_cons ((de_lst (da_cons (de_ix is_ix ((de_var 1)).op (de_int).op) da_nil))).frz da_nil))).op ((de_sl ((de_var 1)).op (dp_at (de_int).op) dp_no)).op) (da_cons (de_bin os_add ((de_tup (da_cons de_str da_nil))).op ((de_sl ((de_var 1)).op (dp_at (de_int).op) dp_no)).op) (da_cons de_int da_nil))))))))))))).frz)
    (dss_cons (ds_set 3 sc.nd (de_fnS 0 c_law_next takesD hr (da_cons de_int da_nil) ))
    (dss_cons (ds_if (dt_cmp os_gt.op ((de_var 3)).op (de_int).op) (dss_one (ds_ret (de_fnS 0 c_law_turned_about takesD hr (da_cons (de_var 1) da_nil) ))) dss_nil)
    (dss_one (ds_ret (de_if (dt_cmp (os_eq hr.units).op ((de_var 3)).op (de_int).op) (de_ix is_ix ((de_var 2)).op ((de_fnS 0 c_law_next takesD hr (da_cons (de_callB (cs_len) (T.b _ (by rfl)) bt_len (do_cons ((de_var 2)).op do_nil)) da_nil) )).op) (de_fnS 0 c_law_changed takesD hr (da_cons (de_var 1) da_nil) )))))))
theorem sc_law_is_text : FnScope ["value"] ["value"] (defScope s_law_is_text) := ⟨rfl, rfl, rfl, by decide +kernel, rfl, by decide +kernel, by decide +kernel⟩
theorem ok_law_is_text (T : Txt K mg cU cW) : Fnd P w K mg base "_law_is_text" 1 (spD K (evOf cU cW) 1 f_law_is_text) := by
  obtain ⟨f, fd, hF, hm, hb⟩ := T.d_law_is_text.ex
  have sc := sc_law_is_text
  refine fnD (k := 0) (body := b_law_is_text) hF sc hm hb rfl (fun cdv A outer s H E hr => ?_)
  exact (dss_one (ds_ret (de_isi .str (T.b _ (by rfl)) (T.b _ (by rfl)) bt_str ((de_var 0)).op)))
theorem sc_law_neighbour : FnScope ["state", "value", "k"] ["state", "value"] (defScope s_law_neighbour) := ⟨rfl, rfl, rfl, by decide +kernel, rfl, by decide +kernel, by decide +kernel⟩
theorem ok_law_neighbour (T : Txt K mg cU cW) : ∀ n, Fnd P w K mg base "_law_neighbour" (2 + n) (spS K (evOf cU cW) 1 (f_law_neighbour n))
  | 0 => by
    obtain ⟨f, fd, hF, hm, hb⟩ := T.d_law_neighbour.ex
    exact fnS (k := 1) (m := 1) (body := fun _ => stuck) hF sc_law_neighbour hm hb rfl rfl (fun cdv A outer s H E hr => dss_stuck)
  | n + 1 => by
    have ih := ok_law_neighbour T n
    obtain ⟨f, fd, hF, hm, hb⟩ := T.d_law_neighbour.ex
    have c_law_next := ok_law_next (P := P) (w := w) (base := base) T
    have sc := sc_law_neighbour
    refine fnS (k := 2 + n) (body := b_law_neighbour (f_law_neighbour n)) hF sc hm hb rfl rfl (fun cdv A outer s H E hr => ?_)
    exact (dss_cons (ds_if (dt_tru ((de_isi .str (T.b _ (by rfl)) (T.b _ (by rfl)) bt_str ((de_var 1)).op)).op) (dss_cons (ds_set 2 sc.nd (de_fnS 0 c_law_next takesD hr (da_cons (de_bin os_add ((de_callB (cs_len) (T.b _ (by rfl)) bt_len (do_cons ((de_var 1)).op do_nil))).op (de_int).op) da_nil) (hk := by omega)))
    (dss_one (ds_ret (de_bin os_add ((de_bin os_add ((de_sl ((de_var 1)).op dp_no (dp_at ((de_var 2)).op))).op ((de_ix is_ix ((de_lst (da_cons de_str (da_cons de_str (da_cons de_str da_nil))))).fop ((de_fnS 0 c_law_next takesD hr (da_cons de_int da_nil) (hk := by omega))).op)).op)).op ((de_sl ((de_var 1)).op (dp_at ((de_bin os_add ((de_var 2)).op (de_int).op)).op) dp_no)).op)))) dss_nil)
    (dss_cons (ds_if (dt_tru ((de_isi .int (T.b _ (by rfl)) (T.b _ (by rfl)) bt_int ((de_var 1)).op)).op) (dss_one (ds_ret (de_bin os_add ((de_var 1)).op ((de_ix is_ix ((de_lst (da_cons de_int (da_cons (de_un us_neg (de_int).op) da_nil)))).fop ((de_fnS 0 c_law_next takesD hr (da_cons de_int da_nil) (hk := by omega))).op)).op))) dss_nil)
    (dss_cons (ds_if (dt_cmp (os_eq hr.units).op ((de_var 1)).op ((de_tup da_nil)).op) (dss_one (ds_ret (de_var 1))) dss_nil)
    (dss_cons (ds_set 2 sc.nd (de_fnS 0 c_law_next takesD hr (da_cons (de_callB (cs_len) (T.b _ (by rfl)) bt_len (do_cons ((de_var 1)).op do_nil)) da_nil) (hk := by omega)))
    (dss_cons (ds_if (dt_w (dw_or (dt_tru ((de_isi .tuple (T.b _ (by rfl)) (T.b _ (by rfl)) bt_tuple ((de_ix is_ix ((de_var 1)).op ((de_var 2)).op)).op)).op) (dw_or1 (dt_w (dw_and (dt_cmp (os_eq hr.units).op ((de_fnS 0 c_law_next takesD hr (da_cons de_int da_nil) (hk := by omega))).op (de_int).op) (dw_and1 (dt_cmp os_gt.op ((de_callB (cs_len) (T.b _ (by rfl)) bt_len (do_cons ((de_var 1)).op do_nil))).op (de_int).op))))))) (dss_one (ds_ret (de_bin os_add ((de_sl ((de_var 1)).op dp_no (dp_at ((de_var 2)).op))).op ((de_sl ((de_var 1)).op (dp_at ((de_bin os_add ((de_var 2)).op (de_int).op)).op) dp_no)).op))) dss_nil)
    (dss_one (ds_ret (de_bin os_add ((de_bin os_add ((de_sl ((de_var 1)).op dp_no (dp_at ((de_var 2)).op))).op ((de_tup (da_cons (de_fnS 0 ih takesD hr (da_cons (de_ix is_ix ((de_var 1)).op ((de_var 2)).op) da_nil) (hk := by omega)) da_nil))).op)).op ((de_sl ((de_var 1)).op (dp_at ((de_bin os_add ((de_var 2)).op (de_int).op)).op) dp_no)).op))))))))
theorem sc_law_accepts : FnScope ["number", "told", "total", "one", "two", "sign"] ["number", "told"] (defScope s_law_accepts) := ⟨rfl, rfl, rfl, by decide +kernel, rfl, by decide +kernel, by decide +kernel⟩
theorem ok_law_accepts (T : Txt K mg cU cW) : Fnd P w K mg base "_law_accepts" 2 (spD K (evOf cU cW) 2 f_law_accepts) := by
  obtain ⟨f, fd, hF, hm, hb⟩ := T.d_law_accepts.ex
  have c_law_is := ok_law_is (P := P) (w := w) (base := base) T
  have c_law_is_text := ok_law_is_text (P := P) (w := w) (base := base) T
  have sc := sc_law_accepts
  refine fnD (k := 1) (body := b_law_accepts) hF sc hm hb rfl (fun cdv A outer s H E hr => ?_)
  exact (dss_cons (ds_if (dt_w (dw_or (dt_not (dt_tru ((de_fn c_law_is takesD hr (da_cons (de_var 1) (da_cons de_str (da_cons de_int da_nil))) )).op)) (dw_or (dt_not (dt_tru ((de_fn c_law_is_text takesD hr (da_cons (de_ix is_ix ((de_var 1)).op (de_int).op) da_nil) )).op)) (dw_or (dt_cmp os_gt.op ((de_callB (cs_len) (T.b _ (by rfl)) bt_len (do_cons ((de_ix is_ix ((de_var 1)).op (de_int).op)).op do_nil))).op (de_int).op) (dw_or1 (dt_cmp (os_ne hr.units).op ((de_lc rfl sc.nd ((di_any (de_ix is_ix ((de_var 1)).op (de_int).op))).own (own := [("sign", 5)]) (blkOk_by (N := ["number", "told", "total", "one", "two", "sign"]) (sc := defScope s_law_accepts) (by decide +kernel)) (by decide) (fun s H C cl fp => (dg_name 5 sc.nd)) (fun s H C cl fp => (dts_one (dt_cmp (os_notIn (room65 hr)).op ((de_var 5)).op (de_str).op))) (fun s H C cl fp => (de_var 5)))).fop ((de_lst da_nil)).fop)))))) (dss_one (ds_ret de_bl)) dss_nil)
    (dss_cons (ds_if (dt_w (dw_or (dt_cmp (os_in (room65 hr)).op (de_str).op ((de_ix is_ix ((de_var 1)).op (de_int).op)).op) (dw_or1 (dt_cmp (os_eq hr.units).op ((de_sl ((de_ix is_ix ((de_var 1)).op (de_int).op)).op dp_no (dp_at (de_int).op))).op (de_str).op)))) (dss_one (ds_ret de_bl)) dss_nil)
    (dss_cons (ds_asg (de_tup (da_cons de_int (da_cons de_int (da_cons de_int da_nil)))) (dg_tup rfl (dgs_cons (dg_name 2 sc.nd) (dgs_cons (dg_name 3 sc.nd) (dgs_cons (dg_name 4 sc.nd) dgs_nil)))))
    (dss_cons (ds_for passD rfl (di_any (de_rev ((de_ix is_ix ((de_var 1)).op (de_int).op)).op)) (dg_name 5 sc.nd) (dss_cons (ds_set 2 sc.nd (de_bin os_add ((de_var 2)).op (de_if (dt_cmp (os_eq hr.units).op ((de_var 5)).op (de_str).op) ((de_var 3)).op (de_int).op)))
    (dss_one (ds_par 3 4 rfl sc.nd (da_cons (de_var 4) (da_cons (de_bin os_add ((de_var 3)).op ((de_var 4)).op) da_nil))))))
    (dss_one (ds_ret (de_cmp (os_eq hr.units) ((de_var 2)).op ((de_var 0)).op)))))))
theorem sc_law_told_near : FnScope ["state", "number", "things", "pick", "error"] ["state", "number"] (defScope s_law_told_near) := ⟨rfl, rfl, rfl, by decide +kernel, rfl, by decide +kernel, by decide +kernel⟩
theorem ok_law_told_near (T : Txt K mg cU cW) : Fnd P w K mg base "_law_told_near" 15 (spS K (evOf cU cW) 1 f_law_told_near) := by
  obtain ⟨f, fd, hF, hm, hb⟩ := T.d_law_told_near.ex
  have c_law_next := ok_law_next (P := P) (w := w) (base := base) T
  have c_law_neighbour := ok_law_neighbour (P := P) (w := w) (base := base) T 12
  have c_in_steps := ok_in_steps (P := P) (w := w) (base := base) T
  have sc := sc_law_told_near
  refine fnS (k := 14) (body := b_law_told_near) hF sc hm hb rfl rfl (fun cdv A outer s H E hr => ?_)
  exact (dss_cons (ds_own 2 sc.nd (de_lst (da_cons (de_var 1) da_nil)))
    (dss_cons (ds_set 3 sc.nd (de_fnS 0 c_law_next takesD hr (da_cons de_int da_nil) ))
    (dss_cons (ds_put 2 (de_fnS 0 c_law_neighbour takesD hr (da_cons (de_ix is_ix (de_own 2) ((de_var 3)).op) da_nil) ) (de_var 3))
    (dss_one (ds_tryA (i := 4) T.exs rfl rfl sc.nd takesD (T.b _ (by rfl)) (T.b _ (by rfl)) (fun W pn xe tk => (dqs_one (dq_ret (de_fn c_in_steps tk hr (da_cons (de_ix is_ix (de_own 2) (de_int).op) da_nil) )))))))))
theorem sc_law_unfit : FnScope ["number", "judged", "error"] ["number"] (defScope s_law_unfit) := ⟨rfl, rfl, rfl, by decide +kernel, rfl, by decide +kernel, by decide +kernel⟩
theorem ok_law_unfit (T : Txt K mg cU cW) : Fnd P w K mg base "_law_unfit" 3 (spD K (evOf cU cW) 1 f_law_unfit) := by
  obtain ⟨f, fd, hF, hm, hb⟩ := T.d_law_unfit.ex
  have c_judge_in_steps := ok_judge_in_steps (P := P) (w := w) (base := base) T
  have c_in_steps := ok_in_steps (P := P) (w := w) (base := base) T
  have sc := sc_law_unfit
  refine fnD (k := 2) (body := b_law_unfit) hF sc hm hb rfl (fun cdv A outer s H E hr => ?_)
  exact (dss_cons (ds_for passD rfl (di_any ((de_lst (da_cons de_bl (da_cons de_bl da_nil)))).frz) (dg_name 1 sc.nd) (dss_one (ds_tryB (i := 2) T.exs rfl rfl sc.nd takesD (T.b _ (by rfl)) (T.b _ (by rfl)) (fun W pn xe tk => (dqs_cons (dq_if (dt_tru ((de_var 1)).op) (dqs_one (dq_expr (de_fn c_judge_in_steps tk hr (da_cons (de_var 0) (da_cons de_non da_nil)) ))) (dqs_one (dq_expr (de_fn c_in_steps tk hr (da_cons (de_var 0) da_nil) )))) (dqs_one (dq_ret de_bl)))))))
    (dss_one (ds_ret de_bl)))
theorem sc_law_accepts_too : FnScope ["number", "told", "total", "part", "k", "value"] ["number", "told"] (defScope s_law_accepts_too) := ⟨rfl, rfl, rfl, by decide +kernel, rfl, by decide +kernel, by decide +kernel⟩
theorem ok_law_accepts_too (T : Txt K mg cU cW) : Fnd P w K mg base "_law_accepts_too" 3 (spD K (evOf cU cW) 2 f_law_accepts_too) := by
  obtain ⟨f, fd, hF, hm, hb⟩ := T.d_law_accepts_too.ex
  have c_law_is := ok_law_is (P := P) (w := w) (base := base) T
  have c_law_are_wholes := ok_law_are_wholes (P := P) (w := w) (base := base) T
  have sc := sc_law_accepts_too
  refine fnD (k := 2) (body := b_law_accepts_too) hF sc hm hb rfl (fun cdv A outer s H E hr => ?_)
  exact (dss_cons (ds_if (dt_w (dw_or (dt_not (dt_tru ((de_fn c_law_is takesD hr (da_cons (de_var 1) (da_cons de_str (da_cons de_int da_nil))) )).op)) (dw_or (dt_not (dt_tru ((de_isi .tuple (T.b _ (by rfl)) (T.b _ (by rfl)) bt_tuple ((de_ix is_ix ((de_var 1)).op (de_int).op)).op)).op)) (dw_or (dt_not (dt_tru ((de_fn c_law_are_wholes takesD hr (da_cons (de_ix is_ix ((de_var 1)).op (de_int).op) (da_cons (de_callB (cs_len) (T.b _ (by rfl)) bt_len (do_cons ((de_ix is_ix ((de_var 1)).op (de_int).op)).op do_nil)) da_nil)) )).op)) (dw_or (dt_cmp os_gt.op ((de_callB (cs_len) (T.b _ (by rfl)) bt_len (do_cons ((de_ix is_ix ((de_var 1)).op (de_int).op)).op do_nil))).op (de_int).op) (dw_or1 (dt_cmp (os_eq hr.units).op ((de_sl ((de_ix is_ix ((de_var 1)).op (de_int).op)).op dp_no (dp_at (de_int).op))).op ((de_tup (da_cons de_int da_nil))).op))))))) (dss_one (ds_ret de_bl)) dss_nil)
    (dss_cons (ds_asg (de_tup (da_cons de_int (da_cons de_int da_nil))) (dg_tup rfl (dgs_cons (dg_name 2 sc.nd) (dgs_cons (dg_name 3 sc.nd) dgs_nil))))
    (dss_cons (ds_for passD rfl (di_range1 (T.b _ (by rfl)) (do_cons ((de_callB (cs_len) (T.b _ (by rfl)) bt_len (do_cons ((de_ix is_ix ((de_var 1)).op (de_int).op)).op do_nil))).op do_nil)) (dg_name 4 sc.nd) (dss_cons (ds_set 5 sc.nd (de_ix is_ix ((de_ix is_ix ((de_var 1)).op (de_int).op)).op ((de_bin os_sub ((de_bin os_sub ((de_callB (cs_len) (T.b _ (by rfl)) bt_len (do_cons ((de_ix is_ix ((de_var 1)).op (de_int).op)).op do_nil))).op (de_int).op)).op ((de_var 4)).op)).op))
    (dss_cons (ds_set 3 sc.nd (de_bin os_mul ((de_var 3)).op ((de_bin os_add ((de_var 4)).op (de_int).op)).op))
    (dss_cons (ds_if (dt_not (dt_chain os_le os_le (de_int).op ((de_var 5)).op ((de_bin os_add ((de_var 4)).op (de_int).op)).op)) (dss_one (ds_ret de_bl)) dss_nil)
    (dss_one (ds_set 2 sc.nd (de_bin os_add ((de_var 2)).op ((de_bin os_mul ((de_var 5)).op ((de_var 3)).op)).op)))))))
    (dss_one (ds_ret (de_cmp (os_eq hr.units) ((de_var 2)).op ((de_var 0)).op))))))
theorem sc_law_told_near_too : FnScope ["state", "number", "things", "pick", "error"] ["state", "number"] (defScope s_law_told_near_too) := ⟨rfl, rfl, rfl, by decide +kernel, rfl, by decide +kernel, by decide +kernel⟩
theorem ok_law_told_near_too (T : Txt K mg cU cW) : Fnd P w K mg base "_law_told_near_too" 15 (spS K (evOf cU cW) 1 f_law_told_near_too) := by
  obtain ⟨f, fd, hF, hm, hb⟩ := T.d_law_told_near_too.ex
  have c_law_next := ok_law_next (P := P) (w := w) (base := base) T
  have c_law_neighbour := ok_law_neighbour (P := P) (w := w) (base := base) T 12
  have c_in_orders := ok_in_orders (P := P) (w := w) (base := base) T
  have sc := sc_law_told_near_too
  refine fnS (k := 14) (body := b_law_told_near_too) hF sc hm hb rfl rfl (fun cdv A outer s H E hr => ?_)
  exact (dss_cons (ds_own 2 sc.nd (de_lst (da_cons (de_var 1) da_nil)))
    (dss_cons (ds_set 3 sc.nd (de_fnS 0 c_law_next takesD hr (da_cons de_int da_nil) ))
    (dss_cons (ds_put 2 (de_fnS 0 c_law_neighbour takesD hr (da_cons (de_ix is_ix (de_own 2) ((de_var 3)).op) da_nil) ) (de_var 3))
    (dss_one (ds_tryA (i := 4) T.exs rfl rfl sc.nd takesD (T.b _ (by rfl)) (T.b _ (by rfl)) (fun W pn xe tk => (dqs_one (dq_ret (de_fn c_in_orders tk hr (da_cons (de_ix is_ix (de_own 2) (de_int).op) da_nil) )))))))))
theorem sc_law_unfit_too : FnScope ["number", "judged", "error"] ["number"] (defScope s_law_unfit_too) := ⟨rfl, rfl, rfl, by decide +kernel, rfl, by decide +kernel, by decide +kernel⟩
theorem ok_law_unfit_too (T : Txt K mg cU cW) : Fnd P w K mg base "_law_unfit_too" 3 (spD K (evOf cU cW) 1 f_law_unfit_too) := by
  obtain ⟨f, fd, hF, hm, hb⟩ := T.d_law_unfit_too.ex
  have c_judge_in_orders := ok_judge_in_orders (P := P) (w := w) (base := base) T
  have c_in_orders := ok_in_orders (P := P) (w := w) (base := base) T
  have sc := sc_law_unfit_too
  refine fnD (k := 2) (body := b_law_unfit_too) hF sc hm hb rfl (fun cdv A outer s H E hr => ?_)
  exact (dss_cons (ds_for passD rfl (di_any ((de_lst (da_cons de_bl (da_cons de_bl da_nil)))).frz) (dg_name 1 sc.nd) (dss_one (ds_tryB (i := 2) T.exs rfl rfl sc.nd takesD (T.b _ (by rfl)) (T.b _ (by rfl)) (fun W pn xe tk => (dqs_cons (dq_if (dt_tru ((de_var 1)).op) (dqs_one (dq_expr (de_fn c_judge_in_orders tk hr (da_cons (de_var 0) (da_cons de_non da_nil)) ))) (dqs_one (dq_expr (de_fn c_in_orders tk hr (da_cons (de_var 0) da_nil) )))) (dqs_one (dq_ret de_bl)))))))
    (dss_one (ds_ret de_bl)))
theorem sc_law_accepts_three : FnScope ["number", "told", "total", "sign"] ["number", "told"] (defScope s_law_accepts_three) := ⟨rfl, rfl, rfl, by decide +kernel, rfl, by decide +kernel, by decide +kernel⟩
theorem ok_law_accepts_three (T : Txt K mg cU cW) : Fnd P w K mg base "_law_accepts_three" 2 (spD K (evOf cU cW) 2 f_law_accepts_three) := by
  obtain ⟨f, fd, hF, hm, hb⟩ := T.d_law_accepts_three.ex
  have c_law_is := ok_law_is (P := P) (w := w) (base := base) T
  have c_law_is_text := ok_law_is_text (P := P) (w := w) (base := base) T
  have sc := sc_law_accepts_three
  refine fnD (k := 1) (body := b_law_accepts_three) hF sc hm hb rfl (fun cdv A outer s H E hr => ?_)
  exact (dss_cons (ds_if (dt_w (dw_or (dt_not (dt_tru ((de_fn c_law_is takesD hr (da_cons (de_var 1) (da_cons de_str (da_cons de_int da_nil))) )).op)) (dw_or (dt_not (dt_tru ((de_fn c_law_is_text takesD hr (da_cons (de_ix is_ix ((de_var 1)).op (de_int).op) da_nil) )).op)) (dw_or (dt_cmp (os_eq hr.units).op ((de_ix is_ix ((de_var 1)).op (de_int).op)).op (de_str).op) (dw_or (dt_cmp os_gt.op ((de_callB (cs_len) (T.b _ (by rfl)) bt_len (do_cons ((de_ix is_ix ((de_var 1)).op (de_int).op)).op do_nil))).op (de_int).op) (dw_or1 (dt_cmp (os_ne hr.units).op ((de_lc rfl sc.nd ((di_any (de_ix is_ix ((de_var 1)).op (de_int).op))).own (own := [("sign", 3)]) (blkOk_by (N := ["number", "told", "total", "sign"]) (sc := defScope s_law_accepts_three) (by decide +kernel)) (by decide) (fun s H C cl fp => (dg_name 3 sc.nd)) (fun s H C cl fp => (dts_one (dt_cmp (os_notIn (room65 hr)).op ((de_var 3)).op (de_str).op))) (fun s H C cl fp => (de_var 3)))).fop ((de_lst da_nil)).fop))))))) (dss_one (ds_ret de_bl)) dss_nil)
    (dss_cons (ds_set 2 sc.nd de_int)
    (dss_cons (ds_for passD rfl (di_any (de_ix is_ix ((de_var 1)).op (de_int).op)) (dg_name 3 sc.nd) (dss_one (ds_set 2 sc.nd (de_bin os_sub ((de_bin os_add ((de_bin os_mul (de_int).op ((de_var 2)).op)).op ((de_mt PySem.F.plainAttrs_str PySem.F.slot_str_index PySem.F.type_str_index ms_index (de_str).op (do_cons ((de_var 3)).op do_nil))).op)).op (de_int).op))))
    (dss_one (ds_ret (de_and (de_cmp (os_eq hr.units) ((de_var 2)).op ((de_var 0)).op) (de_one (de_or (de_cmp (os_eq hr.units) ((de_ix is_ix ((de_var 1)).op (de_int).op)).op (de_str).op) (de_one (de_cmp (os_ne hr.units) ((de_ix is_ix ((de_ix is_ix ((de_var 1)).op (de_int).op)).op (de_int).op)).op (de_str).op))))))))))
theorem sc_law_told_near_three : FnScope ["state", "number", "things", "pick", "error"] ["state", "number"] (defScope s_law_told_near_three) := ⟨rfl, rfl, rfl, by decide +kernel, rfl, by decide +kernel, by decide +kernel⟩
theorem ok_law_told_near_three (T : Txt K mg cU cW) : Fnd P w K mg base "_law_told_near_three" 15 (spS K (evOf cU cW) 1 f_law_told_near_three) := by
  obtain ⟨f, fd, hF, hm, hb⟩ := T.d_law_told_near_three.ex
  have c_law_next := ok_law_next (P := P) (w := w) (base := base) T
  have c_law_neighbour := ok_law_neighbour (P := P) (w := w) (base := base) T 12
  have c_in_signs := ok_in_signs (P := P) (w := w) (base := base) T
  have sc := sc_law_told_near_three
  refine fnS (k := 14) (body := b_law_told_near_three) hF sc hm hb rfl rfl (fun cdv A outer s H E hr => ?_)
  exact (dss_cons (ds_own 2 sc.nd (de_lst (da_cons (de_var 1) da_nil)))
    (dss_cons (ds_set 3 sc.nd (de_fnS 0 c_law_next takesD hr (da_cons de_int da_nil) ))
    (dss_cons (ds_put 2 (de_fnS 0 c_law_neighbour takesD hr (da_cons (de_ix is_ix (de_own 2) ((de_var 3)).op) da_nil) ) (de_var 3))
    (dss_one (ds_tryA (i := 4) T.exs rfl rfl sc.nd takesD (T.b _ (by rfl)) (T.b _ (by rfl)) (fun W pn xe tk => (dqs_one (dq_ret (de_fn c_in_signs tk hr (da_cons (de_ix is_ix (de_own 2) (de_int).op) da_nil) )))))))))
theorem sc_law : FnScope ["script", "state", "seen", "seen_too", "seen_three", "turn", "number", "told", "near_told", "k", "asked"] ["script"] (defScope s_law) := ⟨rfl, rfl, rfl, by decide +kernel, rfl, by decide +kernel, by decide +kernel⟩
theorem ok_law (T : Txt K mg cU cW) {f : Addr} {fd : FuncData} (hF : Fun K "law" "law" s_law f fd) (good : ∀ ns : List Int, ns.length ≤ 63 → ∃ ls', b_law (none :: some .st :: List.replicate 9 none) ⟨ns, 0, 0, 1⟩ = .ok (.rt (.bool true)) ls') :
    FnOk P w K mg base (L2.CX P w) 17 f fd ["script"] (spLaw K) := by
  have c_law_next := ok_law_next (P := P) (w := w) (base := base) T
  have c_in_steps := ok_in_steps (P := P) (w := w) (base := base) T
  have c_law_told_near := ok_law_told_near (P := P) (w := w) (base := base) T
  have c_in_orders := ok_in_orders (P := P) (w := w) (base := base) T
  have c_law_told_near_too := ok_law_told_near_too (P := P) (w := w) (base := base) T
  have c_in_signs := ok_in_signs (P := P) (w := w) (base := base) T
  have c_law_told_near_three := ok_law_told_near_three (P := P) (w := w) (base := base) T
  have c_law_unfit_too := ok_law_unfit_too (P := P) (w := w) (base := base) T
  have c_law_accepts := ok_law_accepts (P := P) (w := w) (base := base) T
  have c_judge_in_steps := ok_judge_in_steps (P := P) (w := w) (base := base) T
  have c_law_unfit := ok_law_unfit (P := P) (w := w) (base := base) T
  have c_law_odd := ok_law_odd (P := P) (w := w) (base := base) T
  have c_law_same := ok_law_same (P := P) (w := w) (base := base) T 12
  have c_law_accepts_too := ok_law_accepts_too (P := P) (w := w) (base := base) T
  have c_judge_in_orders := ok_judge_in_orders (P := P) (w := w) (base := base) T
  have c_law_accepts_three := ok_law_accepts_three (P := P) (w := w) (base := base) T
  have c_judge_in_signs := ok_judge_in_signs (P := P) (w := w) (base := base) T
  have sc := sc_law
  refine fnLaw (N := ["script", "state", "seen", "seen_too", "seen_three", "turn", "number", "told", "near_told", "k", "asked"]) (k := 16) (m := 9) (ev := evOf cU cW) (body := b_law) hF sc_law (T.b _ (by rfl)) rfl rfl good (fun cdv A outer s H E hr => ⟨?_, ?_⟩)
  · exact ps_lawStart sc_law.nd rfl rfl (Or.inl rfl) (Or.inl rfl) (T.b _ (by rfl)) rfl
  · exact (dss_cons (ds_set 2 sc.nd ((de_lst da_nil)).frz)
    (dss_cons (ds_set 3 sc.nd ((de_lst da_nil)).frz)
    (dss_cons (ds_set 4 sc.nd ((de_lst da_nil)).frz)
    (dss_cons (ds_for passD rfl (di_range1 (T.b _ (by rfl)) (do_cons (de_int).op do_nil)) (dg_name 5 sc.nd) (dss_cons (ds_set 6 sc.nd (de_fnS 1 c_law_next takesD hr (da_cons (de_ix is_ix ((de_lst (da_cons de_int (da_cons de_int da_nil)))).fop ((de_fnS 1 c_law_next takesD hr (da_cons de_int da_nil) )).op) da_nil) ))
    (dss_cons (ds_set 7 sc.nd (de_fn c_in_steps takesD hr (da_cons (de_var 6) da_nil) ))
    (dss_cons (ds_set 8 sc.nd (de_fnS 1 c_law_told_near takesD hr (da_cons (de_var 6) da_nil) ))
    (dss_cons (ds_if (dt_w (dw_or (dt_not (dt_tru ((de_fn c_law_accepts takesD hr (da_cons (de_var 6) (da_cons (de_var 7) da_nil)) )).op)) (dw_or1 (dt_cmp os_isNot.op ((de_fn c_judge_in_steps takesD hr (da_cons (de_var 6) (da_cons (de_var 7) da_nil)) )).op (de_bl).op)))) (dss_one (ds_ret de_bl)) dss_nil)
    (dss_cons (ds_if (dt_w (dw_or (dt_not (dt_tru ((de_fn c_law_unfit takesD hr (da_cons (de_un us_neg (de_int).op) da_nil) )).op)) (dw_or1 (dt_not (dt_tru ((de_fn c_law_unfit takesD hr (da_cons de_int da_nil) )).op))))) (dss_one (ds_ret de_bl)) dss_nil)
    (dss_cons (ds_set 2 sc.nd (de_bin os_add ((de_sl ((de_var 2)).op (dp_at ((de_un us_neg (de_int).op)).op) dp_no)).op ((de_lst (da_cons (de_var 7) (da_cons (de_var 8) da_nil)))).fop))
    (dss_cons (ds_for passD rfl (di_range1 (T.b _ (by rfl)) (do_cons ((de_bin os_add (de_int).op ((de_callB (cs_len) (T.b _ (by rfl)) bt_len (do_cons ((de_var 2)).op do_nil))).op)).op do_nil)) (dg_name 9 sc.nd) (dss_cons (ds_set 10 sc.nd (de_if (dt_cmp os_lt.op ((de_var 9)).op (de_int).op) (de_fnS 1 c_law_odd takesD hr (da_cons (de_var 7) da_nil) ) (de_ix is_ix ((de_var 2)).op ((de_bin os_sub ((de_var 9)).op (de_int).op)).op)))
    (dss_one (ds_if (dt_not (dt_tru ((de_fn c_law_same takesD hr (da_cons (de_fn c_judge_in_steps takesD hr (da_cons (de_var 6) (da_cons (de_var 10) da_nil)) ) (da_cons (de_fn c_law_accepts takesD hr (da_cons (de_var 6) (da_cons (de_var 10) da_nil)) ) da_nil)) )).op)) (dss_one (ds_ret de_bl)) dss_nil))))
    (dss_cons (ds_set 6 sc.nd (de_var 6))
    (dss_cons (ds_set 7 sc.nd (de_fn c_in_orders takesD hr (da_cons (de_var 6) da_nil) ))
    (dss_cons (ds_set 8 sc.nd (de_fnS 1 c_law_told_near_too takesD hr (da_cons (de_var 6) da_nil) ))
    (dss_cons (ds_if (dt_w (dw_or (dt_not (dt_tru ((de_fn c_law_accepts_too takesD hr (da_cons (de_var 6) (da_cons (de_var 7) da_nil)) )).op)) (dw_or1 (dt_cmp os_isNot.op ((de_fn c_judge_in_orders takesD hr (da_cons (de_var 6) (da_cons (de_var 7) da_nil)) )).op (de_bl).op)))) (dss_one (ds_ret de_bl)) dss_nil)
    (dss_cons (ds_if (dt_not (dt_tru ((de_fn c_law_unfit_too takesD hr (da_cons (de_un us_neg (de_int).op) da_nil) )).op)) (dss_one (ds_ret de_bl)) dss_nil)
    (dss_cons (ds_set 3 sc.nd (de_bin os_add ((de_sl ((de_var 3)).op (dp_at ((de_un us_neg (de_int).op)).op) dp_no)).op ((de_lst (da_cons (de_var 7) (da_cons (de_var 8) da_nil)))).fop))
    (dss_cons (ds_for passD rfl (di_range1 (T.b _ (by rfl)) (do_cons ((de_bin os_add (de_int).op ((de_callB (cs_len) (T.b _ (by rfl)) bt_len (do_cons ((de_var 3)).op do_nil))).op)).op do_nil)) (dg_name 9 sc.nd) (dss_cons (ds_set 10 sc.nd (de_if (dt_cmp os_lt.op ((de_var 9)).op (de_int).op) (de_fnS 1 c_law_odd takesD hr (da_cons (de_var 7) da_nil) ) (de_ix is_ix ((de_var 3)).op ((de_bin os_sub ((de_var 9)).op (de_int).op)).op)))
    (dss_one (ds_if (dt_not (dt_tru ((de_fn c_law_same takesD hr (da_cons (de_fn c_judge_in_orders takesD hr (da_cons (de_var 6) (da_cons (de_var 10) da_nil)) ) (da_cons (de_fn c_law_accepts_too takesD hr (da_cons (de_var 6) (da_cons (de_var 10) da_nil)) ) da_nil)) )).op)) (dss_one (ds_ret de_bl)) dss_nil))))
    (dss_cons (ds_set 6 sc.nd (de_bin os_sub ((de_var 6)).op (de_int).op))
    (dss_cons (ds_set 7 sc.nd (de_fn c_in_signs takesD hr (da_cons (de_var 6) da_nil) ))
    (dss_cons (ds_set 8 sc.nd (de_fnS 1 c_law_told_near_three takesD hr (da_cons (de_var 6) da_nil) ))
    (dss_cons (ds_if (dt_w (dw_or (dt_not (dt_tru ((de_fn c_law_accepts_three takesD hr (da_cons (de_var 6) (da_cons (de_var 7) da_nil)) )).op)) (dw_or1 (dt_cmp os_isNot.op ((de_fn c_judge_in_signs takesD hr (da_cons (de_var 6) (da_cons (de_var 7) da_nil)) )).op (de_bl).op)))) (dss_one (ds_ret de_bl)) dss_nil)
    (dss_cons (ds_set 4 sc.nd (de_bin os_add ((de_sl ((de_var 4)).op (dp_at ((de_un us_neg (de_int).op)).op) dp_no)).op ((de_lst (da_cons (de_var 7) (da_cons (de_var 8) da_nil)))).fop))
    (dss_one (ds_for passD rfl (di_range1 (T.b _ (by rfl)) (do_cons ((de_bin os_add (de_int).op ((de_callB (cs_len) (T.b _ (by rfl)) bt_len (do_cons ((de_var 4)).op do_nil))).op)).op do_nil)) (dg_name 9 sc.nd) (dss_cons (ds_set 10 sc.nd (de_if (dt_cmp os_lt.op ((de_var 9)).op (de_int).op) (de_fnS 1 c_law_odd takesD hr (da_cons (de_var 7) da_nil) ) (de_ix is_ix ((de_var 4)).op ((de_bin os_sub ((de_var 9)).op (de_int).op)).op)))
    (dss_one (ds_if (dt_not (dt_tru ((de_fn c_law_same takesD hr (da_cons (de_fn c_judge_in_signs takesD hr (da_cons (de_var 6) (da_cons (de_var 10) da_nil)) ) (da_cons (de_fn c_law_accepts_three takesD hr (da_cons (de_var 6) (da_cons (de_var 10) da_nil)) ) da_nil)) )).op)) (dss_one (ds_ret de_bl)) dss_nil)))))))))))))))))))))))))
    (dss_one (ds_ret de_bl))))))
end
end DL.L81

/-! law 81: numbers by sums. -/
namespace DL
open PySem PySem.Spec PyProof.Rows L2 SX
/-! ### words for all such laws -/
/-- ('w', z) with p z -/
def pairS (w : Str) (p : Str → Bool) : D → Bool
  | .tuple [.str a, .str z] => a == w && p z
  | _ => false
theorem pairS_self {w z : Str} {p : Str → Bool} : pairS w p (.tuple [.str w, .str z]) = p z := by simp [pairS]
theorem pairS_no {w : Str} {p : Str → Bool} {d : D} (h : toldB w 2 d = false) : pairS w p d = false := by
  unfold pairS
  split
  · rename_i a z
    have : (a == w) = false := by simpa [toldB] using h
    rw [this]; rfl
  · rfl
theorem pure_ex {m : M D} {P : D → Prop} (h : ∀ s, WP m s fun a s' => s' = s ∧ P a) (u : ∀ a b, P a → P b → a = b) : ∃ a, m = pure a ∧ P a := by
  obtain ⟨a, s', e, rfl, p⟩ := h ⟨[], 0, 0, 1⟩
  refine ⟨a, pure_of fun s => ?_, p⟩
  obtain ⟨b, s'', e2, h2, p2⟩ := h s
  exact ⟨b, s'', e2, h2, u _ _ p2 p⟩
theorem ix_last {xs : List D} {k : Nat} (h1 : 1 ≤ k) (h2 : k ≤ xs.length) : atI xs (-(k : Int)) = some (xs[xs.length - k]'(by omega)) := by
  have e : ixN xs.length (-(k : Int)) = some (xs.length - k) := by
    unfold ixN
    rw [if_neg (by omega), if_pos (by omega)]
    congr 1; omega
  unfold atI
  rw [e]
  exact some_get (by omega)
theorem odd_tup {xs : List D} (h : Odd 60000 13 (.tuple xs)) : San 60000 13 (.tuple xs) := by
  rcases h with h | h
  · exact h
  · cases h
theorem hasSub_one (l : List Nat) (c : Nat) : hasSub (S l) (one c) = decide (c ∈ l) := in_one l c
theorem beq_S (a b : List Nat) : (S a == S b) = decide (a = b) := S_beq_eq
theorem take2 {l : List Nat} {i a b : Nat} : (l.drop i).take 2 = [a, b] ↔ l[i]? = some a ∧ l[i + 1]? = some b := by
  have h0 : l[i]? = (l.drop i)[0]? := by rw [List.getElem?_drop]; rfl
  have h1 : l[i + 1]? = (l.drop i)[1]? := by rw [List.getElem?_drop]
  rw [h0, h1]
  generalize l.drop i = m
  match m with
  | [] => simp
  | [x] => simp
  | x :: y :: r => simp
theorem sub2_iff (l : List Nat) (a b : Nat) : hasSub (S l) (S [a, b]) = true ↔ ∃ i, l[i]? = some a ∧ l[i + 1]? = some b := by
  unfold hasSub
  rw [StrLaws.found_iff]
  have len : (S l).length = l.length := S_len l
  have key : ∀ i, Builtin.Str.subAt (S l) (S [a, b]) i = true ↔ (l.drop i).take 2 = [a, b] := by
    intro i
    show ((l.toArray.extract i (i + 2)) == [a, b].toArray) = true ↔ _
    rw [beq_iff_eq]
    have e : (l.toArray.extract i (i + 2)) = ((l.drop i).take 2).toArray := by
      rw [List.extract_toArray, List.extract_eq_take_drop]
      congr 2; omega
    rw [e]
    constructor
    · intro h; exact congrArg Array.toList h
    · intro h; rw [h]
  constructor
  · rintro ⟨i, h1, h2⟩
    exact ⟨i, take2.mp ((key i).mp h2)⟩
  · rintro ⟨i, h⟩
    refine ⟨i, ?_, (key i).mpr (take2.mpr h)⟩
    have : i + 1 < l.length := (List.getElem?_eq_some_iff.mp h.2).1
    rw [len]
    show i + 2 ≤ _
    omega
end DL

namespace DL.L81
open PySem PySem.Spec PyProof.Rows L2 SX DL
/-! ### 1, 2, 3, 5 .. -/
def w : Nat → Nat
  | 0 => 1
  | 1 => 2
  | n + 2 => w n + w (n + 1)
theorem w_pos : ∀ n, 0 < w n
  | 0 => by decide
  | 1 => by decide
  | n + 2 => by have := w_pos n; simp only [w]; omega
theorem w_lt : ∀ n, w n < w (n + 1)
  | 0 => by decide
  | n + 1 => by have := w_pos n; simp only [w]; omega
theorem w_mono {m n : Nat} (h : m ≤ n) : w m ≤ w n := by
  induction h with
  | refl => exact Nat.le_refl _
  | step _ ih => exact Nat.le_trans ih (Nat.le_of_lt (w_lt _))
theorem w_dbl : ∀ r, w (r + 1) ≤ 2 * w r
  | 0 => by decide
  | r + 1 => by have := w_lt r; show w r + w (r + 1) ≤ _; omega
/-- the value with k signs 0 behind -/
def vs : List Nat → Nat → Nat
  | [], _ => 0
  | c :: r, k => (if c = 49 then w (r.length + k) else 0) + vs r k
theorem vs_snoc (c : Nat) : ∀ (l : List Nat) (k : Nat), vs (l ++ [c]) k = vs l (k + 1) + (if c = 49 then w k else 0)
  | [], k => by simp [vs]
  | d :: r, k => by
    simp only [List.cons_append, vs, vs_snoc c r k, List.length_append, List.length_cons, List.length_nil]
    rw [show r.length + (0 + 1) + k = r.length + (k + 1) by omega]; omega
/-- signs 0, 1, no two 1 side by side -/
def vld : List Nat → Bool
  | [] => true
  | c :: r => (c == 48 || c == 49 && r.head? != some 49) && vld r
theorem vld_snoc {c : Nat} (hc : c = 48 ∨ c = 49) : ∀ {l : List Nat}, vld l = true → (c = 49 → l.getLast? ≠ some 49) → vld (l ++ [c]) = true
  | [], _, _ => by rcases hc with rfl | rfl <;> rfl
  | [d], h, q => by
    rcases hc with rfl | rfl
    · simp [vld] at h ⊢; exact h
    · have q2 : d ≠ 49 := by simpa using q rfl
      simp [vld] at h ⊢; rcases h with h | h
      · exact h
      · exact absurd h q2
  | d :: e :: r, h, q => by
    simp only [vld, Bool.and_eq_true, List.cons_append] at h ⊢
    have ih := vld_snoc hc (l := e :: r) (by simp only [vld, Bool.and_eq_true]; exact h.2) fun hh => by
      have := q hh; simpa [List.getLast?_cons_cons] using this
    simp only [vld, Bool.and_eq_true, List.cons_append] at ih
    exact ⟨by simpa using h.1, ih⟩
theorem val_lt : ∀ {l : List Nat}, vld l = true → vs l 0 < w l.length
  | [], _ => by decide
  | [c], h => by
    simp only [vs, List.length_nil, List.length_cons]
    split <;> decide
  | c :: d :: r, h => by
    simp only [vld, Bool.and_eq_true] at h
    obtain ⟨h1, h2, h3⟩ := h
    have i1 := val_lt (l := d :: r) (by simp only [vld, Bool.and_eq_true]; exact ⟨h2, h3⟩)
    have i2 := val_lt h3
    simp only [vs, List.length_cons, Nat.add_zero] at i1 i2 ⊢
    have e : w (r.length + 1 + 1) = w r.length + w (r.length + 1) := rfl
    rw [e]
    have p := w_pos r.length
    by_cases hc : c = 49
    · subst hc
      have hd : d ≠ 49 := by simpa using h1
      rw [if_pos rfl, if_neg hd] at *
      omega
    · rw [if_neg hc]; omega
theorem val_ge {r : List Nat} : w r.length ≤ vs (49 :: r) 0 := by simp [vs]
theorem vld_cons {c : Nat} {l : List Nat} (h : vld (c :: l) = true) : (c = 48 ∨ c = 49) ∧ vld l = true := by
  simp only [vld, Bool.and_eq_true] at h
  refine ⟨?_, h.2⟩
  have h1 := h.1
  simp at h1
  rcases h1 with h1 | h1
  · exact .inl h1
  · exact .inr h1.1
theorem val_inj : ∀ {l m : List Nat}, vld l = true → vld m = true → l.length = m.length → vs l 0 = vs m 0 → l = m
  | [], [], _, _, _, _ => rfl
  | [], _ :: _, _, _, h, _ => by simp at h
  | _ :: _, [], _, _, h, _ => by simp at h
  | c :: l, d :: m, hl, hm, h, e => by
    obtain ⟨c1, l1⟩ := vld_cons hl
    obtain ⟨d1, m1⟩ := vld_cons hm
    have hlen : l.length = m.length := by simpa using h
    have a := val_lt l1
    have b := val_lt m1
    simp only [vs, Nat.add_zero] at e
    rw [hlen] at e a
    have ecd : c = d := by
      rcases c1 with rfl | rfl <;> rcases d1 with rfl | rfl
      · rfl
      · simp at e; omega
      · simp at e; omega
      · rfl
    subst ecd
    rw [val_inj l1 m1 hlen (by omega)]
theorem canon_inj {l m : List Nat} (hl : vld l = true) (hm : vld m = true) (l0 : l.head? ≠ some 48) (m0 : m.head? ≠ some 48) (e : vs l 0 = vs m 0) : l = m := by
  have key : ∀ {l m : List Nat}, vld l = true → vld m = true → m.head? ≠ some 48 → vs l 0 = vs m 0 → ¬ l.length < m.length := by
    intro l m hl hm m0 e h
    cases m with
    | nil => simp at h
    | cons d m =>
      have d1 : d = 49 := by
        rcases (vld_cons hm).1 with rfl | rfl
        · exact absurd rfl m0
        · rfl
      subst d1
      have a := val_lt hl
      have b := val_ge (r := m)
      have c : w l.length ≤ w m.length := w_mono (by simp at h; omega)
      omega
  have h1 := key hl hm m0 e
  have h2 := key hm hl l0 e.symm
  exact val_inj hl hm (by omega) e
/-- the signs of n -/
structure Zk (n : Nat) (l : List Nat) : Prop where
  v : vld l = true
  h : l.head? ≠ some 48
  e : vs l 0 = n
  len : l.length ≤ 40
theorem Zk.uniq {n : Nat} {l m : List Nat} (a : Zk n l) (b : Zk n m) : l = m := canon_inj a.v b.v a.h b.h (a.e.trans b.e.symm)
def told (l : List Nat) : D := .tuple [.str "text", .str (S l)]
def steps (i : Nat) : List D := (List.range i).map fun j => .int (w j)
theorem steps_len (i : Nat) : (steps i).length = i := by simp [steps]
theorem steps_get {i j : Nat} (h : j < (steps i).length) : (steps i)[j] = .int (w j) := by simp [steps]
theorem steps_succ (i : Nat) : steps (i + 1) = steps i ++ [.int (w i)] := by simp [steps, List.range_succ]
theorem steps_at {i k : Nat} (h1 : 1 ≤ k) (h2 : k ≤ i) : ixD (.list (steps i)) (.int (-(k : Int))) = some (.int (w (i - k))) := by
  show atI (steps i) (-(k : Int)) = _
  rw [ix_last h1 (by rw [steps_len]; exact h2), steps_get]
  rw [steps_len]
theorem in_steps_eq (n : Nat) (hn : n ≤ 1000000) : ∃ l, f_in_steps [.int n] = pure (told l) ∧ Zk n l := by
  have main : ∀ s, WP (f_in_steps [.int n]) s fun a s' => s' = s ∧ ∃ l, a = told l ∧ Zk n l := by
    intro s
    unfold f_in_steps
    apply wp_runD
    unfold b_in_steps
    (repeat (first | with_reducible (first | apply wp_seq | apply wp_sIf | apply wp_next | apply wp_ret | apply wp_set | apply wp_own | apply wp_par | apply wp_par3 | apply wp_asg | apply wp_for | apply wp_tVal | apply wp_tTru | apply wp_tAnd | apply wp_tOr | apply wp_tNot | apply wp_e2 | apply wp_e1 | apply wp_eC | apply wp_call | apply wp_cons | apply wp_nil | apply wp_mt | apply wp_sl | apply wp_pNo | apply wp_pAt | apply wp_rev | apply wp_eIf | apply wp_eAnd | apply wp_eOr | apply wp_eNot | apply wp_chain | apply wp_isi | apply wp_isi2 | apply wp_fn | apply wp_iOf | apply wp_iRng | apply wp_lc | apply wp_tup | apply wp_lst | apply wp_frz | apply ko_nx | apply ko_rt | apply kr_rt | apply kr_nx | apply ex_bool | apply ex_int) | ((with_reducible apply wp_eV); rfl) | ((with_reducible apply wp_eOv); rfl) | ((with_reducible apply wp_eOo); rfl) | ((with_reducible apply wp_st); rfl; decide) | ((with_reducible apply wp_stSet); rfl) | ((with_reducible apply wp_fnS); rfl) | ((with_reducible apply ex_some); rfl) | ((with_reducible apply ex_sb); rfl) | ((with_reducible apply br_t); rfl) | ((with_reducible apply br_f); rfl) | ((with_reducible apply ex_some (mulB ?hh)); case hh => decide +kernel) | ((with_reducible apply ex_some (mulA ?hh)); case hh => decide +kernel) | ((with_reducible apply ex_some (rngL ?hh)); case hh => decide +kernel) | (refine ⟨rfl, ?_⟩)))
    refine br_f (by rw [decide_eq_true (by omega)]; rfl) ?_
    (repeat (first | with_reducible (first | apply wp_seq | apply wp_sIf | apply wp_next | apply wp_ret | apply wp_set | apply wp_own | apply wp_par | apply wp_par3 | apply wp_asg | apply wp_for | apply wp_tVal | apply wp_tTru | apply wp_tAnd | apply wp_tOr | apply wp_tNot | apply wp_e2 | apply wp_e1 | apply wp_eC | apply wp_call | apply wp_cons | apply wp_nil | apply wp_mt | apply wp_sl | apply wp_pNo | apply wp_pAt | apply wp_rev | apply wp_eIf | apply wp_eAnd | apply wp_eOr | apply wp_eNot | apply wp_chain | apply wp_isi | apply wp_isi2 | apply wp_fn | apply wp_iOf | apply wp_iRng | apply wp_lc | apply wp_tup | apply wp_lst | apply wp_frz | apply ko_nx | apply ko_rt | apply kr_rt | apply kr_nx | apply ex_bool | apply ex_int) | ((with_reducible apply wp_eV); rfl) | ((with_reducible apply wp_eOv); rfl) | ((with_reducible apply wp_eOo); rfl) | ((with_reducible apply wp_st); rfl; decide) | ((with_reducible apply wp_stSet); rfl) | ((with_reducible apply wp_fnS); rfl) | ((with_reducible apply ex_some); rfl) | ((with_reducible apply ex_sb); rfl) | ((with_reducible apply br_t); rfl) | ((with_reducible apply br_f); rfl) | ((with_reducible apply ex_some (mulB ?hh)); case hh => decide +kernel) | ((with_reducible apply ex_some (mulA ?hh)); case hh => decide +kernel) | ((with_reducible apply ex_some (rngL ?hh)); case hh => decide +kernel) | (refine ⟨rfl, ?_⟩)))
    refine wp_while (fun m env s' => s' = s ∧ ∃ i, 2 ≤ i ∧ i ≤ 30 ∧ i + m = 50 ∧ env = [some (.val (.int n)), some (.own (.list (steps i))), none, none]) ?_ 64 48 ⟨rfl, 2, by omega, by omega, rfl, rfl⟩ (by omega)
    rintro m env s' ⟨rfl, i, hi, hi30, him, rfl⟩
    (repeat (first | with_reducible (first | apply wp_seq | apply wp_sIf | apply wp_next | apply wp_ret | apply wp_set | apply wp_own | apply wp_par | apply wp_par3 | apply wp_asg | apply wp_for | apply wp_tVal | apply wp_tTru | apply wp_tAnd | apply wp_tOr | apply wp_tNot | apply wp_e2 | apply wp_e1 | apply wp_eC | apply wp_call | apply wp_cons | apply wp_nil | apply wp_mt | apply wp_sl | apply wp_pNo | apply wp_pAt | apply wp_rev | apply wp_eIf | apply wp_eAnd | apply wp_eOr | apply wp_eNot | apply wp_chain | apply wp_isi | apply wp_isi2 | apply wp_fn | apply wp_iOf | apply wp_iRng | apply wp_lc | apply wp_tup | apply wp_lst | apply wp_frz | apply ko_nx | apply ko_rt | apply kr_rt | apply kr_nx | apply ex_bool | apply ex_int) | ((with_reducible apply wp_eV); rfl) | ((with_reducible apply wp_eOv); rfl) | ((with_reducible apply wp_eOo); rfl) | ((with_reducible apply wp_st); rfl; decide) | ((with_reducible apply wp_stSet); rfl) | ((with_reducible apply wp_fnS); rfl) | ((with_reducible apply ex_some); rfl) | ((with_reducible apply ex_sb); rfl) | ((with_reducible apply br_t); rfl) | ((with_reducible apply br_f); rfl) | ((with_reducible apply ex_some (mulB ?hh)); case hh => decide +kernel) | ((with_reducible apply ex_some (mulA ?hh)); case hh => decide +kernel) | ((with_reducible apply ex_some (rngL ?hh)); case hh => decide +kernel) | (refine ⟨rfl, ?_⟩)))
    refine ex_some (steps_at (k := 1) (by omega) (by omega)) ?_
    (repeat (first | with_reducible (first | apply wp_seq | apply wp_sIf | apply wp_next | apply wp_ret | apply wp_set | apply wp_own | apply wp_par | apply wp_par3 | apply wp_asg | apply wp_for | apply wp_tVal | apply wp_tTru | apply wp_tAnd | apply wp_tOr | apply wp_tNot | apply wp_e2 | apply wp_e1 | apply wp_eC | apply wp_call | apply wp_cons | apply wp_nil | apply wp_mt | apply wp_sl | apply wp_pNo | apply wp_pAt | apply wp_rev | apply wp_eIf | apply wp_eAnd | apply wp_eOr | apply wp_eNot | apply wp_chain | apply wp_isi | apply wp_isi2 | apply wp_fn | apply wp_iOf | apply wp_iRng | apply wp_lc | apply wp_tup | apply wp_lst | apply wp_frz | apply ko_nx | apply ko_rt | apply kr_rt | apply kr_nx | apply ex_bool | apply ex_int) | ((with_reducible apply wp_eV); rfl) | ((with_reducible apply wp_eOv); rfl) | ((with_reducible apply wp_eOo); rfl) | ((with_reducible apply wp_st); rfl; decide) | ((with_reducible apply wp_stSet); rfl) | ((with_reducible apply wp_fnS); rfl) | ((with_reducible apply ex_some); rfl) | ((with_reducible apply ex_sb); rfl) | ((with_reducible apply br_t); rfl) | ((with_reducible apply br_f); rfl) | ((with_reducible apply ex_some (mulB ?hh)); case hh => decide +kernel) | ((with_reducible apply ex_some (mulA ?hh)); case hh => decide +kernel) | ((with_reducible apply ex_some (rngL ?hh)); case hh => decide +kernel) | (refine ⟨rfl, ?_⟩)))
    refine ⟨fun hb => ?_, fun hb => ?_⟩
    · have hb := of_decide_eq_true hb
      have hi2 : i ≤ 29 := by
        rcases Nat.lt_or_ge i 30 with h | h
        · omega
        · have h1 : w 29 ≤ w (i - 1) := w_mono (by omega)
          have h2 : w 29 = 1346269 := by decide +kernel
          omega
      refine ⟨m - 1, by omega, ?_⟩
      refine wp_app rfl (by rw [steps_len]; omega) ?_
      (repeat (first | with_reducible (first | apply wp_seq | apply wp_sIf | apply wp_next | apply wp_ret | apply wp_set | apply wp_own | apply wp_par | apply wp_par3 | apply wp_asg | apply wp_for | apply wp_tVal | apply wp_tTru | apply wp_tAnd | apply wp_tOr | apply wp_tNot | apply wp_e2 | apply wp_e1 | apply wp_eC | apply wp_call | apply wp_cons | apply wp_nil | apply wp_mt | apply wp_sl | apply wp_pNo | apply wp_pAt | apply wp_rev | apply wp_eIf | apply wp_eAnd | apply wp_eOr | apply wp_eNot | apply wp_chain | apply wp_isi | apply wp_isi2 | apply wp_fn | apply wp_iOf | apply wp_iRng | apply wp_lc | apply wp_tup | apply wp_lst | apply wp_frz | apply ko_nx | apply ko_rt | apply kr_rt | apply kr_nx | apply ex_bool | apply ex_int) | ((with_reducible apply wp_eV); rfl) | ((with_reducible apply wp_eOv); rfl) | ((with_reducible apply wp_eOo); rfl) | ((with_reducible apply wp_st); rfl; decide) | ((with_reducible apply wp_stSet); rfl) | ((with_reducible apply wp_fnS); rfl) | ((with_reducible apply ex_some); rfl) | ((with_reducible apply ex_sb); rfl) | ((with_reducible apply br_t); rfl) | ((with_reducible apply br_f); rfl) | ((with_reducible apply ex_some (mulB ?hh)); case hh => decide +kernel) | ((with_reducible apply ex_some (mulA ?hh)); case hh => decide +kernel) | ((with_reducible apply ex_some (rngL ?hh)); case hh => decide +kernel) | (refine ⟨rfl, ?_⟩)))
      refine ex_some (steps_at (k := 1) (by omega) (by omega)) ?_
      (repeat (first | with_reducible (first | apply wp_seq | apply wp_sIf | apply wp_next | apply wp_ret | apply wp_set | apply wp_own | apply wp_par | apply wp_par3 | apply wp_asg | apply wp_for | apply wp_tVal | apply wp_tTru | apply wp_tAnd | apply wp_tOr | apply wp_tNot | apply wp_e2 | apply wp_e1 | apply wp_eC | apply wp_call | apply wp_cons | apply wp_nil | apply wp_mt | apply wp_sl | apply wp_pNo | apply wp_pAt | apply wp_rev | apply wp_eIf | apply wp_eAnd | apply wp_eOr | apply wp_eNot | apply wp_chain | apply wp_isi | apply wp_isi2 | apply wp_fn | apply wp_iOf | apply wp_iRng | apply wp_lc | apply wp_tup | apply wp_lst | apply wp_frz | apply ko_nx | apply ko_rt | apply kr_rt | apply kr_nx | apply ex_bool | apply ex_int) | ((with_reducible apply wp_eV); rfl) | ((with_reducible apply wp_eOv); rfl) | ((with_reducible apply wp_eOo); rfl) | ((with_reducible apply wp_st); rfl; decide) | ((with_reducible apply wp_stSet); rfl) | ((with_reducible apply wp_fnS); rfl) | ((with_reducible apply ex_some); rfl) | ((with_reducible apply ex_sb); rfl) | ((with_reducible apply br_t); rfl) | ((with_reducible apply br_f); rfl) | ((with_reducible apply ex_some (mulB ?hh)); case hh => decide +kernel) | ((with_reducible apply ex_some (mulA ?hh)); case hh => decide +kernel) | ((with_reducible apply ex_some (rngL ?hh)); case hh => decide +kernel) | (refine ⟨rfl, ?_⟩)))
      refine ex_some (steps_at (k := 2) (by omega) (by omega)) ?_
      (repeat (first | with_reducible (first | apply wp_seq | apply wp_sIf | apply wp_next | apply wp_ret | apply wp_set | apply wp_own | apply wp_par | apply wp_par3 | apply wp_asg | apply wp_for | apply wp_tVal | apply wp_tTru | apply wp_tAnd | apply wp_tOr | apply wp_tNot | apply wp_e2 | apply wp_e1 | apply wp_eC | apply wp_call | apply wp_cons | apply wp_nil | apply wp_mt | apply wp_sl | apply wp_pNo | apply wp_pAt | apply wp_rev | apply wp_eIf | apply wp_eAnd | apply wp_eOr | apply wp_eNot | apply wp_chain | apply wp_isi | apply wp_isi2 | apply wp_fn | apply wp_iOf | apply wp_iRng | apply wp_lc | apply wp_tup | apply wp_lst | apply wp_frz | apply ko_nx | apply ko_rt | apply kr_rt | apply kr_nx | apply ex_bool | apply ex_int) | ((with_reducible apply wp_eV); rfl) | ((with_reducible apply wp_eOv); rfl) | ((with_reducible apply wp_eOo); rfl) | ((with_reducible apply wp_st); rfl; decide) | ((with_reducible apply wp_stSet); rfl) | ((with_reducible apply wp_fnS); rfl) | ((with_reducible apply ex_some); rfl) | ((with_reducible apply ex_sb); rfl) | ((with_reducible apply br_t); rfl) | ((with_reducible apply br_f); rfl) | ((with_reducible apply ex_some (mulB ?hh)); case hh => decide +kernel) | ((with_reducible apply ex_some (mulA ?hh)); case hh => decide +kernel) | ((with_reducible apply ex_some (rngL ?hh)); case hh => decide +kernel) | (refine ⟨rfl, ?_⟩)))
      refine ⟨_, .inl rfl, rfl, i + 1, by omega, by omega, by omega, ?_⟩
      rw [steps_succ]
      have e : w i = w (i - 1) + w (i - 2) := by
        obtain ⟨j, rfl⟩ : ∃ j, i = j + 2 := ⟨i - 2, by omega⟩
        show w j + w (j + 1) = w (j + 1) + w j
        omega
      rw [e]; rfl
    · have hb := of_decide_eq_false hb
      have hlt : n < w (i - 1) := by omega
      (repeat (first | with_reducible (first | apply wp_seq | apply wp_sIf | apply wp_next | apply wp_ret | apply wp_set | apply wp_own | apply wp_par | apply wp_par3 | apply wp_asg | apply wp_for | apply wp_tVal | apply wp_tTru | apply wp_tAnd | apply wp_tOr | apply wp_tNot | apply wp_e2 | apply wp_e1 | apply wp_eC | apply wp_call | apply wp_cons | apply wp_nil | apply wp_mt | apply wp_sl | apply wp_pNo | apply wp_pAt | apply wp_rev | apply wp_eIf | apply wp_eAnd | apply wp_eOr | apply wp_eNot | apply wp_chain | apply wp_isi | apply wp_isi2 | apply wp_fn | apply wp_iOf | apply wp_iRng | apply wp_lc | apply wp_tup | apply wp_lst | apply wp_frz | apply ko_nx | apply ko_rt | apply kr_rt | apply kr_nx | apply ex_bool | apply ex_int) | ((with_reducible apply wp_eV); rfl) | ((with_reducible apply wp_eOv); rfl) | ((with_reducible apply wp_eOo); rfl) | ((with_reducible apply wp_st); rfl; decide) | ((with_reducible apply wp_stSet); rfl) | ((with_reducible apply wp_fnS); rfl) | ((with_reducible apply ex_some); rfl) | ((with_reducible apply ex_sb); rfl) | ((with_reducible apply br_t); rfl) | ((with_reducible apply br_f); rfl) | ((with_reducible apply ex_some (mulB ?hh)); case hh => decide +kernel) | ((with_reducible apply ex_some (mulA ?hh)); case hh => decide +kernel) | ((with_reducible apply ex_some (rngL ?hh)); case hh => decide +kernel) | (refine ⟨rfl, ?_⟩)))
      have hrl : (steps i).reverse.length = i := by rw [List.length_reverse, steps_len]
      refine wp_forD (fun t env s'' => s'' = s' ∧ ∃ (l : List Nat) (num : Nat) (v : Option DV), env = [some (.val (.int num)), some (.own (.list (steps i))), some (.val (.str (S l))), v] ∧ vld l = true ∧ l.head? ≠ some 48 ∧ l.length ≤ t ∧ num < w (i - t) ∧ (l.getLast? = some 49 → num < w (i - t - 1)) ∧ n = vs l (i - t) + num) _ ?_ ?_ ?_
      · rintro t ht env s'' ⟨rfl, l, num, v, rfl, hv, hh, hlt2, hnum, hlast, hval⟩
        rw [hrl] at ht
        have hd : (steps i).reverse[t] = .int (w (i - t - 1)) := by
          rw [List.getElem_reverse, steps_get, steps_len]
          congr 3; omega
        have er : i - t = (i - t - 1) + 1 := by omega
        generalize hr : i - t - 1 = r at *
        rw [er] at hnum hval
        have hnext : i - (t + 1) = r := by omega
        refine ⟨_, rfl, ?_⟩
        rw [hd]
        (repeat (first | with_reducible (first | apply wp_seq | apply wp_sIf | apply wp_next | apply wp_ret | apply wp_set | apply wp_own | apply wp_par | apply wp_par3 | apply wp_asg | apply wp_for | apply wp_tVal | apply wp_tTru | apply wp_tAnd | apply wp_tOr | apply wp_tNot | apply wp_e2 | apply wp_e1 | apply wp_eC | apply wp_call | apply wp_cons | apply wp_nil | apply wp_mt | apply wp_sl | apply wp_pNo | apply wp_pAt | apply wp_rev | apply wp_eIf | apply wp_eAnd | apply wp_eOr | apply wp_eNot | apply wp_chain | apply wp_isi | apply wp_isi2 | apply wp_fn | apply wp_iOf | apply wp_iRng | apply wp_lc | apply wp_tup | apply wp_lst | apply wp_frz | apply ko_nx | apply ko_rt | apply kr_rt | apply kr_nx | apply ex_bool | apply ex_int) | ((with_reducible apply wp_eV); rfl) | ((with_reducible apply wp_eOv); rfl) | ((with_reducible apply wp_eOo); rfl) | ((with_reducible apply wp_st); rfl; decide) | ((with_reducible apply wp_stSet); rfl) | ((with_reducible apply wp_fnS); rfl) | ((with_reducible apply ex_some); rfl) | ((with_reducible apply ex_sb); rfl) | ((with_reducible apply br_t); rfl) | ((with_reducible apply br_f); rfl) | ((with_reducible apply ex_some (mulB ?hh)); case hh => decide +kernel) | ((with_reducible apply ex_some (mulA ?hh)); case hh => decide +kernel) | ((with_reducible apply ex_some (rngL ?hh)); case hh => decide +kernel) | (refine ⟨rfl, ?_⟩)))
        refine ⟨fun hb => ?_, fun hb => ?_⟩
        · have hb := of_decide_eq_true hb
          have hge : w r ≤ num := by omega
          (repeat (first | with_reducible (first | apply wp_seq | apply wp_sIf | apply wp_next | apply wp_ret | apply wp_set | apply wp_own | apply wp_par | apply wp_par3 | apply wp_asg | apply wp_for | apply wp_tVal | apply wp_tTru | apply wp_tAnd | apply wp_tOr | apply wp_tNot | apply wp_e2 | apply wp_e1 | apply wp_eC | apply wp_call | apply wp_cons | apply wp_nil | apply wp_mt | apply wp_sl | apply wp_pNo | apply wp_pAt | apply wp_rev | apply wp_eIf | apply wp_eAnd | apply wp_eOr | apply wp_eNot | apply wp_chain | apply wp_isi | apply wp_isi2 | apply wp_fn | apply wp_iOf | apply wp_iRng | apply wp_lc | apply wp_tup | apply wp_lst | apply wp_frz | apply ko_nx | apply ko_rt | apply kr_rt | apply kr_nx | apply ex_bool | apply ex_int) | ((with_reducible apply wp_eV); rfl) | ((with_reducible apply wp_eOv); rfl) | ((with_reducible apply wp_eOo); rfl) | ((with_reducible apply wp_st); rfl; decide) | ((with_reducible apply wp_stSet); rfl) | ((with_reducible apply wp_fnS); rfl) | ((with_reducible apply ex_some); rfl) | ((with_reducible apply ex_sb); rfl) | ((with_reducible apply br_t); rfl) | ((with_reducible apply br_f); rfl) | ((with_reducible apply ex_some (mulB ?hh)); case hh => decide +kernel) | ((with_reducible apply ex_some (mulA ?hh)); case hh => decide +kernel) | ((with_reducible apply ex_some (rngL ?hh)); case hh => decide +kernel) | (refine ⟨rfl, ?_⟩)))
          have e1 : Str.ofString "1" = S [49] := by decide +kernel
          refine ex_some (z := .str (S (l ++ [49]))) ?_ ?_
          · rw [e1, add_str (by rw [S_len, S_len]; simp; omega), S_cat]
          (repeat (first | with_reducible (first | apply wp_seq | apply wp_sIf | apply wp_next | apply wp_ret | apply wp_set | apply wp_own | apply wp_par | apply wp_par3 | apply wp_asg | apply wp_for | apply wp_tVal | apply wp_tTru | apply wp_tAnd | apply wp_tOr | apply wp_tNot | apply wp_e2 | apply wp_e1 | apply wp_eC | apply wp_call | apply wp_cons | apply wp_nil | apply wp_mt | apply wp_sl | apply wp_pNo | apply wp_pAt | apply wp_rev | apply wp_eIf | apply wp_eAnd | apply wp_eOr | apply wp_eNot | apply wp_chain | apply wp_isi | apply wp_isi2 | apply wp_fn | apply wp_iOf | apply wp_iRng | apply wp_lc | apply wp_tup | apply wp_lst | apply wp_frz | apply ko_nx | apply ko_rt | apply kr_rt | apply kr_nx | apply ex_bool | apply ex_int) | ((with_reducible apply wp_eV); rfl) | ((with_reducible apply wp_eOv); rfl) | ((with_reducible apply wp_eOo); rfl) | ((with_reducible apply wp_st); rfl; decide) | ((with_reducible apply wp_stSet); rfl) | ((with_reducible apply wp_fnS); rfl) | ((with_reducible apply ex_some); rfl) | ((with_reducible apply ex_sb); rfl) | ((with_reducible apply br_t); rfl) | ((with_reducible apply br_f); rfl) | ((with_reducible apply ex_some (mulB ?hh)); case hh => decide +kernel) | ((with_reducible apply ex_some (mulA ?hh)); case hh => decide +kernel) | ((with_reducible apply ex_some (rngL ?hh)); case hh => decide +kernel) | (refine ⟨rfl, ?_⟩)))
          refine ⟨_, _, rfl, _, .inl rfl, rfl, l ++ [49], num - w r, some (.val (.int (w r))), ?_, vld_snoc (.inr rfl) hv (fun _ h => by have := hlast h; omega), ?_, ?_, ?_, ?_, ?_⟩
          · have e : ((num - w r : Nat) : Int) = (num : Int) - (w r : Nat) := by omega
            rw [e]; rfl
          · cases l with
            | nil => simp
            | cons c l => simpa using hh
          · simp; omega
          · have := w_dbl r; omega
          · intro _
            cases r with
            | zero => have : w (0 + 1) = 2 := rfl; have : w 0 = 1 := rfl; show _ < w 0; omega
            | succ r => have : w (r + 1 + 1) = w r + w (r + 1) := rfl; show _ < w r; omega
          · rw [vs_snoc, if_pos rfl]; omega
        · have hb := of_decide_eq_false hb
          have hlt3 : num < w r := by omega
          (repeat (first | with_reducible (first | apply wp_seq | apply wp_sIf | apply wp_next | apply wp_ret | apply wp_set | apply wp_own | apply wp_par | apply wp_par3 | apply wp_asg | apply wp_for | apply wp_tVal | apply wp_tTru | apply wp_tAnd | apply wp_tOr | apply wp_tNot | apply wp_e2 | apply wp_e1 | apply wp_eC | apply wp_call | apply wp_cons | apply wp_nil | apply wp_mt | apply wp_sl | apply wp_pNo | apply wp_pAt | apply wp_rev | apply wp_eIf | apply wp_eAnd | apply wp_eOr | apply wp_eNot | apply wp_chain | apply wp_isi | apply wp_isi2 | apply wp_fn | apply wp_iOf | apply wp_iRng | apply wp_lc | apply wp_tup | apply wp_lst | apply wp_frz | apply ko_nx | apply ko_rt | apply kr_rt | apply kr_nx | apply ex_bool | apply ex_int) | ((with_reducible apply wp_eV); rfl) | ((with_reducible apply wp_eOv); rfl) | ((with_reducible apply wp_eOo); rfl) | ((with_reducible apply wp_st); rfl; decide) | ((with_reducible apply wp_stSet); rfl) | ((with_reducible apply wp_fnS); rfl) | ((with_reducible apply ex_some); rfl) | ((with_reducible apply ex_sb); rfl) | ((with_reducible apply br_t); rfl) | ((with_reducible apply br_f); rfl) | ((with_reducible apply ex_some (mulB ?hh)); case hh => decide +kernel) | ((with_reducible apply ex_some (mulA ?hh)); case hh => decide +kernel) | ((with_reducible apply ex_some (rngL ?hh)); case hh => decide +kernel) | (refine ⟨rfl, ?_⟩)))
          refine ex_some (z := decide (l ≠ [])) ?_ ?_
          · show (if okLen (S l).length = true then some (((S l).length : Int) != 0) else none) = _
            rw [if_pos (okl (by rw [S_len]; omega)), S_len]
            congr 1
            cases l <;> simp
            omega
          · by_cases hl : l = []
            · subst hl
              refine br_f (by simp) ?_
              (repeat (first | with_reducible (first | apply wp_seq | apply wp_sIf | apply wp_next | apply wp_ret | apply wp_set | apply wp_own | apply wp_par | apply wp_par3 | apply wp_asg | apply wp_for | apply wp_tVal | apply wp_tTru | apply wp_tAnd | apply wp_tOr | apply wp_tNot | apply wp_e2 | apply wp_e1 | apply wp_eC | apply wp_call | apply wp_cons | apply wp_nil | apply wp_mt | apply wp_sl | apply wp_pNo | apply wp_pAt | apply wp_rev | apply wp_eIf | apply wp_eAnd | apply wp_eOr | apply wp_eNot | apply wp_chain | apply wp_isi | apply wp_isi2 | apply wp_fn | apply wp_iOf | apply wp_iRng | apply wp_lc | apply wp_tup | apply wp_lst | apply wp_frz | apply ko_nx | apply ko_rt | apply kr_rt | apply kr_nx | apply ex_bool | apply ex_int) | ((with_reducible apply wp_eV); rfl) | ((with_reducible apply wp_eOv); rfl) | ((with_reducible apply wp_eOo); rfl) | ((with_reducible apply wp_st); rfl; decide) | ((with_reducible apply wp_stSet); rfl) | ((with_reducible apply wp_fnS); rfl) | ((with_reducible apply ex_some); rfl) | ((with_reducible apply ex_sb); rfl) | ((with_reducible apply br_t); rfl) | ((with_reducible apply br_f); rfl) | ((with_reducible apply ex_some (mulB ?hh)); case hh => decide +kernel) | ((with_reducible apply ex_some (mulA ?hh)); case hh => decide +kernel) | ((with_reducible apply ex_some (rngL ?hh)); case hh => decide +kernel) | (refine ⟨rfl, ?_⟩)))
              exact ⟨_, .inl rfl, rfl, [], num, _, rfl, rfl, by simp, by simp, by exact hlt3, by simp, by simpa [vs] using hval⟩
            · refine br_t (by simpa using hl) ?_
              refine wp_aug rfl ?_
              (repeat (first | with_reducible (first | apply wp_seq | apply wp_sIf | apply wp_next | apply wp_ret | apply wp_set | apply wp_own | apply wp_par | apply wp_par3 | apply wp_asg | apply wp_for | apply wp_tVal | apply wp_tTru | apply wp_tAnd | apply wp_tOr | apply wp_tNot | apply wp_e2 | apply wp_e1 | apply wp_eC | apply wp_call | apply wp_cons | apply wp_nil | apply wp_mt | apply wp_sl | apply wp_pNo | apply wp_pAt | apply wp_rev | apply wp_eIf | apply wp_eAnd | apply wp_eOr | apply wp_eNot | apply wp_chain | apply wp_isi | apply wp_isi2 | apply wp_fn | apply wp_iOf | apply wp_iRng | apply wp_lc | apply wp_tup | apply wp_lst | apply wp_frz | apply ko_nx | apply ko_rt | apply kr_rt | apply kr_nx | apply ex_bool | apply ex_int) | ((with_reducible apply wp_eV); rfl) | ((with_reducible apply wp_eOv); rfl) | ((with_reducible apply wp_eOo); rfl) | ((with_reducible apply wp_st); rfl; decide) | ((with_reducible apply wp_stSet); rfl) | ((with_reducible apply wp_fnS); rfl) | ((with_reducible apply ex_some); rfl) | ((with_reducible apply ex_sb); rfl) | ((with_reducible apply br_t); rfl) | ((with_reducible apply br_f); rfl) | ((with_reducible apply ex_some (mulB ?hh)); case hh => decide +kernel) | ((with_reducible apply ex_some (mulA ?hh)); case hh => decide +kernel) | ((with_reducible apply ex_some (rngL ?hh)); case hh => decide +kernel) | (refine ⟨rfl, ?_⟩)))
              have e0 : Str.ofString "0" = S [48] := by decide +kernel
              refine ex_some (z := .str (S (l ++ [48]))) ?_ ?_
              · rw [e0]
                show (if okLen ((S l).length + (S [48]).length) = true then _ else none) = _
                rw [if_pos (okl (by rw [S_len, S_len]; simp; omega)), S_cat]
              · refine ⟨_, .inl rfl, rfl, l ++ [48], num, _, rfl, vld_snoc (.inl rfl) hv (fun h => by cases h), ?_, by simp; omega, by exact hlt3, by simp, by rw [vs_snoc, if_neg (by decide)]; omega⟩
                cases l with
                | nil => exact absurd rfl hl
                | cons c l => simpa using hh
      · refine ⟨rfl, [], n, _, rfl, rfl, by simp, by simp, Nat.lt_of_lt_of_le hlt (w_mono (by omega)), by simp, by simp [vs]⟩
      · rintro env s'' ⟨rfl, l, num, v, rfl, hv, hh, hlt2, hnum, hlast, hval⟩
        rw [hrl] at hlt2 hnum hlast hval
        rw [Nat.sub_self] at hnum hval
        have n0 : num = 0 := by have : w 0 = 1 := rfl; omega
        subst n0
        (repeat (first | with_reducible (first | apply wp_seq | apply wp_sIf | apply wp_next | apply wp_ret | apply wp_set | apply wp_own | apply wp_par | apply wp_par3 | apply wp_asg | apply wp_for | apply wp_tVal | apply wp_tTru | apply wp_tAnd | apply wp_tOr | apply wp_tNot | apply wp_e2 | apply wp_e1 | apply wp_eC | apply wp_call | apply wp_cons | apply wp_nil | apply wp_mt | apply wp_sl | apply wp_pNo | apply wp_pAt | apply wp_rev | apply wp_eIf | apply wp_eAnd | apply wp_eOr | apply wp_eNot | apply wp_chain | apply wp_isi | apply wp_isi2 | apply wp_fn | apply wp_iOf | apply wp_iRng | apply wp_lc | apply wp_tup | apply wp_lst | apply wp_frz | apply ko_nx | apply ko_rt | apply kr_rt | apply kr_nx | apply ex_bool | apply ex_int) | ((with_reducible apply wp_eV); rfl) | ((with_reducible apply wp_eOv); rfl) | ((with_reducible apply wp_eOo); rfl) | ((with_reducible apply wp_st); rfl; decide) | ((with_reducible apply wp_stSet); rfl) | ((with_reducible apply wp_fnS); rfl) | ((with_reducible apply ex_some); rfl) | ((with_reducible apply ex_sb); rfl) | ((with_reducible apply br_t); rfl) | ((with_reducible apply br_f); rfl) | ((with_reducible apply ex_some (mulB ?hh)); case hh => decide +kernel) | ((with_reducible apply ex_some (mulA ?hh)); case hh => decide +kernel) | ((with_reducible apply ex_some (rngL ?hh)); case hh => decide +kernel) | (refine ⟨rfl, ?_⟩)))
        exact ⟨l, rfl, hv, hh, by omega, by omega⟩
  obtain ⟨a, e, l, rfl, z⟩ := pure_ex main (by
    rintro a b ⟨l, rfl, z⟩ ⟨m, rfl, z'⟩
    rw [z.uniq z'])
  exact ⟨l, e, z⟩
/-! the judge, the law's own look -/
theorem strOk_S {l : List Nat} (h : ∀ c ∈ l, c < 1114112) : PyData.strOk (S l) = true := by rw [strOk_iff]; simpa using h
theorem vld_mem : ∀ {l : List Nat}, vld l = true → ∀ c ∈ l, c = 48 ∨ c = 49
  | [], _, c, h => by simp at h
  | d :: r, h, c, hc => by
    rcases List.mem_cons.mp hc with rfl | hc
    · exact (vld_cons h).1
    · exact vld_mem (vld_cons h).2 c hc
theorem told_san {l : List Nat} (h : ∀ c ∈ l, c < 1114112) : San (l.length + 7) 1 (told l) := by
  have a : San (S l).length.succ 0 (.str (S l)) := San.str (strOk_S h)
  rw [S_len] at a
  have b : San (Str.length "text" + 1) 0 (.str "text") := San.str (by decide +kernel)
  have b4 : Str.length "text" = 4 := by decide +kernel
  exact ((Sans.cons b (.one a)).tup).mono (by omega) (Nat.le_refl _)
theorem eq_told {l : List Nat} {z : Str} (h : ∀ c ∈ l, c < 1114112) (hs : San 60000 13 (.tuple [.str "text", .str z])) : eqD (.tuple [.str "text", .str z]) (told l) = some (.bool (z == S l)) := by
  have e : eqD (.tuple [.str "text", .str z]) (told l) = some (.bool (PyData.eqv (.tuple [.str "text", .str z]) (told l))) := if_pos (by
    unfold okEq
    rw [shaped_san hs (by omega), shaped_san (told_san h) (by omega)]; simp)
  rw [e]
  simp [told, PyData.eqv, PyData.eqvAll]
theorem judge_text {F : List D → M D} {n : Int} {l : List Nat} (e : F [.int n] = pure (told l)) (hl : ∀ c ∈ l, c < 1114112) {d : D} (hd : Odd 60000 13 d) :
    runD 1 (sSeq (sSet 2 (eFn 1 F (aCons (eV 0) aNil))) (sRet (eAnd (eFn 3 f_is_told (aCons (eV 1) (aCons (eC (.str "text")) (aCons (eC (.int 2)) aNil)))) (eAnd (eIsi .str (e2 ixD (eV 1) (eC (.int 1)))) (e2 eqD (eV 1) (eV 2)))))) [.int n, d] = pure (.bool (pairS "text" (fun z => z == S l) d)) := by
  refine pure_of fun s => ?_
  apply wp_runD
  (repeat (first | with_reducible (first | apply wp_seq | apply wp_sIf | apply wp_next | apply wp_ret | apply wp_set | apply wp_own | apply wp_par | apply wp_par3 | apply wp_asg | apply wp_for | apply wp_tVal | apply wp_tTru | apply wp_tAnd | apply wp_tOr | apply wp_tNot | apply wp_e2 | apply wp_e1 | apply wp_eC | apply wp_call | apply wp_cons | apply wp_nil | apply wp_mt | apply wp_sl | apply wp_pNo | apply wp_pAt | apply wp_rev | apply wp_eIf | apply wp_eAnd | apply wp_eOr | apply wp_eNot | apply wp_chain | apply wp_isi | apply wp_isi2 | apply wp_fn | apply wp_iOf | apply wp_iRng | apply wp_lc | apply wp_tup | apply wp_lst | apply wp_frz | apply ko_nx | apply ko_rt | apply kr_rt | apply kr_nx | apply ex_bool | apply ex_int) | ((with_reducible apply wp_eV); rfl) | ((with_reducible apply wp_eOv); rfl) | ((with_reducible apply wp_eOo); rfl) | ((with_reducible apply wp_st); rfl; decide) | ((with_reducible apply wp_stSet); rfl) | ((with_reducible apply wp_fnS); rfl) | ((with_reducible apply ex_some); rfl) | ((with_reducible apply ex_sb); rfl) | ((with_reducible apply br_t); rfl) | ((with_reducible apply br_f); rfl) | ((with_reducible apply ex_some (mulB ?hh)); case hh => decide +kernel) | ((with_reducible apply ex_some (mulA ?hh)); case hh => decide +kernel) | ((with_reducible apply ex_some (rngL ?hh)); case hh => decide +kernel) | (refine ⟨rfl, ?_⟩)))
  refine wp_eq e (wp_pure ?_)
  (repeat (first | with_reducible (first | apply wp_seq | apply wp_sIf | apply wp_next | apply wp_ret | apply wp_set | apply wp_own | apply wp_par | apply wp_par3 | apply wp_asg | apply wp_for | apply wp_tVal | apply wp_tTru | apply wp_tAnd | apply wp_tOr | apply wp_tNot | apply wp_e2 | apply wp_e1 | apply wp_eC | apply wp_call | apply wp_cons | apply wp_nil | apply wp_mt | apply wp_sl | apply wp_pNo | apply wp_pAt | apply wp_rev | apply wp_eIf | apply wp_eAnd | apply wp_eOr | apply wp_eNot | apply wp_chain | apply wp_isi | apply wp_isi2 | apply wp_fn | apply wp_iOf | apply wp_iRng | apply wp_lc | apply wp_tup | apply wp_lst | apply wp_frz | apply ko_nx | apply ko_rt | apply kr_rt | apply kr_nx | apply ex_bool | apply ex_int) | ((with_reducible apply wp_eV); rfl) | ((with_reducible apply wp_eOv); rfl) | ((with_reducible apply wp_eOo); rfl) | ((with_reducible apply wp_st); rfl; decide) | ((with_reducible apply wp_stSet); rfl) | ((with_reducible apply wp_fnS); rfl) | ((with_reducible apply ex_some); rfl) | ((with_reducible apply ex_sb); rfl) | ((with_reducible apply br_t); rfl) | ((with_reducible apply br_f); rfl) | ((with_reducible apply ex_some (mulB ?hh)); case hh => decide +kernel) | ((with_reducible apply ex_some (mulA ?hh)); case hh => decide +kernel) | ((with_reducible apply ex_some (rngL ?hh)); case hh => decide +kernel) | (refine ⟨rfl, ?_⟩)))
  refine wp_eq (is_told_eq d "text" 2 (by decide)) (wp_pure ?_)
  cases h : toldB "text" 2 d with
  | false => (repeat (first | with_reducible (first | apply wp_seq | apply wp_sIf | apply wp_next | apply wp_ret | apply wp_set | apply wp_own | apply wp_par | apply wp_par3 | apply wp_asg | apply wp_for | apply wp_tVal | apply wp_tTru | apply wp_tAnd | apply wp_tOr | apply wp_tNot | apply wp_e2 | apply wp_e1 | apply wp_eC | apply wp_call | apply wp_cons | apply wp_nil | apply wp_mt | apply wp_sl | apply wp_pNo | apply wp_pAt | apply wp_rev | apply wp_eIf | apply wp_eAnd | apply wp_eOr | apply wp_eNot | apply wp_chain | apply wp_isi | apply wp_isi2 | apply wp_fn | apply wp_iOf | apply wp_iRng | apply wp_lc | apply wp_tup | apply wp_lst | apply wp_frz | apply ko_nx | apply ko_rt | apply kr_rt | apply kr_nx | apply ex_bool | apply ex_int) | ((with_reducible apply wp_eV); rfl) | ((with_reducible apply wp_eOv); rfl) | ((with_reducible apply wp_eOo); rfl) | ((with_reducible apply wp_st); rfl; decide) | ((with_reducible apply wp_stSet); rfl) | ((with_reducible apply wp_fnS); rfl) | ((with_reducible apply ex_some); rfl) | ((with_reducible apply ex_sb); rfl) | ((with_reducible apply br_t); rfl) | ((with_reducible apply br_f); rfl) | ((with_reducible apply ex_some (mulB ?hh)); case hh => decide +kernel) | ((with_reducible apply ex_some (mulA ?hh)); case hh => decide +kernel) | ((with_reducible apply ex_some (rngL ?hh)); case hh => decide +kernel) | (refine ⟨rfl, ?_⟩))); rw [pairS_no h]
  | true =>
    obtain ⟨x, rfl⟩ := toldB_two h
    (repeat (first | with_reducible (first | apply wp_seq | apply wp_sIf | apply wp_next | apply wp_ret | apply wp_set | apply wp_own | apply wp_par | apply wp_par3 | apply wp_asg | apply wp_for | apply wp_tVal | apply wp_tTru | apply wp_tAnd | apply wp_tOr | apply wp_tNot | apply wp_e2 | apply wp_e1 | apply wp_eC | apply wp_call | apply wp_cons | apply wp_nil | apply wp_mt | apply wp_sl | apply wp_pNo | apply wp_pAt | apply wp_rev | apply wp_eIf | apply wp_eAnd | apply wp_eOr | apply wp_eNot | apply wp_chain | apply wp_isi | apply wp_isi2 | apply wp_fn | apply wp_iOf | apply wp_iRng | apply wp_lc | apply wp_tup | apply wp_lst | apply wp_frz | apply ko_nx | apply ko_rt | apply kr_rt | apply kr_nx | apply ex_bool | apply ex_int) | ((with_reducible apply wp_eV); rfl) | ((with_reducible apply wp_eOv); rfl) | ((with_reducible apply wp_eOo); rfl) | ((with_reducible apply wp_st); rfl; decide) | ((with_reducible apply wp_stSet); rfl) | ((with_reducible apply wp_fnS); rfl) | ((with_reducible apply ex_some); rfl) | ((with_reducible apply ex_sb); rfl) | ((with_reducible apply br_t); rfl) | ((with_reducible apply br_f); rfl) | ((with_reducible apply ex_some (mulB ?hh)); case hh => decide +kernel) | ((with_reducible apply ex_some (mulA ?hh)); case hh => decide +kernel) | ((with_reducible apply ex_some (rngL ?hh)); case hh => decide +kernel) | (refine ⟨rfl, ?_⟩)))
    cases x with
    | str z =>
      (repeat (first | with_reducible (first | apply wp_seq | apply wp_sIf | apply wp_next | apply wp_ret | apply wp_set | apply wp_own | apply wp_par | apply wp_par3 | apply wp_asg | apply wp_for | apply wp_tVal | apply wp_tTru | apply wp_tAnd | apply wp_tOr | apply wp_tNot | apply wp_e2 | apply wp_e1 | apply wp_eC | apply wp_call | apply wp_cons | apply wp_nil | apply wp_mt | apply wp_sl | apply wp_pNo | apply wp_pAt | apply wp_rev | apply wp_eIf | apply wp_eAnd | apply wp_eOr | apply wp_eNot | apply wp_chain | apply wp_isi | apply wp_isi2 | apply wp_fn | apply wp_iOf | apply wp_iRng | apply wp_lc | apply wp_tup | apply wp_lst | apply wp_frz | apply ko_nx | apply ko_rt | apply kr_rt | apply kr_nx | apply ex_bool | apply ex_int) | ((with_reducible apply wp_eV); rfl) | ((with_reducible apply wp_eOv); rfl) | ((with_reducible apply wp_eOo); rfl) | ((with_reducible apply wp_st); rfl; decide) | ((with_reducible apply wp_stSet); rfl) | ((with_reducible apply wp_fnS); rfl) | ((with_reducible apply ex_some); rfl) | ((with_reducible apply ex_sb); rfl) | ((with_reducible apply br_t); rfl) | ((with_reducible apply br_f); rfl) | ((with_reducible apply ex_some (mulB ?hh)); case hh => decide +kernel) | ((with_reducible apply ex_some (mulA ?hh)); case hh => decide +kernel) | ((with_reducible apply ex_some (rngL ?hh)); case hh => decide +kernel) | (refine ⟨rfl, ?_⟩)))
      refine ex_some (eq_told hl (odd_tup hd)) ?_
      (repeat (first | with_reducible (first | apply wp_seq | apply wp_sIf | apply wp_next | apply wp_ret | apply wp_set | apply wp_own | apply wp_par | apply wp_par3 | apply wp_asg | apply wp_for | apply wp_tVal | apply wp_tTru | apply wp_tAnd | apply wp_tOr | apply wp_tNot | apply wp_e2 | apply wp_e1 | apply wp_eC | apply wp_call | apply wp_cons | apply wp_nil | apply wp_mt | apply wp_sl | apply wp_pNo | apply wp_pAt | apply wp_rev | apply wp_eIf | apply wp_eAnd | apply wp_eOr | apply wp_eNot | apply wp_chain | apply wp_isi | apply wp_isi2 | apply wp_fn | apply wp_iOf | apply wp_iRng | apply wp_lc | apply wp_tup | apply wp_lst | apply wp_frz | apply ko_nx | apply ko_rt | apply kr_rt | apply kr_nx | apply ex_bool | apply ex_int) | ((with_reducible apply wp_eV); rfl) | ((with_reducible apply wp_eOv); rfl) | ((with_reducible apply wp_eOo); rfl) | ((with_reducible apply wp_st); rfl; decide) | ((with_reducible apply wp_stSet); rfl) | ((with_reducible apply wp_fnS); rfl) | ((with_reducible apply ex_some); rfl) | ((with_reducible apply ex_sb); rfl) | ((with_reducible apply br_t); rfl) | ((with_reducible apply br_f); rfl) | ((with_reducible apply ex_some (mulB ?hh)); case hh => decide +kernel) | ((with_reducible apply ex_some (mulA ?hh)); case hh => decide +kernel) | ((with_reducible apply ex_some (rngL ?hh)); case hh => decide +kernel) | (refine ⟨rfl, ?_⟩)))
      rw [pairS_self]
    | _ => (repeat (first | with_reducible (first | apply wp_seq | apply wp_sIf | apply wp_next | apply wp_ret | apply wp_set | apply wp_own | apply wp_par | apply wp_par3 | apply wp_asg | apply wp_for | apply wp_tVal | apply wp_tTru | apply wp_tAnd | apply wp_tOr | apply wp_tNot | apply wp_e2 | apply wp_e1 | apply wp_eC | apply wp_call | apply wp_cons | apply wp_nil | apply wp_mt | apply wp_sl | apply wp_pNo | apply wp_pAt | apply wp_rev | apply wp_eIf | apply wp_eAnd | apply wp_eOr | apply wp_eNot | apply wp_chain | apply wp_isi | apply wp_isi2 | apply wp_fn | apply wp_iOf | apply wp_iRng | apply wp_lc | apply wp_tup | apply wp_lst | apply wp_frz | apply ko_nx | apply ko_rt | apply kr_rt | apply kr_nx | apply ex_bool | apply ex_int) | ((with_reducible apply wp_eV); rfl) | ((with_reducible apply wp_eOv); rfl) | ((with_reducible apply wp_eOo); rfl) | ((with_reducible apply wp_st); rfl; decide) | ((with_reducible apply wp_stSet); rfl) | ((with_reducible apply wp_fnS); rfl) | ((with_reducible apply ex_some); rfl) | ((with_reducible apply ex_sb); rfl) | ((with_reducible apply br_t); rfl) | ((with_reducible apply br_f); rfl) | ((with_reducible apply ex_some (mulB ?hh)); case hh => decide +kernel) | ((with_reducible apply ex_some (mulA ?hh)); case hh => decide +kernel) | ((with_reducible apply ex_some (rngL ?hh)); case hh => decide +kernel) | (refine ⟨rfl, ?_⟩))); rfl
theorem judge_steps {n : Nat} {l : List Nat} (e : f_in_steps [.int n] = pure (told l)) (hl : ∀ c ∈ l, c < 1114112) {d : D} (hd : Odd 60000 13 d) : f_judge_in_steps [.int n, d] = pure (.bool (pairS "text" (fun z => z == S l) d)) := judge_text e hl hd
/-- the look: signs of a set -/
def noSign (T : List Nat) : D → Bool
  | .str x => !hasSub (S T) x
  | _ => false
theorem filter_signs {T l : List Nat} : ((signsD (S l)).filter (noSign T)).isEmpty = l.all fun c => decide (c ∈ T) := by
  rw [Bool.eq_iff_iff, plain_filter, List.all_eq_true]
  constructor
  · intro h c hc
    have := h (.str (one c)) (List.mem_map.mpr ⟨c, by simpa using hc, rfl⟩)
    simp only [noSign, hasSub_one] at this
    simpa using this
  · intro h x hx
    obtain ⟨c, hc, rfl⟩ := List.mem_map.mp hx
    have := h c (by simpa using hc)
    simp only [noSign, hasSub_one]
    simpa using this
def acc (n : Nat) (l : List Nat) : Bool := decide (l.length ≤ 40) && (vld l && l.head? != some 48 && decide (vs l 0 = n))
theorem vld_iff : ∀ {l : List Nat}, vld l = true ↔ (l.all fun c => decide (c ∈ [48, 49])) = true ∧ ¬ ∃ i, l[i]? = some 49 ∧ l[i + 1]? = some 49
  | [] => by simp [vld]
  | c :: r => by
    simp only [vld, Bool.and_eq_true, vld_iff (l := r), List.all_cons]
    constructor
    · rintro ⟨h1, h2, h3⟩
      refine ⟨⟨by simp at h1 ⊢; rcases h1 with h | h; exact .inl h; exact .inr h.1, h2⟩, ?_⟩
      rintro ⟨i, a, b⟩
      cases i with
      | zero =>
        have a : c = 49 := by simpa using a
        have b9 : r.head? = some 49 := by rw [List.head?_eq_getElem?]; exact b
        subst a
        have h1 : ¬ r.head? = some 49 := by simpa using h1
        exact absurd b9 h1
      | succ i => exact h3 ⟨i, by simpa using a, by simpa using b⟩
    · rintro ⟨⟨h1, h2⟩, h3⟩
      refine ⟨?_, h2, fun ⟨i, a, b⟩ => h3 ⟨i + 1, by simpa using a, by simpa using b⟩⟩
      have h1 : c = 48 ∨ c = 49 := by simpa using h1
      rcases h1 with rfl | rfl
      · rfl
      · have : r.head? ≠ some 49 := fun h => h3 ⟨0, rfl, by show r[0]? = some 49; rw [← List.head?_eq_getElem?]; exact h⟩
        simpa using this
theorem acc_eq {n : Nat} {d : D} (hd : Odd 60000 13 d) : f_law_accepts [.int n, d] = pure (.bool (pairS "text" (fun z => acc n z.cps.toList) d)) := by
  refine pure_of fun s => ?_
  unfold f_law_accepts
  apply wp_runD
  unfold b_law_accepts
  (repeat (first | with_reducible (first | apply wp_seq | apply wp_sIf | apply wp_next | apply wp_ret | apply wp_set | apply wp_own | apply wp_par | apply wp_par3 | apply wp_asg | apply wp_for | apply wp_tVal | apply wp_tTru | apply wp_tAnd | apply wp_tOr | apply wp_tNot | apply wp_e2 | apply wp_e1 | apply wp_eC | apply wp_call | apply wp_cons | apply wp_nil | apply wp_mt | apply wp_sl | apply wp_pNo | apply wp_pAt | apply wp_rev | apply wp_eIf | apply wp_eAnd | apply wp_eOr | apply wp_eNot | apply wp_chain | apply wp_isi | apply wp_isi2 | apply wp_fn | apply wp_iOf | apply wp_iRng | apply wp_lc | apply wp_tup | apply wp_lst | apply wp_frz | apply ko_nx | apply ko_rt | apply kr_rt | apply kr_nx | apply ex_bool | apply ex_int) | ((with_reducible apply wp_eV); rfl) | ((with_reducible apply wp_eOv); rfl) | ((with_reducible apply wp_eOo); rfl) | ((with_reducible apply wp_st); rfl; decide) | ((with_reducible apply wp_stSet); rfl) | ((with_reducible apply wp_fnS); rfl) | ((with_reducible apply ex_some); rfl) | ((with_reducible apply ex_sb); rfl) | ((with_reducible apply br_t); rfl) | ((with_reducible apply br_f); rfl) | ((with_reducible apply ex_some (mulB ?hh)); case hh => decide +kernel) | ((with_reducible apply ex_some (mulA ?hh)); case hh => decide +kernel) | ((with_reducible apply ex_some (rngL ?hh)); case hh => decide +kernel) | (refine ⟨rfl, ?_⟩)))
  refine wp_eq (law_is_eq d "text" 2 (by decide)) (wp_pure ?_)
  cases h : toldB "text" 2 d with
  | false => (repeat (first | with_reducible (first | apply wp_seq | apply wp_sIf | apply wp_next | apply wp_ret | apply wp_set | apply wp_own | apply wp_par | apply wp_par3 | apply wp_asg | apply wp_for | apply wp_tVal | apply wp_tTru | apply wp_tAnd | apply wp_tOr | apply wp_tNot | apply wp_e2 | apply wp_e1 | apply wp_eC | apply wp_call | apply wp_cons | apply wp_nil | apply wp_mt | apply wp_sl | apply wp_pNo | apply wp_pAt | apply wp_rev | apply wp_eIf | apply wp_eAnd | apply wp_eOr | apply wp_eNot | apply wp_chain | apply wp_isi | apply wp_isi2 | apply wp_fn | apply wp_iOf | apply wp_iRng | apply wp_lc | apply wp_tup | apply wp_lst | apply wp_frz | apply ko_nx | apply ko_rt | apply kr_rt | apply kr_nx | apply ex_bool | apply ex_int) | ((with_reducible apply wp_eV); rfl) | ((with_reducible apply wp_eOv); rfl) | ((with_reducible apply wp_eOo); rfl) | ((with_reducible apply wp_st); rfl; decide) | ((with_reducible apply wp_stSet); rfl) | ((with_reducible apply wp_fnS); rfl) | ((with_reducible apply ex_some); rfl) | ((with_reducible apply ex_sb); rfl) | ((with_reducible apply br_t); rfl) | ((with_reducible apply br_f); rfl) | ((with_reducible apply ex_some (mulB ?hh)); case hh => decide +kernel) | ((with_reducible apply ex_some (mulA ?hh)); case hh => decide +kernel) | ((with_reducible apply ex_some (rngL ?hh)); case hh => decide +kernel) | (refine ⟨rfl, ?_⟩))); rw [pairS_no h]
  | true =>
    obtain ⟨x, rfl⟩ := toldB_two h
    have so := (odd_tup hd).ofTup
    (repeat (first | with_reducible (first | apply wp_seq | apply wp_sIf | apply wp_next | apply wp_ret | apply wp_set | apply wp_own | apply wp_par | apply wp_par3 | apply wp_asg | apply wp_for | apply wp_tVal | apply wp_tTru | apply wp_tAnd | apply wp_tOr | apply wp_tNot | apply wp_e2 | apply wp_e1 | apply wp_eC | apply wp_call | apply wp_cons | apply wp_nil | apply wp_mt | apply wp_sl | apply wp_pNo | apply wp_pAt | apply wp_rev | apply wp_eIf | apply wp_eAnd | apply wp_eOr | apply wp_eNot | apply wp_chain | apply wp_isi | apply wp_isi2 | apply wp_fn | apply wp_iOf | apply wp_iRng | apply wp_lc | apply wp_tup | apply wp_lst | apply wp_frz | apply ko_nx | apply ko_rt | apply kr_rt | apply kr_nx | apply ex_bool | apply ex_int) | ((with_reducible apply wp_eV); rfl) | ((with_reducible apply wp_eOv); rfl) | ((with_reducible apply wp_eOo); rfl) | ((with_reducible apply wp_st); rfl; decide) | ((with_reducible apply wp_stSet); rfl) | ((with_reducible apply wp_fnS); rfl) | ((with_reducible apply ex_some); rfl) | ((with_reducible apply ex_sb); rfl) | ((with_reducible apply br_t); rfl) | ((with_reducible apply br_f); rfl) | ((with_reducible apply ex_some (mulB ?hh)); case hh => decide +kernel) | ((with_reducible apply ex_some (mulA ?hh)); case hh => decide +kernel) | ((with_reducible apply ex_some (rngL ?hh)); case hh => decide +kernel) | (refine ⟨rfl, ?_⟩)))
    refine wp_eq (is_text_eq x) (wp_pure ?_)
    cases x with
    | str z =>
      rw [pairS_self]
      obtain ⟨l, rfl⟩ : ∃ l, z = S l := ⟨z.cps.toList, (S_tl z).symm⟩
      have el : (S l).cps.toList = l := by simp
      have sx := so.mem (d := .str (S l)) (by simp)
      have hlen : l.length ≤ 60000 := by have := sx.w; have e : wt (.str (S l)) = (S l).length + 1 := rfl; rw [e, S_len] at this; omega
      have hlS : (S l).length = l.length := S_len l
      rw [el]
      (repeat (first | with_reducible (first | apply wp_seq | apply wp_sIf | apply wp_next | apply wp_ret | apply wp_set | apply wp_own | apply wp_par | apply wp_par3 | apply wp_asg | apply wp_for | apply wp_tVal | apply wp_tTru | apply wp_tAnd | apply wp_tOr | apply wp_tNot | apply wp_e2 | apply wp_e1 | apply wp_eC | apply wp_call | apply wp_cons | apply wp_nil | apply wp_mt | apply wp_sl | apply wp_pNo | apply wp_pAt | apply wp_rev | apply wp_eIf | apply wp_eAnd | apply wp_eOr | apply wp_eNot | apply wp_chain | apply wp_isi | apply wp_isi2 | apply wp_fn | apply wp_iOf | apply wp_iRng | apply wp_lc | apply wp_tup | apply wp_lst | apply wp_frz | apply ko_nx | apply ko_rt | apply kr_rt | apply kr_nx | apply ex_bool | apply ex_int) | ((with_reducible apply wp_eV); rfl) | ((with_reducible apply wp_eOv); rfl) | ((with_reducible apply wp_eOo); rfl) | ((with_reducible apply wp_st); rfl; decide) | ((with_reducible apply wp_stSet); rfl) | ((with_reducible apply wp_fnS); rfl) | ((with_reducible apply ex_some); rfl) | ((with_reducible apply ex_sb); rfl) | ((with_reducible apply br_t); rfl) | ((with_reducible apply br_f); rfl) | ((with_reducible apply ex_some (mulB ?hh)); case hh => decide +kernel) | ((with_reducible apply ex_some (mulA ?hh)); case hh => decide +kernel) | ((with_reducible apply ex_some (rngL ?hh)); case hh => decide +kernel) | (refine ⟨rfl, ?_⟩)))
      refine ex_some (len_str (by omega)) ?_
      (repeat (first | with_reducible (first | apply wp_seq | apply wp_sIf | apply wp_next | apply wp_ret | apply wp_set | apply wp_own | apply wp_par | apply wp_par3 | apply wp_asg | apply wp_for | apply wp_tVal | apply wp_tTru | apply wp_tAnd | apply wp_tOr | apply wp_tNot | apply wp_e2 | apply wp_e1 | apply wp_eC | apply wp_call | apply wp_cons | apply wp_nil | apply wp_mt | apply wp_sl | apply wp_pNo | apply wp_pAt | apply wp_rev | apply wp_eIf | apply wp_eAnd | apply wp_eOr | apply wp_eNot | apply wp_chain | apply wp_isi | apply wp_isi2 | apply wp_fn | apply wp_iOf | apply wp_iRng | apply wp_lc | apply wp_tup | apply wp_lst | apply wp_frz | apply ko_nx | apply ko_rt | apply kr_rt | apply kr_nx | apply ex_bool | apply ex_int) | ((with_reducible apply wp_eV); rfl) | ((with_reducible apply wp_eOv); rfl) | ((with_reducible apply wp_eOo); rfl) | ((with_reducible apply wp_st); rfl; decide) | ((with_reducible apply wp_stSet); rfl) | ((with_reducible apply wp_fnS); rfl) | ((with_reducible apply ex_some); rfl) | ((with_reducible apply ex_sb); rfl) | ((with_reducible apply br_t); rfl) | ((with_reducible apply br_f); rfl) | ((with_reducible apply ex_some (mulB ?hh)); case hh => decide +kernel) | ((with_reducible apply ex_some (mulA ?hh)); case hh => decide +kernel) | ((with_reducible apply ex_some (rngL ?hh)); case hh => decide +kernel) | (refine ⟨rfl, ?_⟩)))
      rw [hlS]
      refine ⟨fun hb => ?_, fun hb => ?_⟩
      · have hb := of_decide_eq_true hb
        (repeat (first | with_reducible (first | apply wp_seq | apply wp_sIf | apply wp_next | apply wp_ret | apply wp_set | apply wp_own | apply wp_par | apply wp_par3 | apply wp_asg | apply wp_for | apply wp_tVal | apply wp_tTru | apply wp_tAnd | apply wp_tOr | apply wp_tNot | apply wp_e2 | apply wp_e1 | apply wp_eC | apply wp_call | apply wp_cons | apply wp_nil | apply wp_mt | apply wp_sl | apply wp_pNo | apply wp_pAt | apply wp_rev | apply wp_eIf | apply wp_eAnd | apply wp_eOr | apply wp_eNot | apply wp_chain | apply wp_isi | apply wp_isi2 | apply wp_fn | apply wp_iOf | apply wp_iRng | apply wp_lc | apply wp_tup | apply wp_lst | apply wp_frz | apply ko_nx | apply ko_rt | apply kr_rt | apply kr_nx | apply ex_bool | apply ex_int) | ((with_reducible apply wp_eV); rfl) | ((with_reducible apply wp_eOv); rfl) | ((with_reducible apply wp_eOo); rfl) | ((with_reducible apply wp_st); rfl; decide) | ((with_reducible apply wp_stSet); rfl) | ((with_reducible apply wp_fnS); rfl) | ((with_reducible apply ex_some); rfl) | ((with_reducible apply ex_sb); rfl) | ((with_reducible apply br_t); rfl) | ((with_reducible apply br_f); rfl) | ((with_reducible apply ex_some (mulB ?hh)); case hh => decide +kernel) | ((with_reducible apply ex_some (mulA ?hh)); case hh => decide +kernel) | ((with_reducible apply ex_some (rngL ?hh)); case hh => decide +kernel) | (refine ⟨rfl, ?_⟩)))
        have : ¬ l.length ≤ 40 := by omega
        simp [acc, this]
      · have hb : l.length ≤ 40 := by have := of_decide_eq_false hb; omega
        have sg : Sans (2 * (S l).length) 12 (signsD (S l)) := signs_san sx.strOk
        have sl : (signsD (S l)).length = l.length := by rw [signsD, List.length_map, el]
        (repeat (first | with_reducible (first | apply wp_seq | apply wp_sIf | apply wp_next | apply wp_ret | apply wp_set | apply wp_own | apply wp_par | apply wp_par3 | apply wp_asg | apply wp_for | apply wp_tVal | apply wp_tTru | apply wp_tAnd | apply wp_tOr | apply wp_tNot | apply wp_e2 | apply wp_e1 | apply wp_eC | apply wp_call | apply wp_cons | apply wp_nil | apply wp_mt | apply wp_sl | apply wp_pNo | apply wp_pAt | apply wp_rev | apply wp_eIf | apply wp_eAnd | apply wp_eOr | apply wp_eNot | apply wp_chain | apply wp_isi | apply wp_isi2 | apply wp_fn | apply wp_iOf | apply wp_iRng | apply wp_lc | apply wp_tup | apply wp_lst | apply wp_frz | apply ko_nx | apply ko_rt | apply kr_rt | apply kr_nx | apply ex_bool | apply ex_int) | ((with_reducible apply wp_eV); rfl) | ((with_reducible apply wp_eOv); rfl) | ((with_reducible apply wp_eOo); rfl) | ((with_reducible apply wp_st); rfl; decide) | ((with_reducible apply wp_stSet); rfl) | ((with_reducible apply wp_fnS); rfl) | ((with_reducible apply ex_some); rfl) | ((with_reducible apply ex_sb); rfl) | ((with_reducible apply br_t); rfl) | ((with_reducible apply br_f); rfl) | ((with_reducible apply ex_some (mulB ?hh)); case hh => decide +kernel) | ((with_reducible apply ex_some (mulA ?hh)); case hh => decide +kernel) | ((with_reducible apply ex_some (rngL ?hh)); case hh => decide +kernel) | (refine ⟨rfl, ?_⟩)))
        refine ⟨decide_eq_true (by rw [sl]; omega), ?_⟩
        refine wp_eq (lcGo_pure (p := noSign [48, 49]) (f := id) ?_) (wp_pure ?_)
        · intro d hd
          obtain ⟨c, hc, rfl⟩ := List.mem_map.mp hd
          refine ⟨_, rfl, ?_, fun _ => rfl⟩
          refine pure_of fun s => ?_
          have e01 : Str.ofString "01" = S [48, 49] := by decide +kernel
          (repeat (first | with_reducible (first | apply wp_seq | apply wp_sIf | apply wp_next | apply wp_ret | apply wp_set | apply wp_own | apply wp_par | apply wp_par3 | apply wp_asg | apply wp_for | apply wp_tVal | apply wp_tTru | apply wp_tAnd | apply wp_tOr | apply wp_tNot | apply wp_e2 | apply wp_e1 | apply wp_eC | apply wp_call | apply wp_cons | apply wp_nil | apply wp_mt | apply wp_sl | apply wp_pNo | apply wp_pAt | apply wp_rev | apply wp_eIf | apply wp_eAnd | apply wp_eOr | apply wp_eNot | apply wp_chain | apply wp_isi | apply wp_isi2 | apply wp_fn | apply wp_iOf | apply wp_iRng | apply wp_lc | apply wp_tup | apply wp_lst | apply wp_frz | apply ko_nx | apply ko_rt | apply kr_rt | apply kr_nx | apply ex_bool | apply ex_int) | ((with_reducible apply wp_eV); rfl) | ((with_reducible apply wp_eOv); rfl) | ((with_reducible apply wp_eOo); rfl) | ((with_reducible apply wp_st); rfl; decide) | ((with_reducible apply wp_stSet); rfl) | ((with_reducible apply wp_fnS); rfl) | ((with_reducible apply ex_some); rfl) | ((with_reducible apply ex_sb); rfl) | ((with_reducible apply br_t); rfl) | ((with_reducible apply br_f); rfl) | ((with_reducible apply ex_some (mulB ?hh)); case hh => decide +kernel) | ((with_reducible apply ex_some (mulA ?hh)); case hh => decide +kernel) | ((with_reducible apply ex_some (rngL ?hh)); case hh => decide +kernel) | (refine ⟨rfl, ?_⟩)))
          rw [noSign, ← e01]
        · rw [List.map_id]
          (repeat (first | with_reducible (first | apply wp_seq | apply wp_sIf | apply wp_next | apply wp_ret | apply wp_set | apply wp_own | apply wp_par | apply wp_par3 | apply wp_asg | apply wp_for | apply wp_tVal | apply wp_tTru | apply wp_tAnd | apply wp_tOr | apply wp_tNot | apply wp_e2 | apply wp_e1 | apply wp_eC | apply wp_call | apply wp_cons | apply wp_nil | apply wp_mt | apply wp_sl | apply wp_pNo | apply wp_pAt | apply wp_rev | apply wp_eIf | apply wp_eAnd | apply wp_eOr | apply wp_eNot | apply wp_chain | apply wp_isi | apply wp_isi2 | apply wp_fn | apply wp_iOf | apply wp_iRng | apply wp_lc | apply wp_tup | apply wp_lst | apply wp_frz | apply ko_nx | apply ko_rt | apply kr_rt | apply kr_nx | apply ex_bool | apply ex_int) | ((with_reducible apply wp_eV); rfl) | ((with_reducible apply wp_eOv); rfl) | ((with_reducible apply wp_eOo); rfl) | ((with_reducible apply wp_st); rfl; decide) | ((with_reducible apply wp_stSet); rfl) | ((with_reducible apply wp_fnS); rfl) | ((with_reducible apply ex_some); rfl) | ((with_reducible apply ex_sb); rfl) | ((with_reducible apply br_t); rfl) | ((with_reducible apply br_f); rfl) | ((with_reducible apply ex_some (mulB ?hh)); case hh => decide +kernel) | ((with_reducible apply ex_some (mulA ?hh)); case hh => decide +kernel) | ((with_reducible apply ex_some (rngL ?hh)); case hh => decide +kernel) | (refine ⟨rfl, ?_⟩)))
          refine ex_some (ne_emptyL (sg.sub List.filter_sublist).lst (by omega)) ?_
          (repeat (first | with_reducible (first | apply wp_seq | apply wp_sIf | apply wp_next | apply wp_ret | apply wp_set | apply wp_own | apply wp_par | apply wp_par3 | apply wp_asg | apply wp_for | apply wp_tVal | apply wp_tTru | apply wp_tAnd | apply wp_tOr | apply wp_tNot | apply wp_e2 | apply wp_e1 | apply wp_eC | apply wp_call | apply wp_cons | apply wp_nil | apply wp_mt | apply wp_sl | apply wp_pNo | apply wp_pAt | apply wp_rev | apply wp_eIf | apply wp_eAnd | apply wp_eOr | apply wp_eNot | apply wp_chain | apply wp_isi | apply wp_isi2 | apply wp_fn | apply wp_iOf | apply wp_iRng | apply wp_lc | apply wp_tup | apply wp_lst | apply wp_frz | apply ko_nx | apply ko_rt | apply kr_rt | apply kr_nx | apply ex_bool | apply ex_int) | ((with_reducible apply wp_eV); rfl) | ((with_reducible apply wp_eOv); rfl) | ((with_reducible apply wp_eOo); rfl) | ((with_reducible apply wp_st); rfl; decide) | ((with_reducible apply wp_stSet); rfl) | ((with_reducible apply wp_fnS); rfl) | ((with_reducible apply ex_some); rfl) | ((with_reducible apply ex_sb); rfl) | ((with_reducible apply br_t); rfl) | ((with_reducible apply br_f); rfl) | ((with_reducible apply ex_some (mulB ?hh)); case hh => decide +kernel) | ((with_reducible apply ex_some (mulA ?hh)); case hh => decide +kernel) | ((with_reducible apply ex_some (rngL ?hh)); case hh => decide +kernel) | (refine ⟨rfl, ?_⟩)))
          rw [filter_signs]
          cases hall : (l.all fun c => decide (c ∈ [48, 49])) with
          | false =>
            refine br_t rfl ?_
            (repeat (first | with_reducible (first | apply wp_seq | apply wp_sIf | apply wp_next | apply wp_ret | apply wp_set | apply wp_own | apply wp_par | apply wp_par3 | apply wp_asg | apply wp_for | apply wp_tVal | apply wp_tTru | apply wp_tAnd | apply wp_tOr | apply wp_tNot | apply wp_e2 | apply wp_e1 | apply wp_eC | apply wp_call | apply wp_cons | apply wp_nil | apply wp_mt | apply wp_sl | apply wp_pNo | apply wp_pAt | apply wp_rev | apply wp_eIf | apply wp_eAnd | apply wp_eOr | apply wp_eNot | apply wp_chain | apply wp_isi | apply wp_isi2 | apply wp_fn | apply wp_iOf | apply wp_iRng | apply wp_lc | apply wp_tup | apply wp_lst | apply wp_frz | apply ko_nx | apply ko_rt | apply kr_rt | apply kr_nx | apply ex_bool | apply ex_int) | ((with_reducible apply wp_eV); rfl) | ((with_reducible apply wp_eOv); rfl) | ((with_reducible apply wp_eOo); rfl) | ((with_reducible apply wp_st); rfl; decide) | ((with_reducible apply wp_stSet); rfl) | ((with_reducible apply wp_fnS); rfl) | ((with_reducible apply ex_some); rfl) | ((with_reducible apply ex_sb); rfl) | ((with_reducible apply br_t); rfl) | ((with_reducible apply br_f); rfl) | ((with_reducible apply ex_some (mulB ?hh)); case hh => decide +kernel) | ((with_reducible apply ex_some (mulA ?hh)); case hh => decide +kernel) | ((with_reducible apply ex_some (rngL ?hh)); case hh => decide +kernel) | (refine ⟨rfl, ?_⟩)))
            have : vld l = false := by
              cases hv : vld l with
              | false => rfl
              | true => rw [(vld_iff.mp hv).1] at hall; cases hall
            simp [acc, this]
          | true =>
            refine br_f rfl ?_
            (repeat (first | with_reducible (first | apply wp_seq | apply wp_sIf | apply wp_next | apply wp_ret | apply wp_set | apply wp_own | apply wp_par | apply wp_par3 | apply wp_asg | apply wp_for | apply wp_tVal | apply wp_tTru | apply wp_tAnd | apply wp_tOr | apply wp_tNot | apply wp_e2 | apply wp_e1 | apply wp_eC | apply wp_call | apply wp_cons | apply wp_nil | apply wp_mt | apply wp_sl | apply wp_pNo | apply wp_pAt | apply wp_rev | apply wp_eIf | apply wp_eAnd | apply wp_eOr | apply wp_eNot | apply wp_chain | apply wp_isi | apply wp_isi2 | apply wp_fn | apply wp_iOf | apply wp_iRng | apply wp_lc | apply wp_tup | apply wp_lst | apply wp_frz | apply ko_nx | apply ko_rt | apply kr_rt | apply kr_nx | apply ex_bool | apply ex_int) | ((with_reducible apply wp_eV); rfl) | ((with_reducible apply wp_eOv); rfl) | ((with_reducible apply wp_eOo); rfl) | ((with_reducible apply wp_st); rfl; decide) | ((with_reducible apply wp_stSet); rfl) | ((with_reducible apply wp_fnS); rfl) | ((with_reducible apply ex_some); rfl) | ((with_reducible apply ex_sb); rfl) | ((with_reducible apply br_t); rfl) | ((with_reducible apply br_f); rfl) | ((with_reducible apply ex_some (mulB ?hh)); case hh => decide +kernel) | ((with_reducible apply ex_some (mulA ?hh)); case hh => decide +kernel) | ((with_reducible apply ex_some (rngL ?hh)); case hh => decide +kernel) | (refine ⟨rfl, ?_⟩)))
            have e11 : Str.ofString "11" = S [49, 49] := by decide +kernel
            rw [e11]
            cases hadj : hasSub (S l) (S [49, 49]) with
            | true =>
              refine br_t rfl ?_
              (repeat (first | with_reducible (first | apply wp_seq | apply wp_sIf | apply wp_next | apply wp_ret | apply wp_set | apply wp_own | apply wp_par | apply wp_par3 | apply wp_asg | apply wp_for | apply wp_tVal | apply wp_tTru | apply wp_tAnd | apply wp_tOr | apply wp_tNot | apply wp_e2 | apply wp_e1 | apply wp_eC | apply wp_call | apply wp_cons | apply wp_nil | apply wp_mt | apply wp_sl | apply wp_pNo | apply wp_pAt | apply wp_rev | apply wp_eIf | apply wp_eAnd | apply wp_eOr | apply wp_eNot | apply wp_chain | apply wp_isi | apply wp_isi2 | apply wp_fn | apply wp_iOf | apply wp_iRng | apply wp_lc | apply wp_tup | apply wp_lst | apply wp_frz | apply ko_nx | apply ko_rt | apply kr_rt | apply kr_nx | apply ex_bool | apply ex_int) | ((with_reducible apply wp_eV); rfl) | ((with_reducible apply wp_eOv); rfl) | ((with_reducible apply wp_eOo); rfl) | ((with_reducible apply wp_st); rfl; decide) | ((with_reducible apply wp_stSet); rfl) | ((with_reducible apply wp_fnS); rfl) | ((with_reducible apply ex_some); rfl) | ((with_reducible apply ex_sb); rfl) | ((with_reducible apply br_t); rfl) | ((with_reducible apply br_f); rfl) | ((with_reducible apply ex_some (mulB ?hh)); case hh => decide +kernel) | ((with_reducible apply ex_some (mulA ?hh)); case hh => decide +kernel) | ((with_reducible apply ex_some (rngL ?hh)); case hh => decide +kernel) | (refine ⟨rfl, ?_⟩)))
              have : vld l = false := by
                cases hv : vld l with
                | false => rfl
                | true => exact absurd ((sub2_iff l 49 49).mp hadj) (vld_iff.mp hv).2
              simp [acc, this]
            | false =>
              have hv : vld l = true := vld_iff.mpr ⟨hall, fun h => by rw [(sub2_iff l 49 49).mpr h] at hadj; cases hadj⟩
              refine br_f rfl ?_
              (repeat (first | with_reducible (first | apply wp_seq | apply wp_sIf | apply wp_next | apply wp_ret | apply wp_set | apply wp_own | apply wp_par | apply wp_par3 | apply wp_asg | apply wp_for | apply wp_tVal | apply wp_tTru | apply wp_tAnd | apply wp_tOr | apply wp_tNot | apply wp_e2 | apply wp_e1 | apply wp_eC | apply wp_call | apply wp_cons | apply wp_nil | apply wp_mt | apply wp_sl | apply wp_pNo | apply wp_pAt | apply wp_rev | apply wp_eIf | apply wp_eAnd | apply wp_eOr | apply wp_eNot | apply wp_chain | apply wp_isi | apply wp_isi2 | apply wp_fn | apply wp_iOf | apply wp_iRng | apply wp_lc | apply wp_tup | apply wp_lst | apply wp_frz | apply ko_nx | apply ko_rt | apply kr_rt | apply kr_nx | apply ex_bool | apply ex_int) | ((with_reducible apply wp_eV); rfl) | ((with_reducible apply wp_eOv); rfl) | ((with_reducible apply wp_eOo); rfl) | ((with_reducible apply wp_st); rfl; decide) | ((with_reducible apply wp_stSet); rfl) | ((with_reducible apply wp_fnS); rfl) | ((with_reducible apply ex_some); rfl) | ((with_reducible apply ex_sb); rfl) | ((with_reducible apply br_t); rfl) | ((with_reducible apply br_f); rfl) | ((with_reducible apply ex_some (mulB ?hh)); case hh => decide +kernel) | ((with_reducible apply ex_some (mulA ?hh)); case hh => decide +kernel) | ((with_reducible apply ex_some (rngL ?hh)); case hh => decide +kernel) | (refine ⟨rfl, ?_⟩)))
              refine ex_some (sl_str (by omega)) ?_
              (repeat (first | with_reducible (first | apply wp_seq | apply wp_sIf | apply wp_next | apply wp_ret | apply wp_set | apply wp_own | apply wp_par | apply wp_par3 | apply wp_asg | apply wp_for | apply wp_tVal | apply wp_tTru | apply wp_tAnd | apply wp_tOr | apply wp_tNot | apply wp_e2 | apply wp_e1 | apply wp_eC | apply wp_call | apply wp_cons | apply wp_nil | apply wp_mt | apply wp_sl | apply wp_pNo | apply wp_pAt | apply wp_rev | apply wp_eIf | apply wp_eAnd | apply wp_eOr | apply wp_eNot | apply wp_chain | apply wp_isi | apply wp_isi2 | apply wp_fn | apply wp_iOf | apply wp_iRng | apply wp_lc | apply wp_tup | apply wp_lst | apply wp_frz | apply ko_nx | apply ko_rt | apply kr_rt | apply kr_nx | apply ex_bool | apply ex_int) | ((with_reducible apply wp_eV); rfl) | ((with_reducible apply wp_eOv); rfl) | ((with_reducible apply wp_eOo); rfl) | ((with_reducible apply wp_st); rfl; decide) | ((with_reducible apply wp_stSet); rfl) | ((with_reducible apply wp_fnS); rfl) | ((with_reducible apply ex_some); rfl) | ((with_reducible apply ex_sb); rfl) | ((with_reducible apply br_t); rfl) | ((with_reducible apply br_f); rfl) | ((with_reducible apply ex_some (mulB ?hh)); case hh => decide +kernel) | ((with_reducible apply ex_some (mulA ?hh)); case hh => decide +kernel) | ((with_reducible apply ex_some (rngL ?hh)); case hh => decide +kernel) | (refine ⟨rfl, ?_⟩)))
              have e0 : Str.ofString "0" = S [48] := by decide +kernel
              have ehead : ((S (cut l none (some 1))) == (Str.ofString "0")) = (l.head? == some 48) := by
                rw [e0, beq_S]
                cases l with
                | nil => rfl
                | cons c r =>
                  have : cut (c :: r) none (some 1) = [c] := cut_to (xs := c :: r) (k := 1) (by simp)
                  rw [this, Bool.eq_iff_iff]
                  simp
              rw [eqv_str]
              show (((S (cut (S l).cps.toList none (some 1))) == (Str.ofString "0")) = true → _) ∧ (((S (cut (S l).cps.toList none (some 1))) == (Str.ofString "0")) = false → _)
              rw [el, ehead]
              cases hh : (l.head? == some 48) with
              | true =>
                refine br_t rfl ?_
                (repeat (first | with_reducible (first | apply wp_seq | apply wp_sIf | apply wp_next | apply wp_ret | apply wp_set | apply wp_own | apply wp_par | apply wp_par3 | apply wp_asg | apply wp_for | apply wp_tVal | apply wp_tTru | apply wp_tAnd | apply wp_tOr | apply wp_tNot | apply wp_e2 | apply wp_e1 | apply wp_eC | apply wp_call | apply wp_cons | apply wp_nil | apply wp_mt | apply wp_sl | apply wp_pNo | apply wp_pAt | apply wp_rev | apply wp_eIf | apply wp_eAnd | apply wp_eOr | apply wp_eNot | apply wp_chain | apply wp_isi | apply wp_isi2 | apply wp_fn | apply wp_iOf | apply wp_iRng | apply wp_lc | apply wp_tup | apply wp_lst | apply wp_frz | apply ko_nx | apply ko_rt | apply kr_rt | apply kr_nx | apply ex_bool | apply ex_int) | ((with_reducible apply wp_eV); rfl) | ((with_reducible apply wp_eOv); rfl) | ((with_reducible apply wp_eOo); rfl) | ((with_reducible apply wp_st); rfl; decide) | ((with_reducible apply wp_stSet); rfl) | ((with_reducible apply wp_fnS); rfl) | ((with_reducible apply ex_some); rfl) | ((with_reducible apply ex_sb); rfl) | ((with_reducible apply br_t); rfl) | ((with_reducible apply br_f); rfl) | ((with_reducible apply ex_some (mulB ?hh)); case hh => decide +kernel) | ((with_reducible apply ex_some (mulA ?hh)); case hh => decide +kernel) | ((with_reducible apply ex_some (rngL ?hh)); case hh => decide +kernel) | (refine ⟨rfl, ?_⟩)))
                have : l.head? = some 48 := by simpa using hh
                simp [acc, this]
              | false =>
                refine br_f rfl ?_
                (repeat (first | with_reducible (first | apply wp_seq | apply wp_sIf | apply wp_next | apply wp_ret | apply wp_set | apply wp_own | apply wp_par | apply wp_par3 | apply wp_asg | apply wp_for | apply wp_tVal | apply wp_tTru | apply wp_tAnd | apply wp_tOr | apply wp_tNot | apply wp_e2 | apply wp_e1 | apply wp_eC | apply wp_call | apply wp_cons | apply wp_nil | apply wp_mt | apply wp_sl | apply wp_pNo | apply wp_pAt | apply wp_rev | apply wp_eIf | apply wp_eAnd | apply wp_eOr | apply wp_eNot | apply wp_chain | apply wp_isi | apply wp_isi2 | apply wp_fn | apply wp_iOf | apply wp_iRng | apply wp_lc | apply wp_tup | apply wp_lst | apply wp_frz | apply ko_nx | apply ko_rt | apply kr_rt | apply kr_nx | apply ex_bool | apply ex_int) | ((with_reducible apply wp_eV); rfl) | ((with_reducible apply wp_eOv); rfl) | ((with_reducible apply wp_eOo); rfl) | ((with_reducible apply wp_st); rfl; decide) | ((with_reducible apply wp_stSet); rfl) | ((with_reducible apply wp_fnS); rfl) | ((with_reducible apply ex_some); rfl) | ((with_reducible apply ex_sb); rfl) | ((with_reducible apply br_t); rfl) | ((with_reducible apply br_f); rfl) | ((with_reducible apply ex_some (mulB ?hh)); case hh => decide +kernel) | ((with_reducible apply ex_some (mulA ?hh)); case hh => decide +kernel) | ((with_reducible apply ex_some (rngL ?hh)); case hh => decide +kernel) | (refine ⟨rfl, ?_⟩)))
                refine ex_some (rev_str (by omega)) ?_
                (repeat (first | with_reducible (first | apply wp_seq | apply wp_sIf | apply wp_next | apply wp_ret | apply wp_set | apply wp_own | apply wp_par | apply wp_par3 | apply wp_asg | apply wp_for | apply wp_tVal | apply wp_tTru | apply wp_tAnd | apply wp_tOr | apply wp_tNot | apply wp_e2 | apply wp_e1 | apply wp_eC | apply wp_call | apply wp_cons | apply wp_nil | apply wp_mt | apply wp_sl | apply wp_pNo | apply wp_pAt | apply wp_rev | apply wp_eIf | apply wp_eAnd | apply wp_eOr | apply wp_eNot | apply wp_chain | apply wp_isi | apply wp_isi2 | apply wp_fn | apply wp_iOf | apply wp_iRng | apply wp_lc | apply wp_tup | apply wp_lst | apply wp_frz | apply ko_nx | apply ko_rt | apply kr_rt | apply kr_nx | apply ex_bool | apply ex_int) | ((with_reducible apply wp_eV); rfl) | ((with_reducible apply wp_eOv); rfl) | ((with_reducible apply wp_eOo); rfl) | ((with_reducible apply wp_st); rfl; decide) | ((with_reducible apply wp_stSet); rfl) | ((with_reducible apply wp_fnS); rfl) | ((with_reducible apply ex_some); rfl) | ((with_reducible apply ex_sb); rfl) | ((with_reducible apply br_t); rfl) | ((with_reducible apply br_f); rfl) | ((with_reducible apply ex_some (mulB ?hh)); case hh => decide +kernel) | ((with_reducible apply ex_some (mulA ?hh)); case hh => decide +kernel) | ((with_reducible apply ex_some (rngL ?hh)); case hh => decide +kernel) | (refine ⟨rfl, ?_⟩)))
                have el2 : signsD (⟨(S l).cps.toList.reverse.toArray⟩ : Str) = l.reverse.map fun c => .str (one c) := by
                  rw [signsD, el]
                rw [el2]
                have hrl : (l.reverse.map fun c => PyData.str (one c)).length = l.length := by simp
                refine wp_forD (fun t env s' => s' = s ∧ ∃ v5, env = [some (.val (.int n)), some (.val (.tuple [.str "text", .str (S l)])), some (.val (.int (vs (l.drop (l.length - t)) 0))), some (.val (.int (w t))), some (.val (.int (w (t + 1)))), v5]) _ ?_ ?_ ?_
                · rintro t ht env s' ⟨rfl, v5, rfl⟩
                  rw [hrl] at ht
                  have hlt : l.length - (t + 1) < l.length := by omega
                  have hd : (l.reverse.map fun c => PyData.str (one c))[t] = .str (one l[l.length - (t + 1)]) := by
                    rw [List.getElem_map, List.getElem_reverse]
                    congr 3; omega
                  refine ⟨_, rfl, ?_⟩
                  rw [hd]
                  (repeat (first | with_reducible (first | apply wp_seq | apply wp_sIf | apply wp_next | apply wp_ret | apply wp_set | apply wp_own | apply wp_par | apply wp_par3 | apply wp_asg | apply wp_for | apply wp_tVal | apply wp_tTru | apply wp_tAnd | apply wp_tOr | apply wp_tNot | apply wp_e2 | apply wp_e1 | apply wp_eC | apply wp_call | apply wp_cons | apply wp_nil | apply wp_mt | apply wp_sl | apply wp_pNo | apply wp_pAt | apply wp_rev | apply wp_eIf | apply wp_eAnd | apply wp_eOr | apply wp_eNot | apply wp_chain | apply wp_isi | apply wp_isi2 | apply wp_fn | apply wp_iOf | apply wp_iRng | apply wp_lc | apply wp_tup | apply wp_lst | apply wp_frz | apply ko_nx | apply ko_rt | apply kr_rt | apply kr_nx | apply ex_bool | apply ex_int) | ((with_reducible apply wp_eV); rfl) | ((with_reducible apply wp_eOv); rfl) | ((with_reducible apply wp_eOo); rfl) | ((with_reducible apply wp_st); rfl; decide) | ((with_reducible apply wp_stSet); rfl) | ((with_reducible apply wp_fnS); rfl) | ((with_reducible apply ex_some); rfl) | ((with_reducible apply ex_sb); rfl) | ((with_reducible apply br_t); rfl) | ((with_reducible apply br_f); rfl) | ((with_reducible apply ex_some (mulB ?hh)); case hh => decide +kernel) | ((with_reducible apply ex_some (mulA ?hh)); case hh => decide +kernel) | ((with_reducible apply ex_some (rngL ?hh)); case hh => decide +kernel) | (refine ⟨rfl, ?_⟩)))
                  have e1 : Str.ofString "1" = S [49] := by decide +kernel
                  have ec : ∀ c, PyData.eqv (.str (one c)) (.str (Str.ofString "1")) = decide (c = 49) := fun c => by
                    rw [eqv_str, e1]
                    show (S [c] == S [49]) = _
                    rw [beq_S, Bool.eq_iff_iff]; simp
                  rw [ec]
                  have hdrop : l.drop (l.length - (t + 1)) = l[l.length - (t + 1)] :: l.drop (l.length - t) := by
                    rw [List.drop_eq_getElem_cons hlt]
                    congr 2; omega
                  have hdl : (l.drop (l.length - t)).length = t := by rw [List.length_drop]; omega
                  have hv : vs (l.drop (l.length - (t + 1))) 0 = (if l[l.length - (t + 1)] = 49 then w t else 0) + vs (l.drop (l.length - t)) 0 := by
                    rw [hdrop]
                    simp only [vs, hdl, Nat.add_zero]
                  have hw : ((w t : Nat) : Int) + (w (t + 1) : Nat) = (w (t + 2) : Nat) := by show _ = ((w t + w (t + 1) : Nat) : Int); omega
                  by_cases hc : l[l.length - (t + 1)] = 49
                  · refine br_t (decide_eq_true hc) ?_
                    (repeat (first | with_reducible (first | apply wp_seq | apply wp_sIf | apply wp_next | apply wp_ret | apply wp_set | apply wp_own | apply wp_par | apply wp_par3 | apply wp_asg | apply wp_for | apply wp_tVal | apply wp_tTru | apply wp_tAnd | apply wp_tOr | apply wp_tNot | apply wp_e2 | apply wp_e1 | apply wp_eC | apply wp_call | apply wp_cons | apply wp_nil | apply wp_mt | apply wp_sl | apply wp_pNo | apply wp_pAt | apply wp_rev | apply wp_eIf | apply wp_eAnd | apply wp_eOr | apply wp_eNot | apply wp_chain | apply wp_isi | apply wp_isi2 | apply wp_fn | apply wp_iOf | apply wp_iRng | apply wp_lc | apply wp_tup | apply wp_lst | apply wp_frz | apply ko_nx | apply ko_rt | apply kr_rt | apply kr_nx | apply ex_bool | apply ex_int) | ((with_reducible apply wp_eV); rfl) | ((with_reducible apply wp_eOv); rfl) | ((with_reducible apply wp_eOo); rfl) | ((with_reducible apply wp_st); rfl; decide) | ((with_reducible apply wp_stSet); rfl) | ((with_reducible apply wp_fnS); rfl) | ((with_reducible apply ex_some); rfl) | ((with_reducible apply ex_sb); rfl) | ((with_reducible apply br_t); rfl) | ((with_reducible apply br_f); rfl) | ((with_reducible apply ex_some (mulB ?hh)); case hh => decide +kernel) | ((with_reducible apply ex_some (mulA ?hh)); case hh => decide +kernel) | ((with_reducible apply ex_some (rngL ?hh)); case hh => decide +kernel) | (refine ⟨rfl, ?_⟩)))
                    refine ⟨_, _, rfl, _, .inl rfl, rfl, some (.val (.str (one l[l.length - (t + 1)]))), ?_⟩
                    rw [hv, if_pos hc]
                    have : ((w t + vs (l.drop (l.length - t)) 0 : Nat) : Int) = (vs (l.drop (l.length - t)) 0 : Nat) + (w t : Nat) := by omega
                    rw [this, ← hw]; rfl
                  · refine br_f (decide_eq_false hc) ?_
                    (repeat (first | with_reducible (first | apply wp_seq | apply wp_sIf | apply wp_next | apply wp_ret | apply wp_set | apply wp_own | apply wp_par | apply wp_par3 | apply wp_asg | apply wp_for | apply wp_tVal | apply wp_tTru | apply wp_tAnd | apply wp_tOr | apply wp_tNot | apply wp_e2 | apply wp_e1 | apply wp_eC | apply wp_call | apply wp_cons | apply wp_nil | apply wp_mt | apply wp_sl | apply wp_pNo | apply wp_pAt | apply wp_rev | apply wp_eIf | apply wp_eAnd | apply wp_eOr | apply wp_eNot | apply wp_chain | apply wp_isi | apply wp_isi2 | apply wp_fn | apply wp_iOf | apply wp_iRng | apply wp_lc | apply wp_tup | apply wp_lst | apply wp_frz | apply ko_nx | apply ko_rt | apply kr_rt | apply kr_nx | apply ex_bool | apply ex_int) | ((with_reducible apply wp_eV); rfl) | ((with_reducible apply wp_eOv); rfl) | ((with_reducible apply wp_eOo); rfl) | ((with_reducible apply wp_st); rfl; decide) | ((with_reducible apply wp_stSet); rfl) | ((with_reducible apply wp_fnS); rfl) | ((with_reducible apply ex_some); rfl) | ((with_reducible apply ex_sb); rfl) | ((with_reducible apply br_t); rfl) | ((with_reducible apply br_f); rfl) | ((with_reducible apply ex_some (mulB ?hh)); case hh => decide +kernel) | ((with_reducible apply ex_some (mulA ?hh)); case hh => decide +kernel) | ((with_reducible apply ex_some (rngL ?hh)); case hh => decide +kernel) | (refine ⟨rfl, ?_⟩)))
                    refine ⟨_, _, rfl, _, .inl rfl, rfl, some (.val (.str (one l[l.length - (t + 1)]))), ?_⟩
                    rw [hv, if_neg hc]
                    have : ((0 + vs (l.drop (l.length - t)) 0 : Nat) : Int) = (vs (l.drop (l.length - t)) 0 : Nat) + 0 := by omega
                    rw [this, ← hw]; rfl
                · refine ⟨rfl, none, ?_⟩
                  rw [Nat.sub_zero, List.drop_length]; rfl
                · rintro env s' ⟨rfl, v5, rfl⟩
                  rw [hrl, Nat.sub_self, List.drop_zero]
                  (repeat (first | with_reducible (first | apply wp_seq | apply wp_sIf | apply wp_next | apply wp_ret | apply wp_set | apply wp_own | apply wp_par | apply wp_par3 | apply wp_asg | apply wp_for | apply wp_tVal | apply wp_tTru | apply wp_tAnd | apply wp_tOr | apply wp_tNot | apply wp_e2 | apply wp_e1 | apply wp_eC | apply wp_call | apply wp_cons | apply wp_nil | apply wp_mt | apply wp_sl | apply wp_pNo | apply wp_pAt | apply wp_rev | apply wp_eIf | apply wp_eAnd | apply wp_eOr | apply wp_eNot | apply wp_chain | apply wp_isi | apply wp_isi2 | apply wp_fn | apply wp_iOf | apply wp_iRng | apply wp_lc | apply wp_tup | apply wp_lst | apply wp_frz | apply ko_nx | apply ko_rt | apply kr_rt | apply kr_nx | apply ex_bool | apply ex_int) | ((with_reducible apply wp_eV); rfl) | ((with_reducible apply wp_eOv); rfl) | ((with_reducible apply wp_eOo); rfl) | ((with_reducible apply wp_st); rfl; decide) | ((with_reducible apply wp_stSet); rfl) | ((with_reducible apply wp_fnS); rfl) | ((with_reducible apply ex_some); rfl) | ((with_reducible apply ex_sb); rfl) | ((with_reducible apply br_t); rfl) | ((with_reducible apply br_f); rfl) | ((with_reducible apply ex_some (mulB ?hh)); case hh => decide +kernel) | ((with_reducible apply ex_some (mulA ?hh)); case hh => decide +kernel) | ((with_reducible apply ex_some (rngL ?hh)); case hh => decide +kernel) | (refine ⟨rfl, ?_⟩)))
                  rw [len_eqv]
                  have hh2 : (l.head? != some 48) = true := by simp [bne, hh]
                  simp only [acc, hv, hh2, decide_eq_true hb, Bool.true_and, Bool.and_true]
                  congr 1
    | _ => (repeat (first | with_reducible (first | apply wp_seq | apply wp_sIf | apply wp_next | apply wp_ret | apply wp_set | apply wp_own | apply wp_par | apply wp_par3 | apply wp_asg | apply wp_for | apply wp_tVal | apply wp_tTru | apply wp_tAnd | apply wp_tOr | apply wp_tNot | apply wp_e2 | apply wp_e1 | apply wp_eC | apply wp_call | apply wp_cons | apply wp_nil | apply wp_mt | apply wp_sl | apply wp_pNo | apply wp_pAt | apply wp_rev | apply wp_eIf | apply wp_eAnd | apply wp_eOr | apply wp_eNot | apply wp_chain | apply wp_isi | apply wp_isi2 | apply wp_fn | apply wp_iOf | apply wp_iRng | apply wp_lc | apply wp_tup | apply wp_lst | apply wp_frz | apply ko_nx | apply ko_rt | apply kr_rt | apply kr_nx | apply ex_bool | apply ex_int) | ((with_reducible apply wp_eV); rfl) | ((with_reducible apply wp_eOv); rfl) | ((with_reducible apply wp_eOo); rfl) | ((with_reducible apply wp_st); rfl; decide) | ((with_reducible apply wp_stSet); rfl) | ((with_reducible apply wp_fnS); rfl) | ((with_reducible apply ex_some); rfl) | ((with_reducible apply ex_sb); rfl) | ((with_reducible apply br_t); rfl) | ((with_reducible apply br_f); rfl) | ((with_reducible apply ex_some (mulB ?hh)); case hh => decide +kernel) | ((with_reducible apply ex_some (mulA ?hh)); case hh => decide +kernel) | ((with_reducible apply ex_some (rngL ?hh)); case hh => decide +kernel) | (refine ⟨rfl, ?_⟩))); rfl
theorem steps_same {n : Nat} {l : List Nat} (z : Zk n l) (m : List Nat) : (S m == S l) = acc n m := by
  rw [beq_S, Bool.eq_iff_iff, decide_eq_true_eq]
  simp only [acc, Bool.and_eq_true, decide_eq_true_eq, bne_iff_ne]
  constructor
  · rintro rfl; exact ⟨z.len, ⟨z.v, z.h⟩, z.e⟩
  · rintro ⟨h1, ⟨h2, h3⟩, h4⟩
    exact Zk.uniq ⟨h2, h3, h4, h1⟩ z
/-- the first judge and the look say the same -/
theorem first {n : Nat} (hn : n ≤ 1000000) : ∃ l, f_in_steps [.int n] = pure (told l) ∧ Zk n l ∧ ∀ d, Odd 60000 13 d → ∃ b, f_judge_in_steps [.int n, d] = pure (.bool b) ∧ f_law_accepts [.int n, d] = pure (.bool b) ∧ (d = told l → b = true) := by
  obtain ⟨l, e, z⟩ := in_steps_eq n hn
  have hc : ∀ c ∈ l, c < 1114112 := fun c h => by rcases vld_mem z.v c h with rfl | rfl <;> decide
  refine ⟨l, e, z, fun d hd => ⟨_, judge_steps e hc hd, ?_, ?_⟩⟩
  · rw [acc_eq hd]
    have : (fun z' : Str => z' == S l) = fun z' : Str => acc n z'.cps.toList := by
      funext y
      have := steps_same z y.cps.toList
      rw [S_tl] at this
      exact this
    rw [this]
  · rintro rfl
    exact (pairS_self (w := "text") (z := S l) (p := fun z => z == S l)).trans (by simp)
end DL.L81

/-! law 81, part 2: orders. -/
namespace DL
open PySem PySem.Spec PyProof.Rows L2 SX
/-- items, counted from the front; a turn may end the def -/
theorem wp_forX {bd : Bd} {fs : DEnv → M Out} {RO : Out → LS → Prop} (J : Nat → DEnv → LS → Prop) (ds : List D) (st : ∀ (i : Nat) (h : i < ds.length) env s, J i env s → ∃ e1, bd ds[i] env = some e1 ∧ WP (fs e1) s fun o s' => (∃ e, (o = .nx e ∨ o = .ct e) ∧ J (i + 1) e s') ∨ (∃ d, o = .rt d ∧ RO (.rt d) s') ∨ (∃ e, o = .bk e ∧ RO (.nx e) s')) (q : ∀ env s, J ds.length env s → RO (.nx env) s) :
    ∀ (k i : Nat) {env : DEnv} {s : LS}, k + i = ds.length → J i env s → WP (forGo bd fs (ds.drop i) env) s RO
  | 0, i, env, s, h, j => by
    have e : i = ds.length := by omega
    subst e
    rw [List.drop_length]
    exact wp_for_nil (q env s j)
  | k + 1, i, env, s, h, j => by
    have hlt : i < ds.length := by omega
    rw [List.drop_eq_getElem_cons hlt]
    obtain ⟨e1, he, w⟩ := st i hlt env s j
    refine wp_for_cons he (wp_mono w fun o s' h2 => ?_)
    rcases h2 with ⟨e2, ho, j2⟩ | ⟨d, rfl, r⟩ | ⟨e2, rfl, r⟩
    · rcases ho with rfl | rfl <;> exact wp_forX J ds st q k (i + 1) (by omega) j2
    · exact r
    · exact r
theorem wp_forX0 {bd : Bd} {fs : DEnv → M Out} {RO : Out → LS → Prop} {env : DEnv} {s : LS} (J : Nat → DEnv → LS → Prop) (ds : List D) (st : ∀ (i : Nat) (h : i < ds.length) env s, J i env s → ∃ e1, bd ds[i] env = some e1 ∧ WP (fs e1) s fun o s' => (∃ e, (o = .nx e ∨ o = .ct e) ∧ J (i + 1) e s') ∨ (∃ d, o = .rt d ∧ RO (.rt d) s') ∨ (∃ e, o = .bk e ∧ RO (.nx e) s'))
    (h0 : J 0 env s) (q : ∀ env s, J ds.length env s → RO (.nx env) s) : WP (forGo bd fs ds env) s RO := wp_forX J ds st q ds.length 0 (by omega) h0
/-- ('w', xs) with p xs -/
def pairT (w : Str) (p : List D → Bool) : D → Bool
  | .tuple [.str a, .tuple xs] => a == w && p xs
  | _ => false
theorem pairT_self {w : Str} {xs : List D} {p : List D → Bool} : pairT w p (.tuple [.str w, .tuple xs]) = p xs := by simp [pairT]
theorem pairT_no {w : Str} {p : List D → Bool} {d : D} (h : toldB w 2 d = false) : pairT w p d = false := by
  unfold pairT
  split
  · rename_i a z
    have : (a == w) = false := by simpa [toldB] using h
    rw [this]; rfl
  · rfl
theorem wholes_ints {xs : List D} (h : xs.all wholeB = true) : ∃ ns : List Int, xs = ns.map .int := ints_of fun y hy => by
  have := List.all_eq_true.mp h y hy
  cases y <;> first | exact ⟨_, rfl⟩ | cases this
theorem ints_wholes (ns : List Int) : (ns.map PyData.int).all wholeB = true := by
  rw [List.all_eq_true]; intro x hx
  obtain ⟨i, _, rfl⟩ := List.mem_map.mp hx
  rfl
theorem eqvAll_ints : ∀ ns ms : List Int, PyData.eqvAll (ns.map .int) (ms.map .int) = decide (ns = ms)
  | [], [] => rfl
  | [], _ :: _ => rfl
  | _ :: _, [] => rfl
  | n :: ns, m :: ms => by
    simp only [List.map_cons, PyData.eqvAll, eqvAll_ints ns ms, PyData.eqv]
    rw [Bool.eq_iff_iff]; simp
theorem notIn_bools {α : Type} {xs : List α} {f : α → Bool} : notInD (.bool false) (.list (xs.map fun d => .bool (f d))) = some (.bool (xs.all f)) := by
  have h1 : (xs.map fun d => PyData.bool (f d)).all flatD = true := by
    rw [List.all_eq_true]; intro x hx
    obtain ⟨i, _, rfl⟩ := List.mem_map.mp hx
    rfl
  have h : (flatD (.bool false) && (xs.map fun d => PyData.bool (f d)).all flatD || SeqAt.shaped (.bool false) && SeqAt.shaped (.list (xs.map fun d => PyData.bool (f d)))) = true := by rw [h1]; rfl
  unfold notInD inD
  simp only [h, if_true]
  show some (PyData.bool !((xs.map fun d => PyData.bool (f d)).any fun y => PyData.eqv y (.bool false))) = _
  congr 2
  rw [List.any_map, Bool.eq_iff_iff]
  simp [PyData.eqv]
theorem sm64 {i : Int} (h1 : -1000000000 ≤ i) (h2 : i ≤ 1000000000) : small64 i = true := by simp only [small64, Bool.and_eq_true, decide_eq_true_eq]; omega
theorem range_get {n i : Nat} (h : i < (rangeL 0 1 n).length) : (rangeL 0 1 n)[i] = .int i := by simp [rangeL]
theorem range_len {n : Nat} {lo c : Int} : (rangeL lo c n).length = n := by simp [rangeL]
theorem rng1_ok {n : Nat} (h : n ≤ 1000000) : rng1 [.int n] = some (rangeL 0 1 n) := by
  show (if b62 (n : Nat) = true then some (rangeL 0 1 ((n : Int)).toNat) else none) = _
  rw [if_pos (by simp only [b62, Bool.and_eq_true, decide_eq_true_eq]; omega)]
  rfl
end DL
namespace DL.L81
open PySem PySem.Spec PyProof.Rows L2 SX DL
/-- the digits of n, the least first, by b, b + 1, .. -/
def Can : List Int → Nat → Nat → Prop
  | [], _, n => n = 0
  | y :: r, b, n => 0 < n ∧ y = ((n % b : Nat) : Int) ∧ Can r (b + 1) (n / b)
theorem can_inj : ∀ {l m : List Int} {b n : Nat}, Can l b n → Can m b n → l = m
  | [], [], _, _, _, _ => rfl
  | [], _ :: _, _, _, h, g => by have h1 : _ = 0 := h; have := g.1; omega
  | _ :: _, [], _, _, h, g => by have h1 : _ = 0 := g; have := h.1; omega
  | _ :: _, _ :: _, _, _, h, g => by rw [h.2.1, g.2.1, can_inj h.2.2 g.2.2]
def okD : List Int → Nat → Bool
  | [], _ => true
  | y :: r, b => (decide (0 ≤ y) && decide (y < b)) && okD r (b + 1)
def fv : List Int → Nat → Int
  | [], _ => 0
  | y :: r, b => y + b * fv r (b + 1)
theorem fv_nonneg : ∀ {l : List Int} {b : Nat}, okD l b = true → 0 ≤ fv l b
  | [], _, _ => Int.le_refl _
  | y :: r, b, h => by
    simp only [okD, Bool.and_eq_true, decide_eq_true_eq] at h
    have := fv_nonneg h.2
    have := Int.mul_nonneg (Int.natCast_nonneg b) this
    simp only [fv]; omega
theorem can_iff : ∀ {l : List Int} {b n : Nat}, 2 ≤ b → (Can l b n ↔ okD l b = true ∧ l.getLast? ≠ some 0 ∧ fv l b = n)
  | [], b, n, hb => by simp [Can, okD, fv]; omega
  | y :: r, b, n, hb => by
    have ih : ∀ n', Can r (b + 1) n' ↔ okD r (b + 1) = true ∧ r.getLast? ≠ some 0 ∧ fv r (b + 1) = n' := fun n' => can_iff (by omega)
    simp only [Can, okD, Bool.and_eq_true, decide_eq_true_eq, fv]
    constructor
    · rintro ⟨h1, h2, h3⟩
      obtain ⟨a1, a2, a3⟩ := (ih _).mp h3
      have hm : n % b < b := Nat.mod_lt _ (by omega)
      have hd := Nat.div_add_mod n b
      refine ⟨⟨by omega, a1⟩, ?_, ?_⟩
      · cases r with
        | nil =>
          have : n / b = 0 := h3
          rw [this] at hd
          simp; omega
        | cons z r => simpa [List.getLast?_cons_cons] using a2
      · rw [a3, h2, ← Int.natCast_mul]; omega
    · rintro ⟨⟨⟨h1, h2⟩, h3⟩, h4, h5⟩
      have hn := fv_nonneg h3
      obtain ⟨k, hk⟩ : ∃ k : Nat, fv r (b + 1) = k := ⟨(fv r (b + 1)).toNat, by omega⟩
      obtain ⟨y', hy⟩ : ∃ k : Nat, y = k := ⟨y.toNat, by omega⟩
      subst hy
      rw [hk, ← Int.natCast_mul] at h5
      have e : n = y' + b * k := by omega
      have hy : y' < b := by omega
      have hmod : n % b = y' := by rw [e, Nat.add_mul_mod_self_left]; exact Nat.mod_eq_of_lt hy
      have hdiv : n / b = k := by rw [e, Nat.add_mul_div_left _ _ (by omega), Nat.div_eq_of_lt hy]; omega
      have hc : Can r (b + 1) k := by
        refine (ih k).mpr ⟨h3, ?_, hk⟩
        cases r with
        | nil => simp
        | cons z r => simpa [List.getLast?_cons_cons] using h4
      refine ⟨?_, by rw [hmod], by rw [hdiv]; exact hc⟩
      cases r with
      | nil =>
        have : (y' : Int) ≠ 0 := by simpa using h4
        omega
      | cons z r =>
        have hk0 : 0 < k := hc.1
        have : b * 1 ≤ b * k := Nat.mul_le_mul_left _ hk0
        omega
def toldR (l : List Int) : D := .tuple [.str "row", .tuple (l.reverse.map .int)]
theorem in_orders_eq (n : Nat) (hn : n ≤ 1000000) : ∃ l, f_in_orders [.int n] = pure (toldR l) ∧ Can l 2 n ∧ l.length ≤ 20 := by
  have main : ∀ s, WP (f_in_orders [.int n]) s fun a s' => s' = s ∧ ∃ l, a = toldR l ∧ Can l 2 n ∧ l.length ≤ 20 := by
    intro s
    unfold f_in_orders
    apply wp_runD
    unfold b_in_orders
    (repeat (first | with_reducible (first | apply wp_seq | apply wp_sIf | apply wp_next | apply wp_ret | apply wp_set | apply wp_own | apply wp_par | apply wp_par3 | apply wp_asg | apply wp_for | apply wp_tVal | apply wp_tTru | apply wp_tAnd | apply wp_tOr | apply wp_tNot | apply wp_e2 | apply wp_e1 | apply wp_eC | apply wp_call | apply wp_cons | apply wp_nil | apply wp_mt | apply wp_sl | apply wp_pNo | apply wp_pAt | apply wp_rev | apply wp_eIf | apply wp_eAnd | apply wp_eOr | apply wp_eNot | apply wp_chain | apply wp_isi | apply wp_isi2 | apply wp_fn | apply wp_iOf | apply wp_iRng | apply wp_lc | apply wp_tup | apply wp_lst | apply wp_frz | apply ko_nx | apply ko_rt | apply kr_rt | apply kr_nx | apply ex_bool | apply ex_int) | ((with_reducible apply wp_eV); rfl) | ((with_reducible apply wp_eOv); rfl) | ((with_reducible apply wp_eOo); rfl) | ((with_reducible apply wp_st); rfl; decide) | ((with_reducible apply wp_stSet); rfl) | ((with_reducible apply wp_fnS); rfl) | ((with_reducible apply ex_some); rfl) | ((with_reducible apply ex_sb); rfl) | ((with_reducible apply br_t); rfl) | ((with_reducible apply br_f); rfl) | ((with_reducible apply ex_some (mulB ?hh)); case hh => decide +kernel) | ((with_reducible apply ex_some (mulA ?hh)); case hh => decide +kernel) | ((with_reducible apply ex_some (rngL ?hh)); case hh => decide +kernel) | (refine ⟨rfl, ?_⟩)))
    refine br_f (by rw [decide_eq_true (by omega)]; rfl) ?_
    (repeat (first | with_reducible (first | apply wp_seq | apply wp_sIf | apply wp_next | apply wp_ret | apply wp_set | apply wp_own | apply wp_par | apply wp_par3 | apply wp_asg | apply wp_for | apply wp_tVal | apply wp_tTru | apply wp_tAnd | apply wp_tOr | apply wp_tNot | apply wp_e2 | apply wp_e1 | apply wp_eC | apply wp_call | apply wp_cons | apply wp_nil | apply wp_mt | apply wp_sl | apply wp_pNo | apply wp_pAt | apply wp_rev | apply wp_eIf | apply wp_eAnd | apply wp_eOr | apply wp_eNot | apply wp_chain | apply wp_isi | apply wp_isi2 | apply wp_fn | apply wp_iOf | apply wp_iRng | apply wp_lc | apply wp_tup | apply wp_lst | apply wp_frz | apply ko_nx | apply ko_rt | apply kr_rt | apply kr_nx | apply ex_bool | apply ex_int) | ((with_reducible apply wp_eV); rfl) | ((with_reducible apply wp_eOv); rfl) | ((with_reducible apply wp_eOo); rfl) | ((with_reducible apply wp_st); rfl; decide) | ((with_reducible apply wp_stSet); rfl) | ((with_reducible apply wp_fnS); rfl) | ((with_reducible apply ex_some); rfl) | ((with_reducible apply ex_sb); rfl) | ((with_reducible apply br_t); rfl) | ((with_reducible apply br_f); rfl) | ((with_reducible apply ex_some (mulB ?hh)); case hh => decide +kernel) | ((with_reducible apply ex_some (mulA ?hh)); case hh => decide +kernel) | ((with_reducible apply ex_some (rngL ?hh)); case hh => decide +kernel) | (refine ⟨rfl, ?_⟩)))
    refine wp_while (fun m env s' => s' = s ∧ ∃ (l : List Int) (k : Nat), env = [some (.val (.int k)), some (.own (.list (l.map .int))), some (.val (.int ((l.length + 2 : Nat))))] ∧ l.length + m ≤ 20 ∧ k < 2 ^ m ∧ ∀ r, Can r (l.length + 2) k → Can (l ++ r) 2 n) ?_ 64 20 ⟨rfl, [], n, rfl, by decide, by omega, fun r h => h⟩ (by omega)
    rintro m env s' ⟨rfl, l, k, rfl, hlen, hk, hcan⟩
    (repeat (first | with_reducible (first | apply wp_seq | apply wp_sIf | apply wp_next | apply wp_ret | apply wp_set | apply wp_own | apply wp_par | apply wp_par3 | apply wp_asg | apply wp_for | apply wp_tVal | apply wp_tTru | apply wp_tAnd | apply wp_tOr | apply wp_tNot | apply wp_e2 | apply wp_e1 | apply wp_eC | apply wp_call | apply wp_cons | apply wp_nil | apply wp_mt | apply wp_sl | apply wp_pNo | apply wp_pAt | apply wp_rev | apply wp_eIf | apply wp_eAnd | apply wp_eOr | apply wp_eNot | apply wp_chain | apply wp_isi | apply wp_isi2 | apply wp_fn | apply wp_iOf | apply wp_iRng | apply wp_lc | apply wp_tup | apply wp_lst | apply wp_frz | apply ko_nx | apply ko_rt | apply kr_rt | apply kr_nx | apply ex_bool | apply ex_int) | ((with_reducible apply wp_eV); rfl) | ((with_reducible apply wp_eOv); rfl) | ((with_reducible apply wp_eOo); rfl) | ((with_reducible apply wp_st); rfl; decide) | ((with_reducible apply wp_stSet); rfl) | ((with_reducible apply wp_fnS); rfl) | ((with_reducible apply ex_some); rfl) | ((with_reducible apply ex_sb); rfl) | ((with_reducible apply br_t); rfl) | ((with_reducible apply br_f); rfl) | ((with_reducible apply ex_some (mulB ?hh)); case hh => decide +kernel) | ((with_reducible apply ex_some (mulA ?hh)); case hh => decide +kernel) | ((with_reducible apply ex_some (rngL ?hh)); case hh => decide +kernel) | (refine ⟨rfl, ?_⟩)))
    refine ⟨fun hb => ?_, fun hb => ?_⟩
    · have hb : 0 < k := by have := of_decide_eq_true hb; omega
      obtain ⟨m', rfl⟩ : ∃ m', m = m' + 1 := ⟨m - 1, by
        cases m with
        | zero => simp at hk; omega
        | succ m => rfl⟩
      have b0 : ((l.length + 2 : Nat) : Int) ≠ 0 := by omega
      refine ⟨m', rfl, ?_⟩
      apply wp_seq
      refine wp_app rfl (by rw [List.length_map]; omega) ?_
      (repeat (first | with_reducible (first | apply wp_seq | apply wp_sIf | apply wp_next | apply wp_ret | apply wp_set | apply wp_own | apply wp_par | apply wp_par3 | apply wp_asg | apply wp_for | apply wp_tVal | apply wp_tTru | apply wp_tAnd | apply wp_tOr | apply wp_tNot | apply wp_e2 | apply wp_e1 | apply wp_eC | apply wp_call | apply wp_cons | apply wp_nil | apply wp_mt | apply wp_sl | apply wp_pNo | apply wp_pAt | apply wp_rev | apply wp_eIf | apply wp_eAnd | apply wp_eOr | apply wp_eNot | apply wp_chain | apply wp_isi | apply wp_isi2 | apply wp_fn | apply wp_iOf | apply wp_iRng | apply wp_lc | apply wp_tup | apply wp_lst | apply wp_frz | apply ko_nx | apply ko_rt | apply kr_rt | apply kr_nx | apply ex_bool | apply ex_int) | ((with_reducible apply wp_eV); rfl) | ((with_reducible apply wp_eOv); rfl) | ((with_reducible apply wp_eOo); rfl) | ((with_reducible apply wp_st); rfl; decide) | ((with_reducible apply wp_stSet); rfl) | ((with_reducible apply wp_fnS); rfl) | ((with_reducible apply ex_some); rfl) | ((with_reducible apply ex_sb); rfl) | ((with_reducible apply br_t); rfl) | ((with_reducible apply br_f); rfl) | ((with_reducible apply ex_some (mulB ?hh)); case hh => decide +kernel) | ((with_reducible apply ex_some (mulA ?hh)); case hh => decide +kernel) | ((with_reducible apply ex_some (rngL ?hh)); case hh => decide +kernel) | (refine ⟨rfl, ?_⟩)))
      refine ex_some (fdiv_ok b0 (by omega)) ?_
      (repeat (first | with_reducible (first | apply wp_seq | apply wp_sIf | apply wp_next | apply wp_ret | apply wp_set | apply wp_own | apply wp_par | apply wp_par3 | apply wp_asg | apply wp_for | apply wp_tVal | apply wp_tTru | apply wp_tAnd | apply wp_tOr | apply wp_tNot | apply wp_e2 | apply wp_e1 | apply wp_eC | apply wp_call | apply wp_cons | apply wp_nil | apply wp_mt | apply wp_sl | apply wp_pNo | apply wp_pAt | apply wp_rev | apply wp_eIf | apply wp_eAnd | apply wp_eOr | apply wp_eNot | apply wp_chain | apply wp_isi | apply wp_isi2 | apply wp_fn | apply wp_iOf | apply wp_iRng | apply wp_lc | apply wp_tup | apply wp_lst | apply wp_frz | apply ko_nx | apply ko_rt | apply kr_rt | apply kr_nx | apply ex_bool | apply ex_int) | ((with_reducible apply wp_eV); rfl) | ((with_reducible apply wp_eOv); rfl) | ((with_reducible apply wp_eOo); rfl) | ((with_reducible apply wp_st); rfl; decide) | ((with_reducible apply wp_stSet); rfl) | ((with_reducible apply wp_fnS); rfl) | ((with_reducible apply ex_some); rfl) | ((with_reducible apply ex_sb); rfl) | ((with_reducible apply br_t); rfl) | ((with_reducible apply br_f); rfl) | ((with_reducible apply ex_some (mulB ?hh)); case hh => decide +kernel) | ((with_reducible apply ex_some (mulA ?hh)); case hh => decide +kernel) | ((with_reducible apply ex_some (rngL ?hh)); case hh => decide +kernel) | (refine ⟨rfl, ?_⟩)))
      refine ⟨_, _, rfl, _, .inl rfl, rfl, l ++ [((k % (l.length + 2) : Nat) : Int)], k / (l.length + 2), ?_, ?_, ?_, ?_⟩
      · have e1 : Int.fmod (k : Nat) ((l.length + 2 : Nat)) = ((k % (l.length + 2) : Nat) : Int) := by rw [Int.fmod_eq_emod_of_nonneg _ (by omega)]; rfl
        have e2 : Int.fdiv (k : Nat) ((l.length + 2 : Nat)) = ((k / (l.length + 2) : Nat) : Int) := by rw [Int.fdiv_eq_ediv_of_nonneg _ (by omega)]; rfl
        rw [e1, e2, List.map_append, List.length_append]; rfl
      · simp; omega
      · have : k / (l.length + 2) ≤ k / 2 := Nat.div_le_div_left (by omega) (by omega)
        rw [Nat.pow_succ] at hk; omega
      · intro r hr
        rw [List.append_assoc]
        refine hcan _ ⟨hb, rfl, ?_⟩
        simpa [List.length_append] using hr
    · have hb : k = 0 := by have := of_decide_eq_false hb; omega
      subst hb
      have hc := hcan [] rfl
      rw [List.append_nil] at hc
      (repeat (first | with_reducible (first | apply wp_seq | apply wp_sIf | apply wp_next | apply wp_ret | apply wp_set | apply wp_own | apply wp_par | apply wp_par3 | apply wp_asg | apply wp_for | apply wp_tVal | apply wp_tTru | apply wp_tAnd | apply wp_tOr | apply wp_tNot | apply wp_e2 | apply wp_e1 | apply wp_eC | apply wp_call | apply wp_cons | apply wp_nil | apply wp_mt | apply wp_sl | apply wp_pNo | apply wp_pAt | apply wp_rev | apply wp_eIf | apply wp_eAnd | apply wp_eOr | apply wp_eNot | apply wp_chain | apply wp_isi | apply wp_isi2 | apply wp_fn | apply wp_iOf | apply wp_iRng | apply wp_lc | apply wp_tup | apply wp_lst | apply wp_frz | apply ko_nx | apply ko_rt | apply kr_rt | apply kr_nx | apply ex_bool | apply ex_int) | ((with_reducible apply wp_eV); rfl) | ((with_reducible apply wp_eOv); rfl) | ((with_reducible apply wp_eOo); rfl) | ((with_reducible apply wp_st); rfl; decide) | ((with_reducible apply wp_stSet); rfl) | ((with_reducible apply wp_fnS); rfl) | ((with_reducible apply ex_some); rfl) | ((with_reducible apply ex_sb); rfl) | ((with_reducible apply br_t); rfl) | ((with_reducible apply br_f); rfl) | ((with_reducible apply ex_some (mulB ?hh)); case hh => decide +kernel) | ((with_reducible apply ex_some (mulA ?hh)); case hh => decide +kernel) | ((with_reducible apply ex_some (rngL ?hh)); case hh => decide +kernel) | (refine ⟨rfl, ?_⟩)))
      exact ⟨l, by unfold toldR; rw [List.map_reverse], hc, by omega⟩
  obtain ⟨a, e, l, rfl, z⟩ := pure_ex main (by
    rintro a b ⟨l, rfl, z, _⟩ ⟨m, rfl, z', _⟩
    rw [can_inj z z'])
  exact ⟨l, e, z⟩
theorem toldR_san {l : List Int} : San (l.length + 7) 2 (toldR l) := by
  have b : San (Str.length "row" + 1) 1 (.str "row") := San.str (by decide +kernel)
  have b4 : Str.length "row" = 3 := by decide +kernel
  have a := (Sans.ints (n := 0) l.reverse).tup
  rw [List.length_reverse] at a
  exact ((Sans.cons b (.one a)).tup).mono (by omega) (Nat.le_refl _)
theorem judge_orders {n : Nat} {l : List Int} (e : f_in_orders [.int n] = pure (toldR l)) {d : D} (hd : Odd 60000 13 d) : f_judge_in_orders [.int n, d] = pure (.bool (pairT "row" (fun xs => xs.all wholeB && PyData.eqvAll xs (l.reverse.map .int)) d)) := by
  refine pure_of fun s => ?_
  unfold f_judge_in_orders
  apply wp_runD
  unfold b_judge_in_orders
  (repeat (first | with_reducible (first | apply wp_seq | apply wp_sIf | apply wp_next | apply wp_ret | apply wp_set | apply wp_own | apply wp_par | apply wp_par3 | apply wp_asg | apply wp_for | apply wp_tVal | apply wp_tTru | apply wp_tAnd | apply wp_tOr | apply wp_tNot | apply wp_e2 | apply wp_e1 | apply wp_eC | apply wp_call | apply wp_cons | apply wp_nil | apply wp_mt | apply wp_sl | apply wp_pNo | apply wp_pAt | apply wp_rev | apply wp_eIf | apply wp_eAnd | apply wp_eOr | apply wp_eNot | apply wp_chain | apply wp_isi | apply wp_isi2 | apply wp_fn | apply wp_iOf | apply wp_iRng | apply wp_lc | apply wp_tup | apply wp_lst | apply wp_frz | apply ko_nx | apply ko_rt | apply kr_rt | apply kr_nx | apply ex_bool | apply ex_int) | ((with_reducible apply wp_eV); rfl) | ((with_reducible apply wp_eOv); rfl) | ((with_reducible apply wp_eOo); rfl) | ((with_reducible apply wp_st); rfl; decide) | ((with_reducible apply wp_stSet); rfl) | ((with_reducible apply wp_fnS); rfl) | ((with_reducible apply ex_some); rfl) | ((with_reducible apply ex_sb); rfl) | ((with_reducible apply br_t); rfl) | ((with_reducible apply br_f); rfl) | ((with_reducible apply ex_some (mulB ?hh)); case hh => decide +kernel) | ((with_reducible apply ex_some (mulA ?hh)); case hh => decide +kernel) | ((with_reducible apply ex_some (rngL ?hh)); case hh => decide +kernel) | (refine ⟨rfl, ?_⟩)))
  refine wp_eq e (wp_pure ?_)
  (repeat (first | with_reducible (first | apply wp_seq | apply wp_sIf | apply wp_next | apply wp_ret | apply wp_set | apply wp_own | apply wp_par | apply wp_par3 | apply wp_asg | apply wp_for | apply wp_tVal | apply wp_tTru | apply wp_tAnd | apply wp_tOr | apply wp_tNot | apply wp_e2 | apply wp_e1 | apply wp_eC | apply wp_call | apply wp_cons | apply wp_nil | apply wp_mt | apply wp_sl | apply wp_pNo | apply wp_pAt | apply wp_rev | apply wp_eIf | apply wp_eAnd | apply wp_eOr | apply wp_eNot | apply wp_chain | apply wp_isi | apply wp_isi2 | apply wp_fn | apply wp_iOf | apply wp_iRng | apply wp_lc | apply wp_tup | apply wp_lst | apply wp_frz | apply ko_nx | apply ko_rt | apply kr_rt | apply kr_nx | apply ex_bool | apply ex_int) | ((with_reducible apply wp_eV); rfl) | ((with_reducible apply wp_eOv); rfl) | ((with_reducible apply wp_eOo); rfl) | ((with_reducible apply wp_st); rfl; decide) | ((with_reducible apply wp_stSet); rfl) | ((with_reducible apply wp_fnS); rfl) | ((with_reducible apply ex_some); rfl) | ((with_reducible apply ex_sb); rfl) | ((with_reducible apply br_t); rfl) | ((with_reducible apply br_f); rfl) | ((with_reducible apply ex_some (mulB ?hh)); case hh => decide +kernel) | ((with_reducible apply ex_some (mulA ?hh)); case hh => decide +kernel) | ((with_reducible apply ex_some (rngL ?hh)); case hh => decide +kernel) | (refine ⟨rfl, ?_⟩)))
  refine wp_eq (is_told_eq d "row" 2 (by decide)) (wp_pure ?_)
  cases h : toldB "row" 2 d with
  | false => (repeat (first | with_reducible (first | apply wp_seq | apply wp_sIf | apply wp_next | apply wp_ret | apply wp_set | apply wp_own | apply wp_par | apply wp_par3 | apply wp_asg | apply wp_for | apply wp_tVal | apply wp_tTru | apply wp_tAnd | apply wp_tOr | apply wp_tNot | apply wp_e2 | apply wp_e1 | apply wp_eC | apply wp_call | apply wp_cons | apply wp_nil | apply wp_mt | apply wp_sl | apply wp_pNo | apply wp_pAt | apply wp_rev | apply wp_eIf | apply wp_eAnd | apply wp_eOr | apply wp_eNot | apply wp_chain | apply wp_isi | apply wp_isi2 | apply wp_fn | apply wp_iOf | apply wp_iRng | apply wp_lc | apply wp_tup | apply wp_lst | apply wp_frz | apply ko_nx | apply ko_rt | apply kr_rt | apply kr_nx | apply ex_bool | apply ex_int) | ((with_reducible apply wp_eV); rfl) | ((with_reducible apply wp_eOv); rfl) | ((with_reducible apply wp_eOo); rfl) | ((with_reducible apply wp_st); rfl; decide) | ((with_reducible apply wp_stSet); rfl) | ((with_reducible apply wp_fnS); rfl) | ((with_reducible apply ex_some); rfl) | ((with_reducible apply ex_sb); rfl) | ((with_reducible apply br_t); rfl) | ((with_reducible apply br_f); rfl) | ((with_reducible apply ex_some (mulB ?hh)); case hh => decide +kernel) | ((with_reducible apply ex_some (mulA ?hh)); case hh => decide +kernel) | ((with_reducible apply ex_some (rngL ?hh)); case hh => decide +kernel) | (refine ⟨rfl, ?_⟩))); rw [pairT_no h]
  | true =>
    obtain ⟨x, rfl⟩ := toldB_two h
    (repeat (first | with_reducible (first | apply wp_seq | apply wp_sIf | apply wp_next | apply wp_ret | apply wp_set | apply wp_own | apply wp_par | apply wp_par3 | apply wp_asg | apply wp_for | apply wp_tVal | apply wp_tTru | apply wp_tAnd | apply wp_tOr | apply wp_tNot | apply wp_e2 | apply wp_e1 | apply wp_eC | apply wp_call | apply wp_cons | apply wp_nil | apply wp_mt | apply wp_sl | apply wp_pNo | apply wp_pAt | apply wp_rev | apply wp_eIf | apply wp_eAnd | apply wp_eOr | apply wp_eNot | apply wp_chain | apply wp_isi | apply wp_isi2 | apply wp_fn | apply wp_iOf | apply wp_iRng | apply wp_lc | apply wp_tup | apply wp_lst | apply wp_frz | apply ko_nx | apply ko_rt | apply kr_rt | apply kr_nx | apply ex_bool | apply ex_int) | ((with_reducible apply wp_eV); rfl) | ((with_reducible apply wp_eOv); rfl) | ((with_reducible apply wp_eOo); rfl) | ((with_reducible apply wp_st); rfl; decide) | ((with_reducible apply wp_stSet); rfl) | ((with_reducible apply wp_fnS); rfl) | ((with_reducible apply ex_some); rfl) | ((with_reducible apply ex_sb); rfl) | ((with_reducible apply br_t); rfl) | ((with_reducible apply br_f); rfl) | ((with_reducible apply ex_some (mulB ?hh)); case hh => decide +kernel) | ((with_reducible apply ex_some (mulA ?hh)); case hh => decide +kernel) | ((with_reducible apply ex_some (rngL ?hh)); case hh => decide +kernel) | (refine ⟨rfl, ?_⟩)))
    cases x with
    | tuple xs =>
      have so := (odd_tup hd).ofTup
      have sx := (so.mem (d := .tuple xs) (by simp)).ofTup
      have hl : xs.length ≤ 60000 := Nat.le_trans wts_len (Nat.le_trans sx.w (by omega))
      rw [pairT_self]
      (repeat (first | with_reducible (first | apply wp_seq | apply wp_sIf | apply wp_next | apply wp_ret | apply wp_set | apply wp_own | apply wp_par | apply wp_par3 | apply wp_asg | apply wp_for | apply wp_tVal | apply wp_tTru | apply wp_tAnd | apply wp_tOr | apply wp_tNot | apply wp_e2 | apply wp_e1 | apply wp_eC | apply wp_call | apply wp_cons | apply wp_nil | apply wp_mt | apply wp_sl | apply wp_pNo | apply wp_pAt | apply wp_rev | apply wp_eIf | apply wp_eAnd | apply wp_eOr | apply wp_eNot | apply wp_chain | apply wp_isi | apply wp_isi2 | apply wp_fn | apply wp_iOf | apply wp_iRng | apply wp_lc | apply wp_tup | apply wp_lst | apply wp_frz | apply ko_nx | apply ko_rt | apply kr_rt | apply kr_nx | apply ex_bool | apply ex_int) | ((with_reducible apply wp_eV); rfl) | ((with_reducible apply wp_eOv); rfl) | ((with_reducible apply wp_eOo); rfl) | ((with_reducible apply wp_st); rfl; decide) | ((with_reducible apply wp_stSet); rfl) | ((with_reducible apply wp_fnS); rfl) | ((with_reducible apply ex_some); rfl) | ((with_reducible apply ex_sb); rfl) | ((with_reducible apply br_t); rfl) | ((with_reducible apply br_f); rfl) | ((with_reducible apply ex_some (mulB ?hh)); case hh => decide +kernel) | ((with_reducible apply ex_some (mulA ?hh)); case hh => decide +kernel) | ((with_reducible apply ex_some (rngL ?hh)); case hh => decide +kernel) | (refine ⟨rfl, ?_⟩)))
      refine ⟨decide_eq_true (by omega), ?_⟩
      refine wp_eq (lcGo_pure (p := fun _ => true) (f := fun d => .bool (wholeB d)) ?_) (wp_pure ?_)
      · intro d hd
        exact ⟨_, rfl, rfl, fun _ => is_whole_eq d⟩
      · rw [List.filter_eq_self.mpr fun _ _ => rfl]
        refine ex_some notIn_bools ?_
        (repeat (first | with_reducible (first | apply wp_seq | apply wp_sIf | apply wp_next | apply wp_ret | apply wp_set | apply wp_own | apply wp_par | apply wp_par3 | apply wp_asg | apply wp_for | apply wp_tVal | apply wp_tTru | apply wp_tAnd | apply wp_tOr | apply wp_tNot | apply wp_e2 | apply wp_e1 | apply wp_eC | apply wp_call | apply wp_cons | apply wp_nil | apply wp_mt | apply wp_sl | apply wp_pNo | apply wp_pAt | apply wp_rev | apply wp_eIf | apply wp_eAnd | apply wp_eOr | apply wp_eNot | apply wp_chain | apply wp_isi | apply wp_isi2 | apply wp_fn | apply wp_iOf | apply wp_iRng | apply wp_lc | apply wp_tup | apply wp_lst | apply wp_frz | apply ko_nx | apply ko_rt | apply kr_rt | apply kr_nx | apply ex_bool | apply ex_int) | ((with_reducible apply wp_eV); rfl) | ((with_reducible apply wp_eOv); rfl) | ((with_reducible apply wp_eOo); rfl) | ((with_reducible apply wp_st); rfl; decide) | ((with_reducible apply wp_stSet); rfl) | ((with_reducible apply wp_fnS); rfl) | ((with_reducible apply ex_some); rfl) | ((with_reducible apply ex_sb); rfl) | ((with_reducible apply br_t); rfl) | ((with_reducible apply br_f); rfl) | ((with_reducible apply ex_some (mulB ?hh)); case hh => decide +kernel) | ((with_reducible apply ex_some (mulA ?hh)); case hh => decide +kernel) | ((with_reducible apply ex_some (rngL ?hh)); case hh => decide +kernel) | (refine ⟨rfl, ?_⟩)))
        cases hw : xs.all wholeB with
        | false => refine br_f rfl ?_; (repeat (first | with_reducible (first | apply wp_seq | apply wp_sIf | apply wp_next | apply wp_ret | apply wp_set | apply wp_own | apply wp_par | apply wp_par3 | apply wp_asg | apply wp_for | apply wp_tVal | apply wp_tTru | apply wp_tAnd | apply wp_tOr | apply wp_tNot | apply wp_e2 | apply wp_e1 | apply wp_eC | apply wp_call | apply wp_cons | apply wp_nil | apply wp_mt | apply wp_sl | apply wp_pNo | apply wp_pAt | apply wp_rev | apply wp_eIf | apply wp_eAnd | apply wp_eOr | apply wp_eNot | apply wp_chain | apply wp_isi | apply wp_isi2 | apply wp_fn | apply wp_iOf | apply wp_iRng | apply wp_lc | apply wp_tup | apply wp_lst | apply wp_frz | apply ko_nx | apply ko_rt | apply kr_rt | apply kr_nx | apply ex_bool | apply ex_int) | ((with_reducible apply wp_eV); rfl) | ((with_reducible apply wp_eOv); rfl) | ((with_reducible apply wp_eOo); rfl) | ((with_reducible apply wp_st); rfl; decide) | ((with_reducible apply wp_stSet); rfl) | ((with_reducible apply wp_fnS); rfl) | ((with_reducible apply ex_some); rfl) | ((with_reducible apply ex_sb); rfl) | ((with_reducible apply br_t); rfl) | ((with_reducible apply br_f); rfl) | ((with_reducible apply ex_some (mulB ?hh)); case hh => decide +kernel) | ((with_reducible apply ex_some (mulA ?hh)); case hh => decide +kernel) | ((with_reducible apply ex_some (rngL ?hh)); case hh => decide +kernel) | (refine ⟨rfl, ?_⟩))); rfl
        | true =>
          refine br_t rfl ?_
          (repeat (first | with_reducible (first | apply wp_seq | apply wp_sIf | apply wp_next | apply wp_ret | apply wp_set | apply wp_own | apply wp_par | apply wp_par3 | apply wp_asg | apply wp_for | apply wp_tVal | apply wp_tTru | apply wp_tAnd | apply wp_tOr | apply wp_tNot | apply wp_e2 | apply wp_e1 | apply wp_eC | apply wp_call | apply wp_cons | apply wp_nil | apply wp_mt | apply wp_sl | apply wp_pNo | apply wp_pAt | apply wp_rev | apply wp_eIf | apply wp_eAnd | apply wp_eOr | apply wp_eNot | apply wp_chain | apply wp_isi | apply wp_isi2 | apply wp_fn | apply wp_iOf | apply wp_iRng | apply wp_lc | apply wp_tup | apply wp_lst | apply wp_frz | apply ko_nx | apply ko_rt | apply kr_rt | apply kr_nx | apply ex_bool | apply ex_int) | ((with_reducible apply wp_eV); rfl) | ((with_reducible apply wp_eOv); rfl) | ((with_reducible apply wp_eOo); rfl) | ((with_reducible apply wp_st); rfl; decide) | ((with_reducible apply wp_stSet); rfl) | ((with_reducible apply wp_fnS); rfl) | ((with_reducible apply ex_some); rfl) | ((with_reducible apply ex_sb); rfl) | ((with_reducible apply br_t); rfl) | ((with_reducible apply br_f); rfl) | ((with_reducible apply ex_some (mulB ?hh)); case hh => decide +kernel) | ((with_reducible apply ex_some (mulA ?hh)); case hh => decide +kernel) | ((with_reducible apply ex_some (rngL ?hh)); case hh => decide +kernel) | (refine ⟨rfl, ?_⟩)))
          refine ex_some (z := .bool (PyData.eqvAll xs (l.reverse.map .int))) ?_ ?_
          · have e : eqD (.tuple [.str "row", .tuple xs]) (toldR l) = some (.bool (PyData.eqv (.tuple [.str "row", .tuple xs]) (toldR l))) := if_pos (by
              unfold okEq
              rw [shaped_san (odd_tup hd) (by omega), shaped_san toldR_san (by omega)]; simp)
            rw [e]
            simp [toldR, PyData.eqv, PyData.eqvAll]
          · (repeat (first | with_reducible (first | apply wp_seq | apply wp_sIf | apply wp_next | apply wp_ret | apply wp_set | apply wp_own | apply wp_par | apply wp_par3 | apply wp_asg | apply wp_for | apply wp_tVal | apply wp_tTru | apply wp_tAnd | apply wp_tOr | apply wp_tNot | apply wp_e2 | apply wp_e1 | apply wp_eC | apply wp_call | apply wp_cons | apply wp_nil | apply wp_mt | apply wp_sl | apply wp_pNo | apply wp_pAt | apply wp_rev | apply wp_eIf | apply wp_eAnd | apply wp_eOr | apply wp_eNot | apply wp_chain | apply wp_isi | apply wp_isi2 | apply wp_fn | apply wp_iOf | apply wp_iRng | apply wp_lc | apply wp_tup | apply wp_lst | apply wp_frz | apply ko_nx | apply ko_rt | apply kr_rt | apply kr_nx | apply ex_bool | apply ex_int) | ((with_reducible apply wp_eV); rfl) | ((with_reducible apply wp_eOv); rfl) | ((with_reducible apply wp_eOo); rfl) | ((with_reducible apply wp_st); rfl; decide) | ((with_reducible apply wp_stSet); rfl) | ((with_reducible apply wp_fnS); rfl) | ((with_reducible apply ex_some); rfl) | ((with_reducible apply ex_sb); rfl) | ((with_reducible apply br_t); rfl) | ((with_reducible apply br_f); rfl) | ((with_reducible apply ex_some (mulB ?hh)); case hh => decide +kernel) | ((with_reducible apply ex_some (mulA ?hh)); case hh => decide +kernel) | ((with_reducible apply ex_some (rngL ?hh)); case hh => decide +kernel) | (refine ⟨rfl, ?_⟩))); rfl
    | _ => (repeat (first | with_reducible (first | apply wp_seq | apply wp_sIf | apply wp_next | apply wp_ret | apply wp_set | apply wp_own | apply wp_par | apply wp_par3 | apply wp_asg | apply wp_for | apply wp_tVal | apply wp_tTru | apply wp_tAnd | apply wp_tOr | apply wp_tNot | apply wp_e2 | apply wp_e1 | apply wp_eC | apply wp_call | apply wp_cons | apply wp_nil | apply wp_mt | apply wp_sl | apply wp_pNo | apply wp_pAt | apply wp_rev | apply wp_eIf | apply wp_eAnd | apply wp_eOr | apply wp_eNot | apply wp_chain | apply wp_isi | apply wp_isi2 | apply wp_fn | apply wp_iOf | apply wp_iRng | apply wp_lc | apply wp_tup | apply wp_lst | apply wp_frz | apply ko_nx | apply ko_rt | apply kr_rt | apply kr_nx | apply ex_bool | apply ex_int) | ((with_reducible apply wp_eV); rfl) | ((with_reducible apply wp_eOv); rfl) | ((with_reducible apply wp_eOo); rfl) | ((with_reducible apply wp_st); rfl; decide) | ((with_reducible apply wp_stSet); rfl) | ((with_reducible apply wp_fnS); rfl) | ((with_reducible apply ex_some); rfl) | ((with_reducible apply ex_sb); rfl) | ((with_reducible apply br_t); rfl) | ((with_reducible apply br_f); rfl) | ((with_reducible apply ex_some (mulB ?hh)); case hh => decide +kernel) | ((with_reducible apply ex_some (mulA ?hh)); case hh => decide +kernel) | ((with_reducible apply ex_some (rngL ?hh)); case hh => decide +kernel) | (refine ⟨rfl, ?_⟩))); rfl
/-- 1, 2, 6, .. -/
def fc : Nat → Nat
  | 0 => 1
  | t + 1 => fc t * (t + 1)
def accO (n : Nat) (ns : List Int) : Bool := decide (ns.length ≤ 20) && (ns.head? != some 0 && (okD ns.reverse 2 && decide (fv ns.reverse 2 = n)))
def unI : D → Int
  | .int i => i
  | _ => 0
theorem unI_ints (ns : List Int) : (ns.map PyData.int).map unI = ns := by
  rw [List.map_map]
  exact List.map_id ns
def accX (n : Nat) (xs : List D) : Bool := xs.all wholeB && accO n (xs.map unI)
theorem accX_ints {n : Nat} {ns : List Int} : accX n (ns.map .int) = accO n ns := by unfold accX; rw [ints_wholes, unI_ints]; rfl
theorem acc_orders {n : Nat} {d : D} (hd : Odd 60000 13 d) : f_law_accepts_too [.int n, d] = pure (.bool (pairT "row" (accX n) d)) := by
  refine pure_of fun s => ?_
  unfold f_law_accepts_too
  apply wp_runD
  unfold b_law_accepts_too
  (repeat (first | with_reducible (first | apply wp_seq | apply wp_sIf | apply wp_next | apply wp_ret | apply wp_set | apply wp_own | apply wp_par | apply wp_par3 | apply wp_asg | apply wp_for | apply wp_tVal | apply wp_tTru | apply wp_tAnd | apply wp_tOr | apply wp_tNot | apply wp_e2 | apply wp_e1 | apply wp_eC | apply wp_call | apply wp_cons | apply wp_nil | apply wp_mt | apply wp_sl | apply wp_pNo | apply wp_pAt | apply wp_rev | apply wp_eIf | apply wp_eAnd | apply wp_eOr | apply wp_eNot | apply wp_chain | apply wp_isi | apply wp_isi2 | apply wp_fn | apply wp_iOf | apply wp_iRng | apply wp_lc | apply wp_tup | apply wp_lst | apply wp_frz | apply ko_nx | apply ko_rt | apply kr_rt | apply kr_nx | apply ex_bool | apply ex_int) | ((with_reducible apply wp_eV); rfl) | ((with_reducible apply wp_eOv); rfl) | ((with_reducible apply wp_eOo); rfl) | ((with_reducible apply wp_st); rfl; decide) | ((with_reducible apply wp_stSet); rfl) | ((with_reducible apply wp_fnS); rfl) | ((with_reducible apply ex_some); rfl) | ((with_reducible apply ex_sb); rfl) | ((with_reducible apply br_t); rfl) | ((with_reducible apply br_f); rfl) | ((with_reducible apply ex_some (mulB ?hh)); case hh => decide +kernel) | ((with_reducible apply ex_some (mulA ?hh)); case hh => decide +kernel) | ((with_reducible apply ex_some (rngL ?hh)); case hh => decide +kernel) | (refine ⟨rfl, ?_⟩)))
  refine wp_eq (law_is_eq d "row" 2 (by decide)) (wp_pure ?_)
  cases h : toldB "row" 2 d with
  | false => (repeat (first | with_reducible (first | apply wp_seq | apply wp_sIf | apply wp_next | apply wp_ret | apply wp_set | apply wp_own | apply wp_par | apply wp_par3 | apply wp_asg | apply wp_for | apply wp_tVal | apply wp_tTru | apply wp_tAnd | apply wp_tOr | apply wp_tNot | apply wp_e2 | apply wp_e1 | apply wp_eC | apply wp_call | apply wp_cons | apply wp_nil | apply wp_mt | apply wp_sl | apply wp_pNo | apply wp_pAt | apply wp_rev | apply wp_eIf | apply wp_eAnd | apply wp_eOr | apply wp_eNot | apply wp_chain | apply wp_isi | apply wp_isi2 | apply wp_fn | apply wp_iOf | apply wp_iRng | apply wp_lc | apply wp_tup | apply wp_lst | apply wp_frz | apply ko_nx | apply ko_rt | apply kr_rt | apply kr_nx | apply ex_bool | apply ex_int) | ((with_reducible apply wp_eV); rfl) | ((with_reducible apply wp_eOv); rfl) | ((with_reducible apply wp_eOo); rfl) | ((with_reducible apply wp_st); rfl; decide) | ((with_reducible apply wp_stSet); rfl) | ((with_reducible apply wp_fnS); rfl) | ((with_reducible apply ex_some); rfl) | ((with_reducible apply ex_sb); rfl) | ((with_reducible apply br_t); rfl) | ((with_reducible apply br_f); rfl) | ((with_reducible apply ex_some (mulB ?hh)); case hh => decide +kernel) | ((with_reducible apply ex_some (mulA ?hh)); case hh => decide +kernel) | ((with_reducible apply ex_some (rngL ?hh)); case hh => decide +kernel) | (refine ⟨rfl, ?_⟩))); rw [pairT_no h]
  | true =>
    obtain ⟨x, rfl⟩ := toldB_two h
    have so := (odd_tup hd).ofTup
    (repeat (first | with_reducible (first | apply wp_seq | apply wp_sIf | apply wp_next | apply wp_ret | apply wp_set | apply wp_own | apply wp_par | apply wp_par3 | apply wp_asg | apply wp_for | apply wp_tVal | apply wp_tTru | apply wp_tAnd | apply wp_tOr | apply wp_tNot | apply wp_e2 | apply wp_e1 | apply wp_eC | apply wp_call | apply wp_cons | apply wp_nil | apply wp_mt | apply wp_sl | apply wp_pNo | apply wp_pAt | apply wp_rev | apply wp_eIf | apply wp_eAnd | apply wp_eOr | apply wp_eNot | apply wp_chain | apply wp_isi | apply wp_isi2 | apply wp_fn | apply wp_iOf | apply wp_iRng | apply wp_lc | apply wp_tup | apply wp_lst | apply wp_frz | apply ko_nx | apply ko_rt | apply kr_rt | apply kr_nx | apply ex_bool | apply ex_int) | ((with_reducible apply wp_eV); rfl) | ((with_reducible apply wp_eOv); rfl) | ((with_reducible apply wp_eOo); rfl) | ((with_reducible apply wp_st); rfl; decide) | ((with_reducible apply wp_stSet); rfl) | ((with_reducible apply wp_fnS); rfl) | ((with_reducible apply ex_some); rfl) | ((with_reducible apply ex_sb); rfl) | ((with_reducible apply br_t); rfl) | ((with_reducible apply br_f); rfl) | ((with_reducible apply ex_some (mulB ?hh)); case hh => decide +kernel) | ((with_reducible apply ex_some (mulA ?hh)); case hh => decide +kernel) | ((with_reducible apply ex_some (rngL ?hh)); case hh => decide +kernel) | (refine ⟨rfl, ?_⟩)))
    cases x with
    | tuple xs =>
      rw [pairT_self]
      have sx0 := (so.mem (d := .tuple xs) (by simp)).ofTup
      have sx : Sans 60000 13 xs := sx0.mono (by omega) (by omega)
      have hl : xs.length ≤ 60000 := Nat.le_trans wts_len sx.w
      (repeat (first | with_reducible (first | apply wp_seq | apply wp_sIf | apply wp_next | apply wp_ret | apply wp_set | apply wp_own | apply wp_par | apply wp_par3 | apply wp_asg | apply wp_for | apply wp_tVal | apply wp_tTru | apply wp_tAnd | apply wp_tOr | apply wp_tNot | apply wp_e2 | apply wp_e1 | apply wp_eC | apply wp_call | apply wp_cons | apply wp_nil | apply wp_mt | apply wp_sl | apply wp_pNo | apply wp_pAt | apply wp_rev | apply wp_eIf | apply wp_eAnd | apply wp_eOr | apply wp_eNot | apply wp_chain | apply wp_isi | apply wp_isi2 | apply wp_fn | apply wp_iOf | apply wp_iRng | apply wp_lc | apply wp_tup | apply wp_lst | apply wp_frz | apply ko_nx | apply ko_rt | apply kr_rt | apply kr_nx | apply ex_bool | apply ex_int) | ((with_reducible apply wp_eV); rfl) | ((with_reducible apply wp_eOv); rfl) | ((with_reducible apply wp_eOo); rfl) | ((with_reducible apply wp_st); rfl; decide) | ((with_reducible apply wp_stSet); rfl) | ((with_reducible apply wp_fnS); rfl) | ((with_reducible apply ex_some); rfl) | ((with_reducible apply ex_sb); rfl) | ((with_reducible apply br_t); rfl) | ((with_reducible apply br_f); rfl) | ((with_reducible apply ex_some (mulB ?hh)); case hh => decide +kernel) | ((with_reducible apply ex_some (mulA ?hh)); case hh => decide +kernel) | ((with_reducible apply ex_some (rngL ?hh)); case hh => decide +kernel) | (refine ⟨rfl, ?_⟩)))
      refine wp_eq (are_wholes_eq xs sx) (wp_pure ?_)
      cases hw : xs.all wholeB with
      | false =>
        (repeat (first | with_reducible (first | apply wp_seq | apply wp_sIf | apply wp_next | apply wp_ret | apply wp_set | apply wp_own | apply wp_par | apply wp_par3 | apply wp_asg | apply wp_for | apply wp_tVal | apply wp_tTru | apply wp_tAnd | apply wp_tOr | apply wp_tNot | apply wp_e2 | apply wp_e1 | apply wp_eC | apply wp_call | apply wp_cons | apply wp_nil | apply wp_mt | apply wp_sl | apply wp_pNo | apply wp_pAt | apply wp_rev | apply wp_eIf | apply wp_eAnd | apply wp_eOr | apply wp_eNot | apply wp_chain | apply wp_isi | apply wp_isi2 | apply wp_fn | apply wp_iOf | apply wp_iRng | apply wp_lc | apply wp_tup | apply wp_lst | apply wp_frz | apply ko_nx | apply ko_rt | apply kr_rt | apply kr_nx | apply ex_bool | apply ex_int) | ((with_reducible apply wp_eV); rfl) | ((with_reducible apply wp_eOv); rfl) | ((with_reducible apply wp_eOo); rfl) | ((with_reducible apply wp_st); rfl; decide) | ((with_reducible apply wp_stSet); rfl) | ((with_reducible apply wp_fnS); rfl) | ((with_reducible apply ex_some); rfl) | ((with_reducible apply ex_sb); rfl) | ((with_reducible apply br_t); rfl) | ((with_reducible apply br_f); rfl) | ((with_reducible apply ex_some (mulB ?hh)); case hh => decide +kernel) | ((with_reducible apply ex_some (mulA ?hh)); case hh => decide +kernel) | ((with_reducible apply ex_some (rngL ?hh)); case hh => decide +kernel) | (refine ⟨rfl, ?_⟩)))
        simp [accX, hw]
      | true =>
        obtain ⟨ns, rfl⟩ := wholes_ints hw
        rw [accX_ints]
        have hln : (ns.map PyData.int).length = ns.length := by simp
        rw [hln] at hl
        (repeat (first | with_reducible (first | apply wp_seq | apply wp_sIf | apply wp_next | apply wp_ret | apply wp_set | apply wp_own | apply wp_par | apply wp_par3 | apply wp_asg | apply wp_for | apply wp_tVal | apply wp_tTru | apply wp_tAnd | apply wp_tOr | apply wp_tNot | apply wp_e2 | apply wp_e1 | apply wp_eC | apply wp_call | apply wp_cons | apply wp_nil | apply wp_mt | apply wp_sl | apply wp_pNo | apply wp_pAt | apply wp_rev | apply wp_eIf | apply wp_eAnd | apply wp_eOr | apply wp_eNot | apply wp_chain | apply wp_isi | apply wp_isi2 | apply wp_fn | apply wp_iOf | apply wp_iRng | apply wp_lc | apply wp_tup | apply wp_lst | apply wp_frz | apply ko_nx | apply ko_rt | apply kr_rt | apply kr_nx | apply ex_bool | apply ex_int) | ((with_reducible apply wp_eV); rfl) | ((with_reducible apply wp_eOv); rfl) | ((with_reducible apply wp_eOo); rfl) | ((with_reducible apply wp_st); rfl; decide) | ((with_reducible apply wp_stSet); rfl) | ((with_reducible apply wp_fnS); rfl) | ((with_reducible apply ex_some); rfl) | ((with_reducible apply ex_sb); rfl) | ((with_reducible apply br_t); rfl) | ((with_reducible apply br_f); rfl) | ((with_reducible apply ex_some (mulB ?hh)); case hh => decide +kernel) | ((with_reducible apply ex_some (mulA ?hh)); case hh => decide +kernel) | ((with_reducible apply ex_some (rngL ?hh)); case hh => decide +kernel) | (refine ⟨rfl, ?_⟩)))
        rw [hln]
        refine ⟨fun hb => ?_, fun hb => ?_⟩
        · have hb : ¬ ns.length ≤ 20 := by have := of_decide_eq_true hb; omega
          (repeat (first | with_reducible (first | apply wp_seq | apply wp_sIf | apply wp_next | apply wp_ret | apply wp_set | apply wp_own | apply wp_par | apply wp_par3 | apply wp_asg | apply wp_for | apply wp_tVal | apply wp_tTru | apply wp_tAnd | apply wp_tOr | apply wp_tNot | apply wp_e2 | apply wp_e1 | apply wp_eC | apply wp_call | apply wp_cons | apply wp_nil | apply wp_mt | apply wp_sl | apply wp_pNo | apply wp_pAt | apply wp_rev | apply wp_eIf | apply wp_eAnd | apply wp_eOr | apply wp_eNot | apply wp_chain | apply wp_isi | apply wp_isi2 | apply wp_fn | apply wp_iOf | apply wp_iRng | apply wp_lc | apply wp_tup | apply wp_lst | apply wp_frz | apply ko_nx | apply ko_rt | apply kr_rt | apply kr_nx | apply ex_bool | apply ex_int) | ((with_reducible apply wp_eV); rfl) | ((with_reducible apply wp_eOv); rfl) | ((with_reducible apply wp_eOo); rfl) | ((with_reducible apply wp_st); rfl; decide) | ((with_reducible apply wp_stSet); rfl) | ((with_reducible apply wp_fnS); rfl) | ((with_reducible apply ex_some); rfl) | ((with_reducible apply ex_sb); rfl) | ((with_reducible apply br_t); rfl) | ((with_reducible apply br_f); rfl) | ((with_reducible apply ex_some (mulB ?hh)); case hh => decide +kernel) | ((with_reducible apply ex_some (mulA ?hh)); case hh => decide +kernel) | ((with_reducible apply ex_some (rngL ?hh)); case hh => decide +kernel) | (refine ⟨rfl, ?_⟩)))
          simp [accO, hb]
        · have hb : ns.length ≤ 20 := by have := of_decide_eq_false hb; omega
          (repeat (first | with_reducible (first | apply wp_seq | apply wp_sIf | apply wp_next | apply wp_ret | apply wp_set | apply wp_own | apply wp_par | apply wp_par3 | apply wp_asg | apply wp_for | apply wp_tVal | apply wp_tTru | apply wp_tAnd | apply wp_tOr | apply wp_tNot | apply wp_e2 | apply wp_e1 | apply wp_eC | apply wp_call | apply wp_cons | apply wp_nil | apply wp_mt | apply wp_sl | apply wp_pNo | apply wp_pAt | apply wp_rev | apply wp_eIf | apply wp_eAnd | apply wp_eOr | apply wp_eNot | apply wp_chain | apply wp_isi | apply wp_isi2 | apply wp_fn | apply wp_iOf | apply wp_iRng | apply wp_lc | apply wp_tup | apply wp_lst | apply wp_frz | apply ko_nx | apply ko_rt | apply kr_rt | apply kr_nx | apply ex_bool | apply ex_int) | ((with_reducible apply wp_eV); rfl) | ((with_reducible apply wp_eOv); rfl) | ((with_reducible apply wp_eOo); rfl) | ((with_reducible apply wp_st); rfl; decide) | ((with_reducible apply wp_stSet); rfl) | ((with_reducible apply wp_fnS); rfl) | ((with_reducible apply ex_some); rfl) | ((with_reducible apply ex_sb); rfl) | ((with_reducible apply br_t); rfl) | ((with_reducible apply br_f); rfl) | ((with_reducible apply ex_some (mulB ?hh)); case hh => decide +kernel) | ((with_reducible apply ex_some (mulA ?hh)); case hh => decide +kernel) | ((with_reducible apply ex_some (rngL ?hh)); case hh => decide +kernel) | (refine ⟨rfl, ?_⟩)))
          have ecut : cut (ns.map PyData.int) none (some 1) = (ns.take 1).map .int := by
            cases ns with
            | nil => rfl
            | cons a r => exact (cut_to (xs := (a :: r).map PyData.int) (k := 1) (by simp)).trans (by simp)
          rw [ecut]
          refine ex_some (z := .bool (ns.head? == some 0)) ?_ ?_
          · have e : eqD (.tuple ((ns.take 1).map .int)) (.tuple [.int 0]) = some (.bool (PyData.eqv (.tuple ((ns.take 1).map .int)) (.tuple [.int 0]))) := if_pos (by
              unfold okEq
              rw [shaped_san (Sans.ints (n := 0) _).tup (by omega)]; rfl)
            rw [e]
            cases ns with
            | nil => rfl
            | cons a r =>
              show some (PyData.bool (PyData.eqvAll ([a].map .int) ([0].map .int))) = _
              rw [eqvAll_ints]
              congr 2
              rw [Bool.eq_iff_iff]; simp
          (repeat (first | with_reducible (first | apply wp_seq | apply wp_sIf | apply wp_next | apply wp_ret | apply wp_set | apply wp_own | apply wp_par | apply wp_par3 | apply wp_asg | apply wp_for | apply wp_tVal | apply wp_tTru | apply wp_tAnd | apply wp_tOr | apply wp_tNot | apply wp_e2 | apply wp_e1 | apply wp_eC | apply wp_call | apply wp_cons | apply wp_nil | apply wp_mt | apply wp_sl | apply wp_pNo | apply wp_pAt | apply wp_rev | apply wp_eIf | apply wp_eAnd | apply wp_eOr | apply wp_eNot | apply wp_chain | apply wp_isi | apply wp_isi2 | apply wp_fn | apply wp_iOf | apply wp_iRng | apply wp_lc | apply wp_tup | apply wp_lst | apply wp_frz | apply ko_nx | apply ko_rt | apply kr_rt | apply kr_nx | apply ex_bool | apply ex_int) | ((with_reducible apply wp_eV); rfl) | ((with_reducible apply wp_eOv); rfl) | ((with_reducible apply wp_eOo); rfl) | ((with_reducible apply wp_st); rfl; decide) | ((with_reducible apply wp_stSet); rfl) | ((with_reducible apply wp_fnS); rfl) | ((with_reducible apply ex_some); rfl) | ((with_reducible apply ex_sb); rfl) | ((with_reducible apply br_t); rfl) | ((with_reducible apply br_f); rfl) | ((with_reducible apply ex_some (mulB ?hh)); case hh => decide +kernel) | ((with_reducible apply ex_some (mulA ?hh)); case hh => decide +kernel) | ((with_reducible apply ex_some (rngL ?hh)); case hh => decide +kernel) | (refine ⟨rfl, ?_⟩)))
          cases hh : (ns.head? == some 0) with
          | true =>
            refine br_t rfl ?_
            (repeat (first | with_reducible (first | apply wp_seq | apply wp_sIf | apply wp_next | apply wp_ret | apply wp_set | apply wp_own | apply wp_par | apply wp_par3 | apply wp_asg | apply wp_for | apply wp_tVal | apply wp_tTru | apply wp_tAnd | apply wp_tOr | apply wp_tNot | apply wp_e2 | apply wp_e1 | apply wp_eC | apply wp_call | apply wp_cons | apply wp_nil | apply wp_mt | apply wp_sl | apply wp_pNo | apply wp_pAt | apply wp_rev | apply wp_eIf | apply wp_eAnd | apply wp_eOr | apply wp_eNot | apply wp_chain | apply wp_isi | apply wp_isi2 | apply wp_fn | apply wp_iOf | apply wp_iRng | apply wp_lc | apply wp_tup | apply wp_lst | apply wp_frz | apply ko_nx | apply ko_rt | apply kr_rt | apply kr_nx | apply ex_bool | apply ex_int) | ((with_reducible apply wp_eV); rfl) | ((with_reducible apply wp_eOv); rfl) | ((with_reducible apply wp_eOo); rfl) | ((with_reducible apply wp_st); rfl; decide) | ((with_reducible apply wp_stSet); rfl) | ((with_reducible apply wp_fnS); rfl) | ((with_reducible apply ex_some); rfl) | ((with_reducible apply ex_sb); rfl) | ((with_reducible apply br_t); rfl) | ((with_reducible apply br_f); rfl) | ((with_reducible apply ex_some (mulB ?hh)); case hh => decide +kernel) | ((with_reducible apply ex_some (mulA ?hh)); case hh => decide +kernel) | ((with_reducible apply ex_some (rngL ?hh)); case hh => decide +kernel) | (refine ⟨rfl, ?_⟩)))
            have : ns.head? = some 0 := by simpa using hh
            simp [accO, this]
          | false =>
            refine br_f rfl ?_
            apply wp_next
            apply ko_nx
            apply wp_seq
            (repeat (first | with_reducible (first | apply wp_sIf | apply wp_next | apply wp_ret | apply wp_set | apply wp_own | apply wp_par | apply wp_par3 | apply wp_asg | apply wp_for | apply wp_tVal | apply wp_tTru | apply wp_tAnd | apply wp_tOr | apply wp_tNot | apply wp_e2 | apply wp_e1 | apply wp_eC | apply wp_call | apply wp_cons | apply wp_nil | apply wp_mt | apply wp_sl | apply wp_pNo | apply wp_pAt | apply wp_rev | apply wp_eIf | apply wp_eAnd | apply wp_eOr | apply wp_eNot | apply wp_chain | apply wp_isi | apply wp_isi2 | apply wp_fn | apply wp_iOf | apply wp_iRng | apply wp_lc | apply wp_tup | apply wp_lst | apply wp_frz | apply ko_rt | apply kr_rt | apply kr_nx | apply ex_bool | apply ex_int) | ((with_reducible apply wp_eV); rfl) | ((with_reducible apply wp_eOv); rfl) | ((with_reducible apply wp_eOo); rfl) | ((with_reducible apply wp_st); rfl; decide) | ((with_reducible apply wp_stSet); rfl) | ((with_reducible apply wp_fnS); rfl) | ((with_reducible apply ex_some); rfl) | ((with_reducible apply ex_sb); rfl) | ((with_reducible apply br_t); rfl) | ((with_reducible apply br_f); rfl) | ((with_reducible apply ex_some (mulB ?hh)); case hh => decide +kernel) | ((with_reducible apply ex_some (mulA ?hh)); case hh => decide +kernel) | ((with_reducible apply ex_some (rngL ?hh)); case hh => decide +kernel) | (refine ⟨rfl, ?_⟩)))
            apply ko_nx
            apply wp_seq
            apply wp_for
            apply wp_iRng
            apply wp_cons
            apply wp_call
            apply wp_cons
            apply wp_e2
            refine wp_eV rfl ?_
            apply wp_eC
            refine ex_some rfl ?_
            apply wp_nil
            refine ex_some rfl ?_
            apply wp_nil
            rw [hln]
            refine ex_some (rng1_ok (by omega)) ?_
            have hrl : ns.reverse.length = ns.length := List.length_reverse
            have goal1 : accO n ns = (okD ns.reverse 2 && decide (fv ns.reverse 2 = n)) := by
              have h1 : (ns.head? != some 0) = true := by simp [bne, hh]
              simp only [accO, h1, decide_eq_true hb, Bool.true_and]
            rw [goal1]
            refine wp_forX0 (fun t env s' => s' = s ∧ ∃ (T : Int) (v4 v5 : Option DV), env = [some (.val (.int n)), some (.val (.tuple [.str "row", .tuple (ns.map .int)])), some (.val (.int T)), some (.val (.int (fc t))), v4, v5] ∧ okD ns.reverse 2 = okD (ns.reverse.drop t) (t + 2) ∧ fv ns.reverse 2 = T + fc (t + 1) * fv (ns.reverse.drop t) (t + 2)) _ ?_ ?_ ?_
            · rintro t ht env s' ⟨rfl, T, v4, v5, rfl, hok, hT⟩
              have ht2 : t < ns.length := by rwa [range_len] at ht
              rw [range_get]
              have ht3 : t < ns.reverse.length := by omega
              have hdrop := List.drop_eq_getElem_cons ht3
              generalize hy : ns.reverse[t] = y at *
              rw [hdrop] at hok hT
              simp only [okD, fv] at hok hT
              have eix : ixD (.tuple (ns.map .int)) (.int ((ns.length : Int) - 1 - t)) = some (.int y) := by
                have e : ((ns.length : Int) - 1 - t) = ((ns.length - 1 - t : Nat) : Int) := by omega
                rw [e]
                refine (ix_nat (xs := ns.map PyData.int) (k := ns.length - 1 - t) (by rw [hln]; omega)).trans ?_
                rw [List.getElem_map, ← hy, List.getElem_reverse]
              refine ⟨_, rfl, ?_⟩
              (repeat (first | with_reducible (first | apply wp_seq | apply wp_sIf | apply wp_next | apply wp_ret | apply wp_set | apply wp_own | apply wp_par | apply wp_par3 | apply wp_asg | apply wp_for | apply wp_tVal | apply wp_tTru | apply wp_tAnd | apply wp_tOr | apply wp_tNot | apply wp_e2 | apply wp_e1 | apply wp_eC | apply wp_call | apply wp_cons | apply wp_nil | apply wp_mt | apply wp_sl | apply wp_pNo | apply wp_pAt | apply wp_rev | apply wp_eIf | apply wp_eAnd | apply wp_eOr | apply wp_eNot | apply wp_chain | apply wp_isi | apply wp_isi2 | apply wp_fn | apply wp_iOf | apply wp_iRng | apply wp_lc | apply wp_tup | apply wp_lst | apply wp_frz | apply ko_nx | apply ko_rt | apply kr_rt | apply kr_nx | apply ex_bool | apply ex_int) | ((with_reducible apply wp_eV); rfl) | ((with_reducible apply wp_eOv); rfl) | ((with_reducible apply wp_eOo); rfl) | ((with_reducible apply wp_st); rfl; decide) | ((with_reducible apply wp_stSet); rfl) | ((with_reducible apply wp_fnS); rfl) | ((with_reducible apply ex_some); rfl) | ((with_reducible apply ex_sb); rfl) | ((with_reducible apply br_t); rfl) | ((with_reducible apply br_f); rfl) | ((with_reducible apply ex_some (mulB ?hh)); case hh => decide +kernel) | ((with_reducible apply ex_some (mulA ?hh)); case hh => decide +kernel) | ((with_reducible apply ex_some (rngL ?hh)); case hh => decide +kernel) | (refine ⟨rfl, ?_⟩)))
              rw [hln]
              refine ex_some eix ?_
              apply ko_nx
              apply wp_seq
              apply wp_set
              apply wp_e2
              refine wp_eV rfl ?_
              apply wp_e2
              refine wp_eV rfl ?_
              apply wp_eC
              refine ex_some rfl ?_
              refine ex_some (mulB (sm64 (by omega) (by omega))) ?_
              (repeat (first | with_reducible (first | apply wp_seq | apply wp_sIf | apply wp_next | apply wp_ret | apply wp_set | apply wp_own | apply wp_par | apply wp_par3 | apply wp_asg | apply wp_for | apply wp_tVal | apply wp_tTru | apply wp_tAnd | apply wp_tOr | apply wp_tNot | apply wp_e2 | apply wp_e1 | apply wp_eC | apply wp_call | apply wp_cons | apply wp_nil | apply wp_mt | apply wp_sl | apply wp_pNo | apply wp_pAt | apply wp_rev | apply wp_eIf | apply wp_eAnd | apply wp_eOr | apply wp_eNot | apply wp_chain | apply wp_isi | apply wp_isi2 | apply wp_fn | apply wp_iOf | apply wp_iRng | apply wp_lc | apply wp_tup | apply wp_lst | apply wp_frz | apply ko_nx | apply ko_rt | apply kr_rt | apply kr_nx | apply ex_bool | apply ex_int) | ((with_reducible apply wp_eV); rfl) | ((with_reducible apply wp_eOv); rfl) | ((with_reducible apply wp_eOo); rfl) | ((with_reducible apply wp_st); rfl; decide) | ((with_reducible apply wp_stSet); rfl) | ((with_reducible apply wp_fnS); rfl) | ((with_reducible apply ex_some); rfl) | ((with_reducible apply ex_sb); rfl) | ((with_reducible apply br_t); rfl) | ((with_reducible apply br_f); rfl) | ((with_reducible apply ex_some (mulB ?hh)); case hh => decide +kernel) | ((with_reducible apply ex_some (mulA ?hh)); case hh => decide +kernel) | ((with_reducible apply ex_some (rngL ?hh)); case hh => decide +kernel) | (refine ⟨rfl, ?_⟩)))
              have efc : ((fc t : Nat) : Int) * ((t : Int) + 1) = (fc (t + 1) : Nat) := by show _ = ((fc t * (t + 1) : Nat) : Int); rw [Int.natCast_mul]; rfl
              rw [efc]
              by_cases h0 : 0 ≤ y
              · refine br_t (decide_eq_true h0) ?_
                (repeat (first | with_reducible (first | apply wp_seq | apply wp_sIf | apply wp_next | apply wp_ret | apply wp_set | apply wp_own | apply wp_par | apply wp_par3 | apply wp_asg | apply wp_for | apply wp_tVal | apply wp_tTru | apply wp_tAnd | apply wp_tOr | apply wp_tNot | apply wp_e2 | apply wp_e1 | apply wp_eC | apply wp_call | apply wp_cons | apply wp_nil | apply wp_mt | apply wp_sl | apply wp_pNo | apply wp_pAt | apply wp_rev | apply wp_eIf | apply wp_eAnd | apply wp_eOr | apply wp_eNot | apply wp_chain | apply wp_isi | apply wp_isi2 | apply wp_fn | apply wp_iOf | apply wp_iRng | apply wp_lc | apply wp_tup | apply wp_lst | apply wp_frz | apply ko_nx | apply ko_rt | apply kr_rt | apply kr_nx | apply ex_bool | apply ex_int) | ((with_reducible apply wp_eV); rfl) | ((with_reducible apply wp_eOv); rfl) | ((with_reducible apply wp_eOo); rfl) | ((with_reducible apply wp_st); rfl; decide) | ((with_reducible apply wp_stSet); rfl) | ((with_reducible apply wp_fnS); rfl) | ((with_reducible apply ex_some); rfl) | ((with_reducible apply ex_sb); rfl) | ((with_reducible apply br_t); rfl) | ((with_reducible apply br_f); rfl) | ((with_reducible apply ex_some (mulB ?hh)); case hh => decide +kernel) | ((with_reducible apply ex_some (mulA ?hh)); case hh => decide +kernel) | ((with_reducible apply ex_some (rngL ?hh)); case hh => decide +kernel) | (refine ⟨rfl, ?_⟩)))
                by_cases h1 : y ≤ (t : Int) + 1
                · refine br_f (by rw [decide_eq_true h1]; rfl) ?_
                  apply wp_next
                  apply ko_nx
                  apply wp_set
                  apply wp_e2
                  refine wp_eV rfl ?_
                  apply wp_e2
                  refine wp_eV rfl ?_
                  refine wp_eV rfl ?_
                  refine ex_some (mulA (sm64 (by omega) (by omega))) ?_
                  (repeat (first | with_reducible (first | apply wp_seq | apply wp_sIf | apply wp_next | apply wp_ret | apply wp_set | apply wp_own | apply wp_par | apply wp_par3 | apply wp_asg | apply wp_for | apply wp_tVal | apply wp_tTru | apply wp_tAnd | apply wp_tOr | apply wp_tNot | apply wp_e2 | apply wp_e1 | apply wp_eC | apply wp_call | apply wp_cons | apply wp_nil | apply wp_mt | apply wp_sl | apply wp_pNo | apply wp_pAt | apply wp_rev | apply wp_eIf | apply wp_eAnd | apply wp_eOr | apply wp_eNot | apply wp_chain | apply wp_isi | apply wp_isi2 | apply wp_fn | apply wp_iOf | apply wp_iRng | apply wp_lc | apply wp_tup | apply wp_lst | apply wp_frz | apply ko_nx | apply ko_rt | apply kr_rt | apply kr_nx | apply ex_bool | apply ex_int) | ((with_reducible apply wp_eV); rfl) | ((with_reducible apply wp_eOv); rfl) | ((with_reducible apply wp_eOo); rfl) | ((with_reducible apply wp_st); rfl; decide) | ((with_reducible apply wp_stSet); rfl) | ((with_reducible apply wp_fnS); rfl) | ((with_reducible apply ex_some); rfl) | ((with_reducible apply ex_sb); rfl) | ((with_reducible apply br_t); rfl) | ((with_reducible apply br_f); rfl) | ((with_reducible apply ex_some (mulB ?hh)); case hh => decide +kernel) | ((with_reducible apply ex_some (mulA ?hh)); case hh => decide +kernel) | ((with_reducible apply ex_some (rngL ?hh)); case hh => decide +kernel) | (refine ⟨rfl, ?_⟩)))
                  refine .inl ⟨_, .inl rfl, rfl, T + y * (fc (t + 1) : Nat), some (.val (.int t)), some (.val (.int y)), rfl, ?_, ?_⟩
                  · rw [hok, decide_eq_true h0, decide_eq_true (by omega)]; rfl
                  · rw [hT]
                    have e : (fc (t + 1 + 1) : Int) = (fc (t + 1) : Nat) * ((t + 2 : Nat) : Int) := by show ((fc (t + 1) * (t + 1 + 1) : Nat) : Int) = _; rw [Int.natCast_mul]
                    rw [e, Int.mul_add, Int.mul_assoc, Int.mul_comm y, Int.add_assoc]
                · refine br_t (by rw [decide_eq_false h1]; rfl) ?_
                  (repeat (first | with_reducible (first | apply wp_seq | apply wp_sIf | apply wp_next | apply wp_ret | apply wp_set | apply wp_own | apply wp_par | apply wp_par3 | apply wp_asg | apply wp_for | apply wp_tVal | apply wp_tTru | apply wp_tAnd | apply wp_tOr | apply wp_tNot | apply wp_e2 | apply wp_e1 | apply wp_eC | apply wp_call | apply wp_cons | apply wp_nil | apply wp_mt | apply wp_sl | apply wp_pNo | apply wp_pAt | apply wp_rev | apply wp_eIf | apply wp_eAnd | apply wp_eOr | apply wp_eNot | apply wp_chain | apply wp_isi | apply wp_isi2 | apply wp_fn | apply wp_iOf | apply wp_iRng | apply wp_lc | apply wp_tup | apply wp_lst | apply wp_frz | apply ko_nx | apply ko_rt | apply kr_rt | apply kr_nx | apply ex_bool | apply ex_int) | ((with_reducible apply wp_eV); rfl) | ((with_reducible apply wp_eOv); rfl) | ((with_reducible apply wp_eOo); rfl) | ((with_reducible apply wp_st); rfl; decide) | ((with_reducible apply wp_stSet); rfl) | ((with_reducible apply wp_fnS); rfl) | ((with_reducible apply ex_some); rfl) | ((with_reducible apply ex_sb); rfl) | ((with_reducible apply br_t); rfl) | ((with_reducible apply br_f); rfl) | ((with_reducible apply ex_some (mulB ?hh)); case hh => decide +kernel) | ((with_reducible apply ex_some (mulA ?hh)); case hh => decide +kernel) | ((with_reducible apply ex_some (rngL ?hh)); case hh => decide +kernel) | (refine ⟨rfl, ?_⟩)))
                  refine .inr (.inl ⟨_, rfl, ?_⟩)
                  refine kr_rt ⟨rfl, ?_⟩
                  have : okD ns.reverse 2 = false := by rw [hok, decide_eq_false (show ¬ y < ((t + 2 : Nat) : Int) by omega)]; simp
                  rw [this]; rfl
              · refine br_f (decide_eq_false h0) ?_
                (repeat (first | with_reducible (first | apply wp_seq | apply wp_sIf | apply wp_next | apply wp_ret | apply wp_set | apply wp_own | apply wp_par | apply wp_par3 | apply wp_asg | apply wp_for | apply wp_tVal | apply wp_tTru | apply wp_tAnd | apply wp_tOr | apply wp_tNot | apply wp_e2 | apply wp_e1 | apply wp_eC | apply wp_call | apply wp_cons | apply wp_nil | apply wp_mt | apply wp_sl | apply wp_pNo | apply wp_pAt | apply wp_rev | apply wp_eIf | apply wp_eAnd | apply wp_eOr | apply wp_eNot | apply wp_chain | apply wp_isi | apply wp_isi2 | apply wp_fn | apply wp_iOf | apply wp_iRng | apply wp_lc | apply wp_tup | apply wp_lst | apply wp_frz | apply ko_nx | apply ko_rt | apply kr_rt | apply kr_nx | apply ex_bool | apply ex_int) | ((with_reducible apply wp_eV); rfl) | ((with_reducible apply wp_eOv); rfl) | ((with_reducible apply wp_eOo); rfl) | ((with_reducible apply wp_st); rfl; decide) | ((with_reducible apply wp_stSet); rfl) | ((with_reducible apply wp_fnS); rfl) | ((with_reducible apply ex_some); rfl) | ((with_reducible apply ex_sb); rfl) | ((with_reducible apply br_t); rfl) | ((with_reducible apply br_f); rfl) | ((with_reducible apply ex_some (mulB ?hh)); case hh => decide +kernel) | ((with_reducible apply ex_some (mulA ?hh)); case hh => decide +kernel) | ((with_reducible apply ex_some (rngL ?hh)); case hh => decide +kernel) | (refine ⟨rfl, ?_⟩)))
                refine .inr (.inl ⟨_, rfl, ?_⟩)
                refine kr_rt ⟨rfl, ?_⟩
                have : okD ns.reverse 2 = false := by rw [hok, decide_eq_false h0]; simp
                rw [this]; rfl
            · refine ⟨rfl, 0, none, none, rfl, rfl, ?_⟩
              show fv ns.reverse 2 = 0 + ((1 * (0 + 1) : Nat) : Int) * fv ns.reverse 2
              omega
            · rintro env s' ⟨rfl, T, v4, v5, rfl, hok, hT⟩
              rw [range_len, ← hrl, List.drop_length] at hok hT
              simp only [fv, Int.mul_zero, Int.add_zero] at hT
              (repeat (first | with_reducible (first | apply wp_seq | apply wp_sIf | apply wp_next | apply wp_ret | apply wp_set | apply wp_own | apply wp_par | apply wp_par3 | apply wp_asg | apply wp_for | apply wp_tVal | apply wp_tTru | apply wp_tAnd | apply wp_tOr | apply wp_tNot | apply wp_e2 | apply wp_e1 | apply wp_eC | apply wp_call | apply wp_cons | apply wp_nil | apply wp_mt | apply wp_sl | apply wp_pNo | apply wp_pAt | apply wp_rev | apply wp_eIf | apply wp_eAnd | apply wp_eOr | apply wp_eNot | apply wp_chain | apply wp_isi | apply wp_isi2 | apply wp_fn | apply wp_iOf | apply wp_iRng | apply wp_lc | apply wp_tup | apply wp_lst | apply wp_frz | apply ko_nx | apply ko_rt | apply kr_rt | apply kr_nx | apply ex_bool | apply ex_int) | ((with_reducible apply wp_eV); rfl) | ((with_reducible apply wp_eOv); rfl) | ((with_reducible apply wp_eOo); rfl) | ((with_reducible apply wp_st); rfl; decide) | ((with_reducible apply wp_stSet); rfl) | ((with_reducible apply wp_fnS); rfl) | ((with_reducible apply ex_some); rfl) | ((with_reducible apply ex_sb); rfl) | ((with_reducible apply br_t); rfl) | ((with_reducible apply br_f); rfl) | ((with_reducible apply ex_some (mulB ?hh)); case hh => decide +kernel) | ((with_reducible apply ex_some (mulA ?hh)); case hh => decide +kernel) | ((with_reducible apply ex_some (rngL ?hh)); case hh => decide +kernel) | (refine ⟨rfl, ?_⟩)))
              rw [hok, hT, eqv_int]
              simp only [okD, Bool.true_and]
              congr 1
    | _ => (repeat (first | with_reducible (first | apply wp_seq | apply wp_sIf | apply wp_next | apply wp_ret | apply wp_set | apply wp_own | apply wp_par | apply wp_par3 | apply wp_asg | apply wp_for | apply wp_tVal | apply wp_tTru | apply wp_tAnd | apply wp_tOr | apply wp_tNot | apply wp_e2 | apply wp_e1 | apply wp_eC | apply wp_call | apply wp_cons | apply wp_nil | apply wp_mt | apply wp_sl | apply wp_pNo | apply wp_pAt | apply wp_rev | apply wp_eIf | apply wp_eAnd | apply wp_eOr | apply wp_eNot | apply wp_chain | apply wp_isi | apply wp_isi2 | apply wp_fn | apply wp_iOf | apply wp_iRng | apply wp_lc | apply wp_tup | apply wp_lst | apply wp_frz | apply ko_nx | apply ko_rt | apply kr_rt | apply kr_nx | apply ex_bool | apply ex_int) | ((with_reducible apply wp_eV); rfl) | ((with_reducible apply wp_eOv); rfl) | ((with_reducible apply wp_eOo); rfl) | ((with_reducible apply wp_st); rfl; decide) | ((with_reducible apply wp_stSet); rfl) | ((with_reducible apply wp_fnS); rfl) | ((with_reducible apply ex_some); rfl) | ((with_reducible apply ex_sb); rfl) | ((with_reducible apply br_t); rfl) | ((with_reducible apply br_f); rfl) | ((with_reducible apply ex_some (mulB ?hh)); case hh => decide +kernel) | ((with_reducible apply ex_some (mulA ?hh)); case hh => decide +kernel) | ((with_reducible apply ex_some (rngL ?hh)); case hh => decide +kernel) | (refine ⟨rfl, ?_⟩))); rfl
theorem second {n : Nat} (hn : n ≤ 1000000) : ∃ l, f_in_orders [.int n] = pure (toldR l) ∧ l.length ≤ 20 ∧ ∀ d, Odd 60000 13 d → ∃ b, f_judge_in_orders [.int n, d] = pure (.bool b) ∧ f_law_accepts_too [.int n, d] = pure (.bool b) ∧ (d = toldR l → b = true) := by
  obtain ⟨l, e, z, hl⟩ := in_orders_eq n hn
  refine ⟨l, e, hl, fun d hd => ⟨_, judge_orders e hd, ?_, ?_⟩⟩
  · rw [acc_orders hd]
    have : accX n = fun xs => xs.all wholeB && PyData.eqvAll xs (l.reverse.map .int) := by
      funext xs
      cases hw : xs.all wholeB with
      | false => simp [accX, hw]
      | true =>
        obtain ⟨ns, rfl⟩ := wholes_ints hw
        rw [accX_ints, eqvAll_ints, Bool.true_and, Bool.eq_iff_iff, decide_eq_true_eq]
        simp only [accO, Bool.and_eq_true, decide_eq_true_eq, bne_iff_ne]
        have hc := can_iff (l := ns.reverse) (b := 2) (n := n) (by omega)
        rw [List.getLast?_reverse] at hc
        constructor
        · rintro ⟨h1, h2, h3, h4⟩
          have := can_inj (hc.mpr ⟨h3, h2, h4⟩) z
          rw [← this, List.reverse_reverse]
        · rintro rfl
          rw [List.reverse_reverse] at hc ⊢
          obtain ⟨a, b, c⟩ := hc.mp z
          exact ⟨by rw [List.length_reverse]; exact hl, b, a, c⟩
    rw [this]
  · rintro rfl
    refine (pairT_self (w := "row") (xs := l.reverse.map .int)).trans ?_
    rw [ints_wholes, eqvAll_ints]; simp
end DL.L81

/-! law 81, part 3: signs. -/
namespace DL.L81
open PySem PySem.Spec PyProof.Rows L2 SX DL
/-- a, 0, 1 -/
def dv (c : Nat) : Int := if c = 97 then -1 else if c = 49 then 1 else 0
def sg3 (c : Nat) : Bool := decide (c ∈ [97, 48, 49])
def rest (n : Int) : Int := (n + 1) % 3 - 1
def sgn (r : Int) : Nat := if r = -1 then 97 else if r = 0 then 48 else 49
/-- the signs of n, the least first -/
def Can3 : List Nat → Int → Prop
  | [], n => n = 0
  | c :: r, n => n ≠ 0 ∧ c = sgn (rest n) ∧ Can3 r ((n - rest n) / 3)
theorem can3_inj : ∀ {l m : List Nat} {n : Int}, Can3 l n → Can3 m n → l = m
  | [], [], _, _, _ => rfl
  | [], _ :: _, _, h, g => absurd h g.1
  | _ :: _, [], _, h, g => absurd g h.1
  | _ :: _, _ :: _, _, h, g => by rw [h.2.1, g.2.1, can3_inj h.2.2 g.2.2]
theorem rest_cases (n : Int) : rest n = -1 ∨ rest n = 0 ∨ rest n = 1 := by unfold rest; omega
theorem rest_div (n : Int) : n = rest n + 3 * ((n - rest n) / 3) := by unfold rest; omega
theorem dv_sgn (n : Int) : dv (sgn (rest n)) = rest n := by
  rcases rest_cases n with h | h | h <;> rw [h] <;> rfl
theorem sgn_dv {c : Nat} (h : sg3 c = true) : sgn (dv c) = c := by
  have h : c = 97 ∨ c = 48 ∨ c = 49 := by simpa [sg3] using h
  rcases h with rfl | rfl | rfl <;> rfl
theorem dv_cases {c : Nat} (h : sg3 c = true) : dv c = -1 ∨ dv c = 0 ∨ dv c = 1 := by
  have h : c = 97 ∨ c = 48 ∨ c = 49 := by simpa [sg3] using h
  rcases h with rfl | rfl | rfl <;> simp [dv]
def tv : List Nat → Int
  | [] => 0
  | c :: r => dv c + 3 * tv r
theorem rest_of {a b : Int} (h : a = -1 ∨ a = 0 ∨ a = 1) : rest (a + 3 * b) = a ∧ (a + 3 * b - a) / 3 = b := by unfold rest; omega
theorem can3_iff : ∀ {l : List Nat} {n : Int}, Can3 l n ↔ l.all sg3 = true ∧ l.getLast? ≠ some 48 ∧ tv l = n
  | [], n => by simp [Can3, tv]; omega
  | c :: r, n => by
    have ih : ∀ n', Can3 r n' ↔ r.all sg3 = true ∧ r.getLast? ≠ some 48 ∧ tv r = n' := fun n' => can3_iff
    simp only [Can3, List.all_cons, Bool.and_eq_true, tv]
    constructor
    · rintro ⟨h1, h2, h3⟩
      obtain ⟨a1, a2, a3⟩ := (ih _).mp h3
      have hd := rest_div n
      refine ⟨⟨?_, a1⟩, ?_, ?_⟩
      · rw [h2]
        rcases rest_cases n with h | h | h <;> rw [h] <;> rfl
      · cases r with
        | nil =>
          have e : (n - rest n) / 3 = 0 := h3
          rw [e] at hd
          intro h48
          have : c = 48 := by simpa using h48
          rw [h2] at this
          rcases rest_cases n with h | h | h <;> rw [h] at this hd
          · cases this
          · omega
          · cases this
        | cons z r => simpa [List.getLast?_cons_cons] using a2
      · rw [a3, h2, dv_sgn]; omega
    · rintro ⟨⟨h1, h2⟩, h3, h4⟩
      have hc := dv_cases h1
      obtain ⟨e1, e2⟩ := rest_of (b := tv r) hc
      rw [h4] at e1 e2
      have hr : Can3 r (tv r) := by
        refine (ih _).mpr ⟨h2, ?_, rfl⟩
        cases r with
        | nil => simp
        | cons z r => simpa [List.getLast?_cons_cons] using h3
      refine ⟨?_, by rw [e1, sgn_dv h1], by rw [e1, e2]; exact hr⟩
      cases r with
      | nil =>
        have c48 : c ≠ 48 := by simpa using h3
        have h : c = 97 ∨ c = 48 ∨ c = 49 := by simpa [sg3] using h1
        simp only [tv] at h4
        rcases h with rfl | rfl | rfl
        · have : dv 97 = -1 := rfl; omega
        · exact absurd rfl c48
        · have : dv 49 = 1 := rfl; omega
      | cons z r =>
        have := hr.1
        omega
/-- the signs as they are told -/
def Sg (n : Int) (l : List Nat) : Prop := (n = 0 ∧ l = [48]) ∨ (n ≠ 0 ∧ Can3 l.reverse n)
theorem Sg.uniq {n : Int} {l m : List Nat} (a : Sg n l) (b : Sg n m) : l = m := by
  rcases a with ⟨a1, a2⟩ | ⟨a1, a2⟩ <;> rcases b with ⟨b1, b2⟩ | ⟨b1, b2⟩
  · rw [a2, b2]
  · exact absurd a1 b1
  · exact absurd b1 a1
  · have := can3_inj a2 b2
    rw [← List.reverse_reverse l, this, List.reverse_reverse]
theorem can3_all {l : List Nat} {n : Int} (h : Can3 l n) : l.all sg3 = true := (can3_iff.mp h).1
theorem in_signs_eq (n : Int) (hn : -1000000 ≤ n ∧ n ≤ 1000000) : ∃ l, f_in_signs [.int n] = pure (told l) ∧ Sg n l ∧ l.length ≤ 30 ∧ l.all sg3 = true := by
  have main : ∀ s, WP (f_in_signs [.int n]) s fun a s' => s' = s ∧ ∃ l, a = told l ∧ Sg n l ∧ l.length ≤ 30 ∧ l.all sg3 = true := by
    intro s
    unfold f_in_signs
    apply wp_runD
    unfold b_in_signs
    (repeat (first | with_reducible (first | apply wp_seq | apply wp_sIf | apply wp_next | apply wp_ret | apply wp_set | apply wp_own | apply wp_par | apply wp_par3 | apply wp_asg | apply wp_for | apply wp_tVal | apply wp_tTru | apply wp_tAnd | apply wp_tOr | apply wp_tNot | apply wp_e2 | apply wp_e1 | apply wp_eC | apply wp_call | apply wp_cons | apply wp_nil | apply wp_mt | apply wp_sl | apply wp_pNo | apply wp_pAt | apply wp_rev | apply wp_eIf | apply wp_eAnd | apply wp_eOr | apply wp_eNot | apply wp_chain | apply wp_isi | apply wp_isi2 | apply wp_fn | apply wp_iOf | apply wp_iRng | apply wp_lc | apply wp_tup | apply wp_lst | apply wp_frz | apply ko_nx | apply ko_rt | apply kr_rt | apply kr_nx | apply ex_bool | apply ex_int) | ((with_reducible apply wp_eV); rfl) | ((with_reducible apply wp_eOv); rfl) | ((with_reducible apply wp_eOo); rfl) | ((with_reducible apply wp_st); rfl; decide) | ((with_reducible apply wp_stSet); rfl) | ((with_reducible apply wp_fnS); rfl) | ((with_reducible apply ex_some); rfl) | ((with_reducible apply ex_sb); rfl) | ((with_reducible apply br_t); rfl) | ((with_reducible apply br_f); rfl) | ((with_reducible apply ex_some (mulB ?hh)); case hh => decide +kernel) | ((with_reducible apply ex_some (mulA ?hh)); case hh => decide +kernel) | ((with_reducible apply ex_some (rngL ?hh)); case hh => decide +kernel) | (refine ⟨rfl, ?_⟩)))
    refine br_f (decide_eq_false (by split <;> omega)) ?_
    by_cases h0 : n = 0
    · subst h0
      (repeat (first | with_reducible (first | apply wp_seq | apply wp_sIf | apply wp_next | apply wp_ret | apply wp_set | apply wp_own | apply wp_par | apply wp_par3 | apply wp_asg | apply wp_for | apply wp_tVal | apply wp_tTru | apply wp_tAnd | apply wp_tOr | apply wp_tNot | apply wp_e2 | apply wp_e1 | apply wp_eC | apply wp_call | apply wp_cons | apply wp_nil | apply wp_mt | apply wp_sl | apply wp_pNo | apply wp_pAt | apply wp_rev | apply wp_eIf | apply wp_eAnd | apply wp_eOr | apply wp_eNot | apply wp_chain | apply wp_isi | apply wp_isi2 | apply wp_fn | apply wp_iOf | apply wp_iRng | apply wp_lc | apply wp_tup | apply wp_lst | apply wp_frz | apply ko_nx | apply ko_rt | apply kr_rt | apply kr_nx | apply ex_bool | apply ex_int) | ((with_reducible apply wp_eV); rfl) | ((with_reducible apply wp_eOv); rfl) | ((with_reducible apply wp_eOo); rfl) | ((with_reducible apply wp_st); rfl; decide) | ((with_reducible apply wp_stSet); rfl) | ((with_reducible apply wp_fnS); rfl) | ((with_reducible apply ex_some); rfl) | ((with_reducible apply ex_sb); rfl) | ((with_reducible apply br_t); rfl) | ((with_reducible apply br_f); rfl) | ((with_reducible apply ex_some (mulB ?hh)); case hh => decide +kernel) | ((with_reducible apply ex_some (mulA ?hh)); case hh => decide +kernel) | ((with_reducible apply ex_some (rngL ?hh)); case hh => decide +kernel) | (refine ⟨rfl, ?_⟩)))
      have e0 : Str.ofString "0" = S [48] := by decide +kernel
      rw [e0]
      refine wp_while (fun m env s' => s' = s ∧ env = [some (.val (.int 0)), some (.val (.str (S [48]))), none]) ?_ 64 1 ⟨rfl, rfl⟩ (by omega)
      rintro m env s' ⟨rfl, rfl⟩
      (repeat (first | with_reducible (first | apply wp_seq | apply wp_sIf | apply wp_next | apply wp_ret | apply wp_set | apply wp_own | apply wp_par | apply wp_par3 | apply wp_asg | apply wp_for | apply wp_tVal | apply wp_tTru | apply wp_tAnd | apply wp_tOr | apply wp_tNot | apply wp_e2 | apply wp_e1 | apply wp_eC | apply wp_call | apply wp_cons | apply wp_nil | apply wp_mt | apply wp_sl | apply wp_pNo | apply wp_pAt | apply wp_rev | apply wp_eIf | apply wp_eAnd | apply wp_eOr | apply wp_eNot | apply wp_chain | apply wp_isi | apply wp_isi2 | apply wp_fn | apply wp_iOf | apply wp_iRng | apply wp_lc | apply wp_tup | apply wp_lst | apply wp_frz | apply ko_nx | apply ko_rt | apply kr_rt | apply kr_nx | apply ex_bool | apply ex_int) | ((with_reducible apply wp_eV); rfl) | ((with_reducible apply wp_eOv); rfl) | ((with_reducible apply wp_eOo); rfl) | ((with_reducible apply wp_st); rfl; decide) | ((with_reducible apply wp_stSet); rfl) | ((with_reducible apply wp_fnS); rfl) | ((with_reducible apply ex_some); rfl) | ((with_reducible apply ex_sb); rfl) | ((with_reducible apply br_t); rfl) | ((with_reducible apply br_f); rfl) | ((with_reducible apply ex_some (mulB ?hh)); case hh => decide +kernel) | ((with_reducible apply ex_some (mulA ?hh)); case hh => decide +kernel) | ((with_reducible apply ex_some (rngL ?hh)); case hh => decide +kernel) | (refine ⟨rfl, ?_⟩)))
      exact ⟨[48], rfl, .inl ⟨rfl, rfl⟩, by decide, rfl⟩
    · have hb : (n != 0) = true := by simpa using h0
      (repeat (first | with_reducible (first | apply wp_seq | apply wp_sIf | apply wp_next | apply wp_ret | apply wp_set | apply wp_own | apply wp_par | apply wp_par3 | apply wp_asg | apply wp_for | apply wp_tVal | apply wp_tTru | apply wp_tAnd | apply wp_tOr | apply wp_tNot | apply wp_e2 | apply wp_e1 | apply wp_eC | apply wp_call | apply wp_cons | apply wp_nil | apply wp_mt | apply wp_sl | apply wp_pNo | apply wp_pAt | apply wp_rev | apply wp_eIf | apply wp_eAnd | apply wp_eOr | apply wp_eNot | apply wp_chain | apply wp_isi | apply wp_isi2 | apply wp_fn | apply wp_iOf | apply wp_iRng | apply wp_lc | apply wp_tup | apply wp_lst | apply wp_frz | apply ko_nx | apply ko_rt | apply kr_rt | apply kr_nx | apply ex_bool | apply ex_int) | ((with_reducible apply wp_eV); rfl) | ((with_reducible apply wp_eOv); rfl) | ((with_reducible apply wp_eOo); rfl) | ((with_reducible apply wp_st); rfl; decide) | ((with_reducible apply wp_stSet); rfl) | ((with_reducible apply wp_fnS); rfl) | ((with_reducible apply ex_some); rfl) | ((with_reducible apply ex_sb); rfl) | ((with_reducible apply br_t); rfl) | ((with_reducible apply br_f); rfl) | ((with_reducible apply ex_some (mulB ?hh)); case hh => decide +kernel) | ((with_reducible apply ex_some (mulA ?hh)); case hh => decide +kernel) | ((with_reducible apply ex_some (rngL ?hh)); case hh => decide +kernel) | (refine ⟨rfl, ?_⟩)))
      refine br_t hb ?_
      (repeat (first | with_reducible (first | apply wp_seq | apply wp_sIf | apply wp_next | apply wp_ret | apply wp_set | apply wp_own | apply wp_par | apply wp_par3 | apply wp_asg | apply wp_for | apply wp_tVal | apply wp_tTru | apply wp_tAnd | apply wp_tOr | apply wp_tNot | apply wp_e2 | apply wp_e1 | apply wp_eC | apply wp_call | apply wp_cons | apply wp_nil | apply wp_mt | apply wp_sl | apply wp_pNo | apply wp_pAt | apply wp_rev | apply wp_eIf | apply wp_eAnd | apply wp_eOr | apply wp_eNot | apply wp_chain | apply wp_isi | apply wp_isi2 | apply wp_fn | apply wp_iOf | apply wp_iRng | apply wp_lc | apply wp_tup | apply wp_lst | apply wp_frz | apply ko_nx | apply ko_rt | apply kr_rt | apply kr_nx | apply ex_bool | apply ex_int) | ((with_reducible apply wp_eV); rfl) | ((with_reducible apply wp_eOv); rfl) | ((with_reducible apply wp_eOo); rfl) | ((with_reducible apply wp_st); rfl; decide) | ((with_reducible apply wp_stSet); rfl) | ((with_reducible apply wp_fnS); rfl) | ((with_reducible apply ex_some); rfl) | ((with_reducible apply ex_sb); rfl) | ((with_reducible apply br_t); rfl) | ((with_reducible apply br_f); rfl) | ((with_reducible apply ex_some (mulB ?hh)); case hh => decide +kernel) | ((with_reducible apply ex_some (mulA ?hh)); case hh => decide +kernel) | ((with_reducible apply ex_some (rngL ?hh)); case hh => decide +kernel) | (refine ⟨rfl, ?_⟩)))
      have e0 : Str.ofString "" = S [] := by decide +kernel
      rw [e0]
      refine wp_while (fun m env s' => s' = s ∧ ∃ (l : List Nat) (k : Int) (v : Option DV), env = [some (.val (.int k)), some (.val (.str (S l))), v] ∧ l.length + m ≤ 30 ∧ k.natAbs < 2 ^ m ∧ l.all sg3 = true ∧ ∀ r, Can3 r k → Can3 (l.reverse ++ r) n) ?_ 64 30 ⟨rfl, [], n, none, rfl, by decide, by omega, rfl, fun r h => h⟩ (by omega)
      rintro m env s' ⟨rfl, l, k, v, rfl, hlen, hk, hall, hcan⟩
      (repeat (first | with_reducible (first | apply wp_seq | apply wp_sIf | apply wp_next | apply wp_ret | apply wp_set | apply wp_own | apply wp_par | apply wp_par3 | apply wp_asg | apply wp_for | apply wp_tVal | apply wp_tTru | apply wp_tAnd | apply wp_tOr | apply wp_tNot | apply wp_e2 | apply wp_e1 | apply wp_eC | apply wp_call | apply wp_cons | apply wp_nil | apply wp_mt | apply wp_sl | apply wp_pNo | apply wp_pAt | apply wp_rev | apply wp_eIf | apply wp_eAnd | apply wp_eOr | apply wp_eNot | apply wp_chain | apply wp_isi | apply wp_isi2 | apply wp_fn | apply wp_iOf | apply wp_iRng | apply wp_lc | apply wp_tup | apply wp_lst | apply wp_frz | apply ko_nx | apply ko_rt | apply kr_rt | apply kr_nx | apply ex_bool | apply ex_int) | ((with_reducible apply wp_eV); rfl) | ((with_reducible apply wp_eOv); rfl) | ((with_reducible apply wp_eOo); rfl) | ((with_reducible apply wp_st); rfl; decide) | ((with_reducible apply wp_stSet); rfl) | ((with_reducible apply wp_fnS); rfl) | ((with_reducible apply ex_some); rfl) | ((with_reducible apply ex_sb); rfl) | ((with_reducible apply br_t); rfl) | ((with_reducible apply br_f); rfl) | ((with_reducible apply ex_some (mulB ?hh)); case hh => decide +kernel) | ((with_reducible apply ex_some (mulA ?hh)); case hh => decide +kernel) | ((with_reducible apply ex_some (rngL ?hh)); case hh => decide +kernel) | (refine ⟨rfl, ?_⟩)))
      rw [eqv_int]
      refine ⟨fun hb => ?_, fun hb => ?_⟩
      · have hb : k ≠ 0 := by simpa using hb
        obtain ⟨m', rfl⟩ : ∃ m', m = m' + 1 := ⟨m - 1, by
          cases m with
          | zero => simp at hk; omega
          | succ m => rfl⟩
        have efm : Int.fmod (k + 1) 3 - 1 = rest k := by unfold rest; rw [Int.fmod_eq_emod_of_nonneg _ (by decide)]
        refine ⟨m', rfl, ?_⟩
        (repeat (first | with_reducible (first | apply wp_seq | apply wp_sIf | apply wp_next | apply wp_ret | apply wp_set | apply wp_own | apply wp_par | apply wp_par3 | apply wp_asg | apply wp_for | apply wp_tVal | apply wp_tTru | apply wp_tAnd | apply wp_tOr | apply wp_tNot | apply wp_e2 | apply wp_e1 | apply wp_eC | apply wp_call | apply wp_cons | apply wp_nil | apply wp_mt | apply wp_sl | apply wp_pNo | apply wp_pAt | apply wp_rev | apply wp_eIf | apply wp_eAnd | apply wp_eOr | apply wp_eNot | apply wp_chain | apply wp_isi | apply wp_isi2 | apply wp_fn | apply wp_iOf | apply wp_iRng | apply wp_lc | apply wp_tup | apply wp_lst | apply wp_frz | apply ko_nx | apply ko_rt | apply kr_rt | apply kr_nx | apply ex_bool | apply ex_int) | ((with_reducible apply wp_eV); rfl) | ((with_reducible apply wp_eOv); rfl) | ((with_reducible apply wp_eOo); rfl) | ((with_reducible apply wp_st); rfl; decide) | ((with_reducible apply wp_stSet); rfl) | ((with_reducible apply wp_fnS); rfl) | ((with_reducible apply ex_some); rfl) | ((with_reducible apply ex_sb); rfl) | ((with_reducible apply br_t); rfl) | ((with_reducible apply br_f); rfl) | ((with_reducible apply ex_some (mulB ?hh)); case hh => decide +kernel) | ((with_reducible apply ex_some (mulA ?hh)); case hh => decide +kernel) | ((with_reducible apply ex_some (rngL ?hh)); case hh => decide +kernel) | (refine ⟨rfl, ?_⟩)))
        rw [efm]
        refine ex_some (z := .str (S [sgn (rest k)])) ?_ ?_
        · have e01 : Str.ofString "a01" = S [97, 48, 49] := by decide +kernel
          rw [e01]
          rcases rest_cases k with h | h | h <;> rw [h] <;> rfl
        (repeat (first | with_reducible (first | apply wp_seq | apply wp_sIf | apply wp_next | apply wp_ret | apply wp_set | apply wp_own | apply wp_par | apply wp_par3 | apply wp_asg | apply wp_for | apply wp_tVal | apply wp_tTru | apply wp_tAnd | apply wp_tOr | apply wp_tNot | apply wp_e2 | apply wp_e1 | apply wp_eC | apply wp_call | apply wp_cons | apply wp_nil | apply wp_mt | apply wp_sl | apply wp_pNo | apply wp_pAt | apply wp_rev | apply wp_eIf | apply wp_eAnd | apply wp_eOr | apply wp_eNot | apply wp_chain | apply wp_isi | apply wp_isi2 | apply wp_fn | apply wp_iOf | apply wp_iRng | apply wp_lc | apply wp_tup | apply wp_lst | apply wp_frz | apply ko_nx | apply ko_rt | apply kr_rt | apply kr_nx | apply ex_bool | apply ex_int) | ((with_reducible apply wp_eV); rfl) | ((with_reducible apply wp_eOv); rfl) | ((with_reducible apply wp_eOo); rfl) | ((with_reducible apply wp_st); rfl; decide) | ((with_reducible apply wp_stSet); rfl) | ((with_reducible apply wp_fnS); rfl) | ((with_reducible apply ex_some); rfl) | ((with_reducible apply ex_sb); rfl) | ((with_reducible apply br_t); rfl) | ((with_reducible apply br_f); rfl) | ((with_reducible apply ex_some (mulB ?hh)); case hh => decide +kernel) | ((with_reducible apply ex_some (mulA ?hh)); case hh => decide +kernel) | ((with_reducible apply ex_some (rngL ?hh)); case hh => decide +kernel) | (refine ⟨rfl, ?_⟩)))
        refine ex_some (z := .str (S (sgn (rest k) :: l))) ?_ ?_
        · rw [add_str (by rw [S_len, S_len]; simp; omega), S_cat]; rfl
        (repeat (first | with_reducible (first | apply wp_seq | apply wp_sIf | apply wp_next | apply wp_ret | apply wp_set | apply wp_own | apply wp_par | apply wp_par3 | apply wp_asg | apply wp_for | apply wp_tVal | apply wp_tTru | apply wp_tAnd | apply wp_tOr | apply wp_tNot | apply wp_e2 | apply wp_e1 | apply wp_eC | apply wp_call | apply wp_cons | apply wp_nil | apply wp_mt | apply wp_sl | apply wp_pNo | apply wp_pAt | apply wp_rev | apply wp_eIf | apply wp_eAnd | apply wp_eOr | apply wp_eNot | apply wp_chain | apply wp_isi | apply wp_isi2 | apply wp_fn | apply wp_iOf | apply wp_iRng | apply wp_lc | apply wp_tup | apply wp_lst | apply wp_frz | apply ko_nx | apply ko_rt | apply kr_rt | apply kr_nx | apply ex_bool | apply ex_int) | ((with_reducible apply wp_eV); rfl) | ((with_reducible apply wp_eOv); rfl) | ((with_reducible apply wp_eOo); rfl) | ((with_reducible apply wp_st); rfl; decide) | ((with_reducible apply wp_stSet); rfl) | ((with_reducible apply wp_fnS); rfl) | ((with_reducible apply ex_some); rfl) | ((with_reducible apply ex_sb); rfl) | ((with_reducible apply br_t); rfl) | ((with_reducible apply br_f); rfl) | ((with_reducible apply ex_some (mulB ?hh)); case hh => decide +kernel) | ((with_reducible apply ex_some (mulA ?hh)); case hh => decide +kernel) | ((with_reducible apply ex_some (rngL ?hh)); case hh => decide +kernel) | (refine ⟨rfl, ?_⟩)))
        have efd : Int.fdiv (k - rest k) 3 = (k - rest k) / 3 := Int.fdiv_eq_ediv_of_nonneg _ (by decide)
        rw [efd]
        refine ⟨_, .inl rfl, rfl, sgn (rest k) :: l, (k - rest k) / 3, _, rfl, by simp; omega, ?_, ?_, ?_⟩
        · have h1 := rest_cases k
          have h2 := rest_div k
          rw [Nat.pow_succ] at hk
          omega
        · rw [List.all_cons, hall, Bool.and_true]
          rcases rest_cases k with h | h | h <;> rw [h] <;> rfl
        · intro r hr
          rw [List.reverse_cons, List.append_assoc]
          exact hcan _ ⟨hb, rfl, hr⟩
      · have hb : k = 0 := by simpa using hb
        subst hb
        have hc := hcan [] rfl
        rw [List.append_nil] at hc
        (repeat (first | with_reducible (first | apply wp_seq | apply wp_sIf | apply wp_next | apply wp_ret | apply wp_set | apply wp_own | apply wp_par | apply wp_par3 | apply wp_asg | apply wp_for | apply wp_tVal | apply wp_tTru | apply wp_tAnd | apply wp_tOr | apply wp_tNot | apply wp_e2 | apply wp_e1 | apply wp_eC | apply wp_call | apply wp_cons | apply wp_nil | apply wp_mt | apply wp_sl | apply wp_pNo | apply wp_pAt | apply wp_rev | apply wp_eIf | apply wp_eAnd | apply wp_eOr | apply wp_eNot | apply wp_chain | apply wp_isi | apply wp_isi2 | apply wp_fn | apply wp_iOf | apply wp_iRng | apply wp_lc | apply wp_tup | apply wp_lst | apply wp_frz | apply ko_nx | apply ko_rt | apply kr_rt | apply kr_nx | apply ex_bool | apply ex_int) | ((with_reducible apply wp_eV); rfl) | ((with_reducible apply wp_eOv); rfl) | ((with_reducible apply wp_eOo); rfl) | ((with_reducible apply wp_st); rfl; decide) | ((with_reducible apply wp_stSet); rfl) | ((with_reducible apply wp_fnS); rfl) | ((with_reducible apply ex_some); rfl) | ((with_reducible apply ex_sb); rfl) | ((with_reducible apply br_t); rfl) | ((with_reducible apply br_f); rfl) | ((with_reducible apply ex_some (mulB ?hh)); case hh => decide +kernel) | ((with_reducible apply ex_some (mulA ?hh)); case hh => decide +kernel) | ((with_reducible apply ex_some (rngL ?hh)); case hh => decide +kernel) | (refine ⟨rfl, ?_⟩)))
        exact ⟨l, rfl, .inr ⟨h0, hc⟩, by omega, hall⟩
  obtain ⟨a, e, l, rfl, z⟩ := pure_ex main (by
    rintro a b ⟨l, rfl, z, _⟩ ⟨m, rfl, z', _⟩
    rw [z.uniq z'])
  exact ⟨l, e, z⟩
theorem sg3_lt {l : List Nat} (h : l.all sg3 = true) : ∀ c ∈ l, c < 1114112 := fun c hc => by
  have := List.all_eq_true.mp h c hc
  have : c = 97 ∨ c = 48 ∨ c = 49 := by simpa [sg3] using this
  omega
def acc3 (n : Int) (l : List Nat) : Bool := decide (l ≠ []) && (decide (l.length ≤ 30) && (l.all sg3 && (decide (tv l.reverse = n) && (decide (l = [48]) || l.head? != some 48))))
theorem tv_snoc (c : Nat) : ∀ l : List Nat, tv (c :: l) = dv c + 3 * tv l := fun l => rfl
theorem acc_signs {n : Int} {d : D} (hd : Odd 60000 13 d) : f_law_accepts_three [.int n, d] = pure (.bool (pairS "text" (fun z => acc3 n z.cps.toList) d)) := by
  refine pure_of fun s => ?_
  unfold f_law_accepts_three
  apply wp_runD
  unfold b_law_accepts_three
  (repeat (first | with_reducible (first | apply wp_seq | apply wp_sIf | apply wp_next | apply wp_ret | apply wp_set | apply wp_own | apply wp_par | apply wp_par3 | apply wp_asg | apply wp_for | apply wp_tVal | apply wp_tTru | apply wp_tAnd | apply wp_tOr | apply wp_tNot | apply wp_e2 | apply wp_e1 | apply wp_eC | apply wp_call | apply wp_cons | apply wp_nil | apply wp_mt | apply wp_sl | apply wp_pNo | apply wp_pAt | apply wp_rev | apply wp_eIf | apply wp_eAnd | apply wp_eOr | apply wp_eNot | apply wp_chain | apply wp_isi | apply wp_isi2 | apply wp_fn | apply wp_iOf | apply wp_iRng | apply wp_lc | apply wp_tup | apply wp_lst | apply wp_frz | apply ko_nx | apply ko_rt | apply kr_rt | apply kr_nx | apply ex_bool | apply ex_int) | ((with_reducible apply wp_eV); rfl) | ((with_reducible apply wp_eOv); rfl) | ((with_reducible apply wp_eOo); rfl) | ((with_reducible apply wp_st); rfl; decide) | ((with_reducible apply wp_stSet); rfl) | ((with_reducible apply wp_fnS); rfl) | ((with_reducible apply ex_some); rfl) | ((with_reducible apply ex_sb); rfl) | ((with_reducible apply br_t); rfl) | ((with_reducible apply br_f); rfl) | ((with_reducible apply ex_some (mulB ?hh)); case hh => decide +kernel) | ((with_reducible apply ex_some (mulA ?hh)); case hh => decide +kernel) | ((with_reducible apply ex_some (rngL ?hh)); case hh => decide +kernel) | (refine ⟨rfl, ?_⟩)))
  refine wp_eq (law_is_eq d "text" 2 (by decide)) (wp_pure ?_)
  cases h : toldB "text" 2 d with
  | false => (repeat (first | with_reducible (first | apply wp_seq | apply wp_sIf | apply wp_next | apply wp_ret | apply wp_set | apply wp_own | apply wp_par | apply wp_par3 | apply wp_asg | apply wp_for | apply wp_tVal | apply wp_tTru | apply wp_tAnd | apply wp_tOr | apply wp_tNot | apply wp_e2 | apply wp_e1 | apply wp_eC | apply wp_call | apply wp_cons | apply wp_nil | apply wp_mt | apply wp_sl | apply wp_pNo | apply wp_pAt | apply wp_rev | apply wp_eIf | apply wp_eAnd | apply wp_eOr | apply wp_eNot | apply wp_chain | apply wp_isi | apply wp_isi2 | apply wp_fn | apply wp_iOf | apply wp_iRng | apply wp_lc | apply wp_tup | apply wp_lst | apply wp_frz | apply ko_nx | apply ko_rt | apply kr_rt | apply kr_nx | apply ex_bool | apply ex_int) | ((with_reducible apply wp_eV); rfl) | ((with_reducible apply wp_eOv); rfl) | ((with_reducible apply wp_eOo); rfl) | ((with_reducible apply wp_st); rfl; decide) | ((with_reducible apply wp_stSet); rfl) | ((with_reducible apply wp_fnS); rfl) | ((with_reducible apply ex_some); rfl) | ((with_reducible apply ex_sb); rfl) | ((with_reducible apply br_t); rfl) | ((with_reducible apply br_f); rfl) | ((with_reducible apply ex_some (mulB ?hh)); case hh => decide +kernel) | ((with_reducible apply ex_some (mulA ?hh)); case hh => decide +kernel) | ((with_reducible apply ex_some (rngL ?hh)); case hh => decide +kernel) | (refine ⟨rfl, ?_⟩))); rw [pairS_no h]
  | true =>
    obtain ⟨x, rfl⟩ := toldB_two h
    have so := (odd_tup hd).ofTup
    (repeat (first | with_reducible (first | apply wp_seq | apply wp_sIf | apply wp_next | apply wp_ret | apply wp_set | apply wp_own | apply wp_par | apply wp_par3 | apply wp_asg | apply wp_for | apply wp_tVal | apply wp_tTru | apply wp_tAnd | apply wp_tOr | apply wp_tNot | apply wp_e2 | apply wp_e1 | apply wp_eC | apply wp_call | apply wp_cons | apply wp_nil | apply wp_mt | apply wp_sl | apply wp_pNo | apply wp_pAt | apply wp_rev | apply wp_eIf | apply wp_eAnd | apply wp_eOr | apply wp_eNot | apply wp_chain | apply wp_isi | apply wp_isi2 | apply wp_fn | apply wp_iOf | apply wp_iRng | apply wp_lc | apply wp_tup | apply wp_lst | apply wp_frz | apply ko_nx | apply ko_rt | apply kr_rt | apply kr_nx | apply ex_bool | apply ex_int) | ((with_reducible apply wp_eV); rfl) | ((with_reducible apply wp_eOv); rfl) | ((with_reducible apply wp_eOo); rfl) | ((with_reducible apply wp_st); rfl; decide) | ((with_reducible apply wp_stSet); rfl) | ((with_reducible apply wp_fnS); rfl) | ((with_reducible apply ex_some); rfl) | ((with_reducible apply ex_sb); rfl) | ((with_reducible apply br_t); rfl) | ((with_reducible apply br_f); rfl) | ((with_reducible apply ex_some (mulB ?hh)); case hh => decide +kernel) | ((with_reducible apply ex_some (mulA ?hh)); case hh => decide +kernel) | ((with_reducible apply ex_some (rngL ?hh)); case hh => decide +kernel) | (refine ⟨rfl, ?_⟩)))
    refine wp_eq (is_text_eq x) (wp_pure ?_)
    cases x with
    | str z =>
      rw [pairS_self]
      obtain ⟨l, rfl⟩ : ∃ l, z = S l := ⟨z.cps.toList, (S_tl z).symm⟩
      have el : (S l).cps.toList = l := by simp
      have sx := so.mem (d := .str (S l)) (by simp)
      have hlen : l.length ≤ 60000 := by have := sx.w; have e : wt (.str (S l)) = (S l).length + 1 := rfl; rw [e, S_len] at this; omega
      have hlS : (S l).length = l.length := S_len l
      have eE : Str.ofString "" = S [] := by decide +kernel
      have e0 : Str.ofString "0" = S [48] := by decide +kernel
      rw [el]
      (repeat (first | with_reducible (first | apply wp_seq | apply wp_sIf | apply wp_next | apply wp_ret | apply wp_set | apply wp_own | apply wp_par | apply wp_par3 | apply wp_asg | apply wp_for | apply wp_tVal | apply wp_tTru | apply wp_tAnd | apply wp_tOr | apply wp_tNot | apply wp_e2 | apply wp_e1 | apply wp_eC | apply wp_call | apply wp_cons | apply wp_nil | apply wp_mt | apply wp_sl | apply wp_pNo | apply wp_pAt | apply wp_rev | apply wp_eIf | apply wp_eAnd | apply wp_eOr | apply wp_eNot | apply wp_chain | apply wp_isi | apply wp_isi2 | apply wp_fn | apply wp_iOf | apply wp_iRng | apply wp_lc | apply wp_tup | apply wp_lst | apply wp_frz | apply ko_nx | apply ko_rt | apply kr_rt | apply kr_nx | apply ex_bool | apply ex_int) | ((with_reducible apply wp_eV); rfl) | ((with_reducible apply wp_eOv); rfl) | ((with_reducible apply wp_eOo); rfl) | ((with_reducible apply wp_st); rfl; decide) | ((with_reducible apply wp_stSet); rfl) | ((with_reducible apply wp_fnS); rfl) | ((with_reducible apply ex_some); rfl) | ((with_reducible apply ex_sb); rfl) | ((with_reducible apply br_t); rfl) | ((with_reducible apply br_f); rfl) | ((with_reducible apply ex_some (mulB ?hh)); case hh => decide +kernel) | ((with_reducible apply ex_some (mulA ?hh)); case hh => decide +kernel) | ((with_reducible apply ex_some (rngL ?hh)); case hh => decide +kernel) | (refine ⟨rfl, ?_⟩)))
      rw [eqv_str, eE, beq_S]
      by_cases hne : l = []
      · refine br_t (decide_eq_true hne) ?_
        (repeat (first | with_reducible (first | apply wp_seq | apply wp_sIf | apply wp_next | apply wp_ret | apply wp_set | apply wp_own | apply wp_par | apply wp_par3 | apply wp_asg | apply wp_for | apply wp_tVal | apply wp_tTru | apply wp_tAnd | apply wp_tOr | apply wp_tNot | apply wp_e2 | apply wp_e1 | apply wp_eC | apply wp_call | apply wp_cons | apply wp_nil | apply wp_mt | apply wp_sl | apply wp_pNo | apply wp_pAt | apply wp_rev | apply wp_eIf | apply wp_eAnd | apply wp_eOr | apply wp_eNot | apply wp_chain | apply wp_isi | apply wp_isi2 | apply wp_fn | apply wp_iOf | apply wp_iRng | apply wp_lc | apply wp_tup | apply wp_lst | apply wp_frz | apply ko_nx | apply ko_rt | apply kr_rt | apply kr_nx | apply ex_bool | apply ex_int) | ((with_reducible apply wp_eV); rfl) | ((with_reducible apply wp_eOv); rfl) | ((with_reducible apply wp_eOo); rfl) | ((with_reducible apply wp_st); rfl; decide) | ((with_reducible apply wp_stSet); rfl) | ((with_reducible apply wp_fnS); rfl) | ((with_reducible apply ex_some); rfl) | ((with_reducible apply ex_sb); rfl) | ((with_reducible apply br_t); rfl) | ((with_reducible apply br_f); rfl) | ((with_reducible apply ex_some (mulB ?hh)); case hh => decide +kernel) | ((with_reducible apply ex_some (mulA ?hh)); case hh => decide +kernel) | ((with_reducible apply ex_some (rngL ?hh)); case hh => decide +kernel) | (refine ⟨rfl, ?_⟩)))
        simp [acc3, hne]
      · refine br_f (decide_eq_false hne) ?_
        (repeat (first | with_reducible (first | apply wp_seq | apply wp_sIf | apply wp_next | apply wp_ret | apply wp_set | apply wp_own | apply wp_par | apply wp_par3 | apply wp_asg | apply wp_for | apply wp_tVal | apply wp_tTru | apply wp_tAnd | apply wp_tOr | apply wp_tNot | apply wp_e2 | apply wp_e1 | apply wp_eC | apply wp_call | apply wp_cons | apply wp_nil | apply wp_mt | apply wp_sl | apply wp_pNo | apply wp_pAt | apply wp_rev | apply wp_eIf | apply wp_eAnd | apply wp_eOr | apply wp_eNot | apply wp_chain | apply wp_isi | apply wp_isi2 | apply wp_fn | apply wp_iOf | apply wp_iRng | apply wp_lc | apply wp_tup | apply wp_lst | apply wp_frz | apply ko_nx | apply ko_rt | apply kr_rt | apply kr_nx | apply ex_bool | apply ex_int) | ((with_reducible apply wp_eV); rfl) | ((with_reducible apply wp_eOv); rfl) | ((with_reducible apply wp_eOo); rfl) | ((with_reducible apply wp_st); rfl; decide) | ((with_reducible apply wp_stSet); rfl) | ((with_reducible apply wp_fnS); rfl) | ((with_reducible apply ex_some); rfl) | ((with_reducible apply ex_sb); rfl) | ((with_reducible apply br_t); rfl) | ((with_reducible apply br_f); rfl) | ((with_reducible apply ex_some (mulB ?hh)); case hh => decide +kernel) | ((with_reducible apply ex_some (mulA ?hh)); case hh => decide +kernel) | ((with_reducible apply ex_some (rngL ?hh)); case hh => decide +kernel) | (refine ⟨rfl, ?_⟩)))
        refine ex_some (len_str (by omega)) ?_
        (repeat (first | with_reducible (first | apply wp_seq | apply wp_sIf | apply wp_next | apply wp_ret | apply wp_set | apply wp_own | apply wp_par | apply wp_par3 | apply wp_asg | apply wp_for | apply wp_tVal | apply wp_tTru | apply wp_tAnd | apply wp_tOr | apply wp_tNot | apply wp_e2 | apply wp_e1 | apply wp_eC | apply wp_call | apply wp_cons | apply wp_nil | apply wp_mt | apply wp_sl | apply wp_pNo | apply wp_pAt | apply wp_rev | apply wp_eIf | apply wp_eAnd | apply wp_eOr | apply wp_eNot | apply wp_chain | apply wp_isi | apply wp_isi2 | apply wp_fn | apply wp_iOf | apply wp_iRng | apply wp_lc | apply wp_tup | apply wp_lst | apply wp_frz | apply ko_nx | apply ko_rt | apply kr_rt | apply kr_nx | apply ex_bool | apply ex_int) | ((with_reducible apply wp_eV); rfl) | ((with_reducible apply wp_eOv); rfl) | ((with_reducible apply wp_eOo); rfl) | ((with_reducible apply wp_st); rfl; decide) | ((with_reducible apply wp_stSet); rfl) | ((with_reducible apply wp_fnS); rfl) | ((with_reducible apply ex_some); rfl) | ((with_reducible apply ex_sb); rfl) | ((with_reducible apply br_t); rfl) | ((with_reducible apply br_f); rfl) | ((with_reducible apply ex_some (mulB ?hh)); case hh => decide +kernel) | ((with_reducible apply ex_some (mulA ?hh)); case hh => decide +kernel) | ((with_reducible apply ex_some (rngL ?hh)); case hh => decide +kernel) | (refine ⟨rfl, ?_⟩)))
        rw [hlS]
        refine ⟨fun hb => ?_, fun hb => ?_⟩
        · have hb : ¬ l.length ≤ 30 := by have := of_decide_eq_true hb; omega
          (repeat (first | with_reducible (first | apply wp_seq | apply wp_sIf | apply wp_next | apply wp_ret | apply wp_set | apply wp_own | apply wp_par | apply wp_par3 | apply wp_asg | apply wp_for | apply wp_tVal | apply wp_tTru | apply wp_tAnd | apply wp_tOr | apply wp_tNot | apply wp_e2 | apply wp_e1 | apply wp_eC | apply wp_call | apply wp_cons | apply wp_nil | apply wp_mt | apply wp_sl | apply wp_pNo | apply wp_pAt | apply wp_rev | apply wp_eIf | apply wp_eAnd | apply wp_eOr | apply wp_eNot | apply wp_chain | apply wp_isi | apply wp_isi2 | apply wp_fn | apply wp_iOf | apply wp_iRng | apply wp_lc | apply wp_tup | apply wp_lst | apply wp_frz | apply ko_nx | apply ko_rt | apply kr_rt | apply kr_nx | apply ex_bool | apply ex_int) | ((with_reducible apply wp_eV); rfl) | ((with_reducible apply wp_eOv); rfl) | ((with_reducible apply wp_eOo); rfl) | ((with_reducible apply wp_st); rfl; decide) | ((with_reducible apply wp_stSet); rfl) | ((with_reducible apply wp_fnS); rfl) | ((with_reducible apply ex_some); rfl) | ((with_reducible apply ex_sb); rfl) | ((with_reducible apply br_t); rfl) | ((with_reducible apply br_f); rfl) | ((with_reducible apply ex_some (mulB ?hh)); case hh => decide +kernel) | ((with_reducible apply ex_some (mulA ?hh)); case hh => decide +kernel) | ((with_reducible apply ex_some (rngL ?hh)); case hh => decide +kernel) | (refine ⟨rfl, ?_⟩)))
          simp [acc3, hb]
        · have hb : l.length ≤ 30 := by have := of_decide_eq_false hb; omega
          have sg : Sans (2 * (S l).length) 12 (signsD (S l)) := signs_san sx.strOk
          have sl : (signsD (S l)).length = l.length := by rw [signsD, List.length_map, el]
          (repeat (first | with_reducible (first | apply wp_seq | apply wp_sIf | apply wp_next | apply wp_ret | apply wp_set | apply wp_own | apply wp_par | apply wp_par3 | apply wp_asg | apply wp_for | apply wp_tVal | apply wp_tTru | apply wp_tAnd | apply wp_tOr | apply wp_tNot | apply wp_e2 | apply wp_e1 | apply wp_eC | apply wp_call | apply wp_cons | apply wp_nil | apply wp_mt | apply wp_sl | apply wp_pNo | apply wp_pAt | apply wp_rev | apply wp_eIf | apply wp_eAnd | apply wp_eOr | apply wp_eNot | apply wp_chain | apply wp_isi | apply wp_isi2 | apply wp_fn | apply wp_iOf | apply wp_iRng | apply wp_lc | apply wp_tup | apply wp_lst | apply wp_frz | apply ko_nx | apply ko_rt | apply kr_rt | apply kr_nx | apply ex_bool | apply ex_int) | ((with_reducible apply wp_eV); rfl) | ((with_reducible apply wp_eOv); rfl) | ((with_reducible apply wp_eOo); rfl) | ((with_reducible apply wp_st); rfl; decide) | ((with_reducible apply wp_stSet); rfl) | ((with_reducible apply wp_fnS); rfl) | ((with_reducible apply ex_some); rfl) | ((with_reducible apply ex_sb); rfl) | ((with_reducible apply br_t); rfl) | ((with_reducible apply br_f); rfl) | ((with_reducible apply ex_some (mulB ?hh)); case hh => decide +kernel) | ((with_reducible apply ex_some (mulA ?hh)); case hh => decide +kernel) | ((with_reducible apply ex_some (rngL ?hh)); case hh => decide +kernel) | (refine ⟨rfl, ?_⟩)))
          refine ⟨decide_eq_true (by rw [sl]; omega), ?_⟩
          refine wp_eq (lcGo_pure (p := noSign [97, 48, 49]) (f := id) ?_) (wp_pure ?_)
          · intro d hd
            obtain ⟨c, hc, rfl⟩ := List.mem_map.mp hd
            refine ⟨_, rfl, ?_, fun _ => rfl⟩
            refine pure_of fun s => ?_
            have e01 : Str.ofString "a01" = S [97, 48, 49] := by decide +kernel
            (repeat (first | with_reducible (first | apply wp_seq | apply wp_sIf | apply wp_next | apply wp_ret | apply wp_set | apply wp_own | apply wp_par | apply wp_par3 | apply wp_asg | apply wp_for | apply wp_tVal | apply wp_tTru | apply wp_tAnd | apply wp_tOr | apply wp_tNot | apply wp_e2 | apply wp_e1 | apply wp_eC | apply wp_call | apply wp_cons | apply wp_nil | apply wp_mt | apply wp_sl | apply wp_pNo | apply wp_pAt | apply wp_rev | apply wp_eIf | apply wp_eAnd | apply wp_eOr | apply wp_eNot | apply wp_chain | apply wp_isi | apply wp_isi2 | apply wp_fn | apply wp_iOf | apply wp_iRng | apply wp_lc | apply wp_tup | apply wp_lst | apply wp_frz | apply ko_nx | apply ko_rt | apply kr_rt | apply kr_nx | apply ex_bool | apply ex_int) | ((with_reducible apply wp_eV); rfl) | ((with_reducible apply wp_eOv); rfl) | ((with_reducible apply wp_eOo); rfl) | ((with_reducible apply wp_st); rfl; decide) | ((with_reducible apply wp_stSet); rfl) | ((with_reducible apply wp_fnS); rfl) | ((with_reducible apply ex_some); rfl) | ((with_reducible apply ex_sb); rfl) | ((with_reducible apply br_t); rfl) | ((with_reducible apply br_f); rfl) | ((with_reducible apply ex_some (mulB ?hh)); case hh => decide +kernel) | ((with_reducible apply ex_some (mulA ?hh)); case hh => decide +kernel) | ((with_reducible apply ex_some (rngL ?hh)); case hh => decide +kernel) | (refine ⟨rfl, ?_⟩)))
            rw [noSign, ← e01]
          · rw [List.map_id]
            (repeat (first | with_reducible (first | apply wp_seq | apply wp_sIf | apply wp_next | apply wp_ret | apply wp_set | apply wp_own | apply wp_par | apply wp_par3 | apply wp_asg | apply wp_for | apply wp_tVal | apply wp_tTru | apply wp_tAnd | apply wp_tOr | apply wp_tNot | apply wp_e2 | apply wp_e1 | apply wp_eC | apply wp_call | apply wp_cons | apply wp_nil | apply wp_mt | apply wp_sl | apply wp_pNo | apply wp_pAt | apply wp_rev | apply wp_eIf | apply wp_eAnd | apply wp_eOr | apply wp_eNot | apply wp_chain | apply wp_isi | apply wp_isi2 | apply wp_fn | apply wp_iOf | apply wp_iRng | apply wp_lc | apply wp_tup | apply wp_lst | apply wp_frz | apply ko_nx | apply ko_rt | apply kr_rt | apply kr_nx | apply ex_bool | apply ex_int) | ((with_reducible apply wp_eV); rfl) | ((with_reducible apply wp_eOv); rfl) | ((with_reducible apply wp_eOo); rfl) | ((with_reducible apply wp_st); rfl; decide) | ((with_reducible apply wp_stSet); rfl) | ((with_reducible apply wp_fnS); rfl) | ((with_reducible apply ex_some); rfl) | ((with_reducible apply ex_sb); rfl) | ((with_reducible apply br_t); rfl) | ((with_reducible apply br_f); rfl) | ((with_reducible apply ex_some (mulB ?hh)); case hh => decide +kernel) | ((with_reducible apply ex_some (mulA ?hh)); case hh => decide +kernel) | ((with_reducible apply ex_some (rngL ?hh)); case hh => decide +kernel) | (refine ⟨rfl, ?_⟩)))
            refine ex_some (ne_emptyL (sg.sub List.filter_sublist).lst (by omega)) ?_
            (repeat (first | with_reducible (first | apply wp_seq | apply wp_sIf | apply wp_next | apply wp_ret | apply wp_set | apply wp_own | apply wp_par | apply wp_par3 | apply wp_asg | apply wp_for | apply wp_tVal | apply wp_tTru | apply wp_tAnd | apply wp_tOr | apply wp_tNot | apply wp_e2 | apply wp_e1 | apply wp_eC | apply wp_call | apply wp_cons | apply wp_nil | apply wp_mt | apply wp_sl | apply wp_pNo | apply wp_pAt | apply wp_rev | apply wp_eIf | apply wp_eAnd | apply wp_eOr | apply wp_eNot | apply wp_chain | apply wp_isi | apply wp_isi2 | apply wp_fn | apply wp_iOf | apply wp_iRng | apply wp_lc | apply wp_tup | apply wp_lst | apply wp_frz | apply ko_nx | apply ko_rt | apply kr_rt | apply kr_nx | apply ex_bool | apply ex_int) | ((with_reducible apply wp_eV); rfl) | ((with_reducible apply wp_eOv); rfl) | ((with_reducible apply wp_eOo); rfl) | ((with_reducible apply wp_st); rfl; decide) | ((with_reducible apply wp_stSet); rfl) | ((with_reducible apply wp_fnS); rfl) | ((with_reducible apply ex_some); rfl) | ((with_reducible apply ex_sb); rfl) | ((with_reducible apply br_t); rfl) | ((with_reducible apply br_f); rfl) | ((with_reducible apply ex_some (mulB ?hh)); case hh => decide +kernel) | ((with_reducible apply ex_some (mulA ?hh)); case hh => decide +kernel) | ((with_reducible apply ex_some (rngL ?hh)); case hh => decide +kernel) | (refine ⟨rfl, ?_⟩)))
            rw [filter_signs]
            have e3 : (l.all fun c => decide (c ∈ [97, 48, 49])) = l.all sg3 := rfl
            rw [e3]
            cases hall : l.all sg3 with
            | false =>
              refine br_t rfl ?_
              (repeat (first | with_reducible (first | apply wp_seq | apply wp_sIf | apply wp_next | apply wp_ret | apply wp_set | apply wp_own | apply wp_par | apply wp_par3 | apply wp_asg | apply wp_for | apply wp_tVal | apply wp_tTru | apply wp_tAnd | apply wp_tOr | apply wp_tNot | apply wp_e2 | apply wp_e1 | apply wp_eC | apply wp_call | apply wp_cons | apply wp_nil | apply wp_mt | apply wp_sl | apply wp_pNo | apply wp_pAt | apply wp_rev | apply wp_eIf | apply wp_eAnd | apply wp_eOr | apply wp_eNot | apply wp_chain | apply wp_isi | apply wp_isi2 | apply wp_fn | apply wp_iOf | apply wp_iRng | apply wp_lc | apply wp_tup | apply wp_lst | apply wp_frz | apply ko_nx | apply ko_rt | apply kr_rt | apply kr_nx | apply ex_bool | apply ex_int) | ((with_reducible apply wp_eV); rfl) | ((with_reducible apply wp_eOv); rfl) | ((with_reducible apply wp_eOo); rfl) | ((with_reducible apply wp_st); rfl; decide) | ((with_reducible apply wp_stSet); rfl) | ((with_reducible apply wp_fnS); rfl) | ((with_reducible apply ex_some); rfl) | ((with_reducible apply ex_sb); rfl) | ((with_reducible apply br_t); rfl) | ((with_reducible apply br_f); rfl) | ((with_reducible apply ex_some (mulB ?hh)); case hh => decide +kernel) | ((with_reducible apply ex_some (mulA ?hh)); case hh => decide +kernel) | ((with_reducible apply ex_some (rngL ?hh)); case hh => decide +kernel) | (refine ⟨rfl, ?_⟩)))
              simp [acc3, hall]
            | true =>
              refine br_f rfl ?_
              (repeat (first | with_reducible (first | apply wp_seq | apply wp_sIf | apply wp_next | apply wp_ret | apply wp_set | apply wp_own | apply wp_par | apply wp_par3 | apply wp_asg | apply wp_for | apply wp_tVal | apply wp_tTru | apply wp_tAnd | apply wp_tOr | apply wp_tNot | apply wp_e2 | apply wp_e1 | apply wp_eC | apply wp_call | apply wp_cons | apply wp_nil | apply wp_mt | apply wp_sl | apply wp_pNo | apply wp_pAt | apply wp_rev | apply wp_eIf | apply wp_eAnd | apply wp_eOr | apply wp_eNot | apply wp_chain | apply wp_isi | apply wp_isi2 | apply wp_fn | apply wp_iOf | apply wp_iRng | apply wp_lc | apply wp_tup | apply wp_lst | apply wp_frz | apply ko_nx | apply ko_rt | apply kr_rt | apply kr_nx | apply ex_bool | apply ex_int) | ((with_reducible apply wp_eV); rfl) | ((with_reducible apply wp_eOv); rfl) | ((with_reducible apply wp_eOo); rfl) | ((with_reducible apply wp_st); rfl; decide) | ((with_reducible apply wp_stSet); rfl) | ((with_reducible apply wp_fnS); rfl) | ((with_reducible apply ex_some); rfl) | ((with_reducible apply ex_sb); rfl) | ((with_reducible apply br_t); rfl) | ((with_reducible apply br_f); rfl) | ((with_reducible apply ex_some (mulB ?hh)); case hh => decide +kernel) | ((with_reducible apply ex_some (mulA ?hh)); case hh => decide +kernel) | ((with_reducible apply ex_some (rngL ?hh)); case hh => decide +kernel) | (refine ⟨rfl, ?_⟩)))
              have sm : signsD (S l) = l.map fun c => .str (one c) := by rw [signsD, el]
              rw [sm]
              have hml : (l.map fun c => PyData.str (one c)).length = l.length := by simp
              refine wp_forD (fun t env s' => s' = s ∧ ∃ v3, env = [some (.val (.int n)), some (.val (.tuple [.str "text", .str (S l)])), some (.val (.int (tv (l.take t).reverse))), v3]) _ ?_ ⟨rfl, none, rfl⟩ ?_
              · rintro t ht env s' ⟨rfl, v3, rfl⟩
                rw [hml] at ht
                have hd : (l.map fun c => PyData.str (one c))[t] = .str (one l[t]) := List.getElem_map ..
                refine ⟨_, rfl, ?_⟩
                rw [hd]
                have hc3 := List.all_eq_true.mp hall _ (List.getElem_mem ht)
                have htk : l.take (t + 1) = l.take t ++ [l[t]] := by rw [List.take_succ, some_get ht]; rfl
                have eidx : indexD (.str "a01") [.str (one l[t])] = some (.int (dv l[t] + 1)) := by
                  have h : l[t] = 97 ∨ l[t] = 48 ∨ l[t] = 49 := by simpa [sg3] using hc3
                  have e01 : Str.ofString "a01" = S [97, 48, 49] := by decide +kernel
                  have o97 : Builtin.Str.occurrences (S [97, 48, 49]) (one 97) 0 (S [97, 48, 49]).length 1 = [0] := by decide +kernel
                  have o48 : Builtin.Str.occurrences (S [97, 48, 49]) (one 48) 0 (S [97, 48, 49]).length 1 = [1] := by decide +kernel
                  have o49 : Builtin.Str.occurrences (S [97, 48, 49]) (one 49) 0 (S [97, 48, 49]).length 1 = [2] := by decide +kernel
                  rw [e01]
                  simp only [indexD]
                  rcases h with h | h | h <;> rw [h]
                  · rw [o97]; rfl
                  · rw [o48]; rfl
                  · rw [o49]; rfl
                (repeat (first | with_reducible (first | apply wp_seq | apply wp_sIf | apply wp_next | apply wp_ret | apply wp_set | apply wp_own | apply wp_par | apply wp_par3 | apply wp_asg | apply wp_for | apply wp_tVal | apply wp_tTru | apply wp_tAnd | apply wp_tOr | apply wp_tNot | apply wp_e2 | apply wp_e1 | apply wp_eC | apply wp_call | apply wp_cons | apply wp_nil | apply wp_mt | apply wp_sl | apply wp_pNo | apply wp_pAt | apply wp_rev | apply wp_eIf | apply wp_eAnd | apply wp_eOr | apply wp_eNot | apply wp_chain | apply wp_isi | apply wp_isi2 | apply wp_fn | apply wp_iOf | apply wp_iRng | apply wp_lc | apply wp_tup | apply wp_lst | apply wp_frz | apply ko_nx | apply ko_rt | apply kr_rt | apply kr_nx | apply ex_bool | apply ex_int) | ((with_reducible apply wp_eV); rfl) | ((with_reducible apply wp_eOv); rfl) | ((with_reducible apply wp_eOo); rfl) | ((with_reducible apply wp_st); rfl; decide) | ((with_reducible apply wp_stSet); rfl) | ((with_reducible apply wp_fnS); rfl) | ((with_reducible apply ex_some); rfl) | ((with_reducible apply ex_sb); rfl) | ((with_reducible apply br_t); rfl) | ((with_reducible apply br_f); rfl) | ((with_reducible apply ex_some (mulB ?hh)); case hh => decide +kernel) | ((with_reducible apply ex_some (mulA ?hh)); case hh => decide +kernel) | ((with_reducible apply ex_some (rngL ?hh)); case hh => decide +kernel) | (refine ⟨rfl, ?_⟩)))
                refine ex_some eidx ?_
                (repeat (first | with_reducible (first | apply wp_seq | apply wp_sIf | apply wp_next | apply wp_ret | apply wp_set | apply wp_own | apply wp_par | apply wp_par3 | apply wp_asg | apply wp_for | apply wp_tVal | apply wp_tTru | apply wp_tAnd | apply wp_tOr | apply wp_tNot | apply wp_e2 | apply wp_e1 | apply wp_eC | apply wp_call | apply wp_cons | apply wp_nil | apply wp_mt | apply wp_sl | apply wp_pNo | apply wp_pAt | apply wp_rev | apply wp_eIf | apply wp_eAnd | apply wp_eOr | apply wp_eNot | apply wp_chain | apply wp_isi | apply wp_isi2 | apply wp_fn | apply wp_iOf | apply wp_iRng | apply wp_lc | apply wp_tup | apply wp_lst | apply wp_frz | apply ko_nx | apply ko_rt | apply kr_rt | apply kr_nx | apply ex_bool | apply ex_int) | ((with_reducible apply wp_eV); rfl) | ((with_reducible apply wp_eOv); rfl) | ((with_reducible apply wp_eOo); rfl) | ((with_reducible apply wp_st); rfl; decide) | ((with_reducible apply wp_stSet); rfl) | ((with_reducible apply wp_fnS); rfl) | ((with_reducible apply ex_some); rfl) | ((with_reducible apply ex_sb); rfl) | ((with_reducible apply br_t); rfl) | ((with_reducible apply br_f); rfl) | ((with_reducible apply ex_some (mulB ?hh)); case hh => decide +kernel) | ((with_reducible apply ex_some (mulA ?hh)); case hh => decide +kernel) | ((with_reducible apply ex_some (rngL ?hh)); case hh => decide +kernel) | (refine ⟨rfl, ?_⟩)))
                refine ⟨_, .inl rfl, rfl, some (.val (.str (one l[t]))), ?_⟩
                rw [htk, List.reverse_append]
                have e : tv ([l[t]].reverse ++ (l.take t).reverse) = 3 * tv (l.take t).reverse + (dv l[t] + 1) - 1 := by
                  show dv l[t] + 3 * tv (l.take t).reverse = _
                  omega
                rw [e]; rfl
              · rintro env s' ⟨rfl, v3, rfl⟩
                rw [hml, List.take_length]
                (repeat (first | with_reducible (first | apply wp_seq | apply wp_sIf | apply wp_next | apply wp_ret | apply wp_set | apply wp_own | apply wp_par | apply wp_par3 | apply wp_asg | apply wp_for | apply wp_tVal | apply wp_tTru | apply wp_tAnd | apply wp_tOr | apply wp_tNot | apply wp_e2 | apply wp_e1 | apply wp_eC | apply wp_call | apply wp_cons | apply wp_nil | apply wp_mt | apply wp_sl | apply wp_pNo | apply wp_pAt | apply wp_rev | apply wp_eIf | apply wp_eAnd | apply wp_eOr | apply wp_eNot | apply wp_chain | apply wp_isi | apply wp_isi2 | apply wp_fn | apply wp_iOf | apply wp_iRng | apply wp_lc | apply wp_tup | apply wp_lst | apply wp_frz | apply ko_nx | apply ko_rt | apply kr_rt | apply kr_nx | apply ex_bool | apply ex_int) | ((with_reducible apply wp_eV); rfl) | ((with_reducible apply wp_eOv); rfl) | ((with_reducible apply wp_eOo); rfl) | ((with_reducible apply wp_st); rfl; decide) | ((with_reducible apply wp_stSet); rfl) | ((with_reducible apply wp_fnS); rfl) | ((with_reducible apply ex_some); rfl) | ((with_reducible apply ex_sb); rfl) | ((with_reducible apply br_t); rfl) | ((with_reducible apply br_f); rfl) | ((with_reducible apply ex_some (mulB ?hh)); case hh => decide +kernel) | ((with_reducible apply ex_some (mulA ?hh)); case hh => decide +kernel) | ((with_reducible apply ex_some (rngL ?hh)); case hh => decide +kernel) | (refine ⟨rfl, ?_⟩)))
                rw [eqv_int]
                have ha : acc3 n l = (decide (tv l.reverse = n) && (decide (l = [48]) || l.head? != some 48)) := by
                  simp only [acc3, hall, decide_eq_true hb, decide_eq_true hne, Bool.true_and]
                rw [ha]
                have eb : (tv l.reverse == n) = decide (tv l.reverse = n) := by rw [Bool.eq_iff_iff]; simp
                rw [eb]
                cases ht : decide (tv l.reverse = n) with
                | false => refine br_f rfl ?_; (repeat (first | with_reducible (first | apply wp_seq | apply wp_sIf | apply wp_next | apply wp_ret | apply wp_set | apply wp_own | apply wp_par | apply wp_par3 | apply wp_asg | apply wp_for | apply wp_tVal | apply wp_tTru | apply wp_tAnd | apply wp_tOr | apply wp_tNot | apply wp_e2 | apply wp_e1 | apply wp_eC | apply wp_call | apply wp_cons | apply wp_nil | apply wp_mt | apply wp_sl | apply wp_pNo | apply wp_pAt | apply wp_rev | apply wp_eIf | apply wp_eAnd | apply wp_eOr | apply wp_eNot | apply wp_chain | apply wp_isi | apply wp_isi2 | apply wp_fn | apply wp_iOf | apply wp_iRng | apply wp_lc | apply wp_tup | apply wp_lst | apply wp_frz | apply ko_nx | apply ko_rt | apply kr_rt | apply kr_nx | apply ex_bool | apply ex_int) | ((with_reducible apply wp_eV); rfl) | ((with_reducible apply wp_eOv); rfl) | ((with_reducible apply wp_eOo); rfl) | ((with_reducible apply wp_st); rfl; decide) | ((with_reducible apply wp_stSet); rfl) | ((with_reducible apply wp_fnS); rfl) | ((with_reducible apply ex_some); rfl) | ((with_reducible apply ex_sb); rfl) | ((with_reducible apply br_t); rfl) | ((with_reducible apply br_f); rfl) | ((with_reducible apply ex_some (mulB ?hh)); case hh => decide +kernel) | ((with_reducible apply ex_some (mulA ?hh)); case hh => decide +kernel) | ((with_reducible apply ex_some (rngL ?hh)); case hh => decide +kernel) | (refine ⟨rfl, ?_⟩))); rfl
                | true =>
                  refine br_t rfl ?_
                  (repeat (first | with_reducible (first | apply wp_seq | apply wp_sIf | apply wp_next | apply wp_ret | apply wp_set | apply wp_own | apply wp_par | apply wp_par3 | apply wp_asg | apply wp_for | apply wp_tVal | apply wp_tTru | apply wp_tAnd | apply wp_tOr | apply wp_tNot | apply wp_e2 | apply wp_e1 | apply wp_eC | apply wp_call | apply wp_cons | apply wp_nil | apply wp_mt | apply wp_sl | apply wp_pNo | apply wp_pAt | apply wp_rev | apply wp_eIf | apply wp_eAnd | apply wp_eOr | apply wp_eNot | apply wp_chain | apply wp_isi | apply wp_isi2 | apply wp_fn | apply wp_iOf | apply wp_iRng | apply wp_lc | apply wp_tup | apply wp_lst | apply wp_frz | apply ko_nx | apply ko_rt | apply kr_rt | apply kr_nx | apply ex_bool | apply ex_int) | ((with_reducible apply wp_eV); rfl) | ((with_reducible apply wp_eOv); rfl) | ((with_reducible apply wp_eOo); rfl) | ((with_reducible apply wp_st); rfl; decide) | ((with_reducible apply wp_stSet); rfl) | ((with_reducible apply wp_fnS); rfl) | ((with_reducible apply ex_some); rfl) | ((with_reducible apply ex_sb); rfl) | ((with_reducible apply br_t); rfl) | ((with_reducible apply br_f); rfl) | ((with_reducible apply ex_some (mulB ?hh)); case hh => decide +kernel) | ((with_reducible apply ex_some (mulA ?hh)); case hh => decide +kernel) | ((with_reducible apply ex_some (rngL ?hh)); case hh => decide +kernel) | (refine ⟨rfl, ?_⟩)))
                  rw [eqv_str, e0, beq_S]
                  cases hz : decide (l = [48]) with
                  | true => refine br_t rfl ?_; (repeat (first | with_reducible (first | apply wp_seq | apply wp_sIf | apply wp_next | apply wp_ret | apply wp_set | apply wp_own | apply wp_par | apply wp_par3 | apply wp_asg | apply wp_for | apply wp_tVal | apply wp_tTru | apply wp_tAnd | apply wp_tOr | apply wp_tNot | apply wp_e2 | apply wp_e1 | apply wp_eC | apply wp_call | apply wp_cons | apply wp_nil | apply wp_mt | apply wp_sl | apply wp_pNo | apply wp_pAt | apply wp_rev | apply wp_eIf | apply wp_eAnd | apply wp_eOr | apply wp_eNot | apply wp_chain | apply wp_isi | apply wp_isi2 | apply wp_fn | apply wp_iOf | apply wp_iRng | apply wp_lc | apply wp_tup | apply wp_lst | apply wp_frz | apply ko_nx | apply ko_rt | apply kr_rt | apply kr_nx | apply ex_bool | apply ex_int) | ((with_reducible apply wp_eV); rfl) | ((with_reducible apply wp_eOv); rfl) | ((with_reducible apply wp_eOo); rfl) | ((with_reducible apply wp_st); rfl; decide) | ((with_reducible apply wp_stSet); rfl) | ((with_reducible apply wp_fnS); rfl) | ((with_reducible apply ex_some); rfl) | ((with_reducible apply ex_sb); rfl) | ((with_reducible apply br_t); rfl) | ((with_reducible apply br_f); rfl) | ((with_reducible apply ex_some (mulB ?hh)); case hh => decide +kernel) | ((with_reducible apply ex_some (mulA ?hh)); case hh => decide +kernel) | ((with_reducible apply ex_some (rngL ?hh)); case hh => decide +kernel) | (refine ⟨rfl, ?_⟩))); rfl
                  | false =>
                    refine br_f rfl ?_
                    (repeat (first | with_reducible (first | apply wp_seq | apply wp_sIf | apply wp_next | apply wp_ret | apply wp_set | apply wp_own | apply wp_par | apply wp_par3 | apply wp_asg | apply wp_for | apply wp_tVal | apply wp_tTru | apply wp_tAnd | apply wp_tOr | apply wp_tNot | apply wp_e2 | apply wp_e1 | apply wp_eC | apply wp_call | apply wp_cons | apply wp_nil | apply wp_mt | apply wp_sl | apply wp_pNo | apply wp_pAt | apply wp_rev | apply wp_eIf | apply wp_eAnd | apply wp_eOr | apply wp_eNot | apply wp_chain | apply wp_isi | apply wp_isi2 | apply wp_fn | apply wp_iOf | apply wp_iRng | apply wp_lc | apply wp_tup | apply wp_lst | apply wp_frz | apply ko_nx | apply ko_rt | apply kr_rt | apply kr_nx | apply ex_bool | apply ex_int) | ((with_reducible apply wp_eV); rfl) | ((with_reducible apply wp_eOv); rfl) | ((with_reducible apply wp_eOo); rfl) | ((with_reducible apply wp_st); rfl; decide) | ((with_reducible apply wp_stSet); rfl) | ((with_reducible apply wp_fnS); rfl) | ((with_reducible apply ex_some); rfl) | ((with_reducible apply ex_sb); rfl) | ((with_reducible apply br_t); rfl) | ((with_reducible apply br_f); rfl) | ((with_reducible apply ex_some (mulB ?hh)); case hh => decide +kernel) | ((with_reducible apply ex_some (mulA ?hh)); case hh => decide +kernel) | ((with_reducible apply ex_some (rngL ?hh)); case hh => decide +kernel) | (refine ⟨rfl, ?_⟩)))
                    cases l with
                    | nil => exact absurd rfl hne
                    | cons c r =>
                      refine ex_some (z := .str (one c)) ?_ ?_
                      · show (if okLen (S (c :: r)).length = true then (atI (S (c :: r)).cps.toList 0).map fun c => PyData.str (one c) else none) = _
                        rw [if_pos (okl (by rw [S_len]; omega)), el]
                        rw [show atI (c :: r) 0 = some c from atI_nat (j := 0) rfl]; rfl
                      (repeat (first | with_reducible (first | apply wp_seq | apply wp_sIf | apply wp_next | apply wp_ret | apply wp_set | apply wp_own | apply wp_par | apply wp_par3 | apply wp_asg | apply wp_for | apply wp_tVal | apply wp_tTru | apply wp_tAnd | apply wp_tOr | apply wp_tNot | apply wp_e2 | apply wp_e1 | apply wp_eC | apply wp_call | apply wp_cons | apply wp_nil | apply wp_mt | apply wp_sl | apply wp_pNo | apply wp_pAt | apply wp_rev | apply wp_eIf | apply wp_eAnd | apply wp_eOr | apply wp_eNot | apply wp_chain | apply wp_isi | apply wp_isi2 | apply wp_fn | apply wp_iOf | apply wp_iRng | apply wp_lc | apply wp_tup | apply wp_lst | apply wp_frz | apply ko_nx | apply ko_rt | apply kr_rt | apply kr_nx | apply ex_bool | apply ex_int) | ((with_reducible apply wp_eV); rfl) | ((with_reducible apply wp_eOv); rfl) | ((with_reducible apply wp_eOo); rfl) | ((with_reducible apply wp_st); rfl; decide) | ((with_reducible apply wp_stSet); rfl) | ((with_reducible apply wp_fnS); rfl) | ((with_reducible apply ex_some); rfl) | ((with_reducible apply ex_sb); rfl) | ((with_reducible apply br_t); rfl) | ((with_reducible apply br_f); rfl) | ((with_reducible apply ex_some (mulB ?hh)); case hh => decide +kernel) | ((with_reducible apply ex_some (mulA ?hh)); case hh => decide +kernel) | ((with_reducible apply ex_some (rngL ?hh)); case hh => decide +kernel) | (refine ⟨rfl, ?_⟩)))
                      rw [eqv_str]
                      show PyData.bool (!(S [c] == S [48])) = _
                      rw [beq_S]
                      congr 1
                      rw [Bool.eq_iff_iff]; simp
    | _ => (repeat (first | with_reducible (first | apply wp_seq | apply wp_sIf | apply wp_next | apply wp_ret | apply wp_set | apply wp_own | apply wp_par | apply wp_par3 | apply wp_asg | apply wp_for | apply wp_tVal | apply wp_tTru | apply wp_tAnd | apply wp_tOr | apply wp_tNot | apply wp_e2 | apply wp_e1 | apply wp_eC | apply wp_call | apply wp_cons | apply wp_nil | apply wp_mt | apply wp_sl | apply wp_pNo | apply wp_pAt | apply wp_rev | apply wp_eIf | apply wp_eAnd | apply wp_eOr | apply wp_eNot | apply wp_chain | apply wp_isi | apply wp_isi2 | apply wp_fn | apply wp_iOf | apply wp_iRng | apply wp_lc | apply wp_tup | apply wp_lst | apply wp_frz | apply ko_nx | apply ko_rt | apply kr_rt | apply kr_nx | apply ex_bool | apply ex_int) | ((with_reducible apply wp_eV); rfl) | ((with_reducible apply wp_eOv); rfl) | ((with_reducible apply wp_eOo); rfl) | ((with_reducible apply wp_st); rfl; decide) | ((with_reducible apply wp_stSet); rfl) | ((with_reducible apply wp_fnS); rfl) | ((with_reducible apply ex_some); rfl) | ((with_reducible apply ex_sb); rfl) | ((with_reducible apply br_t); rfl) | ((with_reducible apply br_f); rfl) | ((with_reducible apply ex_some (mulB ?hh)); case hh => decide +kernel) | ((with_reducible apply ex_some (mulA ?hh)); case hh => decide +kernel) | ((with_reducible apply ex_some (rngL ?hh)); case hh => decide +kernel) | (refine ⟨rfl, ?_⟩))); rfl
theorem third {n : Int} (hn : -1000000 ≤ n ∧ n ≤ 1000000) : ∃ l, f_in_signs [.int n] = pure (told l) ∧ l.length ≤ 30 ∧ l.all sg3 = true ∧ ∀ d, Odd 60000 13 d → ∃ b, f_judge_in_signs [.int n, d] = pure (.bool b) ∧ f_law_accepts_three [.int n, d] = pure (.bool b) ∧ (d = told l → b = true) := by
  obtain ⟨l, e, z, hl, hall⟩ := in_signs_eq n hn
  refine ⟨l, e, hl, hall, fun d hd => ⟨_, judge_text e (sg3_lt hall) hd, ?_, ?_⟩⟩
  · rw [acc_signs hd]
    have : (fun z' : Str => z' == S l) = fun z' : Str => acc3 n z'.cps.toList := by
      funext y
      obtain ⟨m, rfl⟩ : ∃ m, y = S m := ⟨y.cps.toList, (S_tl y).symm⟩
      have em : (S m).cps.toList = m := by simp
      rw [em, beq_S, Bool.eq_iff_iff, decide_eq_true_eq]
      have hc := can3_iff (l := m.reverse) (n := n)
      rw [List.getLast?_reverse, List.all_reverse] at hc
      simp only [acc3, Bool.and_eq_true, Bool.or_eq_true, decide_eq_true_eq, bne_iff_ne]
      constructor
      · rintro rfl
        rcases z with ⟨z1, z2⟩ | ⟨z1, z2⟩
        · subst z1 z2; simp [tv, dv, sg3]
        · obtain ⟨a, b, c⟩ := hc.mp z2
          refine ⟨?_, hl, a, c, .inr b⟩
          rintro rfl
          exact z1 c.symm
      · rintro ⟨h1, h2, h3, h4, h5⟩
        rcases h5 with h5 | h5
        · subst h5
          have n0 : n = 0 := by rw [← h4]; rfl
          exact Sg.uniq (.inl ⟨n0, rfl⟩) z
        · have hcan := hc.mpr ⟨h3, h5, h4⟩
          refine Sg.uniq (.inr ⟨?_, hcan⟩) z
          rintro rfl
          cases hr : m.reverse with
          | nil => exact h1 (by simpa using hr)
          | cons c r => rw [hr] at hcan; exact hcan.1 rfl
    rw [this]
  · rintro rfl
    exact (pairS_self (w := "text") (z := S l) (p := fun z => z == S l)).trans (by simp)
end DL.L81

/-! law 81, part 4: the law. -/
namespace DL
open PySem PySem.Spec PyProof.Rows L2 SX
/-- what was seen -/
structure Seen (xs : List D) : Prop where
  all : ∀ x ∈ xs, Odd 60000 13 x
  len : xs.length ≤ 5
theorem cut3_len {α : Type} (xs : List α) : (cut xs (some (-3)) none).length ≤ 3 := by
  unfold cut
  have e : HT.sIx xs.length 0 (some (-3)) = xs.length - 3 := by
    show (if (-3 : Int) < 0 then ((-3 : Int) + (xs.length : Int)).toNat else min (Int.toNat (-3)) xs.length) = _
    rw [if_pos (by decide)]; omega
  rw [e, List.length_take, List.length_drop]; omega
theorem Seen.nil : Seen [] := ⟨fun _ h => by simp at h, by simp⟩
theorem Seen.more {xs : List D} {a b : D} (h : Seen xs) (ha : Odd 60000 13 a) (hb : Odd 60000 13 b) : Seen (cut xs (some (-3)) none ++ [a, b]) := by
  refine ⟨fun x hx => ?_, by have := cut3_len xs; simp; omega⟩
  rcases List.mem_append.mp hx with hx | hx
  · exact h.all x ((cut_sub xs _ _).subset hx)
  · simp only [List.mem_cons, List.not_mem_nil, or_false] at hx
    rcases hx with rfl | rfl
    · exact ha
    · exact hb
theorem seen_add {xs : List D} {a b : D} : addD (.list (cut xs (some (-3)) none)) (.list [a, b]) = some (.list (cut xs (some (-3)) none ++ [a, b])) := add_lst (by have := cut3_len xs; simp; omega)
theorem good_of {body : DEnv → M Out} {env : DEnv} {s : LS} (h : WP (body env) s fun o _ => o = .rt (.bool true)) : ∃ ls', body env s = .ok (.rt (.bool true)) ls' := by
  obtain ⟨o, s', e, rfl⟩ := h
  exact ⟨s', e⟩
end DL
namespace DL.L81
open PySem PySem.Spec PyProof.Rows L2 SX DL
theorem told_odd {l : List Nat} (h : ∀ c ∈ l, c < 1114112) (hl : l.length ≤ 40) : Odd 60000 13 (told l) := .inl ((told_san h).mono (by omega) (by omega))
theorem told_plain {l : List Nat} : plainB (told l) = true := rfl
theorem can_small : ∀ {l : List Int} {b n : Nat}, Can l b n → ∀ y ∈ l, y.natAbs ≤ n
  | [], _, _, _, y, h => by simp at h
  | z :: r, b, n, h, y, hy => by
    rcases List.mem_cons.mp hy with rfl | hy
    · rw [h.2.1]
      have := Nat.mod_le n b
      omega
    · have := can_small h.2.2 y hy
      have := Nat.div_le_self n b
      omega
theorem toldR_plain {l : List Int} (h : ∀ y ∈ l, y.natAbs ≤ 1000000) : plainB (toldR l) = true := by
  have key : ∀ m : List Int, (∀ y ∈ m, y.natAbs ≤ 1000000) → plainAll (m.map .int) = true := by
    intro m
    induction m with
    | nil => intro _; rfl
    | cons y m ih =>
      intro h
      simp only [List.map_cons, plainAll, plainB, Bool.and_eq_true, decide_eq_true_eq]
      exact ⟨by have := h y List.mem_cons_self; omega, ih fun z hz => h z (List.mem_cons_of_mem _ hz)⟩
  simp only [toldR, plainB, plainAll, Bool.and_true, Bool.true_and]
  exact key _ fun y hy => h y (List.mem_reverse.mp hy)
theorem unfit1 : f_law_unfit [.int (-1)] = pure (.bool true) := rfl
theorem unfit2 : f_law_unfit [.int 1000001] = pure (.bool true) := rfl
theorem unfit3 : f_law_unfit_too [.int (-1)] = pure (.bool true) := rfl
theorem nil_odd : Odd 60000 13 (.tuple []) := .inl ((Sans.nil (n := 0)).tup.mono (by omega) (by omega))
theorem vld_lt {l : List Nat} (h : vld l = true) : ∀ c ∈ l, c < 1114112 := fun c hc => by rcases vld_mem h c hc with rfl | rfl <;> decide
theorem near1 (k : Nat) (hk : k < 1000) : Tr (f_law_told_near [.int k]) (Odd 60000 13) := by
  refine tr_near1 (F := f_in_steps) (tr_near_int 11 k) ?_ nil_odd
  have nat : ∀ j : Nat, j ≤ 1000 → Ends (f_in_steps [.int j]) (Odd 60000 13) := fun j hj => by
    obtain ⟨l, e, z⟩ := in_steps_eq j (by omega)
    exact .inl ⟨_, e, told_odd (vld_lt z.v) z.len⟩
  rintro d (rfl | rfl)
  · exact nat (k + 1) (by omega)
  · cases k with
    | zero => exact .inr ⟨.unfit, rfl⟩
    | succ k =>
      have e : (((k + 1 : Nat) : Int) - 1) = (k : Nat) := by omega
      rw [e]; exact nat k (by omega)
theorem near2 (k : Nat) (hk : k < 1000) : Tr (f_law_told_near_too [.int k]) (Odd 60000 13) := by
  refine tr_near1 (F := f_in_orders) (tr_near_int 11 k) ?_ nil_odd
  have nat : ∀ j : Nat, j ≤ 1000 → Ends (f_in_orders [.int j]) (Odd 60000 13) := fun j hj => by
    obtain ⟨l, e, hl, _⟩ := second (n := j) (by omega)
    exact .inl ⟨_, e, .inl (toldR_san.mono (by omega) (by omega))⟩
  rintro d (rfl | rfl)
  · exact nat (k + 1) (by omega)
  · cases k with
    | zero => exact .inr ⟨.unfit, rfl⟩
    | succ k =>
      have e : (((k + 1 : Nat) : Int) - 1) = (k : Nat) := by omega
      rw [e]; exact nat k (by omega)
theorem near3 (k : Int) (hk : -1000 ≤ k ∧ k ≤ 1000) : Tr (f_law_told_near_three [.int k]) (Odd 60000 13) := by
  refine tr_near1 (F := f_in_signs) (tr_near_int 11 k) ?_ nil_odd
  have nat : ∀ j : Int, -1001 ≤ j ∧ j ≤ 1001 → Ends (f_in_signs [.int j]) (Odd 60000 13) := fun j hj => by
    obtain ⟨l, e, hl, ha, _⟩ := third (n := j) (by omega)
    exact .inl ⟨_, e, told_odd (sg3_lt ha) (by omega)⟩
  rintro d (rfl | rfl)
  · exact nat (k + 1) (by omega)
  · exact nat (k - 1) (by omega)
theorem good (ns : List Int) (h : ns.length ≤ 63) : ∃ ls', b_law (none :: some .st :: List.replicate 9 none) ⟨ns, 0, 0, 1⟩ = .ok (.rt (.bool true)) ls' := by
  refine good_of ?_
  have ok0 : LSok ⟨ns, 0, 0, 1⟩ := ⟨Nat.zero_le _, h, by show (0 : Int) ≤ 0; decide, by show (0 : Int) ≤ 1; decide, by show (1 : Int) < 2147483647; decide⟩
  unfold b_law
  (repeat (first | with_reducible (first | apply wp_seq | apply wp_sIf | apply wp_next | apply wp_ret | apply wp_set | apply wp_own | apply wp_par | apply wp_par3 | apply wp_asg | apply wp_for | apply wp_tVal | apply wp_tTru | apply wp_tAnd | apply wp_tOr | apply wp_tNot | apply wp_e2 | apply wp_e1 | apply wp_eC | apply wp_call | apply wp_cons | apply wp_nil | apply wp_mt | apply wp_sl | apply wp_pNo | apply wp_pAt | apply wp_rev | apply wp_eIf | apply wp_eAnd | apply wp_eOr | apply wp_eNot | apply wp_chain | apply wp_isi | apply wp_isi2 | apply wp_fn | apply wp_iOf | apply wp_iRng | apply wp_lc | apply wp_tup | apply wp_lst | apply wp_frz | apply ko_nx | apply ko_rt | apply kr_rt | apply kr_nx | apply ex_bool | apply ex_int) | ((with_reducible apply wp_eV); rfl) | ((with_reducible apply wp_eOv); rfl) | ((with_reducible apply wp_eOo); rfl) | ((with_reducible apply wp_st); rfl; decide) | ((with_reducible apply wp_stSet); rfl) | ((with_reducible apply wp_fnS); rfl) | ((with_reducible apply ex_some); rfl) | ((with_reducible apply ex_sb); rfl) | ((with_reducible apply br_t); rfl) | ((with_reducible apply br_f); rfl) | ((with_reducible apply ex_some (mulB ?hh)); case hh => decide +kernel) | ((with_reducible apply ex_some (mulA ?hh)); case hh => decide +kernel) | ((with_reducible apply ex_some (rngL ?hh)); case hh => decide +kernel) | (refine ⟨rfl, ?_⟩)))
  refine wp_forD (fun t env s => LSok s ∧ ∃ (s1 s2 s3 : List D) (v5 v6 v7 v8 v9 v10 : Option DV), env = [none, some .st, some (.val (.list s1)), some (.val (.list s2)), some (.val (.list s3)), v5, v6, v7, v8, v9, v10] ∧ Seen s1 ∧ Seen s2 ∧ Seen s3) _ ?_ ⟨ok0, [], [], [], _, _, _, _, _, _, rfl, .nil, .nil, .nil⟩ ?_
  · rintro t ht env s ⟨ok, s1, s2, s3, v5, v6, v7, v8, v9, v10, rfl, h1, h2, h3⟩
    refine ⟨_, rfl, ?_⟩
    (repeat (first | with_reducible (first | apply wp_seq | apply wp_sIf | apply wp_next | apply wp_ret | apply wp_set | apply wp_own | apply wp_par | apply wp_par3 | apply wp_asg | apply wp_for | apply wp_tVal | apply wp_tTru | apply wp_tAnd | apply wp_tOr | apply wp_tNot | apply wp_e2 | apply wp_e1 | apply wp_eC | apply wp_call | apply wp_cons | apply wp_nil | apply wp_mt | apply wp_sl | apply wp_pNo | apply wp_pAt | apply wp_rev | apply wp_eIf | apply wp_eAnd | apply wp_eOr | apply wp_eNot | apply wp_chain | apply wp_isi | apply wp_isi2 | apply wp_fn | apply wp_iOf | apply wp_iRng | apply wp_lc | apply wp_tup | apply wp_lst | apply wp_frz | apply ko_nx | apply ko_rt | apply kr_rt | apply kr_nx | apply ex_bool | apply ex_int) | ((with_reducible apply wp_eV); rfl) | ((with_reducible apply wp_eOv); rfl) | ((with_reducible apply wp_eOo); rfl) | ((with_reducible apply wp_st); rfl; decide) | ((with_reducible apply wp_stSet); rfl) | ((with_reducible apply wp_fnS); rfl) | ((with_reducible apply ex_some); rfl) | ((with_reducible apply ex_sb); rfl) | ((with_reducible apply br_t); rfl) | ((with_reducible apply br_f); rfl) | ((with_reducible apply ex_some (mulB ?hh)); case hh => decide +kernel) | ((with_reducible apply ex_some (mulA ?hh)); case hh => decide +kernel) | ((with_reducible apply ex_some (rngL ?hh)); case hh => decide +kernel) | (refine ⟨rfl, ?_⟩)))
    refine next_wp (by decide) (by decide) ok fun j s' ok hj => ?_
    obtain ⟨m, em, hm0, hm9⟩ : ∃ m : Int, ixD (.list [.int 20, .int 900]) (.int (j : Nat)) = some (.int m) ∧ 0 < m ∧ m ≤ 900 := by
      have : j = 0 ∨ j = 1 := by omega
      rcases this with rfl | rfl
      · exact ⟨20, rfl, by decide, by decide⟩
      · exact ⟨900, rfl, by decide, by decide⟩
    refine ex_some em ?_
    (repeat (first | with_reducible (first | apply wp_seq | apply wp_sIf | apply wp_next | apply wp_ret | apply wp_set | apply wp_own | apply wp_par | apply wp_par3 | apply wp_asg | apply wp_for | apply wp_tVal | apply wp_tTru | apply wp_tAnd | apply wp_tOr | apply wp_tNot | apply wp_e2 | apply wp_e1 | apply wp_eC | apply wp_call | apply wp_cons | apply wp_nil | apply wp_mt | apply wp_sl | apply wp_pNo | apply wp_pAt | apply wp_rev | apply wp_eIf | apply wp_eAnd | apply wp_eOr | apply wp_eNot | apply wp_chain | apply wp_isi | apply wp_isi2 | apply wp_fn | apply wp_iOf | apply wp_iRng | apply wp_lc | apply wp_tup | apply wp_lst | apply wp_frz | apply ko_nx | apply ko_rt | apply kr_rt | apply kr_nx | apply ex_bool | apply ex_int) | ((with_reducible apply wp_eV); rfl) | ((with_reducible apply wp_eOv); rfl) | ((with_reducible apply wp_eOo); rfl) | ((with_reducible apply wp_st); rfl; decide) | ((with_reducible apply wp_stSet); rfl) | ((with_reducible apply wp_fnS); rfl) | ((with_reducible apply ex_some); rfl) | ((with_reducible apply ex_sb); rfl) | ((with_reducible apply br_t); rfl) | ((with_reducible apply br_f); rfl) | ((with_reducible apply ex_some (mulB ?hh)); case hh => decide +kernel) | ((with_reducible apply ex_some (mulA ?hh)); case hh => decide +kernel) | ((with_reducible apply ex_some (rngL ?hh)); case hh => decide +kernel) | (refine ⟨rfl, ?_⟩)))
    refine next_wp hm0 (by omega) ok fun k s' ok hk => ?_
    have hk : k < 900 := by omega
    obtain ⟨l, e1, z, hj1⟩ := first (n := k) (by omega)
    obtain ⟨b0, ej, ea, eb⟩ := hj1 _ (told_odd (vld_lt z.v) z.len)
    have eb := eb rfl
    subst eb
    (repeat (first | with_reducible (first | apply wp_seq | apply wp_sIf | apply wp_next | apply wp_ret | apply wp_set | apply wp_own | apply wp_par | apply wp_par3 | apply wp_asg | apply wp_for | apply wp_tVal | apply wp_tTru | apply wp_tAnd | apply wp_tOr | apply wp_tNot | apply wp_e2 | apply wp_e1 | apply wp_eC | apply wp_call | apply wp_cons | apply wp_nil | apply wp_mt | apply wp_sl | apply wp_pNo | apply wp_pAt | apply wp_rev | apply wp_eIf | apply wp_eAnd | apply wp_eOr | apply wp_eNot | apply wp_chain | apply wp_isi | apply wp_isi2 | apply wp_fn | apply wp_iOf | apply wp_iRng | apply wp_lc | apply wp_tup | apply wp_lst | apply wp_frz | apply ko_nx | apply ko_rt | apply kr_rt | apply kr_nx | apply ex_bool | apply ex_int) | ((with_reducible apply wp_eV); rfl) | ((with_reducible apply wp_eOv); rfl) | ((with_reducible apply wp_eOo); rfl) | ((with_reducible apply wp_st); rfl; decide) | ((with_reducible apply wp_stSet); rfl) | ((with_reducible apply wp_fnS); rfl) | ((with_reducible apply ex_some); rfl) | ((with_reducible apply ex_sb); rfl) | ((with_reducible apply br_t); rfl) | ((with_reducible apply br_f); rfl) | ((with_reducible apply ex_some (mulB ?hh)); case hh => decide +kernel) | ((with_reducible apply ex_some (mulA ?hh)); case hh => decide +kernel) | ((with_reducible apply ex_some (rngL ?hh)); case hh => decide +kernel) | (refine ⟨rfl, ?_⟩)))
    refine wp_eq e1 (wp_pure ?_)
    (repeat (first | with_reducible (first | apply wp_seq | apply wp_sIf | apply wp_next | apply wp_ret | apply wp_set | apply wp_own | apply wp_par | apply wp_par3 | apply wp_asg | apply wp_for | apply wp_tVal | apply wp_tTru | apply wp_tAnd | apply wp_tOr | apply wp_tNot | apply wp_e2 | apply wp_e1 | apply wp_eC | apply wp_call | apply wp_cons | apply wp_nil | apply wp_mt | apply wp_sl | apply wp_pNo | apply wp_pAt | apply wp_rev | apply wp_eIf | apply wp_eAnd | apply wp_eOr | apply wp_eNot | apply wp_chain | apply wp_isi | apply wp_isi2 | apply wp_fn | apply wp_iOf | apply wp_iRng | apply wp_lc | apply wp_tup | apply wp_lst | apply wp_frz | apply ko_nx | apply ko_rt | apply kr_rt | apply kr_nx | apply ex_bool | apply ex_int) | ((with_reducible apply wp_eV); rfl) | ((with_reducible apply wp_eOv); rfl) | ((with_reducible apply wp_eOo); rfl) | ((with_reducible apply wp_st); rfl; decide) | ((with_reducible apply wp_stSet); rfl) | ((with_reducible apply wp_fnS); rfl) | ((with_reducible apply ex_some); rfl) | ((with_reducible apply ex_sb); rfl) | ((with_reducible apply br_t); rfl) | ((with_reducible apply br_f); rfl) | ((with_reducible apply ex_some (mulB ?hh)); case hh => decide +kernel) | ((with_reducible apply ex_some (mulA ?hh)); case hh => decide +kernel) | ((with_reducible apply ex_some (rngL ?hh)); case hh => decide +kernel) | (refine ⟨rfl, ?_⟩)))
    refine wp_tr (near1 k (by omega)) ok fun nt s' ok hnt => ?_
    (repeat (first | with_reducible (first | apply wp_seq | apply wp_sIf | apply wp_next | apply wp_ret | apply wp_set | apply wp_own | apply wp_par | apply wp_par3 | apply wp_asg | apply wp_for | apply wp_tVal | apply wp_tTru | apply wp_tAnd | apply wp_tOr | apply wp_tNot | apply wp_e2 | apply wp_e1 | apply wp_eC | apply wp_call | apply wp_cons | apply wp_nil | apply wp_mt | apply wp_sl | apply wp_pNo | apply wp_pAt | apply wp_rev | apply wp_eIf | apply wp_eAnd | apply wp_eOr | apply wp_eNot | apply wp_chain | apply wp_isi | apply wp_isi2 | apply wp_fn | apply wp_iOf | apply wp_iRng | apply wp_lc | apply wp_tup | apply wp_lst | apply wp_frz | apply ko_nx | apply ko_rt | apply kr_rt | apply kr_nx | apply ex_bool | apply ex_int) | ((with_reducible apply wp_eV); rfl) | ((with_reducible apply wp_eOv); rfl) | ((with_reducible apply wp_eOo); rfl) | ((with_reducible apply wp_st); rfl; decide) | ((with_reducible apply wp_stSet); rfl) | ((with_reducible apply wp_fnS); rfl) | ((with_reducible apply ex_some); rfl) | ((with_reducible apply ex_sb); rfl) | ((with_reducible apply br_t); rfl) | ((with_reducible apply br_f); rfl) | ((with_reducible apply ex_some (mulB ?hh)); case hh => decide +kernel) | ((with_reducible apply ex_some (mulA ?hh)); case hh => decide +kernel) | ((with_reducible apply ex_some (rngL ?hh)); case hh => decide +kernel) | (refine ⟨rfl, ?_⟩)))
    refine wp_eq ea (wp_pure ?_)
    (repeat (first | with_reducible (first | apply wp_seq | apply wp_sIf | apply wp_next | apply wp_ret | apply wp_set | apply wp_own | apply wp_par | apply wp_par3 | apply wp_asg | apply wp_for | apply wp_tVal | apply wp_tTru | apply wp_tAnd | apply wp_tOr | apply wp_tNot | apply wp_e2 | apply wp_e1 | apply wp_eC | apply wp_call | apply wp_cons | apply wp_nil | apply wp_mt | apply wp_sl | apply wp_pNo | apply wp_pAt | apply wp_rev | apply wp_eIf | apply wp_eAnd | apply wp_eOr | apply wp_eNot | apply wp_chain | apply wp_isi | apply wp_isi2 | apply wp_fn | apply wp_iOf | apply wp_iRng | apply wp_lc | apply wp_tup | apply wp_lst | apply wp_frz | apply ko_nx | apply ko_rt | apply kr_rt | apply kr_nx | apply ex_bool | apply ex_int) | ((with_reducible apply wp_eV); rfl) | ((with_reducible apply wp_eOv); rfl) | ((with_reducible apply wp_eOo); rfl) | ((with_reducible apply wp_st); rfl; decide) | ((with_reducible apply wp_stSet); rfl) | ((with_reducible apply wp_fnS); rfl) | ((with_reducible apply ex_some); rfl) | ((with_reducible apply ex_sb); rfl) | ((with_reducible apply br_t); rfl) | ((with_reducible apply br_f); rfl) | ((with_reducible apply ex_some (mulB ?hh)); case hh => decide +kernel) | ((with_reducible apply ex_some (mulA ?hh)); case hh => decide +kernel) | ((with_reducible apply ex_some (rngL ?hh)); case hh => decide +kernel) | (refine ⟨rfl, ?_⟩)))
    refine wp_eq ej (wp_pure ?_)
    (repeat (first | with_reducible (first | apply wp_seq | apply wp_sIf | apply wp_next | apply wp_ret | apply wp_set | apply wp_own | apply wp_par | apply wp_par3 | apply wp_asg | apply wp_for | apply wp_tVal | apply wp_tTru | apply wp_tAnd | apply wp_tOr | apply wp_tNot | apply wp_e2 | apply wp_e1 | apply wp_eC | apply wp_call | apply wp_cons | apply wp_nil | apply wp_mt | apply wp_sl | apply wp_pNo | apply wp_pAt | apply wp_rev | apply wp_eIf | apply wp_eAnd | apply wp_eOr | apply wp_eNot | apply wp_chain | apply wp_isi | apply wp_isi2 | apply wp_fn | apply wp_iOf | apply wp_iRng | apply wp_lc | apply wp_tup | apply wp_lst | apply wp_frz | apply ko_nx | apply ko_rt | apply kr_rt | apply kr_nx | apply ex_bool | apply ex_int) | ((with_reducible apply wp_eV); rfl) | ((with_reducible apply wp_eOv); rfl) | ((with_reducible apply wp_eOo); rfl) | ((with_reducible apply wp_st); rfl; decide) | ((with_reducible apply wp_stSet); rfl) | ((with_reducible apply wp_fnS); rfl) | ((with_reducible apply ex_some); rfl) | ((with_reducible apply ex_sb); rfl) | ((with_reducible apply br_t); rfl) | ((with_reducible apply br_f); rfl) | ((with_reducible apply ex_some (mulB ?hh)); case hh => decide +kernel) | ((with_reducible apply ex_some (mulA ?hh)); case hh => decide +kernel) | ((with_reducible apply ex_some (rngL ?hh)); case hh => decide +kernel) | (refine ⟨rfl, ?_⟩)))
    refine wp_eq unfit1 (wp_pure ?_)
    (repeat (first | with_reducible (first | apply wp_seq | apply wp_sIf | apply wp_next | apply wp_ret | apply wp_set | apply wp_own | apply wp_par | apply wp_par3 | apply wp_asg | apply wp_for | apply wp_tVal | apply wp_tTru | apply wp_tAnd | apply wp_tOr | apply wp_tNot | apply wp_e2 | apply wp_e1 | apply wp_eC | apply wp_call | apply wp_cons | apply wp_nil | apply wp_mt | apply wp_sl | apply wp_pNo | apply wp_pAt | apply wp_rev | apply wp_eIf | apply wp_eAnd | apply wp_eOr | apply wp_eNot | apply wp_chain | apply wp_isi | apply wp_isi2 | apply wp_fn | apply wp_iOf | apply wp_iRng | apply wp_lc | apply wp_tup | apply wp_lst | apply wp_frz | apply ko_nx | apply ko_rt | apply kr_rt | apply kr_nx | apply ex_bool | apply ex_int) | ((with_reducible apply wp_eV); rfl) | ((with_reducible apply wp_eOv); rfl) | ((with_reducible apply wp_eOo); rfl) | ((with_reducible apply wp_st); rfl; decide) | ((with_reducible apply wp_stSet); rfl) | ((with_reducible apply wp_fnS); rfl) | ((with_reducible apply ex_some); rfl) | ((with_reducible apply ex_sb); rfl) | ((with_reducible apply br_t); rfl) | ((with_reducible apply br_f); rfl) | ((with_reducible apply ex_some (mulB ?hh)); case hh => decide +kernel) | ((with_reducible apply ex_some (mulA ?hh)); case hh => decide +kernel) | ((with_reducible apply ex_some (rngL ?hh)); case hh => decide +kernel) | (refine ⟨rfl, ?_⟩)))
    refine wp_eq unfit2 (wp_pure ?_)
    (repeat (first | with_reducible (first | apply wp_seq | apply wp_sIf | apply wp_next | apply wp_ret | apply wp_set | apply wp_own | apply wp_par | apply wp_par3 | apply wp_asg | apply wp_for | apply wp_tVal | apply wp_tTru | apply wp_tAnd | apply wp_tOr | apply wp_tNot | apply wp_e2 | apply wp_e1 | apply wp_eC | apply wp_call | apply wp_cons | apply wp_nil | apply wp_mt | apply wp_sl | apply wp_pNo | apply wp_pAt | apply wp_rev | apply wp_eIf | apply wp_eAnd | apply wp_eOr | apply wp_eNot | apply wp_chain | apply wp_isi | apply wp_isi2 | apply wp_fn | apply wp_iOf | apply wp_iRng | apply wp_lc | apply wp_tup | apply wp_lst | apply wp_frz | apply ko_nx | apply ko_rt | apply kr_rt | apply kr_nx | apply ex_bool | apply ex_int) | ((with_reducible apply wp_eV); rfl) | ((with_reducible apply wp_eOv); rfl) | ((with_reducible apply wp_eOo); rfl) | ((with_reducible apply wp_st); rfl; decide) | ((with_reducible apply wp_stSet); rfl) | ((with_reducible apply wp_fnS); rfl) | ((with_reducible apply ex_some); rfl) | ((with_reducible apply ex_sb); rfl) | ((with_reducible apply br_t); rfl) | ((with_reducible apply br_f); rfl) | ((with_reducible apply ex_some (mulB ?hh)); case hh => decide +kernel) | ((with_reducible apply ex_some (mulA ?hh)); case hh => decide +kernel) | ((with_reducible apply ex_some (rngL ?hh)); case hh => decide +kernel) | (refine ⟨rfl, ?_⟩)))
    refine ex_some seen_add ?_
    simp only [List.set_cons_zero, List.set_cons_succ]
    have hs1 := h1.more (told_odd (vld_lt z.v) z.len) hnt
    apply ko_nx
    apply wp_seq
    refine wp_mono (wp_asks (kk := 9) (ka := 10) (kt := 7) (ks := 2) ok (by simp) (by simp) (by decide) (by decide) (by decide) (by decide) (by decide) (by decide) (by decide) rfl rfl rfl told_plain ((told_san (vld_lt z.v)).mono (by have := z.len; omega) (Nat.le_refl 1)) (by decide) (by simp) hs1.all (by have := hs1.len; omega) fun i d hd => ?_) ?_
    · obtain ⟨b, hb1, hb2, _⟩ := hj1 d hd
      exact ⟨b, hb1, hb2⟩
    rintro o s' ⟨ok, vk, va, rfl⟩
    simp only [List.set_cons_zero, List.set_cons_succ]
    apply ko_nx
    clear hj1 ej ea
    obtain ⟨l2, e2, hl2, hj2⟩ := second (n := k) (by omega)
    have hodd2 : Odd 60000 13 (toldR l2) := .inl (toldR_san.mono (by omega) (by omega))
    have hpl2 : plainB (toldR l2) = true := by
      obtain ⟨l2', e2', z2, _⟩ := in_orders_eq k (by omega)
      have : toldR l2 = toldR l2' := by
        have h := e2.symm.trans e2'
        have h2 := congrFun h ⟨[], 0, 0, 1⟩
        injection h2
      rw [this]
      exact toldR_plain fun y hy => Nat.le_trans (can_small z2 y hy) (by omega)
    obtain ⟨b0, ej, ea, eb⟩ := hj2 _ hodd2
    have eb := eb rfl
    subst eb
    (repeat (first | with_reducible (first | apply wp_seq | apply wp_sIf | apply wp_next | apply wp_ret | apply wp_set | apply wp_own | apply wp_par | apply wp_par3 | apply wp_asg | apply wp_for | apply wp_tVal | apply wp_tTru | apply wp_tAnd | apply wp_tOr | apply wp_tNot | apply wp_e2 | apply wp_e1 | apply wp_eC | apply wp_call | apply wp_cons | apply wp_nil | apply wp_mt | apply wp_sl | apply wp_pNo | apply wp_pAt | apply wp_rev | apply wp_eIf | apply wp_eAnd | apply wp_eOr | apply wp_eNot | apply wp_chain | apply wp_isi | apply wp_isi2 | apply wp_fn | apply wp_iOf | apply wp_iRng | apply wp_lc | apply wp_tup | apply wp_lst | apply wp_frz | apply ko_nx | apply ko_rt | apply kr_rt | apply kr_nx | apply ex_bool | apply ex_int) | ((with_reducible apply wp_eV); rfl) | ((with_reducible apply wp_eOv); rfl) | ((with_reducible apply wp_eOo); rfl) | ((with_reducible apply wp_st); rfl; decide) | ((with_reducible apply wp_stSet); rfl) | ((with_reducible apply wp_fnS); rfl) | ((with_reducible apply ex_some); rfl) | ((with_reducible apply ex_sb); rfl) | ((with_reducible apply br_t); rfl) | ((with_reducible apply br_f); rfl) | ((with_reducible apply ex_some (mulB ?hh)); case hh => decide +kernel) | ((with_reducible apply ex_some (mulA ?hh)); case hh => decide +kernel) | ((with_reducible apply ex_some (rngL ?hh)); case hh => decide +kernel) | (refine ⟨rfl, ?_⟩)))
    refine wp_eq e2 (wp_pure ?_)
    (repeat (first | with_reducible (first | apply wp_seq | apply wp_sIf | apply wp_next | apply wp_ret | apply wp_set | apply wp_own | apply wp_par | apply wp_par3 | apply wp_asg | apply wp_for | apply wp_tVal | apply wp_tTru | apply wp_tAnd | apply wp_tOr | apply wp_tNot | apply wp_e2 | apply wp_e1 | apply wp_eC | apply wp_call | apply wp_cons | apply wp_nil | apply wp_mt | apply wp_sl | apply wp_pNo | apply wp_pAt | apply wp_rev | apply wp_eIf | apply wp_eAnd | apply wp_eOr | apply wp_eNot | apply wp_chain | apply wp_isi | apply wp_isi2 | apply wp_fn | apply wp_iOf | apply wp_iRng | apply wp_lc | apply wp_tup | apply wp_lst | apply wp_frz | apply ko_nx | apply ko_rt | apply kr_rt | apply kr_nx | apply ex_bool | apply ex_int) | ((with_reducible apply wp_eV); rfl) | ((with_reducible apply wp_eOv); rfl) | ((with_reducible apply wp_eOo); rfl) | ((with_reducible apply wp_st); rfl; decide) | ((with_reducible apply wp_stSet); rfl) | ((with_reducible apply wp_fnS); rfl) | ((with_reducible apply ex_some); rfl) | ((with_reducible apply ex_sb); rfl) | ((with_reducible apply br_t); rfl) | ((with_reducible apply br_f); rfl) | ((with_reducible apply ex_some (mulB ?hh)); case hh => decide +kernel) | ((with_reducible apply ex_some (mulA ?hh)); case hh => decide +kernel) | ((with_reducible apply ex_some (rngL ?hh)); case hh => decide +kernel) | (refine ⟨rfl, ?_⟩)))
    refine wp_tr (near2 k (by omega)) ok fun nt2 s' ok hnt2 => ?_
    (repeat (first | with_reducible (first | apply wp_seq | apply wp_sIf | apply wp_next | apply wp_ret | apply wp_set | apply wp_own | apply wp_par | apply wp_par3 | apply wp_asg | apply wp_for | apply wp_tVal | apply wp_tTru | apply wp_tAnd | apply wp_tOr | apply wp_tNot | apply wp_e2 | apply wp_e1 | apply wp_eC | apply wp_call | apply wp_cons | apply wp_nil | apply wp_mt | apply wp_sl | apply wp_pNo | apply wp_pAt | apply wp_rev | apply wp_eIf | apply wp_eAnd | apply wp_eOr | apply wp_eNot | apply wp_chain | apply wp_isi | apply wp_isi2 | apply wp_fn | apply wp_iOf | apply wp_iRng | apply wp_lc | apply wp_tup | apply wp_lst | apply wp_frz | apply ko_nx | apply ko_rt | apply kr_rt | apply kr_nx | apply ex_bool | apply ex_int) | ((with_reducible apply wp_eV); rfl) | ((with_reducible apply wp_eOv); rfl) | ((with_reducible apply wp_eOo); rfl) | ((with_reducible apply wp_st); rfl; decide) | ((with_reducible apply wp_stSet); rfl) | ((with_reducible apply wp_fnS); rfl) | ((with_reducible apply ex_some); rfl) | ((with_reducible apply ex_sb); rfl) | ((with_reducible apply br_t); rfl) | ((with_reducible apply br_f); rfl) | ((with_reducible apply ex_some (mulB ?hh)); case hh => decide +kernel) | ((with_reducible apply ex_some (mulA ?hh)); case hh => decide +kernel) | ((with_reducible apply ex_some (rngL ?hh)); case hh => decide +kernel) | (refine ⟨rfl, ?_⟩)))
    refine wp_eq ea (wp_pure ?_)
    (repeat (first | with_reducible (first | apply wp_seq | apply wp_sIf | apply wp_next | apply wp_ret | apply wp_set | apply wp_own | apply wp_par | apply wp_par3 | apply wp_asg | apply wp_for | apply wp_tVal | apply wp_tTru | apply wp_tAnd | apply wp_tOr | apply wp_tNot | apply wp_e2 | apply wp_e1 | apply wp_eC | apply wp_call | apply wp_cons | apply wp_nil | apply wp_mt | apply wp_sl | apply wp_pNo | apply wp_pAt | apply wp_rev | apply wp_eIf | apply wp_eAnd | apply wp_eOr | apply wp_eNot | apply wp_chain | apply wp_isi | apply wp_isi2 | apply wp_fn | apply wp_iOf | apply wp_iRng | apply wp_lc | apply wp_tup | apply wp_lst | apply wp_frz | apply ko_nx | apply ko_rt | apply kr_rt | apply kr_nx | apply ex_bool | apply ex_int) | ((with_reducible apply wp_eV); rfl) | ((with_reducible apply wp_eOv); rfl) | ((with_reducible apply wp_eOo); rfl) | ((with_reducible apply wp_st); rfl; decide) | ((with_reducible apply wp_stSet); rfl) | ((with_reducible apply wp_fnS); rfl) | ((with_reducible apply ex_some); rfl) | ((with_reducible apply ex_sb); rfl) | ((with_reducible apply br_t); rfl) | ((with_reducible apply br_f); rfl) | ((with_reducible apply ex_some (mulB ?hh)); case hh => decide +kernel) | ((with_reducible apply ex_some (mulA ?hh)); case hh => decide +kernel) | ((with_reducible apply ex_some (rngL ?hh)); case hh => decide +kernel) | (refine ⟨rfl, ?_⟩)))
    refine wp_eq ej (wp_pure ?_)
    (repeat (first | with_reducible (first | apply wp_seq | apply wp_sIf | apply wp_next | apply wp_ret | apply wp_set | apply wp_own | apply wp_par | apply wp_par3 | apply wp_asg | apply wp_for | apply wp_tVal | apply wp_tTru | apply wp_tAnd | apply wp_tOr | apply wp_tNot | apply wp_e2 | apply wp_e1 | apply wp_eC | apply wp_call | apply wp_cons | apply wp_nil | apply wp_mt | apply wp_sl | apply wp_pNo | apply wp_pAt | apply wp_rev | apply wp_eIf | apply wp_eAnd | apply wp_eOr | apply wp_eNot | apply wp_chain | apply wp_isi | apply wp_isi2 | apply wp_fn | apply wp_iOf | apply wp_iRng | apply wp_lc | apply wp_tup | apply wp_lst | apply wp_frz | apply ko_nx | apply ko_rt | apply kr_rt | apply kr_nx | apply ex_bool | apply ex_int) | ((with_reducible apply wp_eV); rfl) | ((with_reducible apply wp_eOv); rfl) | ((with_reducible apply wp_eOo); rfl) | ((with_reducible apply wp_st); rfl; decide) | ((with_reducible apply wp_stSet); rfl) | ((with_reducible apply wp_fnS); rfl) | ((with_reducible apply ex_some); rfl) | ((with_reducible apply ex_sb); rfl) | ((with_reducible apply br_t); rfl) | ((with_reducible apply br_f); rfl) | ((with_reducible apply ex_some (mulB ?hh)); case hh => decide +kernel) | ((with_reducible apply ex_some (mulA ?hh)); case hh => decide +kernel) | ((with_reducible apply ex_some (rngL ?hh)); case hh => decide +kernel) | (refine ⟨rfl, ?_⟩)))
    refine wp_eq unfit3 (wp_pure ?_)
    (repeat (first | with_reducible (first | apply wp_seq | apply wp_sIf | apply wp_next | apply wp_ret | apply wp_set | apply wp_own | apply wp_par | apply wp_par3 | apply wp_asg | apply wp_for | apply wp_tVal | apply wp_tTru | apply wp_tAnd | apply wp_tOr | apply wp_tNot | apply wp_e2 | apply wp_e1 | apply wp_eC | apply wp_call | apply wp_cons | apply wp_nil | apply wp_mt | apply wp_sl | apply wp_pNo | apply wp_pAt | apply wp_rev | apply wp_eIf | apply wp_eAnd | apply wp_eOr | apply wp_eNot | apply wp_chain | apply wp_isi | apply wp_isi2 | apply wp_fn | apply wp_iOf | apply wp_iRng | apply wp_lc | apply wp_tup | apply wp_lst | apply wp_frz | apply ko_nx | apply ko_rt | apply kr_rt | apply kr_nx | apply ex_bool | apply ex_int) | ((with_reducible apply wp_eV); rfl) | ((with_reducible apply wp_eOv); rfl) | ((with_reducible apply wp_eOo); rfl) | ((with_reducible apply wp_st); rfl; decide) | ((with_reducible apply wp_stSet); rfl) | ((with_reducible apply wp_fnS); rfl) | ((with_reducible apply ex_some); rfl) | ((with_reducible apply ex_sb); rfl) | ((with_reducible apply br_t); rfl) | ((with_reducible apply br_f); rfl) | ((with_reducible apply ex_some (mulB ?hh)); case hh => decide +kernel) | ((with_reducible apply ex_some (mulA ?hh)); case hh => decide +kernel) | ((with_reducible apply ex_some (rngL ?hh)); case hh => decide +kernel) | (refine ⟨rfl, ?_⟩)))
    refine ex_some seen_add ?_
    simp only [List.set_cons_zero, List.set_cons_succ]
    have hs2 := h2.more hodd2 hnt2
    apply ko_nx
    apply wp_seq
    refine wp_mono (wp_asks (kk := 9) (ka := 10) (kt := 7) (ks := 3) ok (by simp) (by simp) (by decide) (by decide) (by decide) (by decide) (by decide) (by decide) (by decide) rfl rfl rfl hpl2 (toldR_san.mono (by omega) (Nat.le_refl 2)) (by decide) (by simp) hs2.all (by have := hs2.len; omega) fun i d hd => ?_) ?_
    · obtain ⟨b, hb1, hb2, _⟩ := hj2 d hd
      exact ⟨b, hb1, hb2⟩
    rintro o s' ⟨ok, vk2, va2, rfl⟩
    simp only [List.set_cons_zero, List.set_cons_succ]
    apply ko_nx
    clear hj2 ej ea
    obtain ⟨l3, e3, hl3, ha3, hj3⟩ := third (n := (k : Int) - 30) (by omega)
    have hodd3 : Odd 60000 13 (told l3) := told_odd (sg3_lt ha3) (by omega)
    obtain ⟨b0, ej, ea, eb⟩ := hj3 _ hodd3
    have eb := eb rfl
    subst eb
    (repeat (first | with_reducible (first | apply wp_seq | apply wp_sIf | apply wp_next | apply wp_ret | apply wp_set | apply wp_own | apply wp_par | apply wp_par3 | apply wp_asg | apply wp_for | apply wp_tVal | apply wp_tTru | apply wp_tAnd | apply wp_tOr | apply wp_tNot | apply wp_e2 | apply wp_e1 | apply wp_eC | apply wp_call | apply wp_cons | apply wp_nil | apply wp_mt | apply wp_sl | apply wp_pNo | apply wp_pAt | apply wp_rev | apply wp_eIf | apply wp_eAnd | apply wp_eOr | apply wp_eNot | apply wp_chain | apply wp_isi | apply wp_isi2 | apply wp_fn | apply wp_iOf | apply wp_iRng | apply wp_lc | apply wp_tup | apply wp_lst | apply wp_frz | apply ko_nx | apply ko_rt | apply kr_rt | apply kr_nx | apply ex_bool | apply ex_int) | ((with_reducible apply wp_eV); rfl) | ((with_reducible apply wp_eOv); rfl) | ((with_reducible apply wp_eOo); rfl) | ((with_reducible apply wp_st); rfl; decide) | ((with_reducible apply wp_stSet); rfl) | ((with_reducible apply wp_fnS); rfl) | ((with_reducible apply ex_some); rfl) | ((with_reducible apply ex_sb); rfl) | ((with_reducible apply br_t); rfl) | ((with_reducible apply br_f); rfl) | ((with_reducible apply ex_some (mulB ?hh)); case hh => decide +kernel) | ((with_reducible apply ex_some (mulA ?hh)); case hh => decide +kernel) | ((with_reducible apply ex_some (rngL ?hh)); case hh => decide +kernel) | (refine ⟨rfl, ?_⟩)))
    refine wp_eq e3 (wp_pure ?_)
    (repeat (first | with_reducible (first | apply wp_seq | apply wp_sIf | apply wp_next | apply wp_ret | apply wp_set | apply wp_own | apply wp_par | apply wp_par3 | apply wp_asg | apply wp_for | apply wp_tVal | apply wp_tTru | apply wp_tAnd | apply wp_tOr | apply wp_tNot | apply wp_e2 | apply wp_e1 | apply wp_eC | apply wp_call | apply wp_cons | apply wp_nil | apply wp_mt | apply wp_sl | apply wp_pNo | apply wp_pAt | apply wp_rev | apply wp_eIf | apply wp_eAnd | apply wp_eOr | apply wp_eNot | apply wp_chain | apply wp_isi | apply wp_isi2 | apply wp_fn | apply wp_iOf | apply wp_iRng | apply wp_lc | apply wp_tup | apply wp_lst | apply wp_frz | apply ko_nx | apply ko_rt | apply kr_rt | apply kr_nx | apply ex_bool | apply ex_int) | ((with_reducible apply wp_eV); rfl) | ((with_reducible apply wp_eOv); rfl) | ((with_reducible apply wp_eOo); rfl) | ((with_reducible apply wp_st); rfl; decide) | ((with_reducible apply wp_stSet); rfl) | ((with_reducible apply wp_fnS); rfl) | ((with_reducible apply ex_some); rfl) | ((with_reducible apply ex_sb); rfl) | ((with_reducible apply br_t); rfl) | ((with_reducible apply br_f); rfl) | ((with_reducible apply ex_some (mulB ?hh)); case hh => decide +kernel) | ((with_reducible apply ex_some (mulA ?hh)); case hh => decide +kernel) | ((with_reducible apply ex_some (rngL ?hh)); case hh => decide +kernel) | (refine ⟨rfl, ?_⟩)))
    refine wp_tr (near3 ((k : Int) - 30) (by omega)) ok fun nt3 s' ok hnt3 => ?_
    (repeat (first | with_reducible (first | apply wp_seq | apply wp_sIf | apply wp_next | apply wp_ret | apply wp_set | apply wp_own | apply wp_par | apply wp_par3 | apply wp_asg | apply wp_for | apply wp_tVal | apply wp_tTru | apply wp_tAnd | apply wp_tOr | apply wp_tNot | apply wp_e2 | apply wp_e1 | apply wp_eC | apply wp_call | apply wp_cons | apply wp_nil | apply wp_mt | apply wp_sl | apply wp_pNo | apply wp_pAt | apply wp_rev | apply wp_eIf | apply wp_eAnd | apply wp_eOr | apply wp_eNot | apply wp_chain | apply wp_isi | apply wp_isi2 | apply wp_fn | apply wp_iOf | apply wp_iRng | apply wp_lc | apply wp_tup | apply wp_lst | apply wp_frz | apply ko_nx | apply ko_rt | apply kr_rt | apply kr_nx | apply ex_bool | apply ex_int) | ((with_reducible apply wp_eV); rfl) | ((with_reducible apply wp_eOv); rfl) | ((with_reducible apply wp_eOo); rfl) | ((with_reducible apply wp_st); rfl; decide) | ((with_reducible apply wp_stSet); rfl) | ((with_reducible apply wp_fnS); rfl) | ((with_reducible apply ex_some); rfl) | ((with_reducible apply ex_sb); rfl) | ((with_reducible apply br_t); rfl) | ((with_reducible apply br_f); rfl) | ((with_reducible apply ex_some (mulB ?hh)); case hh => decide +kernel) | ((with_reducible apply ex_some (mulA ?hh)); case hh => decide +kernel) | ((with_reducible apply ex_some (rngL ?hh)); case hh => decide +kernel) | (refine ⟨rfl, ?_⟩)))
    refine wp_eq ea (wp_pure ?_)
    (repeat (first | with_reducible (first | apply wp_seq | apply wp_sIf | apply wp_next | apply wp_ret | apply wp_set | apply wp_own | apply wp_par | apply wp_par3 | apply wp_asg | apply wp_for | apply wp_tVal | apply wp_tTru | apply wp_tAnd | apply wp_tOr | apply wp_tNot | apply wp_e2 | apply wp_e1 | apply wp_eC | apply wp_call | apply wp_cons | apply wp_nil | apply wp_mt | apply wp_sl | apply wp_pNo | apply wp_pAt | apply wp_rev | apply wp_eIf | apply wp_eAnd | apply wp_eOr | apply wp_eNot | apply wp_chain | apply wp_isi | apply wp_isi2 | apply wp_fn | apply wp_iOf | apply wp_iRng | apply wp_lc | apply wp_tup | apply wp_lst | apply wp_frz | apply ko_nx | apply ko_rt | apply kr_rt | apply kr_nx | apply ex_bool | apply ex_int) | ((with_reducible apply wp_eV); rfl) | ((with_reducible apply wp_eOv); rfl) | ((with_reducible apply wp_eOo); rfl) | ((with_reducible apply wp_st); rfl; decide) | ((with_reducible apply wp_stSet); rfl) | ((with_reducible apply wp_fnS); rfl) | ((with_reducible apply ex_some); rfl) | ((with_reducible apply ex_sb); rfl) | ((with_reducible apply br_t); rfl) | ((with_reducible apply br_f); rfl) | ((with_reducible apply ex_some (mulB ?hh)); case hh => decide +kernel) | ((with_reducible apply ex_some (mulA ?hh)); case hh => decide +kernel) | ((with_reducible apply ex_some (rngL ?hh)); case hh => decide +kernel) | (refine ⟨rfl, ?_⟩)))
    refine wp_eq ej (wp_pure ?_)
    (repeat (first | with_reducible (first | apply wp_seq | apply wp_sIf | apply wp_next | apply wp_ret | apply wp_set | apply wp_own | apply wp_par | apply wp_par3 | apply wp_asg | apply wp_for | apply wp_tVal | apply wp_tTru | apply wp_tAnd | apply wp_tOr | apply wp_tNot | apply wp_e2 | apply wp_e1 | apply wp_eC | apply wp_call | apply wp_cons | apply wp_nil | apply wp_mt | apply wp_sl | apply wp_pNo | apply wp_pAt | apply wp_rev | apply wp_eIf | apply wp_eAnd | apply wp_eOr | apply wp_eNot | apply wp_chain | apply wp_isi | apply wp_isi2 | apply wp_fn | apply wp_iOf | apply wp_iRng | apply wp_lc | apply wp_tup | apply wp_lst | apply wp_frz | apply ko_nx | apply ko_rt | apply kr_rt | apply kr_nx | apply ex_bool | apply ex_int) | ((with_reducible apply wp_eV); rfl) | ((with_reducible apply wp_eOv); rfl) | ((with_reducible apply wp_eOo); rfl) | ((with_reducible apply wp_st); rfl; decide) | ((with_reducible apply wp_stSet); rfl) | ((with_reducible apply wp_fnS); rfl) | ((with_reducible apply ex_some); rfl) | ((with_reducible apply ex_sb); rfl) | ((with_reducible apply br_t); rfl) | ((with_reducible apply br_f); rfl) | ((with_reducible apply ex_some (mulB ?hh)); case hh => decide +kernel) | ((with_reducible apply ex_some (mulA ?hh)); case hh => decide +kernel) | ((with_reducible apply ex_some (rngL ?hh)); case hh => decide +kernel) | (refine ⟨rfl, ?_⟩)))
    refine ex_some seen_add ?_
    simp only [List.set_cons_zero, List.set_cons_succ]
    have hs3 := h3.more hodd3 hnt3
    apply ko_nx
    refine wp_mono (wp_asks (kk := 9) (ka := 10) (kt := 7) (ks := 4) ok (by simp) (by simp) (by decide) (by decide) (by decide) (by decide) (by decide) (by decide) (by decide) rfl rfl rfl told_plain ((told_san (sg3_lt ha3)).mono (by omega) (Nat.le_refl 1)) (by decide) (by simp) hs3.all (by have := hs3.len; omega) fun i d hd => ?_) ?_
    · obtain ⟨b, hb1, hb2, _⟩ := hj3 d hd
      exact ⟨b, hb1, hb2⟩
    rintro o s' ⟨ok, vk3, va3, rfl⟩
    simp only [List.set_cons_zero, List.set_cons_succ]
    exact ⟨_, .inl rfl, ok, _, _, _, _, _, _, _, _, _, rfl, hs1, hs2, hs3⟩
  · rintro env s ⟨ok, s1, s2, s3, v5, v6, v7, v8, v9, v10, rfl, _⟩
    (repeat (first | with_reducible (first | apply wp_seq | apply wp_sIf | apply wp_next | apply wp_ret | apply wp_set | apply wp_own | apply wp_par | apply wp_par3 | apply wp_asg | apply wp_for | apply wp_tVal | apply wp_tTru | apply wp_tAnd | apply wp_tOr | apply wp_tNot | apply wp_e2 | apply wp_e1 | apply wp_eC | apply wp_call | apply wp_cons | apply wp_nil | apply wp_mt | apply wp_sl | apply wp_pNo | apply wp_pAt | apply wp_rev | apply wp_eIf | apply wp_eAnd | apply wp_eOr | apply wp_eNot | apply wp_chain | apply wp_isi | apply wp_isi2 | apply wp_fn | apply wp_iOf | apply wp_iRng | apply wp_lc | apply wp_tup | apply wp_lst | apply wp_frz | apply ko_nx | apply ko_rt | apply kr_rt | apply kr_nx | apply ex_bool | apply ex_int) | ((with_reducible apply wp_eV); rfl) | ((with_reducible apply wp_eOv); rfl) | ((with_reducible apply wp_eOo); rfl) | ((with_reducible apply wp_st); rfl; decide) | ((with_reducible apply wp_stSet); rfl) | ((with_reducible apply wp_fnS); rfl) | ((with_reducible apply ex_some); rfl) | ((with_reducible apply ex_sb); rfl) | ((with_reducible apply br_t); rfl) | ((with_reducible apply br_f); rfl) | ((with_reducible apply ex_some (mulB ?hh)); case hh => decide +kernel) | ((with_reducible apply ex_some (mulA ?hh)); case hh => decide +kernel) | ((with_reducible apply ex_some (rngL ?hh)); case hh => decide +kernel) | (refine ⟨rfl, ?_⟩)))
    rfl
end DL.L81

/-! law 81: the end (printed by gen.py) -/
namespace DL.L81
open PySem PySem.Spec PyProof.Rows L2 DL
section
variable {P : Program} {w : PySem.World}
set_option maxHeartbeats 8000000 in
theorem all_mk {K : Fg} {h : Heap} {mg : Str → Option Value} {fa : Addr} (X : K.In h) (G : h.Ns mainGlobals mg) (hfa : mg "law" = some (.ref fa)) {cU cW f0 f1 f2 f3 f4 f5 f6 f7 f8 f9 f10 f11 f12 f13 f14 f15 f16 f17 f18 f19 f20 f21 f22 f23 f24 f25 f26 f27 f28 f29 : Addr} {od0 an0 od1 an1 od2 an2 od3 an3 od4 an4 od5 an5 od6 an6 od7 an7 od8 an8 od9 an9 od10 an10 od11 an11 od12 an12 od13 an13 od14 an14 od15 an15 od16 an16 od17 an17 od18 an18 od19 an19 od20 an20 od21 an21 od22 an22 od23 an23 od24 an24 od25 an25 od26 an26 od27 an27 od28 an28 od29 an29 : Option Addr} {sl0 sl1 sl2 sl3 sl4 sl5 sl6 sl7 sl8 sl9 sl10 sl11 sl12 sl13 sl14 sl15 sl16 sl17 sl18 sl19 sl20 sl21 sl22 sl23 sl24 sl25 sl26 sl27 sl28 sl29 : Array (Option Value)} {oc0 kV0 dc0 pm0 cd0 ct0 oc1 kV1 dc1 pm1 cd1 ct1 oc2 kV2 dc2 pm2 cd2 ct2 oc3 kV3 dc3 pm3 cd3 ct3 oc4 kV4 dc4 pm4 cd4 ct4 oc5 kV5 dc5 pm5 cd5 ct5 oc6 kV6 dc6 pm6 cd6 ct6 oc7 kV7 dc7 pm7 cd7 ct7 oc8 kV8 dc8 pm8 cd8 ct8 oc9 kV9 dc9 pm9 cd9 ct9 oc10 kV10 dc10 pm10 cd10 ct10 oc11 kV11 dc11 pm11 cd11 ct11 oc12 kV12 dc12 pm12 cd12 ct12 oc13 kV13 dc13 pm13 cd13 ct13 oc14 kV14 dc14 pm14 cd14 ct14 oc15 kV15 dc15 pm15 cd15 ct15 oc16 kV16 dc16 pm16 cd16 ct16 oc17 kV17 dc17 pm17 cd17 ct17 oc18 kV18 dc18 pm18 cd18 ct18 oc19 kV19 dc19 pm19 cd19 ct19 oc20 kV20 dc20 pm20 cd20 ct20 oc21 kV21 dc21 pm21 cd21 ct21 oc22 kV22 dc22 pm22 cd22 ct22 oc23 kV23 dc23 pm23 cd23 ct23 oc24 kV24 dc24 pm24 cd24 ct24 oc25 kV25 dc25 pm25 cd25 ct25 oc26 kV26 dc26 pm26 cd26 ct26 oc27 kV27 dc27 pm27 cd27 ct27 oc28 kV28 dc28 pm28 cd28 ct28 oc29 kV29 dc29 pm29 cd29 ct29 : Value} {t_MOST_NUMBER : Tok}
    (b0 : PySem.W.nsIn K mainGlobals "isinstance" = some none)
    (b1 : PySem.W.nsIn K mainGlobals "int" = some none)
    (b2 : PySem.W.nsIn K mainGlobals "str" = some none)
    (b3 : PySem.W.nsIn K mainGlobals "tuple" = some none)
    (b4 : PySem.W.nsIn K mainGlobals "bool" = some none)
    (b5 : PySem.W.nsIn K mainGlobals "list" = some none)
    (b6 : PySem.W.nsIn K mainGlobals "dict" = some none)
    (b7 : PySem.W.nsIn K mainGlobals "set" = some none)
    (b8 : PySem.W.nsIn K mainGlobals "len" = some none)
    (b9 : PySem.W.nsIn K mainGlobals "abs" = some none)
    (b10 : PySem.W.nsIn K mainGlobals "max" = some none)
    (b11 : PySem.W.nsIn K mainGlobals "min" = some none)
    (b12 : PySem.W.nsIn K mainGlobals "sum" = some none)
    (b13 : PySem.W.nsIn K mainGlobals "range" = some none)
    (b14 : PySem.W.nsIn K mainGlobals "sorted" = some none)
    (b15 : PySem.W.nsIn K mainGlobals "zip" = some none)
    (b16 : PySem.W.nsIn K mainGlobals "enumerate" = some none)
    (b17 : PySem.W.nsIn K mainGlobals "repr" = some none)
    (b18 : PySem.W.nsIn K mainGlobals "ValueError" = some none)
    (b19 : PySem.W.nsIn K mainGlobals "reversed" = some none)
    (b20 : PySem.W.nsIn K mainGlobals "any" = some none)
    (b21 : PySem.W.nsIn K mainGlobals "all" = some none)
    (b22 : PySem.W.nsIn K mainGlobals "ord" = some none)
    (b23 : PySem.W.nsIn K mainGlobals "chr" = some none)
    (b24 : PySem.W.nsIn K mainGlobals "divmod" = some none)
    (ugC : PySem.W.nsIn K mainGlobals "UnfitText" = some (some (.ref cU)))
    (uxC : PySem.W.excIn K cU [.type "ValueError", .type "Exception", .type "BaseException", .type "object"] "ValueError.__new__" = true)
    (ukC : PySem.W.keepIn K (.ref cU) = true)
    (ubC : PySem.W.subIn K (.ref cU) (.type "BaseException") = some true)
    (utC : PySem.W.typeIn K (.ref cU) = some (.type "type"))
    (uhg : PySem.W.findIn K (.ref cU) "__getattribute__" = some (some (.builtin "BaseException.__getattribute__")))
    (uhk : PySem.W.findIn K (.ref cU) "__getattr__" = some none)
    (uhd : PySem.W.hasDictIn K cU = true)
    (uha : PySem.W.findIn K (.ref cU) "__class__" = some (some (.builtin "object.__class__")))
    (uhn : PySem.W.specialIn K (.builtin "object.__class__") "__get__" = some (some (.builtin "getset_descriptor.__get__")))
    (uht : PySem.W.takesIn K (.builtin "object.__class__") = some true)
    (uhm : PySem.W.mroIn K cU (.type "object") = some true)
    (ukv : PySem.W.kitOne K (.ref cU) (.type "ValueError") = some true)
    (vgC : PySem.W.nsIn K mainGlobals "TooWide" = some (some (.ref cW)))
    (vxC : PySem.W.excIn K cW [.type "ValueError", .type "Exception", .type "BaseException", .type "object"] "ValueError.__new__" = true)
    (vkC : PySem.W.keepIn K (.ref cW) = true)
    (vbC : PySem.W.subIn K (.ref cW) (.type "BaseException") = some true)
    (vtC : PySem.W.typeIn K (.ref cW) = some (.type "type"))
    (vhg : PySem.W.findIn K (.ref cW) "__getattribute__" = some (some (.builtin "BaseException.__getattribute__")))
    (vhk : PySem.W.findIn K (.ref cW) "__getattr__" = some none)
    (vhd : PySem.W.hasDictIn K cW = true)
    (vha : PySem.W.findIn K (.ref cW) "__class__" = some (some (.builtin "object.__class__")))
    (vhn : PySem.W.specialIn K (.builtin "object.__class__") "__get__" = some (some (.builtin "getset_descriptor.__get__")))
    (vht : PySem.W.takesIn K (.builtin "object.__class__") = some true)
    (vhm : PySem.W.mroIn K cW (.type "object") = some true)
    (vkv : PySem.W.kitOne K (.ref cW) (.type "ValueError") = some true)
    (suu : PySem.W.subIn K (.ref cU) (.ref cU) = some true)
    (swu : PySem.W.subIn K (.ref cW) (.ref cU) = some false)
    (sww : PySem.W.subIn K (.ref cW) (.ref cW) = some true)
    (q_MOST_NUMBER : PySem.W.nsIn K mainGlobals "MOST_NUMBER" = some (some (.int 1000000 t_MOST_NUMBER)))
    (a0 : PySem.W.nsIn K mainGlobals "is_whole" = some (some (.ref f0)))
    (l0 : K.lookup f0 = some ⟨oc0, od0, .func (PySem.W.fnOf "is_whole" "is_whole" (defArgs s_is_whole) (defBody s_is_whole) (defScope s_is_whole) .none kV0 dc0 pm0 an0 cd0 ct0), sl0⟩)
    (c0 : PySem.W.codeIn K cd0 "is_whole" = true)
    (k0 : PySem.W.keepIn K (.ref f0) = true)
    (a1 : PySem.W.nsIn K mainGlobals "is_told" = some (some (.ref f1)))
    (l1 : K.lookup f1 = some ⟨oc1, od1, .func (PySem.W.fnOf "is_told" "is_told" (defArgs s_is_told) (defBody s_is_told) (defScope s_is_told) .none kV1 dc1 pm1 an1 cd1 ct1), sl1⟩)
    (c1 : PySem.W.codeIn K cd1 "is_told" = true)
    (k1 : PySem.W.keepIn K (.ref f1) = true)
    (a2 : PySem.W.nsIn K mainGlobals "in_steps" = some (some (.ref f2)))
    (l2 : K.lookup f2 = some ⟨oc2, od2, .func (PySem.W.fnOf "in_steps" "in_steps" (defArgs s_in_steps) (defBody s_in_steps) (defScope s_in_steps) .none kV2 dc2 pm2 an2 cd2 ct2), sl2⟩)
    (c2 : PySem.W.codeIn K cd2 "in_steps" = true)
    (k2 : PySem.W.keepIn K (.ref f2) = true)
    (a3 : PySem.W.nsIn K mainGlobals "judge_in_steps" = some (some (.ref f3)))
    (l3 : K.lookup f3 = some ⟨oc3, od3, .func (PySem.W.fnOf "judge_in_steps" "judge_in_steps" (defArgs s_judge_in_steps) (defBody s_judge_in_steps) (defScope s_judge_in_steps) .none kV3 dc3 pm3 an3 cd3 ct3), sl3⟩)
    (c3 : PySem.W.codeIn K cd3 "judge_in_steps" = true)
    (k3 : PySem.W.keepIn K (.ref f3) = true)
    (a4 : PySem.W.nsIn K mainGlobals "in_orders" = some (some (.ref f4)))
    (l4 : K.lookup f4 = some ⟨oc4, od4, .func (PySem.W.fnOf "in_orders" "in_orders" (defArgs s_in_orders) (defBody s_in_orders) (defScope s_in_orders) .none kV4 dc4 pm4 an4 cd4 ct4), sl4⟩)
    (c4 : PySem.W.codeIn K cd4 "in_orders" = true)
    (k4 : PySem.W.keepIn K (.ref f4) = true)
    (a5 : PySem.W.nsIn K mainGlobals "judge_in_orders" = some (some (.ref f5)))
    (l5 : K.lookup f5 = some ⟨oc5, od5, .func (PySem.W.fnOf "judge_in_orders" "judge_in_orders" (defArgs s_judge_in_orders) (defBody s_judge_in_orders) (defScope s_judge_in_orders) .none kV5 dc5 pm5 an5 cd5 ct5), sl5⟩)
    (c5 : PySem.W.codeIn K cd5 "judge_in_orders" = true)
    (k5 : PySem.W.keepIn K (.ref f5) = true)
    (a6 : PySem.W.nsIn K mainGlobals "in_signs" = some (some (.ref f6)))
    (l6 : K.lookup f6 = some ⟨oc6, od6, .func (PySem.W.fnOf "in_signs" "in_signs" (defArgs s_in_signs) (defBody s_in_signs) (defScope s_in_signs) .none kV6 dc6 pm6 an6 cd6 ct6), sl6⟩)
    (c6 : PySem.W.codeIn K cd6 "in_signs" = true)
    (k6 : PySem.W.keepIn K (.ref f6) = true)
    (a7 : PySem.W.nsIn K mainGlobals "judge_in_signs" = some (some (.ref f7)))
    (l7 : K.lookup f7 = some ⟨oc7, od7, .func (PySem.W.fnOf "judge_in_signs" "judge_in_signs" (defArgs s_judge_in_signs) (defBody s_judge_in_signs) (defScope s_judge_in_signs) .none kV7 dc7 pm7 an7 cd7 ct7), sl7⟩)
    (c7 : PySem.W.codeIn K cd7 "judge_in_signs" = true)
    (k7 : PySem.W.keepIn K (.ref f7) = true)
    (a8 : PySem.W.nsIn K mainGlobals "_law_next" = some (some (.ref f8)))
    (l8 : K.lookup f8 = some ⟨oc8, od8, .func (PySem.W.fnOf "_law_next" "_law_next" (defArgs s_law_next) (defBody s_law_next) (defScope s_law_next) .none kV8 dc8 pm8 an8 cd8 ct8), sl8⟩)
    (c8 : PySem.W.codeIn K cd8 "_law_next" = true)
    (k8 : PySem.W.keepIn K (.ref f8) = true)
    (a9 : PySem.W.nsIn K mainGlobals "_law_same" = some (some (.ref f9)))
    (l9 : K.lookup f9 = some ⟨oc9, od9, .func (PySem.W.fnOf "_law_same" "_law_same" (defArgs s_law_same) (defBody s_law_same) (defScope s_law_same) .none kV9 dc9 pm9 an9 cd9 ct9), sl9⟩)
    (c9 : PySem.W.codeIn K cd9 "_law_same" = true)
    (k9 : PySem.W.keepIn K (.ref f9) = true)
    (a10 : PySem.W.nsIn K mainGlobals "_law_is_whole" = some (some (.ref f10)))
    (l10 : K.lookup f10 = some ⟨oc10, od10, .func (PySem.W.fnOf "_law_is_whole" "_law_is_whole" (defArgs s_law_is_whole) (defBody s_law_is_whole) (defScope s_law_is_whole) .none kV10 dc10 pm10 an10 cd10 ct10), sl10⟩)
    (c10 : PySem.W.codeIn K cd10 "_law_is_whole" = true)
    (k10 : PySem.W.keepIn K (.ref f10) = true)
    (a11 : PySem.W.nsIn K mainGlobals "_law_are_wholes" = some (some (.ref f11)))
    (l11 : K.lookup f11 = some ⟨oc11, od11, .func (PySem.W.fnOf "_law_are_wholes" "_law_are_wholes" (defArgs s_law_are_wholes) (defBody s_law_are_wholes) (defScope s_law_are_wholes) .none kV11 dc11 pm11 an11 cd11 ct11), sl11⟩)
    (c11 : PySem.W.codeIn K cd11 "_law_are_wholes" = true)
    (k11 : PySem.W.keepIn K (.ref f11) = true)
    (a12 : PySem.W.nsIn K mainGlobals "_law_is" = some (some (.ref f12)))
    (l12 : K.lookup f12 = some ⟨oc12, od12, .func (PySem.W.fnOf "_law_is" "_law_is" (defArgs s_law_is) (defBody s_law_is) (defScope s_law_is) .none kV12 dc12 pm12 an12 cd12 ct12), sl12⟩)
    (c12 : PySem.W.codeIn K cd12 "_law_is" = true)
    (k12 : PySem.W.keepIn K (.ref f12) = true)
    (a13 : PySem.W.nsIn K mainGlobals "_law_changed" = some (some (.ref f13)))
    (l13 : K.lookup f13 = some ⟨oc13, od13, .func (PySem.W.fnOf "_law_changed" "_law_changed" (defArgs s_law_changed) (defBody s_law_changed) (defScope s_law_changed) .none kV13 dc13 pm13 an13 cd13 ct13), sl13⟩)
    (c13 : PySem.W.codeIn K cd13 "_law_changed" = true)
    (k13 : PySem.W.keepIn K (.ref f13) = true)
    (a14 : PySem.W.nsIn K mainGlobals "_law_ints" = some (some (.ref f14)))
    (l14 : K.lookup f14 = some ⟨oc14, od14, .func (PySem.W.fnOf "_law_ints" "_law_ints" (defArgs s_law_ints) (defBody s_law_ints) (defScope s_law_ints) .none kV14 dc14 pm14 an14 cd14 ct14), sl14⟩)
    (c14 : PySem.W.codeIn K cd14 "_law_ints" = true)
    (k14 : PySem.W.keepIn K (.ref f14) = true)
    (a15 : PySem.W.nsIn K mainGlobals "_law_exchanged" = some (some (.ref f15)))
    (l15 : K.lookup f15 = some ⟨oc15, od15, .func (PySem.W.fnOf "_law_exchanged" "_law_exchanged" (defArgs s_law_exchanged) (defBody s_law_exchanged) (defScope s_law_exchanged) .none kV15 dc15 pm15 an15 cd15 ct15), sl15⟩)
    (c15 : PySem.W.codeIn K cd15 "_law_exchanged" = true)
    (k15 : PySem.W.keepIn K (.ref f15) = true)
    (a16 : PySem.W.nsIn K mainGlobals "_law_cut" = some (some (.ref f16)))
    (l16 : K.lookup f16 = some ⟨oc16, od16, .func (PySem.W.fnOf "_law_cut" "_law_cut" (defArgs s_law_cut) (defBody s_law_cut) (defScope s_law_cut) .none kV16 dc16 pm16 an16 cd16 ct16), sl16⟩)
    (c16 : PySem.W.codeIn K cd16 "_law_cut" = true)
    (k16 : PySem.W.keepIn K (.ref f16) = true)
    (a17 : PySem.W.nsIn K mainGlobals "_law_turned_about" = some (some (.ref f17)))
    (l17 : K.lookup f17 = some ⟨oc17, od17, .func (PySem.W.fnOf "_law_turned_about" "_law_turned_about" (defArgs s_law_turned_about) (defBody s_law_turned_about) (defScope s_law_turned_about) .none kV17 dc17 pm17 an17 cd17 ct17), sl17⟩)
    (c17 : PySem.W.codeIn K cd17 "_law_turned_about" = true)
    (k17 : PySem.W.keepIn K (.ref f17) = true)
    (a18 : PySem.W.nsIn K mainGlobals "_law_odd" = some (some (.ref f18)))
    (l18 : K.lookup f18 = some ⟨oc18, od18, .func (PySem.W.fnOf "_law_odd" "_law_odd" (defArgs s_law_odd) (defBody s_law_odd) (defScope s_law_odd) .none kV18 dc18 pm18 an18 cd18 ct18), sl18⟩)
    (c18 : PySem.W.codeIn K cd18 "_law_odd" = true)
    (k18 : PySem.W.keepIn K (.ref f18) = true)
    (a19 : PySem.W.nsIn K mainGlobals "_law_is_text" = some (some (.ref f19)))
    (l19 : K.lookup f19 = some ⟨oc19, od19, .func (PySem.W.fnOf "_law_is_text" "_law_is_text" (defArgs s_law_is_text) (defBody s_law_is_text) (defScope s_law_is_text) .none kV19 dc19 pm19 an19 cd19 ct19), sl19⟩)
    (c19 : PySem.W.codeIn K cd19 "_law_is_text" = true)
    (k19 : PySem.W.keepIn K (.ref f19) = true)
    (a20 : PySem.W.nsIn K mainGlobals "_law_neighbour" = some (some (.ref f20)))
    (l20 : K.lookup f20 = some ⟨oc20, od20, .func (PySem.W.fnOf "_law_neighbour" "_law_neighbour" (defArgs s_law_neighbour) (defBody s_law_neighbour) (defScope s_law_neighbour) .none kV20 dc20 pm20 an20 cd20 ct20), sl20⟩)
    (c20 : PySem.W.codeIn K cd20 "_law_neighbour" = true)
    (k20 : PySem.W.keepIn K (.ref f20) = true)
    (a21 : PySem.W.nsIn K mainGlobals "_law_accepts" = some (some (.ref f21)))
    (l21 : K.lookup f21 = some ⟨oc21, od21, .func (PySem.W.fnOf "_law_accepts" "_law_accepts" (defArgs s_law_accepts) (defBody s_law_accepts) (defScope s_law_accepts) .none kV21 dc21 pm21 an21 cd21 ct21), sl21⟩)
    (c21 : PySem.W.codeIn K cd21 "_law_accepts" = true)
    (k21 : PySem.W.keepIn K (.ref f21) = true)
    (a22 : PySem.W.nsIn K mainGlobals "_law_told_near" = some (some (.ref f22)))
    (l22 : K.lookup f22 = some ⟨oc22, od22, .func (PySem.W.fnOf "_law_told_near" "_law_told_near" (defArgs s_law_told_near) (defBody s_law_told_near) (defScope s_law_told_near) .none kV22 dc22 pm22 an22 cd22 ct22), sl22⟩)
    (c22 : PySem.W.codeIn K cd22 "_law_told_near" = true)
    (k22 : PySem.W.keepIn K (.ref f22) = true)
    (a23 : PySem.W.nsIn K mainGlobals "_law_unfit" = some (some (.ref f23)))
    (l23 : K.lookup f23 = some ⟨oc23, od23, .func (PySem.W.fnOf "_law_unfit" "_law_unfit" (defArgs s_law_unfit) (defBody s_law_unfit) (defScope s_law_unfit) .none kV23 dc23 pm23 an23 cd23 ct23), sl23⟩)
    (c23 : PySem.W.codeIn K cd23 "_law_unfit" = true)
    (k23 : PySem.W.keepIn K (.ref f23) = true)
    (a24 : PySem.W.nsIn K mainGlobals "_law_accepts_too" = some (some (.ref f24)))
    (l24 : K.lookup f24 = some ⟨oc24, od24, .func (PySem.W.fnOf "_law_accepts_too" "_law_accepts_too" (defArgs s_law_accepts_too) (defBody s_law_accepts_too) (defScope s_law_accepts_too) .none kV24 dc24 pm24 an24 cd24 ct24), sl24⟩)
    (c24 : PySem.W.codeIn K cd24 "_law_accepts_too" = true)
    (k24 : PySem.W.keepIn K (.ref f24) = true)
    (a25 : PySem.W.nsIn K mainGlobals "_law_told_near_too" = some (some (.ref f25)))
    (l25 : K.lookup f25 = some ⟨oc25, od25, .func (PySem.W.fnOf "_law_told_near_too" "_law_told_near_too" (defArgs s_law_told_near_too) (defBody s_law_told_near_too) (defScope s_law_told_near_too) .none kV25 dc25 pm25 an25 cd25 ct25), sl25⟩)
    (c25 : PySem.W.codeIn K cd25 "_law_told_near_too" = true)
    (k25 : PySem.W.keepIn K (.ref f25) = true)
    (a26 : PySem.W.nsIn K mainGlobals "_law_unfit_too" = some (some (.ref f26)))
    (l26 : K.lookup f26 = some ⟨oc26, od26, .func (PySem.W.fnOf "_law_unfit_too" "_law_unfit_too" (defArgs s_law_unfit_too) (defBody s_law_unfit_too) (defScope s_law_unfit_too) .none kV26 dc26 pm26 an26 cd26 ct26), sl26⟩)
    (c26 : PySem.W.codeIn K cd26 "_law_unfit_too" = true)
    (k26 : PySem.W.keepIn K (.ref f26) = true)
    (a27 : PySem.W.nsIn K mainGlobals "_law_accepts_three" = some (some (.ref f27)))
    (l27 : K.lookup f27 = some ⟨oc27, od27, .func (PySem.W.fnOf "_law_accepts_three" "_law_accepts_three" (defArgs s_law_accepts_three) (defBody s_law_accepts_three) (defScope s_law_accepts_three) .none kV27 dc27 pm27 an27 cd27 ct27), sl27⟩)
    (c27 : PySem.W.codeIn K cd27 "_law_accepts_three" = true)
    (k27 : PySem.W.keepIn K (.ref f27) = true)
    (a28 : PySem.W.nsIn K mainGlobals "_law_told_near_three" = some (some (.ref f28)))
    (l28 : K.lookup f28 = some ⟨oc28, od28, .func (PySem.W.fnOf "_law_told_near_three" "_law_told_near_three" (defArgs s_law_told_near_three) (defBody s_law_told_near_three) (defScope s_law_told_near_three) .none kV28 dc28 pm28 an28 cd28 ct28), sl28⟩)
    (c28 : PySem.W.codeIn K cd28 "_law_told_near_three" = true)
    (k28 : PySem.W.keepIn K (.ref f28) = true)
    (a29 : PySem.W.nsIn K mainGlobals "law" = some (some (.ref f29)))
    (l29 : K.lookup f29 = some ⟨oc29, od29, .func (PySem.W.fnOf "law" "law" (defArgs s_law) (defBody s_law) (defScope s_law) .none kV29 dc29 pm29 an29 cd29 ct29), sl29⟩)
    (c29 : PySem.W.codeIn K cd29 "law" = true)
    (k29 : PySem.W.keepIn K (.ref f29) = true)
    : ∃ fd : FuncData, (∀ (s : Shared) (u : Value), BindsTo s fd ⟨[u], []⟩ [("script", u)]) ∧ ∀ base : Heap, K.In base → base.Ns mainGlobals mg → FnOk P w K mg base (L2.CX P w) 17 fa fd ["script"] (spLaw K) := by
  have e := hfa.symm.trans (PySem.W.mg_of X G a29)
  cases e
  have B : ∀ x, isBlt x = true → mg x = none := fun x hx => by
    have hx := List.contains_iff_mem.mp hx
    simp only [bltNames, List.mem_cons, List.not_mem_nil, or_false] at hx
    rcases hx with h | h | h | h | h | h | h | h | h | h | h | h | h | h | h | h | h | h | h | h | h | h | h | h | h
    · subst h; exact PySem.W.mg_none_of X G b0
    · subst h; exact PySem.W.mg_none_of X G b1
    · subst h; exact PySem.W.mg_none_of X G b2
    · subst h; exact PySem.W.mg_none_of X G b3
    · subst h; exact PySem.W.mg_none_of X G b4
    · subst h; exact PySem.W.mg_none_of X G b5
    · subst h; exact PySem.W.mg_none_of X G b6
    · subst h; exact PySem.W.mg_none_of X G b7
    · subst h; exact PySem.W.mg_none_of X G b8
    · subst h; exact PySem.W.mg_none_of X G b9
    · subst h; exact PySem.W.mg_none_of X G b10
    · subst h; exact PySem.W.mg_none_of X G b11
    · subst h; exact PySem.W.mg_none_of X G b12
    · subst h; exact PySem.W.mg_none_of X G b13
    · subst h; exact PySem.W.mg_none_of X G b14
    · subst h; exact PySem.W.mg_none_of X G b15
    · subst h; exact PySem.W.mg_none_of X G b16
    · subst h; exact PySem.W.mg_none_of X G b17
    · subst h; exact PySem.W.mg_none_of X G b18
    · subst h; exact PySem.W.mg_none_of X G b19
    · subst h; exact PySem.W.mg_none_of X G b20
    · subst h; exact PySem.W.mg_none_of X G b21
    · subst h; exact PySem.W.mg_none_of X G b22
    · subst h; exact PySem.W.mg_none_of X G b23
    · subst h; exact PySem.W.mg_none_of X G b24
  have E : Exs K mg (evOf cU cW) cU cW := ⟨⟨⟨PySem.W.mg_of X G ugC, uxC, ukC, ubC, utC⟩, ⟨uhg, uhk, ubC, uhd, uha, uhn, uht, uhm⟩, ukv⟩, ⟨⟨PySem.W.mg_of X G vgC, vxC, vkC, vbC, vtC⟩, ⟨vhg, vhk, vbC, vhd, vha, vhn, vht, vhm⟩, vkv⟩, rfl, rfl, PySem.W.exm_ref ubC uhd utC suu, PySem.W.exm_ref ubC uhd utC swu, PySem.W.exm_ref vbC vhd vtC sww⟩
  have T : Txt K mg cU cW := {
    b := B,
    exs := E,
    d_is_whole := defAt_mk (st := s_is_whole) X G a0 l0 c0 k0 (fun _ _ _ _ _ _ us hl => match us, hl with | [_], _ => rfl),
    d_is_told := defAt_mk (st := s_is_told) X G a1 l1 c1 k1 (fun _ _ _ _ _ _ us hl => match us, hl with | [_, _, _], _ => rfl),
    d_in_steps := defAt_mk (st := s_in_steps) X G a2 l2 c2 k2 (fun _ _ _ _ _ _ us hl => match us, hl with | [_], _ => rfl),
    d_judge_in_steps := defAt_mk (st := s_judge_in_steps) X G a3 l3 c3 k3 (fun _ _ _ _ _ _ us hl => match us, hl with | [_, _], _ => rfl),
    d_in_orders := defAt_mk (st := s_in_orders) X G a4 l4 c4 k4 (fun _ _ _ _ _ _ us hl => match us, hl with | [_], _ => rfl),
    d_judge_in_orders := defAt_mk (st := s_judge_in_orders) X G a5 l5 c5 k5 (fun _ _ _ _ _ _ us hl => match us, hl with | [_, _], _ => rfl),
    d_in_signs := defAt_mk (st := s_in_signs) X G a6 l6 c6 k6 (fun _ _ _ _ _ _ us hl => match us, hl with | [_], _ => rfl),
    d_judge_in_signs := defAt_mk (st := s_judge_in_signs) X G a7 l7 c7 k7 (fun _ _ _ _ _ _ us hl => match us, hl with | [_, _], _ => rfl),
    d_law_next := defAt_mk (st := s_law_next) X G a8 l8 c8 k8 (fun _ _ _ _ _ _ us hl => match us, hl with | [_, _], _ => rfl),
    d_law_same := defAt_mk (st := s_law_same) X G a9 l9 c9 k9 (fun _ _ _ _ _ _ us hl => match us, hl with | [_, _], _ => rfl),
    d_law_is_whole := defAt_mk (st := s_law_is_whole) X G a10 l10 c10 k10 (fun _ _ _ _ _ _ us hl => match us, hl with | [_], _ => rfl),
    d_law_are_wholes := defAt_mk (st := s_law_are_wholes) X G a11 l11 c11 k11 (fun _ _ _ _ _ _ us hl => match us, hl with | [_, _], _ => rfl),
    d_law_is := defAt_mk (st := s_law_is) X G a12 l12 c12 k12 (fun _ _ _ _ _ _ us hl => match us, hl with | [_, _, _], _ => rfl),
    d_law_changed := defAt_mk (st := s_law_changed) X G a13 l13 c13 k13 (fun _ _ _ _ _ _ us hl => match us, hl with | [_, _], _ => rfl),
    d_law_ints := defAt_mk (st := s_law_ints) X G a14 l14 c14 k14 (fun _ _ _ _ _ _ us hl => match us, hl with | [_], _ => rfl),
    d_law_exchanged := defAt_mk (st := s_law_exchanged) X G a15 l15 c15 k15 (fun _ _ _ _ _ _ us hl => match us, hl with | [_, _, _], _ => rfl),
    d_law_cut := defAt_mk (st := s_law_cut) X G a16 l16 c16 k16 (fun _ _ _ _ _ _ us hl => match us, hl with | [_, _], _ => rfl),
    d_law_turned_about := defAt_mk (st := s_law_turned_about) X G a17 l17 c17 k17 (fun _ _ _ _ _ _ us hl => match us, hl with | [_, _], _ => rfl),
    d_law_odd := defAt_mk (st := s_law_odd) X G a18 l18 c18 k18 (fun _ _ _ _ _ _ us hl => match us, hl with | [_, _], _ => rfl),
    d_law_is_text := defAt_mk (st := s_law_is_text) X G a19 l19 c19 k19 (fun _ _ _ _ _ _ us hl => match us, hl with | [_], _ => rfl),
    d_law_neighbour := defAt_mk (st := s_law_neighbour) X G a20 l20 c20 k20 (fun _ _ _ _ _ _ us hl => match us, hl with | [_, _], _ => rfl),
    d_law_accepts := defAt_mk (st := s_law_accepts) X G a21 l21 c21 k21 (fun _ _ _ _ _ _ us hl => match us, hl with | [_, _], _ => rfl),
    d_law_told_near := defAt_mk (st := s_law_told_near) X G a22 l22 c22 k22 (fun _ _ _ _ _ _ us hl => match us, hl with | [_, _], _ => rfl),
    d_law_unfit := defAt_mk (st := s_law_unfit) X G a23 l23 c23 k23 (fun _ _ _ _ _ _ us hl => match us, hl with | [_], _ => rfl),
    d_law_accepts_too := defAt_mk (st := s_law_accepts_too) X G a24 l24 c24 k24 (fun _ _ _ _ _ _ us hl => match us, hl with | [_, _], _ => rfl),
    d_law_told_near_too := defAt_mk (st := s_law_told_near_too) X G a25 l25 c25 k25 (fun _ _ _ _ _ _ us hl => match us, hl with | [_, _], _ => rfl),
    d_law_unfit_too := defAt_mk (st := s_law_unfit_too) X G a26 l26 c26 k26 (fun _ _ _ _ _ _ us hl => match us, hl with | [_], _ => rfl),
    d_law_accepts_three := defAt_mk (st := s_law_accepts_three) X G a27 l27 c27 k27 (fun _ _ _ _ _ _ us hl => match us, hl with | [_, _], _ => rfl),
    d_law_told_near_three := defAt_mk (st := s_law_told_near_three) X G a28 l28 c28 k28 (fun _ _ _ _ _ _ us hl => match us, hl with | [_, _], _ => rfl),
    c_MOST_NUMBER := ⟨_, PySem.W.mg_of X G q_MOST_NUMBER⟩ }
  have F := fun_mk (st := s_law) l29 c29 k29
  exact ⟨_, fun s u => .of_eq rfl, fun base _ _ => ok_law T F good⟩
end
end DL.L81
open PySem PySem.W PyProof.Rows
set_option maxRecDepth 100000 in
set_option maxHeartbeats 0 in
theorem PySem.Challenge.cw_textwhole_k81_numbers_by_sums_holds : PySem.Challenge.rw_textwhole_k81_numbers_by_sums.Holds := by
  w_on; o_law; k_head; (case hw => w_witness2)
  k_fill
  refine L2.walk_of (l := PySem.Challenge.rw_textwhole_k81_numbers_by_sums) (n := 63) (k := 17) (x := "script") (CX := fun w => L2.CX PySem.Challenge.pw_textwhole_k81_numbers_by_sums w) (sp := fun w => DL.spLaw _) rfl (by decide) rfl ⟨rfl, by decide, by decide⟩ (fun w h Y => PySem.W.kIn_of Y) ?F (fun _ _ a ns hl _ hS => ⟨a, ns, rfl, hS, hl, fun _ => rfl⟩) (fun _ _ _ _ _ ⟨_, _, _, _, _, _, _, _, _, _, _, _, z⟩ => z)
  case F =>
    intro w mg fa h KX G hmg
    refine' DL.L81.all_mk KX G hmg ?b0 ?b1 ?b2 ?b3 ?b4 ?b5 ?b6 ?b7 ?b8 ?b9 ?b10 ?b11 ?b12 ?b13 ?b14 ?b15 ?b16 ?b17 ?b18 ?b19 ?b20 ?b21 ?b22 ?b23 ?b24 ?ugC ?uxC ?ukC ?ubC ?utC ?uhg ?uhk ?uhd ?uha ?uhn ?uht ?uhm ?ukv ?vgC ?vxC ?vkC ?vbC ?vtC ?vhg ?vhk ?vhd ?vha ?vhn ?vht ?vhm ?vkv ?suu ?swu ?sww ?q_MOST_NUMBER ?a0 ?l0 ?c0 ?k0 ?a1 ?l1 ?c1 ?k1 ?a2 ?l2 ?c2 ?k2 ?a3 ?l3 ?c3 ?k3 ?a4 ?l4 ?c4 ?k4 ?a5 ?l5 ?c5 ?k5 ?a6 ?l6 ?c6 ?k6 ?a7 ?l7 ?c7 ?k7 ?a8 ?l8 ?c8 ?k8 ?a9 ?l9 ?c9 ?k9 ?a10 ?l10 ?c10 ?k10 ?a11 ?l11 ?c11 ?k11 ?a12 ?l12 ?c12 ?k12 ?a13 ?l13 ?c13 ?k13 ?a14 ?l14 ?c14 ?k14 ?a15 ?l15 ?c15 ?k15 ?a16 ?l16 ?c16 ?k16 ?a17 ?l17 ?c17 ?k17 ?a18 ?l18 ?c18 ?k18 ?a19 ?l19 ?c19 ?k19 ?a20 ?l20 ?c20 ?k20 ?a21 ?l21 ?c21 ?k21 ?a22 ?l22 ?c22 ?k22 ?a23 ?l23 ?c23 ?k23 ?a24 ?l24 ?c24 ?k24 ?a25 ?l25 ?c25 ?k25 ?a26 ?l26 ?c26 ?k26 ?a27 ?l27 ?c27 ?k27 ?a28 ?l28 ?c28 ?k28 ?a29 ?l29 ?c29 ?k29
    (case b0 => first | k_is | k_exc | rfl | kernel_rfl)
    (case b1 => first | k_is | k_exc | rfl | kernel_rfl)
    (case b2 => first | k_is | k_exc | rfl | kernel_rfl)
    (case b3 => first | k_is | k_exc | rfl | kernel_rfl)
    (case b4 => first | k_is | k_exc | rfl | kernel_rfl)
    (case b5 => first | k_is | k_exc | rfl | kernel_rfl)
    (case b6 => first | k_is | k_exc | rfl | kernel_rfl)
    (case b7 => first | k_is | k_exc | rfl | kernel_rfl)
    (case b8 => first | k_is | k_exc | rfl | kernel_rfl)
    (case b9 => first | k_is | k_exc | rfl | kernel_rfl)
    (case b10 => first | k_is | k_exc | rfl | kernel_rfl)
    (case b11 => first | k_is | k_exc | rfl | kernel_rfl)
    (case b12 => first | k_is | k_exc | rfl | kernel_rfl)
    (case b13 => first | k_is | k_exc | rfl | kernel_rfl)
    (case b14 => first | k_is | k_exc | rfl | kernel_rfl)
    (case b15 => first | k_is | k_exc | rfl | kernel_rfl)
    (case b16 => first | k_is | k_exc | rfl | kernel_rfl)
    (case b17 => first | k_is | k_exc | rfl | kernel_rfl)
    (case b18 => first | k_is | k_exc | rfl | kernel_rfl)
    (case b19 => first | k_is | k_exc | rfl | kernel_rfl)
    (case b20 => first | k_is | k_exc | rfl | kernel_rfl)
    (case b21 => first | k_is | k_exc | rfl | kernel_rfl)
    (case b22 => first | k_is | k_exc | rfl | kernel_rfl)
    (case b23 => first | k_is | k_exc | rfl | kernel_rfl)
    (case b24 => first | k_is | k_exc | rfl | kernel_rfl)
    (case ugC => first | k_is | k_exc | rfl | kernel_rfl)
    (case uxC => first | k_is | k_exc | rfl | kernel_rfl)
    (case ukC => first | k_is | k_exc | rfl | kernel_rfl)
    (case ubC => first | k_is | k_exc | rfl | kernel_rfl)
    (case utC => first | k_is | k_exc | rfl | kernel_rfl)
    (case uhg => first | k_is | k_exc | rfl | kernel_rfl)
    (case uhk => first | k_is | k_exc | rfl | kernel_rfl)
    (case uhd => first | k_is | k_exc | rfl | kernel_rfl)
    (case uha => first | k_is | k_exc | rfl | kernel_rfl)
    (case uhn => first | k_is | k_exc | rfl | kernel_rfl)
    (case uht => first | k_is | k_exc | rfl | kernel_rfl)
    (case uhm => first | k_is | k_exc | rfl | kernel_rfl)
    (case ukv => first | k_is | k_exc | rfl | kernel_rfl)
    (case vgC => first | k_is | k_exc | rfl | kernel_rfl)
    (case vxC => first | k_is | k_exc | rfl | kernel_rfl)
    (case vkC => first | k_is | k_exc | rfl | kernel_rfl)
    (case vbC => first | k_is | k_exc | rfl | kernel_rfl)
    (case vtC => first | k_is | k_exc | rfl | kernel_rfl)
    (case vhg => first | k_is | k_exc | rfl | kernel_rfl)
    (case vhk => first | k_is | k_exc | rfl | kernel_rfl)
    (case vhd => first | k_is | k_exc | rfl | kernel_rfl)
    (case vha => first | k_is | k_exc | rfl | kernel_rfl)
    (case vhn => first | k_is | k_exc | rfl | kernel_rfl)
    (case vht => first | k_is | k_exc | rfl | kernel_rfl)
    (case vhm => first | k_is | k_exc | rfl | kernel_rfl)
    (case vkv => first | k_is | k_exc | rfl | kernel_rfl)
    (case suu => first | k_is | k_exc | rfl | kernel_rfl)
    (case swu => first | k_is | k_exc | rfl | kernel_rfl)
    (case sww => first | k_is | k_exc | rfl | kernel_rfl)
    (case q_MOST_NUMBER => first | k_is | k_exc | rfl | kernel_rfl)
    (case a0 => first | k_is | k_exc | rfl | kernel_rfl)
    (case l0 => first | k_is | k_exc | rfl | kernel_rfl)
    (case c0 => first | k_is | k_exc | rfl | kernel_rfl)
    (case k0 => first | k_is | k_exc | rfl | kernel_rfl)
    (case a1 => first | k_is | k_exc | rfl | kernel_rfl)
    (case l1 => first | k_is | k_exc | rfl | kernel_rfl)
    (case c1 => first | k_is | k_exc | rfl | kernel_rfl)
    (case k1 => first | k_is | k_exc | rfl | kernel_rfl)
    (case a2 => first | k_is | k_exc | rfl | kernel_rfl)
    (case l2 => first | k_is | k_exc | rfl | kernel_rfl)
    (case c2 => first | k_is | k_exc | rfl | kernel_rfl)
    (case k2 => first | k_is | k_exc | rfl | kernel_rfl)
    (case a3 => first | k_is | k_exc | rfl | kernel_rfl)
    (case l3 => first | k_is | k_exc | rfl | kernel_rfl)
    (case c3 => first | k_is | k_exc | rfl | kernel_rfl)
    (case k3 => first | k_is | k_exc | rfl | kernel_rfl)
    (case a4 => first | k_is | k_exc | rfl | kernel_rfl)
    (case l4 => first | k_is | k_exc | rfl | kernel_rfl)
    (case c4 => first | k_is | k_exc | rfl | kernel_rfl)
    (case k4 => first | k_is | k_exc | rfl | kernel_rfl)
    (case a5 => first | k_is | k_exc | rfl | kernel_rfl)
    (case l5 => first | k_is | k_exc | rfl | kernel_rfl)
    (case c5 => first | k_is | k_exc | rfl | kernel_rfl)
    (case k5 => first | k_is | k_exc | rfl | kernel_rfl)
    (case a6 => first | k_is | k_exc | rfl | kernel_rfl)
    (case l6 => first | k_is | k_exc | rfl | kernel_rfl)
    (case c6 => first | k_is | k_exc | rfl | kernel_rfl)
    (case k6 => first | k_is | k_exc | rfl | kernel_rfl)
    (case a7 => first | k_is | k_exc | rfl | kernel_rfl)
    (case l7 => first | k_is | k_exc | rfl | kernel_rfl)
    (case c7 => first | k_is | k_exc | rfl | kernel_rfl)
    (case k7 => first | k_is | k_exc | rfl | kernel_rfl)
    (case a8 => first | k_is | k_exc | rfl | kernel_rfl)
    (case l8 => first | k_is | k_exc | rfl | kernel_rfl)
    (case c8 => first | k_is | k_exc | rfl | kernel_rfl)
    (case k8 => first | k_is | k_exc | rfl | kernel_rfl)
    (case a9 => first | k_is | k_exc | rfl | kernel_rfl)
    (case l9 => first | k_is | k_exc | rfl | kernel_rfl)
    (case c9 => first | k_is | k_exc | rfl | kernel_rfl)
    (case k9 => first | k_is | k_exc | rfl | kernel_rfl)
    (case a10 => first | k_is | k_exc | rfl | kernel_rfl)
    (case l10 => first | k_is | k_exc | rfl | kernel_rfl)
    (case c10 => first | k_is | k_exc | rfl | kernel_rfl)
    (case k10 => first | k_is | k_exc | rfl | kernel_rfl)
    (case a11 => first | k_is | k_exc | rfl | kernel_rfl)
    (case l11 => first | k_is | k_exc | rfl | kernel_rfl)
    (case c11 => first | k_is | k_exc | rfl | kernel_rfl)
    (case k11 => first | k_is | k_exc | rfl | kernel_rfl)
    (case a12 => first | k_is | k_exc | rfl | kernel_rfl)
    (case l12 => first | k_is | k_exc | rfl | kernel_rfl)
    (case c12 => first | k_is | k_exc | rfl | kernel_rfl)
    (case k12 => first | k_is | k_exc | rfl | kernel_rfl)
    (case a13 => first | k_is | k_exc | rfl | kernel_rfl)
    (case l13 => first | k_is | k_exc | rfl | kernel_rfl)
    (case c13 => first | k_is | k_exc | rfl | kernel_rfl)
    (case k13 => first | k_is | k_exc | rfl | kernel_rfl)
    (case a14 => first | k_is | k_exc | rfl | kernel_rfl)
    (case l14 => first | k_is | k_exc | rfl | kernel_rfl)
    (case c14 => first | k_is | k_exc | rfl | kernel_rfl)
    (case k14 => first | k_is | k_exc | rfl | kernel_rfl)
    (case a15 => first | k_is | k_exc | rfl | kernel_rfl)
    (case l15 => first | k_is | k_exc | rfl | kernel_rfl)
    (case c15 => first | k_is | k_exc | rfl | kernel_rfl)
    (case k15 => first | k_is | k_exc | rfl | kernel_rfl)
    (case a16 => first | k_is | k_exc | rfl | kernel_rfl)
    (case l16 => first | k_is | k_exc | rfl | kernel_rfl)
    (case c16 => first | k_is | k_exc | rfl | kernel_rfl)
    (case k16 => first | k_is | k_exc | rfl | kernel_rfl)
    (case a17 => first | k_is | k_exc | rfl | kernel_rfl)
    (case l17 => first | k_is | k_exc | rfl | kernel_rfl)
    (case c17 => first | k_is | k_exc | rfl | kernel_rfl)
    (case k17 => first | k_is | k_exc | rfl | kernel_rfl)
    (case a18 => first | k_is | k_exc | rfl | kernel_rfl)
    (case l18 => first | k_is | k_exc | rfl | kernel_rfl)
    (case c18 => first | k_is | k_exc | rfl | kernel_rfl)
    (case k18 => first | k_is | k_exc | rfl | kernel_rfl)
    (case a19 => first | k_is | k_exc | rfl | kernel_rfl)
    (case l19 => first | k_is | k_exc | rfl | kernel_rfl)
    (case c19 => first | k_is | k_exc | rfl | kernel_rfl)
    (case k19 => first | k_is | k_exc | rfl | kernel_rfl)
    (case a20 => first | k_is | k_exc | rfl | kernel_rfl)
    (case l20 => first | k_is | k_exc | rfl | kernel_rfl)
    (case c20 => first | k_is | k_exc | rfl | kernel_rfl)
    (case k20 => first | k_is | k_exc | rfl | kernel_rfl)
    (case a21 => first | k_is | k_exc | rfl | kernel_rfl)
    (case l21 => first | k_is | k_exc | rfl | kernel_rfl)
    (case c21 => first | k_is | k_exc | rfl | kernel_rfl)
    (case k21 => first | k_is | k_exc | rfl | kernel_rfl)
    (case a22 => first | k_is | k_exc | rfl | kernel_rfl)
    (case l22 => first | k_is | k_exc | rfl | kernel_rfl)
    (case c22 => first | k_is | k_exc | rfl | kernel_rfl)
    (case k22 => first | k_is | k_exc | rfl | kernel_rfl)
    (case a23 => first | k_is | k_exc | rfl | kernel_rfl)
    (case l23 => first | k_is | k_exc | rfl | kernel_rfl)
    (case c23 => first | k_is | k_exc | rfl | kernel_rfl)
    (case k23 => first | k_is | k_exc | rfl | kernel_rfl)
    (case a24 => first | k_is | k_exc | rfl | kernel_rfl)
    (case l24 => first | k_is | k_exc | rfl | kernel_rfl)
    (case c24 => first | k_is | k_exc | rfl | kernel_rfl)
    (case k24 => first | k_is | k_exc | rfl | kernel_rfl)
    (case a25 => first | k_is | k_exc | rfl | kernel_rfl)
    (case l25 => first | k_is | k_exc | rfl | kernel_rfl)
    (case c25 => first | k_is | k_exc | rfl | kernel_rfl)
    (case k25 => first | k_is | k_exc | rfl | kernel_rfl)
    (case a26 => first | k_is | k_exc | rfl | kernel_rfl)
    (case l26 => first | k_is | k_exc | rfl | kernel_rfl)
    (case c26 => first | k_is | k_exc | rfl | kernel_rfl)
    (case k26 => first | k_is | k_exc | rfl | kernel_rfl)
    (case a27 => first | k_is | k_exc | rfl | kernel_rfl)
    (case l27 => first | k_is | k_exc | rfl | kernel_rfl)
    (case c27 => first | k_is | k_exc | rfl | kernel_rfl)
    (case k27 => first | k_is | k_exc | rfl | kernel_rfl)
    (case a28 => first | k_is | k_exc | rfl | kernel_rfl)
    (case l28 => first | k_is | k_exc | rfl | kernel_rfl)
    (case c28 => first | k_is | k_exc | rfl | kernel_rfl)
    (case k28 => first | k_is | k_exc | rfl | kernel_rfl)
    (case a29 => first | k_is | k_exc | rfl | kernel_rfl)
    (case l29 => first | k_is | k_exc | rfl | kernel_rfl)
    (case c29 => first | k_is | k_exc | rfl | kernel_rfl)
    (case k29 => first | k_is | k_exc | rfl | kernel_rfl)
