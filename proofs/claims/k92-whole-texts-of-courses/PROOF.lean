import PyProof.Rows.All
import Wide.All
import OpenK.AllK
import Wide.FinOn
import HandS.ForMost
import HandS.ForExc
import HandS.ExcCtx
import HandS.HotCalls
import HandS.ExcField
import HandS.IsInst
import HandS.Walk
import HandS.Zip
import HandS.TupAny
import HandS.Style
import HandS.CallSlots
import HandS.Replace
import HandS.StrMore
import KE.DataEq
import HandS.ReplaceLit
import HandS.TupMul
import PyProof.Rows.StrMul
import HandS.ExcSuper
import KE.KExcSuper
import KE.KExcInit
import KE.GoesMore
import HandS.Conv
import HandS.Wide
import HandS.More
import PySem.Challenge.RW_keepnothing_k92_whole_texts_of_courses
section
set_option Elab.async false
set_option linter.all false
set_option maxRecDepth 100000
set_option maxHeartbeats 1000000
/-! Kn0: data, results, what a state is. -/
namespace Kn
open PySem L2

/-- the law's source of draws: its great cells, its blend -/
structure BoxSt where
  cells : List Int
  blend : Int

/-- data -/
inductive D where
  | non | bl (b : Bool) | int (i : Int) | str (x : Str)
  | lst (l : List D) | tup (l : List D)
  | ins (c : Str) (fs : List (Str × D))
  | box

/-- what comes of it: a thing; an own error and what it keeps; nothing that is told -/
inductive Res (α : Type) where
  | ok (a : α) (s : BoxSt)
  | ex (n : Str) (d : D) (s : BoxSt)
  | bad

def Res.bind {α β : Type} (r : Res α) (f : α → BoxSt → Res β) : Res β :=
  match r with
  | .ok a s => f a s
  | .ex n d s => .ex n d s
  | .bad => .bad

/-- a slot: nothing known; data that is never written again; a list that this frame alone holds -/
inductive Sl where
  | un | sh (d : D) | ow (l : List D)
abbrev En := List Sl
abbrev ME := En → BoxSt → Res D
abbrev MT := En → BoxSt → Res Bool
abbrev MA := En → BoxSt → Res (List D)

inductive SR where
  | nx (e : En) (s : BoxSt)
  | rt (d : D) (s : BoxSt)
  | bk (e : En) (s : BoxSt)
  | ct (e : En) (s : BoxSt)
  | ex (n : Str) (d : D) (e : En) (s : BoxSt)
  | bad
abbrev MS := En → BoxSt → SR

/-- what stands fast: the written part, the classes by name, an error's field -/
structure Sc where
  K : PySem.W.Frag
  cl : Str → Option Addr
  fld : Str → Str
/-- .. and where the box and its cells stand -/
structure Cn where
  st : Sc
  bx : Option (Addr × Addr)

def Foot (c : Cn) (x : Addr) : Prop := ∃ p, c.bx = some p ∧ (x = p.1 ∨ x = p.2)
def BoxAt (c : Cn) (s : BoxSt) (H : Hp) : Prop := ∀ p, c.bx = some p → H p.1 = some (.lst [.ref p.2, .int s.blend]) ∧ H p.2 = some (.lst (s.cells.map V.int)) ∧ p.1 ≠ p.2

mutual
/-- v stands for d, in the part G of the heap -/
inductive Dd (c : Cn) (G : Hp) : V → D → Prop
  | non : Dd c G .non .non
  | bl (b : Bool) : Dd c G (.bl b) (.bl b)
  | int (i : Int) : Dd c G (.int i) (.int i)
  | str (x : Str) : Dd c G (.str x) (.str x)
  | lst {a : Addr} {xs : List V} {ds : List D} : G a = some (.lst xs) → Da c G xs ds → Dd c G (.ref a) (.lst ds)
  | tup {a : Addr} {xs : List V} {ds : List D} : SqT c.st.K G a xs → Da c G xs ds → Dd c G (.ref a) (.tup ds)
  | ins {a dx C : Addr} {n : Str} {vs : List (Str × V)} {fs : List (Str × D)} : c.st.cl n = some C → G a = some (.ins C dx vs) → Df c G vs fs → Dd c G (.ref a) (.ins n fs)
  | box {p : Addr × Addr} : c.bx = some p → Dd c G (.ref p.1) .box
inductive Da (c : Cn) (G : Hp) : List V → List D → Prop
  | nil : Da c G [] []
  | cons {v : V} {vs : List V} {d : D} {ds : List D} : Dd c G v d → Da c G vs ds → Da c G (v :: vs) (d :: ds)
inductive Df (c : Cn) (G : Hp) : List (Str × V) → List (Str × D) → Prop
  | nil : Df c G [] []
  | cons {n : Str} {v : V} {vs : List (Str × V)} {d : D} {ds : List (Str × D)} : Dd c G v d → Df c G vs ds → Df c G ((n, v) :: vs) ((n, d) :: ds)
end

theorem same_seqT {K : PySem.W.Frag} {G G' : Hp} {a : Addr} {xs : List V} (e : Same G G') (h : SqT K G a xs) : SqT K G' a xs := by
  rcases h with (h | ⟨o, h⟩) | h
  · exact .inl (.inl (e _ _ h))
  · exact .inl (.inr ⟨o, e _ _ h⟩)
  · exact .inr h
mutual
theorem Dd.mono {c : Cn} {G G' : Hp} (e : Same G G') : ∀ {v : V} {d : D}, Dd c G v d → Dd c G' v d
  | _, _, .non => .non
  | _, _, .bl b => .bl b
  | _, _, .int i => .int i
  | _, _, .str x => .str x
  | _, _, .lst h r => .lst (e _ _ h) (r.mono e)
  | _, _, .tup h r => .tup (same_seqT e h) (r.mono e)
  | _, _, .ins h1 h2 r => .ins h1 (e _ _ h2) (r.mono e)
  | _, _, .box h => .box h
theorem Da.mono {c : Cn} {G G' : Hp} (e : Same G G') : ∀ {v : List V} {d : List D}, Da c G v d → Da c G' v d
  | _, _, .nil => .nil
  | _, _, .cons h r => .cons (h.mono e) (r.mono e)
theorem Df.mono {c : Cn} {G G' : Hp} (e : Same G G') : ∀ {v : List (Str × V)} {d : List (Str × D)}, Df c G v d → Df c G' v d
  | _, _, .nil => .nil
  | _, _, .cons h r => .cons (h.mono e) (r.mono e)
end
theorem Da.len {c : Cn} {G : Hp} : ∀ {vs : List V} {ds : List D}, Da c G vs ds → vs.length = ds.length
  | _, _, .nil => rfl
  | _, _, .cons _ r => by rw [List.length_cons, List.length_cons, r.len]
theorem Da.get {c : Cn} {G : Hp} : ∀ {vs : List V} {ds : List D} {i : Nat} {d : D}, Da c G vs ds → ds[i]? = some d → ∃ v, vs[i]? = some v ∧ Dd c G v d
  | _, _, i, _, .nil, h => by simp at h
  | _, _, 0, _, .cons h r, e => by simp at e; subst e; exact ⟨_, rfl, h⟩
  | _, _, i + 1, d, .cons h r, e => by
    obtain ⟨v, h1, h2⟩ := Da.get (i := i) r (by simpa using e)
    exact ⟨v, by simpa using h1, h2⟩
theorem Da.getV {c : Cn} {G : Hp} : ∀ {vs : List V} {ds : List D} {i : Nat} {v : V}, Da c G vs ds → vs[i]? = some v → ∃ d, ds[i]? = some d ∧ Dd c G v d
  | _, _, i, _, .nil, h => by simp at h
  | _, _, 0, _, .cons h r, e => by simp at e; subst e; exact ⟨_, rfl, h⟩
  | _, _, i + 1, d, .cons h r, e => by
    obtain ⟨v, h1, h2⟩ := Da.getV (i := i) r (by simpa using e)
    exact ⟨v, by simpa using h1, h2⟩
theorem Da.app {c : Cn} {G : Hp} : ∀ {vs vs' : List V} {ds ds' : List D}, Da c G vs ds → Da c G vs' ds' → Da c G (vs ++ vs') (ds ++ ds')
  | _, _, _, _, .nil, s => s
  | _, _, _, _, .cons h r, s => .cons h (r.app s)
theorem Da.take {c : Cn} {G : Hp} : ∀ {vs : List V} {ds : List D} (n : Nat), Da c G vs ds → Da c G (vs.take n) (ds.take n)
  | _, _, 0, _ => .nil
  | _, _, _ + 1, .nil => .nil
  | _, _, n + 1, .cons h r => .cons h (r.take n)
theorem Da.drop {c : Cn} {G : Hp} : ∀ {vs : List V} {ds : List D} (n : Nat), Da c G vs ds → Da c G (vs.drop n) (ds.drop n)
  | _, _, 0, r => r
  | _, _, _ + 1, .nil => .nil
  | _, _, n + 1, .cons _ r => r.drop n

/-- behind some steps: the shared part G grew by new objects alone, the box is as s tells, all else stands -/
structure Ex (c : Cn) (G H G' H' : Hp) (s : BoxSt) : Prop where
  gg : Same G G'
  sub : Same G' H'
  keep : ∀ x o, ¬ Foot c x → H x = some o → H' x = some o
  fresh : ∀ x, G x = none → G' x ≠ none → H x = none
  box : BoxAt c s H'
theorem BoxAt.foot {c : Cn} {s : BoxSt} {H : Hp} (b : BoxAt c s H) {x : Addr} (f : Foot c x) : H x ≠ none := by
  obtain ⟨p, hp, e⟩ := f
  obtain ⟨h1, h2, _⟩ := b p hp
  rcases e with e | e
  · rw [e, h1]; exact fun z => nomatch z
  · rw [e, h2]; exact fun z => nomatch z
theorem Ex.refl {c : Cn} {G H : Hp} {s : BoxSt} (e : Same G H) (b : BoxAt c s H) : Ex c G H G H s := ⟨.refl _, e, fun _ _ _ h => h, fun x h z => absurd h z, b⟩
theorem Ex.trans {c : Cn} {G H G1 H1 G2 H2 : Hp} {s1 s2 : BoxSt} (a : Ex c G H G1 H1 s1) (b : Ex c G1 H1 G2 H2 s2) : Ex c G H G2 H2 s2 := by
  refine ⟨a.gg.trans b.gg, b.sub, fun x o f h => b.keep x o f (a.keep x o f h), fun x h z => ?_, b.box⟩
  cases e : G1 x with
  | none =>
    have h1 := b.fresh x e z
    cases q : H x with
    | none => rfl
    | some o =>
      by_cases f : Foot c x
      · exact absurd h1 (a.box.foot f)
      · rw [a.keep x o f q] at h1; cases h1
  | some o => exact a.fresh x h (by rw [e]; exact fun z => nomatch z)
/-- a new object, shared at once -/
theorem Ex.new {c : Cn} {G H : Hp} {s : BoxSt} {p : Addr} {o : HO} (e : Same G H) (b : BoxAt c s H) (h : H p = none) : Ex c G H (upd G p o) (upd H p o) s := by
  have g : G p = none := e.free h
  refine ⟨fun x u q => ?_, fun x u q => ?_, fun x u _ q => ?_, fun x q z => ?_, fun q hq => ?_⟩
  · rw [upd_ne (ne_of_none q g)]; exact q
  · by_cases hx : x = p
    · subst hx; rw [upd_same] at q ⊢; exact q
    · rw [upd_ne hx] at q ⊢; exact e x u q
  · rw [upd_ne (ne_of_none q h)]; exact q
  · by_cases hx : x = p
    · subst hx; exact h
    · rw [upd_ne hx] at z; exact absurd q z
  · obtain ⟨h1, h2, h3⟩ := b q hq
    exact ⟨by rw [upd_ne (ne_of_none h1 h)]; exact h1, by rw [upd_ne (ne_of_none h2 h)]; exact h2, h3⟩

/-- a slot holds what is told; a: where its own list stands, G0, H0: the heaps at the def's entry -/
def SlOk (c : Cn) (G H H0 : Hp) (a : Addr) (v : Option (Option V)) : Sl → Prop
  | .un => True
  | .sh d => ∃ w, v = some (some w) ∧ Dd c G w d
  | .ow ds => v = some (some (.ref a)) ∧ G a = none ∧ H0 a = none ∧ ∃ xs, H a = some (.lst xs) ∧ Da c G xs ds

/-- the state of a frame -/
structure Rel (c : Cn) (G0 H0 : Hp) (env : En) (σ : St) (G H : Hp) (s : BoxSt) : Prop where
  ex : Ex c G0 H0 G H s
  box0 : ∃ s0, BoxAt c s0 H0
  foot : ∀ x, Foot c x → G x = none
  len : env.length = σ.length
  ad : ∃ ad : Nat → Addr, (∀ i e, env[i]? = some e → SlOk c G H H0 (ad i) σ[i]? e) ∧
    ∀ i j l m, env[i]? = some (.ow l) → env[j]? = some (.ow m) → ad i = ad j → i = j
section
variable {c : Cn} {G0 H0 G H G' H' : Hp} {env : En} {σ : St} {s s' : BoxSt}
theorem Rel.foot' (R : Rel c G0 H0 env σ G H s) (e : Ex c G H G' H' s') : ∀ x, Foot c x → G' x = none := fun x f => by
  cases q : G' x with
  | none => rfl
  | some o => exact absurd (e.fresh x (R.foot x f) (by rw [q]; exact fun z => nomatch z)) (R.ex.box.foot f)
theorem Rel.step (R : Rel c G0 H0 env σ G H s) (e : Ex c G H G' H' s') : Rel c G0 H0 env σ G' H' s' := by
  obtain ⟨ad, h1, h2⟩ := R.ad
  obtain ⟨s0, b0⟩ := R.box0
  refine ⟨R.ex.trans e, R.box0, R.foot' e, R.len, ad, fun i x hx => ?_, h2⟩
  have q := h1 i x hx
  cases x with
  | un => trivial
  | sh d =>
    obtain ⟨w, q1, q2⟩ := q
    exact ⟨w, q1, q2.mono e.gg⟩
  | ow l =>
    obtain ⟨q1, q2, q3, xs, q4, q5⟩ := q
    have nf : ¬ Foot c (ad i) := fun f => b0.foot f q3
    refine ⟨q1, ?_, q3, xs, e.keep _ _ nf q4, q5.mono e.gg⟩
    cases z : G' (ad i) with
    | none => rfl
    | some o =>
      have := e.fresh _ q2 (by rw [z]; exact fun z => nomatch z)
      rw [q4] at this; cases this
end

/-- an own error's class, its dict -/
def XAt (c : Cn) (G H : Hp) (n : Str) (d : D) (cl : Value) (dd : Option Addr) : Prop :=
  ∃ C a v, c.st.cl n = some C ∧ cl = .ref C ∧ dd = some a ∧ H a = some (.xd [(c.st.fld n, v)]) ∧ Dd c G v d

/-- what is wanted of a result -/
def Post {α β : Type} (c : Cn) (G H : Hp) (rel : Hp → β → α → Prop) (r : Res α) (E : XK) (Q : β → Hp → Prop) : Prop :=
  match r with
  | .ok a s => ∀ b G' H', Ex c G H G' H' s → rel G' b a → Q b H'
  | .ex n d s => ∀ cl dd G' H', Ex c G H G' H' s → XAt c G' H' n d cl dd → E cl dd H'
  | .bad => False
theorem Post.shift {α β : Type} {c : Cn} {G H G' H' : Hp} {rel : Hp → β → α → Prop} {r : Res α} {E : XK} {Q : β → Hp → Prop} {s : BoxSt} (p : Post c G H rel r E Q) (e : Ex c G H G' H' s) : Post c G' H' rel r E Q := by
  cases r with
  | ok a s1 => exact fun b G2 H2 e2 q => p b G2 H2 (e.trans e2) q
  | ex n d s1 => exact fun cl dd G2 H2 e2 q => p cl dd G2 H2 (e.trans e2) q
  | bad => exact p
theorem Post.bind {α β γ δ : Type} {c : Cn} {G H : Hp} {rel : Hp → β → α → Prop} {rel1 : Hp → δ → γ → Prop} {r : Res γ} {f : γ → BoxSt → Res α} {E : XK} {Q : β → Hp → Prop} {Q1 : δ → Hp → Prop}
    (p : Post c G H rel (r.bind f) E Q) (k : ∀ a s b G' H', r = .ok a s → Ex c G H G' H' s → rel1 G' b a → Post c G' H' rel (f a s) E Q → Q1 b H') : Post c G H rel1 r E Q1 := by
  cases r with
  | ok a s => exact fun b G' H' e q => k a s b G' H' rfl e q (Post.shift (r := f a s) p e)
  | ex n d s => exact p
  | bad => exact p
theorem Post.imp {α β : Type} {c : Cn} {G H : Hp} {rel : Hp → β → α → Prop} {r : Res α} {E : XK} {Q Q' : β → Hp → Prop} (p : Post c G H rel r E Q) (k : ∀ b H', Q b H' → Q' b H') : Post c G H rel r E Q' := by
  cases r with
  | ok a s => exact fun b G' H' e q => k b H' (p b G' H' e q)
  | ex n d s => exact p
  | bad => exact p

/-- the readings, lifted -/
def lE (c : Cn) (G0 H0 : Hp) (W : WX) (m : ME) : TE := fun σ H Q => ∃ env G s, Rel c G0 H0 env σ G H s ∧ Post c G H (Dd c) (m env s) (fun cl dd H' => W cl dd σ H') Q
def lT (c : Cn) (G0 H0 : Hp) (W : WX) (m : MT) : TT := fun σ H Q => ∃ env G s, Rel c G0 H0 env σ G H s ∧ Post c G H (fun _ b a => b = a) (m env s) (fun cl dd H' => W cl dd σ H') Q
def lA (c : Cn) (G0 H0 : Hp) (W : WX) (m : MA) : TA := fun σ H Q => ∃ env G s, Rel c G0 H0 env σ G H s ∧ Post c G H (Da c) (m env s) (fun cl dd H' => W cl dd σ H') Q
/-- a new list that nobody else holds -/
def Nl (c : Cn) (H : Hp) (G' : Hp) (q : V × Hp) (l : List D) : Prop := ∃ p xs, q.1 = .ref p ∧ H p = none ∧ G' p = none ∧ q.2 p = some (.lst xs) ∧ Da c G' xs l
def PostN (c : Cn) (G H : Hp) (r : Res (List D)) (E : XK) (Q : VK) : Prop :=
  match r with
  | .ok l s => ∀ p xs G' H', Ex c G H G' H' s → H p = none → G' p = none → H' p = some (.lst xs) → Da c G' xs l → Q (.ref p) H'
  | .ex n d s => ∀ cl dd G' H', Ex c G H G' H' s → XAt c G' H' n d cl dd → E cl dd H'
  | .bad => False
def lN (c : Cn) (G0 H0 : Hp) (W : WX) (m : MA) : TE := fun σ H Q => ∃ env G s, Rel c G0 H0 env σ G H s ∧ PostN c G H (m env s) (fun cl dd H' => W cl dd σ H') Q

/-- what is wanted of a statement's end, Gs: the shared part ahead of it -/
def SPost (c : Cn) (G0 H0 Gs : Hp) (r : SR) (W : WX) (E : Ends) : Prop :=
  match r with
  | .nx e s => ∀ σ G H, Rel c G0 H0 e σ G H s → Same Gs G → E.nx σ H
  | .rt d s => ∀ v G H, Ex c G0 H0 G H s → Dd c G v d → E.rt v H
  | .bk e s => ∀ σ G H, Rel c G0 H0 e σ G H s → Same Gs G → E.bk σ H
  | .ct e s => ∀ σ G H, Rel c G0 H0 e σ G H s → Same Gs G → E.ct σ H
  | .ex n d e s => ∀ cl dd σ G H, Rel c G0 H0 e σ G H s → Same Gs G → XAt c G H n d cl dd → W cl dd σ H
  | .bad => False
theorem SPost.up {c : Cn} {G0 H0 Gs Gt : Hp} {r : SR} {W : WX} {E : Ends} (h : SPost c G0 H0 Gs r W E) (e : Same Gs Gt) : SPost c G0 H0 Gt r W E := by
  cases r with
  | nx e1 s => exact fun σ G H R q => h σ G H R (e.trans q)
  | rt d s => exact h
  | bk e1 s => exact fun σ G H R q => h σ G H R (e.trans q)
  | ct e1 s => exact fun σ G H R q => h σ G H R (e.trans q)
  | ex n d e1 s => exact fun cl dd σ G H R q => h cl dd σ G H R (e.trans q)
  | bad => exact h
def lS (c : Cn) (G0 H0 : Hp) (W : WX) (m : MS) : TS := fun E σ H => ∃ env G s, Rel c G0 H0 env σ G H s ∧ SPost c G0 H0 G (m env s) W E

/-- a def's promise: it hands back what f tells -/
def spU (t : Sc) (f : List D → BoxSt → Res D) : Sp := fun vs H Q E => ∃ (bx : Option (Addr × Addr)) (G : Hp) (ds : List D) (s : BoxSt),
  Same G H ∧ BoxAt ⟨t, bx⟩ s H ∧ (∀ x, Foot ⟨t, bx⟩ x → G x = none) ∧ Da ⟨t, bx⟩ G vs ds ∧ Post ⟨t, bx⟩ G H (Dd ⟨t, bx⟩) (f ds s) E Q

section
variable {X : Cx} {e : Expr} {es : List Expr} {st : Stmt} {sts : List Stmt}
theorem pe_imp {t t' : TE} (h : PE X e t) (k : ∀ σ H Q, t' σ H Q → t σ H Q) : PE X e t' := ⟨fun pins s σ H Q I q => h.run pins s σ H Q I (k σ H Q q)⟩
theorem pt_imp {t t' : TT} (h : PT X e t) (k : ∀ σ H Q, t' σ H Q → t σ H Q) : PT X e t' := ⟨fun pins s σ H Q I q => h.run pins s σ H Q I (k σ H Q q)⟩
theorem pw_imp {t t' : TT} (h : PW X e t) (k : ∀ σ H Q, t' σ H Q → t σ H Q) : PW X e t' := ⟨fun wh pins s σ H Q I q => h.run wh pins s σ H Q I (k σ H Q q)⟩
theorem pa_imp {t t' : TA} (h : PA X es t) (k : ∀ σ H Q, t' σ H Q → t σ H Q) : PA X es t' := ⟨fun pos pins s σ H Q I q => h.run pos pins s σ H Q I (k σ H Q q)⟩
theorem ps_imp {t t' : TS} (h : PS X st t) (k : ∀ E σ H, t' E σ H → t E σ H) : PS X st t' := ⟨fun pins s σ H E I q => h.run pins s σ H E I (k E σ H q)⟩
theorem pss_imp {t t' : TS} (h : PSs X sts t) (k : ∀ E σ H, t' E σ H → t E σ H) : PSs X sts t' := ⟨fun pins s σ H E I q => h.run pins s σ H E I (k E σ H q)⟩
end
end Kn

end

section
set_option Elab.async false
set_option linter.all false
set_option maxRecDepth 100000
set_option maxHeartbeats 1000000
/-! Kn1: expressions. -/
namespace Kn
open PySem L2

def ofO {α : Type} (o : Option α) (s : BoxSt) : Res α := match o with | some a => .ok a s | none => .bad

/-! ### what a value's rule does, over data -/
/-- a two-place operation -/
def V2 (c : Cn) (r : R2) (g : D → D → Option D) : Prop := ∀ {G H : Hp} {s : BoxSt} {x y : V} {dx dy d : D} {Q : VK}, Same G H → BoxAt c s H → Dd c G x dx → Dd c G y dy → g dx dy = some d → (∀ v G' H', Ex c G H G' H' s → Dd c G' v d → Q v H') → r x y H Q
/-- a one-place operation -/
def V1 (c : Cn) (r : V → Hp → VK → Prop) (g : D → Option D) : Prop := ∀ {G H : Hp} {s : BoxSt} {x : V} {dx d : D} {Q : VK}, Same G H → BoxAt c s H → Dd c G x dx → g dx = some d → (∀ v G' H', Ex c G H G' H' s → Dd c G' v d → Q v H') → r x H Q
/-- a call's -/
def VC (c : Cn) (r : List V → Hp → VK → Prop) (g : List D → Option D) : Prop := ∀ {G H : Hp} {s : BoxSt} {xs : List V} {ds : List D} {d : D} {Q : VK}, Same G H → BoxAt c s H → Da c G xs ds → g ds = some d → (∀ v G' H', Ex c G H G' H' s → Dd c G' v d → Q v H') → r xs H Q
/-- a call's that makes a new list -/
def VN (c : Cn) (r : List V → Hp → VK → Prop) (g : List D → Option (List D)) : Prop := ∀ {G H : Hp} {s : BoxSt} {xs : List V} {ds l : List D} {Q : VK}, Same G H → BoxAt c s H → Da c G xs ds → g ds = some l → (∀ p ys G' H', Ex c G H G' H' s → H p = none → G' p = none → H' p = some (.lst ys) → Da c G' ys l → Q (.ref p) H') → r xs H Q
/-- a method's -/
def VM (c : Cn) (r : V → List V → Hp → VK → Prop) (g : D → List D → Option D) : Prop := ∀ {G H : Hp} {s : BoxSt} {x : V} {xs : List V} {dx d : D} {ds : List D} {Q : VK}, Same G H → BoxAt c s H → Dd c G x dx → Da c G xs ds → g dx ds = some d → (∀ v G' H', Ex c G H G' H' s → Dd c G' v d → Q v H') → r x xs H Q

theorem val {c : Cn} {G H : Hp} {s : BoxSt} {v : V} {d : D} {Q : VK} (e : Same G H) (b : BoxAt c s H) (q : Dd c G v d) (k : ∀ v G' H', Ex c G H G' H' s → Dd c G' v d → Q v H') : Q v H := k v G H (.refl e b) q
/-- a new tuple -/
theorem valT {c : Cn} {G H : Hp} {s : BoxSt} {xs : List V} {ds : List D} {Q : VK} (e : Same G H) (b : BoxAt c s H) (q : Da c G xs ds) (k : ∀ v G' H', Ex c G H G' H' s → Dd c G' v (.tup ds) → Q v H') : ∀ p, H p = none → Q (.ref p) (upd H p (.tup xs)) := fun p hp =>
  k _ _ _ (.new e b hp) (.tup (SqT.of upd_same) (q.mono (Ex.new (c := c) (o := .tup xs) e b hp).gg))
/-- a new list, held alone -/
theorem valN {c : Cn} {G H : Hp} {s : BoxSt} {xs : List V} {ds : List D} {Q : VK} (e : Same G H) (b : BoxAt c s H) (q : Da c G xs ds) (k : ∀ p ys G' H', Ex c G H G' H' s → H p = none → G' p = none → H' p = some (.lst ys) → Da c G' ys ds → Q (.ref p) H') : ∀ p, H p = none → Q (.ref p) (upd H p (.lst xs)) := fun p hp => by
  have E := Ex.new (c := c) (o := .lst xs) e b hp
  refine k p xs G _ ⟨.refl _, fun x o h => ?_, E.keep, fun x h z => absurd h z, E.box⟩ hp (e.free hp) upd_same q
  rw [upd_ne (ne_of_none (e _ _ h) hp)]
  exact e _ _ h
/-- a held list is shared -/
theorem share {c : Cn} {G H G' H' : Hp} {s : BoxSt} {p : Addr} {xs : List V} {l : List D} (e : Ex c G H G' H' s) (hp : H p = none) (hg : G' p = none) (hl : H' p = some (.lst xs)) (q : Da c G' xs l) : Ex c G H (upd G' p (.lst xs)) H' s ∧ Dd c (upd G' p (.lst xs)) (.ref p) (.lst l) := by
  have up : Same G' (upd G' p (.lst xs)) := fun x o h => by rw [upd_ne (ne_of_none h hg)]; exact h
  refine ⟨⟨e.gg.trans up, fun x o h => ?_, e.keep, fun x h z => ?_, e.box⟩, .lst upd_same (q.mono up)⟩
  · by_cases hx : x = p
    · subst hx; rw [upd_same] at h; rw [← h]; exact hl
    · rw [upd_ne hx] at h; exact e.sub x o h
  · by_cases hx : x = p
    · subst hx; exact hp
    · rw [upd_ne hx] at z; exact e.fresh x h z

section
variable {X : Cx} {c : Cn} {G0 H0 : Hp} {W : WX} {a b d e o : Expr} {es : List Expr} {pos : Pos}
abbrev KE (X : Cx) (c : Cn) (G0 H0 : Hp) (W : WX) (e : Expr) (m : ME) : Prop := PE X e (lE c G0 H0 W m)
abbrev KN (X : Cx) (c : Cn) (G0 H0 : Hp) (W : WX) (e : Expr) (m : MA) : Prop := PE X e (lN c G0 H0 W m)
abbrev KT (X : Cx) (c : Cn) (G0 H0 : Hp) (W : WX) (e : Expr) (m : MT) : Prop := PT X e (lT c G0 H0 W m)
abbrev KW (X : Cx) (c : Cn) (G0 H0 : Hp) (W : WX) (e : Expr) (m : MT) : Prop := PW X e (lT c G0 H0 W m)
abbrev KA (X : Cx) (c : Cn) (G0 H0 : Hp) (W : WX) (es : List Expr) (m : MA) : Prop := PA X es (lA c G0 H0 W m)
abbrev KS (X : Cx) (c : Cn) (G0 H0 : Hp) (W : WX) (st : Stmt) (m : MS) : Prop := PS X st (lS c G0 H0 W m)
abbrev KB (X : Cx) (c : Cn) (G0 H0 : Hp) (W : WX) (sts : List Stmt) (m : MS) : Prop := PSs X sts (lS c G0 H0 W m)

/-! ### names, constants -/
def mVar (i : Nat) : ME := fun env s => match env[i]? with | some (.sh d) => .ok d s | _ => .bad
theorem k_var {i : Nat} (h : PE X e (tVar i)) : KE X c G0 H0 W e (mVar i) := pe_imp h fun σ H Q ⟨env, G, s, R, p⟩ => by
  obtain ⟨ad, h1, _⟩ := R.ad
  unfold mVar at p
  cases q : env[i]? with
  | none => rw [q] at p; exact False.elim p
  | some x =>
    rw [q] at p
    cases x with
    | un => exact False.elim p
    | ow l => exact False.elim p
    | sh d =>
      obtain ⟨w, q1, q2⟩ := h1 i _ q
      exact ⟨w, q1, p w G H (.refl R.ex.sub R.ex.box) q2⟩
def mC (d : D) : ME := fun _ s => .ok d s
/-- a value that needs no heap -/
inductive Flat : V → D → Prop
  | non : Flat .non .non
  | bl (b : Bool) : Flat (.bl b) (.bl b)
  | int (i : Int) : Flat (.int i) (.int i)
  | str (x : Str) : Flat (.str x) (.str x)
theorem Flat.dd {c : Cn} {G : Hp} {v : V} {d : D} (f : Flat v d) : Dd c G v d := by
  cases f with
  | non => exact .non
  | bl b => exact .bl b
  | int i => exact .int i
  | str x => exact .str x
theorem k_c {v : V} {d : D} (h : PE X e (tC v)) (f : Flat v d) : KE X c G0 H0 W e (mC d) := pe_imp h fun σ H Q ⟨env, G, s, R, p⟩ => p v G H (.refl R.ex.sub R.ex.box) f.dd

/-! ### one, two operands -/
def m1 (g : D → Option D) (a : ME) : ME := fun env s => (a env s).bind fun x s1 => ofO (g x) s1
def m2 (g : D → D → Option D) (a b : ME) : ME := fun env s => (a env s).bind fun x s1 => (b env s1).bind fun y s2 => ofO (g x y) s2
theorem l_op {r : R2} {g : D → D → Option D} {ma mb : ME} (v : V2 c r g) (σ : St) (H : Hp) (Q : VK) : lE c G0 H0 W (m2 g ma mb) σ H Q → tOp r (lE c G0 H0 W ma) (lE c G0 H0 W mb) σ H Q := fun ⟨env, G, s, R, p⟩ =>
  ⟨env, G, s, R, p.bind fun dx s1 x G1 H1 _ e1 qx p1 => ⟨env, G1, s1, R.step e1, p1.bind fun dy s2 y G2 H2 _ e2 qy p2 => by
    cases h : g dx dy with
    | none => rw [h] at p2; exact False.elim p2
    | some d => rw [h] at p2; exact v e2.sub e2.box (qx.mono e2.gg) qy h p2⟩⟩
theorem l_un {r : V → Hp → VK → Prop} {g : D → Option D} {ma : ME} (v : V1 c r g) (σ : St) (H : Hp) (Q : VK) : lE c G0 H0 W (m1 g ma) σ H Q → tUn r (lE c G0 H0 W ma) σ H Q := fun ⟨env, G, s, R, p⟩ =>
  ⟨env, G, s, R, p.bind fun dx s1 x G1 H1 _ e1 qx p1 => by
    cases h : g dx with
    | none => rw [h] at p1; exact False.elim p1
    | some d => rw [h] at p1; exact v e1.sub e1.box qx h p1⟩
theorem k_op {op : Operator} {r : R2} {g : D → D → Option D} {ma mb : ME} (v : V2 c r g) (ho : OpR X (binaryOp op) r) (ha : KE X c G0 H0 W a ma) (hb : KE X c G0 H0 W b mb) : KE X c G0 H0 W (.BinOp a op b pos) (m2 g ma mb) := pe_imp (pe_op ho ha hb) (l_op v)
theorem k_un {op : UnaryOp} {r : V → Hp → VK → Prop} {g : D → Option D} {ma : ME} (v : V1 c r g) (ho : UnR X (unaryOp op) r) (ha : KE X c G0 H0 W a ma) : KE X c G0 H0 W (.UnaryOp op a pos) (m1 g ma) := pe_imp (pe_un ho ha) (l_un v)
theorem k_cmp {op : CmpOp} {r : R2} {g : D → D → Option D} {ma mb : ME} (v : V2 c r g) (ho : OpR X (compareOp op) r) (ha : KE X c G0 H0 W a ma) (hb : KE X c G0 H0 W b mb) (hm : behindInMarks op b = false) : KE X c G0 H0 W (.Compare a [op] [b] pos) (m2 g ma mb) := pe_imp (pe_cmpR ho ha hb hm) (l_op v)
theorem k_ix {r : R2} {g : D → D → Option D} {ma mb : ME} (v : V2 c r g) (hr : IxR X r) (ha : KE X c G0 H0 W a ma) (hb : KE X c G0 H0 W b mb) (hs : PlainIx b) : KE X c G0 H0 W (.Subscript a b pos) (m2 g ma mb) := pe_imp (pe_ix hr ha hb hs) (l_op v)

/-! ### tests -/
def asB (d : D) : Option Bool := match d with | .bl b => some b | _ => none
def mTest (a : ME) : MT := fun env s => (a env s).bind fun d s1 => ofO (asB d) s1
theorem l_test {ma : ME} {R1 : TE} (hR : ∀ σ H Q, lE c G0 H0 W ma σ H Q → R1 σ H Q) (σ : St) (H : Hp) (Q : Bool → Hp → Prop) : lT c G0 H0 W (mTest ma) σ H Q → R1 σ H (fun x H' => ∃ k, x = .bl k ∧ Q k H') := fun ⟨env, G, s, R, p⟩ =>
  hR σ H _ ⟨env, G, s, R, p.bind fun d s1 x G1 H1 _ e1 qx p1 => by
    cases d with
    | bl b => cases qx; exact ⟨b, rfl, p1 b G1 H1 (.refl e1.sub e1.box) rfl⟩
    | _ => exact False.elim p1⟩
/-- an expression that gives a bool, as a test -/
theorem k_test {ma : ME} (h : KE X c G0 H0 W e ma) (he : ∀ whole, isTrue e X.env whole = (do let v ← whole; standAt e.pos; holding [v] (truthy v)) := by intro _; rfl) : KT X c G0 H0 W e (mTest ma) := pt_imp (pt_val h he) (l_test fun _ _ _ q => q)
theorem k_tcmp {op : CmpOp} {r : R2} {g : D → D → Option D} {ma mb : ME} (v : V2 c r g) (ho : OpR X (compareOp op) r) (ha : KE X c G0 H0 W a ma) (hb : KE X c G0 H0 W b mb) (hm : behindInMarks op b = false) : KT X c G0 H0 W (.Compare a [op] [b] pos) (mTest (m2 g ma mb)) := pt_imp (pt_cmpR ho ha hb hm) (l_test (l_op v))
def mAnd (a b : MT) : MT := fun env s => (a env s).bind fun x s1 => if x = true then b env s1 else .ok false s1
def mOr (a b : MT) : MT := fun env s => (a env s).bind fun x s1 => if x = true then .ok true s1 else b env s1
def mNot (a : MT) : MT := fun env s => (a env s).bind fun x s1 => .ok (!x) s1
theorem k_and1 {ma : MT} (ha : KT X c G0 H0 W a ma) : KW X c G0 H0 W (.BoolOp .And [a] pos) ma := pw_and1 ha
theorem k_or1 {ma : MT} (ha : KT X c G0 H0 W a ma) : KW X c G0 H0 W (.BoolOp .Or [a] pos) ma := pw_or1 ha
theorem k_and {ma mb : MT} (ha : KT X c G0 H0 W a ma) (hb : KW X c G0 H0 W (.BoolOp .And (b :: es) pos) mb) : KW X c G0 H0 W (.BoolOp .And (a :: b :: es) pos) (mAnd ma mb) := pw_imp (pw_and ha hb) fun σ H Q ⟨env, G, s, R, p⟩ =>
  ⟨env, G, s, R, p.bind fun x s1 y G1 H1 _ e1 q p1 => by
    subst q
    cases y with
    | true => exact ⟨env, G1, s1, R.step e1, p1⟩
    | false => exact p1 false G1 H1 (.refl e1.sub e1.box) rfl⟩
theorem k_or {ma mb : MT} (ha : KT X c G0 H0 W a ma) (hb : KW X c G0 H0 W (.BoolOp .Or (b :: es) pos) mb) : KW X c G0 H0 W (.BoolOp .Or (a :: b :: es) pos) (mOr ma mb) := pw_imp (pw_or ha hb) fun σ H Q ⟨env, G, s, R, p⟩ =>
  ⟨env, G, s, R, p.bind fun x s1 y G1 H1 _ e1 q p1 => by
    subst q
    cases y with
    | false => exact ⟨env, G1, s1, R.step e1, p1⟩
    | true => exact p1 true G1 H1 (.refl e1.sub e1.box) rfl⟩
theorem k_not {ma : MT} (ha : KT X c G0 H0 W a ma) : KT X c G0 H0 W (.UnaryOp .Not a pos) (mNot ma) := pt_imp (pt_not ha) fun σ H Q ⟨env, G, s, R, p⟩ =>
  ⟨env, G, s, R, p.bind fun x s1 y G1 H1 _ e1 q p1 => by subst q; exact p1 _ G1 H1 (.refl e1.sub e1.box) rfl⟩
/-- .. as values, of bools -/
def mAndV (a b : ME) : ME := fun env s => (a env s).bind fun x s1 => match x with | .bl true => b env s1 | .bl false => .ok (.bl false) s1 | _ => .bad
def mOrV (a b : ME) : ME := fun env s => (a env s).bind fun x s1 => match x with | .bl true => .ok (.bl true) s1 | .bl false => b env s1 | _ => .bad
def mNotV (a : ME) : ME := fun env s => (a env s).bind fun x s1 => match x with | .bl k => .ok (.bl (!k)) s1 | _ => .bad
theorem k_oneV {op : BoolOp} {ma : ME} (ha : KE X c G0 H0 W a ma) : KE X c G0 H0 W (.BoolOp op [a] pos) ma := pe_one ha
theorem k_andV {ma mb : ME} (ha : KE X c G0 H0 W a ma) (hb : KE X c G0 H0 W (.BoolOp .And (b :: es) pos) mb) : KE X c G0 H0 W (.BoolOp .And (a :: b :: es) pos) (mAndV ma mb) := pe_imp (pe_and ha hb) fun σ H Q ⟨env, G, s, R, p⟩ =>
  ⟨env, G, s, R, p.bind fun x s1 y G1 H1 _ e1 q p1 => by
    cases x with
    | bl k =>
      cases q
      cases k with
      | true => exact ⟨true, rfl, env, G1, s1, R.step e1, p1⟩
      | false => exact ⟨false, rfl, p1 _ G1 H1 (.refl e1.sub e1.box) (.bl false)⟩
    | _ => exact False.elim p1⟩
theorem k_orV {ma mb : ME} (ha : KE X c G0 H0 W a ma) (hb : KE X c G0 H0 W (.BoolOp .Or (b :: es) pos) mb) : KE X c G0 H0 W (.BoolOp .Or (a :: b :: es) pos) (mOrV ma mb) := pe_imp (pe_or ha hb) fun σ H Q ⟨env, G, s, R, p⟩ =>
  ⟨env, G, s, R, p.bind fun x s1 y G1 H1 _ e1 q p1 => by
    cases x with
    | bl k =>
      cases q
      cases k with
      | false => exact ⟨false, rfl, env, G1, s1, R.step e1, p1⟩
      | true => exact ⟨true, rfl, p1 _ G1 H1 (.refl e1.sub e1.box) (.bl true)⟩
    | _ => exact False.elim p1⟩
theorem k_notV {ma : ME} (ha : KE X c G0 H0 W a ma) : KE X c G0 H0 W (.UnaryOp .Not a pos) (mNotV ma) := pe_imp (pe_not ha) fun σ H Q ⟨env, G, s, R, p⟩ =>
  ⟨env, G, s, R, p.bind fun x s1 y G1 H1 _ e1 q p1 => by
    cases x with
    | bl k => cases q; exact ⟨k, rfl, p1 _ G1 H1 (.refl e1.sub e1.box) (.bl _)⟩
    | _ => exact False.elim p1⟩
def mIf (t : MT) (a b : ME) : ME := fun env s => (t env s).bind fun x s1 => if x = true then a env s1 else b env s1
theorem k_if {mt : MT} {ma mb : ME} (ht : KT X c G0 H0 W d mt) (ha : KE X c G0 H0 W a ma) (hb : KE X c G0 H0 W b mb) : KE X c G0 H0 W (.IfExp d a b pos) (mIf mt ma mb) := pe_imp (pe_ifExp ht ha hb) fun σ H Q ⟨env, G, s, R, p⟩ =>
  ⟨env, G, s, R, p.bind fun x s1 y G1 H1 _ e1 q p1 => by
    subst q
    cases y with
    | true => exact ⟨env, G1, s1, R.step e1, p1⟩
    | false => exact ⟨env, G1, s1, R.step e1, p1⟩⟩
/-- a < b < c -/
def mChain (g g' : D → D → Option D) (a b d : ME) : ME := fun env s => (a env s).bind fun x s1 => (b env s1).bind fun y s2 => (ofO (g x y) s2).bind fun z s3 =>
  match z with | .bl true => (d env s3).bind fun w s4 => ofO (g' y w) s4 | .bl false => .ok (.bl false) s3 | _ => .bad
theorem l_chain {r r' : R2} {g g' : D → D → Option D} {ma mb md : ME} (v : V2 c r g) (v' : V2 c r' g') (σ : St) (H : Hp) (Q : VK) : lE c G0 H0 W (mChain g g' ma mb md) σ H Q → tChain r r' (lE c G0 H0 W ma) (lE c G0 H0 W mb) (lE c G0 H0 W md) σ H Q := fun ⟨env, G, s, R, p⟩ =>
  ⟨env, G, s, R, p.bind fun dx s1 x G1 H1 _ e1 qx p1 => ⟨env, G1, s1, R.step e1, p1.bind fun dy s2 y G2 H2 _ e2 qy p2 => by
    cases h : g dx dy with
    | none => rw [h] at p2; exact False.elim p2
    | some z =>
      rw [h] at p2
      refine v e2.sub e2.box (qx.mono e2.gg) qy h fun w G3 H3 e3 qw => ?_
      have p3 := Post.shift (s := s2) p2 e3
      cases z with
      | bl k =>
        cases qw
        refine ⟨k, rfl, ?_⟩
        cases k with
        | true =>
          refine ⟨env, G3, s2, ((R.step e1).step e2).step e3, Post.bind p3 fun dw s4 w G4 H4 _ e4 qw p4 => ?_⟩
          cases h2 : g' dy dw with
          | none => rw [h2] at p4; exact False.elim p4
          | some d => rw [h2] at p4; exact v' e4.sub e4.box ((qy.mono e3.gg).mono e4.gg) qw h2 p4
        | false => exact p3 _ G3 H3 (.refl e3.sub e3.box) (.bl false)
      | _ => exact False.elim p3⟩⟩
theorem k_chain {op op' : CmpOp} {r r' : R2} {g g' : D → D → Option D} {ma mb md : ME} (v : V2 c r g) (v' : V2 c r' g') (ho : OpR X (compareOp op) r) (ho' : OpR X (compareOp op') r') (ha : KE X c G0 H0 W a ma) (hb : KE X c G0 H0 W b mb) (hd : KE X c G0 H0 W d md)
    (hm : lastMarks [op, op'] [b, d] = false) : KE X c G0 H0 W (.Compare a [op, op'] [b, d] pos) (mChain g g' ma mb md) := pe_imp (pe_chain ho ho' ha hb hd hm) (l_chain v v')

/-! ### arguments, displays -/
def mNil : MA := fun _ s => .ok [] s
def mCons (a : ME) (r : MA) : MA := fun env s => (a env s).bind fun x s1 => (r env s1).bind fun xs s2 => .ok (x :: xs) s2
theorem k_nil : KA X c G0 H0 W [] mNil := pa_imp pa_nil fun σ H Q ⟨env, G, s, R, p⟩ => p [] G H (.refl R.ex.sub R.ex.box) .nil
theorem k_cons {ma : ME} {mr : MA} (ha : KE X c G0 H0 W e ma) (hr : KA X c G0 H0 W es mr) (hs : starEach (e :: es) X.env = (false, eval e X.env) :: starEach es X.env := by rfl) : KA X c G0 H0 W (e :: es) (mCons ma mr) := pa_imp (pa_cons ha hr hs) fun σ H Q ⟨env, G, s, R, p⟩ =>
  ⟨env, G, s, R, p.bind fun x s1 v G1 H1 _ e1 q p1 => ⟨env, G1, s1, R.step e1, p1.bind fun xs s2 vs G2 H2 _ e2 qs p2 => p2 (v :: vs) G2 H2 (.refl e2.sub e2.box) (.cons (q.mono e2.gg) qs)⟩⟩
/-- what is short enough to be made -/
def small {α : Type} (l : List α) : Bool := decide (l.length ≤ 1000000)
theorem small_line {n : Nat} (h : n ≤ 1000000) : n ≤ sizeLine := Nat.le_trans h (by decide)
theorem small_lt {n : Nat} (h : n ≤ 1000000) : n < sizeLine := Nat.lt_of_le_of_lt h (by decide)
def tupO (l : List D) : Option D := if small l = true then some (.tup l) else none
def lstO (l : List D) : Option (List D) := if small l = true then some l else none
theorem tupO_some {l : List D} {d : D} (h : tupO l = some d) : d = .tup l ∧ l.length ≤ 1000000 := by
  unfold tupO at h
  split at h
  · rename_i q
    exact ⟨(Option.some.inj h).symm, of_decide_eq_true q⟩
  · cases h
theorem lstO_some {l m : List D} (h : lstO l = some m) : m = l ∧ l.length ≤ 1000000 := by
  unfold lstO at h
  split at h
  · rename_i q
    exact ⟨(Option.some.inj h).symm, of_decide_eq_true q⟩
  · cases h
def mTup (a : MA) : ME := fun env s => (a env s).bind fun l s1 => ofO (tupO l) s1
theorem k_tup {x1} {ma : MA} (h : KA X c G0 H0 W es ma) : KE X c G0 H0 W (.Tuple es x1 pos) (mTup ma) := pe_imp (pe_tup h) fun σ H Q ⟨env, G, s, R, p⟩ =>
  ⟨env, G, s, R, p.bind fun l s1 vs G1 H1 _ e1 q p1 => by
    cases z : tupO l with
    | none => rw [z] at p1; exact False.elim p1
    | some d =>
      rw [z] at p1
      obtain ⟨rfl, hz⟩ := tupO_some z
      exact ⟨small_line (by rw [q.len]; exact hz), valT (s := s1) e1.sub e1.box q p1⟩⟩
def mLst (a : MA) : MA := fun env s => (a env s).bind fun l s1 => ofO (lstO l) s1
theorem k_lst {ma : MA} (h : KA X c G0 H0 W es ma) : KN X c G0 H0 W (.List es pos) (mLst ma) := pe_imp (pe_lst h) fun σ H Q ⟨env, G, s, R, p⟩ => by
  refine ⟨env, G, s, R, ?_⟩
  unfold mLst at p
  cases hr : ma env s with
  | bad => rw [hr] at p; exact p
  | ex n d s1 => rw [hr] at p; exact p
  | ok l s1 =>
    rw [hr] at p
    intro vs G1 H1 e1 q
    cases z : lstO l with
    | none =>
      have p' : PostN c G H (ofO (lstO l) s1) (fun cl dd H' => W cl dd σ H') Q := p
      rw [z] at p'; exact False.elim p'
    | some m =>
      have p' : PostN c G H (ofO (lstO l) s1) (fun cl dd H' => W cl dd σ H') Q := p
      rw [z] at p'
      obtain ⟨rfl, hz⟩ := lstO_some z
      refine ⟨small_line (by rw [q.len]; exact hz), valN (s := s1) e1.sub e1.box q fun p2 ys G2 H2 e2 h1 h2 h3 h4 => p' p2 ys G2 H2 (e1.trans e2) ?_ h2 h3 h4⟩
      cases w : H p2 with
      | none => rfl
      | some o =>
        by_cases f : Foot c p2
        · exact absurd h1 (e1.box.foot f)
        · rw [e1.keep p2 o f w] at h1; cases h1
theorem PostN.bind {γ δ : Type} {G H : Hp} {rel1 : Hp → δ → γ → Prop} {r : Res γ} {f : γ → BoxSt → Res (List D)} {E : XK} {Q : VK} {Q1 : δ → Hp → Prop}
    (p : PostN c G H (r.bind f) E Q) (k : ∀ a s b G' H', r = .ok a s → Ex c G H G' H' s → rel1 G' b a → PostN c G' H' (f a s) E Q → Q1 b H') : Post c G H rel1 r E Q1 := by
  cases r with
  | bad => exact p
  | ex n d s1 => exact p
  | ok a s1 =>
    intro b G1 H1 e1 q
    refine k a s1 b G1 H1 rfl e1 q ?_
    have p' : PostN c G H (f a s1) E Q := p
    cases hf : f a s1 with
    | bad => rw [hf] at p'; exact p'
    | ex n d s2 =>
      rw [hf] at p'
      exact fun cl dd G2 H2 e2 z => p' cl dd G2 H2 (e1.trans e2) z
    | ok l s2 =>
      rw [hf] at p'
      refine fun p2 ys G2 H2 e2 h1 h2 h3 h4 => p' p2 ys G2 H2 (e1.trans e2) ?_ h2 h3 h4
      cases w : H p2 with
      | none => rfl
      | some o =>
        by_cases f : Foot c p2
        · exact absurd h1 (e1.box.foot f)
        · rw [e1.keep p2 o f w] at h1; cases h1
/-- a new list, shared at once -/
def mOf (a : MA) : ME := fun env s => (a env s).bind fun l s1 => .ok (.lst l) s1
theorem k_sh {ma : MA} (h : KN X c G0 H0 W e ma) : KE X c G0 H0 W e (mOf ma) := pe_imp h fun σ H Q ⟨env, G, s, R, p⟩ => by
  refine ⟨env, G, s, R, ?_⟩
  unfold mOf at p
  cases hr : ma env s with
  | bad => rw [hr] at p; exact p
  | ex n d s1 => rw [hr] at p; exact p
  | ok l s1 =>
    rw [hr] at p
    intro p2 xs G1 H1 e1 h1 h2 h3 h4
    obtain ⟨a, b⟩ := share e1 h1 h2 h3 h4
    exact p _ _ _ a b

/-! ### calls -/
def mCall (g : List D → Option D) (a : MA) : ME := fun env s => (a env s).bind fun l s1 => ofO (g l) s1
theorem l_call {r : List V → Hp → VK → Prop} {g : List D → Option D} {ma : MA} (v : VC c r g) (σ : St) (H : Hp) (Q : VK) : lE c G0 H0 W (mCall g ma) σ H Q → tCB r (lA c G0 H0 W ma) σ H Q := fun ⟨env, G, s, R, p⟩ =>
  ⟨env, G, s, R, p.bind fun l s1 vs G1 H1 _ e1 q p1 => by
    cases z : g l with
    | none => rw [z] at p1; exact False.elim p1
    | some d => rw [z] at p1; exact v e1.sub e1.box q z p1⟩
theorem k_callB {x : Str} {id : String} {p : Pos} {r : List V → Hp → VK → Prop} {g : List D → Option D} {ma : MA} (v : VC c r g) (hc : CallR X (.builtin id) r) (hg : Gl X x) (hm : X.mg x = none) (hv : bootBuiltins x = some (.builtin id)) (ha : KA X c G0 H0 W (e :: es) ma) (hn : x ≠ "__name__" := by decide) (hdb : (x == ("__debug__" : Str)) = false := by decide)
    (he : starEach (e :: es) X.env = (false, eval e X.env) :: starEach es X.env := by rfl) (hpl : (backTo pos (starEach es X.env)).any (·.1) = false := by rfl) : KE X c G0 H0 W (.Call (.Name x p) (e :: es) [] pos) (mCall g ma) := pe_imp (pe_callB hc hg hm hv ha hn hdb he hpl) (l_call v)
theorem k_callTy {x : Str} {T : String} {p : Pos} {r : List V → Hp → VK → Prop} {g : List D → Option D} {ma : MA} (v : VC c r g) (hc : CallR X (.type T) r) (hg : Gl X x) (hm : X.mg x = none) (hv : bootBuiltins x = some (.type T)) (ha : KA X c G0 H0 W (e :: es) ma) (hn : x ≠ "__name__" := by decide) (hdb : (x == ("__debug__" : Str)) = false := by decide)
    (he : starEach (e :: es) X.env = (false, eval e X.env) :: starEach es X.env := by rfl) (hpl : (backTo pos (starEach es X.env)).any (·.1) = false := by rfl) : KE X c G0 H0 W (.Call (.Name x p) (e :: es) [] pos) (mCall g ma) := pe_imp (pe_callTy hc hg hm hv ha hn hdb he hpl) (l_call v)
/-- a call that makes a new list -/
def mCallN (g : List D → Option (List D)) (a : MA) : MA := fun env s => (a env s).bind fun l s1 => ofO (g l) s1
theorem l_callN {r : List V → Hp → VK → Prop} {g : List D → Option (List D)} {ma : MA} (v : VN c r g) (σ : St) (H : Hp) (Q : VK) : lN c G0 H0 W (mCallN g ma) σ H Q → tCB r (lA c G0 H0 W ma) σ H Q := fun ⟨env, G, s, R, p⟩ =>
  ⟨env, G, s, R, PostN.bind p fun l s1 vs G1 H1 _ e1 q p1 => by
    cases z : g l with
    | none => rw [z] at p1; exact False.elim p1
    | some d => rw [z] at p1; exact v e1.sub e1.box q z p1⟩
theorem k_callNTy {x : Str} {T : String} {p : Pos} {r : List V → Hp → VK → Prop} {g : List D → Option (List D)} {ma : MA} (v : VN c r g) (hc : CallR X (.type T) r) (hg : Gl X x) (hm : X.mg x = none) (hv : bootBuiltins x = some (.type T)) (ha : KA X c G0 H0 W (e :: es) ma) (hn : x ≠ "__name__" := by decide) (hdb : (x == ("__debug__" : Str)) = false := by decide)
    (he : starEach (e :: es) X.env = (false, eval e X.env) :: starEach es X.env := by rfl) (hpl : (backTo pos (starEach es X.env)).any (·.1) = false := by rfl) : KN X c G0 H0 W (.Call (.Name x p) (e :: es) [] pos) (mCallN g ma) := pe_imp (pe_callTy hc hg hm hv ha hn hdb he hpl) (l_callN v)
/-- a def's call -/
def mFn (f : List D → BoxSt → Res D) (a : MA) : ME := fun env s => (a env s).bind fun l s1 => f l s1
theorem k_fn {t : Sc} {bx : Option (Addr × Addr)} {k : Nat} {fa : Addr} {fd : FuncData} {ps : List Str} {x : Str} {p : Pos} {f : List D → BoxSt → Res D} {ma : MA} (tk : L2N.Takes X W) (hr : Room k X.A) (F : FnOk X.prog X.w X.K X.mg X.base (L2N.CX X.prog X.w) k fa fd ps (spU t f)) (hg : Gl X x) (hm : X.mg x = some (.ref fa)) (hk : PySem.W.keepIn X.K (.ref fa) = true) (hb : Binds X.K fd ps [])
    (ha : KA X ⟨t, bx⟩ G0 H0 W (e :: es) ma) (hdb : (x == ("__debug__" : Str)) = false := by decide) (he : starEach (e :: es) X.env = (false, eval e X.env) :: starEach es X.env := by rfl) (hpl : (backTo pos (starEach es X.env)).any (·.1) = false := by rfl) :
    KE X ⟨t, bx⟩ G0 H0 W (.Call (.Name x p) (e :: es) [] pos) (mFn f ma) := pe_imp (pe_callS (E := WE W) F hr hg hm hk hb (fun σ => L2N.passAt tk σ) ha hdb he hpl) fun σ H Q ⟨env, G, s, R, q⟩ =>
  ⟨env, G, s, R, q.bind fun l s1 vs G1 H1 _ e1 qs p1 => ⟨bx, G1, l, s1, e1.sub, e1.box, R.foot' e1, qs, p1⟩⟩
/-- a built-in's method -/
def mMeth (g : D → List D → Option D) (o : ME) (a : MA) : ME := fun env s => (o env s).bind fun x s1 => (a env s1).bind fun l s2 => ofO (g x l) s2
end
end Kn

end

section
set_option Elab.async false
set_option linter.all false
set_option maxRecDepth 100000
set_option maxHeartbeats 1000000
/-! Kn2: operations on values, over data. -/
namespace Kn
open PySem L2

section
variable {c : Cn}
/-! ### intsOf -/
def int2 (g : Int → Int → D) (x y : D) : Option D := match x, y with | .int i, .int j => some (g i j) | _, _ => none
theorem v_I0 {g : Int → Int → V} {h : Int → Int → D} (f : ∀ i j, Flat (g i j) (h i j)) : V2 c (rI0 g) (int2 h) := fun {G H s x y dx dy d Q} e b hx hy hg k => by
  unfold int2 at hg
  split at hg
  · cases hx; cases hy; cases hg
    exact ⟨_, _, rfl, rfl, val e b (f _ _).dd k⟩
  · cases hg
def int2c (C : Int → Int → Bool) (g : Int → Int → D) (x y : D) : Option D := match x, y with | .int i, .int j => if C i j = true then some (g i j) else none | _, _ => none
theorem v_I {C : Int → Int → Prop} {C' : Int → Int → Bool} {g : Int → Int → V} {h : Int → Int → D} (f : ∀ i j, Flat (g i j) (h i j)) (hc : ∀ i j, C' i j = true → C i j) : V2 c (rI C g) (int2c C' h) := fun {G H s x y dx dy d Q} e b hx hy hg k => by
  unfold int2c at hg
  split at hg
  · split at hg
    · rename_i q
      cases hx; cases hy; cases hg
      exact ⟨_, _, rfl, rfl, hc _ _ q, val e b (f _ _).dd k⟩
    · cases hg
  · cases hg
def addI : D → D → Option D := int2 fun i j => .int (i + j)
def subI : D → D → Option D := int2 fun i j => .int (i - j)
def ltI : D → D → Option D := int2 fun i j => .bl (decide (i < j))
def leI : D → D → Option D := int2 fun i j => .bl (decide (i ≤ j))
def gtI : D → D → Option D := int2 fun i j => .bl (decide (j < i))
def geI : D → D → Option D := int2 fun i j => .bl (decide (j ≤ i))
theorem v_sub : V2 c (rI0 fun i j => .int (i - j)) subI := v_I0 fun _ _ => .int _
theorem v_lt : V2 c (rI0 fun i j => .bl (decide (i < j))) ltI := v_I0 fun _ _ => .bl _
theorem v_le : V2 c (rI0 fun i j => .bl (decide (i ≤ j))) leI := v_I0 fun _ _ => .bl _
theorem v_gt : V2 c (rI0 fun i j => .bl (decide (j < i))) gtI := v_I0 fun _ _ => .bl _
theorem v_ge : V2 c (rI0 fun i j => .bl (decide (j ≤ i))) geI := v_I0 fun _ _ => .bl _
def negI (x : D) : Option D := match x with | .int i => some (.int (-i)) | _ => none
theorem v_neg : V1 c (rU fun i => .int (-i)) negI := fun {G H s x dx d Q} e b hx hg k => by
  unfold negI at hg
  split at hg
  · cases hx; cases hg
    exact ⟨_, rfl, val e b (.int _) k⟩
  · cases hg

/-! ### + -/
/-- int + int, text + text, tuple + tuple -/
def addO (x y : D) : Option D := match x, y with
  | .int i, .int j => some (.int (i + j))
  | .str a, .str b => if a.length + b.length ≤ 1000000 then some (.str (a ++ b)) else none
  | .tup a, .tup b => if a.length + b.length ≤ 1000000 then some (.tup (a ++ b)) else none
  | _, _ => none
def rAddS : R2 := fun x y H Q => ∃ i j, x = .str i ∧ y = .str j ∧ i.length + j.length ≤ sizeLine ∧ Q (.str (i ++ j)) H
theorem v_add : V2 c (fun x y H Q => rI0 (fun i j => .int (i + j)) x y H Q ∨ (rAddS x y H Q ∨ rCatA c.st.K x y H Q)) addO := fun {G H s x y dx dy d Q} e b hx hy hg k => by
  unfold addO at hg
  split at hg
  · cases hx; cases hy; cases hg
    exact .inl ⟨_, _, rfl, rfl, val e b (.int _) k⟩
  · split at hg
    · rename_i q
      cases hx; cases hy; cases hg
      exact .inr (.inl ⟨_, _, rfl, rfl, small_line q, val e b (.str _) k⟩)
    · cases hg
  · split at hg
    · rename_i q
      cases hx with
      | tup hx rx =>
        cases hy with
        | tup hy ry =>
          cases hg
          have h1 := same_seqT e hx
          have h2 := same_seqT e hy
          refine .inr (.inr ⟨_, _, _, _, rfl, rfl, h1, h2, small_line (by rw [rx.len, ry.len]; exact q), fun z => ?_, fun _ z => ?_, fun _ _ => valT e b (rx.app ry) k⟩)
          · subst z; cases rx
            exact val e b (.tup hy ry) k
          · subst z; cases ry
            rw [List.append_nil] at k
            exact val e b (.tup hx rx) k
    · cases hg
  · cases hg
/-- list + list, a new one -/
def catO (l : List D) : Option (List D) := match l with | [.lst a, .lst b] => if a.length + b.length ≤ 1000000 then some (a ++ b) else none | _ => none
/-- * : int * int (one of both not great), text * int, list * int -/
def mulO (x y : D) : Option D := match x, y with
  | .int i, .int j => if (-(2 ^ 64) < i ∧ i < 2 ^ 64) ∨ (-(2 ^ 64) < j ∧ j < 2 ^ 64) then some (.int (i * j)) else none
  | _, _ => none
theorem v_mul : V2 c (rI CMul fun i j => .int (i * j)) mulO := fun {G H s x y dx dy d Q} e b hx hy hg k => by
  unfold mulO at hg
  split at hg
  · split at hg
    · rename_i q
      cases hx; cases hy; cases hg
      exact ⟨_, _, rfl, rfl, q, val e b (.int _) k⟩
    · cases hg
  · cases hg

/-! ### == -/
def toP : D → Option PyData
  | .non => some .none
  | .bl b => some (.bool b)
  | .int i => some (.int i)
  | .str x => some (.str x)
  | .lst l => (toPs l).map .list
  | .tup l => (toPs l).map .tuple
  | .ins _ _ => none
  | .box => none
where toPs : List D → Option (List PyData)
  | [] => some []
  | x :: r => (toP x).bind fun p => (toPs r).map fun q => p :: q
mutual
theorem dp_of {G : Hp} : ∀ {v : V} {d : D} {p : PyData}, Dd c G v d → toP d = some p → Dp c.st.K G v p
  | _, _, _, .non, h => by cases h; exact .non
  | _, _, _, .bl b, h => by cases h; exact .bl b
  | _, _, _, .int i, h => by cases h; exact .int i
  | _, _, _, .str x, h => by cases h; exact .str x
  | _, _, _, .lst (ds := ds) hx r, h => by
    unfold toP at h
    cases q : toP.toPs ds with
    | none => rw [q] at h; cases h
    | some ps => rw [q] at h; cases h; exact .lst (SqL.of hx) (da_of r q)
  | _, _, _, .tup (ds := ds) hx r, h => by
    unfold toP at h
    cases q : toP.toPs ds with
    | none => rw [q] at h; cases h
    | some ps => rw [q] at h; cases h; exact .tup hx (da_of r q)
  | _, _, _, .ins _ _ _, h => by cases h
  | _, _, _, .box _, h => by cases h
theorem da_of {G : Hp} : ∀ {vs : List V} {ds : List D} {ps : List PyData}, Da c G vs ds → toP.toPs ds = some ps → DpAll c.st.K G vs ps
  | _, _, _, .nil, h => by cases h; exact .nil
  | _, _, _, .cons (d := d) (ds := ds) x r, h => by
    unfold toP.toPs at h
    cases q : toP d with
    | none => rw [q] at h; cases h
    | some p =>
      rw [q] at h
      cases q2 : toP.toPs ds with
      | none => rw [q2] at h; cases h
      | some ps => rw [q2] at h; cases h; exact .cons (dp_of x q) (da_of r q2)
end
mutual
theorem Dp.mono {K : PySem.W.Frag} {G H : Hp} (e : Same G H) : ∀ {v : V} {p : PyData}, Dp K G v p → Dp K H v p
  | _, _, .non => .non
  | _, _, .bl b => .bl b
  | _, _, .int i => .int i
  | _, _, .str x => .str x
  | _, _, .lst h r => .lst (e.seq h) (Dp.monoA e r)
  | _, _, .tup h r => .tup (same_seqT e h) (Dp.monoA e r)
theorem Dp.monoA {K : PySem.W.Frag} {G H : Hp} (e : Same G H) : ∀ {v : List V} {p : List PyData}, DpAll K G v p → DpAll K H v p
  | _, _, .nil => .nil
  | _, _, .cons h r => .cons (Dp.mono e h) (Dp.monoA e r)
end
mutual
theorem plain_toP : ∀ {d : D} {p : PyData}, toP d = some p → p.plain = true
  | .non, _, h => by cases h; rfl
  | .bl _, _, h => by cases h; rfl
  | .int _, _, h => by cases h; rfl
  | .str _, _, h => by cases h; rfl
  | .lst l, _, h => by
    unfold toP at h
    cases q : toP.toPs l with
    | none => rw [q] at h; cases h
    | some ps => rw [q] at h; cases h; exact plain_toPs q
  | .tup l, _, h => by
    unfold toP at h
    cases q : toP.toPs l with
    | none => rw [q] at h; cases h
    | some ps => rw [q] at h; cases h; exact plain_toPs q
  | .ins _ _, _, h => by cases h
  | .box, _, h => by cases h
theorem plain_toPs : ∀ {l : List D} {p : List PyData}, toP.toPs l = some p → PyData.plainAll p = true
  | [], _, h => by cases h; rfl
  | d :: ds, _, h => by
    unfold toP.toPs at h
    cases q : toP d with
    | none => rw [q] at h; cases h
    | some p =>
      rw [q] at h
      cases q2 : toP.toPs ds with
      | none => rw [q2] at h; cases h
      | some ps =>
        rw [q2] at h; cases h
        unfold PyData.plainAll
        rw [plain_toP q, plain_toPs q2]
        rfl
end
section
variable {X : Cx}
def rEqP (K : PySem.W.Frag) : R2 := fun x y H Q => ∃ d e, Dp K H x d ∧ Dp K H y e ∧ d.plain = true ∧ e.plain = true ∧ min d.depth e.depth ≤ 64 ∧ Q (.bl (PyData.eqv d e)) H
def rNeP (K : PySem.W.Frag) : R2 := fun x y H Q => ∃ d e, Dp K H x d ∧ Dp K H y e ∧ d.plain = true ∧ e.plain = true ∧ min d.depth e.depth ≤ 64 ∧ Q (.bl (!PyData.eqv d e)) H
theorem op_eqP (hu : X.A.units + 64 < cLine) : OpR X (compareOp .Eq) (rEqP X.K) := by
  intro pins s σ H x y v u Q I rx ry ⟨d, e, hd, he, sd, se, dp, q⟩
  obtain ⟨as, r1⟩ := Dp.reads I d x v hd rx
  obtain ⟨bs, r2⟩ := Dp.reads I e y u he ry
  exact SeqAt.eq_plain r1 r2 sd se (by omega) ⟨.bl _, H, I, rfl, q⟩
theorem op_neP (hu : X.A.units + 64 < cLine) : OpR X (compareOp .NotEq) (rNeP X.K) := by
  intro pins s σ H x y v u Q I rx ry ⟨d, e, hd, he, sd, se, dp, q⟩
  obtain ⟨as, r1⟩ := Dp.reads I d x v hd rx
  obtain ⟨bs, r2⟩ := Dp.reads I e y u he ry
  exact SeqAt.ne_plain r1 r2 sd se (by omega) ⟨.bl _, H, I, rfl, q⟩
end
/-- == of data -/
def eqD (x y : D) : Option Bool := match x, y with
  | .non, .non => some true | .int i, .int j => some (decide (i = j)) | .bl a, .bl b => some (decide (a = b)) | .str a, .str b => some (decide (a = b))
  | .non, .int _ | .non, .bl _ | .non, .str _ | .int _, .non | .bl _, .non | .str _, .non | .int _, .str _ | .str _, .int _ | .bl _, .str _ | .str _, .bl _ => some false
  | x, y => (toP x).bind fun p => (toP y).bind fun q => if min p.depth q.depth ≤ 64 then some (PyData.eqv p q) else none
def eqO (x y : D) : Option D := (eqD x y).map .bl
def neO (x y : D) : Option D := (eqD x y).map fun b => .bl (!b)
theorem eqD_cases {G H : Hp} {x y : V} {dx dy : D} {b : Bool} (e : Same G H) (hx : Dd c G x dx) (hy : Dd c G y dy) (h : eqD dx dy = some b) :
    (scal x y = true ∧ decide (x = y) = b) ∨ ∃ p q, Dp c.st.K H x p ∧ Dp c.st.K H y q ∧ p.plain = true ∧ q.plain = true ∧ min p.depth q.depth ≤ 64 ∧ PyData.eqv p q = b := by
  unfold eqD at h
  split at h
  case h_1 => cases hx; cases hy; cases h; exact .inl ⟨rfl, rfl⟩
  case h_2 i j => cases hx; cases hy; cases h; exact .inl ⟨rfl, decide_eq_decide.mpr ⟨V.int.inj, fun z => by rw [z]⟩⟩
  case h_3 i j => cases hx; cases hy; cases h; exact .inl ⟨rfl, decide_eq_decide.mpr ⟨V.bl.inj, fun z => by rw [z]⟩⟩
  case h_4 i j => cases hx; cases hy; cases h; exact .inl ⟨rfl, decide_eq_decide.mpr ⟨V.str.inj, fun z => by rw [z]⟩⟩
  case h_15 =>
    cases p1 : toP dx with
    | none => rw [p1] at h; cases h
    | some p =>
      rw [p1] at h
      cases p2 : toP dy with
      | none => rw [p2] at h; cases h
      | some q =>
        rw [p2] at h
        have h' : (if min p.depth q.depth ≤ 64 then some (PyData.eqv p q) else none) = some b := h
        split at h'
        · rename_i z
          exact .inr ⟨p, q, Dp.mono e (dp_of hx p1), Dp.mono e (dp_of hy p2), plain_toP p1, plain_toP p2, z, Option.some.inj h'⟩
        · cases h'
  all_goals (cases hx; cases hy; cases h; exact .inl ⟨rfl, rfl⟩)
theorem v_eq : V2 c (fun x y H Q => rEq x y H Q ∨ rEqP c.st.K x y H Q) eqO := fun {G H s x y dx dy d Q} e b hx hy hg k => by
  unfold eqO at hg
  cases q : eqD dx dy with
  | none => rw [q] at hg; cases hg
  | some r =>
    rw [q] at hg; cases hg
    rcases eqD_cases e hx hy q with ⟨h1, h2⟩ | ⟨p, p', h1, h2, h3, h4, h5, h6⟩
    · exact .inl ⟨h1, by rw [h2]; exact val e b (.bl _) k⟩
    · exact .inr ⟨p, p', h1, h2, h3, h4, h5, by rw [h6]; exact val e b (.bl _) k⟩
theorem v_ne : V2 c (fun x y H Q => rNe x y H Q ∨ rNeP c.st.K x y H Q) neO := fun {G H s x y dx dy d Q} e b hx hy hg k => by
  unfold neO at hg
  cases q : eqD dx dy with
  | none => rw [q] at hg; cases hg
  | some r =>
    rw [q] at hg; cases hg
    rcases eqD_cases e hx hy q with ⟨h1, h2⟩ | ⟨p, p', h1, h2, h3, h4, h5, h6⟩
    · exact .inl ⟨h1, by rw [h2]; exact val e b (.bl _) k⟩
    · exact .inr ⟨p, p', h1, h2, h3, h4, h5, by rw [h6]; exact val e b (.bl _) k⟩
theorem o_eq {X : Cx} (hu : X.A.units + 64 < cLine) : OpR X (compareOp .Eq) (fun x y H Q => rEq x y H Q ∨ rEqP X.K x y H Q) := op_eq.or (op_eqP hu)
theorem o_ne {X : Cx} (hu : X.A.units + 64 < cLine) : OpR X (compareOp .NotEq) (fun x y H Q => rNe x y H Q ∨ rNeP X.K x y H Q) := op_ne.or (op_neP hu)
theorem o_add {X : Cx} : OpR X (binaryOp .Add) (fun x y H Q => rI0 (fun i j => .int (i + j)) x y H Q ∨ (rAddS x y H Q ∨ rCatA X.K x y H Q)) := op_add.or (op_add_str.or op_catA)

/-! ### is -/
def isNo (d : D) : Bool := match d with | .non => true | _ => false
theorem dd_non {G : Hp} {v : V} {d : D} (h : Dd c G v d) : decide (v = .non) = isNo d := by cases h <;> rfl
def isN (x y : D) : Option D := match y with | .non => some (.bl (isNo x)) | _ => none
def notN (x y : D) : Option D := match y with | .non => some (.bl (!isNo x)) | _ => none
theorem v_isN : V2 c (fun x y H Q => y = .non ∧ Q (.bl (decide (x = .non))) H) isN := fun {G H s x y dx dy d Q} e b hx hy hg k => by
  unfold isN at hg
  split at hg
  · cases hy; cases hg
    exact ⟨rfl, by rw [dd_non hx]; exact val e b (.bl _) k⟩
  · cases hg
theorem v_notN : V2 c (fun x y H Q => y = .non ∧ Q (.bl (!decide (x = .non))) H) notN := fun {G H s x y dx dy d Q} e b hx hy hg k => by
  unfold notN at hg
  split at hg
  · cases hy; cases hg
    exact ⟨rfl, by rw [dd_non hx]; exact val e b (.bl _) k⟩
  · cases hg
def isB (x y : D) : Option D := match x, y with | .bl a, .bl b => some (.bl (decide (a = b))) | _, _ => none
theorem v_isB : V2 c rIsB isB := fun {G H s x y dx dy d Q} e b hx hy hg k => by
  unfold isB at hg
  split at hg
  · cases hx; cases hy; cases hg
    exact ⟨_, _, rfl, rfl, val e b (.bl _) k⟩
  · cases hg

/-! ### places -/
def ixO (x y : D) : Option D := match x, y with
  | .lst l, .int i => atI l i
  | .tup l, .int i => atI l i
  | .str z, .int i => if z.length ≤ 1000000 then (atI z.cps.toList i).map fun k => .str ⟨#[k]⟩ else none
  | _, _ => none
theorem at_dd {G : Hp} {xs : List V} {ds : List D} {i : Int} {d : D} (r : Da c G xs ds) (h : atI ds i = some d) : ∃ v, atI xs i = some v ∧ Dd c G v d := by
  unfold atI at h ⊢
  rw [r.len]
  cases q : ixN ds.length i with
  | none => rw [q] at h; cases h
  | some j =>
    rw [q] at h
    exact r.get h
theorem v_ix : V2 c (rIx c.st.K) ixO := fun {G H s x y dx dy d Q} e b hx hy hg k => by
  unfold ixO at hg
  split at hg
  · cases hx with
    | lst hx rx =>
      cases hy
      obtain ⟨v, h1, h2⟩ := at_dd rx hg
      exact .inl ⟨_, _, _, _, rfl, rfl, SqL.of (e _ _ hx), h1, val e b h2 k⟩
  · cases hx with
    | tup hx rx =>
      cases hy
      obtain ⟨v, h1, h2⟩ := at_dd rx hg
      exact .inr (.inl ⟨_, _, _, _, rfl, rfl, same_seqT e hx, h1, val e b h2 k⟩)
  · split at hg
    · rename_i q
      cases hx; cases hy
      rename_i z i
      cases h : atI z.cps.toList i with
      | none => rw [h] at hg; cases hg
      | some n =>
        rw [h] at hg; cases hg
        exact .inr (.inr ⟨_, _, _, rfl, rfl, small_line q, h, val e b (.str _) k⟩)
    · cases hg
  · cases hg

/-! ### in -/
/-- one sign in a text -/
def inSign (x y : D) : Option D := match x, y with
  | .str a, .str z => (match a.cps.toList with | [k] => some (.bl (decide (k ∈ z.cps.toList))) | _ => none)
  | _, _ => none
theorem v_inSign : V2 c (fun x y H Q => ∃ (k : Nat) (z : Str), x = .str ⟨#[k]⟩ ∧ y = .str z ∧ Q (.bl (decide (k ∈ z.cps.toList))) H) inSign := fun {G H s x y dx dy d Q} e b hx hy hg k => by
  unfold inSign at hg
  split at hg
  · rename_i a z
    split at hg
    · rename_i n q
      cases hx; cases hy; cases hg
      have ea : a = ⟨#[n]⟩ := by
        obtain ⟨w⟩ := a
        have z : w = #[n] := by rw [← Array.toList_inj]; exact q
        rw [z]
      subst ea
      exact ⟨_, _, rfl, rfl, val e b (.bl _) k⟩
    · cases hg
  · cases hg

/-! ### built-ins -/
def lenO (l : List D) : Option D := match l with
  | [.str z] => if z.length ≤ 1000000 then some (.int z.length) else none
  | [.lst l] => some (.int l.length)
  | [.tup l] => some (.int l.length)
  | _ => none
theorem v_len : VC c (fun xs H Q => ∃ x n, xs = [x] ∧ LenV c.st.K x H n ∧ Q (.int n) H) lenO := fun {G H s xs ds d Q} e b hx hg k => by
  unfold lenO at hg
  split at hg
  · split at hg
    · rename_i q
      cases hx with
      | cons h r => cases r; cases h; cases hg; exact ⟨_, _, rfl, ⟨small_line q, rfl⟩, val e b (.int _) k⟩
    · cases hg
  · cases hx with
    | cons h r =>
      cases r
      cases h with
      | lst h rx => cases hg; exact ⟨_, _, rfl, .inl ⟨_, SqL.of (e _ _ h), rfl⟩, by rw [rx.len]; exact val e b (.int _) k⟩
  · cases hx with
    | cons h r =>
      cases r
      cases h with
      | tup h rx => cases hg; exact ⟨_, _, rfl, .inr ⟨_, same_seqT e h, rfl⟩, by rw [rx.len]; exact val e b (.int _) k⟩
  · cases hg
/-- str(n) -/
def strO (l : List D) : Option D := match l with | [.int i] => if i.natAbs.log2 < 1920 then some (.str (toString i)) else none | _ => none
theorem v_str : VC c (fun xs H Q => ∃ i, xs = [.int i] ∧ i.natAbs.log2 < 1920 ∧ Q (.str (toString i)) H) strO := fun {G H s xs ds d Q} e b hx hg k => by
  unfold strO at hg
  split at hg
  · split at hg
    · rename_i q
      cases hx with
      | cons h r => cases r; cases h; cases hg; exact ⟨_, rfl, q, val e b (.str _) k⟩
    · cases hg
  · cases hg
/-- int(text), int(n) -/
def intO (l : List D) : Option D := match l with
  | [.int i] => some (.int i)
  | [.str z] => if z.length ≤ 640 then (PySem.intText? z).map .int else none
  | _ => none
theorem v_int : VC c (fun xs H Q => (∃ i, xs = [.int i] ∧ Q (.int i) H) ∨ ∃ a n, xs = [.str a] ∧ PySem.intText? a = some n ∧ a.length ≤ 640 ∧ Q (.int n) H) intO := fun {G H s xs ds d Q} e b hx hg k => by
  unfold intO at hg
  split at hg
  · cases hx with
    | cons h r => cases r; cases h; cases hg; exact .inl ⟨_, rfl, val e b (.int _) k⟩
  · split at hg
    · rename_i z q
      cases hx with
      | cons h r =>
        cases r; cases h
        cases w : PySem.intText? z with
        | none => rw [w] at hg; cases hg
        | some n => rw [w] at hg; cases hg; exact .inr ⟨_, _, rfl, w, q, val e b (.int _) k⟩
    · cases hg
  · cases hg
theorem CallR_or {X : Cx} {f : Value} {r r' : List V → Hp → VK → Prop} (h : CallR X f r) (h' : CallR X f r') : CallR X f (fun xs H Q => r xs H Q ∨ r' xs H Q) := by
  intro pins s σ H xs us Q I rs q
  rcases q with q | q
  · exact h pins s σ H xs us Q I rs q
  · exact h' pins s σ H xs us Q I rs q
theorem o_int {X : Cx} : CallR X (.type "int") (fun xs H Q => (∃ i, xs = [.int i] ∧ Q (.int i) H) ∨ ∃ a n, xs = [.str a] ∧ PySem.intText? a = some n ∧ a.length ≤ 640 ∧ Q (.int n) H) := by
  intro pins s σ H xs us Q I rs q
  rcases q with ⟨i, rfl, q⟩ | q
  · exact call_int1 pins s σ H _ us Q I rs (.inl ⟨i, rfl, q⟩)
  · exact call_int_str pins s σ H xs us Q I rs q
/-- bools of a list -/
def bools : List D → Option (List Bool)
  | [] => some []
  | .bl b :: r => (bools r).map fun l => b :: l
  | _ :: _ => none
theorem bools_da {G : Hp} : ∀ {xs : List V} {ds : List D} {bs : List Bool}, Da c G xs ds → bools ds = some bs → xs = bs.map V.bl
  | _, _, _, .nil, h => by cases h; rfl
  | _, _, _, .cons (ds := ds) h r, q => by
    cases h with
    | bl b =>
      unfold bools at q
      cases w : bools ds with
      | none => rw [w] at q; cases q
      | some l => rw [w] at q; cases q; rw [bools_da r w]; rfl
    | _ => cases q
def allO (l : List D) : Option D := match l with | [.lst l] => (bools l).map fun bs => .bl (bs.all id) | _ => none
def anyO (l : List D) : Option D := match l with | [.lst l] => (bools l).map fun bs => .bl (bs.any id) | _ => none
theorem v_all : VC c (rAll c.st.K) allO := fun {G H s xs ds d Q} e b hx hg k => by
  unfold allO at hg
  split at hg
  · rename_i l
    cases hx with
    | cons h r =>
      cases r
      cases h with
      | lst h rx =>
        cases w : bools l with
        | none => rw [w] at hg; cases hg
        | some bs =>
          rw [w] at hg; cases hg
          have ee := bools_da rx w
          subst ee
          exact ⟨_, bs, rfl, SqL.of (e _ _ h), val e b (.bl _) k⟩
  · cases hg
theorem v_any : VC c (rAny c.st.K) anyO := fun {G H s xs ds d Q} e b hx hg k => by
  unfold anyO at hg
  split at hg
  · rename_i l
    cases hx with
    | cons h r =>
      cases r
      cases h with
      | lst h rx =>
        cases w : bools l with
        | none => rw [w] at hg; cases hg
        | some bs =>
          rw [w] at hg; cases hg
          have ee := bools_da rx w
          subst ee
          exact ⟨_, bs, rfl, SqL.of (e _ _ h), val e b (.bl _) k⟩
  · cases hg
/-- tuple(x) -/
def tupleO (l : List D) : Option D := match l with | [.lst l] => some (.tup l) | [.tup l] => some (.tup l) | _ => none
theorem v_tuple : VC c (fun xs H Q => ∃ p ys, xs = [.ref p] ∧ ((SqL c.st.K H p ys ∧ ∀ l, H l = none → Q (.ref l) (upd H l (.tup ys))) ∨ (SqT c.st.K H p ys ∧ Q (.ref p) H))) tupleO := fun {G H s xs ds d Q} e b hx hg k => by
  unfold tupleO at hg
  split at hg
  · cases hx with
    | cons h r =>
      cases r
      cases h with
      | lst h rx => cases hg; exact ⟨_, _, rfl, .inl ⟨SqL.of (e _ _ h), valT e b rx k⟩⟩
  · cases hx with
    | cons h r =>
      cases r
      cases h with
      | tup h rx => cases hg; exact ⟨_, _, rfl, .inr ⟨same_seqT e h, val e b (.tup h rx) k⟩⟩
  · cases hg
/-- list(x), a new list -/
def listO (l : List D) : Option (List D) := match l with | [.lst l] => some l | [.tup l] => some l | _ => none
theorem v_list : VN c (fun xs H Q => ∃ p ys, xs = [.ref p] ∧ (SqL c.st.K H p ys ∨ SqT c.st.K H p ys) ∧ ∀ l, H l = none → Q (.ref l) (upd H l (.lst ys))) listO := fun {G H s xs ds l Q} e b hx hg k => by
  unfold listO at hg
  split at hg
  · cases hx with
    | cons h r =>
      cases r
      cases h with
      | lst h rx => cases hg; exact ⟨_, _, rfl, .inl (SqL.of (e _ _ h)), valN e b rx k⟩
  · cases hx with
    | cons h r =>
      cases r
      cases h with
      | tup h rx => cases hg; exact ⟨_, _, rfl, .inr (same_seqT e h), valN e b rx k⟩
  · cases hg
/-- intsOf of a list -/
def intsOf : List D → Option (List Int)
  | [] => some []
  | .int b :: r => (intsOf r).map fun l => b :: l
  | _ :: _ => none
theorem ints_da {G : Hp} : ∀ {xs : List V} {ds : List D} {bs : List Int}, Da c G xs ds → intsOf ds = some bs → xs = bs.map V.int
  | _, _, _, .nil, h => by cases h; rfl
  | _, _, _, .cons (ds := ds) h r, q => by
    cases h with
    | int b =>
      unfold intsOf at q
      cases w : intsOf ds with
      | none => rw [w] at q; cases q
      | some l => rw [w] at q; cases q; rw [ints_da r w]; rfl
    | _ => cases q
/-- texts of a list -/
def strsOf : List D → Option (List Str)
  | [] => some []
  | .str b :: r => (strsOf r).map fun l => b :: l
  | _ :: _ => none
theorem strs_da {G : Hp} : ∀ {xs : List V} {ds : List D} {bs : List Str}, Da c G xs ds → strsOf ds = some bs → xs = bs.map V.str
  | _, _, _, .nil, h => by cases h; rfl
  | _, _, _, .cons (ds := ds) h r, q => by
    cases h with
    | str b =>
      unfold strsOf at q
      cases w : strsOf ds with
      | none => rw [w] at q; cases q
      | some l => rw [w] at q; cases q; rw [strs_da r w]; rfl
    | _ => cases q
theorem da_strs {G : Hp} : ∀ l : List Str, Da c G (l.map V.str) (l.map D.str)
  | [] => .nil
  | x :: r => .cons (.str x) (da_strs r)
theorem da_ints {G : Hp} : ∀ l : List Int, Da c G (l.map V.int) (l.map D.int)
  | [] => .nil
  | x :: r => .cons (.int x) (da_ints r)
/-- the least of a list of intsOf that is not empty -/
def minI : List Int → Option Int
  | [] => none
  | x :: r => some (r.foldl min x)
theorem minI_ok : ∀ {l : List Int} {m : Int}, minI l = some m → m ∈ l ∧ ∀ y ∈ l, m ≤ y := by
  have aux : ∀ (r : List Int) (x : Int), (r.foldl min x = x ∨ r.foldl min x ∈ r) ∧ r.foldl min x ≤ x ∧ ∀ y ∈ r, r.foldl min x ≤ y := by
    intro r
    induction r with
    | nil => intro x; exact ⟨.inl rfl, Int.le_refl _, by simp⟩
    | cons a r ih =>
      intro x
      obtain ⟨h1, h2, h3⟩ := ih (min x a)
      rw [List.foldl_cons]
      refine ⟨?_, by omega, fun y hy => ?_⟩
      · rcases h1 with h1 | h1
        · rw [h1]
          by_cases hx : x ≤ a
          · left; omega
          · right; rw [show min x a = a by omega]; exact List.mem_cons_self
        · right; exact List.mem_cons_of_mem _ h1
      · rcases List.mem_cons.mp hy with rfl | hy
        · omega
        · exact h3 y hy
  intro l m h
  cases l with
  | nil => cases h
  | cons x r =>
    cases h
    obtain ⟨h1, h2, h3⟩ := aux r x
    refine ⟨?_, fun y hy => ?_⟩
    · rcases h1 with h1 | h1
      · rw [h1]; exact List.mem_cons_self
      · exact List.mem_cons_of_mem _ h1
    · rcases List.mem_cons.mp hy with rfl | hy
      · exact h2
      · exact h3 y hy
def minO (l : List D) : Option D := match l with | [.lst l] => (intsOf l).bind fun ns => (minI ns).map .int | _ => none
theorem v_min : VC c (rMin c.st.K) minO := fun {G H s xs ds d Q} e b hx hg k => by
  unfold minO at hg
  split at hg
  · rename_i l
    cases hx with
    | cons h r =>
      cases r
      cases h with
      | lst h rx =>
        cases w : intsOf l with
        | none => rw [w] at hg; cases hg
        | some ns =>
          rw [w] at hg
          have ee := ints_da rx w
          subst ee
          cases m : minI ns with
          | none =>
            have hg' : (minI ns).map D.int = some d := hg
            rw [m] at hg'; cases hg'
          | some n =>
            have hg' : (minI ns).map D.int = some d := hg
            rw [m] at hg'; cases hg'
            obtain ⟨m1, m2⟩ := minI_ok m
            refine ⟨_, ns, rfl, SqL.of (e _ _ h), List.length_pos_of_mem m1, fun n' h1 h2 => ?_⟩
            have en : n' = n := Int.le_antisymm (h2 n m1) (m2 n' h1)
            subst en
            exact val e b (.int _) k
  · cases hg
end
end Kn

end

section
set_option Elab.async false
set_option linter.all false
set_option maxRecDepth 100000
set_option maxHeartbeats 1000000
/-! Kn3: statements, targets, walks, comprehensions, loops, defs. -/
namespace Kn
open PySem L2

section
variable {X : Cx} {c : Cn} {G0 H0 : Hp} {W : WX} {a b d e o : Expr} {es : List Expr} {st : Stmt} {sts : List Stmt} {pos : Pos}

/-! ### statements -/
def mNext : MS := fun env s => .nx env s
def mSeq (a b : MS) : MS := fun env s => match a env s with | .nx e s1 => b e s1 | r => r
theorem s_nil : KB X c G0 H0 W [] mNext := pss_imp pss_nil fun E σ H ⟨env, G, s, R, p⟩ => p σ G H R (.refl _)
theorem l_seq {ma mb : MS} {t u : TS} (h1 : ∀ E σ H, lS c G0 H0 W ma E σ H → t E σ H) (h2 : ∀ E σ H, lS c G0 H0 W mb E σ H → u E σ H) (E : Ends) (σ : St) (H : Hp) : lS c G0 H0 W (mSeq ma mb) E σ H → tSeq t u E σ H := fun ⟨env, G, s, R, p⟩ => by
  refine h1 _ σ H ⟨env, G, s, R, ?_⟩
  unfold mSeq at p
  cases q : ma env s with
  | nx e1 s1 =>
    rw [q] at p
    exact fun σ1 G1 H1 R1 e1 => h2 E σ1 H1 ⟨_, G1, s1, R1, SPost.up p e1⟩
  | rt d s1 => rw [q] at p; exact p
  | bk e1 s1 => rw [q] at p; exact p
  | ct e1 s1 => rw [q] at p; exact p
  | ex n d e1 s1 => rw [q] at p; exact p
  | bad => rw [q] at p; exact p
theorem s_cons {ma mb : MS} (h1 : KS X c G0 H0 W st ma) (h2 : KB X c G0 H0 W sts mb) : KB X c G0 H0 W (st :: sts) (mSeq ma mb) := pss_imp (pss_cons h1 h2) (l_seq (fun _ _ _ q => q) (fun _ _ _ q => q))
theorem s_one {ma : MS} (h1 : KS X c G0 H0 W st ma) : KB X c G0 H0 W [st] ma := pss_one h1

/-- an expression's result, then what is done with it -/
def after {α : Type} (env : En) (r : Res α) (f : α → BoxSt → SR) : SR := match r with
  | .ok a s => f a s
  | .ex n d s => .ex n d env s
  | .bad => .bad
theorem after_post {α β : Type} {G H : Hp} {rel : Hp → β → α → Prop} {env : En} {σ : St} {s : BoxSt} {r : Res α} {f : α → BoxSt → SR} {E : Ends} {Q : β → Hp → Prop} (R : Rel c G0 H0 env σ G H s)
    (p : SPost c G0 H0 G (after env r f) W E) (k : ∀ a s1 b G1 H1, r = .ok a s1 → Ex c G H G1 H1 s1 → rel G1 b a → SPost c G0 H0 G1 (f a s1) W E → Q b H1) : Post c G H rel r (fun cl dd H' => W cl dd σ H') Q := by
  cases r with
  | ok a s1 => exact fun b G1 H1 e1 q => k a s1 b G1 H1 rfl e1 q (SPost.up (r := f a s1) p e1.gg)
  | ex n d s1 => exact fun cl dd G1 H1 e1 q => p cl dd σ G1 H1 (R.step e1) e1.gg q
  | bad => exact p
def mRet (a : ME) : MS := fun env s => after env (a env s) fun d s1 => .rt d s1
theorem s_ret {ma : ME} (h : KE X c G0 H0 W e ma) : KS X c G0 H0 W (.Return (some e) pos) (mRet ma) := ps_imp (ps_ret h) fun E σ H ⟨env, G, s, R, p⟩ =>
  ⟨env, G, s, R, after_post R p fun d s1 v G1 H1 _ e1 q p1 => p1 v G1 H1 (R.step e1).ex q⟩
def mRetN : MS := fun _ s => .rt .non s
theorem s_retN : KS X c G0 H0 W (.Return none pos) mRetN := ps_imp ps_retN fun E σ H ⟨env, G, s, R, p⟩ => p .non G H R.ex .non
def mDrop (a : ME) : MS := fun env s => after env (a env s) fun _ s1 => .nx env s1
theorem s_drop {ma : ME} (h : KE X c G0 H0 W e ma) (hs : swapsWith e none pos.line X.env = pure false := by rfl) : KS X c G0 H0 W (.Expr e pos) (mDrop ma) := ps_imp (ps_expr h hs) fun E σ H ⟨env, G, s, R, p⟩ =>
  ⟨env, G, s, R, after_post R p fun d s1 v G1 H1 _ e1 q p1 => p1 σ G1 H1 (R.step e1) (.refl _)⟩
def mIfS (t : MT) (a b : MS) : MS := fun env s => after env (t env s) fun x s1 => if x = true then a env s1 else b env s1
theorem s_if {mt : MT} {ma mb : MS} {as bs : List Stmt} (ht : KT X c G0 H0 W d mt) (ha : KB X c G0 H0 W as ma) (hb : KB X c G0 H0 W bs mb) : KS X c G0 H0 W (.If d as bs pos) (mIfS mt ma mb) := ps_imp (ps_if ht ha hb) fun E σ H ⟨env, G, s, R, p⟩ =>
  ⟨env, G, s, R, after_post R p fun x s1 y G1 H1 _ e1 q p1 => by
    subst q
    cases y with
    | true => exact ⟨env, G1, s1, R.step e1, p1⟩
    | false => exact ⟨env, G1, s1, R.step e1, p1⟩⟩

/-! ### what a slot holds -/
theorem Rel.set {env : En} {σ : St} {G H : Hp} {s : BoxSt} {i : Nat} {v : V} {d : D} (R : Rel c G0 H0 env σ G H s) (q : Dd c G v d) : Rel c G0 H0 (env.set i (.sh d)) (σ.set i (some v)) G H s := by
  obtain ⟨ad, h1, h2⟩ := R.ad
  refine ⟨R.ex, R.box0, R.foot, by rw [List.length_set, List.length_set]; exact R.len, ad, fun j x hx => ?_, fun j k l m hj hk => ?_⟩
  · by_cases e : i = j
    · subst e
      by_cases hl : i < env.length
      · rw [List.getElem?_set_self hl] at hx
        cases hx
        exact ⟨v, List.getElem?_set_self (by rw [← R.len]; exact hl), q⟩
      · rw [List.getElem?_eq_none (by rw [List.length_set]; omega)] at hx; cases hx
    · rw [List.getElem?_set_ne e] at hx
      rw [List.getElem?_set_ne e]
      exact h1 j x hx
  · by_cases e : i = j
    · subst e
      by_cases hl : i < env.length
      · rw [List.getElem?_set_self hl] at hj; cases hj
      · rw [List.getElem?_eq_none (by rw [List.length_set]; omega)] at hj; cases hj
    · by_cases e2 : i = k
      · subst e2
        by_cases hl : i < env.length
        · rw [List.getElem?_set_self hl] at hk; cases hk
        · rw [List.getElem?_eq_none (by rw [List.length_set]; omega)] at hk; cases hk
      · rw [List.getElem?_set_ne e] at hj
        rw [List.getElem?_set_ne e2] at hk
        exact h2 j k l m hj hk
theorem Rel.own {env : En} {σ : St} {G H : Hp} {s : BoxSt} {i : Nat} {p : Addr} {xs : List V} {l : List D} (R : Rel c G0 H0 env σ G H s) (h0 : H0 p = none) (hg : G p = none) (hp : H p = some (.lst xs)) (q : Da c G xs l)
    (new : ∀ (j : Nat) (m : List D) (ad : Nat → Addr), (∀ i e, env[i]? = some e → SlOk c G H H0 (ad i) σ[i]? e) → env[j]? = some (.ow m) → ad j ≠ p) : Rel c G0 H0 (env.set i (.ow l)) (σ.set i (some (.ref p))) G H s := by
  obtain ⟨ad, h1, h2⟩ := R.ad
  have nw := fun j m hj => new j m ad h1 hj
  refine ⟨R.ex, R.box0, R.foot, by rw [List.length_set, List.length_set]; exact R.len, fun j => if j = i then p else ad j, fun j x hx => ?_, fun j k l' m hj hk hjk => ?_⟩
  · by_cases e : i = j
    · subst e
      by_cases hl : i < env.length
      · rw [List.getElem?_set_self hl] at hx
        cases hx
        show SlOk c G H H0 (if i = i then p else ad i) _ _
        rw [if_pos rfl]
        exact ⟨List.getElem?_set_self (by rw [← R.len]; exact hl), hg, h0, xs, hp, q⟩
      · rw [List.getElem?_eq_none (by rw [List.length_set]; omega)] at hx; cases hx
    · rw [List.getElem?_set_ne e] at hx
      rw [List.getElem?_set_ne e]
      show SlOk c G H H0 (if j = i then p else ad j) _ _
      rw [if_neg (fun z => e z.symm)]
      exact h1 j x hx
  · have hjk' : (if j = i then p else ad j) = (if k = i then p else ad k) := hjk
    by_cases e : j = i
    · by_cases e2 : k = i
      · rw [e, e2]
      · rw [if_pos e, if_neg e2] at hjk'
        rw [List.getElem?_set_ne (fun z => e2 z.symm)] at hk
        exact absurd hjk'.symm (nw k m hk)
    · by_cases e2 : k = i
      · rw [if_neg e, if_pos e2] at hjk'
        rw [List.getElem?_set_ne (fun z => e z.symm)] at hj
        exact absurd hjk' (nw j l' hj)
      · rw [if_neg e, if_neg e2] at hjk'
        rw [List.getElem?_set_ne (fun z => e z.symm)] at hj
        rw [List.getElem?_set_ne (fun z => e2 z.symm)] at hk
        exact h2 j k l' m hj hk hjk'

/-- x = e -/
def mAsg (i : Nat) (a : ME) : MS := fun env s => after env (a env s) fun d s1 => .nx (env.set i (.sh d)) s1
theorem l_asg {i : Nat} {ma : ME} (E : Ends) (σ : St) (H : Hp) : lS c G0 H0 W (mAsg i ma) E σ H → tAsg (lE c G0 H0 W ma) (gName i) E σ H := fun ⟨env, G, s, R, p⟩ =>
  ⟨env, G, s, R, after_post R p fun d s1 v G1 H1 _ e1 q p1 => p1 _ G1 H1 ((R.step e1).set q) (.refl _)⟩
theorem s_asg {i : Nat} {x : Str} {ma : ME} {pos' : Pos} (hN : X.N.Nodup) (hi : X.N[i]? = some x) (hx : Loc X.env.scope x) (h : KE X c G0 H0 W e ma) (hs : swapsWith e (some (.Name x pos')) pos.line X.env = pure false := by rfl) (hf : X.fn x = true ∨ X.env.scope.names.lookup x = some .local := by first | exact .inl rfl | exact .inr rfl | assumption) :
    KS X c G0 H0 W (.Assign [.Name x pos'] e pos) (mAsg i ma) := ps_imp (ps_set hN hi hx h hs hf) l_asg
/-- x = a list that x alone holds -/
def mAsgO (i : Nat) (a : MA) : MS := fun env s => after env (a env s) fun l s1 => .nx (env.set i (.ow l)) s1
theorem l_asgO {i : Nat} {ma : MA} (E : Ends) (σ : St) (H : Hp) : lS c G0 H0 W (mAsgO i ma) E σ H → tAsg (lN c G0 H0 W ma) (gName i) E σ H := fun ⟨env, G, s, R, p⟩ => by
  refine ⟨env, G, s, R, ?_⟩
  unfold mAsgO at p
  cases q : ma env s with
  | bad => rw [q] at p; exact p
  | ex n d s1 => rw [q] at p; exact fun cl dd G1 H1 e1 z => p cl dd σ G1 H1 (R.step e1) e1.gg z
  | ok l s1 =>
    rw [q] at p
    refine fun p2 xs G1 H1 e1 h1 h2 h3 h4 => p _ G1 H1 ((R.step e1).own ?_ h2 h3 h4 fun j m ad hs hj z => ?_) e1.gg
    · cases w : H0 p2 with
      | none => rfl
      | some o =>
        obtain ⟨s0, b0⟩ := R.box0
        by_cases f : Foot c p2
        · exact absurd h1 (R.ex.box.foot f)
        · rw [R.ex.keep p2 o f w] at h1; cases h1
    · obtain ⟨ad0, k1, _⟩ := R.ad
      have a1 := hs j _ hj
      have a2 := k1 j _ hj
      obtain ⟨v1, _, _, _, _, _⟩ := a1
      obtain ⟨v2, _, _, ys, hy, _⟩ := a2
      rw [v1] at v2
      have ee : ad j = ad0 j := V.ref.inj (Option.some.inj (Option.some.inj v2))
      rw [← ee, z, h1] at hy
      cases hy
theorem s_asgO {i : Nat} {x : Str} {ma : MA} {pos' : Pos} (hN : X.N.Nodup) (hi : X.N[i]? = some x) (hx : Loc X.env.scope x) (h : KN X c G0 H0 W e ma) (hs : swapsWith e (some (.Name x pos')) pos.line X.env = pure false := by rfl) (hf : X.fn x = true ∨ X.env.scope.names.lookup x = some .local := by first | exact .inl rfl | exact .inr rfl | assumption) :
    KS X c G0 H0 W (.Assign [.Name x pos'] e pos) (mAsgO i ma) := ps_imp (ps_set hN hi hx h hs hf) l_asgO
/-- x's own list is shared: nobody will write it -/
def mShare (i : Nat) : MS := fun env s => match env[i]? with | some (.ow l) => .nx (env.set i (.sh (.lst l))) s | _ => .bad
theorem Rel.share {env : En} {σ : St} {G H : Hp} {s : BoxSt} {i : Nat} {l : List D} (R : Rel c G0 H0 env σ G H s) (hi : env[i]? = some (.ow l)) : ∃ G', Same G G' ∧ Rel c G0 H0 (env.set i (.sh (.lst l))) σ G' H s := by
  obtain ⟨ad, h1, h2⟩ := R.ad
  obtain ⟨q1, q2, q3, xs, q4, q5⟩ := h1 i _ hi
  obtain ⟨s0, b0⟩ := R.box0
  have nf : ¬ Foot c (ad i) := fun f => b0.foot f q3
  have up : Same G (upd G (ad i) (.lst xs)) := fun x o h => by rw [upd_ne (ne_of_none h q2)]; exact h
  refine ⟨upd G (ad i) (.lst xs), up, ⟨⟨R.ex.gg.trans up, fun x o h => ?_, R.ex.keep, fun x h z => ?_, R.ex.box⟩, R.box0, fun x f => ?_, by rw [List.length_set]; exact R.len, ad, fun j y hy => ?_, fun j k m n hj hk => ?_⟩⟩
  · by_cases hx : x = ad i
    · subst hx; rw [upd_same] at h; rw [← h]; exact q4
    · rw [upd_ne hx] at h; exact R.ex.sub x o h
  · by_cases hx : x = ad i
    · subst hx; exact q3
    · rw [upd_ne hx] at z; exact R.ex.fresh x h z
  · rw [upd_ne (show x ≠ ad i from fun z => nf (by rw [← z]; exact f))]; exact R.foot x f
  · by_cases e : i = j
    · subst e
      have hl : i < env.length := (List.getElem?_eq_some_iff.mp hi).1
      rw [List.getElem?_set_self hl] at hy
      cases hy
      exact ⟨.ref (ad i), q1, .lst upd_same (q5.mono up)⟩
    · rw [List.getElem?_set_ne e] at hy
      have w := h1 j y hy
      cases y with
      | un => trivial
      | sh d =>
        obtain ⟨v, w1, w2⟩ := w
        exact ⟨v, w1, w2.mono up⟩
      | ow m =>
        obtain ⟨w1, w2, w3, ys, w4, w5⟩ := w
        refine ⟨w1, ?_, w3, ys, w4, w5.mono up⟩
        rw [upd_ne (fun z => e (h2 i j l m hi hy z.symm))]
        exact w2
  · by_cases e : i = j
    · subst e
      have hl : i < env.length := (List.getElem?_eq_some_iff.mp hi).1
      rw [List.getElem?_set_self hl] at hj; cases hj
    · by_cases e2 : i = k
      · subst e2
        have hl : i < env.length := (List.getElem?_eq_some_iff.mp hi).1
        rw [List.getElem?_set_self hl] at hk; cases hk
      · rw [List.getElem?_set_ne e] at hj
        rw [List.getElem?_set_ne e2] at hk
        exact h2 j k m n hj hk
/-- .. ahead of a block -/
theorem s_share {i : Nat} {mb : MS} (h : KB X c G0 H0 W sts mb) : KB X c G0 H0 W sts (mSeq (mShare i) mb) := pss_imp h fun E σ H ⟨env, G, s, R, p⟩ => by
  unfold mSeq mShare at p
  cases q : env[i]? with
  | none => rw [q] at p; exact False.elim p
  | some x =>
    rw [q] at p
    cases x with
    | un => exact False.elim p
    | sh d => exact False.elim p
    | ow l =>
      obtain ⟨G', e, R'⟩ := R.share q
      exact ⟨_, G', s, R', SPost.up p e⟩
/-- x.append(e), x's own list -/
def mApp (i : Nat) (a : ME) : MS := fun env s => match env[i]? with
  | some (.ow l) => after env (a env s) fun d s1 => if l.length ≤ 1000000 then .nx (env.set i (.ow (l ++ [d]))) s1 else .bad
  | _ => .bad
theorem Rel.put {env : En} {σ : St} {G H : Hp} {s : BoxSt} {i : Nat} {p : Addr} {l l' : List D} {ys : List V} (R : Rel c G0 H0 env σ G H s) (hi : env[i]? = some (.ow l)) (hp : σ[i]? = some (some (.ref p))) (q : Da c G ys l') : Rel c G0 H0 (env.set i (.ow l')) σ G (upd H p (.lst ys)) s := by
  obtain ⟨ad, h1, h2⟩ := R.ad
  obtain ⟨q1, q2, q3, xs, q4, q5⟩ := h1 i _ hi
  rw [hp] at q1
  have ep : p = ad i := V.ref.inj (Option.some.inj (Option.some.inj q1))
  subst ep
  obtain ⟨s0, b0⟩ := R.box0
  have nf : ¬ Foot c (ad i) := fun f => b0.foot f q3
  have hl : i < env.length := (List.getElem?_eq_some_iff.mp hi).1
  refine ⟨⟨R.ex.gg, fun x o h => ?_, fun x o f h => ?_, R.ex.fresh, fun pr hb => ?_⟩, R.box0, R.foot, by rw [List.length_set]; exact R.len, ad, fun j y hy => ?_, fun j k m n hj hk => ?_⟩
  · rw [upd_ne (fun z => by rw [z, q2] at h; cases h)]; exact R.ex.sub x o h
  · rw [upd_ne (fun z => by rw [z, q3] at h; cases h)]; exact R.ex.keep x o f h
  · obtain ⟨b1, b2, b3⟩ := R.ex.box pr hb
    exact ⟨by rw [upd_ne (fun z => nf ⟨pr, hb, .inl z.symm⟩)]; exact b1, by rw [upd_ne (fun z => nf ⟨pr, hb, .inr z.symm⟩)]; exact b2, b3⟩
  · by_cases e : i = j
    · subst e
      rw [List.getElem?_set_self hl] at hy
      cases hy
      exact ⟨hp, q2, q3, ys, upd_same, q⟩
    · rw [List.getElem?_set_ne e] at hy
      have w := h1 j y hy
      cases y with
      | un => trivial
      | sh d => exact w
      | ow m =>
        obtain ⟨w1, w2, w3, zs, w4, w5⟩ := w
        exact ⟨w1, w2, w3, zs, by rw [upd_ne (fun z => e (h2 i j l m hi hy z.symm))]; exact w4, w5⟩
  · have back : ∀ (j : Nat) (m : List D), (env.set i (Sl.ow l'))[j]? = some (Sl.ow m) → ∃ m', env[j]? = some (Sl.ow m') := fun j m h => by
      by_cases e : i = j
      · subst e; exact ⟨l, hi⟩
      · rw [List.getElem?_set_ne e] at h; exact ⟨m, h⟩
    obtain ⟨_, a1⟩ := back j m hj
    obtain ⟨_, a2⟩ := back k n hk
    exact h2 j k _ _ a1 a2
theorem s_app {i : Nat} {ma : ME} {apos p0 : Pos} {x : Str} (hx : PE X (.Name x p0) (tVar i)) (h : KE X c G0 H0 W e ma)
    (hp : ∀ {to : TE} {t : TA}, PE X (.Name x p0) to → PA X [e] t → PE X (.Call (.Attribute (.Name x p0) "append" apos) [e] [] pos) (tBM X.K "list" rAppend to t))
    (hst : starEach [e] X.env = (false, eval e X.env) :: starEach [] X.env := by rfl) {pos2 : Pos} (hs : swapsWith (.Call (.Attribute (.Name x p0) "append" apos) [e] [] pos) none pos2.line X.env = pure false := by rfl) :
    KS X c G0 H0 W (.Expr (.Call (.Attribute (.Name x p0) "append" apos) [e] [] pos) pos2) (mApp i ma) := ps_imp (ps_expr (hp hx (pa_cons h pa_nil hst)) hs) fun E σ H ⟨env, G, s, R, p⟩ => by
  unfold mApp at p
  cases q : env[i]? with
  | none => rw [q] at p; exact False.elim p
  | some y =>
    rw [q] at p
    cases y with
    | un => exact False.elim p
    | sh d => exact False.elim p
    | ow l =>
      obtain ⟨ad, h1, _⟩ := R.ad
      obtain ⟨q1, q2, q3, xs, q4, q5⟩ := h1 i _ q
      refine ⟨.ref (ad i), q1, .inl ⟨rfl, xs, SqL.of q4⟩, env, G, s, R, after_post R p fun d s1 v G1 H1 _ e1 qv p1 => ?_⟩
      have R1 := R.step e1
      obtain ⟨ad2, k1, _⟩ := R1.ad
      obtain ⟨w1, w2, w3, ys, w4, w5⟩ := k1 i _ q
      rw [q1] at w1
      have ea : ad i = ad2 i := V.ref.inj (Option.some.inj (Option.some.inj w1))
      by_cases hz : l.length ≤ 1000000
      · rw [if_pos hz] at p1
        exact ⟨ad2 i, ys, v, by rw [ea], rfl, w4, small_lt (by rw [w5.len]; exact hz), p1 σ G1 _ (R1.put q (by rw [q1, ea]) (w5.app (.cons qv .nil))) (.refl _)⟩
      · rw [if_neg hz] at p1; exact False.elim p1

/-! ### targets -/
/-- σ' is σ but for the slots at is -/
def Upto (is : List Nat) (σ σ' : St) : Prop := σ'.length = σ.length ∧ ∀ j, j ∉ is → σ'[j]? = σ[j]?
abbrev MG := D → En → Option En
def lG (c : Cn) (G0 H0 : Hp) (is : List Nat) (g : MG) : TG := fun v σ H Q => ∃ d env G s env', Dd c G v d ∧ Rel c G0 H0 env σ G H s ∧ g d env = some env' ∧ ∀ σ', Upto is σ σ' → Rel c G0 H0 env' σ' G H s → Q σ' H
abbrev KG (X : Cx) (c : Cn) (G0 H0 : Hp) (is : List Nat) (tg : Expr) (g : MG) : Prop := PG X tg (lG c G0 H0 is g)
theorem pg_imp {t t' : TG} {tg : Expr} (h : PG X tg t) (k : ∀ v σ H Q, t' v σ H Q → t v σ H Q) : PG X tg t' := ⟨fun pins s σ H v u Q I r q => h.run pins s σ H v u Q I r (k v σ H Q q)⟩
theorem Upto.set {σ : St} {i : Nat} {v : V} : Upto [i] σ (σ.set i (some v)) := ⟨List.length_set, fun j h => List.getElem?_set_ne (fun z => h (by rw [z]; simp))⟩
theorem Upto.trans {is js : List Nat} {σ σ1 σ2 : St} (a : Upto is σ σ1) (b : Upto js σ1 σ2) : Upto (is ++ js) σ σ2 := ⟨b.1.trans a.1, fun j h => (b.2 j fun z => h (List.mem_append_right _ z)).trans (a.2 j fun z => h (List.mem_append_left _ z))⟩
def gN (i : Nat) : MG := fun d env => some (env.set i (.sh d))
theorem g_name {i : Nat} {x : Str} (h : PG X (.Name x pos) (gName i)) : KG X c G0 H0 [i] (.Name x pos) (gN i) := pg_imp h fun v σ H Q ⟨d, env, G, s, env', q, R, hg, k⟩ => by
  cases hg
  exact k _ .set (R.set q)
/-- several names, one behind another -/
abbrev MGs := List D → En → Option En
def gNs : List Nat → MGs
  | [], [], env => some env
  | i :: is, d :: ds, env => gNs is ds (env.set i (.sh d))
  | _, _, _ => none
def tNs : List Nat → TGs
  | [] => gNil
  | i :: is => gCons (gName i) (tNs is)
theorem l_names : ∀ {is : List Nat} {vs : List V} {ds : List D} {σ : St} {H : Hp} {Q : St → Hp → Prop} {env env' : En} {G : Hp} {s : BoxSt}, Da c G vs ds → Rel c G0 H0 env σ G H s → gNs is ds env = some env' → (∀ σ', Upto is σ σ' → Rel c G0 H0 env' σ' G H s → Q σ' H) → tNs is vs σ H Q
  | [], _, _, σ, _, _, _, _, _, _, .nil, R, h, k => by cases h; exact ⟨rfl, k σ ⟨rfl, fun _ _ => rfl⟩ R⟩
  | [], _, _, _, _, _, _, _, _, _, .cons _ _, _, h, _ => by cases h
  | _ :: _, _, _, _, _, _, _, _, _, _, .nil, _, h, _ => by cases h
  | i :: is, _, _, σ, H, Q, env, env', G, s, .cons q r, R, h, k => ⟨_, _, rfl, l_names r (R.set q) h fun σ' u R' => k σ' (Upto.trans (is := [i]) .set u) R'⟩
/-- a tuple's, or a list's, parts -/
def gU (is : List Nat) : MG := fun d env => match d with | .tup l => gNs is l env | .lst l => gNs is l env | _ => none
theorem g_tup {tg : Expr} {is : List Nat} {n : Nat} (hn : is.length = n) (h1 : PG X tg (gTup X.K n (tNs is))) (h2 : PG X tg (gLst X.K n (tNs is))) (hK : X.K = c.st.K := by rfl) : KG X c G0 H0 is tg (gU is) := by
  have len : ∀ {is : List Nat} {ds : List D} {env env' : En}, gNs is ds env = some env' → ds.length = is.length := by
    intro is
    induction is with
    | nil => intro ds env env' h; cases ds with | nil => rfl | cons => cases h
    | cons i is ih => intro ds env env' h; cases ds with | nil => cases h | cons d ds => rw [List.length_cons, List.length_cons, ih h]
  refine ⟨fun pins s σ H v u Q I r ⟨d, env, G, s2, env', q, R, hg, k⟩ => ?_⟩
  cases q with
  | tup hx rx =>
    refine h1.run pins s σ H _ u Q I r ⟨_, _, rfl, by rw [hK]; exact same_seqT R.ex.sub hx, ?_, l_names rx R hg k⟩
    rw [rx.len, len hg, hn]
  | lst hx rx =>
    refine h2.run pins s σ H _ u Q I r ⟨_, _, rfl, SqL.of (R.ex.sub _ _ hx), ?_, l_names rx R hg k⟩
    rw [rx.len, len hg, hn]
  | _ => cases hg
/-- a, b = e as one statement -/
def mAsgG (g : MG) (a : ME) : MS := fun env s => after env (a env s) fun d s1 => match g d env with | some env' => .nx env' s1 | none => .bad
theorem s_asgG {tg : Expr} {is : List Nat} {g : MG} {ma : ME} (h : KE X c G0 H0 W e ma) (hg : KG X c G0 H0 is tg g) (hs : swapsWithSole [tg] e pos.line X.env = pure false := by rfl) (hw : swappedStores [tg] e X.env = pure none := by rfl) (h1 : List.map (fun x => x.snd) (assignEach [tg] X.env) = [assign tg X.env] := by rfl) :
    KS X c G0 H0 W (.Assign [tg] e pos) (mAsgG g ma) := ps_imp (ps_asg h hg hs hw h1) fun E σ H ⟨env, G, s, R, p⟩ =>
  ⟨env, G, s, R, after_post R p fun d s1 v G1 H1 _ e1 q p1 => by
    cases z : g d env with
    | none => rw [z] at p1; exact False.elim p1
    | some env' => rw [z] at p1; exact ⟨d, env, G1, s1, env', q, R.step e1, z, fun σ' _ R' => p1 σ' G1 H1 R' (.refl _)⟩⟩

/-! ### walks -/
/-- it walks over what ds tells -/
structure WOk (c : Cn) (G : Hp) (ds : List D) (Gd : Hp → Prop) (Y : Nat → Hp → V → Hp → Prop) : Prop where
  gd : ∀ G1 H1, Same G G1 → Same G1 H1 → Gd H1
  yl : ∀ i H x H2 G1 s1 d, i < ds.length → Same G G1 → Same G1 H → BoxAt c s1 H → Y i H x H2 → ds[i]? = some d → ∃ G2, Ex c G1 H G2 H2 s1 ∧ Dd c G2 x d
def PostI (c : Cn) (G H : Hp) (r : Res (List D)) (E : XK) (Q : It → Hp → Prop) : Prop := match r with
  | .ok ds s => ∀ G' H' J Gd Y, Ex c G H G' H' s → Walk J ds.length Gd Y → WOk c G' ds Gd Y → Q J H'
  | .ex n d s => ∀ cl dd G' H', Ex c G H G' H' s → XAt c G' H' n d cl dd → E cl dd H'
  | .bad => False
def lI (c : Cn) (G0 H0 : Hp) (W : WX) (m : MA) : TI := fun σ H Q => ∃ env G s, Rel c G0 H0 env σ G H s ∧ PostI c G H (m env s) (fun cl dd H' => W cl dd σ H') Q
abbrev KI (X : Cx) (c : Cn) (G0 H0 : Hp) (W : WX) (tg it : Expr) (m : MA) : Prop := PI X tg it (lI c G0 H0 W m)
theorem pi_imp {tg it : Expr} {t t' : TI} (h : PI X tg it t) (k : ∀ σ H Q, t' σ H Q → t σ H Q) : PI X tg it t' := ⟨fun pins s σ H Q I q => h.run pins s σ H Q I (k σ H Q q)⟩
theorem pi_or {tg it : Expr} {t t' : TI} (h : PI X tg it t) (h' : PI X tg it t') : PI X tg it (fun σ H Q => t σ H Q ∨ t' σ H Q) := ⟨fun pins s σ H Q I q => q.elim (fun z => h.run pins s σ H Q I z) fun z => h'.run pins s σ H Q I z⟩
theorem PostI.bind {γ δ : Type} {G H : Hp} {rel1 : Hp → δ → γ → Prop} {r : Res γ} {f : γ → BoxSt → Res (List D)} {E : XK} {Q : It → Hp → Prop} {Q1 : δ → Hp → Prop}
    (p : PostI c G H (r.bind f) E Q) (k : ∀ a s b G' H', r = .ok a s → Ex c G H G' H' s → rel1 G' b a → PostI c G' H' (f a s) E Q → Q1 b H') : Post c G H rel1 r E Q1 := by
  cases r with
  | bad => exact p
  | ex n d s1 => exact p
  | ok a s1 =>
    intro b G1 H1 e1 q
    refine k a s1 b G1 H1 rfl e1 q ?_
    have p' : PostI c G H (f a s1) E Q := p
    cases hf : f a s1 with
    | bad => rw [hf] at p'; exact p'
    | ex n d s2 => rw [hf] at p'; exact fun cl dd G2 H2 e2 z => p' cl dd G2 H2 (e1.trans e2) z
    | ok l s2 => rw [hf] at p'; exact fun G2 H2 J Gd Y e2 w ok => p' G2 H2 J Gd Y (e1.trans e2) w ok
theorem wok_at {G : Hp} {K : PySem.W.Frag} {xs : List V} {ds : List D} {Gd : Hp → Prop} (r : Da c G xs ds) (h : ∀ G1 H1, Same G G1 → Same G1 H1 → Gd H1) : WOk c G ds Gd (YAt xs) := ⟨h, fun i H x H2 G1 s1 d hi e1 e2 b y hd => by
  obtain ⟨rfl, y⟩ := y
  obtain ⟨d', h1, h2⟩ := r.getV y
  rw [hd] at h1; cases h1
  exact ⟨G1, .refl e2 b, h2.mono e1⟩⟩
/-- for x in e: a list's things, a tuple's, a text's signs -/
def signs (z : Str) : List D := z.cps.toList.map fun k => .str ⟨#[k]⟩
def itO (d : D) : Option (List D) := match d with | .lst l => some l | .tup l => some l | .str z => some (signs z) | _ => none
def mIt (a : ME) : MA := fun env s => (a env s).bind fun d s1 => ofO (itO d) s1
theorem k_it {tg it : Expr} {ma : ME} (h : KE X c G0 H0 W it ma) (hK : X.K = c.st.K := by rfl) : KI X c G0 H0 W tg it (mIt ma) := ⟨fun pins s σ H Q I ⟨env, G, s2, R, p⟩ => by
  cases hr : ma env s2 with
  | bad => unfold mIt at p; rw [hr] at p; exact False.elim p
  | ex n d s3 =>
    refine (pi_list h).run pins s σ H Q I ⟨env, G, s2, R, ?_⟩
    unfold mIt at p
    exact PostI.bind p fun d s1 x G1 H1 z _ _ _ => by rw [hr] at z; cases z
  | ok d s3 =>
    unfold mIt at p
    cases d with
    | lst l =>
      refine (pi_list h).run pins s σ H Q I ⟨env, G, s2, R, PostI.bind p fun d s1 x G1 H1 z e1 q p1 => ?_⟩
      rw [hr] at z; cases z
      cases q with
      | lst hx rx =>
        refine ⟨_, rfl, ⟨_, SqL.of (e1.sub _ _ hx)⟩, p1 G1 H1 _ _ _ (.refl e1.sub e1.box) (by rw [← rx.len]; exact walk_list) (wok_at (K := X.K) rx fun G2 H2 a b => SqL.of (b _ _ (a _ _ hx)))⟩
    | tup l =>
      refine (pi_tup h).run pins s σ H Q I ⟨env, G, s2, R, PostI.bind p fun d s1 x G1 H1 z e1 q p1 => ?_⟩
      rw [hr] at z; cases z
      cases q with
      | tup hx rx =>
        refine ⟨_, rfl, ⟨_, by rw [hK]; exact same_seqT e1.sub hx⟩, p1 G1 H1 _ _ _ (.refl e1.sub e1.box) (by rw [← rx.len]; exact walk_tup) (wok_at (K := X.K) rx fun G2 H2 a b => by rw [hK]; exact same_seqT b (same_seqT a hx))⟩
    | str z =>
      refine (pi_str h).run pins s σ H Q I ⟨env, G, s2, R, PostI.bind p fun d s1 x G1 H1 z e1 q p1 => ?_⟩
      rw [hr] at z; cases z
      cases q
      refine ⟨_, rfl, p1 G1 H1 _ _ _ (.refl e1.sub e1.box) (by rw [show (signs z).length = z.cps.size by unfold signs; rw [List.length_map, Array.length_toList]]; exact walk_str) ⟨fun _ _ _ _ => trivial, fun i H2 x H3 G2 s4 d hi a b bx y hd => ?_⟩⟩
      obtain ⟨rfl, k, y1, rfl⟩ := y
      refine ⟨G2, .refl b bx, ?_⟩
      unfold signs at hd
      rw [List.getElem?_map] at hd
      have y2 : z.cps.toList[i]? = some k := by rw [Array.getElem?_toList]; exact y1
      rw [y2] at hd; cases hd
      exact .str _
    | _ => rw [hr] at p; exact False.elim p⟩
end
end Kn

end

section
set_option Elab.async false
set_option linter.all false
set_option maxRecDepth 100000
set_option maxHeartbeats 1000000
/-! Kn4: loops, comprehensions, range, enumerate, zip, slices, isinstance, methods, defs. -/
namespace Kn
open PySem L2

section
variable {X : Cx} {c : Cn} {G0 H0 : Hp} {W : WX} {a b d e e2 o : Expr} {es : List Expr} {st : Stmt} {sts : List Stmt} {pos : Pos}

/-! ### for -/
def forM (g : MG) (b : MS) : List D → En → BoxSt → SR
  | [], env, s => .nx env s
  | d :: ds, env, s => match g d env with
    | none => .bad
    | some env1 => match b env1 s with
      | .nx e s1 => forM g b ds e s1
      | .ct e s1 => forM g b ds e s1
      | .bk e s1 => .nx e s1
      | .rt d s1 => .rt d s1
      | .ex n d e s1 => .ex n d e s1
      | .bad => .bad
def mFor (g : MG) (mi : MA) (b : MS) : MS := fun env s => after env (mi env s) fun ds s1 => forM g b ds env s1
theorem s_for {tg it : Expr} {is : List Nat} {g : MG} {mi : MA} {mb : MS} {body : List Stmt} (hp : PassesOwn (model X.prog X.w) X.A X.env X.xe) (hc : X.calm = true) (hi : KI X c G0 H0 W tg it mi) (hg : KG X c G0 H0 is tg g) (hb : KB X c G0 H0 W body mb)
    (hs : ∀ x, foldedSetIterable it X.env x = pure x := by intro _; rfl) : KS X c G0 H0 W (.For tg it body [] pos) (mFor g mi mb) := ps_imp (ps_for hp hc hi hg hb hs) fun E σ H ⟨env, G, s, R, p⟩ => by
  refine ⟨env, G, s, R, ?_⟩
  unfold mFor at p
  cases hr : mi env s with
  | bad => rw [hr] at p; exact p
  | ex n d s1 => rw [hr] at p; exact fun cl dd G1 H1 e1 z => p cl dd σ G1 H1 (R.step e1) e1.gg z
  | ok ds s1 =>
    rw [hr] at p
    intro G1 H1 J Gd Y e1 w ok
    have p1 : SPost c G0 H0 G (forM g mb ds env s1) W E := p
    refine for_it w (fun i σ H => ∃ env G s, Rel c G0 H0 env σ G H s ∧ Same G1 G ∧ SPost c G0 H0 G (forM g mb (ds.drop i) env s) W E) ⟨env, G1, s1, R.step e1, .refl _, ?_⟩ (fun i σ H _ ⟨_, _, _, R2, sm, _⟩ => ok.gd _ _ sm R2.ex.sub) (fun i x σ2 H2 H3 hi ⟨env2, G2, s2, R2, sm, p2⟩ y => ?_) fun σ2 H2 ⟨env2, G2, s2, R2, sm, p2⟩ => ?_
    · rw [List.drop_zero]; exact SPost.up p1 e1.gg
    · have hd : ds[i]? = some ds[i] := List.getElem?_eq_getElem hi
      obtain ⟨G3, e3, dd⟩ := ok.yl i H2 x H3 G2 s2 _ hi sm R2.ex.sub R2.ex.box y hd
      rw [List.drop_eq_getElem_cons hi] at p2
      unfold forM at p2
      cases hm : g ds[i] env2 with
      | none => rw [hm] at p2; exact False.elim p2
      | some env3 =>
        rw [hm] at p2
        refine ⟨_, env2, G3, s2, env3, dd, R2.step e3, hm, fun σ' _ R' => ⟨env3, G3, s2, R', ?_⟩⟩
        have p3 := SPost.up p2 e3.gg
        have sm3 := sm.trans e3.gg
        dsimp only at p3
        cases hb3 : mb env3 s2 with
        | nx e4 s4 => rw [hb3] at p3; exact fun σ5 G5 H5 R5 q5 => ⟨e4, G5, s4, R5, sm3.trans q5, SPost.up p3 q5⟩
        | ct e4 s4 => rw [hb3] at p3; exact fun σ5 G5 H5 R5 q5 => ⟨e4, G5, s4, R5, sm3.trans q5, SPost.up p3 q5⟩
        | bk e4 s4 => rw [hb3] at p3; exact fun σ5 G5 H5 R5 q5 => p3 σ5 G5 H5 R5 q5
        | rt d4 s4 => rw [hb3] at p3; exact p3
        | ex n d4 e4 s4 => rw [hb3] at p3; exact p3
        | bad => rw [hb3] at p3; exact p3
    · rw [List.drop_eq_nil_of_le (Nat.le_refl _)] at p2
      exact p2 σ2 G2 H2 R2 (.refl _)
def mBreak : MS := fun env s => .bk env s
def mCont : MS := fun env s => .ct env s
theorem s_break : KS X c G0 H0 W (.Break pos) mBreak := ps_imp ps_break fun E σ H ⟨env, G, s, R, p⟩ => p σ G H R (.refl _)
theorem s_cont : KS X c G0 H0 W (.Continue pos) mCont := ps_imp ps_continue fun E σ H ⟨env, G, s, R, p⟩ => p σ G H R (.refl _)

/-! ### comprehensions -/
def wipeE (env : En) : List Nat → En
  | [] => env
  | v :: vs => (wipeE env vs).set v .un
theorem Rel.drop1 {env : En} {σ : St} {G H : Hp} {s : BoxSt} (i : Nat) (R : Rel c G0 H0 env σ G H s) : Rel c G0 H0 (env.set i .un) (σ.set i none) G H s := by
  obtain ⟨ad, h1, h2⟩ := R.ad
  refine ⟨R.ex, R.box0, R.foot, by rw [List.length_set, List.length_set]; exact R.len, ad, fun j x hx => ?_, fun j k l m hj hk => ?_⟩
  · by_cases e : i = j
    · subst e
      by_cases hl : i < env.length
      · rw [List.getElem?_set_self hl] at hx
        cases hx
        trivial
      · rw [List.getElem?_eq_none (by rw [List.length_set]; omega)] at hx; cases hx
    · rw [List.getElem?_set_ne e] at hx
      rw [List.getElem?_set_ne e]
      exact h1 j x hx
  · have back : ∀ (j : Nat) (m : List D), (env.set i Sl.un)[j]? = some (Sl.ow m) → env[j]? = some (Sl.ow m) := fun j m h => by
      by_cases e : i = j
      · subst e
        by_cases hl : i < env.length
        · rw [List.getElem?_set_self hl] at h; cases h
        · rw [List.getElem?_eq_none (by rw [List.length_set]; omega)] at h; cases h
      · rw [List.getElem?_set_ne e] at h; exact h
    exact h2 j k l m (back j l hj) (back k m hk)
theorem Rel.wipe {env : En} {σ : St} {G H : Hp} {s : BoxSt} (R : Rel c G0 H0 env σ G H s) : ∀ vs : List Nat, Rel c G0 H0 (wipeE env vs) (wipe σ vs) G H s
  | [] => R
  | v :: vs => (R.wipe vs).drop1 v
theorem wipe_len (σ : St) : ∀ vs : List Nat, (wipe σ vs).length = σ.length
  | [] => rfl
  | v :: vs => by unfold wipe; rw [List.length_set, wipe_len σ vs]
theorem wipe_get (σ : St) (j : Nat) : ∀ vs : List Nat, (wipe σ vs)[j]? = if j ∈ vs then (if j < σ.length then some none else none) else σ[j]?
  | [] => by simp [wipe]
  | v :: vs => by
    unfold wipe
    by_cases e : v = j
    · subst e
      rw [if_pos List.mem_cons_self]
      by_cases hl : v < σ.length
      · rw [if_pos hl, List.getElem?_set_self (by rw [wipe_len]; exact hl)]
      · rw [if_neg hl, List.getElem?_eq_none (by rw [List.length_set, wipe_len]; omega)]
    · rw [List.getElem?_set_ne e, wipe_get σ j vs]
      by_cases hm : j ∈ vs
      · rw [if_pos hm, if_pos (List.mem_cons_of_mem _ hm)]
      · rw [if_neg hm, if_neg (fun z => (List.mem_cons.mp z).elim (fun q => e q.symm) hm)]
theorem wipe_upto {is vs : List Nat} {σ σ' : St} (u : Upto is (wipe σ vs) σ') (h : ∀ i ∈ is, i ∈ vs) : wipe σ' vs = wipe σ vs := by
  have hl : σ'.length = σ.length := by rw [u.1, wipe_len]
  refine List.ext_getElem? fun j => ?_
  rw [wipe_get, wipe_get]
  by_cases hm : j ∈ vs
  · rw [if_pos hm, if_pos hm, hl]
  · rw [if_neg hm, if_neg hm, u.2 j (fun z => hm (h j z)), wipe_get, if_neg hm]
def lcM (g : MG) (t : MT) (m : ME) (env : En) : List D → BoxSt → Res (List D)
  | [], s => .ok [] s
  | d :: ds, s => match g d env with
    | none => .bad
    | some env1 => match t env1 s with
      | .ok true s1 => (match m env1 s1 with
        | .ok v s2 => (match lcM g t m env ds s2 with | .ok vs s3 => .ok (v :: vs) s3 | _ => .bad)
        | _ => .bad)
      | .ok false s1 => lcM g t m env ds s1
      | _ => .bad
def mLc (own : List Nat) (g : MG) (mi : MA) (t : MT) (m : ME) : MA := fun env s => (mi env s).bind fun ds s1 =>
  if ds.length ≤ 1000000 then (match lcM g t m (wipeE env own) ds s1 with | .ok l s2 => .ok l s2 | _ => .bad) else .bad
def mYes : MT := fun _ s => .ok true s
/-- within a comprehension nothing is raised -/
abbrev W0 : WX := fun _ _ _ _ => False
theorem Ex.held {G H : Hp} {s : BoxSt} {p : Addr} {xs : List V} (e : Same G H) (b : BoxAt c s H) (hp : H p = none) : Ex c G H G (upd H p (.lst xs)) s := by
  have E := Ex.new (c := c) (o := .lst xs) e b hp
  refine ⟨.refl _, fun x o h => ?_, E.keep, fun x h z => absurd h z, E.box⟩
  rw [upd_ne (ne_of_none (e _ _ h) hp)]
  exact e _ _ h
theorem Ex.put {G H G1 H1 : Hp} {s s' : BoxSt} {p : Addr} {xs : List V} (e : Ex c G H G1 H1 s) (b : BoxAt c s' H) (hp : H p = none) (hg : G1 p = none) : Ex c G H G1 (upd H1 p (.lst xs)) s := by
  have nf : ¬ Foot c p := fun f => b.foot f hp
  refine ⟨e.gg, fun x o h => ?_, fun x o f h => ?_, e.fresh, fun pr hb => ?_⟩
  · rw [upd_ne (fun z => by rw [z, hg] at h; cases h)]; exact e.sub x o h
  · rw [upd_ne (ne_of_none h hp)]; exact e.keep x o f h
  · obtain ⟨b1, b2, b3⟩ := e.box pr hb
    exact ⟨by rw [upd_ne (fun z => nf ⟨pr, hb, .inl z.symm⟩)]; exact b1, by rw [upd_ne (fun z => nf ⟨pr, hb, .inr z.symm⟩)]; exact b2, b3⟩
/-- a held list stays held -/
theorem Ex.heldG {G H G1 H1 : Hp} {s : BoxSt} {p : Addr} (e : Ex c G H G1 H1 s) (hg : G p = none) (hp : H p ≠ none) : G1 p = none := by
  cases q : G1 p with
  | none => rfl
  | some o => exact absurd (e.fresh p hg (by rw [q]; exact fun z => nomatch z)) hp
theorem l_lc {own : List Nat} {is : List Nat} {g : MG} {mi : MA} {mt : MT} {me : ME} (hin : ∀ i ∈ is, i ∈ own) (σ : St) (H : Hp) (Q : VK) :
    lN c G0 H0 W (mLc own g mi mt me) σ H Q → tLc (lI c G0 H0 W mi) (lG c G0 H0 is g) (lT c G0 H0 W0 mt) (lE c G0 H0 W0 me) own σ H Q := fun ⟨env, G, s, R, p⟩ => by
  refine ⟨env, G, s, R, ?_⟩
  unfold mLc at p
  cases hr : mi env s with
  | bad => rw [hr] at p; exact p
  | ex n d s1 => rw [hr] at p; exact p
  | ok ds s1 =>
    rw [hr] at p
    intro G1 H1 J Gd Y e1 w ok
    have p1 : PostN c G H (if ds.length ≤ 1000000 then (match lcM g mt me (wipeE env own) ds s1 with | .ok l s2 => .ok l s2 | _ => .bad) else .bad) (fun cl dd H' => W cl dd σ H') Q := p
    by_cases hz : ds.length ≤ 1000000
    case neg => rw [if_neg hz] at p1; exact False.elim p1
    rw [if_pos hz] at p1
    cases hl : lcM g mt me (wipeE env own) ds s1 with
    | bad => rw [hl] at p1; exact False.elim p1
    | ex n d s2 => rw [hl] at p1; exact False.elim p1
    | ok l se =>
      rw [hl] at p1
      intro Dl hD
      have nf : ¬ Foot c Dl := fun f => e1.box.foot f hD
      have hH : H Dl = none := by
        cases q : H Dl with
        | none => rfl
        | some u => rw [e1.keep Dl u nf q] at hD; cases hD
      have hG1 : G1 Dl = none := e1.sub.free hD
      refine lc_it w (fun i H' => ∃ G' s' xs acc l2, Ex c G1 H1 G' H' s' ∧ H' Dl = some (.lst xs) ∧ G' Dl = none ∧ Da c G' xs acc ∧ xs.length ≤ i ∧ lcM g mt me (wipeE env own) (ds.drop i) s' = .ok l2 se ∧ l = acc ++ l2)
        ⟨G1, s1, [], [], l, Ex.held e1.sub e1.box hD, upd_same, hG1, .nil, Nat.le_refl _, by rw [List.drop_zero]; exact hl, rfl⟩ (fun i H' _ ⟨G', s', xs, acc, l2, e2, _⟩ => ok.gd _ _ e2.gg e2.sub) (fun i x H2 H3 hi ⟨G2, s2, xs, acc, l2, e2, h1, h2, h3, h4, h5, h6⟩ y => ?_) fun H2 ⟨G2, s2, xs, acc, l2, e2, h1, h2, h3, h4, h5, h6⟩ => ?_
      · have hd : ds[i]? = some ds[i] := List.getElem?_eq_getElem hi
        obtain ⟨G3, e3, dd⟩ := ok.yl i H2 x H3 G2 s2 _ hi e2.gg e2.sub e2.box y hd
        rw [List.drop_eq_getElem_cons hi] at h5
        unfold lcM at h5
        cases hm : g ds[i] (wipeE env own) with
        | none => rw [hm] at h5; cases h5
        | some env1 =>
          rw [hm] at h5
          dsimp only at h5
          have R3 : Rel c G0 H0 env σ G3 H3 s2 := R.step ((e1.trans e2).trans e3)
          refine ⟨_, _, G3, s2, env1, dd, R3.wipe own, hm, fun σ' u R' => ⟨wipe_upto u hin, env1, G3, s2, R', ?_⟩⟩
          have k3 : H3 Dl = some (.lst xs) := e3.keep Dl _ nf h1
          have g3 : G3 Dl = none := e3.heldG h2 (by rw [h1]; exact fun z => nomatch z)
          cases ht : mt env1 s2 with
          | bad => rw [ht] at h5; cases h5
          | ex n d s4 => rw [ht] at h5; cases h5
          | ok bt s4 =>
            rw [ht] at h5
            intro b' G4 H4 e4 eb
            subst eb
            have k4 : H4 Dl = some (.lst xs) := e4.keep Dl _ nf k3
            have g4 : G4 Dl = none := e4.heldG g3 (by rw [k3]; exact fun z => nomatch z)
            have up4 : Same G2 G4 := e3.gg.trans e4.gg
            cases b' with
            | false => exact ⟨G4, s4, xs, acc, l2, (e2.trans e3).trans e4, k4, g4, h3.mono up4, Nat.le_succ_of_le h4, h5, h6⟩
            | true =>
              dsimp only at h5
              cases hv : me env1 s4 with
              | bad => rw [hv] at h5; cases h5
              | ex n d s5 => rw [hv] at h5; cases h5
              | ok v s5 =>
                rw [hv] at h5
                dsimp only at h5
                cases hq : lcM g mt me (wipeE env own) (ds.drop (i + 1)) s5 with
                | bad => rw [hq] at h5; cases h5
                | ex n d s6 => rw [hq] at h5; cases h5
                | ok vs s6 =>
                  rw [hq] at h5
                  injection h5 with h5a h5b
                  refine ⟨env1, G4, s4, R'.step e4, ?_⟩
                  rw [hv]
                  intro yv G5 H5 e5 qy
                  have k5 : H5 Dl = some (.lst xs) := e5.keep Dl _ nf k4
                  have g5 : G5 Dl = none := e5.heldG g4 (by rw [k4]; exact fun z => nomatch z)
                  refine ⟨xs, k5, small_lt (by omega), G5, s5, xs ++ [yv], acc ++ [v], vs, Ex.put (((e2.trans e3).trans e4).trans e5) e1.box hD g5, upd_same, g5, (h3.mono (up4.trans e5.gg)).app (.cons qy .nil), by rw [List.length_append]; exact Nat.succ_le_succ h4, by rw [hq, h5b], ?_⟩
                  rw [h6, ← h5a, List.append_assoc]; rfl
      · rw [List.drop_eq_nil_of_le (Nat.le_refl _)] at h5
        injection h5 with h5a h5b
        subst h5a h5b
        rw [List.append_nil] at h6
        subst h6
        exact p1 Dl xs G2 H2 (e1.trans e2) hH h2 h1 h3
theorem k_lc {tg it elt : Expr} {ifs : List Expr} {scope : Scope} {own : List (Str × Nat)} {is : List Nat} {g : MG} {mi : MA} {mt : MT} {me : ME} (hc : X.calm = true) (hN : X.N.Nodup) (hin : ∀ i ∈ is, i ∈ own.map (·.2)) (hi : KI X c G0 H0 W tg it mi) (ok : BlkOk X.N X.env.scope scope own)
    (hg : ∀ (s : Shared) (H : Hp) (C : Addr) (cl : List (Str × Addr)) (fp : List Addr), KG (X.blk s H scope (compEnvC scope cl C X.env) fp) c G0 H0 is tg g) (ht : ∀ (s : Shared) (H : Hp) (C : Addr) (cl : List (Str × Addr)) (fp : List Addr), PTs (X.blk s H scope (compEnvC scope cl C X.env) fp) ifs (lT c G0 H0 W0 mt))
    (he : ∀ (s : Shared) (H : Hp) (C : Addr) (cl : List (Str × Addr)) (fp : List Addr), KE (X.blk s H scope (compEnvC scope cl C X.env) fp) c G0 H0 W0 elt me) (hs : ∀ x, foldedSetIterable it X.env x = pure x := by intro _; rfl) :
    KN X c G0 H0 W (.ListComp elt [⟨tg, it, ifs, 0⟩] scope pos) (mLc (own.map (·.2)) g mi mt me) := pe_imp (pe_lc hc hN hi ok hg ht he hs) (l_lc hin)
theorem l_yes {σ : St} {H : Hp} {Q : Bool → Hp → Prop} : lT c G0 H0 W mYes σ H Q → tYes σ H Q := fun ⟨env, G, s, R, p⟩ => p true G H (.refl R.ex.sub R.ex.box) rfl
theorem pts_imp {ifs : List Expr} {t t' : TT} (h : PTs X ifs t) (k : ∀ σ H Q, t' σ H Q → t σ H Q) : PTs X ifs t' := ⟨fun pins s σ H Q I q => h.run pins s σ H Q I (k σ H Q q)⟩
theorem t_none : PTs X [] (lT c G0 H0 W mYes) := pts_imp pts_nil fun _ _ _ => l_yes
theorem t_one {mt : MT} (h : KT X c G0 H0 W e mt) : PTs X [e] (lT c G0 H0 W mt) := pts_one h
/-- x = [..] on one line, x local: shared, or x's own -/
theorem s_asgLc {i : Nat} {y : Str} {py spos : Pos} {tg it elt : Expr} {ifs : List Expr} {scope : Scope} {own : List (Str × Nat)} {is : List Nat} {g : MG} {mi : MA} {mt : MT} {me : ME} (hc : X.calm = true) (hN : X.N.Nodup) (hy : X.N[i]? = some y) (hyl : X.env.scope.names.lookup y = some .local)
    (hsw : swapsWith (.ListComp elt [⟨tg, it, ifs, 0⟩] scope pos) (some (.Name y py)) spos.line X.env = pure true) (hin : ∀ i ∈ is, i ∈ own.map (·.2)) (hi : KI X c G0 H0 W tg it mi) (ok : BlkOk X.N X.env.scope scope own)
    (hg : ∀ (s : Shared) (H : Hp) (C : Addr) (cl : List (Str × Addr)) (fp : List Addr), KG (X.blk s H scope (compEnvC scope cl C X.env) fp) c G0 H0 is tg g) (ht : ∀ (s : Shared) (H : Hp) (C : Addr) (cl : List (Str × Addr)) (fp : List Addr), PTs (X.blk s H scope (compEnvC scope cl C X.env) fp) ifs (lT c G0 H0 W0 mt))
    (he : ∀ (s : Shared) (H : Hp) (C : Addr) (cl : List (Str × Addr)) (fp : List Addr), KE (X.blk s H scope (compEnvC scope cl C X.env) fp) c G0 H0 W0 elt me) (hs : ∀ x, foldedSetIterable it X.env x = pure x := by intro _; rfl) :
    KS X c G0 H0 W (.Assign [.Name y py] (.ListComp elt [⟨tg, it, ifs, 0⟩] scope pos) spos) (mAsgO i (mLc (own.map (·.2)) g mi mt me)) := ps_imp (ps_setLc hc hN hy hyl hsw hi ok hg ht he hs) fun E σ H q => by
  obtain ⟨env, G, s, R, p⟩ := l_asgO E σ H q
  exact l_lc hin σ H _ ⟨env, G, s, R, p⟩

/-! ### range, enumerate, zip -/
def numbers (n : Nat) : List D := (List.range n).map fun (i : Nat) => .int (i : Int)
def rangeO (l : List D) : Option (List D) := match l with
  | [.int j] => if j ≤ 1000000 ∧ -1000000 ≤ j then some (numbers j.toNat) else none
  | _ => none
def mItA (f : List D → Option (List D)) (a : MA) : MA := fun env s => (a env s).bind fun l s1 => ofO (f l) s1
theorem k_range1 {tg : Expr} {p : Pos} {ma : MA} (hg : Gl X "range") (hm : X.mg "range" = none) (ha : KA X c G0 H0 W [a] ma) (hs : starEach [a] X.env = [(false, eval a X.env)] := by rfl) : KI X c G0 H0 W tg (.Call (.Name "range" p) [a] [] pos) (mItA rangeO ma) := pi_imp (pi_range1 hg hm ha hs) fun σ H Q ⟨env, G, s, R, p⟩ =>
  ⟨env, G, s, R, PostI.bind p fun l s1 vs G1 H1 hr0 e1 q p1 => by
    cases z : rangeO l with
    | none => rw [z] at p1; exact False.elim p1
    | some ds =>
      rw [z] at p1
      unfold rangeO at z
      split at z
      · split at z
        · rename_i j hj
          cases z
          cases q with
          | cons h r =>
            cases r; cases h
            have hn : (numbers j.toNat).length = j.toNat := by unfold numbers; rw [List.length_map, List.length_range]
            refine ⟨j, rfl, by omega, by omega, p1 G1 H1 _ _ _ (.refl e1.sub e1.box) (by rw [hn]; exact walk_range) ⟨fun _ _ _ _ => trivial, fun i H2 x H3 G2 s4 d hi a b bx y hd => ?_⟩⟩
            obtain ⟨rfl, rfl⟩ := y
            refine ⟨G2, .refl b bx, ?_⟩
            unfold numbers at hd
            rw [List.getElem?_map, List.getElem?_range (by rw [hn] at hi; exact hi)] at hd
            cases hd
            show Dd c G2 (.int (0 + (i : Int))) (.int (i : Int))
            rw [Int.zero_add]
            exact .int _
        · cases z
      · cases z⟩
/-- the pairs of a walk that makes new ones -/
theorem wok_pair {G : Hp} {ds : List D} {Gd : Hp → Prop} {xs ys : Nat → Option V} (h : ∀ G1 H1, Same G G1 → Same G1 H1 → Gd H1) (k : ∀ i x y, xs i = some x → ys i = some y → ∀ d, ds[i]? = some d → ∃ u w, d = .tup [u, w] ∧ Dd c G x u ∧ Dd c G y w) : WOk c G ds Gd (YPair xs ys) := ⟨h, fun i H v H2 G1 s1 d hi e1 e2 b y hd => by
  obtain ⟨T, x, z, rfl, hT, rfl, h1, h2⟩ := y
  obtain ⟨u, w, rfl, q1, q2⟩ := k i x z h1 h2 d hd
  have E := Ex.new (c := c) (o := .tup [x, z]) e2 b hT
  exact ⟨_, E, .tup (SqT.of upd_same) (.cons ((q1.mono e1).mono E.gg) (.cons ((q2.mono e1).mono E.gg) .nil))⟩⟩
def zipL : List D → List D → List D
  | x :: r, y :: t => .tup [x, y] :: zipL r t
  | _, _ => []
theorem zipL_len : ∀ (a b : List D), (zipL a b).length = min a.length b.length
  | [], b => by unfold zipL; simp
  | x :: r, [] => by unfold zipL; simp
  | x :: r, y :: t => by unfold zipL; rw [List.length_cons, List.length_cons, List.length_cons, zipL_len r t]; omega
theorem zipL_get : ∀ (a b : List D) (i : Nat) (d : D), (zipL a b)[i]? = some d → ∃ x y, a[i]? = some x ∧ b[i]? = some y ∧ d = .tup [x, y]
  | [], b, i, d, h => by unfold zipL at h; simp at h
  | x :: r, [], i, d, h => by unfold zipL at h; simp at h
  | x :: r, y :: t, 0, d, h => by unfold zipL at h; simp at h; exact ⟨x, y, rfl, rfl, h.symm⟩
  | x :: r, y :: t, i + 1, d, h => by
    unfold zipL at h
    obtain ⟨u, w, h1, h2, h3⟩ := zipL_get r t i d (by simpa using h)
    exact ⟨u, w, by simpa using h1, by simpa using h2, h3⟩
def zipO (l : List D) : Option (List D) := match l with
  | [.lst a, .lst b] => some (zipL a b)
  | [.tup a, .tup b] => some (zipL a b)
  | _ => none
theorem k_zip {elts : List Expr} {kk : Nat} {p tpos : Pos} {ma : MA} (hg : Gl X "zip") (hm : X.mg "zip" = none) (ha : KA X c G0 H0 W [e, e2] ma) (hK : X.K = c.st.K := by rfl) (hs : starEach [e, e2] X.env = (false, eval e X.env) :: starEach [e2] X.env := by rfl) (hpl : (backTo pos (starEach [e2] X.env)).any (·.1) = false := by rfl) :
    KI X c G0 H0 W (.Tuple elts kk tpos) (.Call (.Name "zip" p) [e, e2] [] pos) (mItA zipO ma) := pi_imp (RZ.pi_zipA hg hm ha hs hpl) fun σ H Q ⟨env, G, s, R, p⟩ =>
  ⟨env, G, s, R, PostI.bind p fun l s1 vs G1 H1 hr0 e1 q p1 => by
    cases z : zipO l with
    | none => rw [z] at p1; exact False.elim p1
    | some ds =>
      rw [z] at p1
      unfold zipO at z
      split at z
      · rename_i la lb
        cases z
        cases q with
        | cons h r =>
          cases r with
          | cons h' r' =>
            cases r'
            cases h with
            | lst h rx =>
              cases h' with
              | lst h' ry =>
                refine ⟨_, _, _, _, rfl, .inl ⟨SqL.of (e1.sub _ _ h), SqL.of (e1.sub _ _ h'), p1 G1 H1 _ _ _ (.refl e1.sub e1.box) (walk_zip (by rw [zipL_len, rx.len, ry.len])) (wok_pair (fun G2 H2 a b => ⟨SqL.of (b _ _ (a _ _ h)), SqL.of (b _ _ (a _ _ h'))⟩) fun i x y hx hy d hd => ?_)⟩⟩
                obtain ⟨u, w, z1, z2, rfl⟩ := zipL_get la lb i d hd
                obtain ⟨u', q1, q2⟩ := rx.getV hx
                obtain ⟨w', q3, q4⟩ := ry.getV hy
                rw [z1] at q1; cases q1
                rw [z2] at q3; cases q3
                exact ⟨u, w, rfl, q2, q4⟩
      · rename_i la lb
        cases z
        cases q with
        | cons h r =>
          cases r with
          | cons h' r' =>
            cases r'
            cases h with
            | tup h rx =>
              cases h' with
              | tup h' ry =>
                rename_i ax xs ay ys
                have wz : Walk (RZ.ItzT X.K ax ay) (zipL la lb).length (fun H => SqT X.K H ax xs ∧ SqT X.K H ay ys) (YPair (fun i => xs[i]?) (fun i => ys[i]?)) := by
                  refine ⟨fun i _ hi q => ?_, fun _ q => ⟨xs, ys, q.1, q.2, ?_⟩, fun i H v H' _ q y => ?_⟩
                  · rw [zipL_len, ← rx.len, ← ry.len] at hi
                    exact ⟨xs, ys, xs[i], ys[i], q.1, q.2, by simp [show i < xs.length by omega], by simp [show i < ys.length by omega]⟩
                  · rw [zipL_len, ← rx.len, ← ry.len]; omega
                  · obtain ⟨T, x, z, h1, h2, h3, h4, h5⟩ := y
                    exact ⟨T, x, z, h1, h2, h3, h4 xs q.1, h5 ys q.2⟩
                refine ⟨_, _, _, _, rfl, .inr ⟨by rw [hK]; exact same_seqT e1.sub h, by rw [hK]; exact same_seqT e1.sub h', p1 G1 H1 _ _ _ (.refl e1.sub e1.box) wz (wok_pair (fun G2 H2 a b => ⟨by rw [hK]; exact same_seqT b (same_seqT a h), by rw [hK]; exact same_seqT b (same_seqT a h')⟩) fun i x y hx hy d hd => ?_)⟩⟩
                obtain ⟨u, w, z1, z2, rfl⟩ := zipL_get la lb i d hd
                obtain ⟨u', q1, q2⟩ := rx.getV hx
                obtain ⟨w', q3, q4⟩ := ry.getV hy
                rw [z1] at q1; cases q1
                rw [z2] at q3; cases q3
                exact ⟨u, w, rfl, q2, q4⟩
      · cases z⟩
def enumL (i : Nat) : List D → List D
  | [] => []
  | x :: r => .tup [.int (i : Int), x] :: enumL (i + 1) r
theorem enumL_len : ∀ (l : List D) (i : Nat), (enumL i l).length = l.length
  | [], i => rfl
  | x :: r, i => by unfold enumL; rw [List.length_cons, List.length_cons, enumL_len r]
theorem enumL_get : ∀ (l : List D) (k i : Nat) (d : D), (enumL k l)[i]? = some d → ∃ x, l[i]? = some x ∧ d = .tup [.int ((k + i : Nat) : Int), x]
  | [], k, i, d, h => by unfold enumL at h; simp at h
  | x :: r, k, 0, d, h => by unfold enumL at h; simp at h; exact ⟨x, rfl, h.symm⟩
  | x :: r, k, i + 1, d, h => by
    unfold enumL at h
    obtain ⟨u, h1, h2⟩ := enumL_get r (k + 1) i d (by simpa using h)
    exact ⟨u, by simpa using h1, by rw [h2, show k + 1 + i = k + (i + 1) by omega]⟩
def enumO (l : List D) : Option (List D) := match l with | [.lst l] => some (enumL 0 l) | _ => none
theorem k_enum {elts : List Expr} {kk : Nat} {p tpos : Pos} {ma : MA} (hg : Gl X "enumerate") (hm : X.mg "enumerate" = none) (ha : KA X c G0 H0 W [e] ma) (hs : starEach [e] X.env = [(false, eval e X.env)] := by rfl) :
    KI X c G0 H0 W (.Tuple elts kk tpos) (.Call (.Name "enumerate" p) [e] [] pos) (mItA enumO ma) := pi_imp (pi_enum hg hm ha hs) fun σ H Q ⟨env, G, s, R, p⟩ =>
  ⟨env, G, s, R, PostI.bind p fun l s1 vs G1 H1 hr0 e1 q p1 => by
    cases z : enumO l with
    | none => rw [z] at p1; exact False.elim p1
    | some ds =>
      rw [z] at p1
      unfold enumO at z
      split at z
      · rename_i l'
        cases z
        cases q with
        | cons h r =>
          cases r
          cases h with
          | lst h rx =>
            refine ⟨_, _, rfl, SqL.of (e1.sub _ _ h), p1 G1 H1 _ _ _ (.refl e1.sub e1.box) (by rw [enumL_len, ← rx.len]; exact walk_enum) (wok_pair (fun G2 H2 a b => SqL.of (b _ _ (a _ _ h))) fun i x y hx hy d hd => ?_)⟩
            obtain ⟨u, z1, rfl⟩ := enumL_get l' 0 i d hd
            obtain ⟨u', q1, q2⟩ := rx.getV hy
            rw [z1] at q1; cases q1
            cases hx
            exact ⟨_, u, rfl, by rw [Nat.zero_add]; exact .int _, q2⟩
      · cases z⟩
end
end Kn

end

section
set_option Elab.async false
set_option linter.all false
set_option maxRecDepth 100000
set_option maxHeartbeats 1000000
/-! Kn5: slices, isinstance, texts' methods, + and * of lists. -/
namespace Kn
open PySem L2

section
variable {X : Cx} {c : Cn} {G0 H0 : Hp} {W : WX} {a b d e e2 o : Expr} {es : List Expr} {st : Stmt} {sts : List Stmt} {pos : Pos}

/-! ### slices -/
abbrev MO := En → BoxSt → Res (Option Int)
def lO (c : Cn) (G0 H0 : Hp) (W : WX) (m : MO) : TO := fun σ H Q => ∃ env G s, Rel c G0 H0 env σ G H s ∧ Post c G H (fun _ b a => b = a) (m env s) (fun cl dd H' => W cl dd σ H') Q
abbrev KO (X : Cx) (c : Cn) (G0 H0 : Hp) (W : WX) (e : Option Expr) (m : MO) : Prop := PO X e (lO c G0 H0 W m)
theorem po_imp {e : Option Expr} {t t' : TO} (h : PO X e t) (k : ∀ σ H Q, t' σ H Q → t σ H Q) : PO X e t' := ⟨fun pins s σ H Q I q => h.run pins s σ H Q I (k σ H Q q)⟩
def mNoO : MO := fun _ s => .ok none s
def asI (d : D) : Option (Option Int) := match d with | .int i => some (some i) | _ => none
def mSomeO (a : ME) : MO := fun env s => (a env s).bind fun d s1 => ofO (asI d) s1
theorem o_none : KO X c G0 H0 W none mNoO := po_imp po_none fun σ H Q ⟨env, G, s, R, p⟩ => p none G H (.refl R.ex.sub R.ex.box) rfl
theorem o_some {ma : ME} (h : KE X c G0 H0 W e ma) : KO X c G0 H0 W (some e) (mSomeO ma) := po_imp (po_some h) fun σ H Q ⟨env, G, s, R, p⟩ =>
  ⟨env, G, s, R, p.bind fun d s1 x G1 H1 _ e1 q p1 => by
    cases d with
    | int i => cases q; exact ⟨i, rfl, p1 (some i) G1 H1 (.refl e1.sub e1.box) rfl⟩
    | _ => exact False.elim p1⟩
def cutD (l : List D) (lo hi : Option Int) : List D := (l.drop (HT.sIx l.length 0 lo)).take (HT.sIx l.length l.length hi - HT.sIx l.length 0 lo)
theorem Da.cut {G : Hp} {xs : List V} {l : List D} (r : Da c G xs l) (lo hi : Option Int) : Da c G (cutV xs lo hi) (cutD l lo hi) := by
  unfold cutV cutD
  rw [r.len]
  exact (r.drop _).take _
theorem cutD_whole {l : List D} {lo hi : Option Int} (h : HT.sIx l.length 0 lo = 0 ∧ HT.sIx l.length l.length hi = l.length) : cutD l lo hi = l := by
  unfold cutD
  rw [h.1, h.2, List.drop_zero, Nat.sub_zero, List.take_length]
def sliceO (x : D) (lo hi : Option Int) : Option D := match x with
  | .lst l => some (.lst (cutD l lo hi))
  | .tup l => some (.tup (cutD l lo hi))
  | .str z => if z.length ≤ 1000000 then some (.str (cutS z lo hi)) else none
  | _ => none
def mSl (o : ME) (lo hi : MO) : ME := fun env s => (o env s).bind fun x s1 => (lo env s1).bind fun l s2 => (hi env s2).bind fun h s3 => ofO (sliceO x l h) s3
def rSlAny (K : PySem.W.Frag) : V → Option Int → Option Int → Hp → VK → Prop := fun x lo hi H Q => rSlA K x lo hi H Q ∨ (rSlL K x lo hi H Q ∨ rSlS x lo hi H Q)
theorem sl_any : SlR X (rSlAny X.K) := sl_tupA.or (sl_list.or sl_str)
theorem k_slice {lo hi : Option Expr} {p2 : Pos} {mo : ME} {ml mh : MO} (ho : KE X c G0 H0 W o mo) (hl : KO X c G0 H0 W lo ml) (hh : KO X c G0 H0 W hi mh) (hK : X.K = c.st.K := by rfl) : KE X c G0 H0 W (.Subscript o (.Slice lo hi none p2) pos) (mSl mo ml mh) := pe_imp (pe_slice sl_any ho hl hh) fun σ H Q ⟨env, G, s, R, p⟩ =>
  ⟨env, G, s, R, p.bind fun dx s1 x G1 H1 _ e1 qx p1 => ⟨env, G1, s1, R.step e1, p1.bind fun l s2 l' G2 H2 _ e2 ql p2 => ⟨env, G2, s2, (R.step e1).step e2, p2.bind fun h s3 h' G3 H3 _ e3 qh p3 => by
    subst ql qh
    have e13 := e2.gg.trans e3.gg
    cases dx with
    | lst l =>
      cases qx with
      | lst hx rx =>
        rename_i xs
        refine .inr (.inl ⟨_, _, rfl, SqL.of (e3.sub _ _ (e13 _ _ hx)), fun q hq => ?_⟩)
        have E := Ex.new (c := c) (o := .lst (cutV xs l' h')) e3.sub e3.box hq
        exact p3 _ _ _ E (.lst upd_same (((rx.cut l' h').mono e13).mono E.gg))
    | tup l =>
      cases qx with
      | tup hx rx =>
        rename_i xs
        refine .inl ⟨_, _, rfl, by rw [hK]; exact same_seqT e3.sub (same_seqT e13 hx), fun hw => ?_, fun hw q hq => ?_⟩
        · rw [rx.len] at hw
          have p4 : Post c G3 H3 (Dd c) (.ok (.tup (cutD l l' h')) s3) _ Q := p3
          rw [cutD_whole hw] at p4
          exact p4 _ _ _ (.refl e3.sub e3.box) (.tup (same_seqT e13 hx) (rx.mono e13))
        · have E := Ex.new (c := c) (o := .tup (cutV xs l' h')) e3.sub e3.box hq
          exact p3 _ _ _ E (.tup (SqT.of upd_same) (((rx.cut l' h').mono e13).mono E.gg))
    | str z =>
      cases qx
      have p4 : Post c G3 H3 (Dd c) (ofO (if z.length ≤ 1000000 then some (.str (cutS z l' h')) else none) s3) _ Q := p3
      by_cases hz : z.length ≤ 1000000
      · rw [if_pos hz] at p4
        exact .inr (.inr ⟨z, rfl, small_line hz, p4 _ _ _ (.refl e3.sub e3.box) (.str _)⟩)
      · rw [if_neg hz] at p4; exact False.elim p4
    | _ => exact False.elim p3⟩⟩⟩

/-! ### isinstance with built-in classes -/
def tyN : D → Option String
  | .non => some "NoneType" | .bl _ => some "bool" | .int _ => some "int" | .str _ => some "str" | .lst _ => some "list" | .tup _ => some "tuple" | .box => some "list" | .ins _ _ => none
theorem ty_dd {G H : Hp} {s : BoxSt} {v : V} {d : D} {n : String} (h : Dd c G v d) (e : Same G H) (b : BoxAt c s H) (hn : tyN d = some n) : TyX c.st.K H v (.type n) := by
  cases h with
  | non => cases hn; exact .base .non
  | bl b => cases hn; exact .base (.bl b)
  | int i => cases hn; exact .base (.int i)
  | str x => cases hn; exact .base (.str x)
  | lst hx rx => cases hn; exact .base (.lst (e _ _ hx))
  | tup hx rx =>
    cases hn
    rcases hx with (hx | ⟨ob, hx⟩) | ⟨ob, its, n, hk, hc, _⟩
    · exact .base (.tup (e _ _ hx))
    · exact .fTuple (e _ _ hx)
    · exact .kTuple hk hc
  | ins _ _ _ => cases hn
  | box hb => cases hn; exact .base (.lst (b _ hb).1)
/-- what isinstance(.., T) answers -/
structure IsTy (T : String) (f : D → Option Bool) : Prop where
  ok : ∀ d b, f d = some b → ∃ n, tyN d = some n ∧ kitB n T = some b
def isInt : D → Option Bool | .int _ => some true | .bl _ => some true | .ins _ _ => none | _ => some false
def isBool : D → Option Bool | .bl _ => some true | .ins _ _ => none | _ => some false
def isStr : D → Option Bool | .str _ => some true | .ins _ _ => none | _ => some false
def isTuple : D → Option Bool | .tup _ => some true | .ins _ _ => none | _ => some false
def isList : D → Option Bool | .lst _ => some true | .box => some true | .ins _ _ => none | _ => some false
theorem ty_int : IsTy "int" isInt := ⟨fun d b h => by cases d <;> cases h <;> exact ⟨_, rfl, by decide +kernel⟩⟩
theorem ty_bool : IsTy "bool" isBool := ⟨fun d b h => by cases d <;> cases h <;> exact ⟨_, rfl, by decide +kernel⟩⟩
theorem ty_str : IsTy "str" isStr := ⟨fun d b h => by cases d <;> cases h <;> exact ⟨_, rfl, by decide +kernel⟩⟩
theorem ty_tuple : IsTy "tuple" isTuple := ⟨fun d b h => by cases d <;> cases h <;> exact ⟨_, rfl, by decide +kernel⟩⟩
theorem ty_list : IsTy "list" isList := ⟨fun d b h => by cases d <;> cases h <;> exact ⟨_, rfl, by decide +kernel⟩⟩
def isiO (f : D → Option Bool) (d : D) : Option D := (f d).map .bl
theorem k_isi {T : Str} {t : String} {f : D → Option Bool} {p p2 : Pos} {ma : ME} (F : IsTy t f) (hg : Gl X "isinstance") (hm : X.mg "isinstance" = none) (ha : KE X c G0 H0 W e ma) (hT : PE X (.Name T p2) (tC (.ty t))) (hK : X.K = c.st.K := by rfl)
    (hs1 : starEach [e, .Name T p2] X.env = (false, eval e X.env) :: starEach [.Name T p2] X.env := by rfl) (hs2 : starEach [.Name T p2] X.env = (false, eval (.Name T p2) X.env) :: starEach [] X.env := by rfl) (hpl : (backTo pos (starEach [.Name T p2] X.env)).any (·.1) = false := by rfl) :
    KE X c G0 H0 W (.Call (.Name "isinstance" p) [e, .Name T p2] [] pos) (m1 (isiO f) ma) := pe_imp (pe_callB call_isi hg hm (by decide +kernel) (pa_cons ha (pa_cons hT pa_nil hs2) hs1) (he := hs1) (hpl := hpl)) fun σ H Q ⟨env, G, s, R, q⟩ =>
  ⟨env, G, s, R, q.bind fun d s1 v G1 H1 _ e1 qd p1 => by
    cases z : f d with
    | none =>
      have p2 : Post c G1 H1 (Dd c) (ofO ((f d).map .bl) s1) _ Q := p1
      rw [z] at p2; exact False.elim p2
    | some k =>
      have p2 : Post c G1 H1 (Dd c) (ofO ((f d).map .bl) s1) _ Q := p1
      rw [z] at p2
      obtain ⟨n, h1, h2⟩ := F.ok d k z
      exact ⟨v, .ty t, .type n, .type t, k, rfl, .ty t, by rw [hK]; exact ty_dd qd e1.sub e1.box h1, by rw [hK]; exact kit_ty h2, p2 _ G1 H1 (.refl e1.sub e1.box) (.bl k)⟩⟩
def isi2O (f g : D → Option Bool) (d : D) : Option D := match f d, g d with | some a, some b => some (.bl (a || b)) | _, _ => none
theorem k_isi2 {T T2 : Str} {t t2 : String} {f g : D → Option Bool} {p p2 p3 p4 : Pos} {x1} {ma : ME} (F : IsTy t f) (F2 : IsTy t2 g) (hg : Gl X "isinstance") (hm : X.mg "isinstance" = none) (ha : KE X c G0 H0 W e ma) (hT : PE X (.Name T p2) (tC (.ty t))) (hT2 : PE X (.Name T2 p3) (tC (.ty t2))) (hK : X.K = c.st.K := by rfl)
    (hs1 : starEach [e, .Tuple [.Name T p2, .Name T2 p3] x1 p4] X.env = (false, eval e X.env) :: starEach [.Tuple [.Name T p2, .Name T2 p3] x1 p4] X.env := by rfl) (hs2 : starEach [.Tuple [.Name T p2, .Name T2 p3] x1 p4] X.env = (false, eval (.Tuple [.Name T p2, .Name T2 p3] x1 p4) X.env) :: starEach [] X.env := by rfl)
    (hs3 : starEach [.Name T p2, .Name T2 p3] X.env = (false, eval (.Name T p2) X.env) :: starEach [.Name T2 p3] X.env := by rfl) (hs4 : starEach [.Name T2 p3] X.env = (false, eval (.Name T2 p3) X.env) :: starEach [] X.env := by rfl) (hpl : (backTo pos (starEach [.Tuple [.Name T p2, .Name T2 p3] x1 p4] X.env)).any (·.1) = false := by rfl) :
    KE X c G0 H0 W (.Call (.Name "isinstance" p) [e, .Tuple [.Name T p2, .Name T2 p3] x1 p4] [] pos) (m1 (isi2O f g) ma) := pe_imp (pe_callB call_isiT hg hm (by decide +kernel) (pa_cons ha (pa_cons (pe_tup (pa_cons hT (pa_cons hT2 pa_nil hs4) hs3)) pa_nil hs2) hs1) (he := hs1) (hpl := hpl)) fun σ H Q ⟨env, G, s, R, q⟩ =>
  ⟨env, G, s, R, q.bind fun d s1 v G1 H1 _ e1 qd p1 => by
    refine ⟨by show 2 ≤ sizeLine; decide, fun q hq => ?_⟩
    have E := Ex.new (c := c) (o := .tup [.ty t, .ty t2]) e1.sub e1.box hq
    cases z : f d with
    | none =>
      have p2 : Post c G1 H1 (Dd c) (ofO (isi2O f g d) s1) _ Q := p1
      unfold isi2O at p2
      rw [z] at p2; exact False.elim p2
    | some k =>
      cases z2 : g d with
      | none =>
        have p2 : Post c G1 H1 (Dd c) (ofO (isi2O f g d) s1) _ Q := p1
        unfold isi2O at p2
        rw [z, z2] at p2; exact False.elim p2
      | some k2 =>
        have p2 : Post c G1 H1 (Dd c) (ofO (isi2O f g d) s1) _ Q := p1
        unfold isi2O at p2
        rw [z, z2] at p2
        obtain ⟨n, h1, h2⟩ := F.ok d k z
        obtain ⟨n2, h3, h4⟩ := F2.ok d k2 z2
        rw [h1] at h3; cases h3
        refine ⟨v, q, [.ty t, .ty t2], .type n, [.type t, .type t2], k || k2, rfl, upd_same, .cons (.ty t) (.cons (.ty t2) .nil), by rw [hK]; exact ty_dd (qd.mono E.gg) E.sub E.box h1, ?_, p2 _ _ _ E (.bl _)⟩
        rw [hK]
        refine kitAny_cons (kit_ty h2) (fun hk => kitAny_cons (kit_ty h4) (fun hk2 => ?_) fun hk2 => ?_) fun hk => by rw [hk]; rfl
        · rw [hk, hk2]; exact kitAny_nil
        · rw [hk2, Bool.or_true]⟩

/-! ### texts' methods -/
def mStr1N (g : Str → D → Option (List D)) (a b : ME) : MA := fun env s => (a env s).bind fun x s1 => match x with | .str z => (b env s1).bind fun y s2 => ofO (g z y) s2 | _ => .bad
def mStr1 (g : Str → D → Option D) (a b : ME) : ME := fun env s => (a env s).bind fun x s1 => match x with | .str z => (b env s1).bind fun y s2 => ofO (g z y) s2 | _ => .bad
def mStr0 (g : Str → Option D) (a : ME) : ME := fun env s => (a env s).bind fun x s1 => match x with | .str z => ofO (g z) s1 | _ => .bad
def splitO (a : Str) (y : D) : Option (List D) := match y with | .str b => if (b.length == 0) = false ∧ a.length ≤ 1000000 then some ((Txt.split a b).map .str) else none | _ => none
theorem k_split {apos : Pos} {mo ma : ME} (ho : KE X c G0 H0 W o mo) (he : KE X c G0 H0 W e ma) (hs : starEach [e] X.env = [(false, eval e X.env)] := by rfl) (hbase : attributeBase o "split" X.env (eval o X.env) = eval o X.env := by rfl) (hline : (apos.endLine == pos.line) = true := by rfl) :
    KN X c G0 H0 W (.Call (.Attribute o "split" apos) [e] [] pos) (mStr1N splitO mo ma) := pe_imp (pe_split ho he hs hbase hline) fun σ H Q ⟨env, G, s, R, p⟩ =>
  ⟨env, G, s, R, PostN.bind p fun dx s1 x G1 H1 _ e1 qx p1 => by
    cases dx with
    | str z =>
      cases qx
      refine ⟨⟨z, rfl⟩, env, G1, s1, R.step e1, PostN.bind p1 fun dy s2 y G2 H2 _ e2 qy p2 => ?_⟩
      cases dy with
      | str w =>
        cases qy
        have p3 : PostN c G2 H2 (ofO (if (w.length == 0) = false ∧ z.length ≤ 1000000 then some ((Txt.split z w).map D.str) else none) s2) _ Q := p2
        by_cases hz : (w.length == 0) = false ∧ z.length ≤ 1000000
        · rw [if_pos hz] at p3
          exact ⟨z, w, rfl, rfl, hz.1, Nat.le_trans (Nat.add_le_add_right hz.2 2) (by decide), valN (s := s2) e2.sub e2.box (da_strs _) p3⟩
        · rw [if_neg hz] at p3; exact False.elim p3
      | _ => exact False.elim p2
    | _ => exact False.elim p1⟩
def joinO (a : Str) (y : D) : Option D := match y with
  | .lst l => (strsOf l).bind fun ys => if (ys.map (·.length)).sum + ys.length * a.length ≤ 1000000 then some (.str (Txt.join a ys)) else none
  | .tup l => (strsOf l).bind fun ys => if (ys.map (·.length)).sum + ys.length * a.length ≤ 1000000 then some (.str (Txt.join a ys)) else none
  | _ => none
theorem k_join {apos : Pos} {mo ma : ME} (ho : KE X c G0 H0 W o mo) (he : KE X c G0 H0 W e ma) (hK : X.K = c.st.K := by rfl) (hs : starEach [e] X.env = [(false, eval e X.env)] := by rfl) (hbase : attributeBase o "join" X.env (eval o X.env) = eval o X.env := by rfl) (hline : (apos.endLine == pos.line) = true := by rfl) :
    KE X c G0 H0 W (.Call (.Attribute o "join" apos) [e] [] pos) (mStr1 joinO mo ma) := pe_imp (pe_join ho he hs hbase hline) fun σ H Q ⟨env, G, s, R, p⟩ =>
  ⟨env, G, s, R, p.bind fun dx s1 x G1 H1 _ e1 qx p1 => by
    cases dx with
    | str z =>
      cases qx
      refine ⟨⟨z, rfl⟩, env, G1, s1, R.step e1, Post.bind p1 fun dy s2 y G2 H2 _ e2 qy p2 => ?_⟩
      have line : ∀ n : Nat, n ≤ 1000000 → n ≤ 16777216 := fun n h => Nat.le_trans h (by decide)
      cases dy with
      | lst l =>
        cases qy with
        | lst hx rx =>
          cases w : strsOf l with
          | none =>
            have p3 : Post c G2 H2 (Dd c) (ofO ((strsOf l).bind fun ys => if (ys.map (·.length)).sum + ys.length * z.length ≤ 1000000 then some (.str (Txt.join z ys)) else none) s2) _ Q := p2
            rw [w] at p3; exact False.elim p3
          | some ys =>
            have p3 : Post c G2 H2 (Dd c) (ofO ((strsOf l).bind fun ys => if (ys.map (·.length)).sum + ys.length * z.length ≤ 1000000 then some (.str (Txt.join z ys)) else none) s2) _ Q := p2
            rw [w, Option.bind_some] at p3
            by_cases hz : (ys.map (·.length)).sum + ys.length * z.length ≤ 1000000
            · rw [if_pos hz] at p3
              have ee := strs_da rx w
              subst ee
              exact ⟨z, _, ys, rfl, rfl, .inl (SqL.of (e2.sub _ _ hx)), line _ hz, p3 _ _ _ (.refl e2.sub e2.box) (.str _)⟩
            · rw [if_neg hz] at p3; exact False.elim p3
      | tup l =>
        cases qy with
        | tup hx rx =>
          cases w : strsOf l with
          | none =>
            have p3 : Post c G2 H2 (Dd c) (ofO ((strsOf l).bind fun ys => if (ys.map (·.length)).sum + ys.length * z.length ≤ 1000000 then some (.str (Txt.join z ys)) else none) s2) _ Q := p2
            rw [w] at p3; exact False.elim p3
          | some ys =>
            have p3 : Post c G2 H2 (Dd c) (ofO ((strsOf l).bind fun ys => if (ys.map (·.length)).sum + ys.length * z.length ≤ 1000000 then some (.str (Txt.join z ys)) else none) s2) _ Q := p2
            rw [w, Option.bind_some] at p3
            by_cases hz : (ys.map (·.length)).sum + ys.length * z.length ≤ 1000000
            · rw [if_pos hz] at p3
              have ee := strs_da rx w
              subst ee
              exact ⟨z, _, ys, rfl, rfl, .inr (by rw [hK]; exact same_seqT e2.sub hx), line _ hz, p3 _ _ _ (.refl e2.sub e2.box) (.str _)⟩
            · rw [if_neg hz] at p3; exact False.elim p3
      | _ => exact False.elim p2
    | _ => exact False.elim p1⟩
def upperO (a : Str) : Option D := if a.length ≤ 1000000 then some (.str (Txt.upper a)) else none
theorem k_upper {apos : Pos} {mo : ME} (ho : KE X c G0 H0 W o mo) (hbase : attributeBase o "upper" X.env (eval o X.env) = eval o X.env := by rfl) (hline : (apos.endLine == pos.line) = true := by rfl) :
    KE X c G0 H0 W (.Call (.Attribute o "upper" apos) [] [] pos) (mStr0 upperO mo) := pe_imp (pe_upper ho hbase hline) fun σ H Q ⟨env, G, s, R, p⟩ =>
  ⟨env, G, s, R, p.bind fun dx s1 x G1 H1 _ e1 qx p1 => by
    cases dx with
    | str z =>
      cases qx
      have p3 : Post c G1 H1 (Dd c) (ofO (if z.length ≤ 1000000 then some (.str (Txt.upper z)) else none) s1) _ Q := p1
      by_cases hz : z.length ≤ 1000000
      · rw [if_pos hz] at p3
        exact ⟨⟨z, rfl⟩, z, rfl, rfl, Nat.le_trans hz (by decide), p3 _ _ _ (.refl e1.sub e1.box) (.str _)⟩
      · rw [if_neg hz] at p3; exact False.elim p3
    | _ => exact False.elim p1⟩

/-! ### + and * of lists, * of texts and tuples -/
def m2N (g : D → D → Option (List D)) (a b : ME) : MA := fun env s => (a env s).bind fun x s1 => (b env s1).bind fun y s2 => ofO (g x y) s2
theorem l_opN {r : R2} {g : D → D → Option (List D)} {ma mb : ME} (v : ∀ {G H : Hp} {s : BoxSt} {x y : V} {dx dy : D} {l : List D} {Q : VK}, Same G H → BoxAt c s H → Dd c G x dx → Dd c G y dy → g dx dy = some l → (∀ p ys G' H', Ex c G H G' H' s → H p = none → G' p = none → H' p = some (.lst ys) → Da c G' ys l → Q (.ref p) H') → r x y H Q)
    (σ : St) (H : Hp) (Q : VK) : lN c G0 H0 W (m2N g ma mb) σ H Q → tOp r (lE c G0 H0 W ma) (lE c G0 H0 W mb) σ H Q := fun ⟨env, G, s, R, p⟩ =>
  ⟨env, G, s, R, PostN.bind p fun dx s1 x G1 H1 _ e1 qx p1 => ⟨env, G1, s1, R.step e1, PostN.bind p1 fun dy s2 y G2 H2 _ e2 qy p2 => by
    cases h : g dx dy with
    | none => rw [h] at p2; exact False.elim p2
    | some d => rw [h] at p2; exact v e2.sub e2.box (qx.mono e2.gg) qy h p2⟩⟩
def catL (x y : D) : Option (List D) := match x, y with | .lst a, .lst b => if a.length + b.length ≤ 1000000 then some (a ++ b) else none | _, _ => none
theorem k_catL {ma mb : ME} (ha : KE X c G0 H0 W a ma) (hb : KE X c G0 H0 W b mb) : KN X c G0 H0 W (.BinOp a .Add b pos) (m2N catL ma mb) := pe_imp (pe_op op_cat ha hb) (l_opN fun {G H s x y dx dy l Q} e b hx hy hg k => by
  unfold catL at hg
  split at hg
  · split at hg
    · rename_i q
      cases hx with
      | lst hx rx =>
        cases hy with
        | lst hy ry =>
          cases hg
          exact ⟨_, _, _, _, rfl, rfl, e _ _ hx, e _ _ hy, small_line (by rw [rx.len, ry.len]; exact q), valN e b (rx.app ry) k⟩
    · cases hg
  · cases hg)
def repL (x y : D) : Option (List D) := match x, y with | .lst a, .int k => if a.length * k.toNat ≤ 1000000 ∧ -1000000 ≤ k ∧ k ≤ 1000000 then some (List.replicate k.toNat a).flatten else none | _, _ => none
theorem Da.rep {G : Hp} {xs : List V} {ds : List D} (r : Da c G xs ds) : ∀ n : Nat, Da c G (List.replicate n xs).flatten (List.replicate n ds).flatten
  | 0 => .nil
  | n + 1 => by
    rw [List.replicate_succ, List.replicate_succ, List.flatten_cons, List.flatten_cons]
    exact r.app (r.rep n)
theorem k_repL {ma mb : ME} (ha : KE X c G0 H0 W a ma) (hb : KE X c G0 H0 W b mb) : KN X c G0 H0 W (.BinOp a .Mult b pos) (m2N repL ma mb) := pe_imp (pe_op op_rep ha hb) (l_opN fun {G H s x y dx dy l Q} e b hx hy hg k => by
  unfold repL at hg
  split at hg
  · split at hg
    · rename_i q
      cases hx with
      | lst hx rx =>
        cases hy
        cases hg
        exact ⟨_, _, _, rfl, rfl, e _ _ hx, by omega, by omega, small_line (by rw [rx.len]; exact q.1), valN e b (rx.rep _) k⟩
    · cases hg
  · cases hg)
/-- text * int, tuple * int, int * int -/
def mulA (x y : D) : Option D := match x, y with
  | .int i, .int j => if (-(2 ^ 64) < i ∧ i < 2 ^ 64) ∨ (-(2 ^ 64) < j ∧ j < 2 ^ 64) then some (.int (i * j)) else none
  | .str z, .int k => if z.length * 1000 ≤ 1000000 ∧ 0 ≤ k ∧ k ≤ 1000 then some (.str (Txt.mul z k)) else none
  | .tup l, .int k => if l ≠ [] ∧ 2 ≤ k ∧ k ≤ 1000 ∧ l.length ≤ 1000 then some (.tup (List.replicate k.toNat l).flatten) else none
  | _, _ => none
def rMulS : R2 := fun x y H Q => ∃ (z : Str) (n : Int), x = .str z ∧ y = .int n ∧ MulOk z n ∧ Q (.str (Txt.mul z n)) H
theorem op_mulS : OpR X (binaryOp .Mult) rMulS := by
  intro pins s σ H x y v u Q I rx ry h
  obtain ⟨z, n, rfl, rfl, hm, q⟩ := h
  obtain ⟨t, rfl⟩ := rx
  obtain ⟨t', rfl⟩ := ry
  exact PySem.SB.mul hm fun t' k => ⟨.str _, H, I.tok k, ⟨t', rfl⟩, q⟩
def rMulA (K : PySem.W.Frag) : R2 := fun x y H Q => rI CMul (fun i j => .int (i * j)) x y H Q ∨ (rMulS x y H Q ∨ rRepT K x y H Q)
theorem o_mulA : OpR X (binaryOp .Mult) (rMulA X.K) := op_mul.or (op_mulS.or op_repT)
theorem v_mulA : V2 c (rMulA c.st.K) mulA := fun {G H s x y dx dy d Q} e b hx hy hg k => by
  unfold mulA at hg
  split at hg
  · split at hg
    · rename_i q
      cases hx; cases hy; cases hg
      exact .inl ⟨_, _, rfl, rfl, q, val e b (.int _) k⟩
    · cases hg
  · split at hg
    · rename_i z n q
      cases hx; cases hy; cases hg
      exact .inr (.inl ⟨_, _, rfl, rfl, PyProof.Rows.mulOk_of 1000 1000 (by omega) (by omega) (by omega) (by decide) (by decide), val e b (.str _) k⟩)
    · cases hg
  · split at hg
    · rename_i l n q
      cases hx with
      | tup hx rx =>
        cases hy
        cases hg
        refine .inr (.inr ⟨_, _, _, rfl, rfl, same_seqT e hx, fun z => q.1 ?_, q.2.1, q.2.2.1, by rw [rx.len]; exact q.2.2.2, valT e b (rx.rep _) k⟩)
        have := rx.len
        rw [z] at this
        exact List.length_eq_zero_iff.mp this.symm
    · cases hg
  · cases hg
end
end Kn

end

section
set_option Elab.async false
set_option linter.all false
set_option maxRecDepth 100000
set_option maxHeartbeats 2000000
/-! Kn6: own errors: class X(CardError): def __init__(self, at): super().__init__('..'); self.at = at. -/
namespace Kn
open PySem L2 PySem.W PySem.Calls

/-! ### the text of such an __init__ -/
def erA (p1 p2 : Pos) (fl : Str) : Arguments := { posonlyargs := [], args := [{ arg := "self", annotation := none, pos := p1 }, { arg := fl, annotation := none, pos := p2 }], vararg := none, kwonlyargs := [], kw_defaults := [], kwarg := none, defaults := [] }
def erB (q1 q2 q3 q4 q5 q6 q7 q8 q9 q10 : Pos) (j : Nat) (msg fl : Str) : List Stmt :=
  [.Expr (.Call (.Attribute (.Call (.Name "super" q1) [] [] q2) "__init__" q3) [.Constant (.str msg) j q4] [] q5) q6, .Assign [.Attribute (.Name "self" q7) fl q8] (.Name fl q9) q10]
def erS (fl : Str) : Scope := { kind := .function, names := [(PySem.Str.ofString "self", .local), (fl, .local), (PySem.Str.ofString "__class__", .free), (PySem.Str.ofString "super", .globalImplicit)], isGenerator := false, isCoroutine := false, more := [] }
abbrev baseTail : List Value := [.type "Exception", .type "BaseException", .type "object"]
/-- what the written part says of the class at C, named nm, over the class at B, its __init__ at fI, its cell at cc, its code at cda -/
structure ErrTxt (prog : Program) (K : Frag) (mg : Str → Option Value) (nm qn fl : Str) (C B fI cc cda : Addr) : Prop where
  gC : mg nm = some (.ref C)
  cls : ∃ n1 q1 N bs sn sub ab col dd k0 k1 k2 k3 k5, K.lookup C = some (excClassObj n1 q1 C N bs (.ref B :: baseTail) true sn sub ab col dd k0 k1 k2 k3 k5 "Exception.__new__")
  sa : findIn K (.ref C) "__setattr__" = some (some (.builtin "object.__setattr__"))
  ga : findIn K (.ref C) "__getattribute__" = some (some (.builtin "BaseException.__getattribute__"))
  gg : findIn K (.ref C) "__getattr__" = some none
  noN : findIn K (.ref C) fl = some none
  iC : findIn K (.ref C) "__init__" = some (some (.ref fI))
  iB : alongIn K "__init__" (.ref B :: baseTail) = some (some (.builtin "Exception.__init__"))
  tC : typeIn K (.ref fI) = some (.type "function")
  kC : keepIn K (.ref C) = true
  exC : subIn K (.ref C) (.type "BaseException") = some true
  eC : subIn K (.ref C) (.type "Exception") = some true
  tyC : typeIn K (.ref C) = some (.type "type")
  hdC : hasDictIn K C = true
  te : exmOne K (.ref C) (.ref C) = some true
  op : nsIn K cStatics "thirdparty.any" = some none
  su : mg "super" = none
  top : (prog.main.scope.names.lookup ("super" : Str)).isSome = false
  cell : ∃ cl cld csl, K.lookup cc = some ⟨cl, cld, .cell (some (.ref C)), csl⟩
  code : ∃ ccl cdd vs ccs file tf, K.lookup cda = some ⟨ccl, cdd, .fields vs, ccs⟩ ∧ vs[2]? = some (.str file tf) ∧ ((prog.main.file : Str) == file) = true
  cdq : codeIn K (.ref cda) qn = true
  flOk : (("self" : Str) == fl) = false ∧ (fl == ("__debug__" : Str)) = false ∧ ((fl == ("super" : Str)) = false ∧ (fl == ("__class__" : Str)) = false)
  fn : ∃ (oc : Value) (od : Option Addr) (doc pm : Value) (an : Option Addr) (ct : Value) (osl : Array (Option Value)) (p1 p2 q1 q2 q3 q4 q5 q6 q7 q8 q9 q10 : Pos) (j : Nat) (msg : Str),
    (q3.endLine == q5.line) = true ∧ K.lookup fI = some ⟨oc, od, .func (fnX "__init__" qn (erA p1 p2 fl) (erB q1 q2 q3 q4 q5 q6 q7 q8 q9 q10 j msg fl) (erS fl) [("__class__", cc)] .none .none doc pm an (.ref cda) ct), osl⟩ ∧ ∀ u v : Value, bindArgs (fnX "__init__" qn (erA p1 p2 fl) (erB q1 q2 q3 q4 q5 q6 q7 q8 q9 q10 j msg fl) (erS fl) [("__class__", cc)] .none .none doc pm an (.ref cda) ct) ⟨[u, v], []⟩ = pure [(("self" : Str), u), (fl, v)]

theorem one_fits (v : Value) : [v].length ≤ sizeLine := by rw [sizeLine_eq]; exact (by decide : 1 ≤ 16777216)
theorem tail_contains (B : Addr) : ∀ X : String, (Value.ref B :: baseTail).contains (.type X) = baseTail.contains (.type X) := fun X => by rw [List.contains_cons]; rfl

section
open Builtin Builtin.ObjectAttr
variable {prog : Program} {w : World} {A : Around} {E : Value → Shared → Prop} {R : Result → Shared → Prop} {K : Frag} {mg : Str → Option Value} {nm qn fl : Str} {C B fI cc cda : Addr}
theorem ErrTxt.clsIn (T : ErrTxt prog K mg nm qn fl C B fI cc cda) : ∃ cd, PySem.W.clsIn K C = some cd ∧ cd.mro = .ref C :: .ref B :: baseTail ∧ cd.hasDict = true := by
  obtain ⟨n1, q1, N, bs, sn, sub, ab, col, dd, k0, k1, k2, k3, k5, h⟩ := T.cls
  unfold PySem.W.clsIn
  rw [h]
  exact ⟨_, rfl, rfl, rfl⟩
/-- self.at = at on a new error: its own dict is made -/
theorem er_store {hp : Heap} {g : Array GenState} {d : Drawn} {t : Nat} {os : OsState} {name : Str} {tk : Tok} {v : Value} {x C : Addr} {fv : Array Value} {cd : ClassData}
    (X : K.In hp) (hx : hp.get? x = some { cls := .ref C, data := .fields fv }) (hcd : PySem.W.clsIn K C = some cd) (hm : cd.mro = .ref C :: .ref B :: baseTail) (hh : cd.hasDict = true) (ha : findIn K (.ref C) name = some none)
    (hq : ∀ h' tk' dx, (∀ b o, b ≠ x → hp.get? b = some o → h'.get? b = some o) → hp.objs.size ≤ dx → dx ≠ x → h'.get? x = some { cls := .ref C, dict := some dx, data := .fields fv } →
      h'.Ns1 dx (fun y => if y = name then some v else none) → R (.ok (.ret .none)) ⟨h', g, d, tk', os⟩) :
    codeAny (model prog w) A (.call (.builtin "object.__setattr__") ⟨[.ref x, .str name tk, v], []⟩) R ⟨hp, g, d, t, os⟩ := by
  have I : InstAt hp x { cls := .ref C, data := .fields fv } C none := ⟨hx, rfl, rfl, trivial⟩
  have hxs : x ≠ hp.objs.size := Nat.ne_of_lt (Heap.lt_size hx)
  have hov : excOver K C baseTail = true := by
    unfold excOver
    rw [hcd]
    show (match cd.mro with | .ref C' :: bm => C' == C && excTail baseTail bm | _ => false) = true
    rw [hm]
    show (C == C && excTail baseTail (.ref B :: baseTail)) = true
    rw [beq_self_eq_true, Bool.true_and]
    rfl
  have htk : takerIn K C name = some none := by
    unfold takerIn
    rw [ha]
    rfl
  refine osa_openX F.store_Exception X I hov htk fun b => ?_
  have hcls : Looks (model prog w) hp (classData C) cd := looks_clsIn X hcd
  obtain ⟨n1, bs, mro, ns, q1, hd, sn, sb, ab, col, del⟩ := cd
  dsimp only at hh
  subst hh
  show wpAny _ _ (storeInOwnDict (.ref x) (.ref C) (.str name tk) name v b) _ _ _
  unfold storeInOwnDict ownDictForStores
  repeat (first | with_reducible refine HandSPX.store_in_new ?_ ?_ | with_reducible refine wpAny_loadPart_at hx ?_ | with_reducible refine hcls.at ?_ | wp_step)
  · exact ⟨_, #[], _, (Heap.get?_update_ne _ _ _ _ hxs.symm).trans (Heap.get?_push_at rfl rfl), rfl, fun e he => absurd he (by simp), fun _ => rfl⟩
  · intro h' tk' hn' hs
    have hx₁ : (hp.push { cls := .type "dict", data := .dict #[] }).get? x = some { cls := .ref C, data := .fields fv } := Heap.get?_push_of_some _ hx
    refine hq h' tk' hp.objs.size (fun b o hb ho => ?_) (Nat.le_refl _) hxs.symm ?_ hn'
    · exact (hs.2 b (Nat.ne_of_lt (Heap.lt_size ho))).trans ((Heap.get?_update_ne _ _ _ _ hb).trans (Heap.get?_push_of_some _ ho))
    · exact (hs.2 x hxs).trans (Heap.get?_update_self _ hx₁ rfl)
end
section
variable {prog : Program} {w : World} {M : Model} {A : Around} {c : Code} {E : Value → Shared → Prop} {s : Shared} {env : Env}
/-- super().m(text) -/
theorem sup_call {o : Expr} {name : Str} {apos pos p4 : Pos} {j : Nat} {msg : Str} {Q : Value → Shared → Prop} (hline : (apos.endLine == pos.line) = true)
    (h : _root_.PySem.wpAt M A c (attributeBase o name env (eval o env)) (fun ov s₁ => ∀ pl, wpAny M A (getMethod ov name pl) (fun fx s₂ => wpAny M A (callWith pos fx.1 fx.2 (backTo pos (starEach [.Constant (.str msg) j p4] env)) []) Q E s₂) E s₁) E s) :
    _root_.PySem.wpAt M A c (eval (.Call (.Attribute o name apos) [.Constant (.str msg) j p4] [] pos) env) Q E s := by
  rw [arm_eval_Call]
  refine wpAt_bind (ks_wpAt_mono h (fun ov s₁ h₁ => wpAt_of_wpAny (wpAny_bind (wpAny_standAt ?_))) fun _ _ x => x)
  have hform : methodCallForm ([Expr.Constant (.str msg) j p4].length + ([] : List Keyword).length) (backTo pos (starEach [.Constant (.str msg) j p4] env)) (backToKw pos (keywordEach [] env)) = true := by rfl
  have hpos : methodCallPos true o env apos pos = pure pos := by unfold methodCallPos; simp [hline]
  unfold methodCall
  rw [hform]
  refine wpAny_bind (wpAny_holding (wpAny_mono (h₁ _) (fun fx s₂ h₂ => ?_) fun _ _ x => x))
  obtain ⟨f, first⟩ := fx
  exact wpAny_bind (wpAny_of_eq hpos h₂)
end
/-- what __init__ leaves of a fresh error at x -/
structure ErEnd (h h' : Heap) (x C dx t1 : Addr) (fl : Str) (v : Value) : Prop where
  keep : ∀ b o, b ≠ x → h.get? b = some o → h'.get? b = some o
  obj : h'.get? x = some { cls := .ref C, dict := some dx, data := .fields #[.ref t1, .none, .none, .none, .bool false, .none] }
  dbig : h.objs.size ≤ dx
  dne : dx ≠ x
  ns : h'.Ns1 dx (fun y => if y = fl then some v else none)
section
variable {prog : Program} {w : World} {A : Around} {E : Value → Shared → Prop} {R : Result → Shared → Prop} {K : Frag} {mg mb : Str → Option Value} {nm qn fl : Str} {C B fI cc cda : Addr} {s : Shared}
theorem er_init (T : ErrTxt prog K mg nm qn fl C B fI cc cda) {x t0 : Addr} {v : Value} (X : K.In s.heap) (hlim : s.heap.NoLimit) (hG : s.heap.Ns mainGlobals mg) (hB : s.heap.Ns builtinsNs mb) (hb : mb "super" = some (.type "super")) (hx : s.heap.get? x = some (HandSPX.excO C t0)) (hnx : K.lookup x = none) (hroom : A.depth < recursionLimit)
    (hq : ∀ h' tk dx t1, ErEnd s.heap h' x C dx t1 fl v → R (.ok (.ret .none)) { s with heap := h', toks := tk }) :
    codeAny (model prog w) A (.call (.ref fI) ⟨[.ref x, v], []⟩) R s := by
  obtain ⟨oc, od, doc, pm, an, ct, osl, p1, p2, q1, q2, q3, q4, q5, q6, q7, q8, q9, q10, j, msg, hline, ho, hbd⟩ := T.fn
  obtain ⟨n1, qq, N, bs, sn, sub, ab, col, dd, k0, k1, k2, k3, k5, hC⟩ := T.cls
  obtain ⟨cd, hcd, hm, hh⟩ := T.clsIn
  obtain ⟨cl, cld, csl, hcell⟩ := T.cell
  obtain ⟨ccl, cdd, vs, ccs, file, tf, hcode, hvs, hfile⟩ := T.code
  obtain ⟨f1, f2, f3, f4⟩ := T.flOk
  have nself : ("self" : Str) ≠ fl := fun z => by rw [z, beq_self_eq_true] at f1; cases f1
  refine ks_codeAny_call_defAt (binds := [("self", .ref x), (fl, v)]) hroom (X _ _ ho) rfl hlim (codeRec_of X T.cdq) rfl (BindsTo.of_eq (hbd _ _)) (fun y hy => ?_) (fun y hy => ?_) (fun h₁ hns k => ?_) rfl rfl rfl
  · have hy' : y = ((("self" : Str)), NameKind.local) ∨ y = (fl, NameKind.local) ∨ y = ((("__class__" : Str)), NameKind.free) ∨ y = ((("super" : Str)), NameKind.globalImplicit) := by
      have z : y ∈ (erS fl).names := hy
      simpa [erS] using z
    rcases hy' with z | z | z | z <;> (rw [z]; exact fun q => nomatch q)
  · have hy' : y = ((("self" : Str)), Value.ref x) ∨ y = (fl, v) := by simpa using hy
    show (erS fl).names.lookup y.1 = some .local
    rcases hy' with z | z
    · rw [z]; rfl
    · rw [z]
      show List.lookup fl [(PySem.Str.ofString "self", NameKind.local), (fl, .local), (PySem.Str.ofString "__class__", .free), (PySem.Str.ofString "super", .globalImplicit)] = _
      have e : (fl == PySem.Str.ofString "self") = false := by
        rw [beq_eq_false_iff_ne]; exact fun z => nself z.symm
      simp [List.lookup, e]
  have X₁ : K.In h₁ := X.keeps k
  have hx₁ := k _ _ hx
  have eF : (fl == PySem.Str.ofString "self") = false := by
    rw [beq_eq_false_iff_ne]; exact fun z => nself z.symm
  have lkF : (erS fl).names.lookup fl = some .local := by
    show List.lookup fl [(PySem.Str.ofString "self", NameKind.local), (fl, .local), (PySem.Str.ofString "__class__", .free), (PySem.Str.ofString "super", .globalImplicit)] = _
    simp [List.lookup, eF]
  have lkS : (erS fl).names.lookup ("super" : Str) = some .globalImplicit := by
    show List.lookup (PySem.Str.ofString "super") [(PySem.Str.ofString "self", NameKind.local), (fl, .local), (PySem.Str.ofString "__class__", .free), (PySem.Str.ofString "super", .globalImplicit)] = _
    have e1 : (PySem.Str.ofString "super" == PySem.Str.ofString "self") = false := by decide
    have e2 : (PySem.Str.ofString "super" == fl) = false := by
      rw [beq_eq_false_iff_ne] at f3 ⊢; exact fun z => f3 z.symm
    have e3 : (PySem.Str.ofString "super" == PySem.Str.ofString "__class__") = false := by decide
    simp [List.lookup, e1, e2, e3]
  have lkC : (erS fl).names.lookup ("__class__" : Str) = some .free := by
    show List.lookup (PySem.Str.ofString "__class__") [(PySem.Str.ofString "self", NameKind.local), (fl, .local), (PySem.Str.ofString "__class__", .free), (PySem.Str.ofString "super", .globalImplicit)] = _
    have e1 : (PySem.Str.ofString "__class__" == PySem.Str.ofString "self") = false := by decide
    have e2 : (PySem.Str.ofString "__class__" == fl) = false := by
      rw [beq_eq_false_iff_ne] at f4 ⊢; exact fun z => f4 z.symm
    simp [List.lookup, e1, e2]
  have lkX : (erS fl).names.lookup ("self" : Str) = some .local := by
    show List.lookup (PySem.Str.ofString "self") [(PySem.Str.ofString "self", NameKind.local), (fl, .local), (PySem.Str.ofString "__class__", .free), (PySem.Str.ofString "super", .globalImplicit)] = _
    simp [List.lookup]
  have mself : ([(("self" : Str), Value.ref x), (fl, v)].reverse).lookup ("self" : Str) = some (.ref x) := by
    show List.lookup (("self" : Str)) [(fl, v), (("self" : Str), Value.ref x)] = _
    have e : (("self" : Str) == fl) = false := f1
    simp [List.lookup, e]
  have mfl : ([(("self" : Str), Value.ref x), (fl, v)].reverse).lookup fl = some v := by
    show List.lookup fl [(fl, v), (("self" : Str), Value.ref x)] = _
    simp [List.lookup]
  have xC : x ≠ C := fun z => by
    have q := X _ _ hC
    rw [← z, hx] at q
    injection q with q
    injection q with q1 q2 q3
    cases q1
  show _root_.PySem.wpAt _ _ _ (execs (erB q1 q2 q3 q4 q5 q6 q7 q8 q9 q10 j msg fl) (ksEnv qn (erS fl) s.heap.objs.size fI (.ref cda) cc)) _ _ _
  refine ks_wpAt_execs_cons (ks_wpAt_Expr_any (sup_call hline ?_) rfl rfl)
  refine ks_wpAt_super_base (env := ksEnv qn (erS fl) s.heap.objs.size fI (.ref cda) cc) lkS lkC (by decide) rfl (X₁ _ _ ho) rfl rfl rfl (X₁ _ _ hcode) rfl hvs hfile T.top ?_
  refine ks_loadName_global rfl lkS (loadGlobal_builtin (env := ksEnv qn (erS fl) s.heap.objs.size fI (.ref cda) cc) (hG.keeps k) T.su (hB.keeps k) hb ⟨rfl, ?_⟩)
  refine wpAny_loadName_free rfl lkC rfl ⟨_, X₁ _ _ hcell, rfl⟩ ?_
  refine wpAny_loadName_local rfl lkX hns mself ?_
  refine ks_wpAny_isType_cls (X₁ _ _ hC) rfl ⟨rfl, ?_⟩
  have sub : Looks (model prog w) h₁ (isSubtype (.ref C) (.ref C)) true := looks_mroIn X₁ (by
    unfold mroIn
    rw [hcd, Option.bind_some, hm]
    show (if (List.isEmpty (Value.ref C :: Value.ref B :: baseTail)) = true then none else some ((Value.ref C :: Value.ref B :: baseTail).contains (.ref C))) = some true
    rw [if_neg (show ¬ (List.isEmpty (Value.ref C :: Value.ref B :: baseTail) = true) from Bool.false_ne_true)]
    simp)
  refine ks_wpAny_call_super (X₁ _ _ hC) rfl hx₁ rfl (fun c e => nomatch e) sub (fun h₂ hso k₂ pl => ?_)
  have X₂ : K.In h₂ := X₁.keeps k₂
  have hx₂ := k₂ _ _ hx₁
  have I2 : InstAt h₂ x (HandSPX.excO C t0) C none := ⟨hx₂, rfl, rfl, trivial⟩
  have mro2 : Looks (model prog w) h₂ (mroOf (.ref C)) (.ref C :: .ref B :: baseTail) := by
    rw [← hm]
    exact (looks_clsIn X₂ hcd).andThen .now
  refine kxs_getMethod kxs_Exception hso (looks_opaque X₂ T.op) mro2 (l := .ref B :: baseTail) (by simp [List.dropWhile_cons]) X₂ T.iB (I2.type.andThen (looks_subIn X₂ T.eC)) xC (by decide) ?_
  have hu : (h₂.push (kxs_mw "Exception.__init__" x)).get? h₂.objs.size = some (ESX.bw x) := Heap.get?_push_at rfl rfl
  have k₃ : ∀ b o, h₂.get? b = some o → (h₂.push (kxs_mw "Exception.__init__" x)).get? b = some o := fun b o e => Heap.get?_push_of_some _ e
  have hx₃ := k₃ _ _ hx₂
  refine ESX.callWith_bound (x := x) (e := .Constant (.str msg) j q4) (Calls.spliced_cons (Calls.Constant_str (pos := q4) (k := j) (Calls.spliced_nil ⟨hu, ?_⟩))) (by rfl) (by rfl)
  refine ESX.call_bw (k₃ _ _ (X₂ _ _ hC)) hx₃ hu (by rw [sizeLine_eq]; exact (by decide : 1 ≤ 16777216)) (fun h₄ t1 k₄ hx₄ => ?_)
  -- self.at = at
  have up : ∀ b o, b ≠ x → h₁.get? b = some o → h₄.get? b = some o := fun b o hb e => k₄ b o hb (k₃ b o (k₂ b o e))
  have X₄ : K.In h₄ := fun a o e => up a o (fun z => by rw [z, hnx] at e; cases e) (X₁ a o e)
  have hxL : s.heap.objs.size ≠ x := Nat.ne_of_gt (Heap.lt_size hx)
  have hns₄ : h₄.Ns s.heap.objs.size (fun y => ([(("self" : Str), Value.ref x), (fl, v)].reverse).lookup y) := hns.at fun o e => up _ o hxL e
  refine ks_wpAt_execs_cons (wpAt_of_wpAny ?_)
  refine plainObj_wpAny_Assign_Attribute ?_
  refine ESX.ldL hns₄ mfl ?_ rfl lkF f2
  refine ESX.ldL hns₄ mself ?_ rfl lkX (by decide)
  refine set_plain X₄ (ox := HandSPX.excO C t1) (od := none) ⟨hx₄, rfl, rfl, trivial⟩ T.sa ?_
  refine er_store X₄ hx₄ hcd hm hh T.noN (fun h₅ tk₅ dx k₅ dn dne hx₅ hn₅ => ?_)
  show _root_.PySem.wpAt _ _ _ (execs _ _) _ _ _
  have z : s.heap.objs.size < h₄.objs.size := hns₄.lt
  exact wpAt_of_wpAny (wpAny_execs_nil (hq h₅ tk₅ dx t1 ⟨fun b o hb e => k₅ b o hb (up b o hb (k b o e)), hx₅, Nat.le_of_lt (Nat.lt_of_lt_of_le z dn), dne, hn₅⟩))
/-- a made error -/
structure ErMade (h h' : Heap) (e C d : Addr) (fl : Str) (v : Value) : Prop where
  keep : ∀ b o, h.get? b = some o → h'.get? b = some o
  new : h.objs.size ≤ e
  obj : ∃ oe vs, h'.get? e = some oe ∧ oe.cls = .ref C ∧ oe.dict = some d ∧ oe.data = .fields vs ∧ vs[1]? = some .none ∧ vs[2]? = some .none
  dbig : h.objs.size ≤ d
  dne : d ≠ e
  ns : h'.Ns1 d (fun y => if y = fl then some v else none)
theorem er_made (T : ErrTxt prog K mg nm qn fl C B fI cc cda) {v : Value} (X : K.In s.heap) (hlim : s.heap.NoLimit) (hG : s.heap.Ns mainGlobals mg) (hB : s.heap.Ns builtinsNs mb) (hb : mb "super" = some (.type "super")) (hroom : A.depth + 1 < recursionLimit)
    (hq : ∀ h' tk e d, ErMade s.heap h' e C d fl v → R (.ok (.ret (.ref e))) { s with heap := h', toks := tk }) : codeAny (model prog w) A (.call (.ref C) ⟨[v], []⟩) R s := by
  obtain ⟨n1, qq, N, bs, sn, sub, ab, col, dd, k0, k1, k2, k3, k5, hC⟩ := T.cls
  obtain ⟨hp, g, dr, tk, os⟩ := s
  have k : ∀ b o, hp.get? b = some o → ((hp.push (kdv_tup [v])).push (HandSPX.excO C hp.objs.size)).get? b = some o := fun b o e => Heap.get?_push_of_some _ (Heap.get?_push_of_some _ e)
  have hget : ((hp.push (kdv_tup [v])).push (HandSPX.excO C hp.objs.size)).get? (hp.objs.size + 1) = some (HandSPX.excO C hp.objs.size) := by heap_get
  have hnx : K.lookup (hp.objs.size + 1) = none := by
    cases e : K.lookup (hp.objs.size + 1) with
    | none => rfl
    | some o =>
      have z : hp.get? (hp.objs.size + 1) = some o := X _ _ e
      exact absurd (Nat.lt_of_succ_lt (Heap.lt_size z)) (Nat.lt_irrefl _)
  refine HandSPX.call_own F.excBase_Exception (tail_contains B) (X _ _ hC) (looks_findIn X T.iC) (fun self => bind_fn X self T.tC) (one_fits v) ?_
  refine er_init (s := ⟨(hp.push (kdv_tup [v])).push (HandSPX.excO C hp.objs.size), g, dr, tk, os⟩) T (X.keeps k) (hlim.keeps k) (hG.keeps k) (hB.keeps k) hb hget hnx ?_ fun h' tk' dx t1 M => ?_
  · show A.depth + 1 < recursionLimit
    exact hroom
  · have old : ∀ b o, hp.get? b = some o → h'.get? b = some o := fun b o e => M.keep b o (Nat.ne_of_lt (Nat.lt_succ_of_lt (Heap.lt_size e))) (k b o e)
    have z : hp.objs.size + 1 + 1 ≤ dx := by
      have q := M.dbig
      first
        | (simpa only [Heap.size_push] using q)
        | exact q
        | (rw [Heap.size_push, Heap.size_push] at q; exact q)
    exact ⟨rfl, hq h' tk' (hp.objs.size + 1) dx ⟨old, Nat.le_succ _, ⟨_, _, M.obj, rfl, rfl, rfl, rfl, rfl⟩, Nat.le_trans (Nat.le_trans (Nat.le_succ _) (Nat.le_succ _)) z, M.dne, M.ns⟩⟩
end

/-! ### raise X(e) -/
theorem relO_fld {v : V} {v' : Value} (r : RelV v v') (fl f : Str) : RelO (List.lookup f [(fl, v)]) (if f = fl then some v' else none) := by
  by_cases hw : f = fl
  · subst hw
    rw [if_pos rfl]
    have q : List.lookup f [(f, v)] = some v := by simp [List.lookup]
    rw [q]
    exact r
  · rw [if_neg hw]
    have qw : (f == fl) = false := by simpa using hw
    have q2 : List.lookup f [(fl, v)] = none := by simp [List.lookup, qw]
    rw [q2]
    trivial
section
variable {X : Cx} {nm qn fl : Str} {C B fI cc cda : Addr}
def tMkE (C : Addr) (fl : Str) (ta : TA) : L2.St → Hp → XK → Prop := fun σ H Q => ta σ H fun vs H1 => ∃ v, vs = [v] ∧ ∀ d, H1 d = none → Q (.ref C) (some d) (upd H1 d (.xd [(fl, v)]))
theorem pmk_er {a : Expr} {ta : TA} {p pos : Pos} {k : Nat} (T : ErrTxt X.prog X.K X.mg nm qn fl C B fI cc cda) (hr : Room k X.A) (ha : PA X [a] ta) (hg : Gl X nm)
    (hs : starEach [a] X.env = (false, eval a X.env) :: starEach [] X.env := by rfl) (hpl : (backTo pos (starEach [] X.env)).any (·.1) = false := by rfl) (hdb : (nm == ("__debug__" : Str)) = false := by decide) :
    L2N.PMk X (.Call (.Name nm p) [a] [] pos) (tMkE C fl ta) := by
  intro pins s σ H Q I h
  refine wpAny_Call_Name_kw (ld_glob I hg T.gC ?_ hdb)
  refine callWith_K (h₀ := X.base) I.ok.mod.kin T.kC (thn (ha.run pos pins s σ H _ I h) fun us s1 hh => ?_) hs hpl
  obtain ⟨vs, H1, I1, r1, v, ev, q1⟩ := hh
  subst ev
  refine ⟨I1.kIn, ?_⟩
  cases r1 with
  | cons rv rn =>
    rename_i v' us'
    cases rn
    show wpAny _ _ (call (.ref C) [v']) _ _ _
    have hlim := I1.nolimit
    obtain ⟨mb, b1, b2⟩ := I1.mod.blt
    have hsu : mb "super" = some (.type "super") := (b2 _ (by decide)).trans (by decide +kernel)
    have hG := I1.mod.glob.keeps I1.bk
    have hB := b1.keeps I1.bk
    obtain ⟨hp, g, dr, tk, os⟩ := s1
    refine wpAny_call (er_made T I1.kIn hlim hG hB hsu (by have := hr.dp; omega) fun h' tk' e d M => ?_)
    show L2N.MkP X pins σ Q (.ref e) ⟨h', g, dr, tk', os⟩
    obtain ⟨oe, fv, hoe, hc, hd, hdat, h1, h2⟩ := M.obj
    have hns := M.ns
    obtain ⟨G', g1, g2⟩ := restrict h' fun b => decide (b ≠ e)
    have gk : ∀ b, b ≠ e → G'.get? b = h'.get? b := fun b hb => g1 b (decide_eq_true hb)
    have ge : G'.get? e = none := g2 e (by simp)
    have old : ∀ b o, hp.get? b = some o → G'.get? b = some o := fun b o q => (gk b (Nat.ne_of_lt (Nat.lt_of_lt_of_le (Heap.lt_size q) M.new))).trans (M.keep b o q)
    have ob : ObjOk X.prog X.w (upd H1 d (.xd [(fl, v)])) G' d (.xd [(fl, v)]) := ⟨_, hns.at (fun o q => (gk d M.dne).trans q), fun f => relO_fld rv fl f⟩
    have J : Inv X pins σ (upd H1 d (.xd [(fl, v)])) ⟨G', g, dr, tk', os⟩ := I1.laid (t' := tk') old M.dbig ob
    have zc : Zc (.ref C) (some d) oe := ⟨hc, hd⟩
    have kk : ∀ b o, G'.get? b = some o → h'.get? b = some o := fun b o q => by
      by_cases hb : b = e
      · rw [hb, ge] at q; cases q
      · exact (gk b hb).symm.trans q
    have ne : upd H1 d (.xd [(fl, v)]) e = none := by
      rw [upd_ne (Ne.symm M.dne)]
      exact I1.hok.fresh M.new
    have ctx : PXN.CtxN oe := fun vs z => by rw [hdat] at z; injection z with z; rw [← z]; exact h2
    exact ⟨e, oe, fv, ⟨G', g, dr, tk', os⟩, _, .ref C, some d, rfl, J, kk, ge, hoe, ⟨hc, hd, ctx⟩, hdat, h1, ne, rfl, I1.bare, raises_own T.exC T.tyC, q1 d (I1.hok.fresh M.dbig)⟩
end
section
variable {X : Cx} {c : Cn} {G0 H0 : Hp} {W : WX} {nm qn fl : Str} {C B fI cc cda : Addr}
theorem Ex.only {G H : Hp} {s : BoxSt} {p : Addr} {o : HO} (e : Same G H) (b : BoxAt c s H) (hp : H p = none) : Ex c G H G (upd H p o) s := by
  have E := Ex.new (c := c) (o := o) e b hp
  refine ⟨.refl _, fun x u h => ?_, E.keep, fun x h z => absurd h z, E.box⟩
  rw [upd_ne (ne_of_none (e _ _ h) hp)]
  exact e _ _ h
def mRaise (n : Str) (a : ME) : MS := fun env s => after env (a env s) fun d s1 => .ex n d env s1
theorem s_raise {a : Expr} {p pos pos2 : Pos} {k : Nat} {ma : ME} (hc : X.calm = true) (tk : L2N.Takes X W) (hr : Room k X.A) (T : ErrTxt X.prog X.K X.mg nm qn fl C B fI cc cda) (hcl : c.st.cl nm = some C) (hfl : c.st.fld nm = fl) (ha : KE X c G0 H0 W a ma) (hg : Gl X nm)
    (hs : starEach [a] X.env = (false, eval a X.env) :: starEach [] X.env := by rfl) (hpl : (backTo pos (starEach [] X.env)).any (·.1) = false := by rfl) (hdb : (nm == ("__debug__" : Str)) = false := by decide) :
    KS X c G0 H0 W (.Raise (some (.Call (.Name nm p) [a] [] pos)) none pos2) (mRaise nm ma) := ps_imp (L2N.ps_raise hc tk (pmk_er T hr (pa_cons ha pa_nil hs) hg hs hpl hdb)) fun E σ H ⟨env, G, s, R, q⟩ =>
  ⟨env, G, s, R, after_post R q fun d s1 v G1 H1 _ e1 qd p1 => ⟨v, rfl, fun dd hd => by
    have E2 := Ex.only (c := c) (o := .xd [(fl, v)]) e1.sub e1.box hd
    refine p1 (.ref C) (some dd) σ G1 _ ((R.step e1).step E2) (.refl _) ⟨C, dd, v, hcl, rfl, rfl, ?_, qd⟩
    rw [hfl]
    exact upd_same⟩⟩
end
end Kn

end

section
set_option Elab.async false
set_option linter.all false
set_option maxRecDepth 100000
set_option maxHeartbeats 1000000
/-! Kn7: defs, try, parallel stores, keyword calls. -/
namespace Kn
open PySem PySem.Spec PyProof.Rows L2

/-! ### a def's body -/
def mDef (n np : Nat) (m : MS) : List D → BoxSt → Res D := fun ds s =>
  if ds.length = np then (match m (ds.map .sh ++ List.replicate (n - np) .un) s with
    | .nx _ s1 => .ok .non s1
    | .rt d s1 => .ok d s1
    | .ex n d _ s1 => .ex n d s1
    | _ => .bad)
  else .bad
theorem mDef_len {n np : Nat} {m : MS} {ds : List D} {s : BoxSt} (h : mDef n np m ds s ≠ .bad) : ds.length = np := by
  unfold mDef at h
  split at h
  · assumption
  · exact absurd rfl h
theorem Post.nb {α β : Type} {c : Cn} {G H : Hp} {rel : Hp → β → α → Prop} {r : Res α} {E : XK} {Q : β → Hp → Prop} (p : Post c G H rel r E Q) : r ≠ .bad := fun z => by rw [z] at p; exact p
theorem rel_start {c : Cn} {G H : Hp} {s : BoxSt} {N : List Str} {vs : List V} {ds : List D} (e : Same G H) (b : BoxAt c s H) (f : ∀ x, Foot c x → G x = none) (q : Da c G vs ds) : Rel c G H (ds.map .sh ++ List.replicate (N.length - ds.length) .un) (L2.start N vs) G H s := by
  refine ⟨.refl e b, ⟨s, b⟩, f, ?_, fun _ => 0, fun i x hx => ?_, fun i j l m hi hj _ => ?_⟩
  · unfold L2.start
    rw [List.length_append, List.length_append, List.length_map, List.length_map, List.length_replicate, List.length_replicate, q.len]
  · by_cases h : i < ds.length
    · rw [List.getElem?_append_left (by rw [List.length_map]; exact h), List.getElem?_map] at hx
      cases hd : ds[i]? with
      | none => rw [hd] at hx; cases hx
      | some d =>
        rw [hd] at hx; cases hx
        obtain ⟨v, h1, h2⟩ := q.get hd
        refine ⟨v, ?_, h2⟩
        unfold L2.start
        rw [List.getElem?_append_left (by rw [List.length_map, q.len]; exact h), List.getElem?_map, h1]
        rfl
    · rw [List.getElem?_append_right (by rw [List.length_map]; omega)] at hx
      rw [List.getElem?_replicate] at hx
      split at hx
      · cases hx; trivial
      · cases hx
  · by_cases h : i < ds.length
    · rw [List.getElem?_append_left (by rw [List.length_map]; exact h), List.getElem?_map] at hi
      cases hd : ds[i]? with
      | none => rw [hd] at hi; cases hi
      | some d => rw [hd] at hi; cases hi
    · rw [List.getElem?_append_right (by rw [List.length_map]; omega), List.getElem?_replicate] at hi
      split at hi <;> cases hi
/-- the body's end is the def's -/
theorem def_end {c : Cn} {G H : Hp} {s : BoxSt} {N : List Str} {np : Nat} {vs : List V} {ds : List D} {m : MS} {Q : VK} {E : XK} (e : Same G H) (b : BoxAt c s H) (f : ∀ x, Foot c x → G x = none) (q : Da c G vs ds) (p : Post c G H (Dd c) (mDef N.length np m ds s) E Q) :
    lS c G H (fun cl d _ H' => E cl d H') m { nx := fun _ H' => Q .non H', rt := Q } (L2.start N vs) H := by
  refine ⟨_, G, s, rel_start e b f q, ?_⟩
  have hl := mDef_len p.nb
  subst hl
  unfold mDef at p
  rw [if_pos rfl] at p
  cases h : m (ds.map .sh ++ List.replicate (N.length - ds.length) .un) s with
  | nx e1 s1 => rw [h] at p; exact fun σ G1 H1 R _ => p .non G1 H1 R.ex .non
  | rt d s1 => rw [h] at p; exact fun v G1 H1 R k => p v G1 H1 R k
  | ex n d e1 s1 => rw [h] at p; exact fun cl dd σ G1 H1 R _ x => p cl dd G1 H1 R.ex x
  | bk e1 s1 => rw [h] at p; exact False.elim p
  | ct e1 s1 => rw [h] at p; exact False.elim p
  | bad => rw [h] at p; exact False.elim p
section
variable {P : Program} {w : World} {K : PySem.W.Frag} {mg : Str → Option Value} {base : Heap}
/-- a def by its body -/
theorem def_ok {x q : Str} {st : Stmt} {f : Addr} {fd : FuncData} {N ps : List Str} {k : Nat} {t : Sc} {m : MS} (F : Fun K x q st f fd) (S : FnScope N ps (defScope st))
    (hb : ∀ (bx : Option (Addr × Addr)) (G0 : Hp) (cdv : Value) (A : Around) (outer : List Env) (s : Shared) (H : Hp) (E : XK), Room k (A.deeper (envOfC q (defScope st) s.heap.objs.size f cdv)) →
      KB (cxOf (L2N.CX P w) P w K mg base N q (defScope st) f cdv A outer s H E) ⟨t, bx⟩ G0 H (fun cl d _ H' => E cl d H') (defBody st) m) :
    FnOk P w K mg base (L2N.CX P w) (k + 1) f fd ps (spU t (mDef N.length ps.length m)) := by
  obtain ⟨oc, od, kV, doc, pm, an, cdv, ct, osl, rfl, lk, hcd⟩ := F.ex
  refine fn_of lk hcd S (fun vs H Q E ⟨bx, G, ds, s, _, _, _, q, p⟩ => ?_) fun A outer s H vs Q E hr ⟨bx, G, ds, s2, e, b, hf, q, p⟩ => ⟨_, hb bx G cdv A outer s H E hr, def_end e b hf q p⟩
  rw [q.len]; exact mDef_len p.nb
/-- .. called in an except suite -/
theorem def_hot {x q : Str} {st : Stmt} {f : Addr} {fd : FuncData} {N ps : List Str} {k : Nat} {t : Sc} {m : MS} (F : Fun K x q st f fd) (S : FnScope N ps (defScope st))
    (hb : ∀ (bx : Option (Addr × Addr)) (G0 : Hp) (cdv : Value) (A : Around) (outer : List Env) (s : Shared) (H : Hp) (E : XK) (p : Addr × Obj), L2H.Hot1 A p → L2H.RoomH k (A.deeper (envOfC q (defScope st) s.heap.objs.size f cdv)) →
      KB (L2H.cxH (L2N.CX P w) P w K mg base N q (defScope st) f cdv A outer s H E p) ⟨t, bx⟩ G0 H (fun cl d _ H' => E cl d H') (defBody st) m) :
    L2H.FnH P w K mg base (L2N.CX P w) (k + 1) f fd ps (spU t (mDef N.length ps.length m)) := by
  obtain ⟨oc, od, kV, doc, pm, an, cdv, ct, osl, rfl, lk, hcd⟩ := F.ex
  refine L2H.fn_ofH lk hcd S (fun vs H Q E ⟨bx, G, ds, s, _, _, _, q, p⟩ => ?_) fun A outer s H vs Q E hp h1 hr ⟨bx, G, ds, s2, e, b, hf, q, p⟩ => ⟨_, hb bx G cdv A outer s H E hp h1 hr, def_end e b hf q p⟩
  rw [q.len]; exact mDef_len p.nb
end

section
variable {X : Cx} {c : Cn} {G0 H0 : Hp} {W : WX} {a b d e o : Expr} {es : List Expr} {st : Stmt} {sts : List Stmt} {pos : Pos}
/-- a def's call in an except suite -/
theorem k_fnH {t : Sc} {bx : Option (Addr × Addr)} {k : Nat} {fa : Addr} {fd : FuncData} {ps : List Str} {x : Str} {p : Pos} {f : List D → BoxSt → Res D} {ma : MA} (tk : L2N.Takes X W) (hr : L2H.RoomH k X.A) (hc : L2H.HotC X) (F : L2H.FnH X.prog X.w X.K X.mg X.base (L2N.CX X.prog X.w) k fa fd ps (spU t f)) (hg : Gl X x) (hm : X.mg x = some (.ref fa)) (hk : PySem.W.keepIn X.K (.ref fa) = true) (hb : Binds X.K fd ps [])
    (ha : KA X ⟨t, bx⟩ G0 H0 W (e :: es) ma) (hdb : (x == ("__debug__" : Str)) = false := by decide) (he : starEach (e :: es) X.env = (false, eval e X.env) :: starEach es X.env := by rfl) (hpl : (backTo pos (starEach es X.env)).any (·.1) = false := by rfl) :
    KE X ⟨t, bx⟩ G0 H0 W (.Call (.Name x p) (e :: es) [] pos) (mFn f ma) := pe_imp (L2H.pe_callH (E := WE W) F hr hc hg hm hk hb (fun σ => L2N.passAt tk σ) ha hdb he hpl) fun σ H Q ⟨env, G, s, R, q⟩ =>
  ⟨env, G, s, R, q.bind fun l s1 vs G1 H1 _ e1 qs p1 => ⟨bx, G1, l, s1, e1.sub, e1.box, R.foot' e1, qs, p1⟩⟩

/-! ### try: .. except C as n: return (text, f(n.field)) -/
def mTry (n : Str) (i : Nat) (mb : MS) (tag : Str) (f : List D → BoxSt → Res D) : MS := fun env s => match mb env s with
  | .ex n' d e s1 => if n' = n ∧ i < e.length then (match f [d] s1 with | .ok r s2 => .rt (.tup [.str tag, r]) s2 | _ => .bad) else .bad
  | .ct _ _ => .bad
  | .bk _ _ => .bad
  | r => r
theorem s_try {t : Sc} {bx : Option (Addr × Addr)} {i : Nat} {nm n fl fx : Str} {tag : String} {C fa : Addr} {fd : FuncData} {ps : List Str} {k j : Nat} {x1 : Nat} {f : List D → BoxSt → Res D} {mb : MS} {body : List Stmt} {np np2 fp fpos cpos tpos rpos epos hpos : Pos}
    (hs : X.stack = X.env :: X.outer) (hf : X.env.frame = some X.env.locals) (hN : X.N.Nodup) (hi : X.N[i]? = some n) (hln : X.env.kindOf n = some .local) (hg : Gl X nm) (hdb : (nm == ("__debug__" : Str)) = false) (hm : X.mg nm = some (.ref C))
    (tk : L2N.Takes X W) (hcl : t.cl nm = some C) (hfl : t.fld nm = fl) (hex : PySem.W.exmOne X.K (.ref C) (.ref C) = some true) (T : XfC X.K C) (hno : PySem.W.findIn X.K (.ref C) fl = some none)
    (hr : Room k X.A) (F : L2H.FnH X.prog X.w X.K X.mg X.base (L2N.CX X.prog X.w) k fa fd ps (spU t f)) (hgf : Gl X fx) (hmf : X.mg fx = some (.ref fa)) (hkf : PySem.W.keepIn X.K (.ref fa) = true) (hbf : Binds X.K fd ps [])
    (hv : Vis X.env.scope n) (hd1 : (n == ("__debug__" : Str)) = false) (hd2 : (n == ("__classdict__" : Str)) = false) (hdf : (fx == ("__debug__" : Str)) = false)
    (hK : X.K = t.K)
    (hb : ∀ (W : WX) (pn : List (Addr × Obj)) (xe : Value → Shared → Prop), L2N.Takes (X.tr pn xe) W → PassesOwn (model X.prog X.w) X.A X.env xe → KB (X.tr pn xe) ⟨t, bx⟩ G0 H0 W body mb)
    (hatt : attributeBase (.Name n np2) fl X.env (eval (.Name n np2) X.env) = eval (.Name n np2) X.env := by rfl) :
    KS X ⟨t, bx⟩ G0 H0 W (.Try body [.ExceptHandler (some (.Name nm np)) (some n) [.Return (some (.Tuple [.Constant (.str tag) j cpos, .Call (.Name fx fp) [.Attribute (.Name n np2) fl fpos] [] epos] x1 tpos)) rpos] hpos] [] [] pos) (mTry nm i mb (PySem.Str.ofString tag) f) := by
  refine ps_imp (L2N.ps_try_as (i := i) (tb := fun W => lS ⟨t, bx⟩ G0 H0 W mb) (Wout := W)
    (ts := fun a cls d => tRet (tTup (tCons (tC (.str (PySem.Str.ofString tag))) (tCons (tCallS (spU t f) (fun _ _ _ _ => False) (tCons (tXf a cls d C fl (tVar i)) tNil)) tNil))))
    hs hf hN hi hln ⟨hg, hdb, .inl hm⟩ tk hb (fun a oe cls d pn hz hfi => pss_one (ps_ret (pe_tup (pa_cons pe_str (pa_cons (L2H.pe_callH (E := fun _ _ _ _ => False) F ?_ ?_ hgf hmf hkf hbf (fun σ pins H s e s' I c => ?_) (pa_cons (pe_xf T hno hz.zc hfi (pe_var hi hv hd1 hd2) hatt) pa_nil) hdf) pa_nil)))))) fun D σ H ⟨env, G, s, R, p⟩ => ⟨env, G, s, R, ?_⟩
  · exact ⟨(L2H.roomH_of hr).dp, (L2H.roomH_of hr).un⟩
  · obtain ⟨vs, hvs⟩ := hfi
    exact ⟨(a, oe), ⟨rfl, vs, hvs, hz.2.2 vs hvs⟩, List.mem_cons_self⟩
  · obtain ⟨_, _, _, _, _, _, _, _, _, _, _, _, z⟩ := c
    exact z.elim
  unfold mTry at p
  cases q : mb env s with
  | nx e1 s1 => rw [q] at p; exact p
  | rt d1 s1 => rw [q] at p; exact p
  | bk e1 s1 => rw [q] at p; exact False.elim p
  | ct e1 s1 => rw [q] at p; exact False.elim p
  | bad => rw [q] at p; exact p
  | ex n' d1 e1 s1 =>
    rw [q] at p
    have p' : SPost ⟨t, bx⟩ G0 H0 G (if n' = nm ∧ i < e1.length then (match f [d1] s1 with | .ok r s2 => .rt (.tup [.str (PySem.Str.ofString tag), r]) s2 | _ => .bad) else .bad) W D := p
    by_cases hn : n' = nm ∧ i < e1.length
    · rw [if_pos hn] at p'
      obtain ⟨rfl, hil⟩ := hn
      intro cl dd σ1 G1 H1 R1 sm xa
      obtain ⟨C', da, v, k1, k2, k3, k4, k5⟩ := xa
      have k1' : t.cl n' = some C' := k1
      rw [hcl] at k1'
      cases k1'
      subst k2
      subst k3
      refine ⟨true, hex, fun _ a _ => ?_, fun z => Bool.noConfusion z⟩
      have k4' : H1 da = some (.xd [(fl, v)]) := by rw [← hfl]; exact k4
      rw [R1.len] at hil
      cases hr2 : f [d1] s1 with
      | ok r s2 =>
        rw [hr2] at p'
        refine ⟨.ref a, List.getElem?_set_self hil, rfl, rfl, da, [(fl, v)], v, rfl, k4', by simp [List.lookup], bx, G1, [d1], s1, R1.ex.sub, R1.ex.box, R1.foot, .cons k5 .nil, ?_⟩
        rw [hr2]
        intro b G2 H2 e2 qb
        refine ⟨by show 2 ≤ sizeLine; decide, ?_⟩
        exact valT (c := ⟨t, bx⟩) (s := s2) e2.sub e2.box (.cons (.str _) (.cons qb .nil)) fun v2 G3 H3 e3 q3 => p' v2 G3 H3 ((R1.ex.trans e2).trans e3) q3
      | ex _ _ _ => rw [hr2] at p'; exact False.elim p'
      | bad => rw [hr2] at p'; exact False.elim p'
    · rw [if_neg hn] at p'; exact False.elim p'
end
end Kn

end

section
set_option Elab.async false
set_option linter.all false
set_option maxRecDepth 100000
set_option maxHeartbeats 1000000
/-! Kn8: enumerate over a tuple; max with a default. -/
namespace PySem
section
set_option maxHeartbeats 2000000
theorem kn_enum_new (l : Addr) (items : Array Value) (n : Nat) (dct : Option Addr) (sl : Array (Option Value)) :
    Meets (Builtin.«enumerate.__new__» ⟨[.type "enumerate", .ref l], []⟩) (fun _ R s => s.heap.get? l = some { cls := .type "tuple", dict := dct, data := .seq items n, slots := sl } ∧
      R (.ok (.ret (.ref (s.heap.push { cls := .type "tuple_iterator", data := .fields #[.ref l, .int 0 0] }).objs.size)))
        { s with heap := (s.heap.push { cls := .type "tuple_iterator", data := .fields #[.ref l, .int 0 0] }).push { cls := .type "enumerate", data := .fields #[.none, .bool false, .ref s.heap.objs.size, rawInt 0, .none, .none] } }) :=
  .of_wp fun prog w A R s hyp => by
    obtain ⟨hh, gg, dd, tt, oo⟩ := s; obtain ⟨hl, hyp⟩ := hyp
    have hsub := sub_enumerate
    have hT : Heap.IsTuple (Shared.heap ⟨hh, gg, dd, tt, oo⟩) l items := ⟨_, hl, rfl, n, rfl⟩
    wp_walk using AutoSeq1.wpAny_loadPart' hl
    refine wpAny_stack_any fun stk => wpAny_pure ?_
    split
    · rename_i cx _ _ _ _ _
      cases (cx == Value.type "enumerate")
      · wp_walk using AutoSeq1.wpAny_loadPart' hl, wpAny_pyIter_tuple hT
        exact ⟨_, rfl, hyp⟩
      · wp_walk using AutoSeq1.wpAny_loadPart' hl, wpAny_pyIter_tuple hT
        exact ⟨_, rfl, hyp⟩
    · wp_walk using AutoSeq1.wpAny_loadPart' hl, wpAny_pyIter_tuple hT
      exact ⟨_, rfl, hyp⟩
end
section
variable {prog : Program} {w : World} {A : Around} {E : Value → Shared → Prop} {s : Shared}
theorem kn_call_enum {l : Addr} {items : Array Value} {Q : Value → Shared → Prop} (hL : s.heap.IsTuple l items)
    (hyp : ∀ h', IsEnum h' (s.heap.objs.size + 1) s.heap.objs.size 0 .none → h'.IsTupleIter s.heap.objs.size l 0 →
      (∀ b o, s.heap.get? b = some o → h'.get? b = some o) → Q (.ref (s.heap.objs.size + 1)) { s with heap := h' }) :
    wpAny (model prog w) A (call (.type "enumerate") [.ref l]) Q E s := by
  obtain ⟨⟨cx, dct, dt, sl⟩, hl, hc, n, hd⟩ := hL
  have hc' : cx = .type "tuple" := hc
  have hd' : dt = .seq items n := hd
  subst hc' hd'
  have zz : (s.heap.push { cls := .type "tuple_iterator", data := .fields #[.ref l, .int 0 0] }).objs.size = s.heap.objs.size + 1 := Heap.size_push ..
  refine callType_new F.called_enumerate (by decide) (F.typeCall_enumerate_1 _) (F.newCall_enumerate_1 _) (fun ob => F.args_object_init_2 ob _) F.entry_enumerate_new (kn_enum_new l items n dct sl) ⟨hl, ?_⟩
  have en : IsEnum ((s.heap.push { cls := .type "tuple_iterator", data := .fields #[.ref l, .int 0 0] }).push { cls := .type "enumerate", data := .fields #[.none, .bool false, .ref s.heap.objs.size, rawInt 0, .none, .none] }) (s.heap.objs.size + 1) s.heap.objs.size 0 .none := by
    rw [← zz]; exact Heap.get?_push_size _ rfl
  rw [zz]
  exact ⟨⟨_, en, rfl⟩, hyp _ en ⟨_, Heap.get?_push_of_some _ (Heap.get?_push_size _ rfl), rfl, rfl⟩ fun b o e => Heap.get?_push_of_some _ (Heap.get?_push_of_some _ e)⟩

/-! ### max(x, default = d) -/
theorem kn_args_maxD (x d : Value) : argsOk "max" ⟨[x], [(Str.ofString "default", d)]⟩ := by unfold argsOk; kernel_rfl
variable {R : Result → Shared → Prop} {I : Addr} {fp wr : List Addr} {n : Nat} {P : Nat → Value → Prop} {St : Nat → Heap → Prop}
theorem kn_max_loop (W : Walks prog w A.in1 I fp wr n P St) (bt : Nat → Nat → Bool) (cmp : CmpOf prog w A.in1 .Gt P bt) (kw : List (Str × Value)) (B : Addr) (hB : B ∉ fp) :
    ∀ (k j : Nat) (s : Shared) (best : Value) (cap : Nat), k = n - (j + 1) → j + 1 ≤ n → St (j + 1) s.heap → P (argBest bt j) best →
    s.heap.get? B = some { cls := .type "list", dict := none, data := .seq #[best, best] cap, slots := #[] } →
    (∀ v h' tk, P (argBest bt (n - 1)) v → (∀ b o, b ∉ wr → b ≠ B → s.heap.get? b = some o → h'.get? b = some o) → R (.ok (.ret v)) { s with heap := h', toks := tk }) →
    codeAny (model prog w) A (.builtin "max.loop" ⟨[.ref I, .none, .ref B], kw⟩) R s := by
  have hBw : B ∉ wr := fun z => hB (W.sub _ z)
  have nm : (toString "max" ++ toString ".loop" : String) = "max.loop" := by decide
  intro k
  induction k with
  | zero =>
    intro j s best cap hk hj st pb gB fin
    have e : n = j + 1 := by omega
    refine codeAny_builtin F.entry_max_loop ?_
    rw [Around.under_plainId F.plain_max_loop _]
    show wpAny _ A.in1 (seqItems? (.ref B) >>= _) _ _ s
    refine wpAny_bind (wpAny_seqItems gB rfl ?_)
    show wpAny _ A.in1 (tryCatch (pyNext (.ref I)) _ >>= _) _ _ s
    refine wpAny_bind (wpAny_tryCatch (W.done s _ _ (by rw [e]; exact st) fun h1 tk kp => ?_))
    have gB1 := kp B _ hBw gB
    show wpAny _ A.in1 (updateSeq B (fun _ => #[]) >>= _) _ _ _
    refine wpAny_bind ?_
    refine wpAny_updateSeq gB1 rfl (wpAny_bind (wpAny_letGo (wpAny_pure ?_)))
    exact fin best _ tk (by rw [e]; exact pb) fun b o bw bB x => (Heap.get?_update_other _ _ (Ne.symm bB)).trans (kp b o bw x)
  | succ k ih =>
    intro j s best cap hk hj st pb gB fin
    have lt : j + 1 < n := by omega
    refine codeAny_builtin F.entry_max_loop ?_
    rw [Around.under_plainId F.plain_max_loop _]
    show wpAny _ A.in1 (seqItems? (.ref B) >>= _) _ _ s
    refine wpAny_bind (wpAny_seqItems gB rfl ?_)
    show wpAny _ A.in1 (tryCatch (pyNext (.ref I)) _ >>= _) _ _ s
    refine wpAny_bind (wpAny_tryCatch (W.item (j + 1) s _ _ lt st fun v h1 tk pv st1 kp => ?_))
    have gB1 := kp B _ hBw gB
    show wpAny _ A.in1 (tryCatch (holding [v, v] (richCompare .Gt v best >>= _)) _ >>= _) _ _ _
    refine wpAny_bind (wpAny_tryCatch (wpAny_holding (wpAny_bind (cmp (j + 1) (argBest bt j) v best _ _ _ pv pb ?_))))
    refine wpAny_bind (wpAny_holding (wpAny_truthy_bool ?_))
    refine wpAny_bind (wpAny_letGo (wpAny_pure ?_))
    cases q : bt (j + 1) (argBest bt j) with
    | true =>
      simp only [if_true]
      refine wpAny_bind ?_
      refine wpAny_updateSeq gB1 rfl (wpAny_bind (wpAny_letGo ?_))
      rw [nm]
      have up := Heap.get?_update_self (Obj.mapSeq fun _ => #[v, v]) gB1 rfl
      refine wpAny_pure ⟨plainId_quiet F.plain_max_loop _, ih (j + 1) _ v _ (by omega) lt (W.frame _ _ _ st1 fun b bf o x => ?_) (by simp only [argBest, q, if_true]; exact pv) up fun v2 h2 tk2 pv2 kp2 => ?_⟩
      · exact (Heap.get?_update_other _ _ (fun z : B = b => hB (by rw [z]; exact bf))).trans x
      · exact fin v2 h2 tk2 pv2 fun b o bw bB x => kp2 b o bw bB ((Heap.get?_update_other _ _ (Ne.symm bB)).trans (kp b o bw x))
    | false =>
      simp only [Bool.false_eq_true, if_false]
      refine wpAny_bind (wpAny_letGo ?_)
      rw [nm]
      refine wpAny_pure ⟨plainId_quiet F.plain_max_loop _, ih (j + 1) _ best cap (by omega) lt st1 (by simp only [argBest, q, Bool.false_eq_true, if_false]; exact pb) gB1 fun v2 h2 tk2 pv2 kp2 => ?_⟩
      exact fin v2 h2 tk2 pv2 fun b o bw bB x => kp2 b o bw bB (kp b o bw x)
theorem kn_max_first (W : Walks prog w A.in1 I fp wr n P St) (bt : Nat → Nat → Bool) (cmp : CmpOf prog w A.in1 .Gt P bt) (d : Value) (B : Addr) (hB : B ∉ fp) {s : Shared} {cap : Nat} (st : St 0 s.heap)
    (gB : s.heap.get? B = some { cls := .type "list", dict := none, data := .seq #[] cap, slots := #[] })
    (fin : ∀ v h' tk, ((n = 0 ∧ v = d) ∨ (0 < n ∧ P (argBest bt (n - 1)) v)) → (∀ b o, b ∉ wr → b ≠ B → s.heap.get? b = some o → h'.get? b = some o) → R (.ok (.ret v)) { s with heap := h', toks := tk }) :
    codeAny (model prog w) A (.builtin "max.loop" ⟨[.ref I, .none, .ref B], [(Str.ofString "default", d)]⟩) R s := by
  have hBw : B ∉ wr := fun z => hB (W.sub _ z)
  have nm : (toString "max" ++ toString ".loop" : String) = "max.loop" := by decide
  refine codeAny_builtin F.entry_max_loop ?_
  rw [Around.under_plainId F.plain_max_loop _]
  show wpAny _ A.in1 (seqItems? (.ref B) >>= _) _ _ s
  refine wpAny_bind (wpAny_seqItems gB rfl ?_)
  show wpAny _ A.in1 (tryCatch (pyNext (.ref I)) _ >>= _) _ _ s
  by_cases z : 0 < n
  · refine wpAny_bind (wpAny_tryCatch (W.item 0 s _ _ z st fun v h1 tk pv st1 kp => ?_))
    have gB1 := kp B _ hBw gB
    show wpAny _ A.in1 (updateSeq B (fun _ => #[v, v]) >>= _) _ _ _
    refine wpAny_bind ?_
    refine wpAny_updateSeq gB1 rfl ?_
    rw [nm]
    have up := Heap.get?_update_self (Obj.mapSeq fun _ => #[v, v]) gB1 rfl
    refine wpAny_pure ⟨plainId_quiet F.plain_max_loop _, kn_max_loop W bt cmp _ B hB _ 0 _ v _ rfl z (W.frame _ _ _ st1 fun b bf o x => ?_) pv up fun v2 h2 tk2 pv2 kp2 => ?_⟩
    · exact (Heap.get?_update_other _ _ (fun y : B = b => hB (by rw [y]; exact bf))).trans x
    · exact fin v2 h2 tk2 (.inr ⟨z, pv2⟩) fun b o bw bB x => kp2 b o bw bB ((Heap.get?_update_other _ _ (Ne.symm bB)).trans (kp b o bw x))
  · have e : n = 0 := by omega
    refine wpAny_bind (wpAny_tryCatch (W.done s _ _ (by rw [e]; exact st) fun h1 tk kp => ?_))
    refine wpAny_bind (wpAny_rule (wpAny_pure ?_))
    exact fin d h1 tk (.inl ⟨e, rfl⟩) fun b o bw bB x => kp b o bw x
theorem kn_call_maxD {x d : Value} {Q : Value → Shared → Prop}
    (h : wpAny (model prog w) A.in1 (pyIter x) (fun it s₂ => ∃ I fp wr n P St bt, it = .ref I ∧ Walks prog w A.in1 I fp wr n P St ∧ St 0 s₂.heap ∧ (∀ b ∈ fp, b < s₂.heap.objs.size) ∧ CmpOf prog w A.in1 .Gt P bt ∧
      ∀ v h' tk, ((n = 0 ∧ v = d) ∨ (0 < n ∧ P (argBest bt (n - 1)) v)) → (∀ b o, b ∉ wr → s₂.heap.get? b = some o → h'.get? b = some o) → Q v { s₂ with heap := h', toks := tk }) E s) :
    wpAny (model prog w) A (call (.builtin "max") [x] [(Str.ofString "default", d)]) Q E s := by
  have nm : (toString "max" ++ toString ".loop" : String) = "max.loop" := by decide
  refine PyProof.Rows.kmk_tree F.kind_max F.plain_max F.entry_max (kn_args_maxD _ _) ?_
  show wpAny _ A.in1 (Builtin.Builtins.bindParams "max" ["key", "default"] 0 ⟨[], [(Str.ofString "default", d)]⟩ >>= _) _ _ s
  refine wpAny_bind (wpAny_of_eq (show Builtin.Builtins.bindParams "max" ["key", "default"] 0 ⟨[], [(Str.ofString "default", d)]⟩ = pure [none, some d] from rfl) ?_)
  refine wpAny_bind (wpAny_pure ?_)
  refine wpAny_bind (wpAny_mono h (fun it s₂ hyp => ?_) fun _ _ e => e)
  obtain ⟨I, fp, wr, n, P, St, bt, rfl, W, st, below, cmp, fin⟩ := hyp
  refine wpAny_bind (wpAny_newObj_type ?_)
  have hB : s₂.heap.objs.size ∉ fp := fun z => Nat.lt_irrefl _ (below _ z)
  rw [nm]
  refine wpAny_pure ⟨plainId_quiet F.plain_max_loop _, kn_max_first W bt cmp d s₂.heap.objs.size hB (W.frame _ _ _ st fun b _ o x => Heap.get?_push_of_some _ x) (Heap.get?_push_size _ rfl) fun v h1 tk pv kp => ?_⟩
  exact fin v h1 tk pv fun b o bw x => kp b o bw (Nat.ne_of_lt (Heap.lt_size x)) (Heap.get?_push_of_some _ x)
end
end PySem

end

section
set_option Elab.async false
set_option linter.all false
set_option maxRecDepth 100000
set_option maxHeartbeats 1000000
/-! Kn9: rules of enumerate, max, parallel stores, keyword calls. -/
namespace Kn
open PySem PySem.Spec PyProof.Rows L2

/-! ### enumerate, of a tuple -/
def IteT (K : PySem.W.Frag) (a : Addr) : It :=
  ⟨fun i H => ∃ (xs : List V) (x : V), SqT K H a xs ∧ xs[i]? = some x, fun i H v H' => ∃ T x, v = .ref T ∧ H T = none ∧ H' = upd H T (.tup [.int (i : Nat), x]) ∧ ∀ xs, SqT K H a xs → xs[i]? = some x, fun i H => ∃ xs : List V, SqT K H a xs ∧ xs.length = i⟩
theorem turnT {P : Program} {w : World} {K : PySem.W.Frag} {elts : List Expr} {kk : Nat} {tpos : Pos} (a e it : Addr) (ne : a ≠ it) (ne2 : a ≠ e) :
    Turn P w K (.Tuple elts kk tpos) (IteT K a) [e, it] e (fun i h => (∃ old, IsEnum h e it ((i : Nat) : Int) old) ∧ h.IsTupleIter it a i ∧ e ≠ it) where
  mem := by simp
  obj := fun i h st b hb => by
    obtain ⟨⟨old, q1⟩, ⟨o, q2, q3, q4⟩, _⟩ := st
    have q : b = e ∨ b = it := by simpa using hb
    rcases q with z | z
    · rw [z]; exact ⟨_, q1, fun v y => nomatch y⟩
    · rw [z]; exact ⟨o, q2, fun v y => by rw [q4] at y; cases y⟩
  keep := fun i h h' st k => by
    obtain ⟨⟨old, q1⟩, q2, q3⟩ := st
    exact ⟨⟨old, k e (by simp) _ q1⟩, q2.at fun o y => k it (by simp) o y, q3⟩
  item := by
    intro X hP hw hK hc i pins s σ H E I hf st hg
    subst hP hw hK
    obtain ⟨⟨old, q1⟩, q2, q3⟩ := st
    obtain ⟨xs, x, q4, q5⟩ := hg
    obtain ⟨its, rv, p, hz⟩ := I.tuple q4
    obtain ⟨u, hu, ru⟩ := rv.get q5
    have lt : i < its.toArray.size := by
      rw [List.size_toArray]; exact (List.getElem?_eq_some_iff.mp hu).1
    have D := PySem.Draws.tuple (prog := X.prog) (w := X.w) (A := X.A.in1) (show X.A.in1.handled = none from I.ok.hd hc) it a ne its.toArray
    have el : e < s.heap.objs.size := Heap.lt_size q1
    have il : it < s.heap.objs.size := by obtain ⟨_, y, _⟩ := q2; exact Heap.lt_size y
    refine wpAny_pyNext_enum_itemD D q1 ⟨q2, p⟩ lt q3 (by simp; exact ⟨q3, Ne.symm ne2⟩) fun x2 h1 tk g1 g2 g3 g4 g5 g6 => ?_
    have ex2 : x2 = u := by
      have z1 : its.toArray[i]? = some u := by simpa using hu
      rw [z1] at g1; exact (Option.some.inj g1).symm
    subst ex2
    refine ⟨_, rfl, wpAny_letOwnedTupleGo_enum (s := { s with heap := h1, toks := tk + 1 }) g2 fun h2 g7 sb => ?_⟩
    have t2 : h2.get? s.heap.objs.size = some { cls := .type "tuple", data := .seq #[.int i tk, x2] } := (sb.2 _ (Nat.ne_of_gt el)).trans g4
    have nw : ObjOk X.prog X.w (upd H s.heap.objs.size (.tup [.int (i : Nat), x])) h2 s.heap.objs.size (.tup [.int (i : Nat), x]) :=
      ⟨by show 2 ≤ sizeLine; decide, [.int i tk, x2], .cons ⟨_, rfl⟩ (.cons ru .nil), ⟨_, t2, rfl, _, rfl⟩⟩
    have J : Inv X pins σ (upd H s.heap.objs.size (.tup [.int (i : Nat), x])) { s with heap := h2, toks := tk + 1 } :=
      I.turnedNew (ch := [e, it]) (fun b ob hb y => (sb.2 b (fun z => hb (by simp [z]))).trans (g6 b ob (fun z => hb (by simp [z])) (fun z => hb (by simp [z])) y)) hf (Nat.le_refl _) nw
    refine ⟨.ref s.heap.objs.size, _, J, rfl, ⟨_, x, rfl, I.hok.fresh (Nat.le_refl _), rfl, fun ys hy => by rw [I.tuple_inj hy q4]; exact q5⟩, ⟨⟨x2, ?_⟩, g3.1.at fun o y => (sb.2 it (Ne.symm q3)).trans y, q3⟩, fun b hb => ?_⟩
    · rw [show ((i + 1 : Nat) : Int) = (i : Int) + 1 by omega]; exact g7
    · have lb : b < s.heap.objs.size := by
        have q : b = e ∨ b = it := by simpa using hb
        rcases q with z | z
        · rw [z]; exact el
        · rw [z]; exact il
      rw [upd_ne (Nat.ne_of_lt lb)]
      exact (hf b hb).1
  done := by
    intro X hP hw hK hc i pins s σ H E I hf st hg
    subst hP hw hK
    obtain ⟨⟨old, q1⟩, q2, q3⟩ := st
    obtain ⟨xs, q4, q5⟩ := hg
    obtain ⟨its, rv, p, hz⟩ := I.tuple q4
    obtain ⟨f0, f1, f2, f3, f4, f5⟩ := hf it (by simp)
    have D := PySem.Draws.tuple (prog := X.prog) (w := X.w) (A := X.A.in1) (show X.A.in1.handled = none from I.ok.hd hc) it a ne its.toArray
    have hl := rv.length
    have en : i = its.toArray.size := by rw [List.size_toArray, ← q5, hl]
    subst en
    exact wpAny_pyNext_enum_endD D q1 ⟨q2, p⟩ fun h1 eb => ⟨rfl, I.turned (t' := s.toks) (fun b o hb y => eb b o hb y) f0 f1 f3 f4 f5⟩
  self := fun A i s Q E st h => by
    obtain ⟨⟨_, q1⟩, _⟩ := st
    exact wpAny_pyIter_enum q1 h
theorem walkT {K : PySem.W.Frag} {a : Addr} {xs : List V} : Walk (IteT K a) xs.length (fun H => SqT K H a xs) (YPair (fun i => some (.int (i : Nat))) (fun i => xs[i]?)) := by
  refine ⟨fun i _ hi q => ⟨xs, xs[i], q, by simp [hi]⟩, fun _ q => ⟨xs, q, rfl⟩, fun i H v H' _ q y => ?_⟩
  obtain ⟨T, x, y1, y2, y3, y4⟩ := y
  exact ⟨T, .int (i : Nat), x, y1, y2, y3, rfl, y4 xs q⟩
theorem pi_enumT {X : Cx} {e : Expr} {ta : TA} {p pos tpos : Pos} {elts : List Expr} {kk : Nat} (hg : Gl X "enumerate") (hm : X.mg "enumerate" = none) (ha : PA X [e] ta) (hs : starEach [e] X.env = [(false, eval e X.env)] := by rfl) :
    PI X (.Tuple elts kk tpos) (.Call (.Name "enumerate" p) [e] [] pos) (fun σ H R => ta σ H fun vs H1 => ∃ a xs, vs = [.ref a] ∧ SqT X.K H1 a xs ∧ R (IteT X.K a) H1) := by
  refine ⟨fun pins s σ H R I h => ?_⟩
  refine Call_ (ld_blt I hg hm boot_enumerate (PyProof.Rows.callWith_type1 (thn (ha.run pos pins s σ H _ I h) fun us s1 ⟨vs, H1, J, r1, a, xs, ev, hq, q⟩ => ?_) hs rfl))
  subst ev
  cases r1 with
  | cons r rr =>
    cases rr
    cases r
    obtain ⟨its, rv, pt, hz⟩ := J.tuple hq
    have la : a < s1.heap.objs.size := by obtain ⟨o, y, _⟩ := pt; exact Heap.lt_size y
    refine PySem.kn_call_enum (show s1.heap.IsTuple a its.toArray from pt) fun h1 g1 g2 g3 => wpAny_pyIter_enum g1 ?_
    have J2 : Inv X pins σ H1 { s1 with heap := h1 } := J.kept (t' := s1.toks) g3
    refine ⟨s1.heap.objs.size + 1, [s1.heap.objs.size + 1, s1.heap.objs.size], _, _, H1, rfl, J2, turnT a (s1.heap.objs.size + 1) s1.heap.objs.size (Nat.ne_of_lt la) (Nat.ne_of_lt (Nat.lt_succ_of_lt la)), ⟨⟨.none, g1⟩, g2, Nat.succ_ne_self _⟩, fun b hb => ?_, q⟩
    have lb : s1.heap.objs.size ≤ b := by
      have z : b = s1.heap.objs.size + 1 ∨ b = s1.heap.objs.size := by simpa using hb
      rcases z with z | z
      · rw [z]; exact Nat.le_succ _
      · rw [z]; exact Nat.le_refl _
    exact J.fpOk lb (J.hok.fresh lb)
section
variable {X : Cx} {c : Cn} {G0 H0 : Hp} {W : WX} {a b d e o : Expr} {es : List Expr} {st : Stmt} {sts : List Stmt} {pos : Pos}
def enumO2 (l : List D) : Option (List D) := match l with | [.lst l] => some (enumL 0 l) | [.tup l] => some (enumL 0 l) | _ => none
theorem k_enum2 {elts : List Expr} {kk : Nat} {p tpos : Pos} {ma : MA} (hg : Gl X "enumerate") (hm : X.mg "enumerate" = none) (ha : KA X c G0 H0 W [e] ma) (hs : starEach [e] X.env = [(false, eval e X.env)] := by rfl) (hK : X.K = c.st.K := by rfl) :
    KI X c G0 H0 W (.Tuple elts kk tpos) (.Call (.Name "enumerate" p) [e] [] pos) (mItA enumO2 ma) := ⟨fun pins s σ H Q I ⟨env, G, s2, R, p⟩ => by
  unfold mItA at p
  cases hr : ma env s2 with
  | bad => rw [hr] at p; exact False.elim p
  | ex n dd s3 =>
    refine (pi_enum hg hm ha hs).run pins s σ H Q I ⟨env, G, s2, R, ?_⟩
    exact PostI.bind p fun l s1 vs G1 H1 z _ _ _ => by rw [hr] at z; cases z
  | ok l s3 =>
    cases hl : enumO2 l with
    | none =>
      refine (pi_enum hg hm ha hs).run pins s σ H Q I ⟨env, G, s2, R, PostI.bind p fun l' s1 vs G1 H1 z _ _ p1 => ?_⟩
      rw [hr] at z; cases z
      rw [hl] at p1; exact False.elim p1
    | some ds =>
      unfold enumO2 at hl
      split at hl
      · rename_i l'
        cases hl
        refine (pi_enum hg hm ha hs).run pins s σ H Q I ⟨env, G, s2, R, PostI.bind p fun l2 s1 vs G1 H1 z e1 q p1 => ?_⟩
        rw [hr] at z; cases z
        cases q with
        | cons h r =>
          cases r
          cases h with
          | lst h rx =>
            refine ⟨_, _, rfl, SqL.of (e1.sub _ _ h), p1 G1 H1 _ _ _ (.refl e1.sub e1.box) (by rw [enumL_len, ← rx.len]; exact walk_enum) (wok_pair (fun G2 H2 a b => SqL.of (b _ _ (a _ _ h))) fun i x y hx hy d hd => ?_)⟩
            obtain ⟨u, z1, rfl⟩ := enumL_get l' 0 i d hd
            obtain ⟨u', q1, q2⟩ := rx.getV hy
            rw [z1] at q1; cases q1
            cases hx
            exact ⟨_, u, rfl, by rw [Nat.zero_add]; exact .int _, q2⟩
      · rename_i l'
        cases hl
        refine (pi_enumT hg hm ha hs).run pins s σ H Q I ⟨env, G, s2, R, PostI.bind p fun l2 s1 vs G1 H1 z e1 q p1 => ?_⟩
        rw [hr] at z; cases z
        cases q with
        | cons h r =>
          cases r
          cases h with
          | tup h rx =>
            refine ⟨_, _, rfl, by rw [hK]; exact same_seqT e1.sub h, p1 G1 H1 _ _ _ (.refl e1.sub e1.box) (by rw [enumL_len, ← rx.len]; exact walkT) (wok_pair (fun G2 H2 a b => by rw [hK]; exact same_seqT b (same_seqT a h)) fun i x y hx hy d hd => ?_)⟩
            obtain ⟨u, z1, rfl⟩ := enumL_get l' 0 i d hd
            obtain ⟨u', q1, q2⟩ := rx.getV hy
            rw [z1] at q1; cases q1
            cases hx
            exact ⟨_, u, rfl, by rw [Nat.zero_add]; exact .int _, q2⟩
      · cases hl⟩

/-! ### max(x, default = d) -/
def maxI (d : Int) : List Int → Int
  | [] => d
  | x :: r => r.foldl max x
theorem maxI_is {l : List Int} {d m : Int} (hne : l ≠ []) (h1 : m ∈ l) (h2 : ∀ y ∈ l, y ≤ m) : m = maxI d l := by
  have aux : ∀ (r : List Int) (x : Int), (r.foldl max x = x ∨ r.foldl max x ∈ r) ∧ x ≤ r.foldl max x ∧ ∀ y ∈ r, y ≤ r.foldl max x := by
    intro r
    induction r with
    | nil => intro x; exact ⟨.inl rfl, Int.le_refl _, fun y hy => absurd hy (by simp)⟩
    | cons z r ih =>
      intro x
      obtain ⟨i1, i2, i3⟩ := ih (max x z)
      refine ⟨?_, ?_, fun y hy => ?_⟩
      · rcases i1 with i1 | i1
        · rw [List.foldl_cons, i1]
          by_cases hc : x ≤ z
          · right; rw [show max x z = z by omega]; simp
          · left; omega
        · right; exact List.mem_cons_of_mem _ i1
      · rw [List.foldl_cons]; omega
      · rw [List.foldl_cons]
        rcases List.mem_cons.mp hy with hy | hy
        · subst hy; omega
        · exact i3 y hy
  cases l with
  | nil => exact absurd rfl hne
  | cons x r =>
    obtain ⟨i1, i2, i3⟩ := aux r x
    show m = r.foldl max x
    have hm : r.foldl max x ∈ x :: r := by
      rcases i1 with i1 | i1
      · rw [i1]; simp
      · exact List.mem_cons_of_mem _ i1
    have u1 := h2 _ hm
    have u2 : m ≤ r.foldl max x := by
      rcases List.mem_cons.mp h1 with z | z
      · rw [z]; exact i2
      · exact i3 m z
    omega
def maxO (x y : D) : Option D := match x, y with
  | .lst l, .int d => (intsOf l).map fun ns => .int (maxI d ns)
  | .tup l, .int d => (intsOf l).map fun ns => .int (maxI d ns)
  | _, _ => none
theorem max_at {ns : List Int} {its : List Value} {d : Int} {v : Value} {dv : Value} {t : Tok} (rv : Vals (ns.map V.int) its) (hd : dv = .int d t) (h : (its.toArray.size = 0 ∧ v = dv) ∨ (0 < its.toArray.size ∧ its.toArray[argBest (fun i j => decide (ns.getD i 0 > ns.getD j 0)) (its.toArray.size - 1)]? = some v)) : ∃ t, v = .int (maxI d ns) t := by
  have hl := rv.length
  rw [List.length_map] at hl
  have hs : its.toArray.size = ns.length := by rw [List.size_toArray, hl]
  rw [hs] at h
  rcases h with ⟨h1, h2⟩ | ⟨h1, h2⟩
  · cases ns with
    | nil => exact ⟨t, by rw [h2, hd]; rfl⟩
    | cons => simp at h1
  · obtain ⟨g1, g2⟩ := argBest_gt (fun i => ns.getD i 0) (ns.length - 1)
    have hv : its[argBest (fun i j => decide (ns.getD i 0 > ns.getD j 0)) (ns.length - 1)]? = some v := by simpa using h2
    obtain ⟨n, hn⟩ : ∃ n, ns[argBest (fun i j => decide (ns.getD i 0 > ns.getD j 0)) (ns.length - 1)]? = some n := ⟨_, List.getElem?_eq_getElem (by omega)⟩
    obtain ⟨u, hu, ru⟩ := rv.get (by rw [List.getElem?_map, hn]; rfl)
    rw [hv] at hu
    cases hu
    obtain ⟨tt, rfl⟩ := ru
    refine ⟨tt, ?_⟩
    congr 1
    have e : ns.getD (argBest (fun i j => decide (ns.getD i 0 > ns.getD j 0)) (ns.length - 1)) 0 = n := by rw [List.getD_eq_getElem?_getD, hn]; rfl
    refine maxI_is (fun z => by rw [z] at h1; simp at h1) (List.mem_of_getElem? hn) fun y hy => ?_
    obtain ⟨j, hj, rfl⟩ := List.getElem_of_mem hy
    have g3 := g2 j (by omega)
    rw [e] at g3
    rw [List.getD_eq_getElem?_getD, List.getElem?_eq_getElem hj] at g3
    exact g3
theorem int_at {ns : List Int} {its : List Value} {i : Nat} {v : Value} (rv : Vals (ns.map V.int) its) (hv : its.toArray[i]? = some v) : ∃ t, v = .int (ns.getD i 0) t := by
  have h2 : its[i]? = some v := by simpa using hv
  have hl := rv.length
  rw [List.length_map] at hl
  have hi : i < ns.length := by rw [hl]; exact (List.getElem?_eq_some_iff.mp h2).1
  obtain ⟨u, hu, ru⟩ := rv.get (i := i) (x := .int ns[i]) (by rw [List.getElem?_map, List.getElem?_eq_getElem hi]; rfl)
  rw [h2] at hu
  cases hu
  obtain ⟨t, rfl⟩ := ru
  exact ⟨t, by rw [List.getD_eq_getElem?_getD, List.getElem?_eq_getElem hi]; rfl⟩
theorem k_maxD {p cpos kpos : Pos} {i0 : Int} {j0 : Nat} {ma : ME} (hc : X.calm = true) (hg : Gl X "max") (hm : X.mg "max" = none) (ha : KE X c G0 H0 W e ma) (hK : X.K = c.st.K := by rfl)
    (he : starEach [e] X.env = (false, eval e X.env) :: starEach [] X.env := by rfl) (hpl : (backTo pos (starEach [e] X.env)).any (·.1) = false := by rfl) (hbt : backTo pos (starEach [e] X.env) = (false, eval e X.env) :: backTo pos (starEach [] X.env) := by rfl) :
    KE X c G0 H0 W (.Call (.Name "max" p) [e] [⟨some "default", .Constant (.int i0) j0 cpos, kpos⟩] pos) (m2 maxO ma (mC (.int i0))) := by
  refine ⟨fun pins s σ H Q I ⟨env, G, s2, R, q⟩ => ?_⟩
  refine wpAny_Call_Name_kw (ld_blt I hg hm (u := .builtin "max") (by first | rfl | decide +kernel) ?_ (by first | decide +kernel | decide) (by first | decide +kernel | decide))
  have q' := q
  unfold m2 at q'
  refine PyProof.Rows.callWith_kw (thn ((pa_cons ha pa_nil he).run pos pins s σ H (fun vs H1 => ∃ v, vs = [v] ∧ ((∃ (a : Addr) (ns : List Int), v = .ref a ∧ (SqL X.K H1 a (ns.map V.int) ∨ SqT X.K H1 a (ns.map V.int)) ∧ Q (.int (maxI i0 ns)) H1))) I ?_) fun us s1 ⟨vs, H1, J, r1, v, ev, a, ns, ev2, hq, q2⟩ => ?_) hbt hpl
  · refine ⟨env, G, s2, R, q'.bind fun dx s3 x G1 H1 _ e1 qx p1 => ?_⟩
    have p2 : Post c G1 H1 (Dd c) (ofO (maxO dx (.int i0)) s3) (fun cl dd H' => W cl dd σ H') Q := p1
    refine ⟨x, rfl, ?_⟩
    cases dx with
    | lst l =>
      have p3 : Post c G1 H1 (Dd c) (ofO ((intsOf l).map fun ns => .int (maxI i0 ns)) s3) (fun cl dd H' => W cl dd σ H') Q := p2
      cases hi : intsOf l with
      | none => rw [hi] at p3; exact False.elim p3
      | some ns =>
        rw [hi] at p3
        cases qx with
        | lst hx rx =>
          have en := ints_da rx hi
          subst en
          exact ⟨_, ns, rfl, .inl (SqL.of (e1.sub _ _ hx)), p3 _ G1 H1 (.refl e1.sub e1.box) (.int _)⟩
    | tup l =>
      have p3 : Post c G1 H1 (Dd c) (ofO ((intsOf l).map fun ns => .int (maxI i0 ns)) s3) (fun cl dd H' => W cl dd σ H') Q := p2
      cases hi : intsOf l with
      | none => rw [hi] at p3; exact False.elim p3
      | some ns =>
        rw [hi] at p3
        cases qx with
        | tup hx rx =>
          have en := ints_da rx hi
          subst en
          exact ⟨_, ns, rfl, .inr (by rw [hK]; exact same_seqT e1.sub hx), p3 _ G1 H1 (.refl e1.sub e1.box) (.int _)⟩
    | _ => exact False.elim p2
  subst ev
  subst ev2
  refine thn ((pk_cons (nm := some "default") (kpos := kpos) (pe_int (X := X) (i := i0) (j := j0) (pos := cpos)) pk_nil).run pos pins s1 σ H1 (fun ws H2 => ws = [.int i0] ∧ H2 = H1) J ⟨rfl, rfl⟩) fun ws s2 ⟨zs, H2, J2, r2, ez, eh⟩ => ?_
  subst ez
  subst eh
  cases r1 with
  | cons r rr =>
    cases rr
    cases r
    cases r2 with
    | cons r3 rr3 =>
      cases rr3
      obtain ⟨t0, rfl⟩ := r3
      have hh := J2.ok.hd hc
      show wpAny _ _ (call (.builtin "max") [.ref a] [(Str.ofString "default", .int i0 t0)]) _ _ _
      rcases hq with hq | hq
      · obtain ⟨its, rv, hl, _⟩ := J2.list hq
        have hl' := hl.isList
        refine PySem.kn_call_maxD (wpAny_pyIter_list hl' ?_)
        have lt : a < s2.heap.objs.size := by obtain ⟨o, y, _⟩ := hl'; exact Heap.lt_size y
        have ne : a ≠ s2.heap.objs.size := Nat.ne_of_lt lt
        refine ⟨_, _, _, _, _, _, _, rfl, Walks.list (A := X.A.in1) hh _ a ne its.toArray, ⟨⟨_, Heap.get?_push_size _ rfl, rfl, rfl⟩, hl'.push _⟩, fun b hb => ?_, CmpOf.ints_gt (fun i => ns.getD i 0) (fun i v hv => ?_), fun v h' tk pv kp => ?_⟩
        · have z : b = s2.heap.objs.size ∨ b = a := by simpa using hb
          rw [Heap.size_push]
          rcases z with z | z
          · rw [z]; exact Nat.lt_succ_self _
          · rw [z]; exact Nat.lt_succ_of_lt lt
        · exact int_at rv hv
        · obtain ⟨tt, rfl⟩ := max_at rv rfl pv
          exact ⟨.int _, _, J2.kept (t' := tk) (fun b o y => kp b o (by simpa using Nat.ne_of_lt (Heap.lt_size y)) (Heap.get?_push_of_some _ y)), ⟨tt, rfl⟩, q2⟩
      · obtain ⟨its, rv, hl0, _⟩ := J2.tuple hq
        have hl' : s2.heap.IsTuple a its.toArray := hl0
        refine PySem.kn_call_maxD (wpAny_pyIter_tuple hl' ?_)
        have lt : a < s2.heap.objs.size := by obtain ⟨o, y, _⟩ := hl'; exact Heap.lt_size y
        have ne : a ≠ s2.heap.objs.size := Nat.ne_of_lt lt
        refine ⟨_, _, _, _, _, _, _, rfl, Walks.tuple (A := X.A.in1) hh _ a ne its.toArray, ⟨⟨_, Heap.get?_push_size _ rfl, rfl, rfl⟩, hl'.push _⟩, fun b hb => ?_, CmpOf.ints_gt (fun i => ns.getD i 0) (fun i v hv => ?_), fun v h' tk pv kp => ?_⟩
        · have z : b = s2.heap.objs.size ∨ b = a := by simpa using hb
          rw [Heap.size_push]
          rcases z with z | z
          · rw [z]; exact Nat.lt_succ_self _
          · rw [z]; exact Nat.lt_succ_of_lt lt
        · exact int_at rv hv
        · obtain ⟨tt, rfl⟩ := max_at rv rfl pv
          exact ⟨.int _, _, J2.kept (t' := tk) (fun b o y => kp b o (by simpa using Nat.ne_of_lt (Heap.lt_size y)) (Heap.get?_push_of_some _ y)), ⟨tt, rfl⟩, q2⟩
end
end Kn

end

section
set_option Elab.async false
set_option linter.all false
set_option maxRecDepth 100000
set_option maxHeartbeats 1000000
/-! Kn10: parallel stores, keyword calls, replace, a loop's passing. -/
namespace Kn
open PySem PySem.Spec PyProof.Rows L2
section
variable {X : Cx} {c : Cn} {G0 H0 : Hp} {W : WX} {a b d e o : Expr} {es : List Expr} {st : Stmt} {sts : List Stmt} {pos : Pos}

/-! ### a, b = e, f -/
def mPar (i j : Nat) (a b : ME) : MS := fun env s => after env (a env s) fun x s1 => after env (b env s1) fun y s2 => .nx ((env.set i (.sh x)).set j (.sh y)) s2
theorem s_par {i j : Nat} {x y : Str} {ma mb : ME} {px py pt : Pos} {kt k2 pt2} (hc : X.calm = true) (hN : X.N.Nodup) (hi : X.N[i]? = some x) (hj : X.N[j]? = some y) (hij : i ≠ j)
    (hx : X.env.scope.names.lookup x = some .local) (hy : X.env.scope.names.lookup y = some .local) (ha : KE X c G0 H0 W a ma) (hb : KE X c G0 H0 W b mb)
    (hw : swappedStores [.Tuple [.Name x px, .Name y py] kt pt] (.Tuple [a, b] k2 pt2) X.env = pure (some [x, y]))
    (hs : swapsWithSole [.Tuple [.Name x px, .Name y py] kt pt] (.Tuple [a, b] k2 pt2) pos.line X.env = pure false := by rfl)
    (h1 : starEach [a, b] X.env = (false, eval a X.env) :: starEach [b] X.env := by rfl) (h2 : starEach [b] X.env = (false, eval b X.env) :: starEach [] X.env := by rfl) :
    KS X c G0 H0 W (.Assign [.Tuple [.Name x px, .Name y py] kt pt] (.Tuple [a, b] k2 pt2) pos) (mPar i j ma mb) := ps_imp (ps_par hc hN hi hj hij hx hy (pa_cons ha (pa_cons hb pa_nil h2) h1) hw hs) fun E σ H ⟨env, G, s, R, p⟩ =>
  ⟨env, G, s, R, after_post R p fun dx s1 v G1 H1 _ e1 q p1 => ⟨env, G1, s1, R.step e1, after_post (R.step e1) p1 fun dy s2 w G2 H2 _ e2 q2 p2 =>
    ⟨v, w, rfl, p2 _ G2 H2 ((((R.step e1).step e2).set (q.mono e2.gg)).set q2) (.refl _)⟩⟩⟩
/-- .. the first one a list that its name alone holds -/
def mParO (i j : Nat) (a : MA) (b : ME) : MS := fun env s => after env (a env s) fun l s1 => after env (b env s1) fun y s2 => .nx ((env.set i (.ow l)).set j (.sh y)) s2
theorem s_parO {i j : Nat} {x y : Str} {ma : MA} {mb : ME} {px py pt : Pos} {kt k2 pt2} (hc : X.calm = true) (hN : X.N.Nodup) (hi : X.N[i]? = some x) (hj : X.N[j]? = some y) (hij : i ≠ j)
    (hx : X.env.scope.names.lookup x = some .local) (hy : X.env.scope.names.lookup y = some .local) (ha : KN X c G0 H0 W a ma) (hb : KE X c G0 H0 W b mb)
    (hw : swappedStores [.Tuple [.Name x px, .Name y py] kt pt] (.Tuple [a, b] k2 pt2) X.env = pure (some [x, y]))
    (hs : swapsWithSole [.Tuple [.Name x px, .Name y py] kt pt] (.Tuple [a, b] k2 pt2) pos.line X.env = pure false := by rfl)
    (h1 : starEach [a, b] X.env = (false, eval a X.env) :: starEach [b] X.env := by rfl) (h2 : starEach [b] X.env = (false, eval b X.env) :: starEach [] X.env := by rfl) :
    KS X c G0 H0 W (.Assign [.Tuple [.Name x px, .Name y py] kt pt] (.Tuple [a, b] k2 pt2) pos) (mParO i j ma mb) := ps_imp (ps_par hc hN hi hj hij hx hy (pa_cons ha (pa_cons hb pa_nil h2) h1) hw hs) fun E σ H ⟨env, G, s, R, p⟩ => by
  refine ⟨env, G, s, R, ?_⟩
  unfold mParO at p
  cases q : ma env s with
  | bad => rw [q] at p; exact p
  | ex n d s1 => rw [q] at p; exact fun cl dd G1 H1 e1 z => p cl dd σ G1 H1 (R.step e1) e1.gg z
  | ok l s1 =>
    rw [q] at p
    refine fun p2 xs G1 H1 e1 h1 h2 h3 h4 => ⟨env, G1, s1, R.step e1, after_post (R.step e1) (SPost.up (r := after env (mb env s1) fun y s2 => .nx ((env.set i (.ow l)).set j (.sh y)) s2) p e1.gg) fun dy s2 w G2 H2 _ e2 q2 p3 => ⟨.ref p2, w, rfl, ?_⟩⟩
    have nf : ¬ Foot c p2 := fun f => absurd h1 (R.ex.box.foot f)
    have k3 : H2 p2 = some (.lst xs) := e2.keep _ _ nf h3
    have k2 : G2 p2 = none := by
      cases z : G2 p2 with
      | none => rfl
      | some u =>
        have y := e2.fresh p2 h2 (by rw [z]; exact fun z => nomatch z)
        rw [h3] at y; cases y
    refine p3 _ G2 H2 ((((R.step e1).step e2).own ?_ k2 k3 (h4.mono e2.gg) fun j m ad hs hj z => ?_).set q2) (.refl _)
    · cases w : H0 p2 with
      | none => rfl
      | some o => rw [R.ex.keep p2 o nf w] at h1; cases h1
    · obtain ⟨ad0, k1, _⟩ := R.ad
      obtain ⟨v1, _, _, _, _, _⟩ := hs j _ hj
      obtain ⟨v2, _, _, ys, hy, _⟩ := k1 j _ hj
      rw [v1] at v2
      have ee : ad j = ad0 j := V.ref.inj (Option.some.inj (Option.some.inj v2))
      rw [← ee, z, h1] at hy
      cases hy

/-! ### f(k = e) -/
theorem k_fnK {t : Sc} {bx : Option (Addr × Addr)} {k : Nat} {fa : Addr} {fd : FuncData} {kn : Str} {x : Str} {p kpos : Pos} {f : List D → BoxSt → Res D} {ma : ME} (tk : L2N.Takes X W) (hr : Room k X.A) (F : FnOk X.prog X.w X.K X.mg X.base (L2N.CX X.prog X.w) k fa fd [kn] (spU t f)) (hg : Gl X x) (hm : X.mg x = some (.ref fa)) (hk : PySem.W.keepIn X.K (.ref fa) = true)
    (hb : ∀ (s : Shared) (u : Value), BindsTo s fd ⟨[], [(kn, u)]⟩ [(kn, u)])
    (ha : KE X ⟨t, bx⟩ G0 H0 W e ma) (hdb : (x == ("__debug__" : Str)) = false := by decide) (hall : (backToKw pos (keywordEach [⟨some kn, e, kpos⟩] X.env)).all (·.1.isSome) = true := by rfl)
    (hpl : ((backTo pos (starEach [] X.env)).any (·.1) || (backToKw pos (keywordEach [⟨some kn, e, kpos⟩] X.env)).any (·.1.isNone)) = false := by rfl) :
    KE X ⟨t, bx⟩ G0 H0 W (.Call (.Name x p) [] [⟨some kn, e, kpos⟩] pos) (mFn f (mCons ma mNil)) := by
  refine ⟨fun pins s σ H Q I ⟨env, G, s2, R, q⟩ => ?_⟩
  refine wpAny_Call_Name_kw (ld_glob I hg hm ?_ hdb)
  refine PySem.W.callWith_KW0 (h₀ := X.base) I.ok.mod.kin hk hall (thn ((pk_cons (nm := some kn) (kpos := kpos) ha pk_nil).run pos pins s σ H (fun zs H1 => ∃ v, zs = [v] ∧ spU t f [v] H1 Q (WE W σ)) I ?_) fun ws s3 ⟨zs, H1, J, rz, v, ev, q2⟩ => ⟨J.kIn, ?_⟩) hpl
  · refine ⟨env, G, s2, R, ?_⟩
    unfold mFn mCons at q
    cases hr0 : ma env s2 with
    | bad => rw [hr0] at q; exact q
    | ex n d s1 => rw [hr0] at q; exact q
    | ok d s1 =>
      rw [hr0] at q
      intro v G1 H1 e1 qv
      exact ⟨v, rfl, bx, G1, [d], s1, e1.sub, e1.box, R.foot' e1, .cons qv .nil, Post.shift (s := s1) (r := f [d] s1) q e1⟩
  subst ev
  cases rz with
  | cons r rr =>
    cases rr
    rename_i u us
    refine wpAny_call (codeAny_mono (F.run X.A X.stack s3 H1 ⟨[], [(kn, u)]⟩ [u] [v] Q (WE W σ) hr J.env0 (hb s3 u) (.cons r .nil) q2) fun r2 s' hq => ?_)
    cases r2 with
    | error e => exact L2N.passAt tk σ pins H1 s3 e s' J hq
    | ok fl =>
      cases fl with
      | ret u => exact J.after hq
      | next => exact False.elim hq
      | brk => exact False.elim hq
      | cont => exact False.elim hq

/-! ### replace: one token is out -/
abbrev KET (X : Cx) (c : Cn) (G0 H0 : Hp) (W : WX) (e : Expr) (m : ME) : Prop := PET X e (lE c G0 H0 W m)
abbrev KAT (X : Cx) (c : Cn) (G0 H0 : Hp) (W : WX) (es : List Expr) (m : MA) : Prop := PAT X es (lA c G0 H0 W m)
theorem ket_of {ma : ME} (h : KE X c G0 H0 W e ma) : KET X c G0 H0 W e ma := CwR.PET.of h
theorem kat_nil : KAT X c G0 H0 W [] mNil := fun pos pins s σ H Q z I ⟨env, G, s2, R, p⟩ => pat_nil pos pins s σ H Q z I (p [] G H (.refl R.ex.sub R.ex.box) .nil)
theorem l_cons {ma : ME} {mr : MA} (σ : L2.St) (H : Hp) (Q : List V → Hp → Prop) : lA c G0 H0 W (mCons ma mr) σ H Q → tCons (lE c G0 H0 W ma) (lA c G0 H0 W mr) σ H Q := fun ⟨env, G, s, R, p⟩ =>
  ⟨env, G, s, R, p.bind fun x s1 v G1 H1 _ e1 q p1 => ⟨env, G1, s1, R.step e1, p1.bind fun xs s2 vs G2 H2 _ e2 qs p2 => p2 (v :: vs) G2 H2 (.refl e2.sub e2.box) (.cons (q.mono e2.gg) qs)⟩⟩
theorem kat_cons {ma : ME} {mr : MA} (ha : KET X c G0 H0 W e ma) (hr : KAT X c G0 H0 W es mr) (hs : starEach (e :: es) X.env = (false, eval e X.env) :: starEach es X.env := by rfl) : KAT X c G0 H0 W (e :: es) (mCons ma mr) :=
  fun pos pins s σ H Q z I p => pat_cons ha hr hs pos pins s σ H Q z I (l_cons σ H Q p)
theorem ket_op {op : Operator} {r : R2} {g : D → D → Option D} {ma mb : ME} (v : V2 c r g) (ho : OpR X (binaryOp op) r) (ha : KET X c G0 H0 W a ma) (hb : KET X c G0 H0 W b mb) : KET X c G0 H0 W (.BinOp a op b pos) (m2 g ma mb) :=
  fun pins s σ H Q z I p => CwR.pet_op ho ha hb pins s σ H Q z I (l_op v σ H Q p)
def replO (y z : Str) (x : Str) : Option D := if x.length + (x.length + 1) * z.length ≤ 1000000 then some (.str (Txt.replace x y z)) else none
theorem ket_repl {y z : String} {j k : Nat} {c0 c1 apos : Pos} {mo : ME} (ho : KE X c G0 H0 W o mo) (hyz : (PySem.Str.ofString y == PySem.Str.ofString z) = false := by decide)
    (hst : starEach [.Constant (.str y) j c0, .Constant (.str z) k c1] X.env = [(false, eval (.Constant (.str y) j c0) X.env), (false, eval (.Constant (.str z) k c1) X.env)] := by rfl)
    (hbase : attributeBase o "replace" X.env (eval o X.env) = eval o X.env := by rfl) (hline : (apos.endLine == pos.line) = true := by rfl) :
    KET X c G0 H0 W (.Call (.Attribute o "replace" apos) [.Constant (.str y) j c0, .Constant (.str z) k c1] [] pos) (mStr0 (replO (PySem.Str.ofString y) (PySem.Str.ofString z)) mo) := fun pins s σ H Q h0 I ⟨env, G, s2, R, p⟩ =>
  CwR.pet_replC ho hyz hst hbase hline pins s σ H Q h0 I ⟨env, G, s2, R, p.bind fun dx s1 x G1 H1 _ e1 q p1 => by
    cases dx with
    | str u =>
      cases q
      by_cases hz : u.length + (u.length + 1) * (PySem.Str.ofString z).length ≤ 1000000
      · have p2 : Post c G1 H1 (Dd c) (ofO (replO (PySem.Str.ofString y) (PySem.Str.ofString z) u) s1) (fun cl dd H' => W cl dd σ H') Q := p1
        unfold replO at p2
        rw [if_pos hz] at p2
        exact ⟨u, rfl, by omega, p2 _ G1 H1 (.refl e1.sub e1.box) (.str _)⟩
      · have p2 : Post c G1 H1 (Dd c) (ofO (replO (PySem.Str.ofString y) (PySem.Str.ofString z) u) s1) (fun cl dd H' => W cl dd σ H') Q := p1
        unfold replO at p2
        rw [if_neg hz] at p2
        exact False.elim p2
    | _ => exact False.elim p1⟩
/-- [a + 'text', ..]: behind the first one a token is out -/
theorem ka_tok {y : String} {j : Nat} {c0 : Pos} {r : R2} {g : D → D → Option D} {ma : ME} {mr : MA} {op : Operator} (v : V2 c r g) (ho : OpR X (binaryOp op) r) (ha : KE X c G0 H0 W a ma) (hr : KAT X c G0 H0 W es mr)
    (hs : starEach (.BinOp a op (.Constant (.str y) j c0) pos :: es) X.env = (false, eval (.BinOp a op (.Constant (.str y) j c0) pos) X.env) :: starEach es X.env := by rfl) :
    KA X c G0 H0 W (.BinOp a op (.Constant (.str y) j c0) pos :: es) (mCons (m2 g ma (mC (.str (PySem.Str.ofString y)))) mr) := ⟨fun pos2 pins s σ H Q I p => by
  have p1 := l_cons σ H Q p
  rw [hs]
  show wpAny _ _ (spliced ((false, eval (.BinOp a op (.Constant (.str y) j c0) pos) X.env) :: backTo pos2 (starEach es X.env))) _ _ s
  refine Calls.spliced_cons (wpAny_BinOp ?_)
  have p2 := l_op (r := r) v σ H _ p1
  refine thn (ha.run pins s σ H _ I p2) fun u s1 ⟨x, H1, J, r1, env, G, s2, R, q⟩ => ?_
  refine Calls.Constant_str ?_
  have q2 := q (.str (PySem.Str.ofString y)) G H1 (.refl R.ex.sub R.ex.box) (.str _)
  refine wpAny_mono (PySem.wpAny_toks (ho pins { s1 with toks := s1.toks + 1 } σ H1 x (.str (PySem.Str.ofString y)) u _ _ (J.tok _) r1 ⟨_, rfl⟩ q2)) (fun w s3 z => ?_) fun _ _ z => z.2
  obtain ⟨hk, x3, H3, J3, r3, q3⟩ := z
  have hk1 : 1 ≤ s3.toks := by
    have : s1.toks + 1 ≤ s3.toks := hk
    omega
  exact thn (hr pos2 pins s3 σ H3 _ hk1 J3 q3) fun us s4 ⟨xs, H4, J4, r4, q4⟩ => ⟨x3 :: xs, H4, J4, .cons r3 r4, q4⟩⟩
end
end Kn

end

section
set_option Elab.async false
set_option linter.all false
set_option maxRecDepth 100000
set_option maxHeartbeats 1000000
/-! Kn11: what printed derivations use. -/
namespace Kn
open PySem PySem.Spec PyProof.Rows L2
/-- a def that may be called -/
structure Cal (P : Program) (w : World) (K : PySem.W.Frag) (mg : Str → Option Value) (base : Heap) (t : Sc) (k : Nat) (x : Str) (ps : List Str) (f : List D → BoxSt → Res D) : Prop where
  ex : ∃ (fa : Addr) (fd : FuncData), FnOk P w K mg base (L2N.CX P w) k fa fd ps (spU t f) ∧ mg x = some (.ref fa) ∧ PySem.W.keepIn K (.ref fa) = true ∧ Binds K fd ps [] ∧ ∀ kn, ps = [kn] → ∀ (s : Shared) (u : Value), BindsTo s fd ⟨[], [(kn, u)]⟩ [(kn, u)]
structure CalH (P : Program) (w : World) (K : PySem.W.Frag) (mg : Str → Option Value) (base : Heap) (t : Sc) (k : Nat) (x : Str) (ps : List Str) (f : List D → BoxSt → Res D) : Prop where
  ex : ∃ (fa : Addr) (fd : FuncData), L2H.FnH P w K mg base (L2N.CX P w) k fa fd ps (spU t f) ∧ mg x = some (.ref fa) ∧ PySem.W.keepIn K (.ref fa) = true ∧ Binds K fd ps []
/-- a def as it stands behind the top -/
structure Is (K : PySem.W.Frag) (mg : Str → Option Value) (x : Str) (st : Stmt) (ps : List Str) : Prop where
  ex : ∃ (fa : Addr) (fd : FuncData), Fun K x x st fa fd ∧ mg x = some (.ref fa) ∧ Binds K fd ps [] ∧ ∀ kn, ps = [kn] → ∀ (s : Shared) (u : Value), BindsTo s fd ⟨[], [(kn, u)]⟩ [(kn, u)]
section
variable {P : Program} {w : World} {K : PySem.W.Frag} {mg : Str → Option Value} {base : Heap} {t : Sc}
theorem cal_of {x : Str} {st : Stmt} {N ps : List Str} {k : Nat} {m : MS} (D : Is K mg x st ps) (S : FnScope N ps (defScope st))
    (hb : ∀ (bx : Option (Addr × Addr)) (G0 : Hp) (f : Addr) (cdv : Value) (A : Around) (outer : List Env) (s : Shared) (H : Hp) (E : XK), Room k (A.deeper (PyProof.Rows.envOfC x (defScope st) s.heap.objs.size f cdv)) →
      L2N.Takes (cxOf (L2N.CX P w) P w K mg base N x (defScope st) f cdv A outer s H E) (fun cl d _ H' => E cl d H') → PassesOwn (model P w) (A.deeper (PyProof.Rows.envOfC x (defScope st) s.heap.objs.size f cdv)) (PyProof.Rows.envOfC x (defScope st) s.heap.objs.size f cdv) (cxOf (L2N.CX P w) P w K mg base N x (defScope st) f cdv A outer s H E).xe →
      KB (cxOf (L2N.CX P w) P w K mg base N x (defScope st) f cdv A outer s H E) ⟨t, bx⟩ G0 H (fun cl d _ H' => E cl d H') (defBody st) m) : Cal P w K mg base t (k + 1) x ps (mDef N.length ps.length m) := by
  obtain ⟨fa, fd, F, hm, hb0, hb1⟩ := D.ex
  exact ⟨fa, fd, def_ok F S (fun bx G0 cdv A outer s H E hr => hb bx G0 fa cdv A outer s H E hr (L2N.takes_of rfl rfl rfl rfl) (passes_of rfl)), hm, F.kp, hb0, hb1⟩
theorem calH_of {x : Str} {st : Stmt} {N ps : List Str} {k : Nat} {m : MS} (D : Is K mg x st ps) (S : FnScope N ps (defScope st))
    (hb : ∀ (bx : Option (Addr × Addr)) (G0 : Hp) (f : Addr) (cdv : Value) (A : Around) (outer : List Env) (s : Shared) (H : Hp) (E : XK) (p : Addr × Obj), L2H.RoomH k (A.deeper (PyProof.Rows.envOfC x (defScope st) s.heap.objs.size f cdv)) → L2H.HotC (L2H.cxH (L2N.CX P w) P w K mg base N x (defScope st) f cdv A outer s H E p) →
      L2N.Takes (L2H.cxH (L2N.CX P w) P w K mg base N x (defScope st) f cdv A outer s H E p) (fun cl d _ H' => E cl d H') →
      KB (L2H.cxH (L2N.CX P w) P w K mg base N x (defScope st) f cdv A outer s H E p) ⟨t, bx⟩ G0 H (fun cl d _ H' => E cl d H') (defBody st) m) : CalH P w K mg base t (k + 1) x ps (mDef N.length ps.length m) := by
  obtain ⟨fa, fd, F, hm, hb0, _⟩ := D.ex
  exact ⟨fa, fd, def_hot F S (fun bx G0 cdv A outer s H E p h1 hr => hb bx G0 fa cdv A outer s H E p hr ⟨p, h1, List.mem_cons_self⟩ (L2N.takes_of rfl rfl rfl rfl)), hm, F.kp, hb0⟩
end
theorem takes_w0 {X : Cx} : L2N.Takes X W0 := fun u s x => by
  obtain ⟨_, _, _, _, _, _, _, _, _, _, _, _, _, _, _, _, z⟩ := x
  exact z.elim
section
variable {X : Cx} {c : Cn} {G0 H0 : Hp} {W : WX} {a b d e o : Expr} {es : List Expr} {st : Stmt} {sts : List Stmt} {pos : Pos}
theorem k_cal {t : Sc} {bx : Option (Addr × Addr)} {j k : Nat} {ps : List Str} {x : Str} {p : Pos} {f : List D → BoxSt → Res D} {ma : MA} (tk : L2N.Takes X W) (hr : Room k X.A) (C : Cal X.prog X.w X.K X.mg X.base t j x ps f) (hj : j ≤ k) (hg : Gl X x)
    (ha : KA X ⟨t, bx⟩ G0 H0 W (e :: es) ma) (hdb : (x == ("__debug__" : Str)) = false := by decide) (he : starEach (e :: es) X.env = (false, eval e X.env) :: starEach es X.env := by rfl) (hpl : (backTo pos (starEach es X.env)).any (·.1) = false := by rfl) :
    KE X ⟨t, bx⟩ G0 H0 W (.Call (.Name x p) (e :: es) [] pos) (mFn f ma) := by
  obtain ⟨fa, fd, F, hm, hk, hb, _⟩ := C.ex
  exact k_fn tk (hr.mono hj) F hg hm hk hb ha hdb he hpl
theorem k_calK {t : Sc} {bx : Option (Addr × Addr)} {j k : Nat} {kn : Str} {x : Str} {p kpos : Pos} {f : List D → BoxSt → Res D} {ma : ME} (tk : L2N.Takes X W) (hr : Room k X.A) (C : Cal X.prog X.w X.K X.mg X.base t j x [kn] f)
    (hj : j ≤ k) (hg : Gl X x)
    (ha : KE X ⟨t, bx⟩ G0 H0 W e ma) (hdb : (x == ("__debug__" : Str)) = false := by decide) (hall : (backToKw pos (keywordEach [⟨some kn, e, kpos⟩] X.env)).all (·.1.isSome) = true := by rfl)
    (hpl : ((backTo pos (starEach [] X.env)).any (·.1) || (backToKw pos (keywordEach [⟨some kn, e, kpos⟩] X.env)).any (·.1.isNone)) = false := by rfl) :
    KE X ⟨t, bx⟩ G0 H0 W (.Call (.Name x p) [] [⟨some kn, e, kpos⟩] pos) (mFn f (mCons ma mNil)) := by
  obtain ⟨fa, fd, F, hm, hk, hb, hkw⟩ := C.ex
  exact k_fnK tk (hr.mono hj) F hg hm hk (hkw kn rfl) ha hdb hall hpl
theorem k_calH {t : Sc} {bx : Option (Addr × Addr)} {j k : Nat} {ps : List Str} {x : Str} {p : Pos} {f : List D → BoxSt → Res D} {ma : MA} (tk : L2N.Takes X W) (hr : L2H.RoomH k X.A) (hc : L2H.HotC X) (C : CalH X.prog X.w X.K X.mg X.base t j x ps f) (hj : j ≤ k) (hg : Gl X x)
    (ha : KA X ⟨t, bx⟩ G0 H0 W (e :: es) ma) (hdb : (x == ("__debug__" : Str)) = false := by decide) (he : starEach (e :: es) X.env = (false, eval e X.env) :: starEach es X.env := by rfl) (hpl : (backTo pos (starEach es X.env)).any (·.1) = false := by rfl) :
    KE X ⟨t, bx⟩ G0 H0 W (.Call (.Name x p) (e :: es) [] pos) (mFn f ma) := by
  obtain ⟨fa, fd, F, hm, hk, hb⟩ := C.ex
  exact k_fnH tk (hr.mono hj) hc F hg hm hk hb ha hdb he hpl
theorem k_gI {x : Str} {p : Pos} {i : Int} (hg : Gl X x) (hm : ∃ t, X.mg x = some (.int i t)) (hd : (x == ("__debug__" : Str)) = false := by decide) : KE X c G0 H0 W (.Name x p) (mC (.int i)) := by
  obtain ⟨t, h⟩ := hm
  exact k_c (pe_glob (v := .int i) hg h ⟨t, rfl⟩ hd) (.int i)
theorem k_gS {x : Str} {p : Pos} {i : Str} (hg : Gl X x) (hm : ∃ t, X.mg x = some (.str i t)) (hd : (x == ("__debug__" : Str)) = false := by decide) : KE X c G0 H0 W (.Name x p) (mC (.str i)) := by
  obtain ⟨t, h⟩ := hm
  exact k_c (pe_glob (v := .str i) hg h ⟨t, rfl⟩ hd) (.str i)
theorem pe_tyN {x : Str} {p : Pos} {t : String} (hg : Gl X x) (hm : X.mg x = none) (hv : bootBuiltins x = some (.type t)) (hn : x ≠ "__name__" := by decide) (hdb : (x == ("__debug__" : Str)) = false := by decide) : PE X (.Name x p) (tC (.ty t)) :=
  ⟨fun pins s σ H Q I h => ld_blt I hg hm hv ⟨.ty t, H, I, rfl, h⟩ hn hdb⟩
theorem k_i {i : Int} {j : Nat} {p : Pos} : KE X c G0 H0 W (.Constant (.int i) j p) (mC (.int i)) := k_c pe_int (.int i)
theorem k_s {i : Str} {j : Nat} {p : Pos} : KE X c G0 H0 W (.Constant (.str i) j p) (mC (.str i)) := k_c pe_str (.str i)
theorem k_b {i : Bool} {j : Nat} {p : Pos} : KE X c G0 H0 W (.Constant (.bool i) j p) (mC (.bl i)) := k_c pe_bl (.bl i)
theorem k_non {j : Nat} {p : Pos} : KE X c G0 H0 W (.Constant .none j p) (mC .non) := k_c pe_non .non
theorem k_bool {ma : MT} (h : KW X c G0 H0 W e ma) : KT X c G0 H0 W e ma := h.pt
theorem k_pow {i j : Int} {j1 j2 : Nat} {p1 p2 : Pos} (h1 : 0 ≤ j ∧ j ≤ 1000000 ∧ i.natAbs < 2 ^ 64 := by decide) : KE X c G0 H0 W (.BinOp (.Constant (.int i) j1 p1) .Pow (.Constant (.int j) j2 p2) pos) (mC (.int (i ^ j.toNat))) :=
  pe_imp (pe_op op_pow pe_int pe_int) fun σ H Q ⟨env, G, s, R, p⟩ => ⟨i, j, rfl, rfl, h1, p _ G H (.refl R.ex.sub R.ex.box) (.int _)⟩
end
end Kn
namespace Kn
open PySem PySem.Spec PyProof.Rows L2
/-- an own error as the text has it, all that is asked of it -/
structure Er (prog : Program) (mg : Str → Option Value) (t : Sc) (nm fl : Str) : Prop where
  ex : ∃ (qn : Str) (C B fI cc cda : Addr), ErrTxt prog t.K mg nm qn fl C B fI cc cda ∧ t.cl nm = some C ∧ t.fld nm = fl ∧ PySem.W.exmOne t.K (.ref C) (.ref C) = some true ∧ XfC t.K C ∧ PySem.W.findIn t.K (.ref C) fl = some none
theorem cal_bad {P : Program} {w : World} {K : PySem.W.Frag} {mg : Str → Option Value} {base : Heap} {t : Sc} {k : Nat} {x : Str} {st : Stmt} {ps : List Str} (D : Is K mg x st ps) : Cal P w K mg base t k x ps (fun _ _ => .bad) := by
  obtain ⟨fa, fd, F, hm, hb0, hb1⟩ := D.ex
  exact ⟨fa, fd, ⟨fun vs H Q E ⟨_, _, _, _, _, _, _, _, z⟩ => False.elim z, fun A outer s H args us vs Q E _ _ _ _ ⟨_, _, _, _, _, _, _, _, z⟩ => False.elim z⟩, hm, F.kp, hb0, hb1⟩
section
variable {X : Cx} {c : Cn} {G0 H0 : Hp} {W : WX} {a b d e o : Expr} {es : List Expr} {st : Stmt} {sts : List Stmt} {pos : Pos}
theorem s_raiseE {t : Sc} {bx : Option (Addr × Addr)} {nm fl : Str} {a : Expr} {p pos pos2 : Pos} {k : Nat} {ma : ME} (hc : X.calm = true) (tk : L2N.Takes X W) (hr : Room k X.A) (T : Er X.prog X.mg t nm fl) (ha : KE X ⟨t, bx⟩ G0 H0 W a ma) (hg : Gl X nm) (hK : X.K = t.K := by rfl)
    (hs : starEach [a] X.env = (false, eval a X.env) :: starEach [] X.env := by rfl) (hpl : (backTo pos (starEach [] X.env)).any (·.1) = false := by rfl) (hdb : (nm == ("__debug__" : Str)) = false := by decide) :
    KS X ⟨t, bx⟩ G0 H0 W (.Raise (some (.Call (.Name nm p) [a] [] pos)) none pos2) (mRaise nm ma) := by
  obtain ⟨qn, C, B, fI, cc, cda, h1, h2, h3, _⟩ := T.ex
  exact s_raise hc tk hr (hK ▸ h1) h2 h3 ha hg hs hpl hdb
theorem s_tryE {t : Sc} {bx : Option (Addr × Addr)} {i : Nat} {nm n fl fx : Str} {tag : String} {ps : List Str} {k l j : Nat} {x1 : Nat} {f : List D → BoxSt → Res D} {mb : MS} {body : List Stmt} {np np2 fp fpos cpos tpos rpos epos hpos : Pos}
    (hs : X.stack = X.env :: X.outer) (hf : X.env.frame = some X.env.locals) (hN : X.N.Nodup) (hi : X.N[i]? = some n) (hln : X.env.kindOf n = some .local) (hg : Gl X nm)
    (tk : L2N.Takes X W) (T : Er X.prog X.mg t nm fl) (hr : Room k X.A) (C : CalH X.prog X.w X.K X.mg X.base t l fx ps f) (hl : l ≤ k) (hgf : Gl X fx)
    (hb : ∀ (W : WX) (pn : List (Addr × Obj)) (xe : Value → Shared → Prop), L2N.Takes (X.tr pn xe) W → PassesOwn (model X.prog X.w) X.A X.env xe → KB (X.tr pn xe) ⟨t, bx⟩ G0 H0 W body mb)
    (hv : Vis X.env.scope n := by exact .inl rfl) (hd1 : (n == ("__debug__" : Str)) = false := by decide) (hd2 : (n == ("__classdict__" : Str)) = false := by decide) (hdf : (fx == ("__debug__" : Str)) = false := by decide)
    (hdb : (nm == ("__debug__" : Str)) = false := by decide) (hK : X.K = t.K := by rfl)
    (hatt : attributeBase (.Name n np2) fl X.env (eval (.Name n np2) X.env) = eval (.Name n np2) X.env := by rfl) :
    KS X ⟨t, bx⟩ G0 H0 W (.Try body [.ExceptHandler (some (.Name nm np)) (some n) [.Return (some (.Tuple [.Constant (.str tag) j cpos, .Call (.Name fx fp) [.Attribute (.Name n np2) fl fpos] [] epos] x1 tpos)) rpos] hpos] [] [] pos) (mTry nm i mb (PySem.Str.ofString tag) f) := by
  obtain ⟨qn, C0, B, fI, cc, cda, h1, h2, h3, h4, h5, h6⟩ := T.ex
  obtain ⟨fa, fd, F, hm, hk, hbf⟩ := C.ex
  rw [← hK] at h1 h4 h5 h6
  exact s_try hs hf hN hi hln hg hdb h1.gC tk h2 h3 h4 h5 h6 (hr.mono hl) F hgf hm hk hbf hv hd1 hd2 hdf hK hb hatt
/-- the length of a list that its name alone holds -/
def mLenO (i : Nat) : ME := fun env s => match env[i]? with | some (.ow l) => .ok (.int l.length) s | _ => .bad
theorem k_lenO {i : Nat} {x : Str} {p p2 : Pos} (hg : Gl X "len") (hm : X.mg "len" = none) (h : PE X (.Name x p2) (tVar i)) (hs : starEach [.Name x p2] X.env = (false, eval (.Name x p2) X.env) :: starEach [] X.env := by rfl) (hpl : (backTo pos (starEach [] X.env)).any (·.1) = false := by rfl) :
    KE X c G0 H0 W (.Call (.Name "len" p) [.Name x p2] [] pos) (mLenO i) := pe_imp (pe_callB call_len hg hm (by decide +kernel) (pa_cons h pa_nil hs) (he := hs) (hpl := hpl)) fun σ H Q ⟨env, G, s, R, q⟩ => by
  obtain ⟨ad, h1, _⟩ := R.ad
  unfold mLenO at q
  cases z : env[i]? with
  | none => rw [z] at q; exact False.elim q
  | some y =>
    rw [z] at q
    cases y with
    | un => exact False.elim q
    | sh d => exact False.elim q
    | ow l =>
      obtain ⟨q1, q2, q3, xs, q4, q5⟩ := h1 i _ z
      refine ⟨.ref (ad i), q1, .ref (ad i), xs.length, rfl, ?_, ?_⟩
      · exact .inl ⟨_, SqL.of q4, rfl⟩
      · rw [q5.len]; exact q _ G H (.refl R.ex.sub R.ex.box) (.int _)
end
theorem bt_len : bootBuiltins "len" = some (.builtin "len") := by decide +kernel
theorem bt_all : bootBuiltins "all" = some (.builtin "all") := by decide +kernel
theorem bt_any : bootBuiltins "any" = some (.builtin "any") := by decide +kernel
theorem bt_min : bootBuiltins "min" = some (.builtin "min") := by decide +kernel
theorem bt_int : bootBuiltins "int" = some (.type "int") := by decide +kernel
theorem bt_bool : bootBuiltins "bool" = some (.type "bool") := by decide +kernel
theorem bt_str : bootBuiltins "str" = some (.type "str") := by decide +kernel
theorem bt_tuple : bootBuiltins "tuple" = some (.type "tuple") := by decide +kernel
theorem bt_list : bootBuiltins "list" = some (.type "list") := by decide +kernel
end Kn

end

section
set_option Elab.async false
set_option linter.all false
set_option maxRecDepth 100000
set_option maxHeartbeats 1000000
/-! Kn12: tuple(range(n)); the draws' mirror. -/
namespace Kn
open PySem PySem.Spec PyProof.Rows L2
section
variable {X : Cx} {c : Cn} {G0 H0 : Hp} {W : WX} {a b d e o : Expr} {es : List Expr} {pos : Pos}
theorem k_tchain {op op' : CmpOp} {r r' : R2} {g g' : D → D → Option D} {ma mb md : ME} (v : V2 c r g) (v' : V2 c r' g') (ho : OpR X (compareOp op) r) (ho' : OpR X (compareOp op') r') (ha : KE X c G0 H0 W a ma) (hb : KE X c G0 H0 W b mb) (hd : KE X c G0 H0 W d md)
    (hm : lastMarks [op, op'] [b, d] = false) : KT X c G0 H0 W (.Compare a [op, op'] [b, d] pos) (mTest (mChain g g' ma mb md)) := pt_imp (pt_chain ho ho' ha hb hd hm) (l_test (l_chain v v'))
def tupR1 (x : D) : Option D := match x with
  | .int n => if 0 ≤ n ∧ n ≤ 1000000 then some (.tup (numbers n.toNat)) else none
  | _ => none
theorem rg_numbers {G : Hp} {n : Int} : Da c G (rgV 0 n) (numbers n.toNat) := by
  have aux : ∀ l : List Nat, Da c G (l.map fun (i : Nat) => V.int (0 + (i : Int))) (l.map fun (i : Nat) => D.int (i : Int)) := by
    intro l
    induction l with
    | nil => exact .nil
    | cons x r ih => rw [List.map_cons, List.map_cons, Int.zero_add]; exact .cons (.int _) ih
  unfold rgV numbers
  rw [Int.sub_zero]
  exact aux _
theorem k_tupR {p p2 pos2 : Pos} {ma : ME} (hc : X.calm = true) (hg : Gl X "tuple") (hm : X.mg "tuple" = none) (hg2 : Gl X "range") (hm2 : X.mg "range" = none) (ha : KE X c G0 H0 W a ma) (na : starEach [a] X.env = (false, eval a X.env) :: starEach [] X.env := by rfl)
    (na2 : starEach [.Call (.Name "range" p2) [a] [] pos2] X.env = (false, eval (.Call (.Name "range" p2) [a] [] pos2) X.env) :: starEach [] X.env := by rfl) :
    KE X c G0 H0 W (.Call (.Name "tuple" p) [.Call (.Name "range" p2) [a] [] pos2] [] pos) (m1 tupR1 ma) := pe_imp (pe_tupRg hc hg hm (prg_1 hg2 hm2 ha na) na2) fun σ H Q ⟨env, G, s, R, q⟩ =>
  ⟨env, G, s, R, q.bind fun d s1 v G1 H1 _ e1 qd p1 => by
    cases z : tupR1 d with
    | none => rw [z] at p1; exact False.elim p1
    | some d2 =>
      rw [z] at p1
      unfold tupR1 at z
      split at z
      · split at z
        · rename_i hn
          cases z
          cases qd
          exact ⟨_, rfl, RgOk.of_le (Int.le_refl _) (by omega) (by omega) hn.1, valT (s := s1) e1.sub e1.box rg_numbers p1⟩
        · cases z
      · cases z⟩
end
/-! ### draws -/
def dropZ : Nat → List Int → List Int
  | 0, l => l
  | n + 1, l => if l.head? = some 0 then dropZ n l.tail else dropZ n l
def nextB (b : Int) : Int := (b * 16807 + 41) % 2147483647
def drawS (s : BoxSt) (many : Int) : Int × BoxSt := match dropZ 60 s.cells with
  | rest :: r => (rest % many, ⟨rest / many :: r, s.blend⟩)
  | [] => if 10 ^ 8 < many then ((((nextB s.blend * 2147483647 + nextB (nextB s.blend)) * 2147483647 + nextB (nextB (nextB s.blend))) / 101) % many, ⟨[], nextB (nextB (nextB s.blend))⟩)
    else ((nextB s.blend / 101) % many, ⟨[], nextB s.blend⟩)
def okS (s : BoxSt) : Bool := s.cells.all (fun z => decide (0 ≤ z)) && (decide (s.cells.length ≤ 60) && (decide (0 ≤ s.blend) && decide (s.blend < 2147483647)))
def f_law_draw : List D → BoxSt → Res D := fun ds s => match ds with
  | [.box, .int many] => if 0 < many ∧ many < 2 ^ 64 ∧ okS s = true then .ok (.int (drawS s many).1) (drawS s many).2 else .bad
  | _ => .bad
theorem dropZ_all {p : Int → Bool} : ∀ (n : Nat) (l : List Int), l.all p = true → (dropZ n l).all p = true
  | 0, l, h => h
  | n + 1, l, h => by
    unfold dropZ
    split
    · refine dropZ_all n _ ?_
      cases l with
      | nil => exact h
      | cons x r =>
        rw [List.all_cons, Bool.and_eq_true] at h
        exact h.2
    · exact dropZ_all n _ h
theorem dropZ_len : ∀ (n : Nat) (l : List Int), (dropZ n l).length ≤ l.length
  | 0, l => Nat.le_refl _
  | n + 1, l => by
    unfold dropZ
    split
    · exact Nat.le_trans (dropZ_len n _) (by rw [List.length_tail]; omega)
    · exact dropZ_len n _
theorem nextB_ok (b : Int) : 0 ≤ nextB b ∧ nextB b < 2147483647 := ⟨Int.emod_nonneg _ (by decide), Int.emod_lt_of_pos _ (by decide)⟩
/-- what a draw hands back -/
theorem draw_ok {s : BoxSt} {many : Int} (h : okS s = true) (h1 : 0 < many) (h2 : many < 2 ^ 64) : ∃ r s', f_law_draw [.box, .int many] s = .ok (.int r) s' ∧ okS s' = true ∧ 0 ≤ r ∧ r < many := by
  refine ⟨(drawS s many).1, (drawS s many).2, ?_, ?_, ?_, ?_⟩
  · show (if 0 < many ∧ many < 2 ^ 64 ∧ okS s = true then _ else _) = _
    rw [if_pos ⟨h1, h2, h⟩]
  all_goals
    unfold okS at h
    rw [Bool.and_eq_true, Bool.and_eq_true, Bool.and_eq_true, decide_eq_true_eq, decide_eq_true_eq, decide_eq_true_eq] at h
    obtain ⟨g1, g2, g3, g4⟩ := h
    have d1 := dropZ_all 60 _ g1
    have d2 := dropZ_len 60 s.cells
    unfold drawS
    split
    · rename_i rest r hr
      rw [hr] at d1 d2
      rw [List.all_cons, Bool.and_eq_true, decide_eq_true_eq] at d1
      rw [List.length_cons] at d2
      first
      | exact Int.emod_nonneg _ (Int.ne_of_gt h1)
      | exact Int.emod_lt_of_pos _ h1
      | (unfold okS
         rw [Bool.and_eq_true, Bool.and_eq_true, Bool.and_eq_true, decide_eq_true_eq, decide_eq_true_eq, decide_eq_true_eq]
         refine ⟨?_, by rw [List.length_cons]; omega, g3, g4⟩
         rw [List.all_cons, Bool.and_eq_true, decide_eq_true_eq]
         exact ⟨Int.ediv_nonneg d1.1 (Int.le_of_lt h1), d1.2⟩)
    · split
      · first
        | exact Int.emod_nonneg _ (Int.ne_of_gt h1)
        | exact Int.emod_lt_of_pos _ h1
        | (unfold okS
           rw [Bool.and_eq_true, Bool.and_eq_true, Bool.and_eq_true, decide_eq_true_eq, decide_eq_true_eq, decide_eq_true_eq]
           exact ⟨rfl, Nat.zero_le _, (nextB_ok _).1, (nextB_ok _).2⟩)
      · first
        | exact Int.emod_nonneg _ (Int.ne_of_gt h1)
        | exact Int.emod_lt_of_pos _ h1
        | (unfold okS
           rw [Bool.and_eq_true, Bool.and_eq_true, Bool.and_eq_true, decide_eq_true_eq, decide_eq_true_eq, decide_eq_true_eq]
           exact ⟨rfl, Nat.zero_le _, (nextB_ok _).1, (nextB_ok _).2⟩)
end Kn

end

section
set_option Elab.async false
set_option linter.all false
set_option maxRecDepth 100000
set_option maxHeartbeats 1000000
/-! Kn13: the box's own rules; a law's draw. -/
namespace Kn
open PySem PySem.Spec PyProof.Rows L2
section
variable {X : Cx} {c : Cn} {G0 H0 : Hp} {W : WX} {a b d e o : Expr} {es : List Expr} {pos : Pos}
theorem Ex.cells {G H : Hp} {s : BoxSt} {p : Addr × Addr} {l : List Int} (e : Same G H) (f : ∀ x, Foot c x → G x = none) (b : BoxAt c s H) (hp : c.bx = some p) : Ex c G H G (upd H p.2 (.lst (l.map V.int))) ⟨l, s.blend⟩ := by
  have f2 : Foot c p.2 := ⟨p, hp, .inr rfl⟩
  obtain ⟨b1, b2, b3⟩ := b p hp
  refine ⟨.refl _, fun x u h => ?_, fun x u nf h => ?_, fun x h z => absurd h z, fun q hq => ?_⟩
  · rw [upd_ne (fun z => by rw [z, f _ f2] at h; cases h)]; exact e _ _ h
  · rw [upd_ne (fun z => nf (by rw [z]; exact f2))]; exact h
  · rw [hp] at hq; cases hq
    exact ⟨by rw [upd_ne b3]; exact b1, upd_same, b3⟩
theorem Ex.blend {G H : Hp} {s : BoxSt} {p : Addr × Addr} {k : Int} (e : Same G H) (f : ∀ x, Foot c x → G x = none) (b : BoxAt c s H) (hp : c.bx = some p) : Ex c G H G (upd H p.1 (.lst [.ref p.2, .int k])) ⟨s.cells, k⟩ := by
  have f1 : Foot c p.1 := ⟨p, hp, .inl rfl⟩
  obtain ⟨b1, b2, b3⟩ := b p hp
  refine ⟨.refl _, fun x u h => ?_, fun x u nf h => ?_, fun x h z => absurd h z, fun q hq => ?_⟩
  · rw [upd_ne (fun z => by rw [z, f _ f1] at h; cases h)]; exact e _ _ h
  · rw [upd_ne (fun z => nf (by rw [z]; exact f1))]; exact h
  · rw [hp] at hq; cases hq
    exact ⟨upd_same, by rw [upd_ne (Ne.symm b3)]; exact b2, b3⟩
def hasBox (env : En) : Bool := match (env[0]? : Option Sl) with | some (Sl.sh D.box) => true | _ => false
theorem box_at {env : En} {σ : L2.St} {G H : Hp} {s : BoxSt} (R : Rel c G0 H0 env σ G H s) (h : hasBox env = true) : ∃ p, c.bx = some p ∧ σ[0]? = some (some (.ref p.1)) := by
  obtain ⟨ad, h1, _⟩ := R.ad
  unfold hasBox at h
  split at h
  · rename_i z
    obtain ⟨w, q1, q2⟩ := h1 0 _ z
    cases q2 with
    | box hp => exact ⟨_, hp, q1⟩
  · cases h
/-- something of the box -/
def bxE (f : BoxSt → Option D) : ME := fun env s => if hasBox env = true then ofO (f s) s else .bad
abbrev bx0 (nb n0 : Pos) (j : Nat) (ps : Pos) : Expr := .Subscript (.Name "box" nb) (.Constant (.int 0) j n0) ps
theorem at0 {α : Type} (x : α) (r : List α) : atI (x :: r) 0 = some x := by
  unfold atI ixN
  rw [if_pos (by decide), if_pos (by rw [List.length_cons]; omega)]
  rfl
theorem at1 {α : Type} (x y : α) : atI [x, y] 1 = some y := rfl
theorem k_b1 {nb n0 ps : Pos} {j : Nat} (hx : PE X (.Name "box" nb) (tVar 0)) : KE X c G0 H0 W (.Subscript (.Name "box" nb) (.Constant (.int 1) j n0) ps) (bxE fun s => some (.int s.blend)) := pe_imp (pe_ix ix_list hx pe_int (fun _ _ => rfl)) fun σ H Q ⟨env, G, s, R, q⟩ => by
  unfold bxE at q
  by_cases h : hasBox env = true
  · rw [if_pos h] at q
    obtain ⟨p, hp, hs⟩ := box_at R h
    obtain ⟨b1, b2, b3⟩ := R.ex.box p hp
    exact ⟨_, hs, p.1, _, 1, .int s.blend, rfl, rfl, SqL.of b1, at1 _ _, q _ G H (.refl R.ex.sub R.ex.box) (.int _)⟩
  · rw [if_neg h] at q; exact False.elim q
theorem k_bhd {nb n0 n1 ps ps2 : Pos} {j j2 : Nat} (hx : PE X (.Name "box" nb) (tVar 0)) : KE X c G0 H0 W (.Subscript (bx0 nb n0 j ps) (.Constant (.int 0) j2 n1) ps2) (bxE fun s => s.cells.head?.map .int) := pe_imp (pe_ix ix_list (pe_ix ix_list hx pe_int (fun _ _ => rfl)) pe_int (fun _ _ => rfl)) fun σ H Q ⟨env, G, s, R, q⟩ => by
  unfold bxE at q
  by_cases h : hasBox env = true
  · rw [if_pos h] at q
    obtain ⟨p, hp, hs⟩ := box_at R h
    obtain ⟨b1, b2, b3⟩ := R.ex.box p hp
    have q2 : Post c G H (Dd c) (ofO (s.cells.head?.map D.int) s) (fun cl dd H' => W cl dd σ H') Q := q
    clear q
    have q := q2
    cases hc : s.cells with
    | nil => rw [hc] at q; exact False.elim q
    | cons z r =>
      rw [hc] at q b2
      exact ⟨_, hs, p.1, _, 0, .ref p.2, rfl, rfl, SqL.of b1, at0 _ _, p.2, _, 0, .int z, rfl, rfl, SqL.of b2, at0 _ _, q _ G H (.refl R.ex.sub R.ex.box) (.int _)⟩
  · rw [if_neg h] at q; exact False.elim q
theorem dp_ints {K : PySem.W.Frag} {H : Hp} : ∀ l : List Int, DpAll K H (l.map V.int) (l.map PyData.int)
  | [] => .nil
  | x :: r => .cons (.int x) (dp_ints r)
theorem plain_ints : ∀ l : List Int, (PyData.list (l.map PyData.int)).plain = true := by
  intro l
  have h : ∀ l : List Int, PyData.plainAll (l.map PyData.int) = true := by
    intro l
    induction l with
    | nil => rfl
    | cons x r ih => rw [List.map_cons]; unfold PyData.plainAll; rw [ih]; rfl
  exact h l
theorem eqv_nil (l : List Int) : PyData.eqv (.list (l.map PyData.int)) (.list []) = decide (l = []) := by
  cases l with
  | nil => rfl
  | cons x r => rfl
theorem k_bne {nb n0 ps p2 p3 : Pos} {j : Nat} (hu : X.A.units + 64 < cLine) (hx : PE X (.Name "box" nb) (tVar 0)) (hK : X.K = c.st.K := by rfl) : KT X c G0 H0 W (.Compare (bx0 nb n0 j ps) [.NotEq] [.List [] p2] p3) (mTest (bxE fun s => some (.bl (!decide (s.cells = []))))) :=
  pt_imp (pt_cmpR (op_neP hu) (pe_ix ix_list hx pe_int (fun _ _ => rfl)) (pe_lst pa_nil) (nomark _)) (l_test fun σ H Q ⟨env, G, s, R, q⟩ => by
    unfold bxE at q
    by_cases h : hasBox env = true
    · rw [if_pos h] at q
      obtain ⟨p, hp, hs⟩ := box_at R h
      obtain ⟨b1, b2, b3⟩ := R.ex.box p hp
      refine ⟨_, hs, p.1, _, 0, .ref p.2, rfl, rfl, SqL.of b1, at0 _ _, Nat.zero_le _, fun l hl => ?_⟩
      have e2 : Ex c G H (upd G l (.lst [])) (upd H l (.lst [])) s := .new R.ex.sub R.ex.box hl
      refine ⟨.list (s.cells.map PyData.int), .list [], ?_, ?_, plain_ints _, rfl, by rw [show (PyData.list []).depth = 1 from rfl]; omega, ?_⟩
      · exact .lst (SqL.of (by rw [upd_ne (ne_of_none b2 hl)]; exact b2)) (dp_ints _)
      · exact .lst (SqL.of upd_same) .nil
      · rw [eqv_nil]
        exact q _ _ _ e2 (.bl _)
    · rw [if_neg h] at q; exact False.elim q)
/-- box[0].pop(0) -/
def mBpop : ME := fun env s => if hasBox env = true then (match s.cells with | x :: r => .ok (.int x) ⟨r, s.blend⟩ | [] => .bad) else .bad
theorem k_bpop {nb n0 ps apos n1 p2 : Pos} {j j2 : Nat} (hx : PE X (.Name "box" nb) (tVar 0))
    (hp : ∀ {to : TE} {t : TA}, PE X (bx0 nb n0 j ps) to → PA X [.Constant (.int 0) j2 n1] t → PE X (.Call (.Attribute (bx0 nb n0 j ps) "pop" apos) [.Constant (.int 0) j2 n1] [] p2) (tBM X.K "list" rPopAt to t))
    (hst : starEach [.Constant (.int 0) j2 n1] X.env = (false, eval (.Constant (.int 0) j2 n1) X.env) :: starEach [] X.env := by rfl) :
    KE X c G0 H0 W (.Call (.Attribute (bx0 nb n0 j ps) "pop" apos) [.Constant (.int 0) j2 n1] [] p2) mBpop := pe_imp (hp (pe_ix ix_list hx pe_int (fun _ _ => rfl)) (pa_cons pe_int pa_nil hst)) fun σ H Q ⟨env, G, s, R, q⟩ => by
  unfold mBpop at q
  by_cases h : hasBox env = true
  · rw [if_pos h] at q
    obtain ⟨p, hp, hs⟩ := box_at R h
    obtain ⟨b1, b2, b3⟩ := R.ex.box p hp
    cases hc : s.cells with
    | nil => rw [hc] at q; exact False.elim q
    | cons z r =>
      rw [hc] at q b2
      have e2 : Ex c G H G (upd H p.2 (.lst (r.map V.int))) ⟨r, s.blend⟩ := .cells R.ex.sub R.foot R.ex.box hp
      refine ⟨_, hs, p.1, _, 0, .ref p.2, rfl, rfl, SqL.of b1, at0 _ _, .inl ⟨rfl, _, SqL.of b2⟩, p.2, _, 0, 0, .int z, rfl, rfl, b2, by decide, by decide, ?_, rfl, q _ G _ e2 (.int _)⟩
      unfold seqIndex?
      rw [List.map_cons, List.length_cons]
      simp
  · rw [if_neg h] at q; exact False.elim q
/-- box[0].insert(0, e) -/
def mBins (a : ME) : MS := fun env s => if hasBox env = true then after env (a env s) (fun d s1 => match d with | .int z => if s1.cells.length ≤ 100 then .nx env ⟨z :: s1.cells, s1.blend⟩ else .bad | _ => .bad) else .bad
theorem s_bins {nb n0 ps apos n1 p2 p4 : Pos} {j j2 : Nat} {ma : ME} (hx : PE X (.Name "box" nb) (tVar 0)) (ha : KE X c G0 H0 W e ma)
    (hp : ∀ {to : TE} {t : TA}, PE X (bx0 nb n0 j ps) to → PA X [.Constant (.int 0) j2 n1, e] t → PE X (.Call (.Attribute (bx0 nb n0 j ps) "insert" apos) [.Constant (.int 0) j2 n1, e] [] p2) (tBM X.K "list" (fun x vs H Q => ∃ (l : Addr) (xs : List V) (i : Int) (y : V), x = .ref l ∧ vs = [.int i, y] ∧ H l = some (.lst xs) ∧ xs.length < sizeLine ∧ 0 ≤ i ∧ i < 2 ^ 63 ∧ Q .non (upd H l (.lst (xs.take i.toNat ++ [y] ++ xs.drop i.toNat)))) to t))
    (hst : starEach [.Constant (.int 0) j2 n1, e] X.env = (false, eval (.Constant (.int 0) j2 n1) X.env) :: starEach [e] X.env := by rfl) (hst2 : starEach [e] X.env = (false, eval e X.env) :: starEach [] X.env := by rfl)
    (hsw : swapsWith (.Call (.Attribute (bx0 nb n0 j ps) "insert" apos) [.Constant (.int 0) j2 n1, e] [] p2) none p4.line X.env = pure false := by rfl) :
    KS X c G0 H0 W (.Expr (.Call (.Attribute (bx0 nb n0 j ps) "insert" apos) [.Constant (.int 0) j2 n1, e] [] p2) p4) (mBins ma) := ps_imp (ps_expr (hp (pe_ix ix_list hx pe_int (fun _ _ => rfl)) (pa_cons pe_int (pa_cons ha pa_nil hst2) hst)) hsw) fun E σ H ⟨env, G, s, R, q⟩ => by
  unfold mBins at q
  by_cases h : hasBox env = true
  · rw [if_pos h] at q
    obtain ⟨p, hp, hs⟩ := box_at R h
    obtain ⟨b1, b2, b3⟩ := R.ex.box p hp
    refine ⟨_, hs, p.1, _, 0, .ref p.2, rfl, rfl, SqL.of b1, at0 _ _, .inl ⟨rfl, _, SqL.of b2⟩, env, G, s, R, after_post R q fun d s1 v G1 H1 _ e1 qv p1 => ?_⟩
    have R1 := R.step e1
    obtain ⟨c1, c2, c3⟩ := e1.box p hp
    cases d with
    | int z =>
      cases qv
      have p2 : SPost c G0 H0 G1 (if s1.cells.length ≤ 100 then .nx env ⟨z :: s1.cells, s1.blend⟩ else .bad) W E := p1
      by_cases hl : s1.cells.length ≤ 100
      · rw [if_pos hl] at p2
        have e2 : Ex c G1 H1 G1 (upd H1 p.2 (.lst ((z :: s1.cells).map V.int))) ⟨z :: s1.cells, s1.blend⟩ := .cells e1.sub R1.foot e1.box hp
        exact ⟨p.2, _, 0, .int z, rfl, rfl, c2, Nat.lt_of_le_of_lt (by rw [List.length_map]; exact hl) (by decide), by decide, by decide, p2 σ G1 _ (R1.step e2) (.refl _)⟩
      · rw [if_neg hl] at p2; exact False.elim p2
    | _ => exact False.elim p1
  · rw [if_neg h] at q; exact False.elim q
/-- box[1] = e -/
def mBset (a : ME) : MS := fun env s => if hasBox env = true then after env (a env s) (fun d s1 => match d with | .int z => .nx env ⟨s1.cells, z⟩ | _ => .bad) else .bad
theorem s_bset {nb n0 ps pos : Pos} {j : Nat} {ma : ME} (hx : PE X (.Name "box" nb) (tVar 0)) (ha : KE X c G0 H0 W e ma)
    (hs : swapsWithSole [.Subscript (.Name "box" nb) (.Constant (.int 1) j n0) ps] e pos.line X.env = pure false := by rfl) (hw : swappedStores [.Subscript (.Name "box" nb) (.Constant (.int 1) j n0) ps] e X.env = pure none := by rfl) (h1 : List.map (fun x => x.snd) (assignEach [.Subscript (.Name "box" nb) (.Constant (.int 1) j n0) ps] X.env) = [assign (.Subscript (.Name "box" nb) (.Constant (.int 1) j n0) ps) X.env] := by rfl) :
    KS X c G0 H0 W (.Assign [.Subscript (.Name "box" nb) (.Constant (.int 1) j n0) ps] e pos) (mBset ma) := ps_imp (ps_asg ha (pg_sub hx pe_int set_list) hs hw h1) fun E σ H ⟨env, G, s, R, q⟩ => by
  unfold mBset at q
  by_cases h : hasBox env = true
  · rw [if_pos h] at q
    refine ⟨env, G, s, R, after_post R q fun d s1 v G1 H1 _ e1 qv p1 => ?_⟩
    have R1 := R.step e1
    obtain ⟨p, hp, hs⟩ := box_at R1 h
    obtain ⟨c1, c2, c3⟩ := e1.box p hp
    cases d with
    | int z =>
      cases qv
      exact ⟨_, hs, p.1, _, 1, 1, rfl, rfl, c1, rfl, p1 σ G1 _ (R1.step (.blend e1.sub R1.foot e1.box hp)) (.refl _)⟩
    | _ => exact False.elim p1
  · rw [if_neg h] at q; exact False.elim q
/-- //, % of a divisor above 0 -/
def divI : D → D → Option D := int2c (fun _ j => decide (0 < j ∧ j < 2 ^ 64)) fun i j => .int (i / j)
def modI : D → D → Option D := int2c (fun _ j => decide (0 < j)) fun i j => .int (i % j)
theorem v_div : V2 c (rI CDivW fun i j => .int (i / j)) divI := v_I (fun _ _ => .int _) fun i j h => by
  obtain ⟨h1, h2⟩ := of_decide_eq_true h
  refine ⟨h1, Nat.lt_of_lt_of_le ((Nat.log2_lt (k := 64) (by omega)).mpr (by omega)) (by decide)⟩
theorem v_mod : V2 c (rI (fun _ j => 0 < j) fun i j => .int (i % j)) modI := v_I (fun _ _ => .int _) fun i j h => of_decide_eq_true h
theorem Cal.imp {P : Program} {w : World} {K : PySem.W.Frag} {mg : Str → Option Value} {base : Heap} {t : Sc} {k : Nat} {x : Str} {ps : List Str} {f f' : List D → BoxSt → Res D} (C : Cal P w K mg base t k x ps f) (h : ∀ ds s, f' ds s ≠ .bad → f ds s = f' ds s) : Cal P w K mg base t k x ps f' := by
  obtain ⟨fa, fd, F, h1, h2, h3, h4⟩ := C.ex
  refine ⟨fa, fd, F.imp fun vs H Q E ⟨bx, G, ds, s, a1, a2, a3, a4, p⟩ => ⟨bx, G, ds, s, a1, a2, a3, a4, ?_⟩, h1, h2, h3, h4⟩
  rw [h ds s p.nb]; exact p
def absO (l : List D) : Option D := match l with | [.int i] => some (.int (if i < 0 then -i else i)) | _ => none
theorem v_abs : VC c (fun xs H Q => ∃ i, xs = [.int i] ∧ Q (.int (if i < 0 then -i else i)) H) absO := fun {G H s xs ds d Q} e b hx hg k => by
  unfold absO at hg
  split at hg
  · cases hx with
    | cons h r =>
      cases r
      cases h
      cases hg
      exact ⟨_, rfl, val e b (.int _) k⟩
  · cases hg
theorem bt_abs : bootBuiltins "abs" = some (.builtin "abs") := by decide +kernel
end
end Kn

end

section
set_option Elab.async false
set_option linter.all false
set_option maxRecDepth 100000
set_option maxHeartbeats 4000000
/-! the mirrors of the defs -/
namespace Kn
open PySem
def b_law_draw : MS := mSeq (mFor (gN 2) (mItA rangeO (mCons (mC (.int 60)) (mNil))) (mSeq (mIfS (mAnd (mTest (bxE fun s => some (.bl (!decide (s.cells = []))))) (mTest (m2 eqO (bxE fun s => s.cells.head?.map .int) (mC (.int 0))))) (mSeq (mDrop (mBpop)) (mNext)) (mNext)) (mNext))) (mSeq (mIfS (mTest (bxE fun s => some (.bl (!decide (s.cells = []))))) (mSeq (mAsg 4 (mCall intO (mCons (mBpop) (mNil)))) (mSeq (mBins (m2 divI (mVar 4) (mVar 1))) (mSeq (mRet (m2 modI (mCall intO (mCons (mVar 4) (mNil))) (mVar 1))) (mNext)))) (mNext)) (mSeq (mBset (m2 modI (mCall intO (mCons (m2 addO (m2 mulA (bxE fun s => some (.int s.blend)) (mC (.int 16807))) (mC (.int 41))) (mNil))) (mC (.int 2147483647)))) (mSeq (mAsg 3 (bxE fun s => some (.int s.blend))) (mSeq (mFor (gN 2) (mItA rangeO (mCons (mC (.int 2)) (mNil))) (mSeq (mIfS (mTest (m2 gtI (mVar 1) (mC (.int (10 ^ 8))))) (mSeq (mBset (m2 modI (mCall intO (mCons (m2 addO (m2 mulA (bxE fun s => some (.int s.blend)) (mC (.int 16807))) (mC (.int 41))) (mNil))) (mC (.int 2147483647)))) (mSeq (mAsg 3 (m2 addO (m2 mulA (mVar 3) (mC (.int 2147483647))) (bxE fun s => some (.int s.blend)))) (mNext))) (mNext)) (mNext))) (mSeq (mRet (m2 modI (mCall intO (mCons (m2 divI (mVar 3) (mC (.int 101))) (mNil))) (mVar 1))) (mNext))))))
def e_law_box : ME := mCall absO (mCons (mCall intO (mCons (mVar 3) (mNil))) (mNil))
def b_law_box : MS := mSeq (mAsg 2 (mC (.int 77023))) (mSeq (mShare 1) (mSeq (mFor (gN 3) (mIt (mVar 1)) (mSeq (mAsg 2 (m2 modI (mCall intO (mCons (m2 addO (m2 addO (m2 mulA (mVar 2) (mC (.int 16807))) (m2 modI (mCall intO (mCons (mVar 3) (mNil))) (mC (.int 2147483563)))) (mC (.int 59))) (mNil))) (mC (.int 2147483647)))) (mNext))) (mSeq (mRet (mOf (mLst (mCons (mOf (mLc [3] (gN 3) (mIt (mVar 1)) (mTest (m2 geI (mVar 3) (mC (.int (10 ^ 18))))) (mVar 3))) (mCons (mVar 2) (mNil)))))) (mNext))))
def b_is_integer : MS := mSeq (mRet (mAndV (m1 (isiO isInt) (mVar 0)) (mNotV (m1 (isiO isBool) (mVar 0))))) (mNext)
def f_is_integer : List D → BoxSt → Res D := mDef 1 1 b_is_integer
def b_is_number : MS := mSeq (mRet (mAndV (mFn f_is_integer (mCons (mVar 0) (mNil))) (m2 geI (mVar 0) (mC (.int 0))))) (mNext)
def f_is_number : List D → BoxSt → Res D := mDef 1 1 b_is_number
def b_is_below : MS := mSeq (mRet (mAndV (mFn f_is_integer (mCons (mVar 0) (mNil))) (mChain leI ltI (mC (.int 0)) (mVar 0) (mVar 1)))) (mNext)
def f_is_below : List D → BoxSt → Res D := mDef 2 2 b_is_below
def b_is_sequence : MS := mSeq (mRet (m1 (isi2O isList isTuple) (mVar 0))) (mNext)
def f_is_sequence : List D → BoxSt → Res D := mDef 1 1 b_is_sequence
def b_is_row : MS := mSeq (mRet (mAndV (mFn f_is_sequence (mCons (mVar 0) (mNil))) (m2 eqO (mCall lenO (mCons (mVar 0) (mNil))) (mVar 1)))) (mNext)
def f_is_row : List D → BoxSt → Res D := mDef 2 2 b_is_row
def b_is_told_row : MS := mSeq (mRet (mAndV (m1 (isiO isTuple) (mVar 0)) (mCall allO (mCons (mOf (mLc [2] (gN 2) (mIt (mVar 0)) (mYes) (mFn f_is_below (mCons (mVar 2) (mCons (mVar 1) (mNil)))))) (mNil))))) (mNext)
def f_is_told_row : List D → BoxSt → Res D := mDef 3 2 b_is_told_row
def b_is_lot : MS := mSeq (mIfS (mNot (mTest (mFn f_is_told_row (mCons (mVar 0) (mCons (mVar 1) (mNil)))))) (mSeq (mRet (mC (.bl false))) (mNext)) (mNext)) (mSeq (mRet (mCall allO (mCons (mOf (mLc [2, 3] (gU [2, 3]) (mItA zipO (mCons (mVar 0) (mCons (mSl (mVar 0) (mSomeO (mC (.int 1))) (mNoO)) (mNil)))) (mYes) (m2 ltI (mVar 2) (mVar 3)))) (mNil)))) (mNext))
def f_is_lot : List D → BoxSt → Res D := mDef 4 2 b_is_lot
def b_integer_of : MS := mSeq (mIfS (mOr (mNot (mTest (mChain leI leI (mC (.int 1)) (mCall lenO (mCons (mVar 0) (mNil))) (mC (.int 40))))) (mNot (mTest (mCall allO (mCons (mOf (mLc [1] (gN 1) (mIt (mVar 0)) (mYes) (m2 inSign (mVar 1) (mC (.str ("0123456789" : PySem.Str)))))) (mNil)))))) (mSeq (mRet (mC .non)) (mNext)) (mNext)) (mSeq (mIfS (mAnd (mTest (m2 eqO (m2 ixO (mVar 0) (mC (.int 0))) (mC (.str ("0" : PySem.Str))))) (mTest (m2 neO (mVar 0) (mC (.str ("0" : PySem.Str)))))) (mSeq (mRet (mC .non)) (mNext)) (mNext)) (mSeq (mRet (mCall intO (mCons (mVar 0) (mNil)))) (mNext)))
def f_integer_of : List D → BoxSt → Res D := mDef 2 1 b_integer_of
def b_integers_of : MS := mSeq (mAsgO 1 (mLc [2] (gN 2) (mIt (mVar 0)) (mYes) (mFn f_integer_of (mCons (mVar 2) (mNil))))) (mSeq (mShare 1) (mSeq (mIfS (mTest (mCall anyO (mCons (mOf (mLc [3] (gN 3) (mIt (mVar 1)) (mYes) (m2 isN (mVar 3) (mC .non)))) (mNil)))) (mSeq (mRet (mC .non)) (mNext)) (mNext)) (mSeq (mRet (mCall tupleO (mCons (mVar 1) (mNil)))) (mNext))))
def f_integers_of : List D → BoxSt → Res D := mDef 4 1 b_integers_of
def b_rows_of : MS := mSeq (mIfS (mNot (mTest (m1 (isiO isStr) (mVar 0)))) (mSeq (mRaise ("InvalidText" : PySem.Str) (m1 negI (mC (.int 1)))) (mNext)) (mNext)) (mSeq (mRet (mOf (mStr1N splitO (mVar 0) (mC (.str ("\n" : PySem.Str)))))) (mNext))
def f_rows_of : List D → BoxSt → Res D := mDef 1 1 b_rows_of
def b_row_text : MS := mSeq (mRet (mStr1 joinO (mC (.str (" " : PySem.Str))) (mOf (m2N catL (mOf (mLst (mCons (mVar 0) (mNil)))) (mOf (mLc [2] (gN 2) (mIt (mVar 1)) (mYes) (mCall strO (mCons (mVar 2) (mNil))))))))) (mNext)
def f_row_text : List D → BoxSt → Res D := mDef 3 2 b_row_text
def b_numbers_at : MS := mSeq (mIfS (mTest (m2 geI (mVar 1) (mCall lenO (mCons (mVar 0) (mNil))))) (mSeq (mRaise ("InvalidText" : PySem.Str) (mVar 1)) (mNext)) (mNext)) (mSeq (mAsg 3 (mOf (mStr1N splitO (m2 ixO (mVar 0) (mVar 1)) (mC (.str (" " : PySem.Str)))))) (mSeq (mAsg 4 (mFn f_integers_of (mCons (mSl (mVar 3) (mSomeO (mC (.int 1))) (mNoO)) (mNil)))) (mSeq (mIfS (mOr (mTest (m2 neO (m2 ixO (mVar 3) (mC (.int 0))) (mVar 2))) (mTest (m2 isN (mVar 4) (mC .non)))) (mSeq (mRaise ("InvalidText" : PySem.Str) (mVar 1)) (mNext)) (mNext)) (mSeq (mRet (mVar 4)) (mNext)))))
def f_numbers_at : List D → BoxSt → Res D := mDef 5 3 b_numbers_at
def b_is_told_deed : MS := mSeq (mIfS (mOr (mNot (mTest (mFn f_is_row (mCons (mVar 0) (mCons (mC (.int 2)) (mNil)))))) (mOr (mNot (mTest (mFn f_is_number (mCons (m2 ixO (mVar 0) (mC (.int 0))) (mNil))))) (mNot (mTest (mFn f_is_sequence (mCons (m2 ixO (mVar 0) (mC (.int 1))) (mNil))))))) (mSeq (mRet (mC (.bl false))) (mNext)) (mNext)) (mSeq (mRet (mAndV (mCall allO (mCons (mOf (mLc [1] (gN 1) (mIt (m2 ixO (mVar 0) (mC (.int 1)))) (mYes) (mFn f_is_number (mCons (mVar 1) (mNil))))) (mNil))) (mFn f_is_lot (mCons (mCall tupleO (mCons (m2 ixO (mVar 0) (mC (.int 1))) (mNil))) (mCons (m2 addO (m2 maxO (m2 ixO (mVar 0) (mC (.int 1))) (mC (.int 0))) (mC (.int 1))) (mNil)))))) (mNext))
def f_is_told_deed : List D → BoxSt → Res D := mDef 2 1 b_is_told_deed
def b_course_text : MS := mSeq (mIfS (mOr (mNot (mTest (mFn f_is_sequence (mCons (mVar 0) (mNil))))) (mTest (m2 gtI (mCall lenO (mCons (mVar 0) (mNil))) (mC (.int 400))))) (mSeq (mRaise ("InvalidCourse" : PySem.Str) (m1 negI (mC (.int 1)))) (mNext)) (mNext)) (mSeq (mFor (gU [1, 2]) (mItA enumO2 (mCons (mVar 0) (mNil))) (mSeq (mIfS (mNot (mTest (mFn f_is_told_deed (mCons (mVar 2) (mNil))))) (mSeq (mRaise ("InvalidCourse" : PySem.Str) (mVar 1)) (mNext)) (mNext)) (mNext))) (mSeq (mRet (mStr1 joinO (mC (.str ("\n" : PySem.Str))) (mOf (mLc [3, 4] (gU [3, 4]) (mIt (mVar 0)) (mYes) (mFn f_row_text (mCons (mC (.str ("ask" : PySem.Str))) (mCons (mOf (m2N catL (mOf (mLst (mCons (mVar 3) (mNil)))) (mOf (mCallN listO (mCons (mVar 4) (mNil)))))) (mNil)))))))) (mNext)))
def f_course_text : List D → BoxSt → Res D := mDef 5 1 b_course_text
def b_read_course : MS := mSeq (mAsg 1 (mFn f_rows_of (mCons (mVar 0) (mNil)))) (mSeq (mIfS (mTest (m2 eqO (mVar 1) (mOf (mLst (mCons (mC (.str ("" : PySem.Str))) (mNil)))))) (mSeq (mRet (mTup (mNil))) (mNext)) (mNext)) (mSeq (mAsgO 2 (mLst (mNil))) (mSeq (mFor (gN 3) (mItA rangeO (mCons (mCall lenO (mCons (mVar 1) (mNil))) (mNil))) (mSeq (mAsg 4 (mFn f_numbers_at (mCons (mVar 1) (mCons (mVar 3) (mCons (mC (.str ("ask" : PySem.Str))) (mNil)))))) (mSeq (mIfS (mOr (mTest (m2 eqO (mVar 3) (mC (.int 400)))) (mOr (mTest (m2 eqO (mCall lenO (mCons (mVar 4) (mNil))) (mC (.int 0)))) (mNot (mTest (mFn f_is_told_deed (mCons (mTup (mCons (m2 ixO (mVar 4) (mC (.int 0))) (mCons (mSl (mVar 4) (mSomeO (mC (.int 1))) (mNoO)) (mNil)))) (mNil))))))) (mSeq (mRaise ("InvalidText" : PySem.Str) (mVar 3)) (mNext)) (mNext)) (mSeq (mApp 2 (mTup (mCons (m2 ixO (mVar 4) (mC (.int 0))) (mCons (mSl (mVar 4) (mSomeO (mC (.int 1))) (mNoO)) (mNil))))) (mNext))))) (mSeq (mShare 2) (mSeq (mRet (mCall tupleO (mCons (mVar 2) (mNil)))) (mNext))))))
def f_read_course : List D → BoxSt → Res D := mDef 5 1 b_read_course
def b_law_pick : MS := mSeq (mRet (m2 ixO (mVar 1) (mFn f_law_draw (mCons (mVar 0) (mCons (mCall lenO (mCons (mVar 1) (mNil))) (mNil)))))) (mNext)
def f_law_pick : List D → BoxSt → Res D := mDef 2 2 b_law_pick
def b_law_tells : MS := mSeq (mRet (mIf (mTest (mVar 1)) (m2 isB (mVar 0) (mC (.bl true))) (m2 isB (mVar 0) (mC (.bl false))))) (mNext)
def f_law_tells : List D → BoxSt → Res D := mDef 2 2 b_law_tells
def b_law_is_int : MS := mSeq (mRet (mAndV (m1 (isiO isInt) (mVar 0)) (mNotV (m1 (isiO isBool) (mVar 0))))) (mNext)
def f_law_is_int : List D → BoxSt → Res D := mDef 1 1 b_law_is_int
def b_law_place : MS := mSeq (mRet (mIf (mOr (mTest (mFn f_law_is_int (mCons (mVar 0) (mNil)))) (mTest (m1 (isiO isStr) (mVar 0)))) (mVar 0) (mTup (mCons (mC (.str ("no place" : PySem.Str))) (mNil))))) (mNext)
def f_law_place : List D → BoxSt → Res D := mDef 1 1 b_law_place
def b_law_same (F : List D → BoxSt → Res D) : MS := mSeq (mIfS (mTest (m1 (isiO isTuple) (mVar 1))) (mSeq (mIfS (mOr (mNot (mTest (m1 (isiO isTuple) (mVar 0)))) (mTest (m2 neO (mCall lenO (mCons (mVar 0) (mNil))) (mCall lenO (mCons (mVar 1) (mNil)))))) (mSeq (mRet (mC (.bl false))) (mNext)) (mNext)) (mSeq (mRet (m2 eqO (mOf (mLc [2] (gN 2) (mItA rangeO (mCons (mCall lenO (mCons (mVar 1) (mNil))) (mNil))) (mNot (mTest (mFn F (mCons (m2 ixO (mVar 0) (mVar 2)) (mCons (m2 ixO (mVar 1) (mVar 2)) (mNil)))))) (mVar 2))) (mOf (mLst (mNil))))) (mNext))) (mNext)) (mSeq (mIfS (mTest (m2 isN (mVar 1) (mC .non))) (mSeq (mRet (m2 isN (mVar 0) (mC .non))) (mNext)) (mNext)) (mSeq (mIfS (mTest (m1 (isiO isBool) (mVar 1))) (mSeq (mRet (mFn f_law_tells (mCons (mVar 0) (mCons (mVar 1) (mNil))))) (mNext)) (mNext)) (mSeq (mIfS (mTest (m1 (isiO isStr) (mVar 1))) (mSeq (mRet (mAndV (m1 (isiO isStr) (mVar 0)) (m2 eqO (mVar 0) (mVar 1)))) (mNext)) (mNext)) (mSeq (mRet (mAndV (mFn f_law_is_int (mCons (mVar 0) (mNil))) (m2 eqO (mVar 0) (mVar 1)))) (mNext)))))
def f_law_same : Nat → List D → BoxSt → Res D
  | 0 => fun _ _ => .bad
  | n + 1 => mDef 3 2 (b_law_same (f_law_same n))
def b_law_row_text : MS := mSeq (mRet (mStr1 joinO (mC (.str (" " : PySem.Str))) (mOf (m2N catL (mOf (mLst (mCons (mVar 0) (mNil)))) (mOf (mLc [2] (gN 2) (mIt (mVar 1)) (mYes) (mCall strO (mCons (mVar 2) (mNil))))))))) (mNext)
def f_law_row_text : List D → BoxSt → Res D := mDef 3 2 b_law_row_text
def b_law_bad_word : MS := mSeq (mRet (mFn f_law_pick (mCons (mVar 0) (mCons (mOf (mLst (mCons (m2 addO (mC (.str ("+" : PySem.Str))) (mVar 1)) (mCons (m2 addO (mC (.str ("0" : PySem.Str))) (mVar 1)) (mCons (m2 addO (mVar 1) (mC (.str (".0" : PySem.Str)))) (mCons (m2 addO (mVar 1) (mC (.str ("_0" : PySem.Str)))) (mCons (m2 addO (mC (.str ("-" : PySem.Str))) (mVar 1)) (mCons (mC (.str ("" : PySem.Str))) (mCons (m2 addO (mC (.str ("x" : PySem.Str))) (mVar 1)) (mCons (m2 addO (mVar 1) (mC (.str ("-" : PySem.Str)))) (mCons (m2 mulA (mC (.str ("1" : PySem.Str))) (mC (.int 41))) (mCons (mC (.str ("-0" : PySem.Str))) (mCons (mC (.str ("0x1" : PySem.Str))) (mCons (mC (.str ("1e1" : PySem.Str))) (mCons (mC (.str ("zero" : PySem.Str))) (mCons (mC (.str ("00" : PySem.Str))) (mCons (mC (.str ("-1" : PySem.Str))) (mCons (mC (.str ("- 1" : PySem.Str))) (mNil))))))))))))))))))) (mNil))))) (mNext)
def f_law_bad_word : List D → BoxSt → Res D := mDef 2 2 b_law_bad_word
def b_law_bad_form : MS := mSeq (mAsg 2 (mOf (mLst (mCons (m2 addO (mVar 1) (mC (.str (" " : PySem.Str)))) (mCons (m2 addO (mC (.str (" " : PySem.Str))) (mVar 1)) (mCons (m2 addO (mStr0 upperO (mVar 1)) (mC (.str ("A" : PySem.Str)))) (mCons (m2 addO (mVar 1) (mC (.str (" x" : PySem.Str)))) (mCons (mC (.str ("" : PySem.Str))) (mCons (m2 addO (mVar 1) (mC (.str ("\t" : PySem.Str)))) (mCons (m2 addO (mC (.str ("s" : PySem.Str))) (mVar 1)) (mCons (m2 addO (m2 addO (mVar 1) (mC (.str (" 1" : PySem.Str)))) (m2 mulA (mC (.str ("0" : PySem.Str))) (mC (.int 40)))) (mCons (m2 addO (mStr0 (replO (" " : PySem.Str) ("\t" : PySem.Str)) (mVar 1)) (mC (.str ("\t" : PySem.Str)))) (mCons (m2 addO (mStr0 (replO (" " : PySem.Str) ("  " : PySem.Str)) (mVar 1)) (mC (.str ("  " : PySem.Str)))) (mCons (mC (.str ("x" : PySem.Str))) (mCons (mC (.str ("-" : PySem.Str))) (mNil)))))))))))))))) (mSeq (mRet (mFn f_law_pick (mCons (mVar 0) (mCons (mVar 2) (mNil))))) (mNext))
def f_law_bad_form : List D → BoxSt → Res D := mDef 3 2 b_law_bad_form
def b_law_read : MS := mSeq (mTry ("InvalidText" : PySem.Str) 1 (mSeq (mRet (mTup (mCons (mC (.str ("read" : PySem.Str))) (mCons (mFn f_read_course (mCons (mVar 0) (mNil))) (mNil))))) (mNext)) ("text" : PySem.Str) f_law_place) (mNext)
def f_law_read : List D → BoxSt → Res D := mDef 2 1 b_law_read
def b_law_written : MS := mSeq (mTry ("InvalidCourse" : PySem.Str) 1 (mSeq (mRet (mTup (mCons (mC (.str ("text" : PySem.Str))) (mCons (mFn f_course_text (mCons (mVar 0) (mNil))) (mNil))))) (mNext)) ("course" : PySem.Str) f_law_place) (mNext)
def f_law_written : List D → BoxSt → Res D := mDef 2 1 b_law_written
def b_law_deed : MS := mSeq (mAsg 1 (mFn f_law_pick (mCons (mVar 0) (mCons (mOf (mLst (mCons (mC (.int 6)) (mCons (mC (.int 6)) (mCons (mC (.int 6)) (mCons (mC (.int 1000)) (mCons (mC (.int (10 ^ 18))) (mNil)))))))) (mNil))))) (mSeq (mParO 3 4 (mLst (mNil)) (mFn f_law_draw (mCons (mVar 0) (mCons (mFn f_law_pick (mCons (mVar 0) (mCons (mOf (mLst (mCons (mC (.int 2)) (mCons (mC (.int 9)) (mCons (mC (.int (10 ^ 17))) (mNil)))))) (mNil)))) (mNil))))) (mSeq (mFor (gN 2) (mItA rangeO (mCons (mFn f_law_pick (mCons (mVar 0) (mCons (mOf (mLst (mCons (mC (.int 0)) (mCons (mC (.int 1)) (mCons (mC (.int 2)) (mCons (mC (.int 5)) (mCons (mC (.int 9)) (mCons (mFn f_law_draw (mCons (mVar 0) (mCons (mC (.int 200)) (mNil)))) (mNil))))))))) (mNil)))) (mNil))) (mSeq (mApp 3 (mVar 4)) (mSeq (mAsg 4 (m2 addO (m2 addO (mVar 4) (mC (.int 1))) (mFn f_law_draw (mCons (mVar 0) (mCons (mFn f_law_pick (mCons (mVar 0) (mCons (mOf (mLst (mCons (mC (.int 1)) (mCons (mC (.int 3)) (mCons (mC (.int (10 ^ 15))) (mNil)))))) (mNil)))) (mNil)))))) (mNext)))) (mSeq (mShare 3) (mSeq (mRet (mTup (mCons (mFn f_law_draw (mCons (mVar 0) (mCons (mVar 1) (mNil)))) (mCons (mCall tupleO (mCons (mVar 3) (mNil))) (mNil))))) (mNext)))))
def f_law_deed : List D → BoxSt → Res D := mDef 5 1 b_law_deed
def b_law_rows : MS := mSeq (mRet (mOf (mLc [1, 2] (gU [1, 2]) (mIt (mVar 0)) (mYes) (mFn f_law_row_text (mCons (mC (.str ("ask" : PySem.Str))) (mCons (m2 addO (mTup (mCons (mVar 1) (mNil))) (mVar 2)) (mNil))))))) (mNext)
def f_law_rows : List D → BoxSt → Res D := mDef 3 1 b_law_rows
def b_law_bad_deed : MS := mSeq (mAsgG (gU [3, 4]) (mVar 1)) (mSeq (mAsg 2 (mOf (mLst (mCons (mC .non) (mCons (mC (.int 3)) (mCons (mC (.str ("ask" : PySem.Str))) (mCons (mVar 3) (mCons (mTup (mCons (mVar 3) (mNil))) (mCons (mTup (mCons (mVar 3) (mCons (mVar 4) (mCons (mC (.int 0)) (mNil))))) (mCons (mTup (mCons (mVar 4) (mCons (mVar 3) (mNil)))) (mCons (mTup (mCons (m1 negI (mC (.int 1))) (mCons (mVar 4) (mNil)))) (mCons (mTup (mCons (mC (.bl true)) (mCons (mVar 4) (mNil)))) (mCons (mTup (mCons (mC .non) (mCons (mVar 4) (mNil)))) (mCons (mTup (mCons (mCall strO (mCons (mVar 3) (mNil))) (mCons (mVar 4) (mNil)))) (mCons (mTup (mCons (mVar 3) (mCons (mC .non) (mNil)))) (mCons (mTup (mCons (mVar 3) (mCons (mC (.int 0)) (mNil)))) (mCons (mTup (mCons (mVar 3) (mCons (mC (.str ("0" : PySem.Str))) (mNil)))) (mCons (mTup (mNil)) (mNil))))))))))))))))))) (mSeq (mAsg 2 (mOf (m2N catL (mVar 2) (mOf (mLst (mCons (mTup (mCons (mVar 3) (mCons (m2 addO (mTup (mCons (m1 negI (mC (.int 1))) (mNil))) (mVar 4)) (mNil)))) (mCons (mTup (mCons (mVar 3) (mCons (m2 addO (mVar 4) (mTup (mCons (mC .non) (mNil)))) (mNil)))) (mCons (mTup (mCons (mVar 3) (mCons (m2 addO (mTup (mCons (mC (.int 3)) (mCons (mC (.int 3)) (mNil)))) (mVar 4)) (mNil)))) (mCons (mTup (mCons (mVar 3) (mCons (mTup (mCons (mC (.int 0)) (mCons (mC (.bl false)) (mNil)))) (mNil)))) (mCons (mTup (mCons (mVar 3) (mCons (mTup (mCons (mC (.int 2)) (mCons (mC (.int 1)) (mNil)))) (mNil)))) (mCons (mTup (mCons (mVar 3) (mCons (mTup (mCons (mC (.bl true)) (mNil))) (mNil)))) (mCons (mTup (mCons (mVar 3) (mCons (mTup (mCons (mTup (mCons (mC (.int 0)) (mNil))) (mNil))) (mNil)))) (mCons (mTup (mCons (mVar 3) (mCons (mOf (mLst (mCons (mC (.str ("0" : PySem.Str))) (mNil)))) (mNil)))) (mNil)))))))))))))) (mSeq (mIfS (mTest (m2 neO (mVar 4) (mTup (mNil)))) (mSeq (mAsg 2 (mOf (m2N catL (mVar 2) (mOf (mLst (mCons (mTup (mCons (mVar 3) (mCons (m2 addO (mVar 4) (mSl (mVar 4) (mSomeO (m1 negI (mC (.int 1)))) (mNoO))) (mNil)))) (mCons (mTup (mCons (mVar 3) (mCons (m2 addO (mSl (mVar 4) (mNoO) (mSomeO (mC (.int 1)))) (mVar 4)) (mNil)))) (mCons (mTup (mCons (mVar 3) (mCons (m2 addO (mVar 4) (mTup (mCons (mC (.int 0)) (mNil)))) (mNil)))) (mCons (mTup (mCons (mVar 3) (mCons (m2 addO (mSl (mVar 4) (mNoO) (mSomeO (m1 negI (mC (.int 1))))) (mTup (mCons (mCall strO (mCons (m2 ixO (mVar 4) (m1 negI (mC (.int 1)))) (mNil))) (mNil)))) (mNil)))) (mNil)))))))))) (mNext)) (mNext)) (mSeq (mRet (mFn f_law_pick (mCons (mVar 0) (mCons (mVar 2) (mNil))))) (mNext)))))
def f_law_bad_deed : List D → BoxSt → Res D := mDef 5 2 b_law_bad_deed
def b_law_bad_row : MS := mSeq (mAsg 2 (mOf (mStr1N splitO (mVar 1) (mC (.str (" " : PySem.Str)))))) (mSeq (mAsg 3 (m2 addO (mC (.int 1)) (mFn f_law_draw (mCons (mVar 0) (mCons (m2 subI (mCall lenO (mCons (mVar 2) (mNil))) (mC (.int 1))) (mNil)))))) (mSeq (mAsg 4 (mOf (mLst (mCons (mFn f_law_bad_form (mCons (mVar 0) (mCons (mVar 1) (mNil)))) (mCons (mFn f_law_bad_form (mCons (mVar 0) (mCons (mVar 1) (mNil)))) (mCons (mC (.str ("ask" : PySem.Str))) (mCons (mC (.str ("asks 0" : PySem.Str))) (mCons (mC (.str ("ask -1" : PySem.Str))) (mCons (mC (.str ("ask 0 1 1" : PySem.Str))) (mCons (mC (.str ("ask 0 2 1" : PySem.Str))) (mCons (mC (.str ("ask 0 -1" : PySem.Str))) (mCons (mC (.str ("lost 0" : PySem.Str))) (mCons (m2 addO (mC (.str ("ask 0 " : PySem.Str))) (m2 mulA (mC (.str ("9" : PySem.Str))) (mC (.int 41)))) (mCons (mC (.str ("Ask 0" : PySem.Str))) (mCons (mC (.str ("come" : PySem.Str))) (mNil)))))))))))))))) (mSeq (mAsg 4 (mOf (m2N catL (mVar 4) (mOf (m2N repL (mOf (mLst (mCons (mStr1 joinO (mC (.str (" " : PySem.Str))) (mOf (m2N catL (mOf (m2N catL (mSl (mVar 2) (mNoO) (mSomeO (mVar 3))) (mOf (mLst (mCons (mFn f_law_bad_word (mCons (mVar 0) (mCons (m2 ixO (mVar 2) (mVar 3)) (mNil)))) (mNil)))))) (mSl (mVar 2) (mSomeO (m2 addO (mVar 3) (mC (.int 1)))) (mNoO))))) (mNil)))) (mC (.int 6))))))) (mSeq (mIfS (mTest (m2 gtI (mCall lenO (mCons (mVar 2) (mNil))) (mC (.int 2)))) (mSeq (mAsg 4 (mOf (m2N catL (mVar 4) (mOf (mLst (mCons (m2 addO (m2 addO (mVar 1) (mC (.str (" " : PySem.Str)))) (m2 ixO (mVar 2) (m1 negI (mC (.int 1))))) (mCons (m2 addO (mVar 1) (mC (.str (" 0" : PySem.Str)))) (mNil)))))))) (mNext)) (mNext)) (mSeq (mRet (mFn f_law_pick (mCons (mVar 0) (mCons (mVar 4) (mNil))))) (mNext))))))
def f_law_bad_row : List D → BoxSt → Res D := mDef 5 2 b_law_bad_row
def b_law_wrong_texts : MS := mSeq (mFor (gN 2) (mItA rangeO (mCons (mC (.int 5)) (mNil))) (mSeq (mAsg 3 (mFn f_law_pick (mCons (mVar 0) (mCons (mOf (mLst (mCons (mC (.int 0)) (mCons (mCall lenO (mCons (mVar 1) (mNil))) (mCons (mFn f_law_draw (mCons (mVar 0) (mCons (m2 addO (mCall lenO (mCons (mVar 1) (mNil))) (mC (.int 1))) (mNil)))) (mNil)))))) (mNil))))) (mSeq (mAsg 4 (mFn f_law_bad_row (mCons (mVar 0) (mCons (mIf (mTest (m2 ltI (mVar 3) (mCall lenO (mCons (mVar 1) (mNil))))) (m2 ixO (mVar 1) (mVar 3)) (mC (.str ("ask 0 1 2" : PySem.Str)))) (mNil))))) (mSeq (mAsg 5 (mOf (m2N catL (mOf (m2N catL (mSl (mVar 1) (mNoO) (mSomeO (mVar 3))) (mOf (mLst (mCons (mVar 4) (mNil)))))) (mSl (mVar 1) (mSomeO (m2 addO (mVar 3) (mFn f_law_draw (mCons (mVar 0) (mCons (mC (.int 2)) (mNil)))))) (mNoO))))) (mSeq (mIfS (mAnd (mTest (m2 eqO (mVar 4) (mC (.str ("" : PySem.Str))))) (mTest (m2 eqO (mCall lenO (mCons (mVar 5) (mNil))) (mC (.int 1))))) (mSeq (mAsg 5 (mOf (m2N catL (mVar 5) (mOf (mLst (mCons (mC (.str ("" : PySem.Str))) (mCons (mC (.str ("ask 0" : PySem.Str))) (mNil)))))))) (mNext)) (mNext)) (mSeq (mIfS (mTest (m2 eqO (mFn f_law_draw (mCons (mVar 0) (mCons (mC (.int 3)) (mNil)))) (mC (.int 0)))) (mSeq (mAsg 5 (mOf (m2N catL (mVar 5) (mOf (mLst (mCons (mFn f_law_bad_row (mCons (mVar 0) (mCons (mC (.str ("ask 0" : PySem.Str))) (mNil)))) (mNil))))))) (mNext)) (mNext)) (mSeq (mIfS (mNot (mTest (mFn (f_law_same 7) (mCons (mFn f_law_read (mCons (mStr1 joinO (mC (.str ("\n" : PySem.Str))) (mVar 5)) (mNil))) (mCons (mTup (mCons (mC (.str ("text" : PySem.Str))) (mCons (mVar 3) (mNil)))) (mNil)))))) (mSeq (mRet (mC (.bl false))) (mNext)) (mNext)) (mNext)))))))) (mSeq (mRet (mFn (f_law_same 7) (mCons (mFn f_law_read (mCons (mStr1 joinO (mC (.str ("\n" : PySem.Str))) (mOf (m2N repL (mOf (mLst (mCons (mC (.str ("ask 0" : PySem.Str))) (mNil)))) (m2 addO (mC (.int 401)) (mFn f_law_draw (mCons (mVar 0) (mCons (mC (.int 9)) (mNil)))))))) (mNil))) (mCons (mTup (mCons (mC (.str ("text" : PySem.Str))) (mCons (mC (.int 400)) (mNil)))) (mNil))))) (mNext))
def f_law_wrong_texts : List D → BoxSt → Res D := mDef 6 2 b_law_wrong_texts
def b_law : MS := mSeq (mAsg 2 (mFn f_law_pick (mCons (mVar 1) (mCons (mOf (mLst (mCons (mC (.int 0)) (mCons (mC (.int 1)) (mCons (mC (.int 2)) (mCons (mC (.int 3)) (mCons (mC (.int 9)) (mCons (mC (.int 9)) (mCons (mC (.int 30)) (mNil)))))))))) (mNil))))) (mSeq (mAsgO 3 (mLc [5] (gN 5) (mItA rangeO (mCons (mVar 2) (mNil))) (mYes) (mFn f_law_deed (mCons (mVar 1) (mNil))))) (mSeq (mIfS (mTest (m2 eqO (mFn f_law_draw (mCons (mVar 1) (mCons (mC (.int 8)) (mNil)))) (mC (.int 0)))) (mSeq (mAsgO 3 (mLc [5] (gN 5) (mItA rangeO (mCons (mFn f_law_pick (mCons (mVar 1) (mCons (mOf (mLst (mCons (mC (.int 399)) (mCons (mC (.int 400)) (mNil))))) (mNil)))) (mNil))) (mYes) (mTup (mCons (mFn f_law_draw (mCons (mVar 1) (mCons (mC (.int 6)) (mNil)))) (mCons (m1 tupR1 (mFn f_law_draw (mCons (mVar 1) (mCons (mC (.int 3)) (mNil))))) (mNil)))))) (mNext)) (mNext)) (mSeq (mShare 3) (mSeq (mPar 7 8 (mOf (mLc [11, 12] (gU [11, 12]) (mIt (mVar 3)) (mYes) (mOf (mLst (mCons (mVar 11) (mCons (mOf (mCallN listO (mCons (mVar 12) (mNil)))) (mNil))))))) (mFn f_law_rows (mCons (mVar 3) (mNil)))) (mSeq (mAsg 4 (mStr1 joinO (mC (.str ("\n" : PySem.Str))) (mVar 8))) (mSeq (mIfS (mOr (mNot (mTest (mFn (f_law_same 7) (mCons (mFn f_law_written (mCons (mVar 7) (mNil))) (mCons (mTup (mCons (mC (.str ("text" : PySem.Str))) (mCons (mVar 4) (mNil)))) (mNil)))))) (mTest (m2 neO (mVar 7) (mOf (mLc [11, 12] (gU [11, 12]) (mIt (mVar 3)) (mYes) (mOf (mLst (mCons (mVar 11) (mCons (mOf (mCallN listO (mCons (mVar 12) (mNil)))) (mNil)))))))))) (mSeq (mRet (mC (.bl false))) (mNext)) (mNext)) (mSeq (mIfS (mOr (mNot (mTest (mFn (f_law_same 7) (mCons (mFn f_law_read (mCons (mVar 4) (mNil))) (mCons (mTup (mCons (mC (.str ("read" : PySem.Str))) (mCons (mCall tupleO (mCons (mVar 3) (mNil))) (mNil)))) (mNil)))))) (mNot (mTest (mFn (f_law_same 7) (mCons (mFn f_course_text (mCons (mFn f_read_course (mCons (mVar 4) mNil)) mNil)) (mCons (mVar 4) (mNil))))))) (mSeq (mRet (mC (.bl false))) (mNext)) (mNext)) (mSeq (mIfS (mNot (mTest (mFn f_law_wrong_texts (mCons (mVar 1) (mCons (mVar 8) (mNil)))))) (mSeq (mRet (mC (.bl false))) (mNext)) (mNext)) (mSeq (mFor (gN 5) (mItA rangeO (mCons (mC (.int 3)) (mNil))) (mSeq (mAsg 9 (mFn f_law_draw (mCons (mVar 1) (mCons (m2 addO (mCall minO (mCons (mOf (mLst (mCons (mCall lenO (mCons (mVar 3) (mNil))) (mCons (mC (.int 398)) (mNil))))) (mNil))) (mC (.int 1))) (mNil))))) (mSeq (mAsgO 10 (m2N catL (mOf (m2N catL (mOf (mCallN listO (mCons (mSl (mVar 3) (mNoO) (mSomeO (mVar 9))) (mNil)))) (mOf (mLst (mCons (mFn f_law_bad_deed (mCons (mVar 1) (mCons (mIf (mTest (m2 ltI (mVar 9) (mCall lenO (mCons (mVar 3) (mNil))))) (m2 ixO (mVar 3) (mVar 9)) (mTup (mCons (mC (.int 0)) (mCons (mTup (mCons (mC (.int 1)) (mCons (mC (.int 2)) (mNil)))) (mNil))))) (mNil)))) (mNil)))))) (mOf (mCallN listO (mCons (mSl (mVar 3) (mSomeO (m2 addO (mVar 9) (mC (.int 1)))) (mNoO)) (mNil)))))) (mSeq (mIfS (mAnd (mTest (m2 eqO (mFn f_law_draw (mCons (mVar 1) (mCons (mC (.int 2)) (mNil)))) (mC (.int 0)))) (mTest (m2 ltI (mLenO 10) (mC (.int 400))))) (mSeq (mApp 10 (mC .non)) (mNext)) (mNext)) (mSeq (mShare 10) (mSeq (mIfS (mNot (mTest (mFn (f_law_same 7) (mCons (mFn f_law_written (mCons (mFn f_law_pick (mCons (mVar 1) (mCons (mOf (mLst (mCons (mVar 10) (mCons (mCall tupleO (mCons (mVar 10) (mNil))) (mNil))))) (mNil)))) (mNil))) (mCons (mTup (mCons (mC (.str ("course" : PySem.Str))) (mCons (mVar 9) (mNil)))) (mNil)))))) (mSeq (mRet (mC (.bl false))) (mNext)) (mNext)) (mNext))))))) (mSeq (mFor (gN 6) (mIt (mOf (mLst (mCons (mC .non) (mCons (mC (.int 3)) (mCons (mC (.str ("ask 0" : PySem.Str))) (mCons (mC (.bl true)) (mCons (mOf (m2N repL (mOf (mLst (mCons (mTup (mCons (mC (.int 0)) (mCons (mTup (mNil)) (mNil)))) (mNil)))) (mC (.int 401)))) (mCons (m2 mulA (mTup (mCons (mC .non) (mNil))) (mC (.int 402))) (mNil)))))))))) (mSeq (mIfS (mNot (mTest (mFn (f_law_same 7) (mCons (mFn f_law_written (mCons (mVar 6) (mNil))) (mCons (mTup (mCons (mC (.str ("course" : PySem.Str))) (mCons (m1 negI (mC (.int 1))) (mNil)))) (mNil)))))) (mSeq (mRet (mC (.bl false))) (mNext)) (mNext)) (mNext))) (mSeq (mFor (gN 6) (mIt (mOf (mLst (mCons (mC .non) (mCons (mC (.int 3)) (mCons (mVar 8) (mCons (mTup (mCons (mVar 4) (mNil))) (mCons (mCall tupleO (mCons (mVar 3) (mNil))) (mCons (mC (.bl true)) (mNil)))))))))) (mSeq (mIfS (mNot (mTest (mFn (f_law_same 7) (mCons (mFn f_law_read (mCons (mVar 6) (mNil))) (mCons (mTup (mCons (mC (.str ("text" : PySem.Str))) (mCons (m1 negI (mC (.int 1))) (mNil)))) (mNil)))))) (mSeq (mRet (mC (.bl false))) (mNext)) (mNext)) (mNext))) (mSeq (mRet (mAndV (mFn (f_law_same 7) (mCons (mFn f_law_read (mCons (mC (.str ("" : PySem.Str))) (mNil))) (mCons (mTup (mCons (mC (.str ("read" : PySem.Str))) (mCons (mTup (mNil)) (mNil)))) (mNil)))) (mFn (f_law_same 7) (mCons (mFn f_law_written (mCons (mTup (mNil)) (mNil))) (mCons (mTup (mCons (mC (.str ("text" : PySem.Str))) (mCons (mC (.str ("" : PySem.Str))) (mNil)))) (mNil)))))) (mNext)))))))))))))
end Kn

end

section
set_option Elab.async false
set_option linter.all false
set_option maxRecDepth 100000
set_option maxHeartbeats 1000000
/-! Ev: mirrors, step by step. -/
namespace Kn
open PySem
def outD : SR → Res D | .rt d s1 => .ok d s1 | .ex n d _ s1 => .ex n d s1 | .nx _ s1 => .ok .non s1 | _ => .bad
section
variable {env env' : En} {s s1 s2 s3 : BoxSt} {x y z d : D} {l xs : List D} {a b c : ME} {m m2' : MA} {t u : MT}
theorem ev1 {g : D → Option D} (h1 : a env s = .ok x s1) (h3 : g x = some d) : m1 g a env s = .ok d s1 := by
  unfold m1; rw [h1]; show ofO (g x) s1 = _; rw [h3]; rfl
theorem ev2 {g : D → D → Option D} (h1 : a env s = .ok x s1) (h2 : b env s1 = .ok y s2) (h3 : g x y = some d) : m2 g a b env s = .ok d s2 := by
  unfold m2; rw [h1]; show (b env s1).bind _ = _; rw [h2]; show ofO (g x y) s2 = _; rw [h3]; rfl
theorem ev2N {g : D → D → Option (List D)} (h1 : a env s = .ok x s1) (h2 : b env s1 = .ok y s2) (h3 : g x y = some l) : m2N g a b env s = .ok l s2 := by
  unfold m2N; rw [h1]; show (b env s1).bind _ = _; rw [h2]; show ofO (g x y) s2 = _; rw [h3]; rfl
theorem ev_call {g : List D → Option D} (h1 : m env s = .ok l s1) (h3 : g l = some d) : mCall g m env s = .ok d s1 := by
  unfold mCall; rw [h1]; show ofO (g l) s1 = _; rw [h3]; rfl
theorem ev_callN {g : List D → Option (List D)} (h1 : m env s = .ok l s1) (h3 : g l = some xs) : mCallN g m env s = .ok xs s1 := by
  unfold mCallN; rw [h1]; show ofO (g l) s1 = _; rw [h3]; rfl
theorem ev_fn {f : List D → BoxSt → Res D} {r : Res D} (h1 : m env s = .ok l s1) (h3 : f l s1 = r) : mFn f m env s = r := by
  unfold mFn; rw [h1]; exact h3
theorem ev_cons (h1 : a env s = .ok x s1) (h2 : m env s1 = .ok l s2) : mCons a m env s = .ok (x :: l) s2 := by
  unfold mCons; rw [h1]; show (m env s1).bind _ = _; rw [h2]; rfl
theorem ev_consE1 {n : Str} (h1 : a env s = .ex n x s1) : mCons a m env s = .ex n x s1 := by unfold mCons; rw [h1]; rfl
theorem ev_consE2 {n : Str} (h1 : a env s = .ok x s1) (h2 : m env s1 = .ex n y s2) : mCons a m env s = .ex n y s2 := by unfold mCons; rw [h1]; show (m env s1).bind _ = _; rw [h2]; rfl
theorem ev_tupE {n : Str} (h1 : m env s = .ex n x s1) : mTup m env s = .ex n x s1 := by unfold mTup; rw [h1]; rfl
theorem ev_tup (h1 : m env s = .ok l s1) (h : l.length ≤ 1000000) : mTup m env s = .ok (.tup l) s1 := by
  unfold mTup; rw [h1]; show ofO (tupO l) s1 = _; unfold tupO small; rw [if_pos (decide_eq_true h)]; rfl
theorem ev_lst (h1 : m env s = .ok l s1) (h : l.length ≤ 1000000) : mLst m env s = .ok l s1 := by
  unfold mLst; rw [h1]; show ofO (lstO l) s1 = _; unfold lstO small; rw [if_pos (decide_eq_true h)]; rfl
theorem ev_of (h1 : m env s = .ok l s1) : mOf m env s = .ok (.lst l) s1 := by unfold mOf; rw [h1]; rfl
theorem ev_test {k : Bool} (h1 : a env s = .ok (.bl k) s1) : mTest a env s = .ok k s1 := by unfold mTest; rw [h1]; rfl
theorem ev_if {k : Bool} {r : Res D} (h1 : t env s = .ok k s1) (h2 : (if k = true then a env s1 else b env s1) = r) : mIf t a b env s = r := by unfold mIf; rw [h1]; exact h2
theorem ev_and {k : Bool} {r : Res Bool} (h1 : t env s = .ok k s1) (h2 : (if k = true then u env s1 else .ok false s1) = r) : mAnd t u env s = r := by unfold mAnd; rw [h1]; exact h2
theorem ev_or {k : Bool} {r : Res Bool} (h1 : t env s = .ok k s1) (h2 : (if k = true then .ok true s1 else u env s1) = r) : mOr t u env s = r := by unfold mOr; rw [h1]; exact h2
theorem ev_not {k : Bool} (h1 : t env s = .ok k s1) : mNot t env s = .ok (!k) s1 := by unfold mNot; rw [h1]; rfl
theorem ev_andV {k : Bool} {r : Res D} (h1 : a env s = .ok (.bl k) s1) (h2 : (if k = true then b env s1 else .ok (.bl false) s1) = r) : mAndV a b env s = r := by unfold mAndV; rw [h1]; cases k <;> exact h2
theorem ev_orV {k : Bool} {r : Res D} (h1 : a env s = .ok (.bl k) s1) (h2 : (if k = true then .ok (.bl true) s1 else b env s1) = r) : mOrV a b env s = r := by unfold mOrV; rw [h1]; cases k <;> exact h2
theorem ev_notV {k : Bool} (h1 : a env s = .ok (.bl k) s1) : mNotV a env s = .ok (.bl (!k)) s1 := by unfold mNotV; rw [h1]; rfl
theorem ev_chain {g g' : D → D → Option D} {k : Bool} {r : Res D} (h1 : a env s = .ok x s1) (h2 : b env s1 = .ok y s2) (h3 : g x y = some (.bl k)) (h4 : (if k = true then (c env s2).bind (fun w s4 => ofO (g' y w) s4) else .ok (.bl false) s2) = r) : mChain g g' a b c env s = r := by
  unfold mChain; rw [h1]; show ((b env s1).bind _) = _; rw [h2]; show ((ofO (g x y) s2).bind _) = _; rw [h3]; cases k <;> exact h4
theorem ev_str1 {g : Str → D → Option D} {w : Str} (h1 : a env s = .ok (.str w) s1) (h2 : b env s1 = .ok y s2) (h3 : g w y = some d) : mStr1 g a b env s = .ok d s2 := by
  unfold mStr1; rw [h1]; show (b env s1).bind _ = _; rw [h2]; show ofO (g w y) s2 = _; rw [h3]; rfl
theorem ev_str1N {g : Str → D → Option (List D)} {w : Str} (h1 : a env s = .ok (.str w) s1) (h2 : b env s1 = .ok y s2) (h3 : g w y = some l) : mStr1N g a b env s = .ok l s2 := by
  unfold mStr1N; rw [h1]; show (b env s1).bind _ = _; rw [h2]; show ofO (g w y) s2 = _; rw [h3]; rfl
theorem ev_str0 {g : Str → Option D} {w : Str} (h1 : a env s = .ok (.str w) s1) (h3 : g w = some d) : mStr0 g a env s = .ok d s1 := by
  unfold mStr0; rw [h1]; show ofO (g w) s1 = _; rw [h3]; rfl
theorem ev_someO {k : Int} (h1 : a env s = .ok (.int k) s1) : mSomeO a env s = .ok (some k) s1 := by unfold mSomeO; rw [h1]; rfl
theorem ev_sl {lo hi : MO} {p q : Option Int} (h1 : a env s = .ok x s1) (h2 : lo env s1 = .ok p s2) (h3 : hi env s2 = .ok q s3) (h4 : sliceO x p q = some d) : mSl a lo hi env s = .ok d s3 := by
  unfold mSl; rw [h1]; show (lo env s1).bind _ = _; rw [h2]; show (hi env s2).bind _ = _; rw [h3]; show ofO (sliceO x p q) s3 = _; rw [h4]; rfl
theorem ev_it (h1 : a env s = .ok x s1) (h2 : itO x = some l) : mIt a env s = .ok l s1 := by unfold mIt; rw [h1]; show ofO (itO x) s1 = _; rw [h2]; rfl
theorem ev_itA {f : List D → Option (List D)} (h1 : m env s = .ok xs s1) (h2 : f xs = some l) : mItA f m env s = .ok l s1 := by unfold mItA; rw [h1]; show ofO (f xs) s1 = _; rw [h2]; rfl
/-! statements -/
variable {A B : MS} {r : SR}
theorem st_seq (h1 : A env s = .nx env' s1) (h2 : B env' s1 = r) : mSeq A B env s = r := by unfold mSeq; rw [h1]; exact h2
theorem st_seqR (h1 : A env s = .rt d s1) : mSeq A B env s = .rt d s1 := by unfold mSeq; rw [h1]
theorem st_seqE {n : Str} (h1 : A env s = .ex n d env' s1) : mSeq A B env s = .ex n d env' s1 := by unfold mSeq; rw [h1]
theorem st_ret (h1 : a env s = .ok d s1) : mRet a env s = .rt d s1 := by unfold mRet after; rw [h1]
theorem st_retE {n : Str} (h1 : a env s = .ex n d s1) : mRet a env s = .ex n d env s1 := by unfold mRet after; rw [h1]
theorem st_asg {i : Nat} (h1 : a env s = .ok d s1) : mAsg i a env s = .nx (env.set i (.sh d)) s1 := by unfold mAsg after; rw [h1]
theorem st_asgE {i : Nat} {n : Str} (h1 : a env s = .ex n d s1) : mAsg i a env s = .ex n d env s1 := by unfold mAsg after; rw [h1]
theorem st_asgO {i : Nat} (h1 : m env s = .ok l s1) : mAsgO i m env s = .nx (env.set i (.ow l)) s1 := by unfold mAsgO after; rw [h1]
theorem st_if {k : Bool} (h1 : t env s = .ok k s1) (h2 : (if k = true then A env s1 else B env s1) = r) : mIfS t A B env s = r := by unfold mIfS after; rw [h1]; exact h2
theorem st_ifT (h1 : t env s = .ok true s1) (h2 : A env s1 = r) : mIfS t A B env s = r := st_if h1 (by rw [if_pos rfl]; exact h2)
theorem st_ifF (h1 : t env s = .ok false s1) (h2 : B env s1 = r) : mIfS t A B env s = r := st_if h1 (by rw [if_neg (by decide)]; exact h2)
theorem st_for {g : MG} (h1 : m env s = .ok l s1) (h2 : forM g A l env s1 = r) : mFor g m A env s = r := by unfold mFor after; rw [h1]; exact h2
theorem st_app {i : Nat} (hi : env[i]? = some (.ow l)) (h1 : a env s = .ok d s1) (hl : l.length ≤ 1000000) : mApp i a env s = .nx (env.set i (.ow (l ++ [d]))) s1 := by
  unfold mApp; rw [hi]; show after env (a env s) _ = _; unfold after; rw [h1]; show (if l.length ≤ 1000000 then _ else _) = _; rw [if_pos hl]
theorem st_share {i : Nat} (hi : env[i]? = some (.ow l)) : mShare i env s = .nx (env.set i (.sh (.lst l))) s := by unfold mShare; rw [hi]
theorem st_raise {n : Str} (h1 : a env s = .ok d s1) : mRaise n a env s = .ex n d env s1 := by unfold mRaise after; rw [h1]
theorem st_asgG {g : MG} (h1 : a env s = .ok d s1) (h2 : g d env = some env') : mAsgG g a env s = .nx env' s1 := by unfold mAsgG after; rw [h1]; show (match g d env with | some env' => SR.nx env' s1 | none => .bad) = _; rw [h2]
theorem st_par {i j : Nat} (h1 : a env s = .ok x s1) (h2 : b env s1 = .ok y s2) : mPar i j a b env s = .nx ((env.set i (.sh x)).set j (.sh y)) s2 := by unfold mPar; simp only [after, h1, h2]
theorem st_parO {i j : Nat} (h1 : m env s = .ok l s1) (h2 : b env s1 = .ok y s2) : mParO i j m b env s = .nx ((env.set i (.ow l)).set j (.sh y)) s2 := by unfold mParO; simp only [after, h1, h2]
/-! defs -/
theorem df_rt {n np : Nat} (hl : l.length = np) (h : A (l.map .sh ++ List.replicate (n - np) .un) s = .rt d s1) : mDef n np A l s = .ok d s1 := by unfold mDef; rw [if_pos hl, h]
theorem df_ex {n np : Nat} {k : Str} (hl : l.length = np) (h : A (l.map .sh ++ List.replicate (n - np) .un) s = .ex k d env' s1) : mDef n np A l s = .ex k d s1 := by unfold mDef; rw [if_pos hl, h]
theorem df_rt_or {n np : Nat} {r : SR} {q : Res D} (hl : l.length = np) (h : A (l.map .sh ++ List.replicate (n - np) .un) s = r) (h2 : outD r = q) : mDef n np A l s = q := by
  unfold mDef; rw [if_pos hl, h, ← h2]; cases r <;> rfl
theorem out_of {q : Res D} (h : A env s = r) (h2 : outD r = q) : outD (A env s) = q := by rw [h]; exact h2
/-! loops -/
theorem for_nil {g : MG} : forM g A [] env s = .nx env s := rfl
theorem for_cons {g : MG} {e1 : En} (h1 : g x env = some e1) (h2 : A e1 s = .nx env' s1) (h3 : forM g A l env' s1 = r) : forM g A (x :: l) env s = r := by
  unfold forM; simp only [h1, h2]; exact h3
theorem for_ret {g : MG} {e1 : En} (h1 : g x env = some e1) (h2 : A e1 s = .rt d s1) : forM g A (x :: l) env s = .rt d s1 := by
  unfold forM; simp only [h1, h2]
theorem for_ex {g : MG} {e1 : En} {n : Str} (h1 : g x env = some e1) (h2 : A e1 s = .ex n d env' s1) : forM g A (x :: l) env s = .ex n d env' s1 := by
  unfold forM; simp only [h1, h2]
end
/-- a comprehension whose parts leave the box as it is -/
theorem lc_map {g : MG} {a : ME} {env : En} {s : BoxSt} {f : D → D} : ∀ {ds : List D}, (∀ x ∈ ds, ∃ e1, g x env = some e1 ∧ a e1 s = .ok (f x) s) → lcM g mYes a env ds s = .ok (ds.map f) s
  | [], _ => rfl
  | x :: r, h => by
    obtain ⟨e1, h1, h2⟩ := h x List.mem_cons_self
    have ih := lc_map (ds := r) fun y hy => h y (List.mem_cons_of_mem _ hy)
    unfold lcM
    simp only [h1, mYes, h2, ih, List.map_cons]
theorem ev_lc {own : List Nat} {g : MG} {mi : MA} {a : ME} {env : En} {s s1 : BoxSt} {f : D → D} {ds : List D} (h1 : mi env s = .ok ds s1) (hl : ds.length ≤ 1000000) (h : ∀ x ∈ ds, ∃ e1, g x (wipeE env own) = some e1 ∧ a e1 s1 = .ok (f x) s1) : mLc own g mi mYes a env s = .ok (ds.map f) s1 := by
  unfold mLc; rw [h1]
  show (if ds.length ≤ 1000000 then _ else _) = _
  rw [if_pos hl, lc_map h]
theorem ev_lcg {own : List Nat} {g : MG} {mi : MA} {a : ME} {env : En} {s s1 : BoxSt} {f : D → D} {ds l : List D} (h1 : mi env s = .ok ds s1) (hl : ds.length ≤ 1000000) (h : ∀ x ∈ ds, ∃ e1, g x (wipeE env own) = some e1 ∧ a e1 s1 = .ok (f x) s1) (he : ds.map f = l) : mLc own g mi mYes a env s = .ok l s1 := by
  rw [← he]; exact ev_lc h1 hl h
end Kn

end

section
set_option Elab.async false
set_option linter.all false
set_option maxRecDepth 100000
set_option maxHeartbeats 4000000
/-! the draw's mirror is what Kn12 tells -/
namespace Kn
open PySem
def B1 : MS := mSeq (mIfS (mAnd (mTest (bxE fun s => some (.bl (!decide (s.cells = []))))) (mTest (m2 eqO (bxE fun s => s.cells.head?.map .int) (mC (.int 0))))) (mSeq (mDrop (mBpop)) (mNext)) (mNext)) (mNext)
def B2 : MS := mSeq (mIfS (mTest (m2 gtI (mVar 1) (mC (.int (10 ^ 8))))) (mSeq (mBset (m2 modI (mCall intO (mCons (m2 addO (m2 mulA (bxE fun s => some (.int s.blend)) (mC (.int 16807))) (mC (.int 41))) (mNil))) (mC (.int 2147483647)))) (mSeq (mAsg 3 (m2 addO (m2 mulA (mVar 3) (mC (.int 2147483647))) (bxE fun s => some (.int s.blend)))) (mNext))) (mNext)) (mNext)
theorem B1_nil (x : Sl) (m : Int) (y z : Sl) (b : Int) : B1 [.sh .box, .sh (.int m), x, y, z] ⟨[], b⟩ = .nx [.sh .box, .sh (.int m), x, y, z] ⟨[], b⟩ := rfl
theorem B1_cons (x : Sl) (m : Int) (y z : Sl) (b k : Int) (r : List Int) : B1 [.sh .box, .sh (.int m), x, y, z] ⟨k :: r, b⟩ = .nx [.sh .box, .sh (.int m), x, y, z] (if k = 0 then ⟨r, b⟩ else ⟨k :: r, b⟩) := by
  by_cases h : k = 0
  · subst h; rfl
  · rw [if_neg h]
    have e : eqO (.int k) (.int 0) = some (.bl false) := by
      show some (D.bl (decide (k = 0))) = _
      rw [decide_eq_false h]
    unfold B1 mSeq mIfS mAnd mTest m2 bxE mC after
    simp [hasBox, ofO, Res.bind, asB, e, mNext]
theorem loop1 (m : Int) (y z : Sl) : ∀ (l : List D) (x : Sl) (s : BoxSt), ∃ x', forM (gN 2) B1 l [.sh .box, .sh (.int m), x, y, z] s = .nx [.sh .box, .sh (.int m), x', y, z] ⟨dropZ l.length s.cells, s.blend⟩
  | [], x, s => ⟨x, by cases s; rfl⟩
  | d :: ds, x, ⟨[], b⟩ => by
    obtain ⟨x', h⟩ := loop1 m y z ds (.sh d) ⟨[], b⟩
    refine ⟨x', ?_⟩
    have e : gN 2 d [.sh .box, .sh (.int m), x, y, z] = some [.sh .box, .sh (.int m), .sh d, y, z] := rfl
    unfold forM
    rw [e]
    simp only [B1_nil, h]
    show _ = SR.nx _ ⟨dropZ (ds.length + 1) [], b⟩
    rw [show dropZ (ds.length + 1) [] = dropZ ds.length [] from rfl]
  | d :: ds, x, ⟨k :: r, b⟩ => by
    have e : gN 2 d [.sh .box, .sh (.int m), x, y, z] = some [.sh .box, .sh (.int m), .sh d, y, z] := rfl
    by_cases hk : k = 0
    · obtain ⟨x', h⟩ := loop1 m y z ds (.sh d) ⟨r, b⟩
      refine ⟨x', ?_⟩
      unfold forM
      rw [e]
      simp only [B1_cons, if_pos hk, h]
      show _ = SR.nx _ ⟨dropZ (ds.length + 1) (k :: r), b⟩
      subst hk
      rfl
    · obtain ⟨x', h⟩ := loop1 m y z ds (.sh d) ⟨k :: r, b⟩
      refine ⟨x', ?_⟩
      unfold forM
      rw [e]
      simp only [B1_cons, if_neg hk, h]
      show _ = SR.nx _ ⟨dropZ (ds.length + 1) (k :: r), b⟩
      rw [show dropZ (ds.length + 1) (k :: r) = dropZ ds.length (k :: r) from by
        show (if (k :: r).head? = some 0 then dropZ ds.length (k :: r).tail else dropZ ds.length (k :: r)) = _
        rw [if_neg (show ¬ (k :: r).head? = some 0 from fun z => hk (Option.some.inj z))]]
theorem mulA_int {i j : Int} (h : -(2 ^ 64) < j ∧ j < 2 ^ 64) : mulA (.int i) (.int j) = some (.int (i * j)) := by
  show (if (-(2 ^ 64) < i ∧ i < 2 ^ 64) ∨ (-(2 ^ 64) < j ∧ j < 2 ^ 64) then some (D.int (i * j)) else none) = _
  rw [if_pos (.inr h)]
theorem bx_ok {f : BoxSt → Option D} {env : En} {s : BoxSt} {d : D} (h : hasBox env = true) (hf : f s = some d) : bxE f env s = .ok d s := by
  unfold bxE; rw [if_pos h, hf]; rfl
def bstep : ME := m2 modI (mCall intO (mCons (m2 addO (m2 mulA (bxE fun s => some (.int s.blend)) (mC (.int 16807))) (mC (.int 41))) (mNil))) (mC (.int 2147483647))
theorem blend_step {env : En} (h : hasBox env = true) (s : BoxSt) : bstep env s = .ok (.int (nextB s.blend)) s :=
  ev2 (y := .int 2147483647) (s1 := s) (ev_call (l := [.int (s.blend * 16807 + 41)]) (ev_cons (ev2 (s1 := s) (ev2 (s1 := s) (bx_ok h rfl) rfl (mulA_int (by decide))) rfl rfl) rfl) rfl) rfl rfl
theorem set_blend {env : En} (h : hasBox env = true) (s : BoxSt) : mBset bstep env s = .nx env ⟨s.cells, nextB s.blend⟩ := by
  unfold mBset; rw [if_pos h]; simp only [after, blend_step h]
theorem B2_big (x : Sl) (m f : Int) (z : Sl) (s : BoxSt) (h : 10 ^ 8 < m) : B2 [.sh .box, .sh (.int m), x, .sh (.int f), z] s = .nx [.sh .box, .sh (.int m), x, .sh (.int (f * 2147483647 + nextB s.blend)), z] ⟨s.cells, nextB s.blend⟩ := by
  refine st_seq (s1 := ⟨s.cells, nextB s.blend⟩) (st_if (k := true) (s1 := s) (ev_test (ev2 (s1 := s) (x := .int m) (y := .int (10 ^ 8)) rfl rfl ?_)) ?_) rfl
  · show some (D.bl (decide ((10 : Int) ^ 8 < m))) = _
    rw [decide_eq_true h]
  · rw [if_pos rfl]
    exact st_seq (set_blend rfl s) (st_seq (st_asg (ev2 (s1 := ⟨s.cells, nextB s.blend⟩) (ev2 (s1 := ⟨s.cells, nextB s.blend⟩) (x := .int f) (y := .int 2147483647) rfl rfl (mulA_int (by decide))) (bx_ok rfl rfl) rfl)) rfl)
theorem B2_small (x : Sl) (m : Int) (y z : Sl) (s : BoxSt) (h : ¬ 10 ^ 8 < m) : B2 [.sh .box, .sh (.int m), x, y, z] s = .nx [.sh .box, .sh (.int m), x, y, z] s := by
  refine st_seq (st_if (k := false) (s1 := s) (ev_test (ev2 (s1 := s) (x := .int m) (y := .int (10 ^ 8)) rfl rfl ?_)) rfl) rfl
  show some (D.bl (decide ((10 : Int) ^ 8 < m))) = _
  rw [decide_eq_false h]
theorem draw_is (ds : List D) (s : BoxSt) (h : f_law_draw ds s ≠ .bad) : mDef 5 2 b_law_draw ds s = f_law_draw ds s := by
  unfold f_law_draw at h ⊢
  split at h
  case h_2 => exact absurd rfl h
  rename_i many
  split at h
  case isFalse => exact absurd rfl h
  rename_i hk
  obtain ⟨h1, h2, h3⟩ := hk
  show _ = (if 0 < many ∧ many < 2 ^ 64 ∧ okS s = true then Res.ok (D.int (drawS s many).1) (drawS s many).2 else .bad)
  rw [if_pos ⟨h1, h2, h3⟩]
  obtain ⟨x1, hl⟩ := loop1 many .un .un (numbers 60) .un s
  refine df_rt rfl ?_
  show b_law_draw [.sh .box, .sh (.int many), .un, .un, .un] s = _
  have len : (numbers 60).length = 60 := rfl
  rw [len] at hl
  have first : mFor (gN 2) (mItA rangeO (mCons (mC (.int 60)) (mNil))) B1 [.sh .box, .sh (.int many), .un, .un, .un] s = .nx [.sh .box, .sh (.int many), x1, .un, .un] ⟨dropZ 60 s.cells, s.blend⟩ := st_for (l := numbers 60) (s1 := s) rfl hl
  refine st_seq first ?_
  have dv : ∀ k : Int, 0 < k → k < 2 ^ 64 → ∀ i : Int, divI (.int i) (.int k) = some (.int (i / k)) := fun k a b i => by
    show (if decide (0 < k ∧ k < 2 ^ 64) = true then some (D.int (i / k)) else none) = _
    rw [if_pos (decide_eq_true ⟨a, b⟩)]
  have md : ∀ k : Int, 0 < k → ∀ i : Int, modI (.int i) (.int k) = some (.int (i % k)) := fun k a i => by
    show (if decide (0 < k) = true then some (D.int (i % k)) else none) = _
    rw [if_pos (decide_eq_true a)]
  unfold drawS
  cases hc : dropZ 60 s.cells with
  | cons rest r =>
    have len2 : r.length ≤ 100 := by
      have := dropZ_len 60 s.cells
      rw [hc, List.length_cons] at this
      unfold okS at h3
      rw [Bool.and_eq_true, Bool.and_eq_true, Bool.and_eq_true, decide_eq_true_eq, decide_eq_true_eq, decide_eq_true_eq] at h3
      omega
    refine st_seqR (st_if (k := true) rfl ?_)
    rw [if_pos rfl]
    refine st_seq (st_asg (ev_call (l := [.int rest]) (s1 := ⟨r, s.blend⟩) rfl rfl)) (st_seq (s1 := ⟨rest / many :: r, s.blend⟩) (env' := [.sh .box, .sh (.int many), x1, .un, .sh (.int rest)]) ?_ (st_seqR (st_ret (ev2 (s1 := ⟨rest / many :: r, s.blend⟩) (x := .int rest) (y := .int many) rfl rfl (md many h1 rest)))))
    have e : m2 divI (mVar 4) (mVar 1) [.sh .box, .sh (.int many), x1, .un, .sh (.int rest)] ⟨r, s.blend⟩ = .ok (.int (rest / many)) ⟨r, s.blend⟩ := ev2 rfl rfl (dv many h1 h2 rest)
    show mBins (m2 divI (mVar 4) (mVar 1)) [.sh .box, .sh (.int many), x1, .un, .sh (.int rest)] ⟨r, s.blend⟩ = _
    unfold mBins
    rw [if_pos (show hasBox [Sl.sh D.box, Sl.sh (D.int many), x1, Sl.un, Sl.sh (D.int rest)] = true from rfl)]
    simp only [after, e]
    rw [if_pos len2]
  | nil =>
    refine st_seq (st_if (k := false) rfl rfl) (st_seq (set_blend rfl _) (st_seq (st_asg (bx_ok rfl rfl)) ?_))
    show mSeq (mFor (gN 2) (mItA rangeO (mCons (mC (.int 2)) (mNil))) B2) _ [.sh .box, .sh (.int many), x1, .sh (.int (nextB s.blend)), .un] ⟨[], nextB s.blend⟩ = _
    by_cases hb : (10 : Int) ^ 8 < many
    · rw [if_pos hb]
      refine st_seq (st_for (l := [.int 0, .int 1]) (s1 := ⟨[], nextB s.blend⟩) rfl (for_cons rfl (B2_big _ _ _ _ _ hb) (for_cons rfl (B2_big _ _ _ _ _ hb) for_nil))) (st_seqR (st_ret (ev2 (ev_call (l := [.int _]) (ev_cons (ev2 (x := .int _) (y := .int 101) rfl rfl (dv 101 (by decide) (by decide) _)) rfl) rfl) rfl (md many h1 _))))
    · rw [if_neg hb]
      refine st_seq (st_for (l := [.int 0, .int 1]) (s1 := ⟨[], nextB s.blend⟩) rfl (for_cons rfl (B2_small _ _ _ _ _ hb) (for_cons rfl (B2_small _ _ _ _ _ hb) for_nil))) (st_seqR (st_ret (ev2 (ev_call (l := [.int _]) (ev_cons (ev2 (x := .int _) (y := .int 101) rfl rfl (dv 101 (by decide) (by decide) _)) rfl) rfl) rfl (md many h1 _))))
end Kn

end

section
set_option Elab.async false
set_option linter.all false
set_option maxRecDepth 100000
set_option maxHeartbeats 4000000
/-! each def does what its mirror tells -/
namespace Kn
open PySem PySem.Spec PyProof.Rows L2
def top (i : Nat) : Stmt := PySem.Challenge.pw_keepnothing_k92_whole_texts_of_courses.main.body.getD i (.Pass ⟨0, 0, 0, 0⟩)
/-- what the top has written -/
structure Txt (P : Program) (mg : Str → Option Value) (t : Sc) : Prop where
  d_is_integer : Is t.K mg "is_integer" (top 5) ["value"]
  d_is_number : Is t.K mg "is_number" (top 6) ["value"]
  d_is_below : Is t.K mg "is_below" (top 7) ["value", "limit"]
  d_is_sequence : Is t.K mg "is_sequence" (top 8) ["value"]
  d_is_row : Is t.K mg "is_row" (top 9) ["value", "many"]
  d_is_told_row : Is t.K mg "is_told_row" (top 10) ["value", "limit"]
  d_is_lot : Is t.K mg "is_lot" (top 11) ["value", "limit"]
  d_integer_of : Is t.K mg "integer_of" (top 16) ["word"]
  d_integers_of : Is t.K mg "integers_of" (top 17) ["words"]
  d_rows_of : Is t.K mg "rows_of" (top 18) ["text"]
  d_row_text : Is t.K mg "row_text" (top 19) ["word", "numbers"]
  d_numbers_at : Is t.K mg "numbers_at" (top 20) ["rows", "at", "word"]
  d_is_told_deed : Is t.K mg "is_told_deed" (top 21) ["value"]
  d_course_text : Is t.K mg "course_text" (top 22) ["deeds"]
  d_read_course : Is t.K mg "read_course" (top 23) ["text"]
  d_law_box : Is t.K mg "_law_box" (top 25) ["script"]
  d_law_draw : Is t.K mg "_law_draw" (top 26) ["box", "many"]
  d_law_pick : Is t.K mg "_law_pick" (top 27) ["box", "some"]
  d_law_tells : Is t.K mg "_law_tells" (top 28) ["value", "due"]
  d_law_is_int : Is t.K mg "_law_is_int" (top 29) ["value"]
  d_law_place : Is t.K mg "_law_place" (top 30) ["value"]
  d_law_same : Is t.K mg "_law_same" (top 31) ["value", "due"]
  d_law_row_text : Is t.K mg "_law_row_text" (top 32) ["word", "numbers"]
  d_law_bad_word : Is t.K mg "_law_bad_word" (top 33) ["box", "word"]
  d_law_bad_form : Is t.K mg "_law_bad_form" (top 34) ["box", "row"]
  d_law_read : Is t.K mg "_law_read" (top 35) ["text"]
  d_law_written : Is t.K mg "_law_written" (top 36) ["value"]
  d_law_deed : Is t.K mg "_law_deed" (top 37) ["box"]
  d_law_rows : Is t.K mg "_law_rows" (top 38) ["deeds"]
  d_law_bad_deed : Is t.K mg "_law_bad_deed" (top 39) ["box", "deed"]
  d_law_bad_row : Is t.K mg "_law_bad_row" (top 40) ["box", "row"]
  d_law_wrong_texts : Is t.K mg "_law_wrong_texts" (top 41) ["box", "rows"]
  n_abs : mg "abs" = none
  n_all : mg "all" = none
  n_any : mg "any" = none
  n_bool : mg "bool" = none
  n_enumerate : mg "enumerate" = none
  n_int : mg "int" = none
  n_isinstance : mg "isinstance" = none
  n_len : mg "len" = none
  n_list : mg "list" = none
  n_max : mg "max" = none
  n_min : mg "min" = none
  n_range : mg "range" = none
  n_str : mg "str" = none
  n_tuple : mg "tuple" = none
  n_zip : mg "zip" = none
  v_MOST_VISITS : ∃ tt, mg "MOST_VISITS" = some (.int 400 tt)
  v_FIGURES : ∃ tt, mg "FIGURES" = some (.str ("0123456789" : PySem.Str) tt)
  v_MOST_FIGURES : ∃ tt, mg "MOST_FIGURES" = some (.int 40 tt)
  e_InvalidCourse : Er P mg t "InvalidCourse" "at"
  e_InvalidText : Er P mg t "InvalidText" "at"
section
variable {P : Program} {w : World} {mg : Str → Option Value} {base : Heap} {t : Sc}
theorem s_law_draw : FnScope ["box", "many", "turn", "found", "rest"] ["box", "many"] (defScope (top 26)) := ⟨rfl, rfl, rfl, by decide +kernel, rfl, by decide +kernel, by decide +kernel⟩
theorem c_law_draw0 (T : Txt P mg t) : Cal P w t.K mg base t 6 "_law_draw" ["box", "many"] (mDef 5 2 b_law_draw) := have S := s_law_draw; cal_of (k := 5) T.d_law_draw S (fun bx G0 f cdv A outer s H E hr tk po => have hu := hr.units; (s_cons (s_for po rfl (k_range1 (by rfl) T.n_range (k_cons k_i k_nil)) (g_name (pg_name (i := 2) S.nd rfl (by first | exact .inl rfl | exact .inr rfl))) (s_cons (s_if (k_bool (k_and (k_bne hu (pv 0)) (k_and1 (k_tcmp v_eq (o_eq hu) (k_bhd (pv 0)) k_i (nomark _))))) (s_cons (s_drop (k_bpop (pv 0) (fun h1 h2 => pe_bm PySem.F.plainAttrs_list PySem.F.slot_list_pop PySem.F.type_list_pop mt_popAt h1 h2))) s_nil) s_nil) s_nil)) (s_cons (s_if (k_bne hu (pv 0)) (s_cons (s_asg S.nd rfl (by first | exact .inl rfl | exact .inr rfl) (k_callTy v_int o_int (by rfl) T.n_int bt_int (k_cons (k_bpop (pv 0) (fun h1 h2 => pe_bm PySem.F.plainAttrs_list PySem.F.slot_list_pop PySem.F.type_list_pop mt_popAt h1 h2)) k_nil))) (s_cons (s_bins (pv 0) (k_op v_div op_fdivW (k_var (pv 4)) (k_var (pv 1))) (fun h1 h2 => pe_bm PySem.F.plainAttrs_list PySem.F.slot_list_insert PySem.F.type_list_insert mt_insert h1 h2)) (s_cons (s_ret (k_op v_mod op_mod (k_callTy v_int o_int (by rfl) T.n_int bt_int (k_cons (k_var (pv 4)) k_nil)) (k_var (pv 1)))) s_nil))) s_nil) (s_cons (s_bset (pv 0) (k_op v_mod op_mod (k_callTy v_int o_int (by rfl) T.n_int bt_int (k_cons (k_op v_add o_add (k_op v_mulA o_mulA (k_b1 (pv 0)) k_i) k_i) k_nil)) k_i)) (s_cons (s_asg S.nd rfl (by first | exact .inl rfl | exact .inr rfl) (k_b1 (pv 0))) (s_cons (s_for po rfl (k_range1 (by rfl) T.n_range (k_cons k_i k_nil)) (g_name (pg_name (i := 2) S.nd rfl (by first | exact .inl rfl | exact .inr rfl))) (s_cons (s_if (k_tcmp v_gt op_gt (k_var (pv 1)) k_pow (nomark _)) (s_cons (s_bset (pv 0) (k_op v_mod op_mod (k_callTy v_int o_int (by rfl) T.n_int bt_int (k_cons (k_op v_add o_add (k_op v_mulA o_mulA (k_b1 (pv 0)) k_i) k_i) k_nil)) k_i)) (s_cons (s_asg S.nd rfl (by first | exact .inl rfl | exact .inr rfl) (k_op v_add o_add (k_op v_mulA o_mulA (k_var (pv 3)) k_i) (k_b1 (pv 0)))) s_nil)) s_nil) s_nil)) (s_cons (s_ret (k_op v_mod op_mod (k_callTy v_int o_int (by rfl) T.n_int bt_int (k_cons (k_op v_div op_fdivW (k_var (pv 3)) k_i) k_nil)) (k_var (pv 1)))) s_nil)))))))
theorem c_law_draw (T : Txt P mg t) : Cal P w t.K mg base t 6 "_law_draw" ["box", "many"] f_law_draw := (c_law_draw0 T).imp draw_is
theorem s_law_box : FnScope ["script", "cells", "blend", "cell"] ["script"] (defScope (top 25)) := ⟨rfl, rfl, rfl, by decide +kernel, rfl, by decide +kernel, by decide +kernel⟩
-- box slots ['script', 'cells', 'blend', 'cell']
theorem r_law_box (T : Txt P mg t) {bx : Option (Addr × Addr)} {G0 : Hp} {f : Addr} {cdv : Value} {A : Around} {outer : List Env} {s : Shared} {H : Hp} {E : XK} (hr : Room 5 (A.deeper (PyProof.Rows.envOfC "_law_box" (defScope (top 25)) s.heap.objs.size f cdv))) (tk : L2N.Takes (cxOf (L2N.CX P w) P w t.K mg base ["script", "cells", "blend", "cell"] "_law_box" (defScope (top 25)) f cdv A outer s H E) (fun cl d _ H' => E cl d H')) (po : PassesOwn (model P w) (cxOf (L2N.CX P w) P w t.K mg base ["script", "cells", "blend", "cell"] "_law_box" (defScope (top 25)) f cdv A outer s H E).A (cxOf (L2N.CX P w) P w t.K mg base ["script", "cells", "blend", "cell"] "_law_box" (defScope (top 25)) f cdv A outer s H E).env (cxOf (L2N.CX P w) P w t.K mg base ["script", "cells", "blend", "cell"] "_law_box" (defScope (top 25)) f cdv A outer s H E).xe) :
    PSs (cxOf (L2N.CX P w) P w t.K mg base ["script", "cells", "blend", "cell"] "_law_box" (defScope (top 25)) f cdv A outer s H E) (defBody (top 25)) (tSeq (tAsg (tLc (iList t.K (tSl (rSlL t.K) (tVar 0) tNoPart (tPart (tC (.int 60))))) (lG ⟨t, bx⟩ G0 H [3] (gN 3)) (lT ⟨t, bx⟩ G0 H W0 mYes) (lE ⟨t, bx⟩ G0 H W0 e_law_box) [3]) (gName 1)) (lS ⟨t, bx⟩ G0 H (fun cl d _ H' => E cl d H') b_law_box)) := have S := s_law_box; have hu := hr.units; pss_cons (ps_setLc (own := [(("cell" : PySem.Str), 3)]) rfl S.nd rfl rfl (by rfl) (pi_list (pe_slice sl_list (pv 0) po_none (po_some pe_int))) (blkOk_by (by rfl)) (fun _ _ _ _ _ => (g_name (pg_name (i := 3) S.nd rfl (by first | exact .inl rfl | exact .inr rfl)))) (fun _ _ _ _ _ => t_none) (fun _ _ _ _ _ => (k_callB v_abs call_abs (by rfl) T.n_abs bt_abs (k_cons (k_callTy v_int o_int (by rfl) T.n_int bt_int (k_cons (k_var (pv 3)) k_nil)) k_nil)))) (s_cons (s_asg S.nd rfl (by first | exact .inl rfl | exact .inr rfl) k_i) (s_share (s_cons (s_for po rfl (k_it (k_var (pv 1))) (g_name (pg_name (i := 3) S.nd rfl (by first | exact .inl rfl | exact .inr rfl))) (s_cons (s_asg S.nd rfl (by first | exact .inl rfl | exact .inr rfl) (k_op v_mod op_mod (k_callTy v_int o_int (by rfl) T.n_int bt_int (k_cons (k_op v_add o_add (k_op v_add o_add (k_op v_mulA o_mulA (k_var (pv 2)) k_i) (k_op v_mod op_mod (k_callTy v_int o_int (by rfl) T.n_int bt_int (k_cons (k_var (pv 3)) k_nil)) k_i)) k_i) k_nil)) k_i)) s_nil)) (s_cons (s_ret (k_sh (k_lst (k_cons (k_sh (k_lc rfl S.nd (own := [(("cell" : PySem.Str), 3)]) (by decide) (k_it (k_var (pv 1))) (blkOk_by (by rfl)) (fun _ _ _ _ _ => (g_name (pg_name (i := 3) S.nd rfl (by first | exact .inl rfl | exact .inr rfl)))) (fun _ _ _ _ _ => (t_one (k_tcmp v_ge op_ge (k_var (pv 3)) k_pow (nomark _)))) (fun _ _ _ _ _ => (k_var (pv 3))))) (k_cons (k_var (pv 2)) k_nil))))) s_nil))))
theorem s_is_integer : FnScope ["value"] ["value"] (defScope (top 5)) := ⟨rfl, rfl, rfl, by decide +kernel, rfl, by decide +kernel, by decide +kernel⟩
theorem c_is_integer (T : Txt P mg t) : Cal P w t.K mg base t 2 "is_integer" ["value"] f_is_integer := have S := s_is_integer; cal_of (k := 1) T.d_is_integer S (fun bx G0 f cdv A outer s H E hr tk po => have hu := hr.units; (s_cons (s_ret (k_andV (k_isi ty_int (by rfl) T.n_isinstance (k_var (pv 0)) (pe_tyN (by rfl) T.n_int bt_int)) (k_oneV (k_notV (k_isi ty_bool (by rfl) T.n_isinstance (k_var (pv 0)) (pe_tyN (by rfl) T.n_bool bt_bool)))))) s_nil))
theorem s_is_number : FnScope ["value"] ["value"] (defScope (top 6)) := ⟨rfl, rfl, rfl, by decide +kernel, rfl, by decide +kernel, by decide +kernel⟩
theorem c_is_number (T : Txt P mg t) : Cal P w t.K mg base t 3 "is_number" ["value"] f_is_number := have S := s_is_number; cal_of (k := 2) T.d_is_number S (fun bx G0 f cdv A outer s H E hr tk po => have hu := hr.units; (s_cons (s_ret (k_andV (k_cal tk hr (c_is_integer T) (by decide) (by rfl) (k_cons (k_var (pv 0)) k_nil)) (k_oneV (k_cmp v_ge op_ge (k_var (pv 0)) k_i (nomark _))))) s_nil))
theorem s_is_below : FnScope ["value", "limit"] ["value", "limit"] (defScope (top 7)) := ⟨rfl, rfl, rfl, by decide +kernel, rfl, by decide +kernel, by decide +kernel⟩
theorem c_is_below (T : Txt P mg t) : Cal P w t.K mg base t 3 "is_below" ["value", "limit"] f_is_below := have S := s_is_below; cal_of (k := 2) T.d_is_below S (fun bx G0 f cdv A outer s H E hr tk po => have hu := hr.units; (s_cons (s_ret (k_andV (k_cal tk hr (c_is_integer T) (by decide) (by rfl) (k_cons (k_var (pv 0)) k_nil)) (k_oneV (k_chain v_le v_lt op_le op_lt k_i (k_var (pv 0)) (k_var (pv 1)) (by rfl))))) s_nil))
theorem s_is_sequence : FnScope ["value"] ["value"] (defScope (top 8)) := ⟨rfl, rfl, rfl, by decide +kernel, rfl, by decide +kernel, by decide +kernel⟩
theorem c_is_sequence (T : Txt P mg t) : Cal P w t.K mg base t 2 "is_sequence" ["value"] f_is_sequence := have S := s_is_sequence; cal_of (k := 1) T.d_is_sequence S (fun bx G0 f cdv A outer s H E hr tk po => have hu := hr.units; (s_cons (s_ret (k_isi2 ty_list ty_tuple (by rfl) T.n_isinstance (k_var (pv 0)) (pe_tyN (by rfl) T.n_list bt_list) (pe_tyN (by rfl) T.n_tuple bt_tuple))) s_nil))
theorem s_is_row : FnScope ["value", "many"] ["value", "many"] (defScope (top 9)) := ⟨rfl, rfl, rfl, by decide +kernel, rfl, by decide +kernel, by decide +kernel⟩
theorem c_is_row (T : Txt P mg t) : Cal P w t.K mg base t 3 "is_row" ["value", "many"] f_is_row := have S := s_is_row; cal_of (k := 2) T.d_is_row S (fun bx G0 f cdv A outer s H E hr tk po => have hu := hr.units; (s_cons (s_ret (k_andV (k_cal tk hr (c_is_sequence T) (by decide) (by rfl) (k_cons (k_var (pv 0)) k_nil)) (k_oneV (k_cmp v_eq (o_eq hu) (k_callB v_len call_len (by rfl) T.n_len bt_len (k_cons (k_var (pv 0)) k_nil)) (k_var (pv 1)) (nomark _))))) s_nil))
theorem s_is_told_row : FnScope ["value", "limit", "part"] ["value", "limit"] (defScope (top 10)) := ⟨rfl, rfl, rfl, by decide +kernel, rfl, by decide +kernel, by decide +kernel⟩
theorem c_is_told_row (T : Txt P mg t) : Cal P w t.K mg base t 4 "is_told_row" ["value", "limit"] f_is_told_row := have S := s_is_told_row; cal_of (k := 3) T.d_is_told_row S (fun bx G0 f cdv A outer s H E hr tk po => have hu := hr.units; (s_cons (s_ret (k_andV (k_isi ty_tuple (by rfl) T.n_isinstance (k_var (pv 0)) (pe_tyN (by rfl) T.n_tuple bt_tuple)) (k_oneV (k_callB v_all (cr_all rfl) (by rfl) T.n_all bt_all (k_cons (k_sh (k_lc rfl S.nd (own := [(("part" : PySem.Str), 2)]) (by decide) (k_it (k_var (pv 0))) (blkOk_by (by rfl)) (fun _ _ _ _ _ => (g_name (pg_name (i := 2) S.nd rfl (by first | exact .inl rfl | exact .inr rfl)))) (fun _ _ _ _ _ => t_none) (fun _ _ _ _ _ => (k_cal takes_w0 hr (c_is_below T) (by decide) (by rfl) (k_cons (k_var (pv 2)) (k_cons (k_var (pv 1)) k_nil)))))) k_nil))))) s_nil))
theorem s_is_lot : FnScope ["value", "limit", "one", "other"] ["value", "limit"] (defScope (top 11)) := ⟨rfl, rfl, rfl, by decide +kernel, rfl, by decide +kernel, by decide +kernel⟩
theorem c_is_lot (T : Txt P mg t) : Cal P w t.K mg base t 5 "is_lot" ["value", "limit"] f_is_lot := have S := s_is_lot; cal_of (k := 4) T.d_is_lot S (fun bx G0 f cdv A outer s H E hr tk po => have hu := hr.units; (s_cons (s_if (k_not (k_test (k_cal tk hr (c_is_told_row T) (by decide) (by rfl) (k_cons (k_var (pv 0)) (k_cons (k_var (pv 1)) k_nil))))) (s_cons (s_ret k_b) s_nil) s_nil) (s_cons (s_ret (k_callB v_all (cr_all rfl) (by rfl) T.n_all bt_all (k_cons (k_sh (k_lc rfl S.nd (own := [(("one" : PySem.Str), 2), (("other" : PySem.Str), 3)]) (by decide) (k_zip (by rfl) T.n_zip (k_cons (k_var (pv 0)) (k_cons (k_slice (k_var (pv 0)) (o_some k_i) o_none) k_nil))) (blkOk_by (by rfl)) (fun _ _ _ _ _ => (g_tup (is := [2, 3]) rfl (pg_tup rfl (pgs_cons (pg_name (i := 2) S.nd rfl (by first | exact .inl rfl | exact .inr rfl)) (pgs_cons (pg_name (i := 3) S.nd rfl (by first | exact .inl rfl | exact .inr rfl)) pgs_nil))) (pg_lst rfl (pgs_cons (pg_name (i := 2) S.nd rfl (by first | exact .inl rfl | exact .inr rfl)) (pgs_cons (pg_name (i := 3) S.nd rfl (by first | exact .inl rfl | exact .inr rfl)) pgs_nil))))) (fun _ _ _ _ _ => t_none) (fun _ _ _ _ _ => (k_cmp v_lt op_lt (k_var (pv 2)) (k_var (pv 3)) (nomark _))))) k_nil))) s_nil)))
theorem s_integer_of : FnScope ["word", "sign"] ["word"] (defScope (top 16)) := ⟨rfl, rfl, rfl, by decide +kernel, rfl, by decide +kernel, by decide +kernel⟩
theorem c_integer_of (T : Txt P mg t) : Cal P w t.K mg base t 2 "integer_of" ["word"] f_integer_of := have S := s_integer_of; cal_of (k := 1) T.d_integer_of S (fun bx G0 f cdv A outer s H E hr tk po => have hu := hr.units; (s_cons (s_if (k_bool (k_or (k_not (k_tchain v_le v_le op_le op_le k_i (k_callB v_len call_len (by rfl) T.n_len bt_len (k_cons (k_var (pv 0)) k_nil)) (k_gI (by rfl) T.v_MOST_FIGURES) (by rfl))) (k_or1 (k_not (k_test (k_callB v_all (cr_all rfl) (by rfl) T.n_all bt_all (k_cons (k_sh (k_lc rfl S.nd (own := [(("sign" : PySem.Str), 1)]) (by decide) (k_it (k_var (pv 0))) (blkOk_by (by rfl)) (fun _ _ _ _ _ => (g_name (pg_name (i := 1) S.nd rfl (by first | exact .inl rfl | exact .inr rfl)))) (fun _ _ _ _ _ => t_none) (fun _ _ _ _ _ => (k_cmp v_inSign op_in_sign (k_var (pv 1)) (k_gS (by rfl) T.v_FIGURES) (by rfl))))) k_nil))))))) (s_cons (s_ret k_non) s_nil) s_nil) (s_cons (s_if (k_bool (k_and (k_tcmp v_eq (o_eq hu) (k_ix v_ix ix_seq (k_var (pv 0)) k_i (fun _ _ => rfl)) k_s (nomark _)) (k_and1 (k_tcmp v_ne (o_ne hu) (k_var (pv 0)) k_s (nomark _))))) (s_cons (s_ret k_non) s_nil) s_nil) (s_cons (s_ret (k_callTy v_int o_int (by rfl) T.n_int bt_int (k_cons (k_var (pv 0)) k_nil))) s_nil))))
theorem s_integers_of : FnScope ["words", "found", "word", "number"] ["words"] (defScope (top 17)) := ⟨rfl, rfl, rfl, by decide +kernel, rfl, by decide +kernel, by decide +kernel⟩
theorem c_integers_of (T : Txt P mg t) : Cal P w t.K mg base t 3 "integers_of" ["words"] f_integers_of := have S := s_integers_of; cal_of (k := 2) T.d_integers_of S (fun bx G0 f cdv A outer s H E hr tk po => have hu := hr.units; (s_cons (s_asgLc rfl S.nd rfl rfl (by rfl) (own := [(("word" : PySem.Str), 2)]) (by decide) (k_it (k_var (pv 0))) (blkOk_by (by rfl)) (fun _ _ _ _ _ => (g_name (pg_name (i := 2) S.nd rfl (by first | exact .inl rfl | exact .inr rfl)))) (fun _ _ _ _ _ => t_none) (fun _ _ _ _ _ => (k_cal takes_w0 hr (c_integer_of T) (by decide) (by rfl) (k_cons (k_var (pv 2)) k_nil)))) (s_share (s_cons (s_if (k_test (k_callB v_any (cr_any rfl) (by rfl) T.n_any bt_any (k_cons (k_sh (k_lc rfl S.nd (own := [(("number" : PySem.Str), 3)]) (by decide) (k_it (k_var (pv 1))) (blkOk_by (by rfl)) (fun _ _ _ _ _ => (g_name (pg_name (i := 3) S.nd rfl (by first | exact .inl rfl | exact .inr rfl)))) (fun _ _ _ _ _ => t_none) (fun _ _ _ _ _ => (k_cmp v_isN op_isN (k_var (pv 3)) k_non (nomark _))))) k_nil))) (s_cons (s_ret k_non) s_nil) s_nil) (s_cons (s_ret (k_callTy v_tuple call_tuple_of (by rfl) T.n_tuple bt_tuple (k_cons (k_var (pv 1)) k_nil))) s_nil)))))
theorem s_rows_of : FnScope ["text"] ["text"] (defScope (top 18)) := ⟨rfl, rfl, rfl, by decide +kernel, rfl, by decide +kernel, by decide +kernel⟩
theorem c_rows_of (T : Txt P mg t) : Cal P w t.K mg base t 2 "rows_of" ["text"] f_rows_of := have S := s_rows_of; cal_of (k := 1) T.d_rows_of S (fun bx G0 f cdv A outer s H E hr tk po => have hu := hr.units; (s_cons (s_if (k_not (k_test (k_isi ty_str (by rfl) T.n_isinstance (k_var (pv 0)) (pe_tyN (by rfl) T.n_str bt_str)))) (s_cons (s_raiseE rfl tk hr T.e_InvalidText (k_un v_neg un_neg k_i) (by rfl)) s_nil) s_nil) (s_cons (s_ret (k_sh (k_split (k_var (pv 0)) k_s))) s_nil)))
theorem s_row_text : FnScope ["word", "numbers", "number"] ["word", "numbers"] (defScope (top 19)) := ⟨rfl, rfl, rfl, by decide +kernel, rfl, by decide +kernel, by decide +kernel⟩
theorem c_row_text (T : Txt P mg t) : Cal P w t.K mg base t 2 "row_text" ["word", "numbers"] f_row_text := have S := s_row_text; cal_of (k := 1) T.d_row_text S (fun bx G0 f cdv A outer s H E hr tk po => have hu := hr.units; (s_cons (s_ret (k_join k_s (k_sh (k_catL (k_sh (k_lst (k_cons (k_var (pv 0)) k_nil))) (k_sh (k_lc rfl S.nd (own := [(("number" : PySem.Str), 2)]) (by decide) (k_it (k_var (pv 1))) (blkOk_by (by rfl)) (fun _ _ _ _ _ => (g_name (pg_name (i := 2) S.nd rfl (by first | exact .inl rfl | exact .inr rfl)))) (fun _ _ _ _ _ => t_none) (fun _ _ _ _ _ => (k_callTy v_str call_str_int (by rfl) T.n_str bt_str (k_cons (k_var (pv 2)) k_nil))))))))) s_nil))
theorem s_numbers_at : FnScope ["rows", "at", "word", "words", "found"] ["rows", "at", "word"] (defScope (top 20)) := ⟨rfl, rfl, rfl, by decide +kernel, rfl, by decide +kernel, by decide +kernel⟩
theorem c_numbers_at (T : Txt P mg t) : Cal P w t.K mg base t 4 "numbers_at" ["rows", "at", "word"] f_numbers_at := have S := s_numbers_at; cal_of (k := 3) T.d_numbers_at S (fun bx G0 f cdv A outer s H E hr tk po => have hu := hr.units; (s_cons (s_if (k_tcmp v_ge op_ge (k_var (pv 1)) (k_callB v_len call_len (by rfl) T.n_len bt_len (k_cons (k_var (pv 0)) k_nil)) (nomark _)) (s_cons (s_raiseE rfl tk hr T.e_InvalidText (k_var (pv 1)) (by rfl)) s_nil) s_nil) (s_cons (s_asg S.nd rfl (by first | exact .inl rfl | exact .inr rfl) (k_sh (k_split (k_ix v_ix ix_seq (k_var (pv 0)) (k_var (pv 1)) (fun _ _ => rfl)) k_s))) (s_cons (s_asg S.nd rfl (by first | exact .inl rfl | exact .inr rfl) (k_cal tk hr (c_integers_of T) (by decide) (by rfl) (k_cons (k_slice (k_var (pv 3)) (o_some k_i) o_none) k_nil))) (s_cons (s_if (k_bool (k_or (k_tcmp v_ne (o_ne hu) (k_ix v_ix ix_seq (k_var (pv 3)) k_i (fun _ _ => rfl)) (k_var (pv 2)) (nomark _)) (k_or1 (k_tcmp v_isN op_isN (k_var (pv 4)) k_non (nomark _))))) (s_cons (s_raiseE rfl tk hr T.e_InvalidText (k_var (pv 1)) (by rfl)) s_nil) s_nil) (s_cons (s_ret (k_var (pv 4))) s_nil))))))
theorem s_is_told_deed : FnScope ["value", "place"] ["value"] (defScope (top 21)) := ⟨rfl, rfl, rfl, by decide +kernel, rfl, by decide +kernel, by decide +kernel⟩
theorem c_is_told_deed (T : Txt P mg t) : Cal P w t.K mg base t 6 "is_told_deed" ["value"] f_is_told_deed := have S := s_is_told_deed; cal_of (k := 5) T.d_is_told_deed S (fun bx G0 f cdv A outer s H E hr tk po => have hu := hr.units; (s_cons (s_if (k_bool (k_or (k_not (k_test (k_cal tk hr (c_is_row T) (by decide) (by rfl) (k_cons (k_var (pv 0)) (k_cons k_i k_nil))))) (k_or (k_not (k_test (k_cal tk hr (c_is_number T) (by decide) (by rfl) (k_cons (k_ix v_ix ix_seq (k_var (pv 0)) k_i (fun _ _ => rfl)) k_nil)))) (k_or1 (k_not (k_test (k_cal tk hr (c_is_sequence T) (by decide) (by rfl) (k_cons (k_ix v_ix ix_seq (k_var (pv 0)) k_i (fun _ _ => rfl)) k_nil)))))))) (s_cons (s_ret k_b) s_nil) s_nil) (s_cons (s_ret (k_andV (k_callB v_all (cr_all rfl) (by rfl) T.n_all bt_all (k_cons (k_sh (k_lc rfl S.nd (own := [(("place" : PySem.Str), 1)]) (by decide) (k_it (k_ix v_ix ix_seq (k_var (pv 0)) k_i (fun _ _ => rfl))) (blkOk_by (by rfl)) (fun _ _ _ _ _ => (g_name (pg_name (i := 1) S.nd rfl (by first | exact .inl rfl | exact .inr rfl)))) (fun _ _ _ _ _ => t_none) (fun _ _ _ _ _ => (k_cal takes_w0 hr (c_is_number T) (by decide) (by rfl) (k_cons (k_var (pv 1)) k_nil))))) k_nil)) (k_oneV (k_cal tk hr (c_is_lot T) (by decide) (by rfl) (k_cons (k_callTy v_tuple call_tuple_of (by rfl) T.n_tuple bt_tuple (k_cons (k_ix v_ix ix_seq (k_var (pv 0)) k_i (fun _ _ => rfl)) k_nil)) (k_cons (k_op v_add o_add (k_maxD rfl (by rfl) T.n_max (k_ix v_ix ix_seq (k_var (pv 0)) k_i (fun _ _ => rfl))) k_i) k_nil)))))) s_nil)))
theorem s_course_text : FnScope ["deeds", "at", "deed", "kind", "places"] ["deeds"] (defScope (top 22)) := ⟨rfl, rfl, rfl, by decide +kernel, rfl, by decide +kernel, by decide +kernel⟩
theorem c_course_text (T : Txt P mg t) : Cal P w t.K mg base t 7 "course_text" ["deeds"] f_course_text := have S := s_course_text; cal_of (k := 6) T.d_course_text S (fun bx G0 f cdv A outer s H E hr tk po => have hu := hr.units; (s_cons (s_if (k_bool (k_or (k_not (k_test (k_cal tk hr (c_is_sequence T) (by decide) (by rfl) (k_cons (k_var (pv 0)) k_nil)))) (k_or1 (k_tcmp v_gt op_gt (k_callB v_len call_len (by rfl) T.n_len bt_len (k_cons (k_var (pv 0)) k_nil)) (k_gI (by rfl) T.v_MOST_VISITS) (nomark _))))) (s_cons (s_raiseE rfl tk hr T.e_InvalidCourse (k_un v_neg un_neg k_i) (by rfl)) s_nil) s_nil) (s_cons (s_for po rfl (k_enum2 (by rfl) T.n_enumerate (k_cons (k_var (pv 0)) k_nil)) (g_tup (is := [1, 2]) rfl (pg_tup rfl (pgs_cons (pg_name (i := 1) S.nd rfl (by first | exact .inl rfl | exact .inr rfl)) (pgs_cons (pg_name (i := 2) S.nd rfl (by first | exact .inl rfl | exact .inr rfl)) pgs_nil))) (pg_lst rfl (pgs_cons (pg_name (i := 1) S.nd rfl (by first | exact .inl rfl | exact .inr rfl)) (pgs_cons (pg_name (i := 2) S.nd rfl (by first | exact .inl rfl | exact .inr rfl)) pgs_nil)))) (s_cons (s_if (k_not (k_test (k_cal tk hr (c_is_told_deed T) (by decide) (by rfl) (k_cons (k_var (pv 2)) k_nil)))) (s_cons (s_raiseE rfl tk hr T.e_InvalidCourse (k_var (pv 1)) (by rfl)) s_nil) s_nil) s_nil)) (s_cons (s_ret (k_join k_s (k_sh (k_lc rfl S.nd (own := [(("kind" : PySem.Str), 3), (("places" : PySem.Str), 4)]) (by decide) (k_it (k_var (pv 0))) (blkOk_by (by rfl)) (fun _ _ _ _ _ => (g_tup (is := [3, 4]) rfl (pg_tup rfl (pgs_cons (pg_name (i := 3) S.nd rfl (by first | exact .inl rfl | exact .inr rfl)) (pgs_cons (pg_name (i := 4) S.nd rfl (by first | exact .inl rfl | exact .inr rfl)) pgs_nil))) (pg_lst rfl (pgs_cons (pg_name (i := 3) S.nd rfl (by first | exact .inl rfl | exact .inr rfl)) (pgs_cons (pg_name (i := 4) S.nd rfl (by first | exact .inl rfl | exact .inr rfl)) pgs_nil))))) (fun _ _ _ _ _ => t_none) (fun _ _ _ _ _ => (k_cal takes_w0 hr (c_row_text T) (by decide) (by rfl) (k_cons k_s (k_cons (k_sh (k_catL (k_sh (k_lst (k_cons (k_var (pv 3)) k_nil))) (k_sh (k_callNTy v_list call_list_of (by rfl) T.n_list bt_list (k_cons (k_var (pv 4)) k_nil))))) k_nil)))))))) s_nil))))
theorem s_read_course : FnScope ["text", "rows", "found", "at", "numbers"] ["text"] (defScope (top 23)) := ⟨rfl, rfl, rfl, by decide +kernel, rfl, by decide +kernel, by decide +kernel⟩
theorem c_read_course (T : Txt P mg t) : Cal P w t.K mg base t 7 "read_course" ["text"] f_read_course := have S := s_read_course; cal_of (k := 6) T.d_read_course S (fun bx G0 f cdv A outer s H E hr tk po => have hu := hr.units; (s_cons (s_asg S.nd rfl (by first | exact .inl rfl | exact .inr rfl) (k_cal tk hr (c_rows_of T) (by decide) (by rfl) (k_cons (k_var (pv 0)) k_nil))) (s_cons (s_if (k_tcmp v_eq (o_eq hu) (k_var (pv 1)) (k_sh (k_lst (k_cons k_s k_nil))) (nomark _)) (s_cons (s_ret (k_tup k_nil)) s_nil) s_nil) (s_cons (s_asgO S.nd rfl (by first | exact .inl rfl | exact .inr rfl) (k_lst k_nil)) (s_cons (s_for po rfl (k_range1 (by rfl) T.n_range (k_cons (k_callB v_len call_len (by rfl) T.n_len bt_len (k_cons (k_var (pv 1)) k_nil)) k_nil)) (g_name (pg_name (i := 3) S.nd rfl (by first | exact .inl rfl | exact .inr rfl))) (s_cons (s_asg S.nd rfl (by first | exact .inl rfl | exact .inr rfl) (k_cal tk hr (c_numbers_at T) (by decide) (by rfl) (k_cons (k_var (pv 1)) (k_cons (k_var (pv 3)) (k_cons k_s k_nil))))) (s_cons (s_if (k_bool (k_or (k_tcmp v_eq (o_eq hu) (k_var (pv 3)) (k_gI (by rfl) T.v_MOST_VISITS) (nomark _)) (k_or (k_tcmp v_eq (o_eq hu) (k_callB v_len call_len (by rfl) T.n_len bt_len (k_cons (k_var (pv 4)) k_nil)) k_i (nomark _)) (k_or1 (k_not (k_test (k_cal tk hr (c_is_told_deed T) (by decide) (by rfl) (k_cons (k_tup (k_cons (k_ix v_ix ix_seq (k_var (pv 4)) k_i (fun _ _ => rfl)) (k_cons (k_slice (k_var (pv 4)) (o_some k_i) o_none) k_nil))) k_nil)))))))) (s_cons (s_raiseE rfl tk hr T.e_InvalidText (k_var (pv 3)) (by rfl)) s_nil) s_nil) (s_cons (s_app (pv 2) (k_tup (k_cons (k_ix v_ix ix_seq (k_var (pv 4)) k_i (fun _ _ => rfl)) (k_cons (k_slice (k_var (pv 4)) (o_some k_i) o_none) k_nil))) (fun h1 h2 => pe_bm PySem.F.plainAttrs_list PySem.F.slot_list_append PySem.F.type_list_append mt_append h1 h2)) s_nil)))) (s_share (s_cons (s_ret (k_callTy v_tuple call_tuple_of (by rfl) T.n_tuple bt_tuple (k_cons (k_var (pv 2)) k_nil))) s_nil)))))))
theorem s_law_pick : FnScope ["box", "some"] ["box", "some"] (defScope (top 27)) := ⟨rfl, rfl, rfl, by decide +kernel, rfl, by decide +kernel, by decide +kernel⟩
theorem c_law_pick (T : Txt P mg t) : Cal P w t.K mg base t 7 "_law_pick" ["box", "some"] f_law_pick := have S := s_law_pick; cal_of (k := 6) T.d_law_pick S (fun bx G0 f cdv A outer s H E hr tk po => have hu := hr.units; (s_cons (s_ret (k_ix v_ix ix_seq (k_var (pv 1)) (k_cal tk hr (c_law_draw T) (by decide) (by rfl) (k_cons (k_var (pv 0)) (k_cons (k_callB v_len call_len (by rfl) T.n_len bt_len (k_cons (k_var (pv 1)) k_nil)) k_nil))) (fun _ _ => rfl))) s_nil))
theorem s_law_tells : FnScope ["value", "due"] ["value", "due"] (defScope (top 28)) := ⟨rfl, rfl, rfl, by decide +kernel, rfl, by decide +kernel, by decide +kernel⟩
theorem c_law_tells (T : Txt P mg t) : Cal P w t.K mg base t 2 "_law_tells" ["value", "due"] f_law_tells := have S := s_law_tells; cal_of (k := 1) T.d_law_tells S (fun bx G0 f cdv A outer s H E hr tk po => have hu := hr.units; (s_cons (s_ret (k_if (k_test (k_var (pv 1))) (k_cmp v_isB op_isBl (k_var (pv 0)) k_b (nomark _)) (k_cmp v_isB op_isBl (k_var (pv 0)) k_b (nomark _)))) s_nil))
theorem s_law_is_int : FnScope ["value"] ["value"] (defScope (top 29)) := ⟨rfl, rfl, rfl, by decide +kernel, rfl, by decide +kernel, by decide +kernel⟩
theorem c_law_is_int (T : Txt P mg t) : Cal P w t.K mg base t 2 "_law_is_int" ["value"] f_law_is_int := have S := s_law_is_int; cal_of (k := 1) T.d_law_is_int S (fun bx G0 f cdv A outer s H E hr tk po => have hu := hr.units; (s_cons (s_ret (k_andV (k_isi ty_int (by rfl) T.n_isinstance (k_var (pv 0)) (pe_tyN (by rfl) T.n_int bt_int)) (k_oneV (k_notV (k_isi ty_bool (by rfl) T.n_isinstance (k_var (pv 0)) (pe_tyN (by rfl) T.n_bool bt_bool)))))) s_nil))
theorem h_law_is_int (T : Txt P mg t) : CalH P w t.K mg base t 2 "_law_is_int" ["value"] f_law_is_int := have S := s_law_is_int; calH_of (k := 1) T.d_law_is_int S (fun bx G0 f cdv A outer s H E p hr hc tk => (s_cons (s_ret (k_andV (k_isi ty_int (by rfl) T.n_isinstance (k_var (pv 0)) (pe_tyN (by rfl) T.n_int bt_int)) (k_oneV (k_notV (k_isi ty_bool (by rfl) T.n_isinstance (k_var (pv 0)) (pe_tyN (by rfl) T.n_bool bt_bool)))))) s_nil))
theorem s_law_place : FnScope ["value"] ["value"] (defScope (top 30)) := ⟨rfl, rfl, rfl, by decide +kernel, rfl, by decide +kernel, by decide +kernel⟩
theorem c_law_place (T : Txt P mg t) : Cal P w t.K mg base t 3 "_law_place" ["value"] f_law_place := have S := s_law_place; cal_of (k := 2) T.d_law_place S (fun bx G0 f cdv A outer s H E hr tk po => have hu := hr.units; (s_cons (s_ret (k_if (k_bool (k_or (k_test (k_cal tk hr (c_law_is_int T) (by decide) (by rfl) (k_cons (k_var (pv 0)) k_nil))) (k_or1 (k_test (k_isi ty_str (by rfl) T.n_isinstance (k_var (pv 0)) (pe_tyN (by rfl) T.n_str bt_str)))))) (k_var (pv 0)) (k_tup (k_cons k_s k_nil)))) s_nil))
theorem h_law_place (T : Txt P mg t) : CalH P w t.K mg base t 3 "_law_place" ["value"] f_law_place := have S := s_law_place; calH_of (k := 2) T.d_law_place S (fun bx G0 f cdv A outer s H E p hr hc tk => (s_cons (s_ret (k_if (k_bool (k_or (k_test (k_calH tk hr hc (h_law_is_int T) (by decide) (by rfl) (k_cons (k_var (pv 0)) k_nil))) (k_or1 (k_test (k_isi ty_str (by rfl) T.n_isinstance (k_var (pv 0)) (pe_tyN (by rfl) T.n_str bt_str)))))) (k_var (pv 0)) (k_tup (k_cons k_s k_nil)))) s_nil))
theorem s_law_same : FnScope ["value", "due", "at"] ["value", "due"] (defScope (top 31)) := ⟨rfl, rfl, rfl, by decide +kernel, rfl, by decide +kernel, by decide +kernel⟩
theorem c_law_same (T : Txt P mg t) : ∀ n, Cal P w t.K mg base t (3 + n) "_law_same" ["value", "due"] (f_law_same n)
  | 0 => cal_bad T.d_law_same
  | n + 1 => have C := c_law_same T n; have S := s_law_same; cal_of (k := 3 + n) T.d_law_same S (fun bx G0 f cdv A outer s H E hr tk po => have hu := hr.units; (s_cons (s_if (k_test (k_isi ty_tuple (by rfl) T.n_isinstance (k_var (pv 1)) (pe_tyN (by rfl) T.n_tuple bt_tuple))) (s_cons (s_if (k_bool (k_or (k_not (k_test (k_isi ty_tuple (by rfl) T.n_isinstance (k_var (pv 0)) (pe_tyN (by rfl) T.n_tuple bt_tuple)))) (k_or1 (k_tcmp v_ne (o_ne hu) (k_callB v_len call_len (by rfl) T.n_len bt_len (k_cons (k_var (pv 0)) k_nil)) (k_callB v_len call_len (by rfl) T.n_len bt_len (k_cons (k_var (pv 1)) k_nil)) (nomark _))))) (s_cons (s_ret k_b) s_nil) s_nil) (s_cons (s_ret (k_cmp v_eq (o_eq hu) (k_sh (k_lc rfl S.nd (own := [(("at" : PySem.Str), 2)]) (by decide) (k_range1 (by rfl) T.n_range (k_cons (k_callB v_len call_len (by rfl) T.n_len bt_len (k_cons (k_var (pv 1)) k_nil)) k_nil)) (blkOk_by (by rfl)) (fun _ _ _ _ _ => (g_name (pg_name (i := 2) S.nd rfl (by first | exact .inl rfl | exact .inr rfl)))) (fun _ _ _ _ _ => (t_one (k_not (k_test (k_cal takes_w0 hr C (by omega) (by rfl) (k_cons (k_ix v_ix ix_seq (k_var (pv 0)) (k_var (pv 2)) (fun _ _ => rfl)) (k_cons (k_ix v_ix ix_seq (k_var (pv 1)) (k_var (pv 2)) (fun _ _ => rfl)) k_nil))))))) (fun _ _ _ _ _ => (k_var (pv 2))))) (k_sh (k_lst k_nil)) (nomark _))) s_nil)) s_nil) (s_cons (s_if (k_tcmp v_isN op_isN (k_var (pv 1)) k_non (nomark _)) (s_cons (s_ret (k_cmp v_isN op_isN (k_var (pv 0)) k_non (nomark _))) s_nil) s_nil) (s_cons (s_if (k_test (k_isi ty_bool (by rfl) T.n_isinstance (k_var (pv 1)) (pe_tyN (by rfl) T.n_bool bt_bool))) (s_cons (s_ret (k_cal tk hr (c_law_tells T) (by omega) (by rfl) (k_cons (k_var (pv 0)) (k_cons (k_var (pv 1)) k_nil)))) s_nil) s_nil) (s_cons (s_if (k_test (k_isi ty_str (by rfl) T.n_isinstance (k_var (pv 1)) (pe_tyN (by rfl) T.n_str bt_str))) (s_cons (s_ret (k_andV (k_isi ty_str (by rfl) T.n_isinstance (k_var (pv 0)) (pe_tyN (by rfl) T.n_str bt_str)) (k_oneV (k_cmp v_eq (o_eq hu) (k_var (pv 0)) (k_var (pv 1)) (nomark _))))) s_nil) s_nil) (s_cons (s_ret (k_andV (k_cal tk hr (c_law_is_int T) (by omega) (by rfl) (k_cons (k_var (pv 0)) k_nil)) (k_oneV (k_cmp v_eq (o_eq hu) (k_var (pv 0)) (k_var (pv 1)) (nomark _))))) s_nil))))))
theorem s_law_row_text : FnScope ["word", "numbers", "number"] ["word", "numbers"] (defScope (top 32)) := ⟨rfl, rfl, rfl, by decide +kernel, rfl, by decide +kernel, by decide +kernel⟩
theorem c_law_row_text (T : Txt P mg t) : Cal P w t.K mg base t 2 "_law_row_text" ["word", "numbers"] f_law_row_text := have S := s_law_row_text; cal_of (k := 1) T.d_law_row_text S (fun bx G0 f cdv A outer s H E hr tk po => have hu := hr.units; (s_cons (s_ret (k_join k_s (k_sh (k_catL (k_sh (k_lst (k_cons (k_var (pv 0)) k_nil))) (k_sh (k_lc rfl S.nd (own := [(("number" : PySem.Str), 2)]) (by decide) (k_it (k_var (pv 1))) (blkOk_by (by rfl)) (fun _ _ _ _ _ => (g_name (pg_name (i := 2) S.nd rfl (by first | exact .inl rfl | exact .inr rfl)))) (fun _ _ _ _ _ => t_none) (fun _ _ _ _ _ => (k_callTy v_str call_str_int (by rfl) T.n_str bt_str (k_cons (k_var (pv 2)) k_nil))))))))) s_nil))
theorem s_law_bad_word : FnScope ["box", "word"] ["box", "word"] (defScope (top 33)) := ⟨rfl, rfl, rfl, by decide +kernel, rfl, by decide +kernel, by decide +kernel⟩
theorem c_law_bad_word (T : Txt P mg t) : Cal P w t.K mg base t 8 "_law_bad_word" ["box", "word"] f_law_bad_word := have S := s_law_bad_word; cal_of (k := 7) T.d_law_bad_word S (fun bx G0 f cdv A outer s H E hr tk po => have hu := hr.units; (s_cons (s_ret (k_cal tk hr (c_law_pick T) (by decide) (by rfl) (k_cons (k_var (pv 0)) (k_cons (k_sh (k_lst (k_cons (k_op v_add o_add k_s (k_var (pv 1))) (k_cons (k_op v_add o_add k_s (k_var (pv 1))) (k_cons (k_op v_add o_add (k_var (pv 1)) k_s) (k_cons (k_op v_add o_add (k_var (pv 1)) k_s) (k_cons (k_op v_add o_add k_s (k_var (pv 1))) (k_cons k_s (k_cons (k_op v_add o_add k_s (k_var (pv 1))) (k_cons (k_op v_add o_add (k_var (pv 1)) k_s) (k_cons (k_op v_mulA o_mulA k_s k_i) (k_cons k_s (k_cons k_s (k_cons k_s (k_cons k_s (k_cons k_s (k_cons k_s (k_cons k_s k_nil)))))))))))))))))) k_nil)))) s_nil))
theorem s_law_bad_form : FnScope ["box", "row", "some"] ["box", "row"] (defScope (top 34)) := ⟨rfl, rfl, rfl, by decide +kernel, rfl, by decide +kernel, by decide +kernel⟩
theorem c_law_bad_form (T : Txt P mg t) : Cal P w t.K mg base t 8 "_law_bad_form" ["box", "row"] f_law_bad_form := have S := s_law_bad_form; cal_of (k := 7) T.d_law_bad_form S (fun bx G0 f cdv A outer s H E hr tk po => have hu := hr.units; (s_cons (s_asg S.nd rfl (by first | exact .inl rfl | exact .inr rfl) (k_sh (k_lst (ka_tok v_add o_add (k_var (pv 1)) (kat_cons (ket_of (k_op v_add o_add k_s (k_var (pv 1)))) (kat_cons (ket_of (k_op v_add o_add (k_upper (k_var (pv 1))) k_s)) (kat_cons (ket_of (k_op v_add o_add (k_var (pv 1)) k_s)) (kat_cons (ket_of k_s) (kat_cons (ket_of (k_op v_add o_add (k_var (pv 1)) k_s)) (kat_cons (ket_of (k_op v_add o_add k_s (k_var (pv 1)))) (kat_cons (ket_of (k_op v_add o_add (k_op v_add o_add (k_var (pv 1)) k_s) (k_op v_mulA o_mulA k_s k_i))) (kat_cons (ket_op v_add o_add (ket_repl (k_var (pv 1))) (ket_of k_s)) (kat_cons (ket_op v_add o_add (ket_repl (k_var (pv 1))) (ket_of k_s)) (kat_cons (ket_of k_s) (kat_cons (ket_of k_s) kat_nil))))))))))))))) (s_cons (s_ret (k_cal tk hr (c_law_pick T) (by decide) (by rfl) (k_cons (k_var (pv 0)) (k_cons (k_var (pv 2)) k_nil)))) s_nil)))
theorem s_law_read : FnScope ["text", "e"] ["text"] (defScope (top 35)) := ⟨rfl, rfl, rfl, by decide +kernel, rfl, by decide +kernel, by decide +kernel⟩
theorem c_law_read (T : Txt P mg t) : Cal P w t.K mg base t 8 "_law_read" ["text"] f_law_read := have S := s_law_read; cal_of (k := 7) T.d_law_read S (fun bx G0 f cdv A outer s H E hr tk po => have hu := hr.units; (s_cons (s_tryE (i := 1) rfl rfl S.nd rfl rfl (by rfl) tk T.e_InvalidText hr (h_law_place T) (by decide) (by rfl) (fun _ _ _ tk2 _ => (s_cons (s_ret (k_tup (k_cons k_s (k_cons (k_cal tk2 hr (c_read_course T) (by decide) (by rfl) (k_cons (k_var (pv 0)) k_nil)) k_nil)))) s_nil))) s_nil))
theorem s_law_written : FnScope ["value", "e"] ["value"] (defScope (top 36)) := ⟨rfl, rfl, rfl, by decide +kernel, rfl, by decide +kernel, by decide +kernel⟩
theorem c_law_written (T : Txt P mg t) : Cal P w t.K mg base t 8 "_law_written" ["value"] f_law_written := have S := s_law_written; cal_of (k := 7) T.d_law_written S (fun bx G0 f cdv A outer s H E hr tk po => have hu := hr.units; (s_cons (s_tryE (i := 1) rfl rfl S.nd rfl rfl (by rfl) tk T.e_InvalidCourse hr (h_law_place T) (by decide) (by rfl) (fun _ _ _ tk2 _ => (s_cons (s_ret (k_tup (k_cons k_s (k_cons (k_cal tk2 hr (c_course_text T) (by decide) (by rfl) (k_cons (k_var (pv 0)) k_nil)) k_nil)))) s_nil))) s_nil))
theorem s_law_deed : FnScope ["box", "size", "turn", "places", "at"] ["box"] (defScope (top 37)) := ⟨rfl, rfl, rfl, by decide +kernel, rfl, by decide +kernel, by decide +kernel⟩
theorem c_law_deed (T : Txt P mg t) : Cal P w t.K mg base t 8 "_law_deed" ["box"] f_law_deed := have S := s_law_deed; cal_of (k := 7) T.d_law_deed S (fun bx G0 f cdv A outer s H E hr tk po => have hu := hr.units; (s_cons (s_asg S.nd rfl (by first | exact .inl rfl | exact .inr rfl) (k_cal tk hr (c_law_pick T) (by decide) (by rfl) (k_cons (k_var (pv 0)) (k_cons (k_sh (k_lst (k_cons k_i (k_cons k_i (k_cons k_i (k_cons k_i (k_cons k_pow k_nil))))))) k_nil)))) (s_cons (s_parO rfl S.nd rfl rfl (by decide) rfl rfl (k_lst k_nil) (k_cal tk hr (c_law_draw T) (by decide) (by rfl) (k_cons (k_var (pv 0)) (k_cons (k_cal tk hr (c_law_pick T) (by decide) (by rfl) (k_cons (k_var (pv 0)) (k_cons (k_sh (k_lst (k_cons k_i (k_cons k_i (k_cons k_pow k_nil))))) k_nil))) k_nil))) (by rfl)) (s_cons (s_for po rfl (k_range1 (by rfl) T.n_range (k_cons (k_cal tk hr (c_law_pick T) (by decide) (by rfl) (k_cons (k_var (pv 0)) (k_cons (k_sh (k_lst (k_cons k_i (k_cons k_i (k_cons k_i (k_cons k_i (k_cons k_i (k_cons (k_cal tk hr (c_law_draw T) (by decide) (by rfl) (k_cons (k_var (pv 0)) (k_cons k_i k_nil))) k_nil)))))))) k_nil))) k_nil)) (g_name (pg_name (i := 2) S.nd rfl (by first | exact .inl rfl | exact .inr rfl))) (s_cons (s_app (pv 3) (k_var (pv 4)) (fun h1 h2 => pe_bm PySem.F.plainAttrs_list PySem.F.slot_list_append PySem.F.type_list_append mt_append h1 h2)) (s_cons (s_asg S.nd rfl (by first | exact .inl rfl | exact .inr rfl) (k_op v_add o_add (k_op v_add o_add (k_var (pv 4)) k_i) (k_cal tk hr (c_law_draw T) (by decide) (by rfl) (k_cons (k_var (pv 0)) (k_cons (k_cal tk hr (c_law_pick T) (by decide) (by rfl) (k_cons (k_var (pv 0)) (k_cons (k_sh (k_lst (k_cons k_i (k_cons k_i (k_cons k_pow k_nil))))) k_nil))) k_nil))))) s_nil))) (s_share (s_cons (s_ret (k_tup (k_cons (k_cal tk hr (c_law_draw T) (by decide) (by rfl) (k_cons (k_var (pv 0)) (k_cons (k_var (pv 1)) k_nil))) (k_cons (k_callTy v_tuple call_tuple_of (by rfl) T.n_tuple bt_tuple (k_cons (k_var (pv 3)) k_nil)) k_nil)))) s_nil))))))
theorem s_law_rows : FnScope ["deeds", "kind", "places"] ["deeds"] (defScope (top 38)) := ⟨rfl, rfl, rfl, by decide +kernel, rfl, by decide +kernel, by decide +kernel⟩
theorem c_law_rows (T : Txt P mg t) : Cal P w t.K mg base t 3 "_law_rows" ["deeds"] f_law_rows := have S := s_law_rows; cal_of (k := 2) T.d_law_rows S (fun bx G0 f cdv A outer s H E hr tk po => have hu := hr.units; (s_cons (s_ret (k_sh (k_lc rfl S.nd (own := [(("kind" : PySem.Str), 1), (("places" : PySem.Str), 2)]) (by decide) (k_it (k_var (pv 0))) (blkOk_by (by rfl)) (fun _ _ _ _ _ => (g_tup (is := [1, 2]) rfl (pg_tup rfl (pgs_cons (pg_name (i := 1) S.nd rfl (by first | exact .inl rfl | exact .inr rfl)) (pgs_cons (pg_name (i := 2) S.nd rfl (by first | exact .inl rfl | exact .inr rfl)) pgs_nil))) (pg_lst rfl (pgs_cons (pg_name (i := 1) S.nd rfl (by first | exact .inl rfl | exact .inr rfl)) (pgs_cons (pg_name (i := 2) S.nd rfl (by first | exact .inl rfl | exact .inr rfl)) pgs_nil))))) (fun _ _ _ _ _ => t_none) (fun _ _ _ _ _ => (k_cal takes_w0 hr (c_law_row_text T) (by decide) (by rfl) (k_cons k_s (k_cons (k_op v_add o_add (k_tup (k_cons (k_var (pv 1)) k_nil)) (k_var (pv 2))) k_nil))))))) s_nil))
theorem s_law_bad_deed : FnScope ["box", "deed", "some", "kind", "places"] ["box", "deed"] (defScope (top 39)) := ⟨rfl, rfl, rfl, by decide +kernel, rfl, by decide +kernel, by decide +kernel⟩
theorem c_law_bad_deed (T : Txt P mg t) : Cal P w t.K mg base t 8 "_law_bad_deed" ["box", "deed"] f_law_bad_deed := have S := s_law_bad_deed; cal_of (k := 7) T.d_law_bad_deed S (fun bx G0 f cdv A outer s H E hr tk po => have hu := hr.units; (s_cons (s_asgG (k_var (pv 1)) (g_tup (is := [3, 4]) rfl (pg_tup rfl (pgs_cons (pg_name (i := 3) S.nd rfl (by first | exact .inl rfl | exact .inr rfl)) (pgs_cons (pg_name (i := 4) S.nd rfl (by first | exact .inl rfl | exact .inr rfl)) pgs_nil))) (pg_lst rfl (pgs_cons (pg_name (i := 3) S.nd rfl (by first | exact .inl rfl | exact .inr rfl)) (pgs_cons (pg_name (i := 4) S.nd rfl (by first | exact .inl rfl | exact .inr rfl)) pgs_nil))))) (s_cons (s_asg S.nd rfl (by first | exact .inl rfl | exact .inr rfl) (k_sh (k_lst (k_cons k_non (k_cons k_i (k_cons k_s (k_cons (k_var (pv 3)) (k_cons (k_tup (k_cons (k_var (pv 3)) k_nil)) (k_cons (k_tup (k_cons (k_var (pv 3)) (k_cons (k_var (pv 4)) (k_cons k_i k_nil)))) (k_cons (k_tup (k_cons (k_var (pv 4)) (k_cons (k_var (pv 3)) k_nil))) (k_cons (k_tup (k_cons (k_un v_neg un_neg k_i) (k_cons (k_var (pv 4)) k_nil))) (k_cons (k_tup (k_cons k_b (k_cons (k_var (pv 4)) k_nil))) (k_cons (k_tup (k_cons k_non (k_cons (k_var (pv 4)) k_nil))) (k_cons (k_tup (k_cons (k_callTy v_str call_str_int (by rfl) T.n_str bt_str (k_cons (k_var (pv 3)) k_nil)) (k_cons (k_var (pv 4)) k_nil))) (k_cons (k_tup (k_cons (k_var (pv 3)) (k_cons k_non k_nil))) (k_cons (k_tup (k_cons (k_var (pv 3)) (k_cons k_i k_nil))) (k_cons (k_tup (k_cons (k_var (pv 3)) (k_cons k_s k_nil))) (k_cons (k_tup k_nil) k_nil)))))))))))))))))) (s_cons (s_asg S.nd rfl (by first | exact .inl rfl | exact .inr rfl) (k_sh (k_catL (k_var (pv 2)) (k_sh (k_lst (k_cons (k_tup (k_cons (k_var (pv 3)) (k_cons (k_op v_add o_add (k_tup (k_cons (k_un v_neg un_neg k_i) k_nil)) (k_var (pv 4))) k_nil))) (k_cons (k_tup (k_cons (k_var (pv 3)) (k_cons (k_op v_add o_add (k_var (pv 4)) (k_tup (k_cons k_non k_nil))) k_nil))) (k_cons (k_tup (k_cons (k_var (pv 3)) (k_cons (k_op v_add o_add (k_tup (k_cons k_i (k_cons k_i k_nil))) (k_var (pv 4))) k_nil))) (k_cons (k_tup (k_cons (k_var (pv 3)) (k_cons (k_tup (k_cons k_i (k_cons k_b k_nil))) k_nil))) (k_cons (k_tup (k_cons (k_var (pv 3)) (k_cons (k_tup (k_cons k_i (k_cons k_i k_nil))) k_nil))) (k_cons (k_tup (k_cons (k_var (pv 3)) (k_cons (k_tup (k_cons k_b k_nil)) k_nil))) (k_cons (k_tup (k_cons (k_var (pv 3)) (k_cons (k_tup (k_cons (k_tup (k_cons k_i k_nil)) k_nil)) k_nil))) (k_cons (k_tup (k_cons (k_var (pv 3)) (k_cons (k_sh (k_lst (k_cons k_s k_nil))) k_nil))) k_nil))))))))))))) (s_cons (s_if (k_tcmp v_ne (o_ne hu) (k_var (pv 4)) (k_tup k_nil) (nomark _)) (s_cons (s_asg S.nd rfl (by first | exact .inl rfl | exact .inr rfl) (k_sh (k_catL (k_var (pv 2)) (k_sh (k_lst (k_cons (k_tup (k_cons (k_var (pv 3)) (k_cons (k_op v_add o_add (k_var (pv 4)) (k_slice (k_var (pv 4)) (o_some (k_un v_neg un_neg k_i)) o_none)) k_nil))) (k_cons (k_tup (k_cons (k_var (pv 3)) (k_cons (k_op v_add o_add (k_slice (k_var (pv 4)) o_none (o_some k_i)) (k_var (pv 4))) k_nil))) (k_cons (k_tup (k_cons (k_var (pv 3)) (k_cons (k_op v_add o_add (k_var (pv 4)) (k_tup (k_cons k_i k_nil))) k_nil))) (k_cons (k_tup (k_cons (k_var (pv 3)) (k_cons (k_op v_add o_add (k_slice (k_var (pv 4)) o_none (o_some (k_un v_neg un_neg k_i))) (k_tup (k_cons (k_callTy v_str call_str_int (by rfl) T.n_str bt_str (k_cons (k_ix v_ix ix_seq (k_var (pv 4)) (k_un v_neg un_neg k_i) (fun _ _ => rfl)) k_nil)) k_nil))) k_nil))) k_nil))))))))) s_nil) s_nil) (s_cons (s_ret (k_cal tk hr (c_law_pick T) (by decide) (by rfl) (k_cons (k_var (pv 0)) (k_cons (k_var (pv 2)) k_nil)))) s_nil))))))
theorem s_law_bad_row : FnScope ["box", "row", "words", "at", "some"] ["box", "row"] (defScope (top 40)) := ⟨rfl, rfl, rfl, by decide +kernel, rfl, by decide +kernel, by decide +kernel⟩
theorem c_law_bad_row (T : Txt P mg t) : Cal P w t.K mg base t 9 "_law_bad_row" ["box", "row"] f_law_bad_row := have S := s_law_bad_row; cal_of (k := 8) T.d_law_bad_row S (fun bx G0 f cdv A outer s H E hr tk po => have hu := hr.units; (s_cons (s_asg S.nd rfl (by first | exact .inl rfl | exact .inr rfl) (k_sh (k_split (k_var (pv 1)) k_s))) (s_cons (s_asg S.nd rfl (by first | exact .inl rfl | exact .inr rfl) (k_op v_add o_add k_i (k_cal tk hr (c_law_draw T) (by decide) (by rfl) (k_cons (k_var (pv 0)) (k_cons (k_op v_sub op_sub (k_callB v_len call_len (by rfl) T.n_len bt_len (k_cons (k_var (pv 2)) k_nil)) k_i) k_nil))))) (s_cons (s_asg S.nd rfl (by first | exact .inl rfl | exact .inr rfl) (k_sh (k_lst (k_cons (k_cal tk hr (c_law_bad_form T) (by decide) (by rfl) (k_cons (k_var (pv 0)) (k_cons (k_var (pv 1)) k_nil))) (k_cons (k_cal tk hr (c_law_bad_form T) (by decide) (by rfl) (k_cons (k_var (pv 0)) (k_cons (k_var (pv 1)) k_nil))) (k_cons k_s (k_cons k_s (k_cons k_s (k_cons k_s (k_cons k_s (k_cons k_s (k_cons k_s (k_cons (k_op v_add o_add k_s (k_op v_mulA o_mulA k_s k_i)) (k_cons k_s (k_cons k_s k_nil))))))))))))))) (s_cons (s_asg S.nd rfl (by first | exact .inl rfl | exact .inr rfl) (k_sh (k_catL (k_var (pv 4)) (k_sh (k_repL (k_sh (k_lst (k_cons (k_join k_s (k_sh (k_catL (k_sh (k_catL (k_slice (k_var (pv 2)) o_none (o_some (k_var (pv 3)))) (k_sh (k_lst (k_cons (k_cal tk hr (c_law_bad_word T) (by decide) (by rfl) (k_cons (k_var (pv 0)) (k_cons (k_ix v_ix ix_seq (k_var (pv 2)) (k_var (pv 3)) (fun _ _ => rfl)) k_nil))) k_nil))))) (k_slice (k_var (pv 2)) (o_some (k_op v_add o_add (k_var (pv 3)) k_i)) o_none)))) k_nil))) k_i))))) (s_cons (s_if (k_tcmp v_gt op_gt (k_callB v_len call_len (by rfl) T.n_len bt_len (k_cons (k_var (pv 2)) k_nil)) k_i (nomark _)) (s_cons (s_asg S.nd rfl (by first | exact .inl rfl | exact .inr rfl) (k_sh (k_catL (k_var (pv 4)) (k_sh (k_lst (k_cons (k_op v_add o_add (k_op v_add o_add (k_var (pv 1)) k_s) (k_ix v_ix ix_seq (k_var (pv 2)) (k_un v_neg un_neg k_i) (fun _ _ => rfl))) (k_cons (k_op v_add o_add (k_var (pv 1)) k_s) k_nil))))))) s_nil) s_nil) (s_cons (s_ret (k_cal tk hr (c_law_pick T) (by decide) (by rfl) (k_cons (k_var (pv 0)) (k_cons (k_var (pv 4)) k_nil)))) s_nil)))))))
theorem s_law_wrong_texts : FnScope ["box", "rows", "turn", "at", "row", "found"] ["box", "rows"] (defScope (top 41)) := ⟨rfl, rfl, rfl, by decide +kernel, rfl, by decide +kernel, by decide +kernel⟩
theorem c_law_wrong_texts (T : Txt P mg t) : Cal P w t.K mg base t 11 "_law_wrong_texts" ["box", "rows"] f_law_wrong_texts := have S := s_law_wrong_texts; cal_of (k := 10) T.d_law_wrong_texts S (fun bx G0 f cdv A outer s H E hr tk po => have hu := hr.units; (s_cons (s_for po rfl (k_range1 (by rfl) T.n_range (k_cons k_i k_nil)) (g_name (pg_name (i := 2) S.nd rfl (by first | exact .inl rfl | exact .inr rfl))) (s_cons (s_asg S.nd rfl (by first | exact .inl rfl | exact .inr rfl) (k_cal tk hr (c_law_pick T) (by decide) (by rfl) (k_cons (k_var (pv 0)) (k_cons (k_sh (k_lst (k_cons k_i (k_cons (k_callB v_len call_len (by rfl) T.n_len bt_len (k_cons (k_var (pv 1)) k_nil)) (k_cons (k_cal tk hr (c_law_draw T) (by decide) (by rfl) (k_cons (k_var (pv 0)) (k_cons (k_op v_add o_add (k_callB v_len call_len (by rfl) T.n_len bt_len (k_cons (k_var (pv 1)) k_nil)) k_i) k_nil))) k_nil))))) k_nil)))) (s_cons (s_asg S.nd rfl (by first | exact .inl rfl | exact .inr rfl) (k_cal tk hr (c_law_bad_row T) (by decide) (by rfl) (k_cons (k_var (pv 0)) (k_cons (k_if (k_tcmp v_lt op_lt (k_var (pv 3)) (k_callB v_len call_len (by rfl) T.n_len bt_len (k_cons (k_var (pv 1)) k_nil)) (nomark _)) (k_ix v_ix ix_seq (k_var (pv 1)) (k_var (pv 3)) (fun _ _ => rfl)) k_s) k_nil)))) (s_cons (s_asg S.nd rfl (by first | exact .inl rfl | exact .inr rfl) (k_sh (k_catL (k_sh (k_catL (k_slice (k_var (pv 1)) o_none (o_some (k_var (pv 3)))) (k_sh (k_lst (k_cons (k_var (pv 4)) k_nil))))) (k_slice (k_var (pv 1)) (o_some (k_op v_add o_add (k_var (pv 3)) (k_cal tk hr (c_law_draw T) (by decide) (by rfl) (k_cons (k_var (pv 0)) (k_cons k_i k_nil))))) o_none)))) (s_cons (s_if (k_bool (k_and (k_tcmp v_eq (o_eq hu) (k_var (pv 4)) k_s (nomark _)) (k_and1 (k_tcmp v_eq (o_eq hu) (k_callB v_len call_len (by rfl) T.n_len bt_len (k_cons (k_var (pv 5)) k_nil)) k_i (nomark _))))) (s_cons (s_asg S.nd rfl (by first | exact .inl rfl | exact .inr rfl) (k_sh (k_catL (k_var (pv 5)) (k_sh (k_lst (k_cons k_s (k_cons k_s k_nil))))))) s_nil) s_nil) (s_cons (s_if (k_tcmp v_eq (o_eq hu) (k_cal tk hr (c_law_draw T) (by decide) (by rfl) (k_cons (k_var (pv 0)) (k_cons k_i k_nil))) k_i (nomark _)) (s_cons (s_asg S.nd rfl (by first | exact .inl rfl | exact .inr rfl) (k_sh (k_catL (k_var (pv 5)) (k_sh (k_lst (k_cons (k_cal tk hr (c_law_bad_row T) (by decide) (by rfl) (k_cons (k_var (pv 0)) (k_cons k_s k_nil))) k_nil)))))) s_nil) s_nil) (s_cons (s_if (k_not (k_test (k_cal tk hr (c_law_same T 7) (by decide) (by rfl) (k_cons (k_cal tk hr (c_law_read T) (by decide) (by rfl) (k_cons (k_join k_s (k_var (pv 5))) k_nil)) (k_cons (k_tup (k_cons k_s (k_cons (k_var (pv 3)) k_nil))) k_nil))))) (s_cons (s_ret k_b) s_nil) s_nil) s_nil))))))) (s_cons (s_ret (k_cal tk hr (c_law_same T 7) (by decide) (by rfl) (k_cons (k_cal tk hr (c_law_read T) (by decide) (by rfl) (k_cons (k_join k_s (k_sh (k_repL (k_sh (k_lst (k_cons k_s k_nil))) (k_op v_add o_add k_i (k_cal tk hr (c_law_draw T) (by decide) (by rfl) (k_cons (k_var (pv 0)) (k_cons k_i k_nil))))))) k_nil)) (k_cons (k_tup (k_cons k_s (k_cons k_i k_nil))) k_nil)))) s_nil)))
theorem s_law : FnScope ["script", "box", "many", "deeds", "text", "turn", "value", "handed", "rows", "at", "found", "kind", "places"] ["script"] (defScope (top 42)) := ⟨rfl, rfl, rfl, by decide +kernel, rfl, by decide +kernel, by decide +kernel⟩
-- law: level 12, slots ['script', 'box', 'many', 'deeds', 'text', 'turn', 'value', 'handed', 'rows', 'at', 'found', 'kind', 'places']
theorem r_law (T : Txt P mg t) {bx : Option (Addr × Addr)} {G0 H0 : Hp} {f : Addr} {cdv : Value} {A : Around} {outer : List Env} {s : Shared} {H : Hp} {E : XK} (hr : Room 12 (A.deeper (PyProof.Rows.envOfC "law" (defScope (top 42)) s.heap.objs.size f cdv))) (tk : L2N.Takes (cxOf (L2N.CX P w) P w t.K mg base ["script", "box", "many", "deeds", "text", "turn", "value", "handed", "rows", "at", "found", "kind", "places"] "law" (defScope (top 42)) f cdv A outer s H E) (fun cl d _ H' => E cl d H')) (po : PassesOwn (model P w) (cxOf (L2N.CX P w) P w t.K mg base ["script", "box", "many", "deeds", "text", "turn", "value", "handed", "rows", "at", "found", "kind", "places"] "law" (defScope (top 42)) f cdv A outer s H E).A (cxOf (L2N.CX P w) P w t.K mg base ["script", "box", "many", "deeds", "text", "turn", "value", "handed", "rows", "at", "found", "kind", "places"] "law" (defScope (top 42)) f cdv A outer s H E).env (cxOf (L2N.CX P w) P w t.K mg base ["script", "box", "many", "deeds", "text", "turn", "value", "handed", "rows", "at", "found", "kind", "places"] "law" (defScope (top 42)) f cdv A outer s H E).xe) :
    KB (cxOf (L2N.CX P w) P w t.K mg base ["script", "box", "many", "deeds", "text", "turn", "value", "handed", "rows", "at", "found", "kind", "places"] "law" (defScope (top 42)) f cdv A outer s H E) ⟨t, bx⟩ G0 H0 (fun cl d _ H' => E cl d H') (List.drop 1 (defBody (top 42))) b_law := have S := s_law; have hu := hr.units; (s_cons (s_asg S.nd rfl (by first | exact .inl rfl | exact .inr rfl) (k_cal tk hr (c_law_pick T) (by decide) (by rfl) (k_cons (k_var (pv 1)) (k_cons (k_sh (k_lst (k_cons k_i (k_cons k_i (k_cons k_i (k_cons k_i (k_cons k_i (k_cons k_i (k_cons k_i k_nil))))))))) k_nil)))) (s_cons (s_asgLc rfl S.nd rfl rfl (by rfl) (own := [(("turn" : PySem.Str), 5)]) (by decide) (k_range1 (by rfl) T.n_range (k_cons (k_var (pv 2)) k_nil)) (blkOk_by (by rfl)) (fun _ _ _ _ _ => (g_name (pg_name (i := 5) S.nd rfl (by first | exact .inl rfl | exact .inr rfl)))) (fun _ _ _ _ _ => t_none) (fun _ _ _ _ _ => (k_cal takes_w0 hr (c_law_deed T) (by decide) (by rfl) (k_cons (k_var (pv 1)) k_nil)))) (s_cons (s_if (k_tcmp v_eq (o_eq hu) (k_cal tk hr (c_law_draw T) (by decide) (by rfl) (k_cons (k_var (pv 1)) (k_cons k_i k_nil))) k_i (nomark _)) (s_cons (s_asgLc rfl S.nd rfl rfl (by rfl) (own := [(("turn" : PySem.Str), 5)]) (by decide) (k_range1 (by rfl) T.n_range (k_cons (k_cal tk hr (c_law_pick T) (by decide) (by rfl) (k_cons (k_var (pv 1)) (k_cons (k_sh (k_lst (k_cons k_i (k_cons k_i k_nil)))) k_nil))) k_nil)) (blkOk_by (by rfl)) (fun _ _ _ _ _ => (g_name (pg_name (i := 5) S.nd rfl (by first | exact .inl rfl | exact .inr rfl)))) (fun _ _ _ _ _ => t_none) (fun _ _ _ _ _ => (k_tup (k_cons (k_cal takes_w0 hr (c_law_draw T) (by decide) (by rfl) (k_cons (k_var (pv 1)) (k_cons k_i k_nil))) (k_cons (k_tupR rfl (by rfl) T.n_tuple (by rfl) T.n_range (k_cal takes_w0 hr (c_law_draw T) (by decide) (by rfl) (k_cons (k_var (pv 1)) (k_cons k_i k_nil)))) k_nil))))) s_nil) s_nil) (s_share (s_cons (s_par rfl S.nd rfl rfl (by decide) rfl rfl (k_sh (k_lc rfl S.nd (own := [(("kind" : PySem.Str), 11), (("places" : PySem.Str), 12)]) (by decide) (k_it (k_var (pv 3))) (blkOk_by (by rfl)) (fun _ _ _ _ _ => (g_tup (is := [11, 12]) rfl (pg_tup rfl (pgs_cons (pg_name (i := 11) S.nd rfl (by first | exact .inl rfl | exact .inr rfl)) (pgs_cons (pg_name (i := 12) S.nd rfl (by first | exact .inl rfl | exact .inr rfl)) pgs_nil))) (pg_lst rfl (pgs_cons (pg_name (i := 11) S.nd rfl (by first | exact .inl rfl | exact .inr rfl)) (pgs_cons (pg_name (i := 12) S.nd rfl (by first | exact .inl rfl | exact .inr rfl)) pgs_nil))))) (fun _ _ _ _ _ => t_none) (fun _ _ _ _ _ => (k_sh (k_lst (k_cons (k_var (pv 11)) (k_cons (k_sh (k_callNTy v_list call_list_of (by rfl) T.n_list bt_list (k_cons (k_var (pv 12)) k_nil))) k_nil))))))) (k_cal tk hr (c_law_rows T) (by decide) (by rfl) (k_cons (k_var (pv 3)) k_nil)) (by rfl)) (s_cons (s_asg S.nd rfl (by first | exact .inl rfl | exact .inr rfl) (k_join k_s (k_var (pv 8)))) (s_cons (s_if (k_bool (k_or (k_not (k_test (k_cal tk hr (c_law_same T 7) (by decide) (by rfl) (k_cons (k_cal tk hr (c_law_written T) (by decide) (by rfl) (k_cons (k_var (pv 7)) k_nil)) (k_cons (k_tup (k_cons k_s (k_cons (k_var (pv 4)) k_nil))) k_nil))))) (k_or1 (k_tcmp v_ne (o_ne hu) (k_var (pv 7)) (k_sh (k_lc rfl S.nd (own := [(("kind" : PySem.Str), 11), (("places" : PySem.Str), 12)]) (by decide) (k_it (k_var (pv 3))) (blkOk_by (by rfl)) (fun _ _ _ _ _ => (g_tup (is := [11, 12]) rfl (pg_tup rfl (pgs_cons (pg_name (i := 11) S.nd rfl (by first | exact .inl rfl | exact .inr rfl)) (pgs_cons (pg_name (i := 12) S.nd rfl (by first | exact .inl rfl | exact .inr rfl)) pgs_nil))) (pg_lst rfl (pgs_cons (pg_name (i := 11) S.nd rfl (by first | exact .inl rfl | exact .inr rfl)) (pgs_cons (pg_name (i := 12) S.nd rfl (by first | exact .inl rfl | exact .inr rfl)) pgs_nil))))) (fun _ _ _ _ _ => t_none) (fun _ _ _ _ _ => (k_sh (k_lst (k_cons (k_var (pv 11)) (k_cons (k_sh (k_callNTy v_list call_list_of (by rfl) T.n_list bt_list (k_cons (k_var (pv 12)) k_nil))) k_nil))))))) (nomark _))))) (s_cons (s_ret k_b) s_nil) s_nil) (s_cons (s_if (k_bool (k_or (k_not (k_test (k_cal tk hr (c_law_same T 7) (by decide) (by rfl) (k_cons (k_cal tk hr (c_law_read T) (by decide) (by rfl) (k_cons (k_var (pv 4)) k_nil)) (k_cons (k_tup (k_cons k_s (k_cons (k_callTy v_tuple call_tuple_of (by rfl) T.n_tuple bt_tuple (k_cons (k_var (pv 3)) k_nil)) k_nil))) k_nil))))) (k_or1 (k_not (k_test (k_cal tk hr (c_law_same T 7) (by decide) (by rfl) (k_cons (k_calK tk hr (c_course_text T) (by decide) (by rfl) (k_calK tk hr (c_read_course T) (by decide) (by rfl) (k_var (pv 4)))) (k_cons (k_var (pv 4)) k_nil)))))))) (s_cons (s_ret k_b) s_nil) s_nil) (s_cons (s_if (k_not (k_test (k_cal tk hr (c_law_wrong_texts T) (by decide) (by rfl) (k_cons (k_var (pv 1)) (k_cons (k_var (pv 8)) k_nil))))) (s_cons (s_ret k_b) s_nil) s_nil) (s_cons (s_for po rfl (k_range1 (by rfl) T.n_range (k_cons k_i k_nil)) (g_name (pg_name (i := 5) S.nd rfl (by first | exact .inl rfl | exact .inr rfl))) (s_cons (s_asg S.nd rfl (by first | exact .inl rfl | exact .inr rfl) (k_cal tk hr (c_law_draw T) (by decide) (by rfl) (k_cons (k_var (pv 1)) (k_cons (k_op v_add o_add (k_callB v_min (cr_min rfl) (by rfl) T.n_min bt_min (k_cons (k_sh (k_lst (k_cons (k_callB v_len call_len (by rfl) T.n_len bt_len (k_cons (k_var (pv 3)) k_nil)) (k_cons k_i k_nil)))) k_nil)) k_i) k_nil)))) (s_cons (s_asgO S.nd rfl (by first | exact .inl rfl | exact .inr rfl) (k_catL (k_sh (k_catL (k_sh (k_callNTy v_list call_list_of (by rfl) T.n_list bt_list (k_cons (k_slice (k_var (pv 3)) o_none (o_some (k_var (pv 9)))) k_nil))) (k_sh (k_lst (k_cons (k_cal tk hr (c_law_bad_deed T) (by decide) (by rfl) (k_cons (k_var (pv 1)) (k_cons (k_if (k_tcmp v_lt op_lt (k_var (pv 9)) (k_callB v_len call_len (by rfl) T.n_len bt_len (k_cons (k_var (pv 3)) k_nil)) (nomark _)) (k_ix v_ix ix_seq (k_var (pv 3)) (k_var (pv 9)) (fun _ _ => rfl)) (k_tup (k_cons k_i (k_cons (k_tup (k_cons k_i (k_cons k_i k_nil))) k_nil)))) k_nil))) k_nil))))) (k_sh (k_callNTy v_list call_list_of (by rfl) T.n_list bt_list (k_cons (k_slice (k_var (pv 3)) (o_some (k_op v_add o_add (k_var (pv 9)) k_i)) o_none) k_nil))))) (s_cons (s_if (k_bool (k_and (k_tcmp v_eq (o_eq hu) (k_cal tk hr (c_law_draw T) (by decide) (by rfl) (k_cons (k_var (pv 1)) (k_cons k_i k_nil))) k_i (nomark _)) (k_and1 (k_tcmp v_lt op_lt (k_lenO (by rfl) T.n_len (pv 10)) k_i (nomark _))))) (s_cons (s_app (pv 10) k_non (fun h1 h2 => pe_bm PySem.F.plainAttrs_list PySem.F.slot_list_append PySem.F.type_list_append mt_append h1 h2)) s_nil) s_nil) (s_share (s_cons (s_if (k_not (k_test (k_cal tk hr (c_law_same T 7) (by decide) (by rfl) (k_cons (k_cal tk hr (c_law_written T) (by decide) (by rfl) (k_cons (k_cal tk hr (c_law_pick T) (by decide) (by rfl) (k_cons (k_var (pv 1)) (k_cons (k_sh (k_lst (k_cons (k_var (pv 10)) (k_cons (k_callTy v_tuple call_tuple_of (by rfl) T.n_tuple bt_tuple (k_cons (k_var (pv 10)) k_nil)) k_nil)))) k_nil))) k_nil)) (k_cons (k_tup (k_cons k_s (k_cons (k_var (pv 9)) k_nil))) k_nil))))) (s_cons (s_ret k_b) s_nil) s_nil) s_nil)))))) (s_cons (s_for po rfl (k_it (k_sh (k_lst (k_cons k_non (k_cons k_i (k_cons k_s (k_cons k_b (k_cons (k_sh (k_repL (k_sh (k_lst (k_cons (k_tup (k_cons k_i (k_cons (k_tup k_nil) k_nil))) k_nil))) k_i)) (k_cons (k_op v_mulA o_mulA (k_tup (k_cons k_non k_nil)) k_i) k_nil))))))))) (g_name (pg_name (i := 6) S.nd rfl (by first | exact .inl rfl | exact .inr rfl))) (s_cons (s_if (k_not (k_test (k_cal tk hr (c_law_same T 7) (by decide) (by rfl) (k_cons (k_cal tk hr (c_law_written T) (by decide) (by rfl) (k_cons (k_var (pv 6)) k_nil)) (k_cons (k_tup (k_cons k_s (k_cons (k_un v_neg un_neg k_i) k_nil))) k_nil))))) (s_cons (s_ret k_b) s_nil) s_nil) s_nil)) (s_cons (s_for po rfl (k_it (k_sh (k_lst (k_cons k_non (k_cons k_i (k_cons (k_var (pv 8)) (k_cons (k_tup (k_cons (k_var (pv 4)) k_nil)) (k_cons (k_callTy v_tuple call_tuple_of (by rfl) T.n_tuple bt_tuple (k_cons (k_var (pv 3)) k_nil)) (k_cons k_b k_nil))))))))) (g_name (pg_name (i := 6) S.nd rfl (by first | exact .inl rfl | exact .inr rfl))) (s_cons (s_if (k_not (k_test (k_cal tk hr (c_law_same T 7) (by decide) (by rfl) (k_cons (k_cal tk hr (c_law_read T) (by decide) (by rfl) (k_cons (k_var (pv 6)) k_nil)) (k_cons (k_tup (k_cons k_s (k_cons (k_un v_neg un_neg k_i) k_nil))) k_nil))))) (s_cons (s_ret k_b) s_nil) s_nil) s_nil)) (s_cons (s_ret (k_andV (k_cal tk hr (c_law_same T 7) (by decide) (by rfl) (k_cons (k_cal tk hr (c_law_read T) (by decide) (by rfl) (k_cons k_s k_nil)) (k_cons (k_tup (k_cons k_s (k_cons (k_tup k_nil) k_nil))) k_nil))) (k_oneV (k_cal tk hr (c_law_same T 7) (by decide) (by rfl) (k_cons (k_cal tk hr (c_law_written T) (by decide) (by rfl) (k_cons (k_tup k_nil) k_nil)) (k_cons (k_tup (k_cons k_s (k_cons k_s k_nil))) k_nil)))))) s_nil)))))))))))))
end
end Kn

end

section
set_option Elab.async false
set_option linter.all false
set_option maxRecDepth 100000
set_option maxHeartbeats 4000000
/-! Pl1: what the program's mirrors compute: numbers, lots, deeds. -/
namespace Kn
open PySem
variable {s : BoxSt}
/-- no instance, no box -/
def nb : D → Bool | .ins _ _ => false | .box => false | _ => true
def isI : D → Bool | .int _ => true | _ => false
def isNumD : D → Bool | .int i => decide (0 ≤ i) | _ => false
def belowD (d : D) (lim : Int) : Bool := match d with | .int i => decide (0 ≤ i) && decide (i < lim) | _ => false
def seqD : D → Option (List D) | .lst l => some l | .tup l => some l | _ => none
theorem is_integer_ok {d : D} (h : nb d = true) : f_is_integer [d] s = .ok (.bl (isI d)) s := by
  cases d <;> first | rfl | cases h
theorem is_number_ok {d : D} (h : nb d = true) : f_is_number [d] s = .ok (.bl (isNumD d)) s := by
  cases d <;> first | rfl | cases h
theorem is_below_ok {d : D} {lim : Int} (h : nb d = true) : f_is_below [d, .int lim] s = .ok (.bl (belowD d lim)) s := by
  cases d with
  | int i =>
    refine df_rt rfl (st_seqR (st_ret (ev_andV (k := true) rfl ?_)))
    rw [if_pos rfl]
    show mChain leI ltI (mC (.int 0)) (mVar 0) (mVar 1) [.sh (.int i), .sh (.int lim)] s = .ok (.bl (decide (0 ≤ i) && decide (i < lim))) s
    by_cases h0 : 0 ≤ i
    · have e : leI (.int 0) (.int i) = some (.bl true) := by
        show some (D.bl (decide (0 ≤ i))) = _
        rw [decide_eq_true h0]
      rw [decide_eq_true h0, Bool.true_and]
      unfold mChain mC mVar
      simp [Res.bind, e, ofO]
      rfl
    · have e : leI (.int 0) (.int i) = some (.bl false) := by
        show some (D.bl (decide (0 ≤ i))) = _
        rw [decide_eq_false h0]
      rw [decide_eq_false h0, Bool.false_and]
      unfold mChain mC mVar
      simp [Res.bind, e, ofO]
  | ins _ _ => cases h
  | box => cases h
  | _ => rfl
theorem is_sequence_ok {d : D} (h : nb d = true) : f_is_sequence [d] s = .ok (.bl (seqD d).isSome) s := by
  cases d <;> first | rfl | cases h
theorem bools_map {α : Type} (p : α → Bool) : ∀ l : List α, bools (l.map fun x => .bl (p x)) = some (l.map p)
  | [] => rfl
  | x :: r => by rw [List.map_cons, List.map_cons]; show (bools (r.map fun x => .bl (p x))).map _ = _; rw [bools_map p r]; rfl
theorem all_map {α : Type} (p : α → Bool) (l : List α) : allO [.lst (l.map fun x => .bl (p x))] = some (.bl (l.all p)) := by
  show (bools (l.map fun x => .bl (p x))).map _ = _
  rw [bools_map]
  show some (D.bl ((l.map p).all id)) = _
  rw [List.all_map]; rfl
theorem any_map {α : Type} (p : α → Bool) (l : List α) : anyO [.lst (l.map fun x => .bl (p x))] = some (.bl (l.any p)) := by
  show (bools (l.map fun x => .bl (p x))).map _ = _
  rw [bools_map]
  show some (D.bl ((l.map p).any id)) = _
  rw [List.any_map]; rfl
theorem is_told_row_ok {l : List D} {lim : Int} (h : ∀ x ∈ l, nb x = true) (hl : l.length ≤ 1000000) : f_is_told_row [.tup l, .int lim] s = .ok (.bl (l.all fun x => belowD x lim)) s := by
  refine df_rt rfl (st_seqR (st_ret (ev_andV (k := true) rfl ?_)))
  rw [if_pos rfl]
  refine ev_call (l := [.lst (l.map fun x => .bl (belowD x lim))]) (s1 := s) (ev_cons (ev_of (ev_lc (ds := l) rfl hl fun x hx => ⟨_, rfl, ev_fn (l := [x, .int lim]) rfl (is_below_ok (h x hx))⟩)) rfl) (all_map _ l)
theorem is_row_ok {d : D} {n : Nat} (h : nb d = true) : f_is_row [d, .int (n : Int)] s = .ok (.bl (match seqD d with | some l => decide (l.length = n) | none => false)) s := by
  have dec : ∀ m : Nat, decide ((m : Int) = (n : Int)) = decide (m = n) := fun m => by
    by_cases e : m = n
    · rw [e, decide_eq_true rfl, decide_eq_true rfl]
    · rw [decide_eq_false e, decide_eq_false (fun z => e (by omega))]
  cases d with
  | lst l =>
    refine df_rt rfl (st_seqR (st_ret (ev_andV (k := true) rfl ?_)))
    rw [if_pos rfl]
    show Res.ok (D.bl (decide ((l.length : Int) = (n : Int)))) s = Res.ok (D.bl (decide (l.length = n))) s
    rw [dec]
  | tup l =>
    refine df_rt rfl (st_seqR (st_ret (ev_andV (k := true) rfl ?_)))
    rw [if_pos rfl]
    show Res.ok (D.bl (decide ((l.length : Int) = (n : Int)))) s = Res.ok (D.bl (decide (l.length = n))) s
    rw [dec]
  | ins _ _ => cases h
  | box => cases h
  | _ => rfl
/-- one behind another -/
def incr : List Int → Bool
  | a :: b :: r => decide (a < b) && incr (b :: r)
  | _ => true
theorem cut_from {l : List D} (k : Nat) : cutD l (some (k : Int)) none = l.drop k := by
  unfold cutD
  rw [HT.sIx_nat, HT.sIx_none]
  by_cases h : k ≤ l.length
  · rw [Nat.min_eq_left h, List.take_of_length_le (by rw [List.length_drop]; omega)]
  · rw [Nat.min_eq_right (by omega), List.drop_length, List.drop_of_length_le (by omega), List.take_nil]
theorem cut_to {l : List D} (k : Nat) : cutD l none (some (k : Int)) = l.take k := by
  unfold cutD
  rw [HT.sIx_nat, HT.sIx_none, List.drop_zero, Nat.sub_zero]
  by_cases h : k ≤ l.length
  · rw [Nat.min_eq_left h]
  · rw [Nat.min_eq_right (by omega), List.take_length, List.take_of_length_le (by omega)]
theorem sl_tup_from {l : List D} (hl : l.length ≤ 1000000) : sliceO (.tup l) (some ((1 : Nat) : Int)) none = some (.tup (l.drop 1)) := by
  rw [← cut_from]
  rfl
def pairF : D → D | .tup [.int a, .int b] => .bl (decide (a < b)) | _ => .non
theorem pairs_incr : ∀ ps : List Int, ∃ bs, bools ((zipL (ps.map D.int) ((ps.map D.int).drop 1)).map pairF) = some bs ∧ bs.all id = incr ps
  | [] => ⟨[], rfl, rfl⟩
  | [a] => ⟨[], rfl, rfl⟩
  | a :: b :: r => by
    obtain ⟨bs, h1, h2⟩ := pairs_incr (b :: r)
    refine ⟨decide (a < b) :: bs, ?_, ?_⟩
    · show (bools ((zipL ((b :: r).map D.int) (((b :: r).map D.int).drop 1)).map pairF)).map _ = _
      rw [h1]; rfl
    · show (decide (a < b) && bs.all id) = (decide (a < b) && incr (b :: r))
      rw [h2]
theorem zip_mem : ∀ {ps qs : List Int} {x : D}, x ∈ zipL (ps.map D.int) (qs.map D.int) → ∃ a b, x = .tup [.int a, .int b]
  | [], _, _, h => by cases h
  | _ :: _, [], _, h => by cases h
  | a :: r, b :: t, x, h => by
    rcases List.mem_cons.mp h with h | h
    · exact ⟨a, b, h⟩
    · exact zip_mem (ps := r) (qs := t) h
theorem all_ints {p : Int → Bool} : ∀ (ps : List Int) (lim : Int), (ps.map D.int).all (fun x => belowD x lim) = ps.all fun i => decide (0 ≤ i) && decide (i < lim)
  | [], _ => rfl
  | _ :: r, lim => by rw [List.map_cons, List.all_cons, List.all_cons, all_ints (p := p) r lim]; rfl
theorem nb_ints (ps : List Int) : ∀ x ∈ ps.map D.int, nb x = true := fun x hx => by
  obtain ⟨i, _, rfl⟩ := List.mem_map.mp hx
  rfl
theorem is_lot_ok {ps : List Int} {lim : Int} (hl : ps.length ≤ 1000000) (hp : ∀ p ∈ ps, 0 ≤ p ∧ p < lim) : f_is_lot [.tup (ps.map .int), .int lim] s = .ok (.bl (incr ps)) s := by
  have hall : (ps.map D.int).all (fun x => belowD x lim) = true := by
    rw [all_ints (p := fun _ => true)]
    rw [List.all_eq_true]
    intro i hi
    rw [decide_eq_true (hp i hi).1, decide_eq_true (hp i hi).2]; rfl
  have hl2 : (ps.map D.int).length ≤ 1000000 := by rw [List.length_map]; exact hl
  have tr := is_told_row_ok (s := s) (lim := lim) (nb_ints ps) hl2
  rw [hall] at tr
  refine df_rt rfl (st_seq (s1 := s) (env' := [.sh (.tup (ps.map .int)), .sh (.int lim), .un, .un]) (st_if (k := false) (ev_not (k := true) (ev_test (ev_fn (l := [.tup (ps.map .int), .int lim]) rfl tr))) rfl) (st_seqR (st_ret ?_)))
  obtain ⟨bs, h1, h2⟩ := pairs_incr ps
  refine ev_call (l := [.lst ((zipL (ps.map D.int) ((ps.map D.int).drop 1)).map pairF)]) (s1 := s) (ev_cons (ev_of (ev_lc (ds := zipL (ps.map D.int) ((ps.map D.int).drop 1)) (s1 := s) ?_ ?_ fun x hx => ?_)) rfl) ?_
  · refine ev_itA (xs := [.tup (ps.map .int), .tup ((ps.map D.int).drop 1)]) (ev_cons rfl (ev_cons (ev_sl (x := .tup (ps.map .int)) (p := some 1) (q := none) (s3 := s) rfl rfl rfl ?_) rfl)) rfl
    exact sl_tup_from hl2
  · rw [zipL_len]
    omega
  · have hx' : x ∈ zipL (ps.map D.int) ((ps.drop 1).map D.int) := by rw [← List.map_drop] at hx; exact hx
    obtain ⟨a, b, rfl⟩ := zip_mem hx'
    exact ⟨_, rfl, rfl⟩
  · show (bools _).map _ = _
    rw [h1]
    show some (D.bl (bs.all id)) = _
    rw [h2]
/-! ### a told deed -/
def intsD : List D → List Int | [] => [] | .int i :: r => i :: intsD r | _ :: r => intsD r
/-- what is_told_deed tells -/
def told (d : D) : Bool := match seqD d with
  | some [a, b] => isNumD a && (match seqD b with | some l => l.all isNumD && incr (intsD l) | none => false)
  | _ => false
/-- fit to be asked -/
def fit (d : D) : Bool := nb d && (match seqD d with
  | some l => l.all fun x => nb x && (match seqD x with | some k => k.all nb && decide (k.length ≤ 1000000) | none => true)
  | none => true)
theorem ints_num : ∀ {l : List D}, l.all isNumD = true → l = (intsD l).map .int ∧ intsOf l = some (intsD l) ∧ ∀ i ∈ intsD l, 0 ≤ i
  | [], _ => ⟨rfl, rfl, fun _ h => by cases h⟩
  | .int i :: r, h => by
    rw [List.all_cons, Bool.and_eq_true] at h
    obtain ⟨h1, h2, h3⟩ := ints_num h.2
    have hi : 0 ≤ i := of_decide_eq_true h.1
    refine ⟨by show D.int i :: r = D.int i :: (intsD r).map .int; rw [← h1], by show (intsOf r).map _ = _; rw [h2]; rfl, fun k hk => ?_⟩
    rcases List.mem_cons.mp hk with e | e
    · rw [e]; exact hi
    · exact h3 k e
  | .non :: r, h => by cases h
  | .bl _ :: r, h => by cases h
  | .str _ :: r, h => by cases h
  | .lst _ :: r, h => by cases h
  | .tup _ :: r, h => by cases h
  | .ins _ _ :: r, h => by cases h
  | .box :: r, h => by cases h
theorem maxI_le : ∀ {l : List Int} {y : Int}, y ∈ l → y ≤ maxI 0 l := by
  have aux : ∀ (r : List Int) (x : Int), x ≤ r.foldl max x ∧ ∀ y ∈ r, y ≤ r.foldl max x := by
    intro r
    induction r with
    | nil => intro x; exact ⟨Int.le_refl _, fun y hy => by cases hy⟩
    | cons z r ih =>
      intro x
      obtain ⟨i2, i3⟩ := ih (max x z)
      refine ⟨by rw [List.foldl_cons]; omega, fun y hy => ?_⟩
      rw [List.foldl_cons]
      rcases List.mem_cons.mp hy with hy | hy
      · subst hy; omega
      · exact i3 y hy
  intro l y hy
  cases l with
  | nil => cases hy
  | cons x r =>
    obtain ⟨i2, i3⟩ := aux r x
    show y ≤ r.foldl max x
    rcases List.mem_cons.mp hy with hy | hy
    · rw [hy]; exact i2
    · exact i3 y hy
theorem is_told_deed_ok {d : D} (h : fit d = true) : f_is_told_deed [d] s = .ok (.bl (told d)) s := by
  unfold fit at h
  rw [Bool.and_eq_true] at h
  obtain ⟨hn, hs⟩ := h
  have row := is_row_ok (s := s) (n := 2) hn
  -- no row of two things
  have no : (match seqD d with | some l => decide (l.length = 2) | none => false) = false → told d = false → f_is_told_deed [d] s = .ok (.bl false) s := fun h1 h2 => by
    rw [h1] at row
    exact df_rt rfl (st_seqR (st_if (k := true) (ev_or (k := true) (ev_not (k := false) (ev_test (ev_fn (l := [d, .int 2]) rfl row))) rfl) rfl))
  cases hd : seqD d with
  | none =>
    have t : told d = false := by unfold told; rw [hd]
    rw [t]; exact no (by rw [hd]) t
  | some l =>
    by_cases hl : l.length = 2
    · obtain ⟨a, b, rfl⟩ : ∃ a b, l = [a, b] := by
        match l, hl with
        | [a, b], _ => exact ⟨a, b, rfl⟩
      rw [hd] at hs row
      have row1 : f_is_row [d, .int 2] s = .ok (.bl true) s := row
      have hs' : ([a, b].all fun x => nb x && (match seqD x with | some k => k.all nb && decide (k.length ≤ 1000000) | none => true)) = true := hs
      rw [List.all_cons, List.all_cons, Bool.and_eq_true, Bool.and_eq_true, Bool.and_eq_true, Bool.and_eq_true] at hs'
      obtain ⟨⟨ha, _⟩, ⟨hb, hb2⟩, _⟩ := hs'
      have i0 : ∀ e2 : Sl, m2 ixO (mVar 0) (mC (.int 0)) [.sh d, e2] s = .ok a s := fun e2 => by
        cases d with
        | lst l => cases hd; rfl
        | tup l => cases hd; rfl
        | _ => cases hd
      have i1 : ∀ e2 : Sl, m2 ixO (mVar 0) (mC (.int 1)) [.sh d, e2] s = .ok b s := fun e2 => by
        cases d with
        | lst l => cases hd; rfl
        | tup l => cases hd; rfl
        | _ => cases hd
      have td : told d = (isNumD a && (match seqD b with | some l => l.all isNumD && incr (intsD l) | none => false)) := by unfold told; rw [hd]
      rw [td]
      have num := is_number_ok (s := s) ha
      have sq := is_sequence_ok (s := s) hb
      have t1 : mNot (mTest (mFn f_is_row (mCons (mVar 0) (mCons (mC (.int 2)) (mNil))))) [.sh d, .un] s = .ok false s := ev_not (k := true) (ev_test (ev_fn (l := [d, .int 2]) rfl row1))
      have t2 : mNot (mTest (mFn f_is_number (mCons (m2 ixO (mVar 0) (mC (.int 0))) (mNil)))) [.sh d, .un] s = .ok (!isNumD a) s := ev_not (ev_test (ev_fn (l := [a]) (ev_cons (i0 _) rfl) num))
      have t3 : mNot (mTest (mFn f_is_sequence (mCons (m2 ixO (mVar 0) (mC (.int 1))) (mNil)))) [.sh d, .un] s = .ok (!(seqD b).isSome) s := ev_not (ev_test (ev_fn (l := [b]) (ev_cons (i1 _) rfl) sq))
      by_cases hna : isNumD a = true
      · rw [hna] at t2 ⊢
        cases hbs : seqD b with
        | none =>
          rw [hbs] at t3
          exact df_rt rfl (st_seqR (st_if (k := true) (ev_or t1 (ev_or t2 t3)) rfl))
        | some pl =>
          rw [hbs] at t3 hb2
          rw [Bool.and_eq_true, decide_eq_true_eq] at hb2
          refine df_rt rfl (st_seq (env' := [.sh d, .un]) (s1 := s) (st_if (k := false) (ev_or t1 (ev_or t2 t3)) rfl) (st_seqR (st_ret ?_)))
          have itb : itO b = some pl := by
            cases b with
            | lst l => cases hbs; rfl
            | tup l => cases hbs; rfl
            | _ => cases hbs
          have allE : mCall allO (mCons (mOf (mLc [1] (gN 1) (mIt (m2 ixO (mVar 0) (mC (.int 1)))) (mYes) (mFn f_is_number (mCons (mVar 1) (mNil))))) (mNil)) [.sh d, .un] s = .ok (.bl (pl.all isNumD)) s :=
            ev_call (l := [.lst (pl.map fun x => .bl (isNumD x))]) (s1 := s) (ev_cons (ev_of (ev_lc (ds := pl) (s1 := s) (ev_it (i1 _) itb) hb2.2 fun x hx => ⟨_, rfl, ev_fn (l := [x]) rfl (is_number_ok ((List.all_eq_true.mp hb2.1) x hx))⟩)) rfl) (all_map _ pl)
          refine ev_andV allE ?_
          show _ = Res.ok (D.bl (true && (pl.all isNumD && incr (intsD pl)))) s
          rw [Bool.true_and]
          by_cases hal : pl.all isNumD = true
          · rw [if_pos hal, hal, Bool.true_and]
            obtain ⟨q1, q2, q3⟩ := ints_num hal
            have mx : m2 addO (m2 maxO (m2 ixO (mVar 0) (mC (.int 1))) (mC (.int 0))) (mC (.int 1)) [.sh d, .un] s = .ok (.int (maxI 0 (intsD pl) + 1)) s := by
              refine ev2 (s1 := s) (ev2 (s1 := s) (i1 _) rfl (d := .int (maxI 0 (intsD pl))) ?_) rfl rfl
              cases b with
              | lst l => cases hbs; show (intsOf pl).map _ = _; rw [q2]; rfl
              | tup l => cases hbs; show (intsOf pl).map _ = _; rw [q2]; rfl
              | _ => cases hbs
            have tp : tupleO [b] = some (.tup ((intsD pl).map .int)) := by
              rw [← q1]
              cases b with
              | lst l => cases hbs; rfl
              | tup l => cases hbs; rfl
              | _ => cases hbs
            refine ev_fn (l := [.tup ((intsD pl).map .int), .int (maxI 0 (intsD pl) + 1)]) (ev_cons (ev_call (l := [b]) (ev_cons (i1 _) rfl) tp) (ev_cons mx rfl)) ?_
            refine is_lot_ok ?_ fun p hp => ⟨q3 p hp, by have := maxI_le hp; omega⟩
            have := congrArg List.length q1
            rw [List.length_map] at this
            omega
          · rw [if_neg hal]
            have hf : pl.all isNumD = false := by simpa using hal
            rw [hf]; rfl
      · have hf : isNumD a = false := by simpa using hna
        rw [hf] at t2 ⊢
        exact df_rt rfl (st_seqR (st_if (k := true) (ev_or t1 (ev_or t2 rfl)) rfl))
    · have t : told d = false := by
        unfold told; rw [hd]
        match l, hl with
        | [], _ => rfl
        | [_], _ => rfl
        | [_, _], h => exact absurd rfl h
        | _ :: _ :: _ :: _, _ => rfl
      rw [t]; exact no (by rw [hd]; exact decide_eq_false hl) t
end Kn

end

section
set_option Elab.async false
set_option linter.all false
set_option maxRecDepth 100000
set_option maxHeartbeats 4000000
/-! Pl2: words, numbers in words. -/
namespace Kn
open PySem TL
variable {s : BoxSt}
def digC (k : Nat) : Bool := decide (48 ≤ k) && decide (k ≤ 57)
def zeroS : Str := ("0" : Str)
def askS : Str := ("ask" : Str)
def spS : Str := (" " : Str)
def nlS : Str := ("\n" : Str)
/-- a number's own text, of at most 40 figures -/
def goodW (w : Str) : Bool := (decide (1 ≤ (tl w).length) && decide ((tl w).length ≤ 40)) && ((tl w).all digC && !(decide ((tl w).head? = some 48) && !decide (w = zeroS)))
def valW (w : Str) : Int := ((NumText.digitsVal (tl w) : Nat) : Int)
theorem tl_zero : tl zeroS = [48] := by rw [zeroS, tl_ofString]; rfl
theorem tl_ask : tl askS = [97, 115, 107] := by rw [askS, tl_ofString]; rfl
theorem tl_sp : tl spS = [32] := by rw [spS, tl_ofString]; rfl
theorem tl_nl : tl nlS = [10] := by rw [nlS, tl_ofString]; rfl
theorem tl_figs : tl ("0123456789" : Str) = [48, 49, 50, 51, 52, 53, 54, 55, 56, 57] := by rw [tl_ofString]; rfl
theorem fig (k : Nat) : inSign (.str ⟨#[k]⟩) (.str ("0123456789" : Str)) = some (.bl (digC k)) := by
  show some (D.bl (decide (k ∈ tl ("0123456789" : Str)))) = _
  rw [tl_figs]
  congr 2
  unfold digC
  rw [Bool.eq_iff_iff, decide_eq_true_eq, Bool.and_eq_true, decide_eq_true_eq, decide_eq_true_eq]
  simp only [List.mem_cons, List.not_mem_nil, or_false]
  omega
def sgF : D → D | .str ⟨⟨[k]⟩⟩ => .bl (digC k) | _ => .non
theorem signs_map (w : Str) : (signs w).map sgF = (tl w).map fun k => .bl (digC k) := by
  unfold signs
  rw [List.map_map]
  rfl
theorem chain_len (n : Nat) (env : En) {a : ME} (ha : a env s = .ok (.int (n : Int)) s) : mChain leI leI (mC (.int 1)) a (mC (.int 40)) env s = .ok (.bl (decide (1 ≤ n) && decide (n ≤ 40))) s := by
  have e1 : leI (.int 1) (.int (n : Int)) = some (.bl (decide (1 ≤ n))) := by
    show some (D.bl (decide ((1 : Int) ≤ (n : Int)))) = _
    rw [show decide ((1 : Int) ≤ (n : Int)) = decide (1 ≤ n) from decide_eq_decide.mpr (by omega)]
  have e2 : leI (.int (n : Int)) (.int 40) = some (.bl (decide (n ≤ 40))) := by
    show some (D.bl (decide ((n : Int) ≤ 40))) = _
    rw [show decide ((n : Int) ≤ 40) = decide (n ≤ 40) from decide_eq_decide.mpr (by omega)]
  refine ev_chain (x := .int 1) (s1 := s) rfl ha e1 ?_
  by_cases h1 : 1 ≤ n
  · rw [decide_eq_true h1, if_pos rfl, Bool.true_and]
    show ofO (leI (.int (n : Int)) (.int 40)) s = _
    rw [e2]; rfl
  · rw [decide_eq_false h1, if_neg (by decide), Bool.false_and]
theorem integer_of_ok {w : Str} (hl : w.length ≤ 1000000) : f_integer_of [.str w] s = .ok (if goodW w = true then .int (valW w) else .non) s := by
  have ln : mCall lenO (mCons (mVar 0) (mNil)) [.sh (.str w), .un] s = .ok (.int ((tl w).length : Int)) s := by
    refine ev_call (l := [.str w]) (s1 := s) rfl ?_
    show (if w.length ≤ 1000000 then some (D.int (w.length : Int)) else none) = _
    rw [if_pos hl, len_tl]
  have c1 := chain_len (s := s) (tl w).length [.sh (.str w), .un] ln
  have c2 : mCall allO (mCons (mOf (mLc [1] (gN 1) (mIt (mVar 0)) (mYes) (m2 inSign (mVar 1) (mC (.str ("0123456789" : PySem.Str)))))) (mNil)) [.sh (.str w), .un] s = .ok (.bl ((tl w).all digC)) s := by
    refine ev_call (l := [.lst ((tl w).map fun k => .bl (digC k))]) (s1 := s) (ev_cons (ev_of (ev_lcg (ds := signs w) (f := sgF) (s1 := s) rfl ?_ ?_ (signs_map w))) rfl) (all_map _ _)
    · unfold signs; rw [List.length_map]; rw [len_tl] at hl; exact hl
    · intro x hx
      unfold signs at hx
      obtain ⟨k, _, rfl⟩ := List.mem_map.mp hx
      exact ⟨_, rfl, ev2 (s1 := s) rfl rfl (fig k)⟩
  by_cases g1 : (decide (1 ≤ (tl w).length) && decide ((tl w).length ≤ 40)) = true
  · rw [g1] at c1
    by_cases g2 : (tl w).all digC = true
    · rw [g2] at c2
      have t1 : mOr (mNot (mTest (mChain leI leI (mC (.int 1)) (mCall lenO (mCons (mVar 0) (mNil))) (mC (.int 40))))) (mNot (mTest (mCall allO (mCons (mOf (mLc [1] (gN 1) (mIt (mVar 0)) (mYes) (m2 inSign (mVar 1) (mC (.str ("0123456789" : PySem.Str)))))) (mNil))))) [.sh (.str w), .un] s = .ok false s :=
        ev_or (ev_not (ev_test c1)) (ev_not (ev_test c2))
      rw [Bool.and_eq_true, decide_eq_true_eq, decide_eq_true_eq] at g1
      obtain ⟨k, r, hk⟩ : ∃ k r, tl w = k :: r := by
        cases h : tl w with
        | nil => rw [h] at g1; simp at g1
        | cons k r => exact ⟨k, r, rfl⟩
      have i0 : m2 ixO (mVar 0) (mC (.int 0)) [.sh (.str w), .un] s = .ok (.str ⟨#[k]⟩) s := by
        refine ev2 (s1 := s) rfl rfl ?_
        show (if w.length ≤ 1000000 then (L2.atI (tl w) 0).map fun k => D.str ⟨#[k]⟩ else none) = _
        rw [if_pos hl, hk, at0]; rfl
      have e0 : eqO (.str ⟨#[k]⟩) (.str zeroS) = some (.bl (decide (k = 48))) := by
        show some (D.bl (decide ((⟨#[k]⟩ : Str) = zeroS))) = _
        congr 2
        rw [Bool.eq_iff_iff, decide_eq_true_eq, decide_eq_true_eq]
        constructor
        · intro h
          have h2 := congrArg tl h
          rw [tl_zero] at h2
          exact (List.cons.inj h2).1
        · intro h
          subst h
          exact ext_tl tl_zero.symm
      have t2 : mAnd (mTest (m2 eqO (m2 ixO (mVar 0) (mC (.int 0))) (mC (.str ("0" : PySem.Str))))) (mTest (m2 neO (mVar 0) (mC (.str ("0" : PySem.Str))))) [.sh (.str w), .un] s = .ok (decide ((tl w).head? = some 48) && !decide (w = zeroS)) s := by
        refine ev_and (ev_test (ev2 i0 rfl e0)) ?_
        rw [hk]
        show (if decide (k = 48) = true then _ else _) = Res.ok (decide (some k = some 48) && !decide (w = zeroS)) s
        by_cases h : k = 48
        · rw [if_pos (decide_eq_true h), decide_eq_true (show some k = some 48 by rw [h]), Bool.true_and]
          exact ev_test (ev2 (s1 := s) rfl rfl rfl)
        · rw [if_neg (by rw [decide_eq_true_eq]; exact h), decide_eq_false (show ¬ some k = some 48 from fun z => h (Option.some.inj z)), Bool.false_and]
      refine df_rt rfl (st_seq (env' := [.sh (.str w), .un]) (s1 := s) (st_if t1 rfl) ?_)
      by_cases g3 : (decide ((tl w).head? = some 48) && !decide (w = zeroS)) = true
      · have gf : goodW w = false := by unfold goodW; rw [g3]; simp
        rw [gf]
        rw [g3] at t2
        exact st_seqR (st_if t2 rfl)
      · have g3' : (decide ((tl w).head? = some 48) && !decide (w = zeroS)) = false := by simpa using g3
        have gt : goodW w = true := by unfold goodW; rw [g3', g2, decide_eq_true g1.1, decide_eq_true g1.2]; rfl
        rw [gt, if_pos rfl]
        rw [g3'] at t2
        refine st_seq (env' := [.sh (.str w), .un]) (s1 := s) (st_if t2 rfl) (st_seqR (st_ret (ev_call (l := [.str w]) (s1 := s) rfl ?_)))
        show (if w.length ≤ 640 then (PySem.intText? w).map D.int else none) = _
        rw [if_pos (by rw [len_tl]; omega)]
        rw [intText_digits (x := w) (fun c hc => ?_) (fun z => by have : tl w = [] := z; rw [this] at hk; cases hk) (by rw [len_tl]; omega)]
        · rfl
        · have := (List.all_eq_true.mp g2) c hc
          unfold digC at this
          rw [Bool.and_eq_true, decide_eq_true_eq, decide_eq_true_eq] at this
          exact this
    · have gf : (tl w).all digC = false := by simpa using g2
      have gg : goodW w = false := by unfold goodW; rw [gf]; simp
      rw [gf] at c2
      rw [gg]
      exact df_rt rfl (st_seqR (st_if (k := true) (ev_or (ev_not (ev_test c1)) (ev_not (ev_test c2))) rfl))
  · have gf : (decide (1 ≤ (tl w).length) && decide ((tl w).length ≤ 40)) = false := by simpa using g1
    have gg : goodW w = false := by unfold goodW; rw [gf]; rfl
    rw [gf] at c1
    rw [gg]
    exact df_rt rfl (st_seqR (st_if (k := true) (ev_or (k := true) (ev_not (ev_test c1)) rfl) rfl))
def intF : D → D | .str w => if goodW w = true then .int (valW w) else .non | _ => .non
theorem integers_of_ok {ws : List Str} (hn : ws.length ≤ 1000000) (hl : ∀ w ∈ ws, w.length ≤ 1000000) : f_integers_of [.lst (ws.map .str)] s = .ok (if ws.all goodW = true then .tup (ws.map fun w => .int (valW w)) else .non) s := by
  have m1 : mLc [2] (gN 2) (mIt (mVar 0)) (mYes) (mFn f_integer_of (mCons (mVar 2) (mNil))) [.sh (.lst (ws.map .str)), .un, .un, .un] s = .ok ((ws.map D.str).map intF) s := by
    refine ev_lc (ds := ws.map D.str) rfl (by rw [List.length_map]; exact hn) fun x hx => ?_
    obtain ⟨w, hw, rfl⟩ := List.mem_map.mp hx
    exact ⟨_, rfl, ev_fn (l := [.str w]) rfl (integer_of_ok (hl w hw))⟩
  have e1 : (ws.map D.str).map intF = ws.map fun w => if goodW w = true then D.int (valW w) else .non := by rw [List.map_map]; rfl
  rw [e1] at m1
  have m2' : mCall anyO (mCons (mOf (mLc [3] (gN 3) (mIt (mVar 1)) (mYes) (m2 isN (mVar 3) (mC .non)))) (mNil)) [.sh (.lst (ws.map .str)), .sh (.lst (ws.map fun w => if goodW w = true then D.int (valW w) else .non)), .un, .un] s = .ok (.bl (ws.any fun w => !goodW w)) s := by
    refine ev_call (l := [.lst (ws.map fun w => .bl (!goodW w))]) (s1 := s) (ev_cons (ev_of (ev_lcg (ds := ws.map fun w => if goodW w = true then D.int (valW w) else .non) (f := fun d => .bl (isNo d)) (s1 := s) rfl (by rw [List.length_map]; exact hn) (fun x hx => ⟨_, rfl, ev2 (s1 := s) rfl rfl rfl⟩) ?_)) rfl) (any_map _ ws)
    rw [List.map_map]
    refine List.map_congr_left fun w _ => ?_
    show D.bl (isNo (if goodW w = true then D.int (valW w) else .non)) = _
    cases goodW w <;> rfl
  refine df_rt rfl (st_seq (st_asgO m1) (st_seq (st_share rfl) ?_))
  show mSeq _ _ [.sh (.lst (ws.map .str)), .sh (.lst (ws.map fun w => if goodW w = true then D.int (valW w) else .non)), .un, .un] s = _
  by_cases h : ws.all goodW = true
  · rw [if_pos h]
    have ha : (ws.any fun w => !goodW w) = false := by
      rw [List.any_eq_false]
      intro w hw
      rw [(List.all_eq_true.mp h) w hw]; simp
    rw [ha] at m2'
    have e2 : (ws.map fun w => if goodW w = true then D.int (valW w) else .non) = ws.map fun w => .int (valW w) := List.map_congr_left fun w hw => by rw [if_pos ((List.all_eq_true.mp h) w hw)]
    refine st_seq (st_if (k := false) (ev_test m2') rfl) (st_seqR (st_ret (ev_call (l := [.lst _]) (s1 := s) rfl ?_)))
    rw [← e2]
    rfl
  · rw [if_neg h]
    have ha : (ws.any fun w => !goodW w) = true := by
      rw [List.any_eq_true]
      apply Classical.byContradiction
      intro hz
      apply h
      rw [List.all_eq_true]
      intro w hw
      cases hg : goodW w with
      | true => rfl
      | false => exact absurd ⟨w, hw, by rw [hg]; rfl⟩ hz
    rw [ha] at m2'
    exact st_seqR (st_if (k := true) (ev_test m2') rfl)
end Kn

end

section
set_option Elab.async false
set_option linter.all false
set_option maxRecDepth 100000
set_option maxHeartbeats 4000000
/-! Pl3: rows, texts read. -/
namespace Kn
open PySem TL
variable {s : BoxSt}
theorem join_mem {y : Str} : ∀ {l : List Str} {p : Str}, p ∈ l → p.length ≤ (Str.join y l).length
  | [x], p, h => by rw [List.mem_singleton.mp h]; exact Nat.le_refl _
  | x :: z :: r, p, h => by
    show p.length ≤ (x ++ y ++ Str.join y (z :: r)).length
    rw [Str.length_append, Str.length_append]
    rcases List.mem_cons.mp h with h | h
    · rw [h]; omega
    · have := join_mem (y := y) h
      omega
theorem join_num {y : Str} (hy : 1 ≤ y.length) : ∀ l : List Str, l.length ≤ (Str.join y l).length + 1
  | [] => Nat.zero_le _
  | [x] => by rw [List.length_singleton]; omega
  | x :: z :: r => by
    have := join_num hy (z :: r)
    show (x :: z :: r).length ≤ (x ++ y ++ Str.join y (z :: r)).length + 1
    rw [Str.length_append, Str.length_append, List.length_cons]
    omega
theorem split_mem {x y p : Str} (h : p ∈ Txt.split x y) : p.length ≤ x.length := by
  have := join_mem (y := y) h
  rw [StrLaws.join_split] at this
  exact this
theorem split_num {x y : Str} (hy : 1 ≤ y.length) : (Txt.split x y).length ≤ x.length + 1 := by
  have := join_num hy (Txt.split x y)
  rw [StrLaws.join_split] at this
  exact this
theorem split_ne {x y : Str} (hy : 1 ≤ y.length) : Txt.split x y ≠ [] := fun h => by
  have e := StrLaws.join_split x y
  rw [h] at e
  have hx : x.length = 0 := by rw [← e]; rfl
  unfold Txt.split at h
  rw [if_pos (by rw [Bool.or_eq_true]; left; exact decide_eq_true (by omega))] at h
  cases h
theorem split_head {x y w : Str} {r : List Str} (h : Txt.split x y = w :: r) : tl w <+: tl x := by
  have e := StrLaws.join_split x y
  rw [h] at e
  rw [← e]
  cases r with
  | nil => exact List.prefix_refl _
  | cons z r =>
    show tl w <+: tl (w ++ y ++ Str.join y (z :: r))
    rw [tl_append, tl_append, List.append_assoc]
    exact List.prefix_append _ _
theorem len_sp : spS.length = 1 := by rw [len_tl, tl_sp]; rfl
theorem len_nl : nlS.length = 1 := by rw [len_tl, tl_nl]; rfl
def numsOf : List Str → Option (List Int)
  | [] => none
  | w :: r => if w = askS ∧ r.all goodW = true then some (r.map valW) else none
/-- a row's deed -/
def tellRow (row : Str) : Option (Int × List Int) := match numsOf (Txt.split row spS) with
  | some (n :: ps) => if incr ps = true then some (n, ps) else none
  | _ => none
def IT : Str := ("InvalidText" : Str)
theorem numbers_at_ok {rows : List Str} {k : Nat} {row : Str} (hk : rows[k]? = some row) (hl : row.length ≤ 999999) : f_numbers_at [.lst (rows.map .str), .int (k : Int), .str askS] s = (match numsOf (Txt.split row spS) with | some ns => .ok (.tup (ns.map .int)) s | none => .ex IT (.int (k : Int)) s) := by
  have hkl : k < rows.length := (List.getElem?_eq_some_iff.mp hk).1
  have t1 : mTest (m2 geI (mVar 1) (mCall lenO (mCons (mVar 0) (mNil)))) [.sh (.lst (rows.map .str)), .sh (.int (k : Int)), .sh (.str askS), .un, .un] s = .ok false s := by
    refine ev_test (ev2 (s1 := s) (y := .int ((rows.map D.str).length : Int)) rfl rfl ?_)
    show some (D.bl (decide (((rows.map D.str).length : Int) ≤ (k : Int)))) = _
    rw [decide_eq_false (by rw [List.length_map]; omega)]
  have i1 : ∀ a b : Sl, m2 ixO (mVar 0) (mVar 1) [.sh (.lst (rows.map .str)), .sh (.int (k : Int)), .sh (.str askS), a, b] s = .ok (.str row) s := fun a b => by
    refine ev2 (s1 := s) rfl rfl ?_
    show L2.atI (rows.map D.str) (k : Int) = _
    unfold L2.atI L2.ixN
    rw [if_pos (by omega), if_pos (by rw [List.length_map]; omega)]
    show (rows.map D.str)[(k : Int).toNat]? = _
    rw [Int.toNat_natCast, List.getElem?_map, hk]; rfl
  cases hs : Txt.split row spS with
  | nil => exact absurd hs (split_ne (by rw [len_sp]; exact Nat.le_refl 1))
  | cons w r =>
    have sp1 : mOf (mStr1N splitO (m2 ixO (mVar 0) (mVar 1)) (mC (.str (" " : PySem.Str)))) [.sh (.lst (rows.map .str)), .sh (.int (k : Int)), .sh (.str askS), .un, .un] s = .ok (.lst ((w :: r).map .str)) s := by
      refine ev_of (ev_str1N (i1 _ _) rfl ?_)
      show (if (spS.length == 0) = false ∧ row.length ≤ 1000000 then some ((Txt.split row spS).map D.str) else none) = _
      rw [if_pos ⟨by rw [len_sp]; rfl, by omega⟩, hs]
    have mem : ∀ p ∈ w :: r, p.length ≤ 1000000 := fun p hp => by
      have := split_mem (x := row) (y := spS) (p := p) (by rw [hs]; exact hp)
      omega
    have num : (w :: r).length ≤ 1000000 := by
      have := split_num (x := row) (y := spS) (by rw [len_sp]; exact Nat.le_refl 1)
      rw [hs] at this
      omega
    have io := integers_of_ok (s := s) (ws := r) (by rw [List.length_cons] at num; omega) fun p hp => mem p (List.mem_cons_of_mem _ hp)
    have e4 : mFn f_integers_of (mCons (mSl (mVar 3) (mSomeO (mC (.int 1))) (mNoO)) (mNil)) [.sh (.lst (rows.map .str)), .sh (.int (k : Int)), .sh (.str askS), .sh (.lst ((w :: r).map .str)), .un] s = .ok (if r.all goodW = true then .tup (r.map fun w => .int (valW w)) else .non) s := by
      refine ev_fn (l := [.lst (r.map .str)]) (s1 := s) (ev_cons (ev_sl (x := .lst ((w :: r).map .str)) (p := some ((1 : Nat) : Int)) (q := none) (s3 := s) rfl rfl rfl ?_) rfl) io
      show some (D.lst (cutD ((w :: r).map D.str) (some ((1 : Nat) : Int)) none)) = _
      rw [cut_from]; rfl
    refine df_rt_or rfl (st_seq (env' := [.sh (.lst (rows.map .str)), .sh (.int (k : Int)), .sh (.str askS), .un, .un]) (s1 := s) (st_if t1 rfl) (st_seq (st_asg sp1) (st_seq (st_asg e4) rfl))) ?_
    show outD (mSeq (mIfS (mOr (mTest (m2 neO (m2 ixO (mVar 3) (mC (.int 0))) (mVar 2))) (mTest (m2 isN (mVar 4) (mC .non)))) (mSeq (mRaise ("InvalidText" : PySem.Str) (mVar 1)) (mNext)) (mNext)) (mSeq (mRet (mVar 4)) (mNext)) [.sh (.lst (rows.map .str)), .sh (.int (k : Int)), .sh (.str askS), .sh (.lst ((w :: r).map .str)), .sh (if r.all goodW = true then .tup (r.map fun w => .int (valW w)) else .non)] s) = _
    have i3 : ∀ y : Sl, mTest (m2 neO (m2 ixO (mVar 3) (mC (.int 0))) (mVar 2)) [.sh (.lst (rows.map .str)), .sh (.int (k : Int)), .sh (.str askS), .sh (.lst ((w :: r).map .str)), y] s = .ok (!decide (w = askS)) s := fun y => ev_test (ev2 (s1 := s) (x := .str w) (y := .str askS) (ev2 (s1 := s) (x := .lst ((w :: r).map .str)) (y := .int 0) rfl rfl (at0 _ _)) rfl rfl)
    show _ = (match (if w = askS ∧ r.all goodW = true then some (r.map valW) else none) with | some ns => Res.ok (D.tup (ns.map D.int)) s | none => Res.ex IT (D.int (k : Int)) s)
    by_cases hw : w = askS
    · have i3' := fun y => i3 y
      rw [decide_eq_true hw] at i3'
      by_cases hg : r.all goodW = true
      · rw [if_pos hg, if_pos ⟨hw, hg⟩]
        refine out_of (st_seq (env' := [.sh (.lst (rows.map .str)), .sh (.int (k : Int)), .sh (.str askS), .sh (.lst ((w :: r).map .str)), .sh (.tup (r.map fun w => .int (valW w)))]) (s1 := s) (st_if (k := false) (ev_or (i3' _) (ev_test (ev2 (s1 := s) (x := D.tup (r.map fun w => D.int (valW w))) (y := D.non) rfl rfl rfl))) rfl) (st_seqR (st_ret rfl))) ?_
        show Res.ok (D.tup (r.map fun w => .int (valW w))) s = Res.ok (D.tup ((r.map valW).map D.int)) s
        rw [List.map_map]; rfl
      · rw [if_neg hg, if_neg (fun z => hg z.2)]
        exact out_of (st_seqE (env' := [.sh (.lst (rows.map .str)), .sh (.int (k : Int)), .sh (.str askS), .sh (.lst ((w :: r).map .str)), .sh .non]) (s1 := s) (n := IT) (d := .int (k : Int)) (st_if (k := true) (ev_or (i3' _) (ev_test (ev2 (s1 := s) (x := D.non) (y := D.non) rfl rfl rfl))) rfl)) rfl
    · have i3' := fun y => i3 y
      rw [decide_eq_false hw] at i3'
      rw [if_neg (show ¬ (w = askS ∧ r.all goodW = true) from fun z => hw z.1)]
      refine out_of (st_seqE (n := IT) (d := .int (k : Int)) (s1 := s) (st_if (k := true) (ev_or (k := true) (i3' _) rfl) rfl)) rfl
/-! ### a text read -/
def badAt (rows : List Str) (i : Nat) : Bool := decide (i = 400) || (match rows[i]? with | some row => (tellRow row).isNone | none => true)
def deedD (row : Str) : D := match tellRow row with | some (n, ps) => .tup [.int n, .tup (ps.map .int)] | none => .non
def RB : MS := mSeq (mAsg 4 (mFn f_numbers_at (mCons (mVar 1) (mCons (mVar 3) (mCons (mC (.str ("ask" : PySem.Str))) (mNil)))))) (mSeq (mIfS (mOr (mTest (m2 eqO (mVar 3) (mC (.int 400)))) (mOr (mTest (m2 eqO (mCall lenO (mCons (mVar 4) (mNil))) (mC (.int 0)))) (mNot (mTest (mFn f_is_told_deed (mCons (mTup (mCons (m2 ixO (mVar 4) (mC (.int 0))) (mCons (mSl (mVar 4) (mSomeO (mC (.int 1))) (mNoO)) (mNil)))) (mNil))))))) (mSeq (mRaise ("InvalidText" : PySem.Str) (mVar 3)) (mNext)) (mNext)) (mSeq (mApp 2 (mTup (mCons (m2 ixO (mVar 4) (mC (.int 0))) (mCons (mSl (mVar 4) (mSomeO (mC (.int 1))) (mNoO)) (mNil))))) (mNext)))
theorem dec400 (k : Nat) : eqO (.int (k : Int)) (.int 400) = some (.bl (decide (k = 400))) := by
  show some (D.bl (decide ((k : Int) = 400))) = _
  rw [show decide ((k : Int) = 400) = decide (k = 400) from decide_eq_decide.mpr (by omega)]
theorem vals_nonneg : ∀ {ws : List Str} {n : Int}, n ∈ ws.map valW → 0 ≤ n := fun {ws n} h => by
  obtain ⟨w, _, rfl⟩ := List.mem_map.mp h
  unfold valW; omega
theorem nums_nonneg {ws : List Str} {ns : List Int} (h : numsOf ws = some ns) : ∀ n ∈ ns, 0 ≤ n := by
  unfold numsOf at h
  split at h
  · cases h
  · split at h
    · cases h; exact fun n hn => vals_nonneg hn
    · cases h
theorem intsD_map : ∀ ps : List Int, intsD (ps.map D.int) = ps
  | [] => rfl
  | a :: r => by rw [List.map_cons]; show a :: intsD (r.map D.int) = _; rw [intsD_map r]
theorem all_num {ps : List Int} (h : ∀ p ∈ ps, 0 ≤ p) : (ps.map D.int).all isNumD = true := by
  rw [List.all_eq_true]
  intro x hx
  obtain ⟨p, hp, rfl⟩ := List.mem_map.mp hx
  exact decide_eq_true (h p hp)
theorem told_ints {n : Int} {ps : List Int} (hn : 0 ≤ n) (h : ∀ p ∈ ps, 0 ≤ p) : told (.tup [.int n, .tup (ps.map .int)]) = incr ps := by
  show (decide (0 ≤ n) && ((ps.map D.int).all isNumD && incr (intsD (ps.map D.int)))) = _
  rw [decide_eq_true hn, all_num h, intsD_map, Bool.true_and, Bool.true_and]
theorem fit_ints {n : Int} {ps : List Int} (hl : ps.length ≤ 1000000) : fit (.tup [.int n, .tup (ps.map .int)]) = true := by
  unfold fit
  show (true && ([D.int n, D.tup (ps.map D.int)].all fun x => nb x && (match seqD x with | some k => k.all nb && decide (k.length ≤ 1000000) | none => true))) = true
  rw [Bool.true_and, List.all_cons, List.all_cons]
  show (true && ((true && ((ps.map D.int).all nb && decide ((ps.map D.int).length ≤ 1000000))) && true)) = true
  rw [List.length_map, decide_eq_true hl, List.all_eq_true.mpr (nb_ints ps)]
  rfl
theorem RB_env {t rows' acc : D} : True := trivial
theorem nums_len {row : Str} {ns : List Int} (hl : row.length ≤ 999999) (h : numsOf (Txt.split row spS) = some ns) : ns.length ≤ 1000000 := by
  have num := split_num (x := row) (y := spS) (by rw [len_sp]; exact Nat.le_refl 1)
  unfold numsOf at h
  split at h
  · cases h
  · rename_i w r e
    split at h
    · cases h
      rw [e, List.length_cons] at num
      rw [List.length_map]; omega
    · cases h
theorem RB_run {t : D} {rows : List Str} {acc : List D} {i : Nat} {row : Str} {y : Sl} (hk : rows[i]? = some row) (hl : row.length ≤ 999999) (ha : acc.length ≤ 1000000) :
    if badAt rows i = true then ∃ e', RB [.sh t, .sh (.lst (rows.map .str)), .ow acc, .sh (.int (i : Int)), y] s = .ex IT (.int (i : Int)) e' s
    else ∃ y', RB [.sh t, .sh (.lst (rows.map .str)), .ow acc, .sh (.int (i : Int)), y] s = .nx [.sh t, .sh (.lst (rows.map .str)), .ow (acc ++ [deedD row]), .sh (.int (i : Int)), y'] s := by
  have na := numbers_at_ok (s := s) hk hl
  have bd : badAt rows i = (decide (i = 400) || (tellRow row).isNone) := by unfold badAt; rw [hk]
  rw [bd]
  cases hn : numsOf (Txt.split row spS) with
  | none =>
    rw [hn] at na
    have tn : tellRow row = none := by unfold tellRow; rw [hn]
    rw [tn, show (decide (i = 400) || (none : Option (Int × List Int)).isNone) = true from Bool.or_true _, if_pos rfl]
    exact ⟨_, st_seqE (st_asgE (ev_fn (l := [.lst (rows.map .str), .int (i : Int), .str askS]) (s1 := s) rfl na))⟩
  | some ns =>
    rw [hn] at na
    have st1 : mAsg 4 (mFn f_numbers_at (mCons (mVar 1) (mCons (mVar 3) (mCons (mC (.str ("ask" : PySem.Str))) (mNil))))) [.sh t, .sh (.lst (rows.map .str)), .ow acc, .sh (.int (i : Int)), y] s = .nx [.sh t, .sh (.lst (rows.map .str)), .ow acc, .sh (.int (i : Int)), .sh (.tup (ns.map .int))] s :=
      st_asg (ev_fn (l := [.lst (rows.map .str), .int (i : Int), .str askS]) (s1 := s) rfl na)
    have t1 : mTest (m2 eqO (mVar 3) (mC (.int 400))) [.sh t, .sh (.lst (rows.map .str)), .ow acc, .sh (.int (i : Int)), .sh (.tup (ns.map .int))] s = .ok (decide (i = 400)) s := ev_test (ev2 (s1 := s) rfl rfl (dec400 i))
    by_cases h4 : i = 400
    · rw [decide_eq_true h4] at t1
      rw [decide_eq_true h4, Bool.true_or, if_pos rfl]
      exact ⟨_, st_seq st1 (st_seqE (st_if (k := true) (ev_or (k := true) t1 rfl) rfl))⟩
    · rw [decide_eq_false h4] at t1
      rw [decide_eq_false h4, Bool.false_or]
      cases ns with
      | nil =>
        have tn : tellRow row = none := by unfold tellRow; rw [hn]
        rw [tn, show (none : Option (Int × List Int)).isNone = true from rfl, if_pos rfl]
        exact ⟨_, st_seq st1 (st_seqE (st_if (k := true) (ev_or t1 (ev_or (k := true) (ev_test (ev2 (s1 := s) (x := .int 0) (y := .int 0) rfl rfl rfl)) rfl)) rfl))⟩
      | cons n ps =>
        have nn := nums_nonneg hn
        have pl : ps.length ≤ 1000000 := by have := nums_len hl hn; rw [List.length_cons] at this; omega
        have td := is_told_deed_ok (s := s) (fit_ints (n := n) pl)
        rw [told_ints (nn n List.mem_cons_self) (fun p hp => nn p (List.mem_cons_of_mem _ hp))] at td
        have tp : mTup (mCons (m2 ixO (mVar 4) (mC (.int 0))) (mCons (mSl (mVar 4) (mSomeO (mC (.int 1))) (mNoO)) (mNil))) [.sh t, .sh (.lst (rows.map .str)), .ow acc, .sh (.int (i : Int)), .sh (.tup ((n :: ps).map .int))] s = .ok (.tup [.int n, .tup (ps.map .int)]) s := by
          refine ev_tup (ev_cons (ev2 (s1 := s) rfl rfl (at0 _ _)) (ev_cons (ev_sl (x := .tup ((n :: ps).map .int)) (p := some ((1 : Nat) : Int)) (q := none) (s3 := s) rfl rfl rfl ?_) rfl)) (Nat.le_trans (show 2 ≤ 2 from Nat.le_refl 2) (by decide))
          show some (D.tup (cutD ((n :: ps).map D.int) (some ((1 : Nat) : Int)) none)) = _
          rw [cut_from]; rfl
        have t2 : mTest (m2 eqO (mCall lenO (mCons (mVar 4) (mNil))) (mC (.int 0))) [.sh t, .sh (.lst (rows.map .str)), .ow acc, .sh (.int (i : Int)), .sh (.tup ((n :: ps).map .int))] s = .ok false s := by
          refine ev_test (ev2 (s1 := s) (x := .int (((n :: ps).map D.int).length : Int)) (y := .int 0) rfl rfl ?_)
          show some (D.bl (decide ((((n :: ps).map D.int).length : Int) = 0))) = _
          rw [decide_eq_false (by rw [List.map_cons, List.length_cons]; omega)]
        have t3 : mNot (mTest (mFn f_is_told_deed (mCons (mTup (mCons (m2 ixO (mVar 4) (mC (.int 0))) (mCons (mSl (mVar 4) (mSomeO (mC (.int 1))) (mNoO)) (mNil)))) (mNil)))) [.sh t, .sh (.lst (rows.map .str)), .ow acc, .sh (.int (i : Int)), .sh (.tup ((n :: ps).map .int))] s = .ok (!incr ps) s := ev_not (ev_test (ev_fn (l := [.tup [.int n, .tup (ps.map .int)]]) (ev_cons tp rfl) td))
        by_cases hi : incr ps = true
        · have tn : tellRow row = some (n, ps) := by unfold tellRow; rw [hn]; show (if incr ps = true then _ else _) = _; rw [if_pos hi]
          rw [hi] at t3
          rw [tn, show (some (n, ps)).isNone = false from rfl, if_neg (by decide)]
          refine ⟨.sh (.tup ((n :: ps).map .int)), st_seq st1 (st_seq (env' := [.sh t, .sh (.lst (rows.map .str)), .ow acc, .sh (.int (i : Int)), .sh (.tup ((n :: ps).map .int))]) (s1 := s) (st_if (k := false) (ev_or t1 (ev_or t2 t3)) rfl) (st_seq (st_app (l := acc) rfl tp ha) ?_))⟩
          have dd : deedD row = .tup [.int n, .tup (ps.map .int)] := by unfold deedD; rw [tn]
          rw [dd]
          rfl
        · have hf : incr ps = false := by simpa using hi
          have tn : tellRow row = none := by unfold tellRow; rw [hn]; show (if incr ps = true then _ else _) = _; rw [if_neg hi]
          rw [hf] at t3
          rw [tn, show (none : Option (Int × List Int)).isNone = true from rfl, if_pos rfl]
          exact ⟨_, st_seq st1 (st_seqE (st_if (k := true) (ev_or t1 (ev_or t2 t3)) rfl))⟩
def numsFrom (i m : Nat) : List D := (List.range' i m).map fun (j : Nat) => D.int (j : Int)
theorem loop_err {t : D} {rows : List Str} {k : Nat} (hl : ∀ r ∈ rows, r.length ≤ 999999) (hn : rows.length ≤ 999999) (hk : k < rows.length) (hb : badAt rows k = true) (hg : ∀ j, j < k → badAt rows j = false) :
    ∀ (m i : Nat) (acc : List D) (x y : Sl), i + m = rows.length → i ≤ k → acc.length = i → ∃ e', forM (gN 3) RB (numsFrom i m) [.sh t, .sh (.lst (rows.map .str)), .ow acc, x, y] s = .ex IT (.int (k : Int)) e' s
  | 0, i, acc, x, y, h1, h2, _ => absurd hk (by omega)
  | m + 1, i, acc, x, y, h1, h2, h3 => by
    have hi : i < rows.length := by omega
    have run := RB_run (s := s) (t := t) (acc := acc) (y := y) (List.getElem?_eq_getElem hi) (hl _ (List.getElem_mem hi)) (by omega)
    show ∃ e', forM (gN 3) RB (.int (i : Int) :: numsFrom (i + 1) m) _ s = _
    by_cases he : i = k
    · subst he
      rw [if_pos hb] at run
      obtain ⟨e', h⟩ := run
      exact ⟨e', for_ex rfl h⟩
    · rw [if_neg (by rw [hg i (by omega)]; decide)] at run
      obtain ⟨y', h⟩ := run
      obtain ⟨e', h'⟩ := loop_err hl hn hk hb hg m (i + 1) (acc ++ [deedD rows[i]]) (.sh (.int (i : Int))) y' (by omega) (by omega) (by rw [List.length_append, List.length_singleton, h3])
      exact ⟨e', for_cons rfl h h'⟩
theorem loop_ok {t : D} {rows : List Str} (hl : ∀ r ∈ rows, r.length ≤ 999999) (hn : rows.length ≤ 999999) (hg : ∀ j, j < rows.length → badAt rows j = false) :
    ∀ (m i : Nat) (acc : List D) (x y : Sl), i + m = rows.length → acc.length = i → ∃ x' y', forM (gN 3) RB (numsFrom i m) [.sh t, .sh (.lst (rows.map .str)), .ow acc, x, y] s = .nx [.sh t, .sh (.lst (rows.map .str)), .ow (acc ++ (rows.drop i).map deedD), x', y'] s
  | 0, i, acc, x, y, h1, _ => ⟨x, y, by rw [List.drop_of_length_le (by omega), List.map_nil, List.append_nil]; rfl⟩
  | m + 1, i, acc, x, y, h1, h3 => by
    have hi : i < rows.length := by omega
    have run := RB_run (s := s) (t := t) (acc := acc) (y := y) (List.getElem?_eq_getElem hi) (hl _ (List.getElem_mem hi)) (by omega)
    rw [if_neg (by rw [hg i hi]; decide)] at run
    obtain ⟨y', h⟩ := run
    obtain ⟨x2, y2, h'⟩ := loop_ok hl hn hg m (i + 1) (acc ++ [deedD rows[i]]) (.sh (.int (i : Int))) y' (by omega) (by rw [List.length_append, List.length_singleton, h3])
    refine ⟨x2, y2, ?_⟩
    show forM (gN 3) RB (.int (i : Int) :: numsFrom (i + 1) m) _ s = _
    rw [for_cons rfl h h', List.drop_eq_getElem_cons hi, List.map_cons, List.append_assoc]
    rfl
theorem eq_one (rows : List Str) : eqO (.lst (rows.map .str)) (.lst [.str ("" : Str)]) = some (.bl (decide (rows = [("" : Str)]))) := by
  have tp : ∀ l : List Str, toP.toPs (l.map D.str) = some (l.map PyData.str) := by
    intro l
    induction l with
    | nil => rfl
    | cons x r ih => rw [List.map_cons]; show (some (PyData.str x)).bind (fun p => (toP.toPs (r.map D.str)).map fun q => p :: q) = _; rw [ih]; rfl
  have e : eqD (.lst (rows.map .str)) (.lst [.str ("" : Str)]) = some (PyData.eqv (.list (rows.map PyData.str)) (.list [.str ("" : Str)])) := by
    show ((toP.toPs (rows.map D.str)).map PyData.list).bind (fun p => (some (PyData.list [.str ("" : Str)])).bind fun q => if min p.depth q.depth ≤ 64 then some (PyData.eqv p q) else none) = _
    rw [tp]
    show (if min (PyData.list (rows.map PyData.str)).depth (PyData.list [.str ("" : Str)]).depth ≤ 64 then some _ else none) = _
    rw [if_pos (Nat.le_trans (Nat.min_le_right _ _) (by decide))]
  unfold eqO
  rw [e]
  show some (D.bl (PyData.eqv (.list (rows.map PyData.str)) (.list [.str ("" : Str)]))) = _
  congr 2
  rw [Bool.eq_iff_iff, decide_eq_true_eq]
  match rows with
  | [] => exact ⟨fun h => absurd (show false = true from h) (by decide), fun h => by cases h⟩
  | [r] =>
    show ((r == ("" : Str)) && true) = true ↔ _
    rw [Bool.and_true, beq_iff_eq]
    exact ⟨fun h => by rw [h], fun h => (List.cons.inj h).1⟩
  | a :: b :: r =>
    constructor
    · intro h
      have h2 : ((a == ("" : Str)) && false) = true := h
      rw [Bool.and_false] at h2; cases h2
    · intro h; cases h
theorem numbers_from (n : Nat) : numbers n = numsFrom 0 n := by unfold numbers numsFrom; rw [List.range_eq_range']
theorem rows_of_ok {t : Str} (hl : t.length ≤ 1000000) : f_rows_of [.str t] s = .ok (.lst ((Txt.split t nlS).map .str)) s := by
  refine df_rt rfl (st_seq (env' := [.sh (.str t)]) (s1 := s) (st_if (k := false) rfl rfl) (st_seqR (st_ret (ev_of (ev_str1N rfl rfl ?_)))))
  show (if (nlS.length == 0) = false ∧ t.length ≤ 1000000 then some ((Txt.split t nlS).map D.str) else none) = _
  rw [if_pos ⟨by rw [len_nl]; rfl, hl⟩]
section
variable {t : Str} {rows : List Str} (hr : Txt.split t nlS = rows) (ht : t.length ≤ 900000)
include hr ht
theorem rows_small : (∀ r ∈ rows, r.length ≤ 999999) ∧ rows.length ≤ 999999 := by
  subst hr
  refine ⟨fun r h => ?_, ?_⟩
  · have := split_mem h; omega
  · have := split_num (x := t) (y := nlS) (by rw [len_nl]; exact Nat.le_refl 1); omega
theorem read_head {r : Res D} (hne : rows ≠ [("" : Str)]) (h : ∀ y : Sl, outD (mSeq (mFor (gN 3) (mItA rangeO (mCons (mCall lenO (mCons (mVar 1) (mNil))) (mNil))) RB) (mSeq (mShare 2) (mSeq (mRet (mCall tupleO (mCons (mVar 2) (mNil)))) (mNext))) [.sh (.str t), .sh (.lst (rows.map .str)), .ow [], .un, .un] s) = r) : f_read_course [.str t] s = r := by
  have ro := rows_of_ok (s := s) (t := t) (by omega)
  rw [hr] at ro
  refine df_rt_or rfl (st_seq (st_asg (ev_fn (l := [.str t]) (s1 := s) rfl ro)) (st_seq (env' := [.sh (.str t), .sh (.lst (rows.map .str)), .un, .un, .un]) (s1 := s) (st_if (k := false) (ev_test (ev2 (s1 := s) (y := .lst [.str ("" : Str)]) rfl rfl ?_)) rfl) (st_seq (st_asgO (l := []) (s1 := s) rfl) rfl))) (h .un)
  rw [eq_one, decide_eq_false hne]
theorem range_rows {env : En} (h1 : env[1]? = some (.sh (.lst (rows.map .str)))) : mItA rangeO (mCons (mCall lenO (mCons (mVar 1) (mNil))) (mNil)) env s = .ok (numsFrom 0 rows.length) s := by
  refine ev_itA (xs := [.int (rows.length : Int)]) (ev_cons (ev_call (l := [.lst (rows.map .str)]) (ev_cons (by unfold mVar; rw [h1]) rfl) (by show some (D.int ((rows.map D.str).length : Int)) = _; rw [List.length_map])) rfl) ?_
  obtain ⟨_, h2⟩ := rows_small hr ht
  rw [← numbers_from]
  show (if (rows.length : Int) ≤ 1000000 ∧ -1000000 ≤ (rows.length : Int) then some (numbers (rows.length : Int).toNat) else none) = _
  rw [if_pos ⟨by omega, by omega⟩, Int.toNat_natCast]
theorem read_err {k : Nat} (hne : rows ≠ [("" : Str)]) (hk : k < rows.length) (hb : badAt rows k = true) (hg : ∀ j, j < k → badAt rows j = false) : f_read_course [.str t] s = .ex IT (.int (k : Int)) s := by
  obtain ⟨h1, h2⟩ := rows_small hr ht
  refine read_head hr ht hne fun _ => ?_
  obtain ⟨e', h⟩ := loop_err (s := s) (t := .str t) h1 h2 hk hb hg rows.length 0 [] .un .un (by omega) (by omega) rfl
  rw [st_seqE (st_for (range_rows hr ht rfl) h)]
  rfl
theorem read_ok (hne : rows ≠ [("" : Str)]) (hg : ∀ j, j < rows.length → badAt rows j = false) : f_read_course [.str t] s = .ok (.tup (rows.map deedD)) s := by
  obtain ⟨h1, h2⟩ := rows_small hr ht
  refine read_head hr ht hne fun _ => ?_
  obtain ⟨x', y', h⟩ := loop_ok (s := s) (t := .str t) h1 h2 hg rows.length 0 [] .un .un (by omega) rfl
  rw [st_seq (st_for (range_rows hr ht rfl) h) (st_seq (st_share rfl) (st_seqR (st_ret (ev_call (l := [.lst (rows.map deedD)]) (s1 := s) rfl rfl))))]
  rfl
theorem read_nil (he : rows = [("" : Str)]) : f_read_course [.str t] s = .ok (.tup []) s := by
  have ro := rows_of_ok (s := s) (t := t) (by omega)
  rw [hr] at ro
  refine df_rt rfl (st_seq (st_asg (ev_fn (l := [.str t]) (s1 := s) rfl ro)) (st_seqR (st_if (k := true) (ev_test (ev2 (s1 := s) (y := .lst [.str ("" : Str)]) rfl rfl ?_)) rfl)))
  rw [eq_one, decide_eq_true he]
end
end Kn

end

section
set_option Elab.async false
set_option linter.all false
set_option maxRecDepth 100000
set_option maxHeartbeats 4000000
/-! Pl4: texts written; the law's own judges. -/
namespace Kn
open PySem TL
variable {s : BoxSt}
def txt (n : Int) : Str := Str.ofString (toString n)
def rowT (w : Str) (ns : List Int) : Str := Txt.join spS (w :: ns.map txt)
def IC : Str := ("InvalidCourse" : Str)
theorem strs_map : ∀ l : List Str, strsOf (l.map D.str) = some l
  | [] => rfl
  | x :: r => by rw [List.map_cons]; show (strsOf (r.map D.str)).map _ = _; rw [strs_map r]; rfl
theorem row_text_ok {w : Str} {d : D} {ns : List Int} (hd : seqD d = some (ns.map .int)) (hn : ns.length ≤ 900000) (hb : ∀ n ∈ ns, n.natAbs.log2 < 1920) (hs : ((w :: ns.map txt).map (·.length)).sum + (ns.length + 1) * 1 ≤ 1000000) : f_row_text [.str w, d] s = .ok (.str (rowT w ns)) s := by
  have it : itO d = some (ns.map .int) := by
    cases d with
    | lst l => cases hd; rfl
    | tup l => cases hd; rfl
    | _ => cases hd
  refine df_rt rfl (st_seqR (st_ret (ev_str1 (s1 := s) (y := .lst ((w :: ns.map txt).map .str)) rfl (ev_of (ev2N (s1 := s) (x := .lst [.str w]) (y := .lst ((ns.map txt).map .str)) rfl (ev_of (ev_lcg (ds := ns.map .int) (f := fun x => match x with | .int i => .str (txt i) | _ => .non) (s1 := s) (ev_it rfl it) (by rw [List.length_map]; omega) ?_ ?_)) ?_)) ?_)))
  · intro x hx
    obtain ⟨i, hi, rfl⟩ := List.mem_map.mp hx
    refine ⟨_, rfl, ev_call (l := [.int i]) (s1 := s) rfl ?_⟩
    show (if i.natAbs.log2 < 1920 then some (D.str (txt i)) else none) = _
    rw [if_pos (hb i hi)]
  · rw [List.map_map, List.map_map]; rfl
  · show (if [D.str w].length + ((ns.map txt).map D.str).length ≤ 1000000 then some ([D.str w] ++ (ns.map txt).map D.str) else none) = _
    rw [if_pos (by rw [List.length_map, List.length_map, List.length_singleton]; omega)]
    rfl
  · show ((strsOf ((w :: ns.map txt).map D.str)).bind fun ys => if (ys.map (·.length)).sum + ys.length * spS.length ≤ 1000000 then some (D.str (Txt.join spS ys)) else none) = _
    rw [strs_map]
    show (if _ then _ else _) = _
    rw [if_pos (by rw [len_sp, List.length_cons, List.length_map]; exact hs)]
    rfl
theorem law_row_text_is : f_law_row_text = f_row_text := rfl
/-! ### a course written -/
def CB : MS := mSeq (mIfS (mNot (mTest (mFn f_is_told_deed (mCons (mVar 2) (mNil))))) (mSeq (mRaise ("InvalidCourse" : PySem.Str) (mVar 1)) (mNext)) (mNext)) (mNext)
theorem CB_run {d x : D} {i : Nat} {a b : Sl} (h : fit x = true) :
    CB [.sh d, .sh (.int (i : Int)), .sh x, a, b] s = if told x = true then .nx [.sh d, .sh (.int (i : Int)), .sh x, a, b] s else .ex IC (.int (i : Int)) [.sh d, .sh (.int (i : Int)), .sh x, a, b] s := by
  have t : mNot (mTest (mFn f_is_told_deed (mCons (mVar 2) (mNil)))) [.sh d, .sh (.int (i : Int)), .sh x, a, b] s = .ok (!told x) s := ev_not (ev_test (ev_fn (l := [x]) rfl (is_told_deed_ok h)))
  by_cases ht : told x = true
  · rw [if_pos ht]
    rw [ht] at t
    exact st_seq (st_if t rfl) rfl
  · rw [if_neg ht]
    have hf : told x = false := by simpa using ht
    rw [hf] at t
    exact st_seqE (st_if t rfl)
theorem cloop_ok {d : D} : ∀ (ds : List D) (i : Nat) (x y : Sl), (∀ z ∈ ds, fit z = true ∧ told z = true) → ∃ x' y', forM (gU [1, 2]) CB (enumL i ds) [.sh d, x, y, .un, .un] s = .nx [.sh d, x', y', .un, .un] s
  | [], i, x, y, _ => ⟨x, y, rfl⟩
  | z :: r, i, x, y, h => by
    obtain ⟨x', y', hh⟩ := cloop_ok (d := d) r (i + 1) (.sh (.int (i : Int))) (.sh z) fun w hw => h w (List.mem_cons_of_mem _ hw)
    have run := CB_run (s := s) (d := d) (i := i) (a := .un) (b := .un) (h z List.mem_cons_self).1
    rw [if_pos (h z List.mem_cons_self).2] at run
    exact ⟨x', y', for_cons rfl run hh⟩
theorem cloop_err {d : D} : ∀ (ds : List D) (i k : Nat) (x y : Sl) (z : D), ds[k]? = some z → fit z = true → told z = false → (∀ j w, j < k → ds[j]? = some w → fit w = true ∧ told w = true) → ∃ e', forM (gU [1, 2]) CB (enumL i ds) [.sh d, x, y, .un, .un] s = .ex IC (.int ((i + k : Nat) : Int)) e' s
  | [], i, k, x, y, z, h, _, _, _ => by simp at h
  | w :: r, i, 0, x, y, z, h, hf, ht, _ => by
    simp at h
    subst h
    have run := CB_run (s := s) (d := d) (i := i) (a := .un) (b := .un) hf
    rw [if_neg (by rw [ht]; decide)] at run
    exact ⟨_, for_ex rfl run⟩
  | w :: r, i, k + 1, x, y, z, h, hf, ht, hg => by
    obtain ⟨e', hh⟩ := cloop_err (d := d) r (i + 1) k (.sh (.int (i : Int))) (.sh w) z (by simpa using h) hf ht fun j v hj hv => hg (j + 1) v (by omega) (by simpa using hv)
    obtain ⟨g1, g2⟩ := hg 0 w (by omega) rfl
    have run := CB_run (s := s) (d := d) (i := i) (a := .un) (b := .un) g1
    rw [if_pos g2] at run
    rw [show i + (k + 1) = i + 1 + k by omega]
    exact ⟨e', for_cons rfl run hh⟩
theorem gt400 (n : Nat) : gtI (.int (n : Int)) (.int 400) = some (.bl (decide (400 < n))) := by
  show some (D.bl (decide ((400 : Int) < (n : Int)))) = _
  rw [show decide ((400 : Int) < (n : Int)) = decide (400 < n) from decide_eq_decide.mpr (by omega)]
theorem course_test {d : D} {ds : List D} (hd : seqD d = some ds) : mOr (mNot (mTest (mFn f_is_sequence (mCons (mVar 0) (mNil))))) (mTest (m2 gtI (mCall lenO (mCons (mVar 0) (mNil))) (mC (.int 400)))) [.sh d, .un, .un, .un, .un] s = .ok (decide (400 < ds.length)) s := by
  have sq : mTest (mFn f_is_sequence (mCons (mVar 0) (mNil))) [.sh d, .un, .un, .un, .un] s = .ok true s := ev_test (ev_fn (l := [d]) rfl (by
    cases d with
    | lst l => rfl
    | tup l => rfl
    | _ => cases hd))
  refine ev_or (ev_not sq) (ev_test (ev2 (s1 := s) (x := .int (ds.length : Int)) (y := .int 400) ?_ rfl (gt400 _)))
  refine ev_call (l := [d]) (s1 := s) rfl ?_
  cases d with
  | lst l => cases hd; rfl
  | tup l => cases hd; rfl
  | _ => cases hd
theorem enum_of {d : D} {ds : List D} (hd : seqD d = some ds) {env : En} (h : env[0]? = some (.sh d)) : mItA enumO2 (mCons (mVar 0) (mNil)) env s = .ok (enumL 0 ds) s := by
  refine ev_itA (xs := [d]) (ev_cons (by unfold mVar; rw [h]) rfl) ?_
  cases d with
  | lst l => cases hd; rfl
  | tup l => cases hd; rfl
  | _ => cases hd
theorem course_err {d z : D} {ds : List D} {k : Nat} (hd : seqD d = some ds) (hl : ds.length ≤ 400) (hk : ds[k]? = some z) (hf : fit z = true) (ht : told z = false) (hg : ∀ j w, j < k → ds[j]? = some w → fit w = true ∧ told w = true) : f_course_text [d] s = .ex IC (.int (k : Int)) s := by
  obtain ⟨e', h⟩ := cloop_err (s := s) (d := d) ds 0 k .un .un z hk hf ht hg
  rw [Nat.zero_add] at h
  have t := course_test (s := s) hd
  rw [decide_eq_false (by omega)] at t
  exact df_ex rfl (st_seq (env' := [.sh d, .un, .un, .un, .un]) (s1 := s) (st_if t rfl) (st_seqE (st_for (enum_of hd rfl) h)))
theorem course_big {d : D} {ds : List D} (hd : seqD d = some ds) (hl : 400 < ds.length) : f_course_text [d] s = .ex IC (.int (-1)) s := by
  have t := course_test (s := s) hd
  rw [decide_eq_true hl] at t
  exact df_ex rfl (st_seqE (st_if t rfl))
theorem course_no {d : D} (hn : nb d = true) (hd : seqD d = none) : f_course_text [d] s = .ex IC (.int (-1)) s := by
  have sq := is_sequence_ok (s := s) hn
  rw [hd] at sq
  exact df_ex rfl (st_seqE (st_if (k := true) (ev_or (k := true) (ev_not (k := false) (ev_test (ev_fn (l := [d]) rfl sq))) rfl) rfl))
/-- a deed of a list or a tuple -/
def IsDeed (x : D) (k : Int) (ps : List Int) : Prop := ∃ p, seqD x = some [.int k, p] ∧ seqD p = some (ps.map .int)
def okDeed (kp : Int × List Int) : Prop := 0 ≤ kp.1 ∧ kp.1 < 10 ^ 40 ∧ (∀ p ∈ kp.2, 0 ≤ p ∧ p < 10 ^ 40) ∧ incr kp.2 = true ∧ kp.2.length ≤ 400
theorem deed_fit {x : D} {k : Int} {ps : List Int} (h : IsDeed x k ps) (hl : ps.length ≤ 1000000) : fit x = true := by
  obtain ⟨p, h1, h2⟩ := h
  have np : nb p = true := by cases p <;> first | rfl | cases h2
  have nx : nb x = true := by cases x <;> first | rfl | cases h1
  unfold fit
  rw [nx, h1, Bool.true_and]
  show ([D.int k, p].all fun x => nb x && (match seqD x with | some k => k.all nb && decide (k.length ≤ 1000000) | none => true)) = true
  rw [List.all_cons, List.all_cons, np, h2]
  show (true && (true && ((ps.map D.int).all nb && decide ((ps.map D.int).length ≤ 1000000)) && true)) = true
  rw [List.length_map, decide_eq_true hl, List.all_eq_true.mpr (nb_ints ps)]
  rfl
theorem deed_told {x : D} {k : Int} {ps : List Int} (h : IsDeed x k ps) (hk : 0 ≤ k) (hp : ∀ p ∈ ps, 0 ≤ p) : told x = incr ps := by
  obtain ⟨p, h1, h2⟩ := h
  unfold told
  rw [h1]
  show (isNumD (.int k) && (match seqD p with | some l => l.all isNumD && incr (intsD l) | none => false)) = _
  rw [h2]
  show (decide (0 ≤ k) && ((ps.map D.int).all isNumD && incr (intsD (ps.map D.int)))) = _
  rw [decide_eq_true hk, all_num hp, intsD_map, Bool.true_and, Bool.true_and]
theorem log_small {n : Int} (h0 : 0 ≤ n) (h1 : n < 10 ^ 40) : n.natAbs.log2 < 1920 := by
  by_cases z : n.natAbs = 0
  · rw [z]; decide
  · refine (Nat.log2_lt z).mpr ?_
    have : n.natAbs < 10 ^ 40 := by omega
    exact Nat.lt_of_lt_of_le this (by decide)
theorem txt_len {n : Int} (h0 : 0 ≤ n) (h1 : n < 10 ^ 40) : (txt n).length ≤ 40 := by
  obtain ⟨m, rfl⟩ := Int.eq_ofNat_of_zero_le h0
  rw [len_tl]
  show (tl (Str.ofString (toString ((m : Nat) : Int)))).length ≤ 40
  rw [tl_num]
  exact numL_len (by decide) (by omega)
def rowD (kp : Int × List Int) : Str := rowT askS (kp.1 :: kp.2)
theorem sum_le {B : Nat} : ∀ (l : List Nat), (∀ x ∈ l, x ≤ B) → l.sum ≤ l.length * B
  | [], _ => Nat.zero_le _
  | x :: r, h => by
    have h1 := h x List.mem_cons_self
    have h2 := sum_le r fun y hy => h y (List.mem_cons_of_mem _ hy)
    rw [List.sum_cons, List.length_cons, Nat.succ_mul]
    omega
theorem row_sizes {kp : Int × List Int} (h : okDeed kp) : ((askS :: (kp.1 :: kp.2).map txt).map (·.length)).sum + ((kp.1 :: kp.2).length + 1) * 1 ≤ 20000 := by
  obtain ⟨h1, h2, h3, _, h5⟩ := h
  have := sum_le (B := 40) ((askS :: (kp.1 :: kp.2).map txt).map (·.length)) (fun x hx => by
    obtain ⟨w, hw, rfl⟩ := List.mem_map.mp hx
    rcases List.mem_cons.mp hw with e | e
    · rw [e, len_tl, tl_ask]; decide
    · obtain ⟨n, hn, rfl⟩ := List.mem_map.mp e
      rcases List.mem_cons.mp hn with e | e
      · rw [e]; exact txt_len h1 h2
      · exact txt_len (h3 n e).1 (h3 n e).2)
  rw [List.length_map, List.length_cons, List.length_map, List.length_cons] at this
  rw [List.length_cons]
  omega
theorem row_len {kp : Int × List Int} (h : okDeed kp) : (rowD kp).length ≤ 20000 := by
  have := row_sizes h
  unfold rowD rowT
  rw [join_eq]
  have j := StrLaws.join_length_le spS (askS :: (kp.1 :: kp.2).map txt)
  rw [len_sp, List.length_cons, List.length_map] at j
  omega
theorem row_ok {d : D} {kp : Int × List Int} (h : okDeed kp) (hd : seqD d = some ((kp.1 :: kp.2).map .int)) : f_row_text [.str askS, d] s = .ok (.str (rowD kp)) s := by
  have sz := row_sizes h
  obtain ⟨h1, h2, h3, _, h5⟩ := h
  refine row_text_ok hd (by rw [List.length_cons]; omega) (fun n hn => ?_) (by omega)
  rcases List.mem_cons.mp hn with e | e
  · rw [e]; exact log_small h1 h2
  · exact log_small (h3 n e).1 (h3 n e).2
/-- a course: what its deeds tell -/
def Course : List D → List (Int × List Int) → Prop
  | [], [] => True
  | x :: r, kp :: t => IsDeed x kp.1 kp.2 ∧ okDeed kp ∧ Course r t
  | _, _ => False
theorem Course.len : ∀ {ds : List D} {cs : List (Int × List Int)}, Course ds cs → ds.length = cs.length
  | [], [], _ => rfl
  | _ :: _, _ :: _, h => by rw [List.length_cons, List.length_cons, h.2.2.len]
  | [], _ :: _, h => h.elim
  | _ :: _, [], h => h.elim
theorem Course.good : ∀ {ds : List D} {cs : List (Int × List Int)}, Course ds cs → ∀ z ∈ ds, fit z = true ∧ told z = true
  | [], _, _ => fun _ h => by cases h
  | x :: r, kp :: t, h => fun z hz => by
    rcases List.mem_cons.mp hz with e | e
    · rw [e]
      refine ⟨deed_fit h.1 (by have := h.2.1.2.2.2.2; omega), ?_⟩
      rw [deed_told h.1 h.2.1.1 fun p hp => (h.2.1.2.2.1 p hp).1]
      exact h.2.1.2.2.2.1
    · exact h.2.2.good z e
  | _ :: _, [], h => h.elim
def rowF (x : D) : D := match seqD x with | some [.int k, p] => (match seqD p with | some l => .str (rowD (k, intsD l)) | none => .non) | _ => .non
theorem Course.rows : ∀ {ds : List D} {cs : List (Int × List Int)}, Course ds cs → ds.map rowF = (cs.map rowD).map .str
  | [], [], _ => rfl
  | x :: r, kp :: t, h => by
    rw [List.map_cons, List.map_cons, List.map_cons, h.2.2.rows]
    congr 1
    obtain ⟨p, h1, h2⟩ := h.1
    unfold rowF
    rw [h1]
    show (match seqD p with | some l => D.str (rowD (kp.1, intsD l)) | none => .non) = _
    rw [h2]
    show D.str (rowD (kp.1, intsD (kp.2.map D.int))) = _
    rw [intsD_map]
  | [], _ :: _, h => h.elim
  | _ :: _, [], h => h.elim
theorem Course.all {ds : List D} {cs : List (Int × List Int)} (h : Course ds cs) : ∀ kp ∈ cs, okDeed kp := by
  induction cs generalizing ds with
  | nil => intro kp hk; cases hk
  | cons c t ih =>
    cases ds with
    | nil => exact h.elim
    | cons x r =>
      intro kp hk
      rcases List.mem_cons.mp hk with e | e
      · rw [e]; exact h.2.1
      · exact ih h.2.2 kp e
def textOf (cs : List (Int × List Int)) : Str := Txt.join nlS (cs.map rowD)
theorem text_len {cs : List (Int × List Int)} (hl : ((cs.map rowD).map (·.length)).sum + cs.length ≤ 800000) : (textOf cs).length ≤ 800000 := by
  unfold textOf
  rw [join_eq]
  have j := StrLaws.join_length_le nlS (cs.map rowD)
  rw [len_nl, List.length_map] at j
  omega
theorem course_ok {d : D} {ds : List D} {cs : List (Int × List Int)} (hd : seqD d = some ds) (h : Course ds cs) (hl : cs.length ≤ 400) (hs : ((cs.map rowD).map (·.length)).sum + cs.length ≤ 800000) : f_course_text [d] s = .ok (.str (textOf cs)) s := by
  have ln := h.len
  obtain ⟨x', y', lp⟩ := cloop_ok (s := s) (d := d) ds 0 .un .un h.good
  have t := course_test (s := s) hd
  rw [decide_eq_false (by omega)] at t
  have it : itO d = some ds := by
    cases d with
    | lst l => cases hd; rfl
    | tup l => cases hd; rfl
    | _ => cases hd
  refine df_rt rfl (st_seq (env' := [.sh d, .un, .un, .un, .un]) (s1 := s) (st_if t rfl) (st_seq (st_for (enum_of hd rfl) lp) (st_seqR (st_ret (ev_str1 (s1 := s) (y := .lst ((cs.map rowD).map .str)) rfl (ev_of (ev_lcg (ds := ds) (f := rowF) (s1 := s) (ev_it rfl it) (by omega) ?_ h.rows)) ?_)))))
  · intro x hx
    obtain ⟨kp, hk, hxk⟩ : ∃ kp, okDeed kp ∧ IsDeed x kp.1 kp.2 := by
      clear t lp hl hs ln it
      induction ds generalizing cs d with
      | nil => cases hx
      | cons z r ih =>
        cases cs with
        | nil => exact h.elim
        | cons c t =>
          rcases List.mem_cons.mp hx with e | e
          · rw [e]; exact ⟨c, h.2.1, h.1⟩
          · exact ih (d := .lst r) (cs := t) rfl h.2.2 e
    obtain ⟨p, p1, p2⟩ := hxk
    have g : gU [3, 4] x (wipeE [.sh d, x', y', .un, .un] [3, 4]) = some [.sh d, x', y', .sh (.int kp.1), .sh p] := by
      cases x with
      | lst l => cases p1; rfl
      | tup l => cases p1; rfl
      | _ => cases p1
    refine ⟨_, g, ev_fn (l := [.str askS, .lst ((kp.1 :: kp.2).map .int)]) (s1 := s) (ev_cons rfl (ev_cons (ev_of (ev2N (s1 := s) (x := .lst [.int kp.1]) (y := .lst (kp.2.map .int)) rfl (ev_of (ev_callN (l := [p]) (s1 := s) rfl ?_)) ?_)) rfl)) ?_⟩
    · cases p with
      | lst l => cases p2; rfl
      | tup l => cases p2; rfl
      | _ => cases p2
    · show (if [D.int kp.1].length + (kp.2.map D.int).length ≤ 1000000 then some ([D.int kp.1] ++ kp.2.map D.int) else none) = _
      rw [if_pos (by rw [List.length_map, List.length_singleton]; have := hk.2.2.2.2; omega)]
      rfl
    · rw [row_ok hk rfl]
      unfold rowF
      rw [p1]
      show _ = Res.ok (match seqD p with | some l => D.str (rowD (kp.1, intsD l)) | none => .non) s
      rw [p2]
      show _ = Res.ok (D.str (rowD (kp.1, intsD (kp.2.map D.int)))) s
      rw [intsD_map]
  · show ((strsOf ((cs.map rowD).map D.str)).bind fun ys => if (ys.map (·.length)).sum + ys.length * nlS.length ≤ 1000000 then some (D.str (Txt.join nlS ys)) else none) = _
    rw [strs_map]
    show (if _ then _ else _) = _
    rw [if_pos (by rw [len_nl, List.length_map]; omega)]
    rfl
/-! ### the law's judges -/
theorem lc_none {g : MG} {t : MT} {a : ME} {env : En} : ∀ {ds : List D}, (∀ x ∈ ds, ∃ e1, g x env = some e1 ∧ t e1 s = .ok false s) → lcM g t a env ds s = .ok [] s
  | [], _ => rfl
  | x :: r, h => by
    obtain ⟨e1, h1, h2⟩ := h x List.mem_cons_self
    have ih := lc_none (a := a) (ds := r) fun y hy => h y (List.mem_cons_of_mem _ hy)
    unfold lcM
    simp only [h1, h2, ih]
def okD : Nat → D → Bool
  | 0, _ => false
  | n + 1, d => match d with | .int _ => true | .str _ => true | .tup l => decide (l.length ≤ 900000) && l.all (okD n) | _ => false
theorem at_nat {α : Type} {l : List α} {i : Nat} {x : α} (h : l[i]? = some x) : L2.atI l (i : Int) = some x := by
  have hi := (List.getElem?_eq_some_iff.mp h).1
  unfold L2.atI L2.ixN
  rw [if_pos (by omega), if_pos (by omega)]
  show l[(i : Int).toNat]? = _
  rw [Int.toNat_natCast]; exact h
theorem same_ok : ∀ (n : Nat) (d : D), okD n d = true → f_law_same n [d, d] s = .ok (.bl true) s
  | 0, _, h => by cases h
  | n + 1, .int i, _ => by
    show mDef 3 2 (b_law_same (f_law_same n)) [.int i, .int i] s = _
    refine df_rt rfl (st_seq (env' := [.sh (.int i), .sh (.int i), .un]) (s1 := s) rfl (st_seq (env' := [.sh (.int i), .sh (.int i), .un]) (s1 := s) rfl (st_seq (env' := [.sh (.int i), .sh (.int i), .un]) (s1 := s) rfl (st_seq (env' := [.sh (.int i), .sh (.int i), .un]) (s1 := s) rfl (st_seqR (st_ret (ev_andV (k := true) (s1 := s) rfl ?_)))))))
    show Res.ok (D.bl (decide (i = i))) s = _
    rw [decide_eq_true rfl]
  | n + 1, .str i, _ => by
    show mDef 3 2 (b_law_same (f_law_same n)) [.str i, .str i] s = _
    refine df_rt rfl (st_seq (env' := [.sh (.str i), .sh (.str i), .un]) (s1 := s) rfl (st_seq (env' := [.sh (.str i), .sh (.str i), .un]) (s1 := s) rfl (st_seq (env' := [.sh (.str i), .sh (.str i), .un]) (s1 := s) rfl (st_seqR (st_ifT (s1 := s) rfl (st_seqR (st_ret (ev_andV (k := true) (s1 := s) rfl ?_))))))))
    show Res.ok (D.bl (decide (i = i))) s = _
    rw [decide_eq_true rfl]
  | n + 1, .tup l, h => by
    have h' : (decide (l.length ≤ 900000) && l.all (okD n)) = true := h
    rw [Bool.and_eq_true, decide_eq_true_eq] at h'
    show mDef 3 2 (b_law_same (f_law_same n)) [.tup l, .tup l] s = _
    have ne : neO (.int (l.length : Int)) (.int (l.length : Int)) = some (.bl false) := by
      show some (D.bl (!decide ((l.length : Int) = (l.length : Int)))) = _
      rw [decide_eq_true rfl]; rfl
    refine df_rt rfl (st_seqR (st_if (k := true) (s1 := s) rfl (st_seq (env' := [.sh (.tup l), .sh (.tup l), .un]) (s1 := s) (st_if (k := false) (ev_or (k := false) rfl (ev_test (ev2 (s1 := s) (x := .int (l.length : Int)) (y := .int (l.length : Int)) rfl rfl ne))) rfl) (st_seqR (st_ret (ev2 (s1 := s) (x := .lst []) (y := .lst []) (ev_of ?_) rfl rfl))))))
    have rg : mItA rangeO (mCons (mCall lenO (mCons (mVar 1) (mNil))) (mNil)) [.sh (.tup l), .sh (.tup l), .un] s = .ok (numbers l.length) s := by
      refine ev_itA (xs := [.int (l.length : Int)]) rfl ?_
      show (if (l.length : Int) ≤ 1000000 ∧ -1000000 ≤ (l.length : Int) then some (numbers (l.length : Int).toNat) else none) = _
      rw [if_pos ⟨by omega, by omega⟩, Int.toNat_natCast]
    unfold mLc
    rw [rg]
    show (if (numbers l.length).length ≤ 1000000 then _ else _) = _
    rw [if_pos (by unfold numbers; rw [List.length_map, List.length_range]; omega), lc_none]
    intro x hx
    unfold numbers at hx
    obtain ⟨i, hi, rfl⟩ := List.mem_map.mp hx
    have hi' : i < l.length := List.mem_range.mp hi
    have ix : ixO (.tup l) (.int (i : Int)) = some l[i] := at_nat (List.getElem?_eq_getElem hi')
    exact ⟨_, rfl, ev_not (k := true) (ev_test (ev_fn (l := [l[i], l[i]]) (ev_cons (ev2 (s1 := s) rfl rfl ix) (ev_cons (ev2 (s1 := s) rfl rfl ix) rfl)) (same_ok n l[i] ((List.all_eq_true.mp h'.2) _ (List.getElem_mem hi')))))⟩
  | n + 1, .non, h => by cases h
  | n + 1, .bl _, h => by cases h
  | n + 1, .lst _, h => by cases h
  | n + 1, .ins _ _, h => by cases h
  | n + 1, .box, h => by cases h
def readS : Str := ("read" : Str)
def textS : Str := ("text" : Str)
def courseS : Str := ("course" : Str)
theorem law_read_ok {d v : D} (h : f_read_course [d] s = .ok v s) : f_law_read [d] s = .ok (.tup [.str readS, v]) s := by
  refine df_rt rfl (st_seqR ?_)
  have m : mSeq (mRet (mTup (mCons (mC (.str ("read" : PySem.Str))) (mCons (mFn f_read_course (mCons (mVar 0) (mNil))) (mNil))))) (mNext) [.sh d, .un] s = .rt (.tup [.str readS, v]) s := st_seqR (st_ret (ev_tup (ev_cons rfl (ev_cons (ev_fn (l := [d]) (s1 := s) rfl h) rfl)) (Nat.le_trans (show 2 ≤ 2 from Nat.le_refl 2) (by decide))))
  show mTry _ 1 _ _ _ [.sh d, .un] s = _
  unfold mTry
  rw [m]
theorem law_read_err {d : D} {k : Int} (h : f_read_course [d] s = .ex IT (.int k) s) : f_law_read [d] s = .ok (.tup [.str textS, .int k]) s := by
  refine df_rt rfl (st_seqR ?_)
  have m : mSeq (mRet (mTup (mCons (mC (.str ("read" : PySem.Str))) (mCons (mFn f_read_course (mCons (mVar 0) (mNil))) (mNil))))) (mNext) [.sh d, .un] s = .ex IT (.int k) [.sh d, .un] s := by
    exact st_seqE (st_retE (ev_tupE (ev_consE2 rfl (ev_consE1 (ev_fn (l := [d]) (s1 := s) rfl h)))))
  show mTry _ 1 _ _ _ [.sh d, .un] s = _
  unfold mTry
  rw [m]
  rfl
theorem law_written_ok {d v : D} (h : f_course_text [d] s = .ok v s) : f_law_written [d] s = .ok (.tup [.str textS, v]) s := by
  refine df_rt rfl (st_seqR ?_)
  have m : mSeq (mRet (mTup (mCons (mC (.str ("text" : PySem.Str))) (mCons (mFn f_course_text (mCons (mVar 0) (mNil))) (mNil))))) (mNext) [.sh d, .un] s = .rt (.tup [.str textS, v]) s := st_seqR (st_ret (ev_tup (ev_cons rfl (ev_cons (ev_fn (l := [d]) (s1 := s) rfl h) rfl)) (Nat.le_trans (show 2 ≤ 2 from Nat.le_refl 2) (by decide))))
  show mTry _ 1 _ _ _ [.sh d, .un] s = _
  unfold mTry
  rw [m]
theorem law_written_err {d : D} {k : Int} (h : f_course_text [d] s = .ex IC (.int k) s) : f_law_written [d] s = .ok (.tup [.str courseS, .int k]) s := by
  refine df_rt rfl (st_seqR ?_)
  have m : mSeq (mRet (mTup (mCons (mC (.str ("text" : PySem.Str))) (mCons (mFn f_course_text (mCons (mVar 0) (mNil))) (mNil))))) (mNext) [.sh d, .un] s = .ex IC (.int k) [.sh d, .un] s := by
    exact st_seqE (st_retE (ev_tupE (ev_consE2 rfl (ev_consE1 (ev_fn (l := [d]) (s1 := s) rfl h)))))
  show mTry _ 1 _ _ _ [.sh d, .un] s = _
  unfold mTry
  rw [m]
  rfl
end Kn

end

section
set_option Elab.async false
set_option linter.all false
set_option maxRecDepth 100000
set_option maxHeartbeats 4000000
/-! Pl5: good rows, bad rows. -/
namespace Kn
open PySem TL
variable {s : BoxSt}
theorem cps_sp : spS = ⟨#[32]⟩ := ext_tl (by rw [tl_sp])
theorem cps_nl : nlS = ⟨#[10]⟩ := ext_tl (by rw [tl_nl])
theorem split_joinS {ws : List Str} (hne : ws ≠ []) (h : ∀ w ∈ ws, 32 ∉ tl w) : Txt.split (Str.join spS ws) spS = ws := by
  rw [← join_eq]
  exact split_join (s := 32) (S := []) tl_sp (by decide +kernel) hne h
theorem split_joinN {ws : List Str} (hne : ws ≠ []) (h : ∀ w ∈ ws, 10 ∉ tl w) : Txt.split (Txt.join nlS ws) nlS = ws := split_join (s := 10) (S := []) tl_nl (by decide +kernel) hne h
theorem tl_txt {n : Int} (h : 0 ≤ n) : tl (txt n) = numL n.toNat := by
  obtain ⟨m, rfl⟩ := Int.eq_ofNat_of_zero_le h
  show tl (Str.ofString (toString ((m : Nat) : Int))) = _
  rw [tl_num, Int.toNat_natCast]
theorem txt_free {n : Int} (h : 0 ≤ n) {k : Nat} (hk : k < 48 ∨ 57 < k) : k ∉ tl (txt n) := by
  rw [tl_txt h]; exact numL_free hk
theorem numL_head : ∀ m : Nat, (numL m).head? = some 48 → m = 0 := by
  intro m
  induction m using Nat.strongRecOn with
  | _ m ih =>
    by_cases h : m < 10
    · rw [numL_lt h]
      intro z
      have : 48 + m = 48 := Option.some.inj z
      omega
    · intro z
      rw [numL_step (by omega)] at z
      have hd : (numL (m / 10)).head? = some 48 := by
        cases q : numL (m / 10) with
        | nil => exact absurd q (numL_ne _)
        | cons a r => rw [q] at z; exact z
      have := ih (m / 10) (by omega) hd
      omega
theorem good_txt {n : Int} (h0 : 0 ≤ n) (h1 : n < 10 ^ 40) : goodW (txt n) = true := by
  unfold goodW
  have l1 := txt_len h0 h1
  rw [len_tl] at l1
  have l0 : 1 ≤ (tl (txt n)).length := by
    rw [tl_txt h0]
    cases q : numL n.toNat with
    | nil => exact absurd q (numL_ne _)
    | cons a r => rw [List.length_cons]; omega
  rw [decide_eq_true l0, decide_eq_true l1, Bool.true_and, Bool.true_and]
  have dg : (tl (txt n)).all digC = true := by
    rw [tl_txt h0, List.all_eq_true]
    intro c hc
    have := numL_digits n.toNat c hc
    unfold digC
    rw [decide_eq_true this.1, decide_eq_true this.2]; rfl
  rw [dg, Bool.true_and]
  by_cases hz : (tl (txt n)).head? = some 48
  · have z : txt n = zeroS := by
      rw [tl_txt h0] at hz
      have := numL_head _ hz
      refine ext_tl ?_
      rw [tl_txt h0, this, tl_zero, numL_lt (by decide)]
    rw [decide_eq_true hz, decide_eq_true z]; rfl
  · rw [decide_eq_false hz]; rfl
theorem val_txt {n : Int} (h0 : 0 ≤ n) : valW (txt n) = n := by
  unfold valW
  rw [tl_txt h0, numL_val]
  omega
def okNums (ns : List Int) : Prop := ∀ n ∈ ns, 0 ≤ n ∧ n < 10 ^ 40
theorem words_free {ns : List Int} (h : okNums ns) : ∀ w ∈ askS :: ns.map txt, 32 ∉ tl w := fun w hw => by
  rcases List.mem_cons.mp hw with e | e
  · rw [e, tl_ask]; decide
  · obtain ⟨n, hn, rfl⟩ := List.mem_map.mp e
    exact txt_free (h n hn).1 (.inl (by decide))
theorem split_row {ns : List Int} (h : okNums ns) : Txt.split (rowT askS ns) spS = askS :: ns.map txt := by
  unfold rowT
  rw [join_eq]
  exact split_joinS (by simp) (words_free h)
theorem nums_row {ns : List Int} (h : okNums ns) : numsOf (Txt.split (rowT askS ns) spS) = some ns := by
  rw [split_row h]
  unfold numsOf
  have g : (ns.map txt).all goodW = true := by
    rw [List.all_eq_true]
    intro w hw
    obtain ⟨n, hn, rfl⟩ := List.mem_map.mp hw
    exact good_txt (h n hn).1 (h n hn).2
  show (if askS = askS ∧ (ns.map txt).all goodW = true then some ((ns.map txt).map valW) else none) = _
  rw [if_pos ⟨rfl, g⟩, List.map_map]
  congr 1
  conv => rhs; rw [← List.map_id ns]
  exact List.map_congr_left fun n hn => val_txt (h n hn).1
theorem tell_row {n : Int} {ps : List Int} (h : okNums (n :: ps)) : tellRow (rowT askS (n :: ps)) = if incr ps = true then some (n, ps) else none := by
  unfold tellRow
  rw [nums_row h]
theorem okDeed.nums {kp : Int × List Int} (h : okDeed kp) : okNums (kp.1 :: kp.2) := fun n hn => by
  rcases List.mem_cons.mp hn with e | e
  · rw [e]; exact ⟨h.1, h.2.1⟩
  · exact h.2.2.1 n e
theorem tell_good {kp : Int × List Int} (h : okDeed kp) : tellRow (rowD kp) = some kp := by
  unfold rowD
  rw [tell_row h.nums, if_pos h.2.2.2.1]
/-- a sign that is in no part and not in the sign between is not in the joined text -/
theorem join_free {k : Nat} {y : Str} (hy : k ∉ tl y) : ∀ {l : List Str}, (∀ p ∈ l, k ∉ tl p) → k ∉ tl (Str.join y l)
  | [], _ => by show k ∉ tl Str.empty; exact List.not_mem_nil
  | [x], h => h x (List.mem_singleton.mpr rfl)
  | x :: z :: r, h => by
    show k ∉ tl (x ++ y ++ Str.join y (z :: r))
    rw [tl_append, tl_append]
    intro hm
    rcases List.mem_append.mp hm with hm | hm
    · rcases List.mem_append.mp hm with hm | hm
      · exact h x List.mem_cons_self hm
      · exact hy hm
    · exact join_free hy (l := z :: r) (fun p hp => h p (List.mem_cons_of_mem _ hp)) hm
theorem row_free {ns : List Int} (h : okNums ns) {k : Nat} (hk : (k < 48 ∨ 57 < k) ∧ k ≠ 32 ∧ k ≠ 97 ∧ k ≠ 115 ∧ k ≠ 107) : k ∉ tl (rowT askS ns) := by
  unfold rowT
  rw [join_eq]
  refine join_free (by rw [tl_sp]; intro z; exact hk.2.1 (List.mem_singleton.mp z)) fun p hp => ?_
  rcases List.mem_cons.mp hp with e | e
  · rw [e, tl_ask]
    intro z
    simp only [List.mem_cons, List.not_mem_nil, or_false] at z
    omega
  · obtain ⟨n, hn, rfl⟩ := List.mem_map.mp e
    exact txt_free (h n hn).1 hk.1
/-! ### what a good row looks like -/
theorem shape {r : Str} {kp : Int × List Int} (h : tellRow r = some kp) : ∃ ws : List Str, r = Str.join spS (askS :: ws) ∧ (∀ w ∈ ws, goodW w = true) ∧ ws ≠ [] ∧ Txt.split r spS = askS :: ws := by
  unfold tellRow at h
  have j := StrLaws.join_split r spS
  cases q : Txt.split r spS with
  | nil => rw [q] at h; cases h
  | cons w r' =>
    rw [q] at h j
    have h' : (match (if w = askS ∧ r'.all goodW = true then some (r'.map valW) else none) with | some (n :: ps) => if incr ps = true then some (n, ps) else none | _ => none) = some kp := h
    by_cases g : w = askS ∧ r'.all goodW = true
    · refine ⟨r', by rw [← g.1]; exact j.symm, List.all_eq_true.mp g.2, fun z => ?_, by rw [g.1]⟩
      rw [if_pos g, z] at h'; cases h'
    · rw [if_neg g] at h'; cases h'
theorem bad_head {r : Str} (h : ¬ [97, 115, 107] <+: tl r) : tellRow r = none := by
  cases q : tellRow r with
  | none => rfl
  | some kp =>
    obtain ⟨ws, _, _, _, e⟩ := shape q
    have := split_head e
    rw [tl_ask] at this
    exact absurd this h
theorem good_digits {w : Str} (h : goodW w = true) : (∀ c ∈ tl w, 48 ≤ c ∧ c ≤ 57) ∧ tl w ≠ [] ∧ (tl w).length ≤ 40 := by
  unfold goodW at h
  rw [Bool.and_eq_true, Bool.and_eq_true, Bool.and_eq_true, decide_eq_true_eq, decide_eq_true_eq] at h
  obtain ⟨⟨h1, h2⟩, h3, _⟩ := h
  refine ⟨fun c hc => ?_, fun z => by rw [z] at h1; simp at h1, h2⟩
  have := (List.all_eq_true.mp h3) c hc
  unfold digC at this
  rw [Bool.and_eq_true, decide_eq_true_eq, decide_eq_true_eq] at this
  exact this
theorem bad_sign {r : Str} {k : Nat} (h : k ∈ tl r) (hk : (k < 48 ∨ 57 < k) ∧ k ≠ 32 ∧ k ≠ 97 ∧ k ≠ 115 ∧ k ≠ 107) : tellRow r = none := by
  cases q : tellRow r with
  | none => rfl
  | some kp =>
    obtain ⟨ws, e, g, _, _⟩ := shape q
    rw [e] at h
    refine absurd h (join_free (by rw [tl_sp]; intro z; exact hk.2.1 (List.mem_singleton.mp z)) fun p hp => ?_)
    rcases List.mem_cons.mp hp with e | e
    · rw [e, tl_ask]
      intro z
      simp only [List.mem_cons, List.not_mem_nil, or_false] at z
      omega
    · intro z
      have := (good_digits (g p e)).1 k z
      omega
theorem gl_app {α : Type} {l m : List α} (h : m ≠ []) : (l ++ m).getLast? = m.getLast? := by
  rw [List.getLast?_append]
  cases q : m.getLast? with
  | none => exact absurd (List.getLast?_eq_none_iff.mp q) h
  | some x => rfl
theorem last_join {y : Str} {k : Nat} : ∀ {l : List Str} {w : Str}, (tl (Str.join y (l ++ [w]))).getLast? = some k → tl w ≠ [] → (tl w).getLast? = some k
  | [], w, h, _ => h
  | [x], w, h, hw => by
    have h' : (tl (x ++ y ++ w)).getLast? = some k := h
    rw [tl_append] at h'
    rw [gl_app hw] at h'
    exact h'
  | x :: z :: r, w, h, hw => by
    have h' : (tl (x ++ y ++ Str.join y (z :: r ++ [w]))).getLast? = some k := h
    rw [tl_append] at h'
    have ne : tl (Str.join y (z :: r ++ [w])) ≠ [] := by
      intro q
      have m := join_mem (y := y) (l := z :: r ++ [w]) (p := w) (by simp)
      rw [len_tl, len_tl, q] at m
      exact hw (List.eq_nil_of_length_eq_zero (by simpa using m))
    rw [gl_app ne] at h'
    exact last_join (l := z :: r) h' hw
theorem bad_last {r : Str} (h : (tl r).getLast? = some 32) : tellRow r = none := by
  cases q : tellRow r with
  | none => rfl
  | some kp =>
    obtain ⟨ws, e, g, ne, _⟩ := shape q
    rw [e] at h
    obtain ⟨l, w, rfl⟩ : ∃ l w, ws = l ++ [w] := ⟨ws.dropLast, ws.getLast ne, (List.dropLast_concat_getLast ne).symm⟩
    have gw := good_digits (g w (by simp))
    have := last_join (y := spS) (l := askS :: l) (w := w) (k := 32) h gw.2.1
    have m := gw.1 32 (List.mem_of_getLast? this)
    omega
/-- a word that is no number, among the words behind the first one -/
theorem bad_among {ws : List Str} {w : Str} {a : Str} (hf : ∀ x ∈ a :: ws, 32 ∉ tl x) (hw : w ∈ ws) (hb : goodW w = false) : tellRow (Str.join spS (a :: ws)) = none := by
  cases q : tellRow (Str.join spS (a :: ws)) with
  | none => rfl
  | some kp =>
    obtain ⟨ws', _, g, _, e⟩ := shape q
    rw [split_joinS (by simp) hf] at e
    have e2 : ws = ws' := (List.cons.inj e).2
    have := g w (by rw [← e2]; exact hw)
    rw [hb] at this; cases this
theorem not_digit {w : Str} {k : Nat} (h : k ∈ tl w) (hk : k < 48 ∨ 57 < k) : goodW w = false := by
  cases q : goodW w with
  | false => rfl
  | true =>
    have := (good_digits q).1 k h
    omega
/-! ### joins -/
theorem app_assoc (a b c : Str) : a ++ b ++ c = a ++ (b ++ c) := ext_tl (by rw [tl_append, tl_append, tl_append, tl_append, List.append_assoc])
theorem join_app {y : Str} : ∀ {A B : List Str}, A ≠ [] → B ≠ [] → Str.join y (A ++ B) = Str.join y A ++ y ++ Str.join y B
  | [], _, h, _ => absurd rfl h
  | [a], b :: B, _, _ => rfl
  | [a], [], _, h => absurd rfl h
  | a :: c :: r, B, _, hB => by
    show a ++ y ++ Str.join y (c :: r ++ B) = a ++ y ++ Str.join y (c :: r) ++ y ++ Str.join y B
    rw [join_app (A := c :: r) (by simp) hB]
    exact ext_tl (by simp only [tl_append, List.append_assoc])
theorem join_mid {y : Str} {A M B : List Str} (hA : A ≠ []) (hM : M ≠ []) : Str.join y (A ++ [Str.join y M] ++ B) = Str.join y (A ++ M ++ B) := by
  cases B with
  | nil =>
    rw [List.append_nil, List.append_nil, join_app hA (by simp), join_app hA hM]
    rfl
  | cons b B =>
    rw [join_app (A := A ++ [Str.join y M]) (by simp) (by simp), join_app (A := A ++ M) (by simp [hA]) (by simp), join_app hA (by simp), join_app hA hM]
    rfl
/-- a word that is none -/
def BadW (b : Str) : Prop := (∃ p ∈ Txt.split b spS, goodW p = false) ∧ 10 ∉ tl b ∧ b.length ≤ 100
theorem sp_free (b : Str) : ∀ p ∈ Txt.split b spS, 32 ∉ tl p := fun p hp => by
  rw [cps_sp] at hp
  exact StrLaws.split_free b 32 p hp
theorem split_one {b : Str} (h : 32 ∉ tl b) : Txt.split b spS = [b] := by
  have := split_joinS (ws := [b]) (by simp) (fun w hw => by rw [List.mem_singleton.mp hw]; exact h)
  exact this
theorem bad_word_of {b : Str} (h : 32 ∉ tl b) (hb : goodW b = false) (h10 : 10 ∉ tl b) (hl : b.length ≤ 100) : BadW b := ⟨⟨b, by rw [split_one h]; simp, hb⟩, h10, hl⟩
theorem bad_put {A B : List Str} {b a : Str} (hA : ∀ x ∈ a :: A, 32 ∉ tl x) (hB : ∀ x ∈ B, 32 ∉ tl x) (h : BadW b) : tellRow (Str.join spS ((a :: A) ++ [b] ++ B)) = none := by
  obtain ⟨⟨p, hp, hg⟩, _, _⟩ := h
  have e : Str.join spS ((a :: A) ++ [b] ++ B) = Str.join spS (a :: (A ++ Txt.split b spS ++ B)) := by
    have m := join_mid (y := spS) (A := a :: A) (M := Txt.split b spS) (B := B) (by simp) (split_ne (by rw [len_sp]; exact Nat.le_refl 1))
    rw [StrLaws.join_split] at m
    exact m
  rw [e]
  refine bad_among (w := p) (fun x hx => ?_) (by simp [hp]) hg
  rcases List.mem_cons.mp hx with q | q
  · rw [q]; exact hA a List.mem_cons_self
  · rcases List.mem_append.mp q with q | q
    · rcases List.mem_append.mp q with q | q
      · exact hA x (List.mem_cons_of_mem _ q)
      · exact sp_free b x q
    · exact hB x q
/-- a row that is none -/
def BadR (r : Str) : Prop := tellRow r = none ∧ 10 ∉ tl r ∧ r.length ≤ 90000
end Kn

end

section
set_option Elab.async false
set_option linter.all false
set_option maxRecDepth 100000
set_option maxHeartbeats 4000000
/-! Pl6: draws; bad words, bad forms. -/
namespace Kn
open PySem TL
/-- whatever is drawn: it hands back a thing of which P holds -/
def EvP (P : D → Prop) (a : ME) (env : En) : Prop := ∀ s, okS s = true → ∃ x s', a env s = .ok x s' ∧ okS s' = true ∧ P x
def EvL (P : D → Prop) (n : Nat) (m : MA) (env : En) : Prop := ∀ s, okS s = true → ∃ l s', m env s = .ok l s' ∧ okS s' = true ∧ l.length = n ∧ ∀ x ∈ l, P x
section
variable {P Q : D → Prop} {env : En} {a b : ME} {m : MA} {n k : Nat}
theorem evp_pure {x : D} (h : ∀ s, a env s = .ok x s) (hp : P x) : EvP P a env := fun s hs => ⟨x, s, h s, hs, hp⟩
theorem EvP.imp (h : EvP P a env) (k : ∀ x, P x → Q x) : EvP Q a env := fun s hs => by
  obtain ⟨x, s', h1, h2, h3⟩ := h s hs
  exact ⟨x, s', h1, h2, k x h3⟩
theorem EvL.imp (h : EvL P n m env) (k : ∀ x, P x → Q x) : EvL Q n m env := fun s hs => by
  obtain ⟨x, s', h1, h2, h3, h4⟩ := h s hs
  exact ⟨x, s', h1, h2, h3, fun y hy => k y (h4 y hy)⟩
theorem evl_nil : EvL P 0 mNil env := fun s hs => ⟨[], s, rfl, hs, rfl, fun x hx => by cases hx⟩
theorem evl_cons (ha : EvP P a env) (hm : EvL P n m env) : EvL P (n + 1) (mCons a m) env := fun s hs => by
  obtain ⟨x, s1, h1, h2, h3⟩ := ha s hs
  obtain ⟨l, s2, g1, g2, g3, g4⟩ := hm s1 h2
  refine ⟨x :: l, s2, ev_cons h1 g1, g2, by rw [List.length_cons, g3], fun y hy => ?_⟩
  rcases List.mem_cons.mp hy with e | e
  · rw [e]; exact h3
  · exact g4 y e
theorem evl_lst (hm : EvL P n m env) (hn : n ≤ 1000000) : EvL P n (mLst m) env := fun s hs => by
  obtain ⟨l, s2, g1, g2, g3, g4⟩ := hm s hs
  exact ⟨l, s2, ev_lst g1 (by omega), g2, g3, g4⟩
theorem evl_cat {x y : ME} (ha : EvP (fun d => ∃ l, d = .lst l ∧ l.length = n ∧ ∀ z ∈ l, P z) x env) (hb : EvP (fun d => ∃ l, d = .lst l ∧ l.length = k ∧ ∀ z ∈ l, P z) y env) (hn : n + k ≤ 1000000) : EvL P (n + k) (m2N catL x y) env := fun s hs => by
  obtain ⟨_, s1, h1, h2, l1, rfl, h4, h5⟩ := ha s hs
  obtain ⟨_, s2, g1, g2, l2, rfl, g4, g5⟩ := hb s1 h2
  refine ⟨l1 ++ l2, s2, ev2N h1 g1 ?_, g2, by rw [List.length_append]; omega, fun z hz => ?_⟩
  · show (if l1.length + l2.length ≤ 1000000 then some (l1 ++ l2) else none) = _
    rw [if_pos (by omega)]
  · rcases List.mem_append.mp hz with q | q
    · exact h5 z q
    · exact g5 z q
theorem evp_of (hm : EvL P n m env) : EvP (fun d => ∃ l, d = .lst l ∧ l.length = n ∧ ∀ z ∈ l, P z) (mOf m) env := fun s hs => by
  obtain ⟨l, s2, g1, g2, g3, g4⟩ := hm s hs
  exact ⟨.lst l, s2, ev_of g1, g2, l, rfl, g3, g4⟩
end
theorem draw_fn {s : BoxSt} {many : Int} (h : okS s = true) (h1 : 0 < many) (h2 : many < 2 ^ 64) : ∃ r s', f_law_draw [.box, .int many] s = .ok (.int r) s' ∧ okS s' = true ∧ 0 ≤ r ∧ r < many := draw_ok h h1 h2
theorem pick_ok {s : BoxSt} {l : List D} (h : okS s = true) (hne : l ≠ []) (hl : l.length ≤ 1000000) : ∃ d s', d ∈ l ∧ f_law_pick [.box, .lst l] s = .ok d s' ∧ okS s' = true := by
  have pos : 0 < l.length := List.length_pos_iff.mpr hne
  obtain ⟨r, s', h1, h2, h3, h4⟩ := draw_fn (many := (l.length : Int)) h (by omega) (by omega)
  obtain ⟨k, rfl⟩ := Int.eq_ofNat_of_zero_le h3
  have hk : k < l.length := by omega
  refine ⟨l[k], s', List.getElem_mem hk, ?_, h2⟩
  refine df_rt rfl (st_seqR (st_ret (ev2 (s1 := s) (x := .lst l) (y := .int (k : Int)) rfl (ev_fn (l := [.box, .int (l.length : Int)]) (s1 := s) rfl h1) ?_)))
  exact at_nat (List.getElem?_eq_getElem hk)
/-- pick, in place -/
theorem evp_pick {P : D → Prop} {n : Nat} {m : MA} {env : En} {i : Nat} (hb : env[i]? = some (.sh .box)) (hm : EvL P n m env) (h0 : 0 < n) (hn : n ≤ 1000000) : EvP P (mFn f_law_pick (mCons (mVar i) (mCons (mOf m) (mNil)))) env := fun s hs => by
  obtain ⟨l, s1, g1, g2, g3, g4⟩ := hm s hs
  obtain ⟨d, s2, q1, q2, q3⟩ := pick_ok g2 (l := l) (fun z => by rw [z] at g3; simp at g3; omega) (by omega)
  exact ⟨d, s2, ev_fn (l := [.box, .lst l]) (s1 := s1) (ev_cons (by unfold mVar; rw [hb]) (ev_cons (ev_of g1) rfl)) q2, q3, g4 d q1⟩
theorem evp_draw {P : D → Prop} {a : ME} {env : En} {i : Nat} {many : Int} (hb : env[i]? = some (.sh .box)) (ha : EvP (fun d => ∃ k, d = .int k ∧ 0 < k ∧ k < 2 ^ 64 ∧ k ≤ many) a env) : EvP (fun d => ∃ r, d = .int r ∧ 0 ≤ r ∧ r < many) (mFn f_law_draw (mCons (mVar i) (mCons a (mNil)))) env := fun s hs => by
  obtain ⟨_, s1, g1, g2, k, rfl, k1, k2, k3⟩ := ha s hs
  obtain ⟨r, s2, q1, q2, q3, q4⟩ := draw_fn g2 k1 k2
  exact ⟨.int r, s2, ev_fn (l := [.box, .int k]) (s1 := s1) (ev_cons (by unfold mVar; rw [hb]) (ev_cons g1 rfl)) q1, q2, r, rfl, q3, by omega⟩
theorem addO_str {a b : Str} (h : a.length + b.length ≤ 1000000) : addO (.str a) (.str b) = some (.str (a ++ b)) := by
  show (if a.length + b.length ≤ 1000000 then some (D.str (a ++ b)) else none) = _
  rw [if_pos h]
def PW (d : D) : Prop := ∃ b, d = .str b ∧ BadW b
def PR (d : D) : Prop := ∃ b, d = .str b ∧ BadR b
theorem tl_plus : tl ("+" : Str) = [43] := by rw [tl_ofString]; rfl
theorem tl_dot0 : tl (".0" : Str) = [46, 48] := by rw [tl_ofString]; rfl
theorem tl_us0 : tl ("_0" : Str) = [95, 48] := by rw [tl_ofString]; rfl
theorem tl_minus : tl ("-" : Str) = [45] := by rw [tl_ofString]; rfl
theorem tl_x : tl ("x" : Str) = [120] := by rw [tl_ofString]; rfl
theorem tl_s : tl ("s" : Str) = [115] := by rw [tl_ofString]; rfl
theorem tl_A : tl ("A" : Str) = [65] := by rw [tl_ofString]; rfl
theorem tl_t : tl ("\t" : Str) = [9] := by rw [tl_ofString]; rfl
theorem tl_spx : tl (" x" : Str) = [32, 120] := by rw [tl_ofString]; rfl
theorem tl_sp1 : tl (" 1" : Str) = [32, 49] := by rw [tl_ofString]; rfl
theorem tl_sp0 : tl (" 0" : Str) = [32, 48] := by rw [tl_ofString]; rfl
theorem tl_sp2 : tl ("  " : Str) = [32, 32] := by rw [tl_ofString]; rfl
theorem tl_zeros : tl (Txt.mul ("0" : Str) 40) = List.replicate 40 48 := by decide +kernel
instance (b : Str) : Decidable (BadW b) := inferInstanceAs (Decidable ((∃ p ∈ Txt.split b spS, goodW p = false) ∧ 10 ∉ tl b ∧ b.length ≤ 100))
instance (b : Str) : Decidable (BadR b) := inferInstanceAs (Decidable (tellRow b = none ∧ 10 ∉ tl b ∧ b.length ≤ 90000))
/-- a number with something ahead of it or behind it -/
theorem bw_pre {n : Int} (h0 : 0 ≤ n) (h1 : n < 10 ^ 40) {p : Str} (h32 : 32 ∉ tl p) (h10 : 10 ∉ tl p) (hl : p.length ≤ 50) (hg : goodW (p ++ txt n) = false) : BadW (p ++ txt n) := by
  have := txt_len h0 h1
  refine bad_word_of ?_ hg ?_ (by rw [Str.length_append]; omega)
  · rw [tl_append]; intro z
    rcases List.mem_append.mp z with z | z
    · exact h32 z
    · exact txt_free h0 (.inl (by decide)) z
  · rw [tl_append]; intro z
    rcases List.mem_append.mp z with z | z
    · exact h10 z
    · exact txt_free h0 (.inl (by decide)) z
theorem bw_post {n : Int} (h0 : 0 ≤ n) (h1 : n < 10 ^ 40) {p : Str} (h32 : 32 ∉ tl p) (h10 : 10 ∉ tl p) (hl : p.length ≤ 50) (hg : goodW (txt n ++ p) = false) : BadW (txt n ++ p) := by
  have := txt_len h0 h1
  refine bad_word_of ?_ hg ?_ (by rw [Str.length_append]; omega)
  · rw [tl_append]; intro z
    rcases List.mem_append.mp z with z | z
    · exact txt_free h0 (.inl (by decide)) z
    · exact h32 z
  · rw [tl_append]; intro z
    rcases List.mem_append.mp z with z | z
    · exact txt_free h0 (.inl (by decide)) z
    · exact h10 z
theorem not_digitA {w : Str} (h : ∃ k ∈ tl w, k < 48 ∨ 57 < k) : goodW w = false := by
  obtain ⟨k, h1, h2⟩ := h
  exact not_digit h1 h2
theorem zero_pre {n : Int} (h0 : 0 ≤ n) : goodW (zeroS ++ txt n) = false := by
  have e : tl (zeroS ++ txt n) = 48 :: tl (txt n) := by rw [tl_append, tl_zero]; rfl
  unfold goodW
  rw [e]
  have ne : zeroS ++ txt n ≠ zeroS := fun z => by
    have := congrArg tl z
    rw [e, tl_zero] at this
    have h2 := (List.cons.inj this).2
    rw [tl_txt h0] at h2
    exact numL_ne _ h2
  rw [decide_eq_false ne]
  simp
theorem evp_ret {P : D → Prop} {n np : Nat} {ds : List D} {a : ME} {s : BoxSt} (hl : ds.length = np) (h : EvP P a (ds.map .sh ++ List.replicate (n - np) .un)) (hs : okS s = true) : ∃ d s', mDef n np (mSeq (mRet a) mNext) ds s = .ok d s' ∧ okS s' = true ∧ P d := by
  obtain ⟨d, s', h2, h3, h4⟩ := h s hs
  exact ⟨d, s', df_rt hl (st_seqR (st_ret h2)), h3, h4⟩
theorem bad_word_ok {s : BoxSt} {n : Int} (hs : okS s = true) (h0 : 0 ≤ n) (h1 : n < 10 ^ 40) : ∃ d s', f_law_bad_word [.box, .str (txt n)] s = .ok d s' ∧ okS s' = true ∧ PW d := by
  have ln := txt_len h0 h1
  have pre : ∀ (p : Str) (s : BoxSt), p.length ≤ 50 → m2 addO (mC (.str p)) (mVar 1) [.sh .box, .sh (.str (txt n))] s = .ok (.str (p ++ txt n)) s := fun p s h => ev2 (s1 := s) rfl rfl (addO_str (by omega))
  have post : ∀ (p : Str) (s : BoxSt), p.length ≤ 50 → m2 addO (mVar 1) (mC (.str p)) [.sh .box, .sh (.str (txt n))] s = .ok (.str (txt n ++ p)) s := fun p s h => ev2 (s1 := s) rfl rfl (addO_str (by omega))
  refine evp_ret (n := 2) (np := 2) rfl (evp_pick (P := PW) (env := [.sh .box, .sh (.str (txt n))]) (i := 0) (n := 16) rfl (evl_lst
    (evl_cons (evp_pure (fun s => pre ("+" : Str) s (by decide +kernel)) ⟨_, rfl, bw_pre h0 h1 (by rw [tl_plus]; decide) (by rw [tl_plus]; decide) (by decide +kernel) (not_digitA ⟨43, by rw [tl_append, tl_plus]; simp, by decide⟩)⟩)
    (evl_cons (evp_pure (fun s => pre ("0" : Str) s (by decide +kernel)) ⟨_, rfl, bw_pre h0 h1 (by rw [show ("0" : Str) = zeroS from rfl, tl_zero]; decide) (by rw [show ("0" : Str) = zeroS from rfl, tl_zero]; decide) (by decide +kernel) (zero_pre h0)⟩)
    (evl_cons (evp_pure (fun s => post (".0" : Str) s (by decide +kernel)) ⟨_, rfl, bw_post h0 h1 (by rw [tl_dot0]; decide) (by rw [tl_dot0]; decide) (by decide +kernel) (not_digitA ⟨46, by rw [tl_append, tl_dot0]; simp, by decide⟩)⟩)
    (evl_cons (evp_pure (fun s => post ("_0" : Str) s (by decide +kernel)) ⟨_, rfl, bw_post h0 h1 (by rw [tl_us0]; decide) (by rw [tl_us0]; decide) (by decide +kernel) (not_digitA ⟨95, by rw [tl_append, tl_us0]; simp, by decide⟩)⟩)
    (evl_cons (evp_pure (fun s => pre ("-" : Str) s (by decide +kernel)) ⟨_, rfl, bw_pre h0 h1 (by rw [tl_minus]; decide) (by rw [tl_minus]; decide) (by decide +kernel) (not_digitA ⟨45, by rw [tl_append, tl_minus]; simp, by decide⟩)⟩)
    (evl_cons (evp_pure (x := .str ("" : Str)) (fun s => rfl) ⟨_, rfl, by decide +kernel⟩)
    (evl_cons (evp_pure (fun s => pre ("x" : Str) s (by decide +kernel)) ⟨_, rfl, bw_pre h0 h1 (by rw [tl_x]; decide) (by rw [tl_x]; decide) (by decide +kernel) (not_digitA ⟨120, by rw [tl_append, tl_x]; simp, by decide⟩)⟩)
    (evl_cons (evp_pure (fun s => post ("-" : Str) s (by decide +kernel)) ⟨_, rfl, bw_post h0 h1 (by rw [tl_minus]; decide) (by rw [tl_minus]; decide) (by decide +kernel) (not_digitA ⟨45, by rw [tl_append, tl_minus]; simp, by decide⟩)⟩)
    (evl_cons (evp_pure (x := .str (Txt.mul ("1" : Str) 41)) (fun s => ev2 (s1 := s) (x := .str ("1" : Str)) (y := .int 41) rfl rfl (by
      show (if ("1" : Str).length * 1000 ≤ 1000000 ∧ (0 : Int) ≤ 41 ∧ (41 : Int) ≤ 1000 then some (D.str (Txt.mul ("1" : Str) 41)) else none) = _
      rw [if_pos (by decide +kernel)])) ⟨_, rfl, by decide +kernel⟩)
    (evl_cons (evp_pure (x := .str ("-0" : Str)) (fun s => rfl) ⟨_, rfl, by decide +kernel⟩)
    (evl_cons (evp_pure (x := .str ("0x1" : Str)) (fun s => rfl) ⟨_, rfl, by decide +kernel⟩)
    (evl_cons (evp_pure (x := .str ("1e1" : Str)) (fun s => rfl) ⟨_, rfl, by decide +kernel⟩)
    (evl_cons (evp_pure (x := .str ("zero" : Str)) (fun s => rfl) ⟨_, rfl, by decide +kernel⟩)
    (evl_cons (evp_pure (x := .str ("00" : Str)) (fun s => rfl) ⟨_, rfl, by decide +kernel⟩)
    (evl_cons (evp_pure (x := .str ("-1" : Str)) (fun s => rfl) ⟨_, rfl, by decide +kernel⟩)
    (evl_cons (evp_pure (x := .str ("- 1" : Str)) (fun s => rfl) ⟨_, rfl, by decide +kernel⟩)
    evl_nil)))))))))))))))) (by decide)) (by decide) (by decide)) hs
end Kn

end

section
set_option Elab.async false
set_option linter.all false
set_option maxRecDepth 100000
set_option maxHeartbeats 4000000
/-! Pl7: bad forms, bad rows. -/
namespace Kn
open PySem TL
theorem tl_upper (x : Str) : tl (Txt.upper x) = (tl x).flatMap Unicode.upperOf := by
  unfold Txt.upper placed
  show ((x.cps.mapIdx fun _ c => (Unicode.upperOf c).toArray).flatten).toList = _
  rw [Array.toList_flatten, Array.toList_mapIdx]
  rw [show (List.mapIdx (fun (_ : Nat) c => (Unicode.upperOf c).toArray) x.cps.toList) = x.cps.toList.map (fun c => (Unicode.upperOf c).toArray) from List.ext_getElem? fun i => by rw [List.getElem?_mapIdx, List.getElem?_map]]
  rw [List.map_map, List.flatMap]
  rfl
structure RowS (ns : List Int) : Prop where
  ok : okNums ns
  ne : ns ≠ []
  sz : ((askS :: ns.map txt).map (·.length)).sum + (ns.length + 1) * 1 ≤ 20000
theorem RowS.len {ns : List Int} (h : RowS ns) : (rowT askS ns).length ≤ 20000 := by
  unfold rowT
  rw [join_eq]
  have j := StrLaws.join_length_le spS (askS :: ns.map txt)
  rw [len_sp, List.length_cons, List.length_map] at j
  have := h.sz
  omega
theorem RowS.n10 {ns : List Int} (h : RowS ns) : 10 ∉ tl (rowT askS ns) := row_free h.ok ⟨.inl (by decide), by decide, by decide, by decide, by decide⟩
theorem RowS.cs {ns : List Int} (h : RowS ns) {c : Nat} (hc : c ∈ tl (rowT askS ns)) : (48 ≤ c ∧ c ≤ 57) ∨ c = 32 ∨ c = 97 ∨ c = 115 ∨ c = 107 := by
  apply Classical.byContradiction
  intro z
  exact row_free h.ok (k := c) (by omega) hc
theorem RowS.pre {ns : List Int} (h : RowS ns) : ∃ r, tl (rowT askS ns) = 97 :: 115 :: 107 :: r := by
  have := split_head (split_row h.ok)
  rw [tl_ask] at this
  obtain ⟨r, e⟩ := this
  exact ⟨r, e.symm⟩
theorem upper_sign : ∀ c : Nat, ((48 ≤ c ∧ c ≤ 57) ∨ c = 32 ∨ c = 97 ∨ c = 115 ∨ c = 107) → ∃ d, Unicode.upperOf c = [d] ∧ d ≠ 10 := by
  have dig : ∀ k : Fin 10, ∃ d, Unicode.upperOf (48 + k.val) = [d] ∧ d ≠ 10 := by
    have h : ∀ k : Fin 10, Unicode.upperOf (48 + k.val) = [48 + k.val] := by decide +kernel
    intro k
    exact ⟨_, h k, by omega⟩
  rintro c (⟨h1, h2⟩ | rfl | rfl | rfl | rfl)
  · have := dig ⟨c - 48, by omega⟩
    rw [show 48 + (⟨c - 48, by omega⟩ : Fin 10).val = c by show 48 + (c - 48) = c; omega] at this
    exact this
  · exact ⟨32, by decide +kernel, by decide⟩
  · exact ⟨65, by decide +kernel, by decide⟩
  · exact ⟨83, by decide +kernel, by decide⟩
  · exact ⟨75, by decide +kernel, by decide⟩
theorem upper_len : ∀ l : List Nat, (∀ c ∈ l, ∃ d, Unicode.upperOf c = [d] ∧ d ≠ 10) → (l.flatMap Unicode.upperOf).length = l.length ∧ 10 ∉ l.flatMap Unicode.upperOf
  | [], _ => ⟨rfl, List.not_mem_nil⟩
  | c :: r, h => by
    obtain ⟨d, h1, h2⟩ := h c List.mem_cons_self
    obtain ⟨i1, i2⟩ := upper_len r fun x hx => h x (List.mem_cons_of_mem _ hx)
    rw [List.flatMap_cons, h1]
    refine ⟨by simp only [List.length_append, List.length_cons, List.length_nil, i1]; omega, ?_⟩
    intro z
    rcases List.mem_append.mp z with z | z
    · exact h2 (List.mem_singleton.mp z).symm
    · exact i2 z
theorem app10 {a b : Str} (ha : 10 ∉ tl a) (hb : 10 ∉ tl b) : 10 ∉ tl (a ++ b) := by
  rw [tl_append]
  intro z
  rcases List.mem_append.mp z with z | z
  · exact ha z
  · exact hb z
theorem no_pre {a : Nat} {l : List Nat} (h : a ≠ 97) : ¬ [97, 115, 107] <+: a :: l := fun z => by
  have := (List.cons_prefix_cons.mp z).1
  exact h this.symm
section
variable {ns : List Int} (h : RowS ns)
include h
theorem bf1 : BadR (rowT askS ns ++ spS) := ⟨bad_last (by rw [tl_append, tl_sp, gl_app (by simp)]; rfl), app10 h.n10 (by rw [tl_sp]; decide), by rw [Str.length_append, len_sp]; have := h.len; omega⟩
theorem bf2 : BadR (spS ++ rowT askS ns) := ⟨bad_head (by rw [tl_append, tl_sp]; exact no_pre (by decide)), app10 (by rw [tl_sp]; decide) h.n10, by rw [Str.length_append, len_sp]; have := h.len; omega⟩
theorem up_facts : (Txt.upper (rowT askS ns)).length = (rowT askS ns).length ∧ 10 ∉ tl (Txt.upper (rowT askS ns)) ∧ ∃ r, tl (Txt.upper (rowT askS ns)) = 65 :: r := by
  have u := upper_len (tl (rowT askS ns)) fun c hc => upper_sign c (h.cs hc)
  refine ⟨by rw [len_tl, len_tl, tl_upper, u.1], by rw [tl_upper]; exact u.2, ?_⟩
  obtain ⟨r, e⟩ := h.pre
  rw [tl_upper, e, List.flatMap_cons, show Unicode.upperOf 97 = [65] by decide +kernel]
  exact ⟨_, rfl⟩
theorem bf3 : BadR (Txt.upper (rowT askS ns) ++ ("A" : Str)) := by
  obtain ⟨u1, u2, r, u3⟩ := up_facts h
  refine ⟨bad_head (by rw [tl_append, u3]; exact no_pre (by decide)), app10 u2 (by rw [tl_A]; decide), ?_⟩
  rw [Str.length_append, u1, len_tl ("A" : Str), tl_A]
  have := h.len
  show _ + 1 ≤ _
  omega
theorem bf4 : BadR (rowT askS ns ++ (" x" : Str)) := ⟨bad_sign (k := 120) (by rw [tl_append, tl_spx]; simp) ⟨.inr (by decide), by decide, by decide, by decide, by decide⟩, app10 h.n10 (by rw [tl_spx]; decide), by rw [Str.length_append, len_tl (" x" : Str), tl_spx]; have := h.len; show _ + 2 ≤ _; omega⟩
theorem bf6 : BadR (rowT askS ns ++ ("\t" : Str)) := ⟨bad_sign (k := 9) (by rw [tl_append, tl_t]; simp) ⟨.inl (by decide), by decide, by decide, by decide, by decide⟩, app10 h.n10 (by rw [tl_t]; decide), by rw [Str.length_append, len_tl ("\t" : Str), tl_t]; have := h.len; show _ + 1 ≤ _; omega⟩
theorem bf7 : BadR (("s" : Str) ++ rowT askS ns) := ⟨bad_head (by rw [tl_append, tl_s]; exact no_pre (by decide)), app10 (by rw [tl_s]; decide) h.n10, by rw [Str.length_append, len_tl ("s" : Str), tl_s]; have := h.len; show 1 + _ ≤ _; omega⟩
theorem bf8 : BadR (rowT askS ns ++ (" 1" : Str) ++ Txt.mul ("0" : Str) 40) := by
  have e : rowT askS ns ++ (" 1" : Str) ++ Txt.mul ("0" : Str) 40 = Str.join spS ((askS :: ns.map txt) ++ [("1" : Str) ++ Txt.mul ("0" : Str) 40]) := by
    rw [join_app (by simp) (by simp)]
    unfold rowT
    rw [join_eq]
    refine ext_tl ?_
    simp only [tl_append]
    rw [tl_sp1, tl_sp, List.append_assoc, List.append_assoc]
    rfl
  have l8 : (Txt.mul ("0" : Str) 40).length = 40 := by decide +kernel
  refine ⟨?_, app10 (app10 h.n10 (by rw [tl_sp1]; decide)) (by rw [tl_zeros]; decide), ?_⟩
  · rw [e]
    refine bad_among (w := ("1" : Str) ++ Txt.mul ("0" : Str) 40) (fun x hx => ?_) (by simp) (by decide +kernel)
    rcases List.mem_append.mp (show x ∈ (askS :: ns.map txt) ++ [("1" : Str) ++ Txt.mul ("0" : Str) 40] from hx) with q | q
    · exact words_free h.ok x q
    · rw [List.mem_singleton.mp q]; decide +kernel
  · rw [Str.length_append, Str.length_append, l8, len_tl (" 1" : Str), tl_sp1]
    have := h.len
    show _ + 2 + 40 ≤ _
    omega
theorem rep_is (z : Str) : Txt.replace (rowT askS ns) spS z = Str.join z (askS :: ns.map txt) := by
  rw [cps_sp, StrLaws.replace_one, ← cps_sp, split_row h.ok]
theorem rep_facts {z : Str} (hz : 10 ∉ tl z) (hl : z.length ≤ 2) : 10 ∉ tl (Txt.replace (rowT askS ns) spS z) ∧ (Txt.replace (rowT askS ns) spS z).length ≤ 40000 := by
  rw [rep_is h]
  refine ⟨join_free hz fun p hp => ?_, ?_⟩
  · rcases List.mem_cons.mp hp with e | e
    · rw [e, tl_ask]; decide
    · obtain ⟨n, hn, rfl⟩ := List.mem_map.mp e
      exact txt_free (h.ok n hn).1 (.inl (by decide))
  · have j := StrLaws.join_length_le z (askS :: ns.map txt)
    rw [List.length_cons, List.length_map] at j
    have s := h.sz
    have m : (ns.length + 1) * z.length ≤ (ns.length + 1) * 2 := Nat.mul_le_mul_left _ hl
    omega
theorem bf9 : BadR (Txt.replace (rowT askS ns) spS ("\t" : Str) ++ ("\t" : Str)) := by
  obtain ⟨r1, r2⟩ := rep_facts h (z := ("\t" : Str)) (by rw [tl_t]; decide) (by decide +kernel)
  refine ⟨bad_sign (k := 9) (by rw [tl_append, tl_t]; simp) ⟨.inl (by decide), by decide, by decide, by decide, by decide⟩, app10 r1 (by rw [tl_t]; decide), ?_⟩
  rw [Str.length_append, len_tl ("\t" : Str), tl_t]
  show _ + 1 ≤ _
  omega
theorem bf10 : BadR (Txt.replace (rowT askS ns) spS ("  " : Str) ++ ("  " : Str)) := by
  obtain ⟨r1, r2⟩ := rep_facts h (z := ("  " : Str)) (by rw [tl_sp2]; decide) (by decide +kernel)
  refine ⟨bad_last (by rw [tl_append, tl_sp2, gl_app (by simp)]; rfl), app10 r1 (by rw [tl_sp2]; decide), ?_⟩
  rw [Str.length_append, len_tl ("  " : Str), tl_sp2]
  show _ + 2 ≤ _
  omega
theorem bad_form_ok {s : BoxSt} (hs : okS s = true) : ∃ d s', f_law_bad_form [.box, .str (rowT askS ns)] s = .ok d s' ∧ okS s' = true ∧ PR d := by
  have hl := h.len
  have u := up_facts h
  have q9 := rep_facts h (z := ("\t" : Str)) (by rw [tl_t]; decide) (by decide +kernel)
  have q10 := rep_facts h (z := ("  " : Str)) (by rw [tl_sp2]; decide) (by decide +kernel)
  have lst : EvL PR 12 (mLst (mCons (m2 addO (mVar 1) (mC (.str (" " : PySem.Str)))) (mCons (m2 addO (mC (.str (" " : PySem.Str))) (mVar 1)) (mCons (m2 addO (mStr0 upperO (mVar 1)) (mC (.str ("A" : PySem.Str)))) (mCons (m2 addO (mVar 1) (mC (.str (" x" : PySem.Str)))) (mCons (mC (.str ("" : PySem.Str))) (mCons (m2 addO (mVar 1) (mC (.str ("\t" : PySem.Str)))) (mCons (m2 addO (mC (.str ("s" : PySem.Str))) (mVar 1)) (mCons (m2 addO (m2 addO (mVar 1) (mC (.str (" 1" : PySem.Str)))) (m2 mulA (mC (.str ("0" : PySem.Str))) (mC (.int 40)))) (mCons (m2 addO (mStr0 (replO (" " : PySem.Str) ("\t" : PySem.Str)) (mVar 1)) (mC (.str ("\t" : PySem.Str)))) (mCons (m2 addO (mStr0 (replO (" " : PySem.Str) ("  " : PySem.Str)) (mVar 1)) (mC (.str ("  " : PySem.Str)))) (mCons (mC (.str ("x" : PySem.Str))) (mCons (mC (.str ("-" : PySem.Str))) (mNil))))))))))))))
      [.sh .box, .sh (.str (rowT askS ns)), .un] := evl_lst
    (evl_cons (evp_pure (fun s => ev2 (s1 := s) rfl rfl (addO_str (by rw [show (" " : Str).length = 1 from by decide +kernel]; omega))) ⟨_, rfl, bf1 h⟩)
    (evl_cons (evp_pure (fun s => ev2 (s1 := s) rfl rfl (addO_str (by rw [show (" " : Str).length = 1 from by decide +kernel]; omega))) ⟨_, rfl, bf2 h⟩)
    (evl_cons (evp_pure (fun s => ev2 (s1 := s) (ev_str0 (w := rowT askS ns) (d := .str (Txt.upper (rowT askS ns))) rfl (by unfold upperO; rw [if_pos (by omega)])) rfl (addO_str (by rw [u.1, show ("A" : Str).length = 1 from by decide +kernel]; omega))) ⟨_, rfl, bf3 h⟩)
    (evl_cons (evp_pure (fun s => ev2 (s1 := s) rfl rfl (addO_str (by rw [show (" x" : Str).length = 2 from by decide +kernel]; omega))) ⟨_, rfl, bf4 h⟩)
    (evl_cons (evp_pure (x := .str ("" : Str)) (fun s => rfl) ⟨_, rfl, by decide +kernel⟩)
    (evl_cons (evp_pure (fun s => ev2 (s1 := s) rfl rfl (addO_str (by rw [show ("\t" : Str).length = 1 from by decide +kernel]; omega))) ⟨_, rfl, bf6 h⟩)
    (evl_cons (evp_pure (fun s => ev2 (s1 := s) rfl rfl (addO_str (by rw [show ("s" : Str).length = 1 from by decide +kernel]; omega))) ⟨_, rfl, bf7 h⟩)
    (evl_cons (evp_pure (fun s => ev2 (s1 := s) (ev2 (s1 := s) rfl rfl (addO_str (by rw [show (" 1" : Str).length = 2 from by decide +kernel]; omega))) (ev2 (s1 := s) (x := .str ("0" : Str)) (y := .int 40) (d := .str (Txt.mul ("0" : Str) 40)) rfl rfl (by
        show (if ("0" : Str).length * 1000 ≤ 1000000 ∧ (0 : Int) ≤ 40 ∧ (40 : Int) ≤ 1000 then some (D.str (Txt.mul ("0" : Str) 40)) else none) = _
        rw [if_pos (by decide +kernel)])) (addO_str (by rw [Str.length_append, show (" 1" : Str).length = 2 from by decide +kernel, show (Txt.mul ("0" : Str) 40).length = 40 from by decide +kernel]; omega))) ⟨_, rfl, bf8 h⟩)
    (evl_cons (evp_pure (fun s => ev2 (s1 := s) (ev_str0 (w := rowT askS ns) (d := .str (Txt.replace (rowT askS ns) spS ("\t" : Str))) rfl (by unfold replO; rw [if_pos (by rw [show ("\t" : Str).length = 1 from by decide +kernel]; omega)]; rfl)) rfl (addO_str (by rw [show ("\t" : Str).length = 1 from by decide +kernel]; omega))) ⟨_, rfl, bf9 h⟩)
    (evl_cons (evp_pure (fun s => ev2 (s1 := s) (ev_str0 (w := rowT askS ns) (d := .str (Txt.replace (rowT askS ns) spS ("  " : Str))) rfl (by unfold replO; rw [if_pos (by rw [show ("  " : Str).length = 2 from by decide +kernel]; omega)]; rfl)) rfl (addO_str (by rw [show ("  " : Str).length = 2 from by decide +kernel]; omega))) ⟨_, rfl, bf10 h⟩)
    (evl_cons (evp_pure (x := .str ("x" : Str)) (fun s => rfl) ⟨_, rfl, by decide +kernel⟩)
    (evl_cons (evp_pure (x := .str ("-" : Str)) (fun s => rfl) ⟨_, rfl, by decide +kernel⟩)
    evl_nil)))))))))))) (by decide)
  obtain ⟨l, s1, g1, g2, g3, g4⟩ := lst s hs
  obtain ⟨d, s2, q1, q2, q3⟩ := pick_ok g2 (l := l) (fun z => by rw [z] at g3; simp at g3) (by omega)
  exact ⟨d, s2, df_rt rfl (st_seq (st_asg (ev_of g1)) (st_seqR (st_ret (ev_fn (l := [.box, .lst l]) (s1 := s1) rfl q2)))), q3, g4 d q1⟩
end
end Kn

end

section
set_option Elab.async false
set_option linter.all false
set_option maxRecDepth 100000
set_option maxHeartbeats 4000000
/-! Pl8: bad rows. -/
namespace Kn
open PySem TL
theorem evl_rep6 {P : D → Prop} {x : ME} {env : En} (h : EvP (fun d => ∃ l, d = .lst l ∧ l.length = 1 ∧ ∀ z ∈ l, P z) x env) : EvL P 6 (m2N repL x (mC (.int 6))) env := fun s hs => by
  obtain ⟨_, s1, h1, h2, l, rfl, h4, h5⟩ := h s hs
  obtain ⟨d, rfl⟩ : ∃ d, l = [d] := by
    match l, h4 with
    | [d], _ => exact ⟨d, rfl⟩
  refine ⟨[d, d, d, d, d, d], s1, ev2N h1 rfl rfl, h2, rfl, fun z hz => ?_⟩
  have : z = d := by simpa using hz
  rw [this]; exact h5 d (by simp)
theorem incr_snoc : ∀ (l : List Int) (a x : Int), incr (l ++ [a, x]) = true → a < x
  | [], a, x, h => by
    have h' : (decide (a < x) && true) = true := h
    rw [Bool.and_true] at h'
    exact of_decide_eq_true h'
  | [b], a, x, h => by
    have h' : (decide (b < a) && incr [a, x]) = true := h
    rw [Bool.and_eq_true] at h'
    exact incr_snoc [] a x h'.2
  | b :: c :: r, a, x, h => by
    have h' : (decide (b < c) && incr (c :: r ++ [a, x])) = true := h
    rw [Bool.and_eq_true] at h'
    exact incr_snoc (c :: r) a x h'.2
theorem join_strs {ys : List Str} (h : (ys.map (·.length)).sum + ys.length * 1 ≤ 1000000) : joinO spS (.lst (ys.map .str)) = some (.str (Str.join spS ys)) := by
  show ((strsOf (ys.map D.str)).bind fun ys => if (ys.map (·.length)).sum + ys.length * spS.length ≤ 1000000 then some (D.str (Txt.join spS ys)) else none) = _
  rw [strs_map]
  show (if _ then _ else _) = _
  rw [if_pos (by rw [len_sp]; exact h), join_eq]
theorem drop_sum (l : List Str) (i : Nat) : ((l.drop (i + 1)).map (·.length)).sum ≤ ((l.drop i).map (·.length)).sum := by
  rw [← List.tail_drop]
  cases l.drop i with
  | nil => exact Nat.le_refl _
  | cons x r => rw [List.tail_cons, List.map_cons, List.sum_cons]; omega
theorem pieces_small {W : List Str} {b : Str} {i : Nat} (h : (W.map (·.length)).sum + W.length ≤ 40000) (hb : b.length ≤ 100) : ((W.take i ++ [b] ++ W.drop (i + 1)).map (·.length)).sum + (W.take i ++ [b] ++ W.drop (i + 1)).length * 1 ≤ 80000 := by
  have e1 : (W.map (·.length)).sum = ((W.take i).map (·.length)).sum + ((W.drop i).map (·.length)).sum := by rw [← List.sum_append, ← List.map_append, List.take_append_drop]
  have e2 := drop_sum W i
  rw [List.map_append, List.map_append, List.sum_append, List.sum_append, List.length_append, List.length_append, List.length_take, List.length_drop]
  simp only [List.map_cons, List.map_nil, List.sum_cons, List.sum_nil, List.length_cons, List.length_nil]
  omega
/-- the same row, with a number more -/
theorem row_more {ns : List Int} {x : Int} : rowT askS ns ++ spS ++ txt x = rowT askS (ns ++ [x]) := by
  unfold rowT
  rw [join_eq, join_eq, List.map_append, ← List.cons_append, join_app (by simp) (by simp)]
  rfl
theorem more_bad {k : Int} {ps : List Int} {x : Int} (h : RowS (k :: ps)) (hp : ps ≠ []) (hx : 0 ≤ x ∧ x < 10 ^ 40) (hl : x ≤ ps.getLast hp) : BadR (rowT askS (k :: ps ++ [x])) := by
  have ok : okNums (k :: (ps ++ [x])) := fun n hn => by
    rcases List.mem_append.mp (show n ∈ (k :: ps) ++ [x] from hn) with q | q
    · exact h.ok n q
    · rw [List.mem_singleton.mp q]; exact hx
  refine ⟨?_, row_free ok ⟨.inl (by decide), by decide, by decide, by decide, by decide⟩, ?_⟩
  · show tellRow (rowT askS (k :: (ps ++ [x]))) = none
    rw [tell_row ok, if_neg]
    intro z
    have e : ps ++ [x] = ps.dropLast ++ [ps.getLast hp, x] := by
      conv => lhs; rw [← List.dropLast_concat_getLast hp]
      simp
    rw [e] at z
    have := incr_snoc _ _ _ z
    omega
  · rw [← row_more, Str.length_append, Str.length_append, len_sp]
    have := h.len
    have := txt_len hx.1 hx.2
    omega
section
variable {k : Int} {ps : List Int} (h : RowS (k :: ps))
include h
theorem bad_row_ok {s : BoxSt} (hs : okS s = true) : ∃ d s', f_law_bad_row [.box, .str (rowT askS (k :: ps))] s = .ok d s' ∧ okS s' = true ∧ PR d := by
  have hl := h.len
  have szw := h.sz
  have wlen : (askS :: (k :: ps).map txt).length = ps.length + 2 := by rw [List.length_cons, List.length_map, List.length_cons]
  have small : ps.length ≤ 20000 := by rw [List.length_cons] at szw; omega
  -- words
  have w0 : mOf (mStr1N splitO (mVar 1) (mC (.str (" " : PySem.Str)))) [.sh .box, .sh (.str (rowT askS (k :: ps))), .un, .un, .un] s = .ok (.lst ((askS :: (k :: ps).map txt).map .str)) s := by
    refine ev_of (ev_str1N (s1 := s) rfl rfl ?_)
    show (if (spS.length == 0) = false ∧ (rowT askS (k :: ps)).length ≤ 1000000 then some ((Txt.split (rowT askS (k :: ps)) spS).map D.str) else none) = _
    rw [if_pos ⟨by rw [len_sp]; rfl, by omega⟩, split_row h.ok]
  -- at
  have lenW : ∀ (s : BoxSt) (a b : Sl), mCall lenO (mCons (mVar 2) (mNil)) [.sh .box, .sh (.str (rowT askS (k :: ps))), .sh (.lst ((askS :: (k :: ps).map txt).map .str)), a, b] s = .ok (.int ((ps.length + 2 : Nat) : Int)) s := fun s a b => by
    refine ev_call (l := [.lst _]) (s1 := s) rfl ?_
    show some (D.int ((((askS :: (k :: ps).map txt).map D.str).length : Nat) : Int)) = _
    rw [List.length_map, wlen]
  obtain ⟨r0, s1, d1, d2, d3, d4⟩ := draw_fn (many := ((ps.length + 1 : Nat) : Int)) hs (by omega) (by omega)
  obtain ⟨j, rfl⟩ := Int.eq_ofNat_of_zero_le d3
  have hj : j < ps.length + 1 := by omega
  have a0 : m2 addO (mC (.int 1)) (mFn f_law_draw (mCons (mVar 0) (mCons (m2 subI (mCall lenO (mCons (mVar 2) (mNil))) (mC (.int 1))) (mNil)))) [.sh .box, .sh (.str (rowT askS (k :: ps))), .sh (.lst ((askS :: (k :: ps).map txt).map .str)), .un, .un] s = .ok (.int ((j + 1 : Nat) : Int)) s1 := by
    refine ev2 (s1 := s) (x := .int 1) (y := .int (j : Int)) rfl (ev_fn (l := [.box, .int ((ps.length + 1 : Nat) : Int)]) (s1 := s) (ev_cons rfl (ev_cons (ev2 (s1 := s) (lenW s _ _) rfl ?_) rfl)) d1) ?_
    · show some (D.int (((ps.length + 2 : Nat) : Int) - 1)) = _
      rw [show ((ps.length + 2 : Nat) : Int) - 1 = ((ps.length + 1 : Nat) : Int) by omega]
    · show some (D.int (1 + (j : Int))) = _
      rw [show 1 + (j : Int) = ((j + 1 : Nat) : Int) by omega]
  -- the first list
  have bf : ∀ (a b c : Sl), EvP PR (mFn f_law_bad_form (mCons (mVar 0) (mCons (mVar 1) (mNil)))) [.sh .box, .sh (.str (rowT askS (k :: ps))), a, b, c] := fun a b c s hs => by
    obtain ⟨d, s', q1, q2, q3⟩ := bad_form_ok h hs
    exact ⟨d, s', ev_fn (l := [.box, .str (rowT askS (k :: ps))]) (s1 := s) rfl q1, q2, q3⟩
  have l1 : EvL PR 12 (mLst (mCons (mFn f_law_bad_form (mCons (mVar 0) (mCons (mVar 1) (mNil)))) (mCons (mFn f_law_bad_form (mCons (mVar 0) (mCons (mVar 1) (mNil)))) (mCons (mC (.str ("ask" : PySem.Str))) (mCons (mC (.str ("asks 0" : PySem.Str))) (mCons (mC (.str ("ask -1" : PySem.Str))) (mCons (mC (.str ("ask 0 1 1" : PySem.Str))) (mCons (mC (.str ("ask 0 2 1" : PySem.Str))) (mCons (mC (.str ("ask 0 -1" : PySem.Str))) (mCons (mC (.str ("lost 0" : PySem.Str))) (mCons (m2 addO (mC (.str ("ask 0 " : PySem.Str))) (m2 mulA (mC (.str ("9" : PySem.Str))) (mC (.int 41)))) (mCons (mC (.str ("Ask 0" : PySem.Str))) (mCons (mC (.str ("come" : PySem.Str))) (mNil))))))))))))))
      [.sh .box, .sh (.str (rowT askS (k :: ps))), .sh (.lst ((askS :: (k :: ps).map txt).map .str)), .sh (.int ((j + 1 : Nat) : Int)), .un] := evl_lst
    (evl_cons (bf _ _ _) (evl_cons (bf _ _ _)
    (evl_cons (evp_pure (x := .str ("ask" : Str)) (fun s => rfl) ⟨_, rfl, by decide +kernel⟩)
    (evl_cons (evp_pure (x := .str ("asks 0" : Str)) (fun s => rfl) ⟨_, rfl, by decide +kernel⟩)
    (evl_cons (evp_pure (x := .str ("ask -1" : Str)) (fun s => rfl) ⟨_, rfl, by decide +kernel⟩)
    (evl_cons (evp_pure (x := .str ("ask 0 1 1" : Str)) (fun s => rfl) ⟨_, rfl, by decide +kernel⟩)
    (evl_cons (evp_pure (x := .str ("ask 0 2 1" : Str)) (fun s => rfl) ⟨_, rfl, by decide +kernel⟩)
    (evl_cons (evp_pure (x := .str ("ask 0 -1" : Str)) (fun s => rfl) ⟨_, rfl, by decide +kernel⟩)
    (evl_cons (evp_pure (x := .str ("lost 0" : Str)) (fun s => rfl) ⟨_, rfl, by decide +kernel⟩)
    (evl_cons (evp_pure (x := .str (("ask 0 " : Str) ++ Txt.mul ("9" : Str) 41)) (fun s => ev2 (s1 := s) rfl (ev2 (s1 := s) (x := .str ("9" : Str)) (y := .int 41) (d := .str (Txt.mul ("9" : Str) 41)) rfl rfl (by
        show (if ("9" : Str).length * 1000 ≤ 1000000 ∧ (0 : Int) ≤ 41 ∧ (41 : Int) ≤ 1000 then some (D.str (Txt.mul ("9" : Str) 41)) else none) = _
        rw [if_pos (by decide +kernel)])) (addO_str (by decide +kernel))) ⟨_, rfl, by decide +kernel⟩)
    (evl_cons (evp_pure (x := .str ("Ask 0" : Str)) (fun s => rfl) ⟨_, rfl, by decide +kernel⟩)
    (evl_cons (evp_pure (x := .str ("come" : Str)) (fun s => rfl) ⟨_, rfl, by decide +kernel⟩)
    evl_nil)))))))))))) (by decide)
  obtain ⟨L1, s2, g1, g2, g3, g4⟩ := l1 s1 d2
  -- the words put together again
  have hjw : (askS :: (k :: ps).map txt)[j + 1]? = some (txt ((k :: ps)[j]'(by rw [List.length_cons]; omega))) := by
    rw [List.getElem?_cons_succ, List.getElem?_map, List.getElem?_eq_getElem (by rw [List.length_cons]; omega)]; rfl
  have nOk := h.ok ((k :: ps)[j]'(by rw [List.length_cons]; omega)) (List.getElem_mem _)
  have mid : ∀ z : Sl, EvP PR (mStr1 joinO (mC (.str (" " : PySem.Str))) (mOf (m2N catL (mOf (m2N catL (mSl (mVar 2) (mNoO) (mSomeO (mVar 3))) (mOf (mLst (mCons (mFn f_law_bad_word (mCons (mVar 0) (mCons (m2 ixO (mVar 2) (mVar 3)) (mNil)))) (mNil)))))) (mSl (mVar 2) (mSomeO (m2 addO (mVar 3) (mC (.int 1)))) (mNoO)))))
      [.sh .box, .sh (.str (rowT askS (k :: ps))), .sh (.lst ((askS :: (k :: ps).map txt).map .str)), .sh (.int ((j + 1 : Nat) : Int)), z] := fun z s hs => by
    obtain ⟨_, s', q1, q2, b, rfl, q3⟩ := bad_word_ok hs nOk.1 nOk.2
    have pieces : (((askS :: (k :: ps).map txt).take (j + 1) ++ [b] ++ (askS :: (k :: ps).map txt).drop (j + 2)).map (·.length)).sum + ((askS :: (k :: ps).map txt).take (j + 1) ++ [b] ++ (askS :: (k :: ps).map txt).drop (j + 2)).length * 1 ≤ 80000 := by
      refine pieces_small ?_ q3.2.2
      rw [wlen]
      rw [List.length_cons] at szw
      omega
    have sx : ixO (.lst ((askS :: (k :: ps).map txt).map .str)) (.int ((j + 1 : Nat) : Int)) = some (.str (txt ((k :: ps)[j]'(by rw [List.length_cons]; omega)))) := by
      refine at_nat ?_
      rw [List.getElem?_map, hjw]; rfl
    refine ⟨.str (Str.join spS ((askS :: (k :: ps).map txt).take (j + 1) ++ [b] ++ (askS :: (k :: ps).map txt).drop (j + 2))), s', ev_str1 (s1 := s) (y := .lst (((askS :: (k :: ps).map txt).take (j + 1) ++ [b] ++ (askS :: (k :: ps).map txt).drop (j + 2)).map .str)) rfl (ev_of (ev2N (x := .lst (((askS :: (k :: ps).map txt).take (j + 1) ++ [b]).map .str)) (y := .lst (((askS :: (k :: ps).map txt).drop (j + 2)).map .str)) (s1 := s') (ev_of (ev2N (s1 := s) (x := .lst (((askS :: (k :: ps).map txt).take (j + 1)).map .str)) (y := .lst [.str b]) (ev_sl (x := .lst ((askS :: (k :: ps).map txt).map .str)) (p := none) (q := some ((j + 1 : Nat) : Int)) (s3 := s) rfl rfl rfl ?_) (ev_of (ev_lst (ev_cons (ev_fn (l := [.box, .str (txt ((k :: ps)[j]'(by rw [List.length_cons]; omega)))]) (s1 := s) (ev_cons rfl (ev_cons (ev2 (s1 := s) rfl rfl sx) rfl)) q1) rfl) (Nat.le_trans (show 1 ≤ 1 from Nat.le_refl 1) (by decide)))) ?_)) (ev_sl (x := .lst ((askS :: (k :: ps).map txt).map .str)) (p := some ((j + 2 : Nat) : Int)) (q := none) (s3 := s') rfl (ev_someO (ev2 (s1 := s') rfl rfl ?_)) rfl ?_) ?_)) (join_strs (by omega)), q2, _, rfl, ?_, ?_, ?_⟩
    · show some (D.lst (cutD _ none (some ((j + 1 : Nat) : Int)))) = _
      rw [cut_to, List.map_take]
    · show (if (((askS :: (k :: ps).map txt).take (j + 1)).map D.str).length + [D.str b].length ≤ 1000000 then some (((askS :: (k :: ps).map txt).take (j + 1)).map D.str ++ [D.str b]) else none) = _
      rw [if_pos (by rw [List.length_map, List.length_take, List.length_singleton]; omega), List.map_append]; rfl
    · show some (D.int (((j + 1 : Nat) : Int) + 1)) = _
      rw [show ((j + 1 : Nat) : Int) + 1 = ((j + 2 : Nat) : Int) by omega]
    · show some (D.lst (cutD _ (some ((j + 2 : Nat) : Int)) none)) = _
      rw [cut_from, List.map_drop]
    · show (if (((askS :: (k :: ps).map txt).take (j + 1) ++ [b]).map D.str).length + (((askS :: (k :: ps).map txt).drop (j + 2)).map D.str).length ≤ 1000000 then some (((askS :: (k :: ps).map txt).take (j + 1) ++ [b]).map D.str ++ ((askS :: (k :: ps).map txt).drop (j + 2)).map D.str) else none) = _
      rw [if_pos (by rw [List.length_map, List.length_map, List.length_append, List.length_take, List.length_drop, List.length_singleton, wlen]; omega), ← List.map_append]
    · have tk : (askS :: (k :: ps).map txt).take (j + 1) = askS :: ((k :: ps).map txt).take j := rfl
      rw [tk]
      refine bad_put (fun x hx => ?_) (fun x hx => words_free h.ok x (List.mem_of_mem_drop hx)) q3
      rcases List.mem_cons.mp hx with e | e
      · rw [e, tl_ask]; decide
      · exact words_free h.ok x (List.mem_cons_of_mem _ (List.mem_of_mem_take e))
    · refine join_free (by rw [tl_sp]; decide) fun p hp => ?_
      have f10 : ∀ w ∈ askS :: (k :: ps).map txt, 10 ∉ tl w := fun w hw => by
        rcases List.mem_cons.mp hw with e | e
        · rw [e, tl_ask]; decide
        · obtain ⟨n, hn, rfl⟩ := List.mem_map.mp e
          exact txt_free (h.ok n hn).1 (.inl (by decide))
      rcases List.mem_append.mp hp with q | q
      · rcases List.mem_append.mp q with q | q
        · exact f10 p (List.mem_of_mem_take q)
        · rw [List.mem_singleton.mp q]; exact q3.2.1
      · exact f10 p (List.mem_of_mem_drop q)
    · have j := StrLaws.join_length_le spS ((askS :: (k :: ps).map txt).take (j + 1) ++ [b] ++ (askS :: (k :: ps).map txt).drop (j + 2))
      rw [len_sp] at j
      omega
  have l2 : EvL PR (12 + 6) (m2N catL (mVar 4) (mOf (m2N repL (mOf (mLst (mCons (mStr1 joinO (mC (.str (" " : PySem.Str))) (mOf (m2N catL (mOf (m2N catL (mSl (mVar 2) (mNoO) (mSomeO (mVar 3))) (mOf (mLst (mCons (mFn f_law_bad_word (mCons (mVar 0) (mCons (m2 ixO (mVar 2) (mVar 3)) (mNil)))) (mNil)))))) (mSl (mVar 2) (mSomeO (m2 addO (mVar 3) (mC (.int 1)))) (mNoO))))) (mNil)))) (mC (.int 6)))))
      [.sh .box, .sh (.str (rowT askS (k :: ps))), .sh (.lst ((askS :: (k :: ps).map txt).map .str)), .sh (.int ((j + 1 : Nat) : Int)), .sh (.lst L1)] :=
    evl_cat (evp_pure (x := .lst L1) (fun s => rfl) ⟨L1, rfl, g3, g4⟩) (evp_of (evl_rep6 (evp_of (evl_lst (evl_cons (mid _) evl_nil) (by decide))))) (by decide)
  obtain ⟨L2, s3, e1, e2, e3, e4⟩ := l2 s2 g2
  -- what is put behind
  have fin : ∀ (L : List D) (s : BoxSt), okS s = true → L ≠ [] → L.length ≤ 100 → (∀ z ∈ L, PR z) → ∃ d s', outD (mSeq (mRet (mFn f_law_pick (mCons (mVar 0) (mCons (mVar 4) (mNil))))) (mNext) [.sh .box, .sh (.str (rowT askS (k :: ps))), .sh (.lst ((askS :: (k :: ps).map txt).map .str)), .sh (.int ((j + 1 : Nat) : Int)), .sh (.lst L)] s) = .ok d s' ∧ okS s' = true ∧ PR d := fun L s hs h1 h2 h3 => by
    obtain ⟨d, s', q1, q2, q3⟩ := pick_ok hs h1 (by omega)
    exact ⟨d, s', out_of (st_seqR (st_ret (ev_fn (l := [.box, .lst L]) (s1 := s) rfl q2))) rfl, q3, h3 d q1⟩
  have gt2 : mTest (m2 gtI (mCall lenO (mCons (mVar 2) (mNil))) (mC (.int 2))) [.sh .box, .sh (.str (rowT askS (k :: ps))), .sh (.lst ((askS :: (k :: ps).map txt).map .str)), .sh (.int ((j + 1 : Nat) : Int)), .sh (.lst L2)] s3 = .ok (decide (0 < ps.length)) s3 := by
    refine ev_test (ev2 (s1 := s3) (lenW s3 _ _) rfl ?_)
    show some (D.bl (decide ((2 : Int) < ((ps.length + 2 : Nat) : Int)))) = _
    rw [show decide ((2 : Int) < ((ps.length + 2 : Nat) : Int)) = decide (0 < ps.length) from decide_eq_decide.mpr (by omega)]
  by_cases hp : ps = []
  · obtain ⟨d, s', q1, q2, q3⟩ := fin L2 s3 e2 (fun z => by rw [z] at e3; simp at e3) (by omega) e4
    rw [decide_eq_false (by rw [hp]; decide)] at gt2
    exact ⟨d, s', df_rt_or rfl (st_seq (st_asg w0) (st_seq (st_asg a0) (st_seq (st_asg (ev_of g1)) (st_seq (st_asg (ev_of e1)) (st_seq (env' := [.sh .box, .sh (.str (rowT askS (k :: ps))), .sh (.lst ((askS :: (k :: ps).map txt).map .str)), .sh (.int ((j + 1 : Nat) : Int)), .sh (.lst L2)]) (s1 := s3) (st_ifF gt2 rfl) rfl))))) q1, q2, q3⟩
  · have pos : 0 < ps.length := List.length_pos_iff.mpr hp
    rw [decide_eq_true pos] at gt2
    have lastW : ∀ s, m2 ixO (mVar 2) (m1 negI (mC (.int 1))) [.sh .box, .sh (.str (rowT askS (k :: ps))), .sh (.lst ((askS :: (k :: ps).map txt).map .str)), .sh (.int ((j + 1 : Nat) : Int)), .sh (.lst L2)] s = .ok (.str (txt (ps.getLast hp))) s := fun s => by
      refine ev2 (s1 := s) (x := .lst ((askS :: (k :: ps).map txt).map .str)) (y := .int (-1)) rfl rfl ?_
      show _root_.L2.atI ((askS :: (k :: ps).map txt).map D.str) (-1) = _
      unfold _root_.L2.atI _root_.L2.ixN
      rw [if_neg (by decide), if_pos (by rw [List.length_map, wlen]; omega)]
      show ((askS :: (k :: ps).map txt).map D.str)[((-1 : Int) + ((((askS :: (k :: ps).map txt).map D.str).length : Nat) : Int)).toNat]? = _
      rw [List.length_map, wlen, show ((-1 : Int) + ((ps.length + 2 : Nat) : Int)).toNat = ps.length + 1 by omega, List.getElem?_map, List.getElem?_cons_succ, List.getElem?_map]
      obtain ⟨m, hm⟩ : ∃ m, ps.length = m + 1 := ⟨ps.length - 1, by omega⟩
      rw [hm, List.getElem?_cons_succ, List.getLast_eq_getElem]
      rw [List.getElem?_eq_getElem (by omega)]
      simp only [hm, Nat.add_sub_cancel]
      rfl
    have lastOk := h.ok (ps.getLast hp) (List.mem_cons_of_mem _ (List.getLast_mem hp))
    have tl0 := txt_len lastOk.1 lastOk.2
    have l3 : EvL PR (12 + 6 + 2) (m2N catL (mVar 4) (mOf (mLst (mCons (m2 addO (m2 addO (mVar 1) (mC (.str (" " : PySem.Str)))) (m2 ixO (mVar 2) (m1 negI (mC (.int 1))))) (mCons (m2 addO (mVar 1) (mC (.str (" 0" : PySem.Str)))) (mNil))))))
        [.sh .box, .sh (.str (rowT askS (k :: ps))), .sh (.lst ((askS :: (k :: ps).map txt).map .str)), .sh (.int ((j + 1 : Nat) : Int)), .sh (.lst L2)] := by
      refine evl_cat (evp_pure (x := .lst L2) (fun s => rfl) ⟨L2, rfl, e3, e4⟩) (evp_of (evl_lst (evl_cons (evp_pure (x := .str (rowT askS (k :: ps) ++ spS ++ txt (ps.getLast hp))) (fun s => ev2 (s1 := s) (ev2 (s1 := s) rfl rfl (addO_str (b := spS) (by rw [len_sp]; omega))) (lastW s) (addO_str (by rw [Str.length_append, len_sp]; omega))) ⟨_, rfl, ?_⟩) (evl_cons (evp_pure (x := .str (rowT askS (k :: ps) ++ (" 0" : Str))) (fun s => ev2 (s1 := s) rfl rfl (addO_str (by rw [show (" 0" : Str).length = 2 from by decide +kernel]; omega))) ⟨_, rfl, ?_⟩) evl_nil)) (by decide))) (by decide)
      · rw [row_more]
        exact more_bad h hp lastOk (Int.le_refl _)
      · have e : rowT askS (k :: ps) ++ (" 0" : Str) = rowT askS (k :: ps ++ [0]) := by
          rw [← row_more]
          refine ext_tl ?_
          rw [tl_append, tl_append, tl_append, tl_sp0, tl_sp, show tl (txt 0) = [48] from by decide +kernel, List.append_assoc]
          rfl
        rw [e]
        exact more_bad h hp ⟨by decide, by decide⟩ lastOk.1
    obtain ⟨L3, s4, c1, c2, c3, c4⟩ := l3 s3 e2
    obtain ⟨d, s', q1, q2, q3⟩ := fin L3 s4 c2 (fun z => by rw [z] at c3; simp at c3) (by omega) c4
    exact ⟨d, s', df_rt_or rfl (st_seq (st_asg w0) (st_seq (st_asg a0) (st_seq (st_asg (ev_of g1)) (st_seq (st_asg (ev_of e1)) (st_seq (env' := [.sh .box, .sh (.str (rowT askS (k :: ps))), .sh (.lst ((askS :: (k :: ps).map txt).map .str)), .sh (.int ((j + 1 : Nat) : Int)), .sh (.lst L3)]) (s1 := s4) (st_ifT gt2 (st_seq (st_asg (ev_of c1)) rfl)) rfl))))) q1, q2, q3⟩
end
end Kn

end

section
set_option Elab.async false
set_option linter.all false
set_option maxRecDepth 100000
set_option maxHeartbeats 4000000
/-! Pl9: wrong texts. -/
namespace Kn
open PySem TL
theorem okDeed.rowS {kp : Int × List Int} (h : okDeed kp) : RowS (kp.1 :: kp.2) := ⟨h.nums, by simp, row_sizes h⟩
/-- a course that is handed on -/
structure Cs (cs : List (Int × List Int)) : Prop where
  ok : ∀ kp ∈ cs, okDeed kp
  len : cs.length ≤ 400
  sz : ((cs.map rowD).map (·.length)).sum + cs.length ≤ 640000
def FB : Nat := 900000
structure Found (cs : List (Int × List Int)) (at_ : Nat) (r : Str) (B : Nat) (F : List Str) : Prop where
  here : F[at_]? = some r
  ahead : ∀ j, j < at_ → F[j]? = (cs.map rowD)[j]?
  free : ∀ w ∈ F, 10 ∉ tl w
  sz : (F.map (·.length)).sum + F.length ≤ B
theorem Found.more {cs : List (Int × List Int)} {a : Nat} {r w : Str} {B : Nat} {F : List Str} (h : Found cs a r B F) (hw : 10 ∉ tl w) : Found cs a r (B + w.length + 1) (F ++ [w]) := by
  have hl := (List.getElem?_eq_some_iff.mp h.here).1
  refine ⟨by rw [List.getElem?_append_left hl]; exact h.here, fun j hj => by rw [List.getElem?_append_left (by omega)]; exact h.ahead j hj, fun x hx => ?_, ?_⟩
  · rcases List.mem_append.mp hx with q | q
    · exact h.free x q
    · rw [List.mem_singleton.mp q]; exact hw
  · have := h.sz
    rw [List.map_append, List.sum_append, List.length_append]
    simp only [List.map_cons, List.map_nil, List.sum_cons, List.sum_nil, List.length_cons, List.length_nil]
    omega
theorem join_nl {ys : List Str} (h : (ys.map (·.length)).sum + ys.length * 1 ≤ 1000000) : joinO nlS (.lst (ys.map .str)) = some (.str (Txt.join nlS ys)) := by
  show ((strsOf (ys.map D.str)).bind fun ys => if (ys.map (·.length)).sum + ys.length * nlS.length ≤ 1000000 then some (D.str (Txt.join nlS ys)) else none) = _
  rw [strs_map]
  show (if _ then _ else _) = _
  rw [if_pos (by rw [len_nl]; exact h)]
theorem nl_len {ys : List Str} (h : (ys.map (·.length)).sum + ys.length ≤ 900000) : (Txt.join nlS ys).length ≤ 900000 := by
  rw [join_eq]
  have j := StrLaws.join_length_le nlS ys
  rw [len_nl] at j
  omega
theorem Found.read {s : BoxSt} {cs : List (Int × List Int)} {a : Nat} {r : Str} {F : List Str} (C : Cs cs) (h : Found cs a r 900000 F) (ha : a ≤ cs.length) (hb : tellRow r = none) (hne : F ≠ [("" : Str)]) : f_law_read [.str (Txt.join nlS F)] s = .ok (.tup [.str textS, .int (a : Int)]) s := by
  have hl := (List.getElem?_eq_some_iff.mp h.here).1
  refine law_read_err (read_err (split_joinN (fun z => by rw [z] at hl; simp at hl) h.free) (nl_len h.sz) hne hl ?_ fun j hj => ?_)
  · unfold badAt; rw [h.here]
    show (decide (a = 400) || (tellRow r).isNone) = true
    rw [hb]; simp
  · unfold badAt
    rw [h.ahead j hj, List.getElem?_map]
    have hj' : j < cs.length := by omega
    rw [List.getElem?_eq_getElem hj']
    show (decide (j = 400) || (tellRow (rowD cs[j])).isNone) = false
    rw [tell_good (C.ok _ (List.getElem_mem hj')), decide_eq_false (by have := C.len; omega)]
    rfl
theorem ask012 : ("ask 0 1 2" : Str) = rowD (0, [1, 2]) := by decide +kernel
theorem ask0 : ("ask 0" : Str) = rowD (0, []) := by decide +kernel
theorem ok012 : okDeed (0, [1, 2]) := ⟨by decide, by decide, fun p hp => by simp at hp; rcases hp with e | e <;> rw [e] <;> exact ⟨by decide, by decide⟩, rfl, by decide⟩
theorem ok0 : okDeed (0, []) := ⟨by decide, by decide, fun p hp => by simp at hp, rfl, by decide⟩
theorem row_brow {s : BoxSt} {kp : Int × List Int} (h : okDeed kp) (hs : okS s = true) : ∃ d s', f_law_bad_row [.box, .str (rowD kp)] s = .ok d s' ∧ okS s' = true ∧ PR d := bad_row_ok h.rowS hs
theorem evp_brow {env : En} {kp : Int × List Int} {a : ME} (hb : env[0]? = some (.sh .box)) (h : okDeed kp) (ha : ∀ s, a env s = .ok (.str (rowD kp)) s) : EvP PR (mFn f_law_bad_row (mCons (mVar 0) (mCons a (mNil)))) env := fun s hs => by
  obtain ⟨d, s', q1, q2, q3⟩ := row_brow h hs
  exact ⟨d, s', ev_fn (l := [.box, .str (rowD kp)]) (s1 := s) (ev_cons (by unfold mVar; rw [hb]) (ev_cons (ha s) rfl)) q1, q2, q3⟩
def WB : MS := (mSeq (mAsg 3 (mFn f_law_pick (mCons (mVar 0) (mCons (mOf (mLst (mCons (mC (.int 0)) (mCons (mCall lenO (mCons (mVar 1) (mNil))) (mCons (mFn f_law_draw (mCons (mVar 0) (mCons (m2 addO (mCall lenO (mCons (mVar 1) (mNil))) (mC (.int 1))) (mNil)))) (mNil)))))) (mNil))))) (mSeq (mAsg 4 (mFn f_law_bad_row (mCons (mVar 0) (mCons (mIf (mTest (m2 ltI (mVar 3) (mCall lenO (mCons (mVar 1) (mNil))))) (m2 ixO (mVar 1) (mVar 3)) (mC (.str ("ask 0 1 2" : PySem.Str)))) (mNil))))) (mSeq (mAsg 5 (mOf (m2N catL (mOf (m2N catL (mSl (mVar 1) (mNoO) (mSomeO (mVar 3))) (mOf (mLst (mCons (mVar 4) (mNil)))))) (mSl (mVar 1) (mSomeO (m2 addO (mVar 3) (mFn f_law_draw (mCons (mVar 0) (mCons (mC (.int 2)) (mNil)))))) (mNoO))))) (mSeq (mIfS (mAnd (mTest (m2 eqO (mVar 4) (mC (.str ("" : PySem.Str))))) (mTest (m2 eqO (mCall lenO (mCons (mVar 5) (mNil))) (mC (.int 1))))) (mSeq (mAsg 5 (mOf (m2N catL (mVar 5) (mOf (mLst (mCons (mC (.str ("" : PySem.Str))) (mCons (mC (.str ("ask 0" : PySem.Str))) (mNil)))))))) (mNext)) (mNext)) (mSeq (mIfS (mTest (m2 eqO (mFn f_law_draw (mCons (mVar 0) (mCons (mC (.int 3)) (mNil)))) (mC (.int 0)))) (mSeq (mAsg 5 (mOf (m2N catL (mVar 5) (mOf (mLst (mCons (mFn f_law_bad_row (mCons (mVar 0) (mCons (mC (.str ("ask 0" : PySem.Str))) (mNil)))) (mNil))))))) (mNext)) (mNext)) (mSeq (mIfS (mNot (mTest (mFn (f_law_same 7) (mCons (mFn f_law_read (mCons (mStr1 joinO (mC (.str ("\n" : PySem.Str))) (mVar 5)) (mNil))) (mCons (mTup (mCons (mC (.str ("text" : PySem.Str))) (mCons (mVar 3) (mNil)))) (mNil)))))) (mSeq (mRet (mC (.bl false))) (mNext)) (mNext)) (mNext)))))))
theorem cat_strs {a b : List Str} (h : a.length + b.length ≤ 1000000) : catL (.lst (a.map .str)) (.lst (b.map .str)) = some ((a ++ b).map .str) := by
  show (if (a.map D.str).length + (b.map D.str).length ≤ 1000000 then some (a.map D.str ++ b.map D.str) else none) = _
  rw [if_pos (by rw [List.length_map, List.length_map]; exact h), List.map_append]
theorem draw_at {env : En} {s : BoxSt} {a : ME} {many : Int} {i : Nat} (hb : env[i]? = some (.sh .box)) (ha : a env s = .ok (.int many) s) (hs : okS s = true) (h1 : 0 < many) (h2 : many < 2 ^ 64) : ∃ (k : Nat) (s' : BoxSt), mFn f_law_draw (mCons (mVar i) (mCons a (mNil))) env s = .ok (.int (k : Int)) s' ∧ okS s' = true ∧ (k : Int) < many := by
  obtain ⟨r, s', q1, q2, q3, q4⟩ := draw_fn hs h1 h2
  obtain ⟨k, rfl⟩ := Int.eq_ofNat_of_zero_le q3
  exact ⟨k, s', ev_fn (l := [.box, .int many]) (s1 := s) (ev_cons (by unfold mVar; rw [hb]) (ev_cons ha rfl)) q1, q2, q4⟩
theorem sum_split (l : List Str) (i : Nat) : (l.map (·.length)).sum = ((l.take i).map (·.length)).sum + ((l.drop i).map (·.length)).sum := by
  rw [← List.sum_append, ← List.map_append, List.take_append_drop]
theorem same_text {s : BoxSt} {k : Int} : f_law_same 7 [.tup [.str textS, .int k], .tup [.str textS, .int k]] s = .ok (.bl true) s := same_ok 7 _ rfl
theorem eq0 (k : Nat) : eqO (.int (k : Int)) (.int 0) = some (.bl (decide (k = 0))) := by
  show some (D.bl (decide ((k : Int) = 0))) = _
  rw [show decide ((k : Int) = 0) = decide (k = 0) from decide_eq_decide.mpr (by omega)]
theorem WB_run {cs : List (Int × List Int)} (C : Cs cs) {s : BoxSt} (hs : okS s = true) (t a3 a4 a5 : Sl) : ∃ b3 b4 b5 s', WB [.sh .box, .sh (.lst ((cs.map rowD).map .str)), t, a3, a4, a5] s = .nx [.sh .box, .sh (.lst ((cs.map rowD).map .str)), t, b3, b4, b5] s' ∧ okS s' = true := by
  have lenR : ∀ (s : BoxSt) (a b c : Sl), mCall lenO (mCons (mVar 1) (mNil)) [.sh .box, .sh (.lst ((cs.map rowD).map .str)), t, a, b, c] s = .ok (.int ((cs.length : Nat) : Int)) s := fun s a b c => by
    refine ev_call (l := [.lst _]) (s1 := s) rfl ?_
    show some (D.int ((((cs.map rowD).map D.str).length : Nat) : Int)) = _
    rw [List.length_map, List.length_map]
  have cl := C.len
  -- at
  have pl : EvL (fun d => ∃ k : Nat, d = .int (k : Int) ∧ k ≤ cs.length) 3 (mLst (mCons (mC (.int 0)) (mCons (mCall lenO (mCons (mVar 1) (mNil))) (mCons (mFn f_law_draw (mCons (mVar 0) (mCons (m2 addO (mCall lenO (mCons (mVar 1) (mNil))) (mC (.int 1))) (mNil)))) (mNil))))) [.sh .box, .sh (.lst ((cs.map rowD).map .str)), t, a3, a4, a5] := by
    refine evl_lst (evl_cons (evp_pure (x := .int 0) (fun s => rfl) ⟨0, rfl, Nat.zero_le _⟩) (evl_cons (evp_pure (fun s => lenR s _ _ _) ⟨cs.length, rfl, Nat.le_refl _⟩) (evl_cons (fun s hs => ?_) evl_nil))) (by decide)
    obtain ⟨k, s', q1, q2, q3⟩ := draw_at (env := [.sh .box, .sh (.lst ((cs.map rowD).map .str)), t, a3, a4, a5]) (i := 0) (a := m2 addO (mCall lenO (mCons (mVar 1) (mNil))) (mC (.int 1))) (many := ((cs.length + 1 : Nat) : Int)) (s := s) rfl (ev2 (s1 := s) (lenR s _ _ _) rfl rfl) hs (by omega) (by omega)
    exact ⟨_, s', q1, q2, k, rfl, by omega⟩
  obtain ⟨_, s1, p1, p2, a, rfl, ha⟩ := evp_pick (i := 0) rfl pl (by decide) (by decide) s hs
  -- the bad row
  have rowE : ∃ kp, okDeed kp ∧ ∀ (s : BoxSt), mIf (mTest (m2 ltI (mVar 3) (mCall lenO (mCons (mVar 1) (mNil))))) (m2 ixO (mVar 1) (mVar 3)) (mC (.str ("ask 0 1 2" : PySem.Str))) [.sh .box, .sh (.lst ((cs.map rowD).map .str)), t, .sh (.int (a : Int)), a4, a5] s = .ok (.str (rowD kp)) s := by
    by_cases h : a < cs.length
    · refine ⟨cs[a], C.ok _ (List.getElem_mem h), fun s => ev_if (k := true) (s1 := s) (ev_test (ev2 (s1 := s) (x := .int (a : Int)) (y := .int ((cs.length : Nat) : Int)) rfl (lenR s _ _ _) ?_)) ?_⟩
      · show some (D.bl (decide ((a : Int) < ((cs.length : Nat) : Int)))) = _
        rw [decide_eq_true (by omega)]
      · rw [if_pos rfl]
        refine ev2 (s1 := s) (x := .lst ((cs.map rowD).map .str)) (y := .int (a : Int)) rfl rfl (at_nat ?_)
        rw [List.getElem?_map, List.getElem?_map, List.getElem?_eq_getElem h]; rfl
    · refine ⟨(0, [1, 2]), ok012, fun s => ev_if (k := false) (s1 := s) (ev_test (ev2 (s1 := s) (x := .int (a : Int)) (y := .int ((cs.length : Nat) : Int)) rfl (lenR s _ _ _) ?_)) ?_⟩
      · show some (D.bl (decide ((a : Int) < ((cs.length : Nat) : Int)))) = _
        rw [decide_eq_false (by omega)]
      · rw [if_neg (by decide), ← ask012]; rfl
  obtain ⟨kp, hkp, rowE⟩ := rowE
  obtain ⟨_, s2, r1, r2, r, rfl, hr⟩ := evp_brow (env := [.sh .box, .sh (.lst ((cs.map rowD).map .str)), t, .sh (.int (a : Int)), a4, a5]) rfl hkp rowE s1 p2
  -- found
  obtain ⟨e, s3, d1, d2, d3⟩ := draw_at (env := [.sh .box, .sh (.lst ((cs.map rowD).map .str)), t, .sh (.int (a : Int)), .sh (.str r), a5]) (i := 0) (a := mC (.int 2)) (many := 2) (s := s2) rfl rfl r2 (by decide) (by decide)
  have f1 : mOf (m2N catL (mOf (m2N catL (mSl (mVar 1) (mNoO) (mSomeO (mVar 3))) (mOf (mLst (mCons (mVar 4) (mNil)))))) (mSl (mVar 1) (mSomeO (m2 addO (mVar 3) (mFn f_law_draw (mCons (mVar 0) (mCons (mC (.int 2)) (mNil)))))) (mNoO))) [.sh .box, .sh (.lst ((cs.map rowD).map .str)), t, .sh (.int (a : Int)), .sh (.str r), a5] s2 = .ok (.lst (((cs.map rowD).take a ++ [r] ++ (cs.map rowD).drop (a + e)).map .str)) s3 := by
    refine ev_of (ev2N (x := .lst (((cs.map rowD).take a ++ [r]).map .str)) (y := .lst (((cs.map rowD).drop (a + e)).map .str)) (s1 := s2) (ev_of (ev2N (s1 := s2) (x := .lst (((cs.map rowD).take a).map .str)) (y := .lst ([r].map .str)) (ev_sl (x := .lst ((cs.map rowD).map .str)) (p := none) (q := some (a : Int)) (s3 := s2) rfl rfl rfl ?_) (ev_of rfl) (cat_strs ?_))) (ev_sl (x := .lst ((cs.map rowD).map .str)) (p := some ((a + e : Nat) : Int)) (q := none) (s3 := s3) rfl (ev_someO (ev2 (s1 := s2) rfl d1 rfl)) rfl ?_) (cat_strs ?_))
    · show some (D.lst (cutD _ none (some (a : Int)))) = _
      rw [cut_to, List.map_take]
    · rw [List.length_take, List.length_map, List.length_singleton]; omega
    · show some (D.lst (cutD _ (some ((a + e : Nat) : Int)) none)) = _
      rw [cut_from, List.map_drop]
    · rw [List.length_append, List.length_take, List.length_drop, List.length_map, List.length_singleton]; omega
  have F1 : Found cs a r 740000 ((cs.map rowD).take a ++ [r] ++ (cs.map rowD).drop (a + e)) := by
    have tl_ : ((cs.map rowD).take a).length = a := by rw [List.length_take, List.length_map]; omega
    refine ⟨?_, fun j hj => ?_, fun w hw => ?_, ?_⟩
    · rw [List.append_assoc, List.getElem?_append_right (by omega), tl_, Nat.sub_self]; rfl
    · rw [List.append_assoc, List.getElem?_append_left (by omega), List.getElem?_take_of_lt hj]
    · have f10 : ∀ w ∈ cs.map rowD, 10 ∉ tl w := fun w hw => by
        obtain ⟨kp, hk, rfl⟩ := List.mem_map.mp hw
        exact (C.ok kp hk).rowS.n10
      rcases List.mem_append.mp hw with q | q
      · rcases List.mem_append.mp q with q | q
        · exact f10 w (List.mem_of_mem_take q)
        · rw [List.mem_singleton.mp q]; exact hr.2.1
      · exact f10 w (List.mem_of_mem_drop q)
    · have z := C.sz
      have q1 := sum_split (cs.map rowD) a
      have q2 : (((cs.map rowD).drop (a + e)).map (·.length)).sum ≤ (((cs.map rowD).drop a).map (·.length)).sum := by
        rcases (show e = 0 ∨ e = 1 by omega) with rfl | rfl
        · exact Nat.le_refl _
        · exact drop_sum _ _
      have q3 := hr.2.2
      rw [List.map_append, List.map_append, List.sum_append, List.sum_append, List.length_append, List.length_append, List.length_take, List.length_drop, List.length_map]
      simp only [List.map_cons, List.map_nil, List.sum_cons, List.sum_nil, List.length_cons, List.length_nil]
      omega
  -- not ['']
  have step4 : ∃ F2 : List Str, Found cs a r 740100 F2 ∧ F2 ≠ [("" : Str)] ∧ mIfS (mAnd (mTest (m2 eqO (mVar 4) (mC (.str ("" : PySem.Str))))) (mTest (m2 eqO (mCall lenO (mCons (mVar 5) (mNil))) (mC (.int 1))))) (mSeq (mAsg 5 (mOf (m2N catL (mVar 5) (mOf (mLst (mCons (mC (.str ("" : PySem.Str))) (mCons (mC (.str ("ask 0" : PySem.Str))) (mNil)))))))) (mNext)) (mNext) [.sh .box, .sh (.lst ((cs.map rowD).map .str)), t, .sh (.int (a : Int)), .sh (.str r), .sh (.lst (((cs.map rowD).take a ++ [r] ++ (cs.map rowD).drop (a + e)).map .str))] s3 = .nx [.sh .box, .sh (.lst ((cs.map rowD).map .str)), t, .sh (.int (a : Int)), .sh (.str r), .sh (.lst (F2.map .str))] s3 := by
    generalize (cs.map rowD).take a ++ [r] ++ (cs.map rowD).drop (a + e) = F at F1
    have t1 : mTest (m2 eqO (mVar 4) (mC (.str ("" : PySem.Str)))) [.sh .box, .sh (.lst ((cs.map rowD).map .str)), t, .sh (.int (a : Int)), .sh (.str r), .sh (.lst (F.map .str))] s3 = .ok (decide (r = ("" : Str))) s3 := ev_test (ev2 (s1 := s3) rfl rfl rfl)
    have t2 : mTest (m2 eqO (mCall lenO (mCons (mVar 5) (mNil))) (mC (.int 1))) [.sh .box, .sh (.lst ((cs.map rowD).map .str)), t, .sh (.int (a : Int)), .sh (.str r), .sh (.lst (F.map .str))] s3 = .ok (decide (F.length = 1)) s3 := by
      refine ev_test (ev2 (s1 := s3) (x := .int ((F.length : Nat) : Int)) (y := .int 1) (ev_call (l := [.lst (F.map .str)]) (s1 := s3) rfl (by show some (D.int (((F.map D.str).length : Nat) : Int)) = _; rw [List.length_map])) rfl ?_)
      show some (D.bl (decide (((F.length : Nat) : Int) = 1))) = _
      rw [show decide (((F.length : Nat) : Int) = 1) = decide (F.length = 1) from decide_eq_decide.mpr (by omega)]
    by_cases h1 : r = ("" : Str)
    · rw [decide_eq_true h1] at t1
      by_cases h2 : F.length = 1
      · rw [decide_eq_true h2] at t2
        refine ⟨F ++ [("" : Str)] ++ [("ask 0" : Str)], ?_, fun z => ?_, st_ifT (ev_and (k := true) t1 (by rw [if_pos rfl]; exact t2)) ?_⟩
        · have m := (F1.more (w := ("" : Str)) (by decide +kernel)).more (w := ("ask 0" : Str)) (by decide +kernel)
          refine ⟨m.here, m.ahead, m.free, Nat.le_trans m.sz (by decide +kernel)⟩
        · have := congrArg List.length z
          rw [List.length_append, List.length_append] at this
          simp at this
        · refine st_seq (st_asg (ev_of (ev2N (s1 := s3) (x := .lst (F.map .str)) (y := .lst ([("" : Str), ("ask 0" : Str)].map .str)) rfl rfl (cat_strs (by have := F1.sz; simp only [List.length_cons, List.length_nil]; omega))))) ?_
          rw [List.append_assoc]
          rfl
      · rw [decide_eq_false h2] at t2
        refine ⟨F, ⟨F1.here, F1.ahead, F1.free, Nat.le_trans F1.sz (by decide)⟩, fun z => h2 (by rw [z]; rfl), st_ifF (ev_and (k := true) t1 (by rw [if_pos rfl]; exact t2)) rfl⟩
    · rw [decide_eq_false h1] at t1
      refine ⟨F, ⟨F1.here, F1.ahead, F1.free, Nat.le_trans F1.sz (by decide)⟩, fun z => ?_, st_ifF (ev_and (k := false) t1 (by rw [if_neg (by decide)])) rfl⟩
      have h := F1.here
      rw [z] at h
      cases a with
      | zero => exact h1 (Option.some.inj h).symm
      | succ a => simp at h
  obtain ⟨F2, G2, n2, step4⟩ := step4
  -- one more
  obtain ⟨e3, s4, c1, c2, c3⟩ := draw_at (env := [.sh .box, .sh (.lst ((cs.map rowD).map .str)), t, .sh (.int (a : Int)), .sh (.str r), .sh (.lst (F2.map .str))]) (i := 0) (a := mC (.int 3)) (many := 3) (s := s3) rfl rfl d2 (by decide) (by decide)
  have step5 : ∃ (F3 : List Str) (s5 : BoxSt), Found cs a r 900000 F3 ∧ F3 ≠ [("" : Str)] ∧ okS s5 = true ∧ mIfS (mTest (m2 eqO (mFn f_law_draw (mCons (mVar 0) (mCons (mC (.int 3)) (mNil)))) (mC (.int 0)))) (mSeq (mAsg 5 (mOf (m2N catL (mVar 5) (mOf (mLst (mCons (mFn f_law_bad_row (mCons (mVar 0) (mCons (mC (.str ("ask 0" : PySem.Str))) (mNil)))) (mNil))))))) (mNext)) (mNext) [.sh .box, .sh (.lst ((cs.map rowD).map .str)), t, .sh (.int (a : Int)), .sh (.str r), .sh (.lst (F2.map .str))] s3 = .nx [.sh .box, .sh (.lst ((cs.map rowD).map .str)), t, .sh (.int (a : Int)), .sh (.str r), .sh (.lst (F3.map .str))] s5 := by
    by_cases h : e3 = 0
    · obtain ⟨_, s5, b1, b2, w, rfl, hw⟩ := evp_brow (env := [.sh .box, .sh (.lst ((cs.map rowD).map .str)), t, .sh (.int (a : Int)), .sh (.str r), .sh (.lst (F2.map .str))]) (a := mC (.str ("ask 0" : PySem.Str))) rfl ok0 (fun s => by rw [← ask0]; rfl) s4 c2
      have m := G2.more hw.2.1
      refine ⟨F2 ++ [w], s5, ⟨m.here, m.ahead, m.free, Nat.le_trans m.sz (by have := hw.2.2; omega)⟩, fun z => ?_, b2, st_ifT (ev_test (ev2 c1 rfl ((eq0 e3).trans (by rw [decide_eq_true h])))) (st_seq (st_asg (ev_of (ev2N (s1 := s4) (x := .lst (F2.map .str)) (y := .lst ([w].map .str)) rfl (ev_of (ev_lst (ev_cons b1 rfl) (Nat.le_trans (show 1 ≤ 1 from Nat.le_refl 1) (by decide)))) (cat_strs (by have := G2.sz; simp only [List.length_cons, List.length_nil]; omega))))) rfl)⟩
      have hl := (List.getElem?_eq_some_iff.mp G2.here).1
      have := congrArg List.length z
      rw [List.length_append] at this
      simp at this
      rw [this] at hl
      simp at hl
    · exact ⟨F2, s4, ⟨G2.here, G2.ahead, G2.free, Nat.le_trans G2.sz (by decide)⟩, n2, c2, st_ifF (ev_test (ev2 c1 rfl ((eq0 e3).trans (by rw [decide_eq_false h])))) rfl⟩
  obtain ⟨F3, s5, G3, n3, o5, step5⟩ := step5
  have rd := G3.read (s := s5) C ha hr.1 n3
  refine ⟨.sh (.int (a : Int)), .sh (.str r), .sh (.lst (F3.map .str)), s5, st_seq (st_asg p1) (st_seq (st_asg r1) (st_seq (st_asg f1) (st_seq step4 (st_seq step5 (st_seq (env' := [.sh .box, .sh (.lst ((cs.map rowD).map .str)), t, .sh (.int (a : Int)), .sh (.str r), .sh (.lst (F3.map .str))]) (s1 := s5) (st_ifF (ev_not (k := true) (ev_test (ev_fn (l := [.tup [.str textS, .int (a : Int)], .tup [.str textS, .int (a : Int)]]) (s1 := s5) (ev_cons (ev_fn (l := [.str (Txt.join nlS F3)]) (s1 := s5) (ev_cons (ev_str1 (s1 := s5) rfl rfl (join_nl (by have := G3.sz; omega))) rfl) rd) (ev_cons (ev_tup rfl (Nat.le_trans (show 2 ≤ 2 from Nat.le_refl 2) (by decide))) rfl)) same_text))) rfl) rfl))))), o5⟩
theorem wloop {cs : List (Int × List Int)} (C : Cs cs) : ∀ (ds : List D) (s : BoxSt) (a2 a3 a4 a5 : Sl), okS s = true → ∃ b2 b3 b4 b5 s', forM (gN 2) WB ds [.sh .box, .sh (.lst ((cs.map rowD).map .str)), a2, a3, a4, a5] s = .nx [.sh .box, .sh (.lst ((cs.map rowD).map .str)), b2, b3, b4, b5] s' ∧ okS s' = true
  | [], s, a2, a3, a4, a5, h => ⟨a2, a3, a4, a5, s, rfl, h⟩
  | d :: r, s, a2, a3, a4, a5, h => by
    obtain ⟨b3, b4, b5, s1, h1, h2⟩ := WB_run C h (.sh d) a3 a4 a5
    obtain ⟨c2, c3, c4, c5, s2, g1, g2⟩ := wloop C r s1 (.sh d) b3 b4 b5 h2
    exact ⟨c2, c3, c4, c5, s2, for_cons rfl h1 g1, g2⟩
theorem many_asks {s : BoxSt} {n : Nat} (h : 400 < n) (h2 : n ≤ 500) : f_law_read [.str (Txt.join nlS (List.replicate n ("ask 0" : Str)))] s = .ok (.tup [.str textS, .int 400]) s := by
  have l5 : ("ask 0" : Str).length = 5 := by decide +kernel
  have t : tellRow ("ask 0" : Str) = some (0, []) := by rw [ask0]; exact tell_good ok0
  have sm : ((List.replicate n ("ask 0" : Str)).map (·.length)).sum = n * 5 := by
    rw [List.map_replicate, l5, List.sum_replicate_nat]
  refine law_read_err (k := ((400 : Nat) : Int)) (read_err (rows := List.replicate n ("ask 0" : Str)) (k := 400) (split_joinN (fun z => by have := congrArg List.length z; rw [List.length_replicate] at this; simp at this; omega) (fun w hw => by rw [List.eq_of_mem_replicate hw]; decide +kernel)) (nl_len (by rw [sm, List.length_replicate]; omega)) (fun z => by have := congrArg List.length z; rw [List.length_replicate] at this; simp at this; omega) (by rw [List.length_replicate]; exact h) rfl fun j hj => ?_)
  unfold badAt
  rw [List.getElem?_replicate, if_pos (by omega)]
  show (decide (j = 400) || (tellRow ("ask 0" : Str)).isNone) = false
  rw [t, decide_eq_false (by omega)]
  rfl
theorem wrong_texts_ok {cs : List (Int × List Int)} (C : Cs cs) {s : BoxSt} (hs : okS s = true) : ∃ s', f_law_wrong_texts [.box, .lst ((cs.map rowD).map .str)] s = .ok (.bl true) s' ∧ okS s' = true := by
  obtain ⟨b2, b3, b4, b5, s1, h1, h2⟩ := wloop C (numbers 5) s .un .un .un .un hs
  obtain ⟨e, s2, d1, d2, d3⟩ := draw_at (env := [.sh .box, .sh (.lst ((cs.map rowD).map .str)), b2, b3, b4, b5]) (i := 0) (a := mC (.int 9)) (many := 9) (s := s1) rfl rfl h2 (by decide) (by decide)
  have l5 : ("ask 0" : Str).length = 5 := by decide +kernel
  refine ⟨s2, df_rt rfl (st_seq (st_for (l := numbers 5) (s1 := s) rfl h1) (st_seqR (st_ret (ev_fn (l := [.tup [.str textS, .int 400], .tup [.str textS, .int 400]]) (s1 := s2) (ev_cons (ev_fn (l := [.str (Txt.join nlS (List.replicate (401 + e) ("ask 0" : Str)))]) (s1 := s2) (ev_cons (ev_str1 (s1 := s1) (y := .lst ((List.replicate (401 + e) ("ask 0" : Str)).map .str)) rfl (ev_of (ev2N (s1 := s1) (x := .lst [.str ("ask 0" : Str)]) (y := .int ((401 + e : Nat) : Int)) rfl (ev2 (s1 := s1) (x := .int 401) (y := .int (e : Int)) rfl d1 ?_) ?_)) (join_nl ?_)) rfl) (many_asks (by omega) (by omega))) rfl) same_text)))), d2⟩
  · show some (D.int (401 + (e : Int))) = _
    rw [show 401 + (e : Int) = ((401 + e : Nat) : Int) by omega]
  · show (if [D.str ("ask 0" : Str)].length * ((401 + e : Nat) : Int).toNat ≤ 1000000 ∧ -1000000 ≤ ((401 + e : Nat) : Int) ∧ ((401 + e : Nat) : Int) ≤ 1000000 then some (List.replicate ((401 + e : Nat) : Int).toNat [D.str ("ask 0" : Str)]).flatten else none) = _
    rw [Int.toNat_natCast, if_pos ⟨by rw [List.length_singleton]; omega, by omega, by omega⟩]
    congr 1
    rw [List.map_replicate]
    have fl : ∀ (n : Nat) (x : D), (List.replicate n [x]).flatten = List.replicate n x := fun n x => by
      induction n with
      | zero => rfl
      | succ n ih => rw [List.replicate_succ, List.flatten_cons, ih]; rfl
    exact fl _ _
  · rw [List.map_replicate, l5, List.sum_replicate_nat, List.length_replicate]
    omega
end Kn

end

section
set_option Elab.async false
set_option linter.all false
set_option maxRecDepth 100000
set_option maxHeartbeats 4000000
/-! Pl10: deeds drawn, bad deeds. -/
namespace Kn
open PySem TL
theorem two_small : 2 ≤ 1000000 := by decide
def dD (kp : Int × List Int) : D := .tup [.int kp.1, .tup (kp.2.map .int)]
theorem okD_deed {kp : Int × List Int} (h : okDeed kp) : okD 5 (dD kp) = true := by
  have l := h.2.2.2.2
  show (decide (2 ≤ 900000) && ([D.int kp.1, D.tup (kp.2.map .int)].all (okD 4))) = true
  rw [decide_eq_true (by decide), Bool.true_and, List.all_cons, List.all_cons]
  show (true && ((decide ((kp.2.map D.int).length ≤ 900000) && (kp.2.map D.int).all (okD 3)) && true)) = true
  rw [List.length_map, decide_eq_true (by omega), List.all_eq_true.mpr (fun x hx => by obtain ⟨i, _, rfl⟩ := List.mem_map.mp hx; rfl)]
  rfl
theorem isDeed_dD (kp : Int × List Int) : IsDeed (dD kp) kp.1 kp.2 := ⟨.tup (kp.2.map .int), rfl, rfl⟩
theorem incr_app : ∀ (l : List Int) (x : Int), incr l = true → (∀ p ∈ l, p < x) → incr (l ++ [x]) = true
  | [], _, _, _ => rfl
  | [a], x, _, h => by
    show (decide (a < x) && true) = true
    rw [decide_eq_true (h a (by simp))]; rfl
  | a :: b :: r, x, hi, h => by
    have h' : (decide (a < b) && incr (b :: r)) = true := hi
    rw [Bool.and_eq_true] at h'
    show (decide (a < b) && incr (b :: r ++ [x])) = true
    rw [h'.1, incr_app (b :: r) x h'.2 fun p hp => h p (List.mem_cons_of_mem _ hp)]; rfl
def PD (d : D) : Prop := ∃ kp, d = dD kp ∧ okDeed kp
def DB : MS := (mSeq (mApp 3 (mVar 4)) (mSeq (mAsg 4 (m2 addO (m2 addO (mVar 4) (mC (.int 1))) (mFn f_law_draw (mCons (mVar 0) (mCons (mFn f_law_pick (mCons (mVar 0) (mCons (mOf (mLst (mCons (mC (.int 1)) (mCons (mC (.int 3)) (mCons (mC (.int (10 ^ 15))) (mNil)))))) (mNil)))) (mNil)))))) (mNext)))
theorem dloop (ds : List D) : ∀ (s : BoxSt) (sz x : Sl) (ps : List Int) (at_ : Int), okS s = true → incr ps = true → (∀ p ∈ ps, 0 ≤ p ∧ p < at_) → 0 ≤ at_ → at_ < 100000000000000000 + (ps.length : Int) * 1000000000000000 → ps.length + ds.length ≤ 400 →
    ∃ (x' : Sl) (ps' : List Int) (at' : Int) (s' : BoxSt), forM (gN 2) DB ds [.sh .box, sz, x, .ow (ps.map .int), .sh (.int at_)] s = .nx [.sh .box, sz, x', .ow (ps'.map .int), .sh (.int at')] s' ∧ okS s' = true ∧ incr ps' = true ∧ (∀ p ∈ ps', 0 ≤ p ∧ p < 10 ^ 40) ∧ ps'.length ≤ 400 := by
  induction ds with
  | nil =>
    intro s sz x ps at_ hs hi hp h0 hb hl
    have hl' : ps.length ≤ 400 := by simpa using hl
    refine ⟨x, ps, at_, s, rfl, hs, hi, fun p h => ⟨(hp p h).1, ?_⟩, hl'⟩
    have h2 := (hp p h).2
    have h3 : p < 1000000000000000000 := by omega
    exact Int.lt_trans h3 (by decide)
  | cons d r ih =>
    intro s sz x ps at_ hs hi hp h0 hb hl
    have pk : EvP (fun d => ∃ k, d = .int k ∧ 0 < k ∧ k < 2 ^ 64 ∧ k ≤ 1000000000000000) (mFn f_law_pick (mCons (mVar 0) (mCons (mOf (mLst (mCons (mC (.int 1)) (mCons (mC (.int 3)) (mCons (mC (.int (10 ^ 15))) (mNil)))))) (mNil)))) [.sh .box, sz, .sh d, .ow ((ps ++ [at_]).map .int), .sh (.int at_)] :=
      evp_pick rfl (evl_lst (evl_cons (evp_pure (x := .int 1) (fun s => rfl) ⟨1, rfl, by decide, by decide, by decide⟩) (evl_cons (evp_pure (x := .int 3) (fun s => rfl) ⟨3, rfl, by decide, by decide, by decide⟩) (evl_cons (evp_pure (x := .int (10 ^ 15)) (fun s => rfl) ⟨10 ^ 15, rfl, by decide, by decide, by decide⟩) evl_nil))) (by decide)) (by decide) (by decide)
    obtain ⟨_, s1, q1, q2, k, rfl, k1, k2⟩ := evp_draw (P := fun _ => True) (i := 0) rfl pk s hs
    have lenc : (d :: r).length = r.length + 1 := List.length_cons
    have pll : (ps ++ [at_]).length = ps.length + 1 := by rw [List.length_append]; rfl
    obtain ⟨x', ps', at', s', g1, g2⟩ := ih s1 sz (.sh d) (ps ++ [at_]) (at_ + 1 + k) q2 (incr_app ps at_ hi fun p h => (hp p h).2) (fun p h => by
      rcases List.mem_append.mp h with q | q
      · have := hp p q; omega
      · rw [List.mem_singleton.mp q]; omega) (by omega) (by rw [pll]; omega) (by rw [pll]; omega)
    refine ⟨x', ps', at', s', for_cons rfl (st_seq (st_app (l := ps.map .int) (s1 := s) rfl rfl (by rw [List.length_map]; omega)) ?_) g1, g2⟩
    have e : ps.map D.int ++ [.int at_] = (ps ++ [at_]).map .int := by rw [List.map_append]; rfl
    show mSeq _ _ [.sh .box, sz, .sh d, .ow (ps.map D.int ++ [.int at_]), .sh (.int at_)] s = _
    rw [e]
    exact st_seq (st_asg (ev2 (s1 := s) (x := .int (at_ + 1)) (y := .int k) rfl q1 rfl)) rfl
theorem evl_ints {Q : Int → Prop} {env : En} : ∀ (ks : List Int), (∀ k ∈ ks, Q k) → EvL (fun d => ∃ k, d = .int k ∧ Q k) ks.length (ks.foldr (fun k m => mCons (mC (.int k)) m) mNil) env
  | [], _ => evl_nil
  | k :: r, h => evl_cons (evp_pure (x := .int k) (fun s => rfl) ⟨k, rfl, h k List.mem_cons_self⟩) (evl_ints r fun x hx => h x (List.mem_cons_of_mem _ hx))
theorem law_deed_ok {s : BoxSt} (hs : okS s = true) : ∃ d s', f_law_deed [.box] s = .ok d s' ∧ okS s' = true ∧ PD d := by
  -- size
  obtain ⟨_, s1, a1, a2, sz, rfl, z1, z2⟩ := evp_pick (P := fun d => ∃ k, d = .int k ∧ 0 < k ∧ k ≤ 10 ^ 18) (env := [.sh .box, .un, .un, .un, .un]) (i := 0) (m := mLst (mCons (mC (.int 6)) (mCons (mC (.int 6)) (mCons (mC (.int 6)) (mCons (mC (.int 1000)) (mCons (mC (.int (10 ^ 18))) (mNil))))))) rfl (evl_lst (evl_ints [6, 6, 6, 1000, 10 ^ 18] (by decide)) (by decide)) (by decide) (by decide) s hs
  -- places, at
  obtain ⟨_, s2, b1, b2, at0, rfl, t1, t2⟩ := evp_draw (P := fun _ => True) (env := [.sh .box, .sh (.int sz), .un, .un, .un]) (i := 0) (many := 10 ^ 17) rfl (evp_pick (P := fun d => ∃ k, d = .int k ∧ 0 < k ∧ k < 2 ^ 64 ∧ k ≤ 10 ^ 17) (i := 0) (m := mLst (mCons (mC (.int 2)) (mCons (mC (.int 9)) (mCons (mC (.int (10 ^ 17))) (mNil))))) rfl (evl_lst (evl_ints [2, 9, 10 ^ 17] (by decide)) (by decide)) (by decide) (by decide)) s1 a2
  -- how many
  have cnt : EvP (fun d => ∃ k, d = .int k ∧ 0 ≤ k ∧ k < 200) (mFn f_law_pick (mCons (mVar 0) (mCons (mOf (mLst (mCons (mC (.int 0)) (mCons (mC (.int 1)) (mCons (mC (.int 2)) (mCons (mC (.int 5)) (mCons (mC (.int 9)) (mCons (mFn f_law_draw (mCons (mVar 0) (mCons (mC (.int 200)) (mNil)))) (mNil))))))))) (mNil)))) [.sh .box, .sh (.int sz), .un, .ow [], .sh (.int at0)] :=
    evp_pick rfl (evl_lst (evl_cons (evp_pure (x := .int 0) (fun s => rfl) ⟨0, rfl, by decide, by decide⟩) (evl_cons (evp_pure (x := .int 1) (fun s => rfl) ⟨1, rfl, by decide, by decide⟩) (evl_cons (evp_pure (x := .int 2) (fun s => rfl) ⟨2, rfl, by decide, by decide⟩) (evl_cons (evp_pure (x := .int 5) (fun s => rfl) ⟨5, rfl, by decide, by decide⟩) (evl_cons (evp_pure (x := .int 9) (fun s => rfl) ⟨9, rfl, by decide, by decide⟩) (evl_cons (evp_draw (P := fun _ => True) rfl (evp_pure (x := .int 200) (fun s => rfl) ⟨200, rfl, by decide, by decide, Int.le_refl _⟩)) evl_nil)))))) (by decide)) (by decide) (by decide)
  obtain ⟨_, s3, c1, c2, n, rfl, n1, n2⟩ := cnt s2 b2
  obtain ⟨m, rfl⟩ := Int.eq_ofNat_of_zero_le n1
  obtain ⟨x', ps', at', s4, l1, l2, l3, l4, l5⟩ := dloop (numbers m) s3 (.sh (.int sz)) .un [] at0 c2 rfl (fun p h => by cases h) t1 (by simpa using t2) (by unfold numbers; rw [List.length_map, List.length_range]; simp; omega)
  have rng : mItA rangeO (mCons (mFn f_law_pick (mCons (mVar 0) (mCons (mOf (mLst (mCons (mC (.int 0)) (mCons (mC (.int 1)) (mCons (mC (.int 2)) (mCons (mC (.int 5)) (mCons (mC (.int 9)) (mCons (mFn f_law_draw (mCons (mVar 0) (mCons (mC (.int 200)) (mNil)))) (mNil))))))))) (mNil)))) (mNil)) [.sh .box, .sh (.int sz), .un, .ow [], .sh (.int at0)] s2 = .ok (numbers m) s3 := by
    refine ev_itA (xs := [.int (m : Int)]) (ev_cons c1 rfl) ?_
    show (if (m : Int) ≤ 1000000 ∧ -1000000 ≤ (m : Int) then some (numbers (m : Int).toNat) else none) = _
    rw [if_pos ⟨by omega, by omega⟩, Int.toNat_natCast]
  obtain ⟨_, s5, e1, e2, k, rfl, k1, k2⟩ := evp_draw (P := fun _ => True) (env := [.sh .box, .sh (.int sz), x', .sh (.lst (ps'.map .int)), .sh (.int at')]) (i := 0) (a := mVar 1) (many := 10 ^ 18) rfl (evp_pure (x := .int sz) (fun s => rfl) ⟨sz, rfl, z1, by omega, z2⟩) s4 l2
  refine ⟨dD (k, ps'), s5, df_rt rfl (st_seq (st_asg a1) (st_seq (st_parO (l := []) (s1 := s1) rfl b1) (st_seq (st_for rng l1) (st_seq (st_share rfl) (st_seqR (st_ret (ev_tup (ev_cons e1 (ev_cons (ev_call (l := [.lst (ps'.map .int)]) (s1 := s5) rfl rfl) rfl)) two_small))))))), e2, (k, ps'), rfl, ⟨k1, Int.lt_trans k2 (by decide), l4, l3, l5⟩⟩
/-! ### bad deeds -/
def PB (d : D) : Prop := fit d = true ∧ told d = false
theorem told2 (a : D) (l : List D) : told (.tup [a, .tup l]) = (isNumD a && (l.all isNumD && incr (intsD l))) := rfl
theorem fit2 {a : D} {l : List D} (ha : nb a = true) (h1 : seqD a = none) (hl : l.all nb = true) (hn : l.length ≤ 1000000) : fit (.tup [a, .tup l]) = true := by
  show (true && ([a, D.tup l].all fun x => nb x && (match seqD x with | some k => k.all nb && decide (k.length ≤ 1000000) | none => true))) = true
  rw [Bool.true_and, List.all_cons, List.all_cons, ha, h1]
  show (true && true && (true && (l.all nb && decide (l.length ≤ 1000000)) && true)) = true
  rw [hl, decide_eq_true hn]; rfl
theorem all_app {p : D → Bool} {a b : List D} (ha : a.all p = true) (hb : b.all p = true) : (a ++ b).all p = true := by rw [List.all_append, ha, hb]; rfl
theorem drop_last {α : Type} {l : List α} (h : l ≠ []) : l.drop (l.length - 1) = [l.getLast h] := by
  have pos : 0 < l.length := List.length_pos_iff.mpr h
  rw [List.drop_eq_getElem_cons (by omega), List.getLast_eq_getElem, List.drop_of_length_le (by omega)]
theorem cut_last (l : List D) : cutD l (some (-1)) none = l.drop (l.length - 1) := by
  unfold cutD
  have e : HT.sIx l.length 0 (some (-1)) = l.length - 1 := by
    show (if (-1 : Int) < 0 then ((-1 : Int) + (l.length : Int)).toNat else min (-1 : Int).toNat l.length) = _
    rw [if_pos (by decide)]; omega
  rw [e, HT.sIx_none, List.take_of_length_le (by rw [List.length_drop]; omega)]
theorem cut_init (l : List D) : cutD l none (some (-1)) = l.take (l.length - 1) := by
  unfold cutD
  have e : HT.sIx l.length l.length (some (-1)) = l.length - 1 := by
    show (if (-1 : Int) < 0 then ((-1 : Int) + (l.length : Int)).toNat else min (-1 : Int).toNat l.length) = _
    rw [if_pos (by decide)]; omega
  rw [e, HT.sIx_none, List.drop_zero, Nat.sub_zero]
theorem toPs_ints : ∀ l : List Int, toP.toPs (l.map D.int) = some (l.map PyData.int)
  | [] => rfl
  | x :: r => by rw [List.map_cons]; show (some (PyData.int x)).bind (fun p => (toP.toPs (r.map D.int)).map fun q => p :: q) = _; rw [toPs_ints r]; rfl
theorem ne_nil (ps : List Int) : neO (.tup (ps.map .int)) (.tup []) = some (.bl (!decide (ps = []))) := by
  have e : eqD (.tup (ps.map .int)) (.tup []) = some (decide (ps = [])) := by
    show ((toP.toPs (ps.map D.int)).map PyData.tuple).bind (fun p => (some (PyData.tuple [])).bind fun q => if min p.depth q.depth ≤ 64 then some (PyData.eqv p q) else none) = _
    rw [toPs_ints]
    show (if min (PyData.tuple (ps.map PyData.int)).depth (PyData.tuple []).depth ≤ 64 then some (PyData.eqv (.tuple (ps.map PyData.int)) (.tuple [])) else none) = _
    rw [if_pos (Nat.le_trans (Nat.min_le_right _ _) (by decide))]
    cases ps <;> rfl
  unfold neO; rw [e]; rfl
theorem evl_pures {P : D → Prop} {env : En} : EvL P 0 mNil env := evl_nil
theorem tup_ok {m : MA} {env : En} {s : BoxSt} {l : List D} (h : m env s = .ok l s) (hl : l.length ≤ 1000000) : mTup m env s = .ok (.tup l) s := ev_tup h hl
theorem addT {a b : List D} (h : a.length + b.length ≤ 1000000) : addO (.tup a) (.tup b) = some (.tup (a ++ b)) := by
  show (if a.length + b.length ≤ 1000000 then some (D.tup (a ++ b)) else none) = _
  rw [if_pos h]
theorem strO_txt {k : Int} (h0 : 0 ≤ k) (h1 : k < 10 ^ 40) : strO [.int k] = some (.str (txt k)) := by
  show (if k.natAbs.log2 < 1920 then some (D.str (txt k)) else none) = _
  rw [if_pos (log_small h0 h1)]
theorem bad_deed_ok {kp : Int × List Int} (h : okDeed kp) {s : BoxSt} (hs : okS s = true) : ∃ d s', f_law_bad_deed [.box, dD kp] s = .ok d s' ∧ okS s' = true ∧ PB d := by
  obtain ⟨k, ps⟩ := kp
  obtain ⟨h1, h2, h3, h4, h5⟩ := h
  have h1 : 0 ≤ k := h1
  have h2 : k < 10 ^ 40 := h2
  have h3 : ∀ p ∈ ps, 0 ≤ p ∧ p < 10 ^ 40 := h3
  have h4 : incr ps = true := h4
  have h5 : ps.length ≤ 400 := h5
  have pl : (ps.map D.int).length = ps.length := List.length_map _
  have nbp : (ps.map D.int).all nb = true := List.all_eq_true.mpr (nb_ints ps)
  have fk : ∀ l : List D, l.all nb = true → l.length ≤ 1000000 → fit (.tup [.int k, .tup l]) = true := fun l a b => fit2 rfl rfl a b
  have e1 : EvL PB 15 (mLst (mCons (mC .non) (mCons (mC (.int 3)) (mCons (mC (.str ("ask" : PySem.Str))) (mCons (mVar 3) (mCons (mTup (mCons (mVar 3) (mNil))) (mCons (mTup (mCons (mVar 3) (mCons (mVar 4) (mCons (mC (.int 0)) (mNil))))) (mCons (mTup (mCons (mVar 4) (mCons (mVar 3) (mNil)))) (mCons (mTup (mCons (m1 negI (mC (.int 1))) (mCons (mVar 4) (mNil)))) (mCons (mTup (mCons (mC (.bl true)) (mCons (mVar 4) (mNil)))) (mCons (mTup (mCons (mC .non) (mCons (mVar 4) (mNil)))) (mCons (mTup (mCons (mCall strO (mCons (mVar 3) (mNil))) (mCons (mVar 4) (mNil)))) (mCons (mTup (mCons (mVar 3) (mCons (mC .non) (mNil)))) (mCons (mTup (mCons (mVar 3) (mCons (mC (.int 0)) (mNil)))) (mCons (mTup (mCons (mVar 3) (mCons (mC (.str ("0" : PySem.Str))) (mNil)))) (mCons (mTup (mNil)) (mNil)))))))))))))))))
      [.sh .box, .sh (dD (k, ps)), .un, .sh (.int k), .sh (.tup (ps.map .int))] := evl_lst
    (evl_cons (evp_pure (x := .non) (fun s => rfl) ⟨rfl, rfl⟩)
    (evl_cons (evp_pure (x := .int 3) (fun s => rfl) ⟨rfl, rfl⟩)
    (evl_cons (evp_pure (x := .str ("ask" : Str)) (fun s => rfl) ⟨rfl, rfl⟩)
    (evl_cons (evp_pure (x := .int k) (fun s => rfl) ⟨rfl, rfl⟩)
    (evl_cons (evp_pure (x := .tup [.int k]) (fun s => rfl) ⟨rfl, rfl⟩)
    (evl_cons (evp_pure (x := .tup [.int k, .tup (ps.map .int), .int 0]) (fun s => rfl) ⟨by
      show (true && ([D.int k, D.tup (ps.map .int), D.int 0].all fun x => nb x && (match seqD x with | some k => k.all nb && decide (k.length ≤ 1000000) | none => true))) = true
      rw [Bool.true_and, List.all_cons, List.all_cons, List.all_cons]
      show (true && ((true && ((ps.map D.int).all nb && decide ((ps.map D.int).length ≤ 1000000))) && (true && true))) = true
      rw [nbp, decide_eq_true (by omega)]; rfl, rfl⟩)
    (evl_cons (evp_pure (x := .tup [.tup (ps.map .int), .int k]) (fun s => rfl) ⟨by
      show (true && ([D.tup (ps.map .int), D.int k].all fun x => nb x && (match seqD x with | some k => k.all nb && decide (k.length ≤ 1000000) | none => true))) = true
      rw [Bool.true_and, List.all_cons, List.all_cons]
      show ((true && ((ps.map D.int).all nb && decide ((ps.map D.int).length ≤ 1000000))) && (true && true)) = true
      rw [nbp, decide_eq_true (by omega)]; rfl, rfl⟩)
    (evl_cons (evp_pure (x := .tup [.int (-1), .tup (ps.map .int)]) (fun s => rfl) ⟨fit2 rfl rfl nbp (by omega), rfl⟩)
    (evl_cons (evp_pure (x := .tup [.bl true, .tup (ps.map .int)]) (fun s => rfl) ⟨fit2 rfl rfl nbp (by omega), rfl⟩)
    (evl_cons (evp_pure (x := .tup [.non, .tup (ps.map .int)]) (fun s => rfl) ⟨fit2 rfl rfl nbp (by omega), rfl⟩)
    (evl_cons (evp_pure (x := .tup [.str (txt k), .tup (ps.map .int)]) (fun s => ev_tup (ev_cons (ev_call (l := [.int k]) (s1 := s) rfl (strO_txt h1 h2)) rfl) two_small) ⟨fit2 rfl rfl nbp (by omega), rfl⟩)
    (evl_cons (evp_pure (x := .tup [.int k, .non]) (fun s => rfl) ⟨rfl, by show (isNumD (.int k) && false) = false; rw [Bool.and_false]⟩)
    (evl_cons (evp_pure (x := .tup [.int k, .int 0]) (fun s => rfl) ⟨rfl, by show (isNumD (.int k) && false) = false; rw [Bool.and_false]⟩)
    (evl_cons (evp_pure (x := .tup [.int k, .str ("0" : Str)]) (fun s => rfl) ⟨rfl, by show (isNumD (.int k) && false) = false; rw [Bool.and_false]⟩)
    (evl_cons (evp_pure (x := .tup []) (fun s => rfl) ⟨rfl, rfl⟩)
    evl_nil))))))))))))))) (by decide)
  have nk : ∀ l : List D, l.all isNumD = false ∨ incr (intsD l) = false → told (.tup [.int k, .tup l]) = false := fun l hh => by
    rw [told2]
    rcases hh with q | q
    · rw [q]; simp
    · rw [q]; simp
  have e2 : ∀ L : List D, EvL PB 8 (mLst (mCons (mTup (mCons (mVar 3) (mCons (m2 addO (mTup (mCons (m1 negI (mC (.int 1))) (mNil))) (mVar 4)) (mNil)))) (mCons (mTup (mCons (mVar 3) (mCons (m2 addO (mVar 4) (mTup (mCons (mC .non) (mNil)))) (mNil)))) (mCons (mTup (mCons (mVar 3) (mCons (m2 addO (mTup (mCons (mC (.int 3)) (mCons (mC (.int 3)) (mNil)))) (mVar 4)) (mNil)))) (mCons (mTup (mCons (mVar 3) (mCons (mTup (mCons (mC (.int 0)) (mCons (mC (.bl false)) (mNil)))) (mNil)))) (mCons (mTup (mCons (mVar 3) (mCons (mTup (mCons (mC (.int 2)) (mCons (mC (.int 1)) (mNil)))) (mNil)))) (mCons (mTup (mCons (mVar 3) (mCons (mTup (mCons (mC (.bl true)) (mNil))) (mNil)))) (mCons (mTup (mCons (mVar 3) (mCons (mTup (mCons (mTup (mCons (mC (.int 0)) (mNil))) (mNil))) (mNil)))) (mCons (mTup (mCons (mVar 3) (mCons (mOf (mLst (mCons (mC (.str ("0" : PySem.Str))) (mNil)))) (mNil)))) (mNil))))))))))
      [.sh .box, .sh (dD (k, ps)), .sh (.lst L), .sh (.int k), .sh (.tup (ps.map .int))] := fun L => evl_lst
    (evl_cons (evp_pure (x := .tup [.int k, .tup ([.int (-1)] ++ ps.map .int)]) (fun s => ev_tup (ev_cons rfl (ev_cons (ev2 (s1 := s) (x := .tup [.int (-1)]) rfl rfl (addT (by rw [pl, List.length_singleton]; omega))) rfl)) two_small) ⟨fk _ (all_app rfl nbp) (by rw [List.length_append, pl, List.length_singleton]; omega), nk _ (.inl rfl)⟩)
    (evl_cons (evp_pure (x := .tup [.int k, .tup (ps.map .int ++ [.non])]) (fun s => ev_tup (ev_cons rfl (ev_cons (ev2 (s1 := s) (y := .tup [.non]) rfl rfl (addT (by rw [pl, List.length_singleton]; omega))) rfl)) two_small) ⟨fk _ (all_app nbp rfl) (by rw [List.length_append, pl, List.length_singleton]; omega), nk _ (.inl (by rw [List.all_append]; exact Bool.and_false _))⟩)
    (evl_cons (evp_pure (x := .tup [.int k, .tup ([.int 3, .int 3] ++ ps.map .int)]) (fun s => ev_tup (ev_cons rfl (ev_cons (ev2 (s1 := s) (x := .tup [.int 3, .int 3]) rfl rfl (addT (by rw [pl]; show 2 + _ ≤ _; omega))) rfl)) two_small) ⟨fk _ (all_app rfl nbp) (by rw [List.length_append, pl]; show 2 + _ ≤ _; omega), nk _ (.inr rfl)⟩)
    (evl_cons (evp_pure (x := .tup [.int k, .tup [.int 0, .bl false]]) (fun s => rfl) ⟨rfl, nk _ (.inl rfl)⟩)
    (evl_cons (evp_pure (x := .tup [.int k, .tup [.int 2, .int 1]]) (fun s => rfl) ⟨rfl, nk _ (.inr rfl)⟩)
    (evl_cons (evp_pure (x := .tup [.int k, .tup [.bl true]]) (fun s => rfl) ⟨rfl, nk _ (.inl rfl)⟩)
    (evl_cons (evp_pure (x := .tup [.int k, .tup [.tup [.int 0]]]) (fun s => rfl) ⟨rfl, nk _ (.inl rfl)⟩)
    (evl_cons (evp_pure (x := .tup [.int k, .lst [.str ("0" : Str)]]) (fun s => rfl) ⟨rfl, by show (isNumD (.int k) && (false && _)) = false; rw [Bool.false_and, Bool.and_false]⟩)
    evl_nil)))))))) (by decide)
  obtain ⟨L1, s1, g1, g2, g3, g4⟩ := e1 s hs
  obtain ⟨L2, s2, f1, f2, f3, f4⟩ := evl_cat (n := 15) (k := 8) (P := PB) (x := mVar 2) (env := [.sh .box, .sh (dD (k, ps)), .sh (.lst L1), .sh (.int k), .sh (.tup (ps.map .int))]) (evp_pure (x := .lst L1) (fun s => rfl) ⟨L1, rfl, g3, g4⟩) (evp_of (e2 L1)) (by decide) s1 g2
  have t : mTest (m2 neO (mVar 4) (mTup (mNil))) [.sh .box, .sh (dD (k, ps)), .sh (.lst L2), .sh (.int k), .sh (.tup (ps.map .int))] s2 = .ok (!decide (ps = [])) s2 := ev_test (ev2 (s1 := s2) (y := .tup []) rfl rfl (ne_nil ps))
  have fin : ∀ (L : List D) (s : BoxSt), okS s = true → L ≠ [] → L.length ≤ 100 → (∀ z ∈ L, PB z) → ∃ d s', outD (mSeq (mRet (mFn f_law_pick (mCons (mVar 0) (mCons (mVar 2) (mNil))))) (mNext) [.sh .box, .sh (dD (k, ps)), .sh (.lst L), .sh (.int k), .sh (.tup (ps.map .int))] s) = .ok d s' ∧ okS s' = true ∧ PB d := fun L s hs h1 h2 h3 => by
    obtain ⟨d, s', q1, q2, q3⟩ := pick_ok hs h1 (by omega)
    exact ⟨d, s', out_of (st_seqR (st_ret (ev_fn (l := [.box, .lst L]) (s1 := s) rfl q2))) rfl, q3, h3 d q1⟩
  by_cases hp : ps = []
  · rw [decide_eq_true hp] at t
    obtain ⟨d, s', q1, q2, q3⟩ := fin L2 s2 f2 (fun z => by rw [z] at f3; simp at f3) (by omega) f4
    exact ⟨d, s', df_rt_or rfl (st_seq (st_asgG (s1 := s) rfl rfl) (st_seq (st_asg (ev_of g1)) (st_seq (st_asg (ev_of f1)) (st_seq (env' := [.sh .box, .sh (dD (k, ps)), .sh (.lst L2), .sh (.int k), .sh (.tup (ps.map .int))]) (s1 := s2) (st_ifF t rfl) rfl)))) q1, q2, q3⟩
  · rw [decide_eq_false hp] at t
    have lastOk := h3 (ps.getLast hp) (List.getLast_mem hp)
    have pos : 0 < ps.length := List.length_pos_iff.mpr hp
    have dropE : (ps.map D.int).drop ((ps.map D.int).length - 1) = [.int (ps.getLast hp)] := by
      rw [pl, ← List.map_drop, drop_last hp]; rfl
    have badI : ∀ x : Int, x ≤ ps.getLast hp → incr (intsD (ps.map D.int ++ [.int x])) = false := fun x hx => by
      have e : ps.map D.int ++ [.int x] = (ps ++ [x]).map D.int := by rw [List.map_append]; rfl
      rw [e, intsD_map]
      cases q : incr (ps ++ [x]) with
      | false => rfl
      | true =>
        have e : ps ++ [x] = ps.dropLast ++ [ps.getLast hp, x] := by
          conv => lhs; rw [← List.dropLast_concat_getLast hp]
          simp
        rw [e] at q
        have := incr_snoc _ _ _ q
        omega
    have lastD : ∀ (L : List D) s, m2 ixO (mVar 4) (m1 negI (mC (.int 1))) [.sh .box, .sh (dD (k, ps)), .sh (.lst L), .sh (.int k), .sh (.tup (ps.map .int))] s = .ok (.int (ps.getLast hp)) s := fun L s => by
      refine ev2 (s1 := s) (x := .tup (ps.map .int)) (y := .int (-1)) rfl rfl ?_
      show _root_.L2.atI (ps.map D.int) (-1) = _
      unfold _root_.L2.atI _root_.L2.ixN
      rw [if_neg (by decide), if_pos (by rw [pl]; omega)]
      show (ps.map D.int)[((-1 : Int) + (((ps.map D.int).length : Nat) : Int)).toNat]? = _
      rw [pl, List.getElem?_map, show ((-1 : Int) + ((ps.length : Nat) : Int)).toNat = ps.length - 1 by omega, List.getElem?_eq_getElem (by omega), List.getLast_eq_getElem]
      rfl
    have sl1 : ∀ (L : List D) s, mSl (mVar 4) (mSomeO (m1 negI (mC (.int 1)))) (mNoO) [.sh .box, .sh (dD (k, ps)), .sh (.lst L), .sh (.int k), .sh (.tup (ps.map .int))] s = .ok (.tup [.int (ps.getLast hp)]) s := fun L s => ev_sl (x := .tup (ps.map .int)) (p := some (-1)) (q := none) (s3 := s) rfl rfl rfl (by
      show some (D.tup (cutD _ (some (-1)) none)) = _
      rw [cut_last, dropE])
    have sl2 : ∀ (L : List D) s, mSl (mVar 4) (mNoO) (mSomeO (mC (.int 1))) [.sh .box, .sh (dD (k, ps)), .sh (.lst L), .sh (.int k), .sh (.tup (ps.map .int))] s = .ok (.tup ((ps.map .int).take 1)) s := fun L s => ev_sl (x := .tup (ps.map .int)) (p := none) (q := some ((1 : Nat) : Int)) (s3 := s) rfl rfl rfl (by
      show some (D.tup (cutD _ none (some ((1 : Nat) : Int)))) = _
      rw [cut_to])
    have sl3 : ∀ (L : List D) s, mSl (mVar 4) (mNoO) (mSomeO (m1 negI (mC (.int 1)))) [.sh .box, .sh (dD (k, ps)), .sh (.lst L), .sh (.int k), .sh (.tup (ps.map .int))] s = .ok (.tup ((ps.map .int).take ((ps.map D.int).length - 1))) s := fun L s => ev_sl (x := .tup (ps.map .int)) (p := none) (q := some (-1)) (s3 := s) rfl rfl rfl (by
      show some (D.tup (cutD _ none (some (-1)))) = _
      rw [cut_init])
    have nbt : ∀ i, ((ps.map D.int).take i).all nb = true := fun i => List.all_eq_true.mpr fun x hx => nb_ints ps x (List.mem_of_mem_take hx)
    have ltk : ∀ i, ((ps.map D.int).take i).length ≤ 400 := fun i => by rw [List.length_take, pl]; omega
    have e3 : EvL PB 4 (mLst (mCons (mTup (mCons (mVar 3) (mCons (m2 addO (mVar 4) (mSl (mVar 4) (mSomeO (m1 negI (mC (.int 1)))) (mNoO))) (mNil)))) (mCons (mTup (mCons (mVar 3) (mCons (m2 addO (mSl (mVar 4) (mNoO) (mSomeO (mC (.int 1)))) (mVar 4)) (mNil)))) (mCons (mTup (mCons (mVar 3) (mCons (m2 addO (mVar 4) (mTup (mCons (mC (.int 0)) (mNil)))) (mNil)))) (mCons (mTup (mCons (mVar 3) (mCons (m2 addO (mSl (mVar 4) (mNoO) (mSomeO (m1 negI (mC (.int 1))))) (mTup (mCons (mCall strO (mCons (m2 ixO (mVar 4) (m1 negI (mC (.int 1)))) (mNil))) (mNil)))) (mNil)))) (mNil))))))
        [.sh .box, .sh (dD (k, ps)), .sh (.lst L2), .sh (.int k), .sh (.tup (ps.map .int))] := evl_lst
      (evl_cons (evp_pure (x := .tup [.int k, .tup (ps.map .int ++ [.int (ps.getLast hp)])]) (fun s => ev_tup (ev_cons rfl (ev_cons (ev2 (s1 := s) rfl (sl1 L2 s) (addT (by rw [pl, List.length_singleton]; omega))) rfl)) two_small) ⟨fk _ (all_app nbp rfl) (by rw [List.length_append, pl, List.length_singleton]; omega), nk _ (.inr (badI _ (Int.le_refl _)))⟩)
      (evl_cons (evp_pure (x := .tup [.int k, .tup ((ps.map .int).take 1 ++ ps.map .int)]) (fun s => ev_tup (ev_cons rfl (ev_cons (ev2 (s1 := s) (sl2 L2 s) rfl (addT (by rw [pl]; have := ltk 1; omega))) rfl)) two_small) ⟨fk _ (all_app (nbt 1) nbp) (by rw [List.length_append, pl]; have := ltk 1; omega), nk _ (.inr (by
        cases ps with
        | nil => exact absurd rfl hp
        | cons a r =>
          show (decide (a < a) && _) = false
          rw [decide_eq_false (by omega), Bool.false_and]))⟩)
      (evl_cons (evp_pure (x := .tup [.int k, .tup (ps.map .int ++ [.int 0])]) (fun s => ev_tup (ev_cons rfl (ev_cons (ev2 (s1 := s) (y := .tup [.int 0]) rfl rfl (addT (by rw [pl, List.length_singleton]; omega))) rfl)) two_small) ⟨fk _ (all_app nbp rfl) (by rw [List.length_append, pl, List.length_singleton]; omega), nk _ (.inr (badI 0 lastOk.1))⟩)
      (evl_cons (evp_pure (x := .tup [.int k, .tup ((ps.map .int).take ((ps.map D.int).length - 1) ++ [.str (txt (ps.getLast hp))])]) (fun s => ev_tup (ev_cons rfl (ev_cons (ev2 (s1 := s) (sl3 L2 s) (ev_tup (ev_cons (ev_call (ev_cons (lastD L2 s) rfl) (strO_txt lastOk.1 lastOk.2)) rfl) (Nat.le_trans (show 1 ≤ 1 from Nat.le_refl 1) (by decide))) (addT (by have := ltk ((ps.map D.int).length - 1); rw [List.length_singleton]; omega))) rfl)) two_small) ⟨fk _ (all_app (nbt _) rfl) (by rw [List.length_append, List.length_singleton]; have := ltk ((ps.map D.int).length - 1); omega), nk _ (.inl (by rw [List.all_append]; exact Bool.and_false _))⟩)
      evl_nil)))) (by decide)
    obtain ⟨L3, s3, h1', h2', h3', h4'⟩ := evl_cat (n := 23) (k := 4) (P := PB) (x := mVar 2) (env := [.sh .box, .sh (dD (k, ps)), .sh (.lst L2), .sh (.int k), .sh (.tup (ps.map .int))]) (evp_pure (x := .lst L2) (fun s => rfl) ⟨L2, rfl, f3, f4⟩) (evp_of e3) (by decide) s2 f2
    obtain ⟨d, s', q1, q2, q3⟩ := fin L3 s3 h2' (fun z => by rw [z] at h3'; simp at h3') (by omega) h4'
    exact ⟨d, s', df_rt_or rfl (st_seq (st_asgG (s1 := s) rfl rfl) (st_seq (st_asg (ev_of g1)) (st_seq (st_asg (ev_of f1)) (st_seq (env' := [.sh .box, .sh (dD (k, ps)), .sh (.lst L3), .sh (.int k), .sh (.tup (ps.map .int))]) (s1 := s3) (st_ifT t (st_seq (st_asg (ev_of h1')) rfl)) rfl)))) q1, q2, q3⟩
end Kn

end

section
set_option Elab.async false
set_option linter.all false
set_option maxRecDepth 100000
set_option maxHeartbeats 4000000
/-! Pl11: the law. -/
namespace Kn
open PySem TL
theorem okDeed.l400 {kp : Int × List Int} (h : okDeed kp) : kp.2.length ≤ 400 := h.2.2.2.2
theorem law_rows_ok {cs : List (Int × List Int)} (C : Cs cs) {s : BoxSt} : f_law_rows [.lst (cs.map dD)] s = .ok (.lst ((cs.map rowD).map .str)) s := by
  have cl := C.len
  refine df_rt rfl (st_seqR (st_ret (ev_of (ev_lcg (ds := cs.map dD) (f := rowF) (s1 := s) rfl (by rw [List.length_map]; omega) (fun x hx => ?_) ?_))))
  · obtain ⟨kp, hk, rfl⟩ := List.mem_map.mp hx
    have ok := C.ok kp hk
    have e : rowF (dD kp) = .str (rowD kp) := by
      show D.str (rowD (kp.1, intsD (kp.2.map D.int))) = _
      rw [intsD_map]
    rw [e]
    refine ⟨_, rfl, ev_fn (l := [.str askS, .tup ((kp.1 :: kp.2).map .int)]) (s1 := s) (ev_cons rfl (ev_cons (ev2 (s1 := s) (x := .tup [.int kp.1]) (y := .tup (kp.2.map .int)) rfl rfl (addT ?_)) rfl)) ?_⟩
    · rw [List.length_map, List.length_singleton]; have := ok.l400; omega
    · exact row_ok ok rfl
  · rw [List.map_map, List.map_map]
    refine List.map_congr_left fun kp _ => ?_
    show D.str (rowD (kp.1, intsD (kp.2.map D.int))) = _
    rw [intsD_map]; rfl
def hD (kp : Int × List Int) : D := .lst [.int kp.1, .lst (kp.2.map .int)]
theorem course_of {f : (Int × List Int) → D} (hf : ∀ kp, IsDeed (f kp) kp.1 kp.2) : ∀ {cs : List (Int × List Int)}, (∀ kp ∈ cs, okDeed kp) → Course (cs.map f) cs
  | [], _ => trivial
  | kp :: t, h => ⟨hf kp, h kp List.mem_cons_self, course_of hf fun x hx => h x (List.mem_cons_of_mem _ hx)⟩
theorem isDeed_hD (kp : Int × List Int) : IsDeed (hD kp) kp.1 kp.2 := ⟨.lst (kp.2.map .int), rfl, rfl⟩
/-- the same nested lists are equal -/
theorem toPs_h : ∀ cs : List (Int × List Int), ∃ ps, toP.toPs (cs.map hD) = some ps ∧ PyData.depthAll ps ≤ 10
  | [] => ⟨[], rfl, by decide⟩
  | kp :: t => by
    obtain ⟨ps, h1, h2⟩ := toPs_h t
    have d0 : ∀ l : List Int, PyData.depthAll (l.map PyData.int) ≤ 0 := by
      intro l
      induction l with
      | nil => exact Nat.le_refl _
      | cons x r ih => rw [List.map_cons]; show max (PyData.int x).depth (PyData.depthAll (r.map PyData.int)) ≤ 0; rw [show (PyData.int x).depth = 0 from rfl]; omega
    refine ⟨.list [.int kp.1, .list (kp.2.map .int)] :: ps, ?_, ?_⟩
    · have e : toP (hD kp) = some (.list [.int kp.1, .list (kp.2.map .int)]) := by
        show (((some (PyData.int kp.1)).bind fun p => (((toP.toPs (kp.2.map D.int)).map PyData.list).bind fun q => (some []).map fun r => q :: r).map fun q => p :: q)).map PyData.list = _
        rw [toPs_ints]; rfl
      rw [List.map_cons]
      show (toP (hD kp)).bind (fun p => (toP.toPs (t.map hD)).map fun q => p :: q) = _
      rw [e, h1]; rfl
    · show max (PyData.list [.int kp.1, .list (kp.2.map .int)]).depth (PyData.depthAll ps) ≤ 10
      have e : (PyData.list [.int kp.1, .list (kp.2.map .int)]).depth ≤ 5 := by
        show max 0 (max (PyData.depthAll (kp.2.map PyData.int) + 1) 0) + 1 ≤ 5
        have := d0 kp.2
        omega
      omega
theorem ne_self (cs : List (Int × List Int)) : neO (.lst (cs.map hD)) (.lst (cs.map hD)) = some (.bl false) := by
  obtain ⟨ps, h1, h2⟩ := toPs_h cs
  have e : eqD (.lst (cs.map hD)) (.lst (cs.map hD)) = some true := by
    show ((toP.toPs (cs.map hD)).map PyData.list).bind (fun p => ((toP.toPs (cs.map hD)).map PyData.list).bind fun q => if min p.depth q.depth ≤ 64 then some (PyData.eqv p q) else none) = _
    rw [h1]
    show (if min (PyData.list ps).depth (PyData.list ps).depth ≤ 64 then some (PyData.eqv (.list ps) (.list ps)) else none) = _
    have d : (PyData.list ps).depth ≤ 11 := by show PyData.depthAll ps + 1 ≤ 11; omega
    rw [if_pos (by omega), SeqAt.eqv_refl_plain _ (plain_toP (d := .lst (cs.map hD)) (by show (toP.toPs (cs.map hD)).map PyData.list = _; rw [h1]; rfl))]
  unfold neO; rw [e]; rfl
/-- a comprehension that draws -/
theorem lc_draw {P : D → Prop} {g : MG} {a : ME} {env : En} : ∀ (ds : List D) (s : BoxSt), okS s = true → (∀ x ∈ ds, ∃ e1, g x env = some e1 ∧ EvP P a e1) → ∃ l s', lcM g mYes a env ds s = .ok l s' ∧ okS s' = true ∧ l.length = ds.length ∧ ∀ x ∈ l, P x
  | [], s, hs, _ => ⟨[], s, rfl, hs, rfl, fun x hx => by cases hx⟩
  | d :: r, s, hs, h => by
    obtain ⟨e1, h1, h2⟩ := h d List.mem_cons_self
    obtain ⟨x, s1, q1, q2, q3⟩ := h2 s hs
    obtain ⟨l, s2, g1, g2, g3, g4⟩ := lc_draw (P := P) (g := g) (a := a) r s1 q2 fun y hy => h y (List.mem_cons_of_mem _ hy)
    refine ⟨x :: l, s2, ?_, g2, by rw [List.length_cons, List.length_cons, g3], fun y hy => ?_⟩
    · unfold lcM
      simp only [h1, mYes, q1, g1]
    · rcases List.mem_cons.mp hy with e | e
      · rw [e]; exact q3
      · exact g4 y e
theorem ev_lcd {P : D → Prop} {own : List Nat} {g : MG} {mi : MA} {a : ME} {env : En} {s s1 : BoxSt} {ds : List D} (h1 : mi env s = .ok ds s1) (hs : okS s1 = true) (hl : ds.length ≤ 1000000) (h : ∀ x ∈ ds, ∃ e1, g x (wipeE env own) = some e1 ∧ EvP P a e1) : ∃ l s', mLc own g mi mYes a env s = .ok l s' ∧ okS s' = true ∧ l.length = ds.length ∧ ∀ x ∈ l, P x := by
  obtain ⟨l, s2, q1, q2, q3, q4⟩ := lc_draw ds s1 hs h
  refine ⟨l, s2, ?_, q2, q3, q4⟩
  unfold mLc; rw [h1]
  show (if ds.length ≤ 1000000 then _ else _) = _
  rw [if_pos hl, q1]
theorem deeds_of {R : Int × List Int → Prop} : ∀ (l : List D), (∀ d ∈ l, ∃ kp, d = dD kp ∧ R kp) → ∃ cs : List (Int × List Int), l = cs.map dD ∧ ∀ kp ∈ cs, R kp
  | [], _ => ⟨[], rfl, fun kp h => by cases h⟩
  | d :: r, h => by
    obtain ⟨kp, rfl, hr⟩ := h d List.mem_cons_self
    obtain ⟨cs, rfl, hc⟩ := deeds_of r fun x hx => h x (List.mem_cons_of_mem _ hx)
    refine ⟨kp :: cs, rfl, fun x hx => ?_⟩
    rcases List.mem_cons.mp hx with e | e
    · rw [e]; exact hr
    · exact hc x e
theorem row_len2 {kp : Int × List Int} (h : okDeed kp) : (rowD kp).length ≤ (kp.2.length + 2) * 41 := by
  obtain ⟨h1, h2, h3, _, h5⟩ := h
  have := sum_le (B := 40) ((askS :: (kp.1 :: kp.2).map txt).map (·.length)) (fun x hx => by
    obtain ⟨w, hw, rfl⟩ := List.mem_map.mp hx
    rcases List.mem_cons.mp hw with e | e
    · rw [e, len_tl, tl_ask]; decide
    · obtain ⟨n, hn, rfl⟩ := List.mem_map.mp e
      rcases List.mem_cons.mp hn with e | e
      · rw [e]; exact txt_len h1 h2
      · exact txt_len (h3 n e).1 (h3 n e).2)
  rw [List.length_map, List.length_cons, List.length_map, List.length_cons] at this
  unfold rowD rowT
  rw [join_eq]
  have j := StrLaws.join_length_le spS (askS :: (kp.1 :: kp.2).map txt)
  rw [len_sp, List.length_cons, List.length_map, List.length_cons] at j
  omega
theorem sums {cs : List (Int × List Int)} {B : Nat} (h : ∀ kp ∈ cs, (rowD kp).length ≤ B) : ((cs.map rowD).map (·.length)).sum ≤ cs.length * B := by
  have := sum_le (B := B) ((cs.map rowD).map (·.length)) (fun x hx => by
    obtain ⟨w, hw, rfl⟩ := List.mem_map.mp hx
    obtain ⟨kp, hk, rfl⟩ := List.mem_map.mp hw
    exact h kp hk)
  rw [List.length_map, List.length_map] at this
  exact this
/-! ### the round -/
theorem text_read {cs : List (Int × List Int)} (C : Cs cs) {s : BoxSt} : f_read_course [.str (textOf cs)] s = .ok (.tup (cs.map dD)) s := by
  have sz := C.sz
  have tl_ : (textOf cs).length ≤ 900000 := by
    refine nl_len ?_
    rw [List.length_map]; omega
  cases cs with
  | nil =>
    have e : textOf [] = ("" : Str) := by decide +kernel
    refine read_nil (rows := [("" : Str)]) ?_ tl_ rfl
    rw [e]; decide +kernel
  | cons c t =>
    have sp : Txt.split (textOf (c :: t)) nlS = (c :: t).map rowD := split_joinN (by simp) fun w hw => by
      obtain ⟨kp, hk, rfl⟩ := List.mem_map.mp hw
      exact (C.ok kp hk).rowS.n10
    have r := read_ok (s := s) sp tl_ (fun z => by
      have e : rowD c = ("" : Str) := (List.cons.inj z).1
      obtain ⟨r, q⟩ := (C.ok c List.mem_cons_self).rowS.pre
      have : tl (rowD c) = 97 :: 115 :: 107 :: r := q
      rw [e] at this
      cases this) fun j hj => by
        rw [List.length_map] at hj
        have cl := C.len
        unfold badAt
        rw [List.getElem?_map, List.getElem?_eq_getElem hj]
        show (decide (j = 400) || (tellRow (rowD (c :: t)[j])).isNone) = false
        rw [tell_good (C.ok _ (List.getElem_mem hj)), decide_eq_false (by omega)]; rfl
    rw [r, List.map_map]
    congr 2
    refine List.map_congr_left fun kp hk => ?_
    show deedD (rowD kp) = dD kp
    unfold deedD
    rw [tell_good (C.ok kp hk)]; rfl
theorem written_ok {cs : List (Int × List Int)} (C : Cs cs) {d : D} {f : (Int × List Int) → D} (hf : ∀ kp, IsDeed (f kp) kp.1 kp.2) (hd : seqD d = some (cs.map f)) {s : BoxSt} : f_course_text [d] s = .ok (.str (textOf cs)) s :=
  course_ok hd (course_of hf C.ok) C.len (by have := C.sz; omega)
theorem okD_course {cs : List (Int × List Int)} (C : Cs cs) : okD 7 (.tup [.str readS, .tup (cs.map dD)]) = true := by
  have cl := C.len
  show (decide (2 ≤ 900000) && ([D.str readS, D.tup (cs.map dD)].all (okD 6))) = true
  rw [decide_eq_true (by decide), Bool.true_and, List.all_cons, List.all_cons]
  show (true && ((decide ((cs.map dD).length ≤ 900000) && (cs.map dD).all (okD 5)) && true)) = true
  rw [List.length_map, decide_eq_true (by omega), List.all_eq_true.mpr (fun x hx => by obtain ⟨kp, hk, rfl⟩ := List.mem_map.mp hx; exact okD_deed (C.ok kp hk))]
  rfl
end Kn

end

section
set_option Elab.async false
set_option linter.all false
set_option maxRecDepth 100000
set_option maxHeartbeats 4000000
/-! Pl12: the law, from the box on. -/
namespace Kn
open PySem TL
def LD2 : MS := mIfS (mTest (m2 eqO (mFn f_law_draw (mCons (mVar 1) (mCons (mC (.int 8)) (mNil)))) (mC (.int 0)))) (mSeq (mAsgO 3 (mLc [5] (gN 5) (mItA rangeO (mCons (mFn f_law_pick (mCons (mVar 1) (mCons (mOf (mLst (mCons (mC (.int 399)) (mCons (mC (.int 400)) (mNil))))) (mNil)))) (mNil))) (mYes) (mTup (mCons (mFn f_law_draw (mCons (mVar 1) (mCons (mC (.int 6)) (mNil)))) (mCons (m1 tupR1 (mFn f_law_draw (mCons (mVar 1) (mCons (mC (.int 3)) (mNil))))) (mNil)))))) (mNext)) (mNext)
theorem cs_small {cs : List (Int × List Int)} {n B : Nat} (h : ∀ kp ∈ cs, okDeed kp ∧ (rowD kp).length ≤ B) (hl : cs.length = n) (hn : n ≤ 400) (hb : n * B + n ≤ 640000) : Cs cs := by
  have s := sums (B := B) fun kp hk => (h kp hk).2
  rw [hl] at s
  exact ⟨fun kp hk => (h kp hk).1, by omega, by omega⟩
theorem range_ok {env : En} {s s1 : BoxSt} {a : ME} {n : Nat} (h : a env s = .ok (.int (n : Int)) s1) (hn : n ≤ 1000000) : mItA rangeO (mCons a (mNil)) env s = .ok (numbers n) s1 := by
  refine ev_itA (xs := [.int (n : Int)]) (ev_cons h rfl) ?_
  show (if (n : Int) ≤ 1000000 ∧ -1000000 ≤ (n : Int) then some (numbers (n : Int).toNat) else none) = _
  rw [if_pos ⟨by omega, by omega⟩, Int.toNat_natCast]
theorem numbers_len (n : Nat) : (numbers n).length = n := by unfold numbers; rw [List.length_map, List.length_range]
theorem evp_nat {l : List Nat} {env : En} : EvL (fun d => ∃ k : Nat, d = .int (k : Int) ∧ k ∈ l) l.length (l.foldr (fun (k : Nat) m => mCons (mC (.int (k : Int))) m) mNil) env := by
  have : ∀ (r : List Nat), (∀ k ∈ r, k ∈ l) → EvL (fun d => ∃ k : Nat, d = .int (k : Int) ∧ k ∈ l) r.length (r.foldr (fun (k : Nat) m => mCons (mC (.int (k : Int))) m) mNil) env := by
    intro r
    induction r with
    | nil => intro _; exact evl_nil
    | cons k r ih => intro h; exact evl_cons (evp_pure (x := .int (k : Int)) (fun s => rfl) ⟨k, rfl, h k List.mem_cons_self⟩) (ih fun x hx => h x (List.mem_cons_of_mem _ hx))
  exact this l fun _ h => h
theorem law_deeds {S0 : Sl} {s : BoxSt} (hs : okS s = true) : ∃ (n : Nat) (cs : List (Int × List Int)) (s' : BoxSt), Cs cs ∧ okS s' = true ∧ ∀ (R : MS) (r : SR), R [S0, .sh .box, .sh (.int (n : Int)), .ow (cs.map dD), .un, .un, .un, .un, .un, .un, .un, .un, .un] s' = r →
    mSeq (mAsg 2 (mFn f_law_pick (mCons (mVar 1) (mCons (mOf (mLst (mCons (mC (.int 0)) (mCons (mC (.int 1)) (mCons (mC (.int 2)) (mCons (mC (.int 3)) (mCons (mC (.int 9)) (mCons (mC (.int 9)) (mCons (mC (.int 30)) (mNil)))))))))) (mNil))))) (mSeq (mAsgO 3 (mLc [5] (gN 5) (mItA rangeO (mCons (mVar 2) (mNil))) (mYes) (mFn f_law_deed (mCons (mVar 1) (mNil))))) (mSeq LD2 R)) [S0, .sh .box, .un, .un, .un, .un, .un, .un, .un, .un, .un, .un, .un] s = r := by
  obtain ⟨_, s1, a1, a2, n, rfl, hn⟩ := evp_pick (P := fun d => ∃ k : Nat, d = .int (k : Int) ∧ k ∈ [0, 1, 2, 3, 9, 9, 30]) (env := [S0, .sh .box, .un, .un, .un, .un, .un, .un, .un, .un, .un, .un, .un]) (i := 1) (m := mLst (mCons (mC (.int 0)) (mCons (mC (.int 1)) (mCons (mC (.int 2)) (mCons (mC (.int 3)) (mCons (mC (.int 9)) (mCons (mC (.int 9)) (mCons (mC (.int 30)) (mNil))))))))) rfl (evl_lst (evp_nat (l := [0, 1, 2, 3, 9, 9, 30])) (by decide)) (by decide) (by decide) s hs
  have n30 : n ≤ 30 := by
    have h : ∀ k ∈ [0, 1, 2, 3, 9, 9, 30], k ≤ 30 := by decide
    exact h n hn
  obtain ⟨l, s2, b1, b2, b3, b4⟩ := ev_lcd (P := PD) (own := [5]) (g := gN 5) (mi := mItA rangeO (mCons (mVar 2) (mNil))) (a := mFn f_law_deed (mCons (mVar 1) (mNil))) (env := [S0, .sh .box, .sh (.int (n : Int)), .un, .un, .un, .un, .un, .un, .un, .un, .un, .un]) (s := s1) (s1 := s1) (ds := numbers n) (range_ok rfl (by omega)) a2 (by rw [numbers_len]; omega) (fun x hx => ⟨_, rfl, fun s hs => by
    obtain ⟨d, s', q1, q2, q3⟩ := law_deed_ok hs
    exact ⟨d, s', ev_fn (l := [.box]) (s1 := s) rfl q1, q2, q3⟩⟩)
  rw [numbers_len] at b3
  obtain ⟨cs, rfl, hc⟩ := deeds_of l b4
  have C1 : Cs cs := cs_small (n := n) (B := 20000) (fun kp hk => ⟨hc kp hk, row_len (hc kp hk)⟩) (by rw [List.length_map] at b3; exact b3) (by omega) (by omega)
  obtain ⟨e, s3, d1, d2, d3⟩ := draw_at (env := [S0, .sh .box, .sh (.int (n : Int)), .ow (cs.map dD), .un, .un, .un, .un, .un, .un, .un, .un, .un]) (i := 1) (a := mC (.int 8)) (many := 8) (s := s2) rfl rfl b2 (by decide) (by decide)
  by_cases h0 : e = 0
  · obtain ⟨_, s4, c1, c2, m, rfl, hm⟩ := evp_pick (P := fun d => ∃ k : Nat, d = .int (k : Int) ∧ k ∈ [399, 400]) (env := [S0, .sh .box, .sh (.int (n : Int)), .ow (cs.map dD), .un, .un, .un, .un, .un, .un, .un, .un, .un]) (i := 1) (m := mLst (mCons (mC (.int 399)) (mCons (mC (.int 400)) (mNil)))) rfl (evl_lst (evp_nat (l := [399, 400])) (by decide)) (by decide) (by decide) s3 d2
    have m400 : m ≤ 400 := by
      have h : ∀ k ∈ [399, 400], k ≤ 400 := by decide
      exact h m hm
    obtain ⟨l, s5, g1, g2, g3, g4⟩ := ev_lcd (P := fun d => ∃ kp, d = dD kp ∧ (okDeed kp ∧ kp.2.length ≤ 2)) (own := [5]) (g := gN 5) (mi := mItA rangeO (mCons (mFn f_law_pick (mCons (mVar 1) (mCons (mOf (mLst (mCons (mC (.int 399)) (mCons (mC (.int 400)) (mNil))))) (mNil)))) (mNil))) (a := mTup (mCons (mFn f_law_draw (mCons (mVar 1) (mCons (mC (.int 6)) (mNil)))) (mCons (m1 tupR1 (mFn f_law_draw (mCons (mVar 1) (mCons (mC (.int 3)) (mNil))))) (mNil)))) (env := [S0, .sh .box, .sh (.int (n : Int)), .ow (cs.map dD), .un, .un, .un, .un, .un, .un, .un, .un, .un]) (s := s3) (s1 := s4) (ds := numbers m) (range_ok c1 (by omega)) c2 (by rw [numbers_len]; omega) (fun x hx => ⟨_, rfl, fun s hs => by
      obtain ⟨k, s', q1, q2, q3⟩ := draw_at (env := [S0, .sh .box, .sh (.int (n : Int)), .ow (cs.map dD), .un, .sh x, .un, .un, .un, .un, .un, .un, .un]) (i := 1) (a := mC (.int 6)) (many := 6) (s := s) rfl rfl hs (by decide) (by decide)
      obtain ⟨j, s'', r1, r2, r3⟩ := draw_at (env := [S0, .sh .box, .sh (.int (n : Int)), .ow (cs.map dD), .un, .sh x, .un, .un, .un, .un, .un, .un, .un]) (i := 1) (a := mC (.int 3)) (many := 3) (s := s') rfl rfl q2 (by decide) (by decide)
      have tr : tupR1 (.int (j : Int)) = some (.tup (numbers j)) := by
        show (if 0 ≤ (j : Int) ∧ (j : Int) ≤ 1000000 then some (D.tup (numbers (j : Int).toNat)) else none) = _
        rw [if_pos ⟨by omega, by omega⟩, Int.toNat_natCast]
      have k0 : 0 ≤ (k : Int) ∧ (k : Int) < 10 ^ 40 := ⟨by omega, Int.lt_trans q3 (by decide)⟩
      refine ⟨.tup [.int (k : Int), .tup (numbers j)], s'', ev_tup (ev_cons q1 (ev_cons (ev1 r1 tr) rfl)) two_small, r2, ?_⟩
      rcases (show j = 0 ∨ j = 1 ∨ j = 2 by omega) with rfl | rfl | rfl
      · exact ⟨((k : Int), []), rfl, ⟨k0.1, k0.2, fun p hp => by simp at hp, rfl, Nat.zero_le _⟩, Nat.zero_le _⟩
      · exact ⟨((k : Int), [0]), rfl, ⟨k0.1, k0.2, fun p hp => by simp at hp; rw [hp]; exact ⟨by decide, by decide⟩, rfl, by show 1 ≤ 400; decide⟩, by show 1 ≤ 2; decide⟩
      · exact ⟨((k : Int), [0, 1]), rfl, ⟨k0.1, k0.2, fun p hp => by simp at hp; rcases hp with e | e <;> rw [e] <;> exact ⟨by decide, by decide⟩, rfl, by show 2 ≤ 400; decide⟩, by show 2 ≤ 2; decide⟩⟩)
    rw [numbers_len] at g3
    obtain ⟨cs2, rfl, hc2⟩ := deeds_of l g4
    have C2 : Cs cs2 := cs_small (n := m) (B := 164) (fun kp hk => ⟨(hc2 kp hk).1, by have := row_len2 (hc2 kp hk).1; have := (hc2 kp hk).2; omega⟩) (by rw [List.length_map] at g3; exact g3) m400 (by omega)
    exact ⟨n, cs2, s5, C2, g2, fun R r hR => st_seq (st_asg a1) (st_seq (st_asgO b1) (st_seq (st_ifT (ev_test (ev2 d1 rfl ((eq0 e).trans (by rw [decide_eq_true h0])))) (st_seq (st_asgO g1) rfl)) hR))⟩
  · exact ⟨n, cs, s3, C1, d2, fun R r hR => st_seq (st_asg a1) (st_seq (st_asgO b1) (st_seq (st_ifF (ev_test (ev2 d1 rfl ((eq0 e).trans (by rw [decide_eq_false h0])))) rfl) hR))⟩
/-! ### the rounds with a wrong deed -/
def LB : MS := (mSeq (mAsg 9 (mFn f_law_draw (mCons (mVar 1) (mCons (m2 addO (mCall minO (mCons (mOf (mLst (mCons (mCall lenO (mCons (mVar 3) (mNil))) (mCons (mC (.int 398)) (mNil))))) (mNil))) (mC (.int 1))) (mNil))))) (mSeq (mAsgO 10 (m2N catL (mOf (m2N catL (mOf (mCallN listO (mCons (mSl (mVar 3) (mNoO) (mSomeO (mVar 9))) (mNil)))) (mOf (mLst (mCons (mFn f_law_bad_deed (mCons (mVar 1) (mCons (mIf (mTest (m2 ltI (mVar 9) (mCall lenO (mCons (mVar 3) (mNil))))) (m2 ixO (mVar 3) (mVar 9)) (mTup (mCons (mC (.int 0)) (mCons (mTup (mCons (mC (.int 1)) (mCons (mC (.int 2)) (mNil)))) (mNil))))) (mNil)))) (mNil)))))) (mOf (mCallN listO (mCons (mSl (mVar 3) (mSomeO (m2 addO (mVar 9) (mC (.int 1)))) (mNoO)) (mNil)))))) (mSeq (mIfS (mAnd (mTest (m2 eqO (mFn f_law_draw (mCons (mVar 1) (mCons (mC (.int 2)) (mNil)))) (mC (.int 0)))) (mTest (m2 ltI (mLenO 10) (mC (.int 400))))) (mSeq (mApp 10 (mC .non)) (mNext)) (mNext)) (mSeq (mShare 10) (mSeq (mIfS (mNot (mTest (mFn (f_law_same 7) (mCons (mFn f_law_written (mCons (mFn f_law_pick (mCons (mVar 1) (mCons (mOf (mLst (mCons (mVar 10) (mCons (mCall tupleO (mCons (mVar 10) (mNil))) (mNil))))) (mNil)))) (mNil))) (mCons (mTup (mCons (mC (.str ("course" : PySem.Str))) (mCons (mVar 9) (mNil)))) (mNil)))))) (mSeq (mRet (mC (.bl false))) (mNext)) (mNext)) (mNext))))))
theorem same_course {s : BoxSt} {k : Int} : f_law_same 7 [.tup [.str courseS, .int k], .tup [.str courseS, .int k]] s = .ok (.bl true) s := same_ok 7 _ rfl
theorem min398 (n : Nat) : minO [.lst [.int (n : Int), .int 398]] = some (.int ((min n 398 : Nat) : Int)) := by
  show some (D.int (min (n : Int) 398)) = _
  rw [show min (n : Int) 398 = ((min n 398 : Nat) : Int) by omega]
theorem good_dD {cs : List (Int × List Int)} (C : Cs cs) {j : Nat} {w : D} (h : (cs.map dD)[j]? = some w) : fit w = true ∧ told w = true := by
  rw [List.getElem?_map] at h
  cases q : cs[j]? with
  | none => rw [q] at h; cases h
  | some kp =>
    rw [q] at h; cases h
    have ok := C.ok kp (List.mem_of_getElem? q)
    refine ⟨deed_fit (isDeed_dD kp) (by have := ok.l400; omega), ?_⟩
    rw [deed_told (isDeed_dD kp) ok.1 fun p hp => (ok.2.2.1 p hp).1]
    exact ok.2.2.2.1
theorem LB_run {cs : List (Int × List Int)} (C : Cs cs) {s : BoxSt} (hs : okS s = true) (S0 v2 v4 v5 v6 v7 v8 v9 v10 v11 v12 : Sl) : ∃ b9 b10 s', LB [S0, .sh .box, v2, .sh (.lst (cs.map dD)), v4, v5, v6, v7, v8, v9, v10, v11, v12] s = .nx [S0, .sh .box, v2, .sh (.lst (cs.map dD)), v4, v5, v6, v7, v8, b9, b10, v11, v12] s' ∧ okS s' = true := by
  have cl := C.len
  have ml : (cs.map dD).length = cs.length := List.length_map _
  have len3 : ∀ (s : BoxSt) (a b : Sl), mCall lenO (mCons (mVar 3) (mNil)) [S0, .sh .box, v2, .sh (.lst (cs.map dD)), v4, v5, v6, v7, v8, a, b, v11, v12] s = .ok (.int ((cs.length : Nat) : Int)) s := fun s a b => by
    refine ev_call (l := [.lst _]) (s1 := s) rfl ?_
    show some (D.int (((cs.map dD).length : Nat) : Int)) = _
    rw [ml]
  obtain ⟨a, s1, d1, d2, d3⟩ := draw_at (env := [S0, .sh .box, v2, .sh (.lst (cs.map dD)), v4, v5, v6, v7, v8, v9, v10, v11, v12]) (i := 1) (a := m2 addO (mCall minO (mCons (mOf (mLst (mCons (mCall lenO (mCons (mVar 3) (mNil))) (mCons (mC (.int 398)) (mNil))))) (mNil))) (mC (.int 1))) (many := ((min cs.length 398 + 1 : Nat) : Int)) (s := s) rfl (ev2 (s1 := s) (x := .int ((min cs.length 398 : Nat) : Int)) (ev_call (l := [.lst [.int ((cs.length : Nat) : Int), .int 398]]) (ev_cons (ev_of (ev_lst (ev_cons (len3 s _ _) rfl) two_small)) rfl) (min398 _)) rfl rfl) hs (by omega) (by omega)
  have ha : a ≤ min cs.length 398 := by omega
  -- the bad deed
  have dE : ∃ kp, okDeed kp ∧ ∀ (s : BoxSt) (z : Sl), mIf (mTest (m2 ltI (mVar 9) (mCall lenO (mCons (mVar 3) (mNil))))) (m2 ixO (mVar 3) (mVar 9)) (mTup (mCons (mC (.int 0)) (mCons (mTup (mCons (mC (.int 1)) (mCons (mC (.int 2)) (mNil)))) (mNil)))) [S0, .sh .box, v2, .sh (.lst (cs.map dD)), v4, v5, v6, v7, v8, .sh (.int (a : Int)), z, v11, v12] s = .ok (dD kp) s := by
    by_cases h : a < cs.length
    · refine ⟨cs[a], C.ok _ (List.getElem_mem h), fun s z => ev_if (k := true) (s1 := s) (ev_test (ev2 (s1 := s) (x := .int (a : Int)) (y := .int ((cs.length : Nat) : Int)) rfl (len3 s _ _) ?_)) ?_⟩
      · show some (D.bl (decide ((a : Int) < ((cs.length : Nat) : Int)))) = _
        rw [decide_eq_true (by omega)]
      · rw [if_pos rfl]
        refine ev2 (s1 := s) (x := .lst (cs.map dD)) (y := .int (a : Int)) rfl rfl (at_nat ?_)
        rw [List.getElem?_map, List.getElem?_eq_getElem h]; rfl
    · refine ⟨(0, [1, 2]), ok012, fun s z => ev_if (k := false) (s1 := s) (ev_test (ev2 (s1 := s) (x := .int (a : Int)) (y := .int ((cs.length : Nat) : Int)) rfl (len3 s _ _) ?_)) ?_⟩
      · show some (D.bl (decide ((a : Int) < ((cs.length : Nat) : Int)))) = _
        rw [decide_eq_false (by omega)]
      · rw [if_neg (by decide)]; rfl
  obtain ⟨kp, hk, dE⟩ := dE
  obtain ⟨b, s2, r1, r2, r3⟩ := bad_deed_ok hk d2
  have f1 : m2N catL (mOf (m2N catL (mOf (mCallN listO (mCons (mSl (mVar 3) (mNoO) (mSomeO (mVar 9))) (mNil)))) (mOf (mLst (mCons (mFn f_law_bad_deed (mCons (mVar 1) (mCons (mIf (mTest (m2 ltI (mVar 9) (mCall lenO (mCons (mVar 3) (mNil))))) (m2 ixO (mVar 3) (mVar 9)) (mTup (mCons (mC (.int 0)) (mCons (mTup (mCons (mC (.int 1)) (mCons (mC (.int 2)) (mNil)))) (mNil))))) (mNil)))) (mNil)))))) (mOf (mCallN listO (mCons (mSl (mVar 3) (mSomeO (m2 addO (mVar 9) (mC (.int 1)))) (mNoO)) (mNil)))) [S0, .sh .box, v2, .sh (.lst (cs.map dD)), v4, v5, v6, v7, v8, .sh (.int (a : Int)), v10, v11, v12] s1 = .ok ((cs.map dD).take a ++ [b] ++ (cs.map dD).drop (a + 1)) s2 := by
    refine ev2N (x := .lst ((cs.map dD).take a ++ [b])) (y := .lst ((cs.map dD).drop (a + 1))) (s1 := s2) (ev_of (ev2N (s1 := s1) (x := .lst ((cs.map dD).take a)) (y := .lst [b]) (ev_of (ev_callN (l := [.lst ((cs.map dD).take a)]) (s1 := s1) (ev_cons (ev_sl (x := .lst (cs.map dD)) (p := none) (q := some (a : Int)) (s3 := s1) rfl rfl rfl ?_) rfl) rfl)) (ev_of (ev_lst (ev_cons (ev_fn (l := [.box, dD kp]) (s1 := s1) (ev_cons rfl (ev_cons (dE s1 _) rfl)) r1) rfl) (Nat.le_trans (show 1 ≤ 1 from Nat.le_refl 1) (by decide)))) ?_)) (ev_of (ev_callN (l := [.lst ((cs.map dD).drop (a + 1))]) (s1 := s2) (ev_cons (ev_sl (x := .lst (cs.map dD)) (p := some ((a + 1 : Nat) : Int)) (q := none) (s3 := s2) rfl (ev_someO (ev2 (s1 := s2) rfl rfl rfl)) rfl ?_) rfl) rfl)) ?_
    · show some (D.lst (cutD _ none (some (a : Int)))) = _
      rw [cut_to]
    · show (if ((cs.map dD).take a).length + [b].length ≤ 1000000 then some ((cs.map dD).take a ++ [b]) else none) = _
      rw [if_pos (by rw [List.length_take, List.length_singleton]; omega)]
    · show some (D.lst (cutD _ (some ((a + 1 : Nat) : Int)) none)) = _
      rw [cut_from]
    · show (if ((cs.map dD).take a ++ [b]).length + ((cs.map dD).drop (a + 1)).length ≤ 1000000 then some ((cs.map dD).take a ++ [b] ++ (cs.map dD).drop (a + 1)) else none) = _
      rw [if_pos (by rw [List.length_append, List.length_take, List.length_drop, List.length_singleton]; omega)]
  have tl_ : ((cs.map dD).take a).length = a := by rw [List.length_take, ml]; omega
  have here : ((cs.map dD).take a ++ [b] ++ (cs.map dD).drop (a + 1))[a]? = some b := by
    rw [List.append_assoc, List.getElem?_append_right (by omega), tl_, Nat.sub_self]; rfl
  have ahead : ∀ j w, j < a → ((cs.map dD).take a ++ [b] ++ (cs.map dD).drop (a + 1))[j]? = some w → fit w = true ∧ told w = true := fun j w hj hw => by
    rw [List.append_assoc, List.getElem?_append_left (by omega), List.getElem?_take_of_lt hj] at hw
    exact good_dD C hw
  have flen : ((cs.map dD).take a ++ [b] ++ (cs.map dD).drop (a + 1)).length ≤ 400 := by
    rw [List.length_append, List.length_append, tl_, List.length_drop, List.length_singleton, ml]; omega
  generalize (cs.map dD).take a ++ [b] ++ (cs.map dD).drop (a + 1) = F at f1 here ahead flen
  obtain ⟨e, s3, c1, c2, c3⟩ := draw_at (env := [S0, .sh .box, v2, .sh (.lst (cs.map dD)), v4, v5, v6, v7, v8, .sh (.int (a : Int)), .ow F, v11, v12]) (i := 1) (a := mC (.int 2)) (many := 2) (s := s2) rfl rfl r2 (by decide) (by decide)
  have ltF : mTest (m2 ltI (mLenO 10) (mC (.int 400))) [S0, .sh .box, v2, .sh (.lst (cs.map dD)), v4, v5, v6, v7, v8, .sh (.int (a : Int)), .ow F, v11, v12] s3 = .ok (decide (F.length < 400)) s3 := by
    refine ev_test (ev2 (s1 := s3) (x := .int ((F.length : Nat) : Int)) (y := .int 400) rfl rfl ?_)
    show some (D.bl (decide (((F.length : Nat) : Int) < 400))) = _
    rw [show decide (((F.length : Nat) : Int) < 400) = decide (F.length < 400) from decide_eq_decide.mpr (by omega)]
  have hl := (List.getElem?_eq_some_iff.mp here).1
  have tE : mTest (m2 eqO (mFn f_law_draw (mCons (mVar 1) (mCons (mC (.int 2)) (mNil)))) (mC (.int 0))) [S0, .sh .box, v2, .sh (.lst (cs.map dD)), v4, v5, v6, v7, v8, .sh (.int (a : Int)), .ow F, v11, v12] s2 = .ok (decide (e = 0)) s3 := ev_test (ev2 c1 rfl (eq0 e))
  have step : ∃ F2 : List D, F2[a]? = some b ∧ (∀ j w, j < a → F2[j]? = some w → fit w = true ∧ told w = true) ∧ F2.length ≤ 400 ∧ mIfS (mAnd (mTest (m2 eqO (mFn f_law_draw (mCons (mVar 1) (mCons (mC (.int 2)) (mNil)))) (mC (.int 0)))) (mTest (m2 ltI (mLenO 10) (mC (.int 400))))) (mSeq (mApp 10 (mC .non)) (mNext)) (mNext) [S0, .sh .box, v2, .sh (.lst (cs.map dD)), v4, v5, v6, v7, v8, .sh (.int (a : Int)), .ow F, v11, v12] s2 = .nx [S0, .sh .box, v2, .sh (.lst (cs.map dD)), v4, v5, v6, v7, v8, .sh (.int (a : Int)), .ow F2, v11, v12] s3 := by
    by_cases h0 : e = 0
    · have t := tE
      rw [decide_eq_true h0] at t
      by_cases h1 : F.length < 400
      · rw [decide_eq_true h1] at ltF
        refine ⟨F ++ [.non], by rw [List.getElem?_append_left hl]; exact here, fun j w hj hw => ahead j w hj (by rw [List.getElem?_append_left (by omega)] at hw; exact hw), by rw [List.length_append, List.length_singleton]; omega, st_ifT (ev_and (k := true) t (by rw [if_pos rfl]; exact ltF)) (st_seq (st_app (l := F) (s1 := s3) (d := .non) rfl rfl (by omega)) rfl)⟩
      · rw [decide_eq_false h1] at ltF
        exact ⟨F, here, ahead, flen, st_ifF (ev_and (k := true) t (by rw [if_pos rfl]; exact ltF)) rfl⟩
    · have t := tE
      rw [decide_eq_false h0] at t
      exact ⟨F, here, ahead, flen, st_ifF (ev_and (k := false) t (by rw [if_neg (by decide)])) rfl⟩
  obtain ⟨F2, g1, g2, g3, step⟩ := step
  have pk : EvP (fun d => seqD d = some F2) (mFn f_law_pick (mCons (mVar 1) (mCons (mOf (mLst (mCons (mVar 10) (mCons (mCall tupleO (mCons (mVar 10) (mNil))) (mNil))))) (mNil)))) [S0, .sh .box, v2, .sh (.lst (cs.map dD)), v4, v5, v6, v7, v8, .sh (.int (a : Int)), .sh (.lst F2), v11, v12] :=
    evp_pick (i := 1) rfl (evl_lst (evl_cons (evp_pure (x := .lst F2) (fun s => rfl) rfl) (evl_cons (evp_pure (x := .tup F2) (fun s => rfl) rfl) evl_nil)) (by decide)) (by decide) (by decide)
  obtain ⟨d, s4, p1, p2, p3⟩ := pk s3 c2
  have w := law_written_err (s := s4) (course_err (s := s4) p3 g3 g1 r3.1 r3.2 g2)
  refine ⟨.sh (.int (a : Int)), .sh (.lst F2), s4, st_seq (st_asg d1) (st_seq (st_asgO f1) (st_seq step (st_seq (st_share rfl) (st_seq (env' := [S0, .sh .box, v2, .sh (.lst (cs.map dD)), v4, v5, v6, v7, v8, .sh (.int (a : Int)), .sh (.lst F2), v11, v12]) (s1 := s4) (st_ifF (ev_not (k := true) (ev_test (ev_fn (l := [.tup [.str courseS, .int (a : Int)], .tup [.str courseS, .int (a : Int)]]) (s1 := s4) (ev_cons (ev_fn (l := [d]) (s1 := s4) (ev_cons p1 rfl) w) (ev_cons (ev_tup rfl two_small) rfl)) same_course))) rfl) rfl)))), p2⟩
theorem lloop {cs : List (Int × List Int)} (C : Cs cs) (S0 v2 v4 v6 v7 v8 v11 v12 : Sl) : ∀ (ds : List D) (s : BoxSt) (v5 v9 v10 : Sl), okS s = true → ∃ b5 b9 b10 s', forM (gN 5) LB ds [S0, .sh .box, v2, .sh (.lst (cs.map dD)), v4, v5, v6, v7, v8, v9, v10, v11, v12] s = .nx [S0, .sh .box, v2, .sh (.lst (cs.map dD)), v4, b5, v6, v7, v8, b9, b10, v11, v12] s' ∧ okS s' = true
  | [], s, v5, v9, v10, h => ⟨v5, v9, v10, s, rfl, h⟩
  | d :: r, s, v5, v9, v10, h => by
    obtain ⟨b9, b10, s1, h1, h2⟩ := LB_run C h S0 v2 v4 (.sh d) v6 v7 v8 v9 v10 v11 v12
    obtain ⟨c5, c9, c10, s2, g1, g2⟩ := lloop C S0 v2 v4 v6 v7 v8 v11 v12 r s1 (.sh d) b9 b10 h2
    exact ⟨c5, c9, c10, s2, for_cons rfl h1 g1, g2⟩
end Kn

end

section
set_option Elab.async false
set_option linter.all false
set_option maxRecDepth 100000
set_option maxHeartbeats 4000000
/-! Pl13: the law holds. -/
namespace Kn
open PySem TL
def VB1 : MS := (mSeq (mIfS (mNot (mTest (mFn (f_law_same 7) (mCons (mFn f_law_written (mCons (mVar 6) (mNil))) (mCons (mTup (mCons (mC (.str ("course" : PySem.Str))) (mCons (m1 negI (mC (.int 1))) (mNil)))) (mNil)))))) (mSeq (mRet (mC (.bl false))) (mNext)) (mNext)) (mNext))
def VB2 : MS := (mSeq (mIfS (mNot (mTest (mFn (f_law_same 7) (mCons (mFn f_law_read (mCons (mVar 6) (mNil))) (mCons (mTup (mCons (mC (.str ("text" : PySem.Str))) (mCons (m1 negI (mC (.int 1))) (mNil)))) (mNil)))))) (mSeq (mRet (mC (.bl false))) (mNext)) (mNext)) (mNext))
theorem vloop1 {S0 v2 v3 v4 v5 v7 v8 v9 v10 v11 v12 : Sl} {s : BoxSt} : ∀ (ds : List D) (v6 : Sl), (∀ d ∈ ds, f_law_written [d] s = .ok (.tup [.str courseS, .int (-1)]) s) → ∃ b6, forM (gN 6) VB1 ds [S0, .sh .box, v2, v3, v4, v5, v6, v7, v8, v9, v10, v11, v12] s = .nx [S0, .sh .box, v2, v3, v4, v5, b6, v7, v8, v9, v10, v11, v12] s
  | [], v6, _ => ⟨v6, rfl⟩
  | d :: r, v6, h => by
    obtain ⟨b6, g⟩ := vloop1 r (.sh d) fun x hx => h x (List.mem_cons_of_mem _ hx)
    have w := h d List.mem_cons_self
    refine ⟨b6, for_cons rfl (st_seq (env' := [S0, .sh .box, v2, v3, v4, v5, .sh d, v7, v8, v9, v10, v11, v12]) (s1 := s) (st_ifF (ev_not (k := true) (ev_test (ev_fn (l := [.tup [.str courseS, .int (-1)], .tup [.str courseS, .int (-1)]]) (s1 := s) (ev_cons (ev_fn (l := [d]) (s1 := s) rfl w) rfl) same_course))) rfl) rfl) g⟩
theorem vloop2 {S0 v2 v3 v4 v5 v7 v8 v9 v10 v11 v12 : Sl} {s : BoxSt} : ∀ (ds : List D) (v6 : Sl), (∀ d ∈ ds, f_law_read [d] s = .ok (.tup [.str textS, .int (-1)]) s) → ∃ b6, forM (gN 6) VB2 ds [S0, .sh .box, v2, v3, v4, v5, v6, v7, v8, v9, v10, v11, v12] s = .nx [S0, .sh .box, v2, v3, v4, v5, b6, v7, v8, v9, v10, v11, v12] s
  | [], v6, _ => ⟨v6, rfl⟩
  | d :: r, v6, h => by
    obtain ⟨b6, g⟩ := vloop2 r (.sh d) fun x hx => h x (List.mem_cons_of_mem _ hx)
    have w := h d List.mem_cons_self
    refine ⟨b6, for_cons rfl (st_seq (env' := [S0, .sh .box, v2, v3, v4, v5, .sh d, v7, v8, v9, v10, v11, v12]) (s1 := s) (st_ifF (ev_not (k := true) (ev_test (ev_fn (l := [.tup [.str textS, .int (-1)], .tup [.str textS, .int (-1)]]) (s1 := s) (ev_cons (ev_fn (l := [d]) (s1 := s) rfl w) rfl) same_text))) rfl) rfl) g⟩
def isS : D → Bool | .str _ => true | _ => false
theorem read_no {d : D} {s : BoxSt} (hn : nb d = true) (h : isS d = false) : f_read_course [d] s = .ex IT (.int (-1)) s := by
  have t : mNot (mTest (m1 (isiO isStr) (mVar 0))) [.sh d] s = .ok true s := by
    cases d <;> first | rfl | (cases hn; done) | (cases h; done)
  have ro : f_rows_of [d] s = .ex IT (.int (-1)) s := df_ex rfl (st_seqE (st_ifT t rfl))
  exact df_ex rfl (st_seqE (st_asgE (ev_fn (l := [d]) (s1 := s) rfl ro)))
theorem law_ok {S0 : Sl} {s : BoxSt} (hs : okS s = true) : ∃ s', b_law [S0, .sh .box, .un, .un, .un, .un, .un, .un, .un, .un, .un, .un, .un] s = .rt (.bl true) s' := by
  obtain ⟨n, cs, s1, C, o1, go⟩ := law_deeds (S0 := S0) hs
  have cl := C.len
  have sz := C.sz
  have ml : (cs.map dD).length = cs.length := List.length_map _
  -- handed, rows
  have hand : ∀ (s : BoxSt) (v4 v5 v6 v7 v8 v9 v10 v11 v12 : Sl), mOf (mLc [11, 12] (gU [11, 12]) (mIt (mVar 3)) (mYes) (mOf (mLst (mCons (mVar 11) (mCons (mOf (mCallN listO (mCons (mVar 12) (mNil)))) (mNil)))))) [S0, .sh .box, .sh (.int (n : Int)), .sh (.lst (cs.map dD)), v4, v5, v6, v7, v8, v9, v10, v11, v12] s = .ok (.lst (cs.map hD)) s := fun s v4 v5 v6 v7 v8 v9 v10 v11 v12 => by
    refine ev_of (ev_lcg (ds := cs.map dD) (f := fun x => match x with | .tup [.int k, .tup l] => .lst [.int k, .lst l] | _ => .non) (s1 := s) rfl (by omega) (fun x hx => ?_) (by rw [List.map_map]; rfl))
    obtain ⟨kp, _, rfl⟩ := List.mem_map.mp hx
    exact ⟨_, rfl, rfl⟩
  have text4 : ∀ (s : BoxSt) (v4 v5 v6 v7 v9 v10 v11 v12 : Sl), mStr1 joinO (mC (.str ("\n" : PySem.Str))) (mVar 8) [S0, .sh .box, .sh (.int (n : Int)), .sh (.lst (cs.map dD)), v4, v5, v6, v7, .sh (.lst ((cs.map rowD).map .str)), v9, v10, v11, v12] s = .ok (.str (textOf cs)) s := fun s v4 v5 v6 v7 v9 v10 v11 v12 =>
    ev_str1 (s1 := s) (y := .lst ((cs.map rowD).map .str)) rfl rfl (join_nl (by rw [List.length_map]; omega))
  -- the env behind
  have one : ∀ (s : BoxSt), mFn (f_law_same 7) (mCons (mFn f_law_written (mCons (mVar 7) (mNil))) (mCons (mTup (mCons (mC (.str ("text" : PySem.Str))) (mCons (mVar 4) (mNil)))) (mNil))) [S0, .sh .box, .sh (.int (n : Int)), .sh (.lst (cs.map dD)), .sh (.str (textOf cs)), .un, .un, .sh (.lst (cs.map hD)), .sh (.lst ((cs.map rowD).map .str)), .un, .un, .un, .un] s = .ok (.bl true) s := fun s =>
    ev_fn (l := [.tup [.str textS, .str (textOf cs)], .tup [.str textS, .str (textOf cs)]]) (s1 := s) (ev_cons (ev_fn (l := [.lst (cs.map hD)]) (s1 := s) rfl (law_written_ok (written_ok C isDeed_hD rfl))) rfl) (same_ok 7 _ rfl)
  have two : ∀ (s : BoxSt), mFn (f_law_same 7) (mCons (mFn f_law_read (mCons (mVar 4) (mNil))) (mCons (mTup (mCons (mC (.str ("read" : PySem.Str))) (mCons (mCall tupleO (mCons (mVar 3) (mNil))) (mNil)))) (mNil))) [S0, .sh .box, .sh (.int (n : Int)), .sh (.lst (cs.map dD)), .sh (.str (textOf cs)), .un, .un, .sh (.lst (cs.map hD)), .sh (.lst ((cs.map rowD).map .str)), .un, .un, .un, .un] s = .ok (.bl true) s := fun s =>
    ev_fn (l := [.tup [.str readS, .tup (cs.map dD)], .tup [.str readS, .tup (cs.map dD)]]) (s1 := s) (ev_cons (ev_fn (l := [.str (textOf cs)]) (s1 := s) rfl (law_read_ok (text_read C))) rfl) (same_ok 7 _ (okD_course C))
  have three : ∀ (s : BoxSt), mFn (f_law_same 7) (mCons (mFn f_course_text (mCons (mFn f_read_course (mCons (mVar 4) mNil)) mNil)) (mCons (mVar 4) (mNil))) [S0, .sh .box, .sh (.int (n : Int)), .sh (.lst (cs.map dD)), .sh (.str (textOf cs)), .un, .un, .sh (.lst (cs.map hD)), .sh (.lst ((cs.map rowD).map .str)), .un, .un, .un, .un] s = .ok (.bl true) s := fun s =>
    ev_fn (l := [.str (textOf cs), .str (textOf cs)]) (s1 := s) (ev_cons (ev_fn (l := [.tup (cs.map dD)]) (s1 := s) (ev_cons (ev_fn (l := [.str (textOf cs)]) (s1 := s) rfl (text_read C)) rfl) (written_ok C isDeed_dD rfl)) rfl) (same_ok 7 _ rfl)
  obtain ⟨s2, w1, o2⟩ := wrong_texts_ok C o1
  obtain ⟨b5, b9, b10, s3, l1, o3⟩ := lloop C S0 (.sh (.int (n : Int))) (.sh (.str (textOf cs))) .un (.sh (.lst (cs.map hD))) (.sh (.lst ((cs.map rowD).map .str))) .un .un (numbers 3) s2 .un .un .un o2
  obtain ⟨b6, l2⟩ := vloop1 (S0 := S0) (v2 := .sh (.int (n : Int))) (v3 := .sh (.lst (cs.map dD))) (v4 := .sh (.str (textOf cs))) (v5 := b5) (v7 := .sh (.lst (cs.map hD))) (v8 := .sh (.lst ((cs.map rowD).map .str))) (v9 := b9) (v10 := b10) (v11 := .un) (v12 := .un) (s := s3) [.non, .int 3, .str ("ask 0" : Str), .bl true, .lst (List.replicate 401 (.tup [.int 0, .tup []])), .tup (List.replicate 402 .non)] .un (fun d hd => by
    refine law_written_err ?_
    simp only [List.mem_cons, List.not_mem_nil, or_false] at hd
    rcases hd with rfl | rfl | rfl | rfl | rfl | rfl
    · exact course_no rfl rfl
    · exact course_no rfl rfl
    · exact course_no rfl rfl
    · exact course_no rfl rfl
    · exact course_big rfl (by rw [List.length_replicate]; decide)
    · exact course_big rfl (by rw [List.length_replicate]; decide))
  obtain ⟨c6, l3⟩ := vloop2 (S0 := S0) (v2 := .sh (.int (n : Int))) (v3 := .sh (.lst (cs.map dD))) (v4 := .sh (.str (textOf cs))) (v5 := b5) (v7 := .sh (.lst (cs.map hD))) (v8 := .sh (.lst ((cs.map rowD).map .str))) (v9 := b9) (v10 := b10) (v11 := .un) (v12 := .un) (s := s3) [.non, .int 3, .lst ((cs.map rowD).map .str), .tup [.str (textOf cs)], .tup (cs.map dD), .bl true] b6 (fun d hd => by
    refine law_read_err ?_
    simp only [List.mem_cons, List.not_mem_nil, or_false] at hd
    rcases hd with rfl | rfl | rfl | rfl | rfl | rfl <;> exact read_no rfl rfl)
  have vals1 : mIt (mOf (mLst (mCons (mC .non) (mCons (mC (.int 3)) (mCons (mC (.str ("ask 0" : PySem.Str))) (mCons (mC (.bl true)) (mCons (mOf (m2N repL (mOf (mLst (mCons (mTup (mCons (mC (.int 0)) (mCons (mTup (mNil)) (mNil)))) (mNil)))) (mC (.int 401)))) (mCons (m2 mulA (mTup (mCons (mC .non) (mNil))) (mC (.int 402))) (mNil))))))))) [S0, .sh .box, .sh (.int (n : Int)), .sh (.lst (cs.map dD)), .sh (.str (textOf cs)), b5, .un, .sh (.lst (cs.map hD)), .sh (.lst ((cs.map rowD).map .str)), b9, b10, .un, .un] s3 = .ok [.non, .int 3, .str ("ask 0" : Str), .bl true, .lst (List.replicate 401 (.tup [.int 0, .tup []])), .tup (List.replicate 402 .non)] s3 := by
    have fl : ∀ (n : Nat) (x : D), (List.replicate n [x]).flatten = List.replicate n x := fun n x => by
      induction n with
      | zero => rfl
      | succ n ih => rw [List.replicate_succ, List.flatten_cons, ih]; rfl
    refine ev_it (ev_of (ev_lst (ev_cons rfl (ev_cons rfl (ev_cons rfl (ev_cons rfl (ev_cons (ev_of (ev2N (s1 := s3) (x := .lst [.tup [.int 0, .tup []]]) (y := .int 401) rfl rfl ?_)) (ev_cons (ev2 (s1 := s3) (x := .tup [.non]) (y := .int 402) rfl rfl ?_) rfl)))))) (Nat.le_trans (show 6 ≤ 6 from Nat.le_refl 6) (by decide)))) rfl
    · show (if 1 * (401 : Int).toNat ≤ 1000000 ∧ -1000000 ≤ (401 : Int) ∧ (401 : Int) ≤ 1000000 then some (List.replicate (401 : Int).toNat [D.tup [.int 0, .tup []]]).flatten else none) = _
      rw [if_pos (by decide), fl]; rfl
    · show (if [D.non] ≠ [] ∧ (2 : Int) ≤ 402 ∧ (402 : Int) ≤ 1000 ∧ 1 ≤ 1000 then some (D.tup (List.replicate (402 : Int).toNat [D.non]).flatten) else none) = _
      rw [if_pos ⟨by simp, by decide, by decide, by decide⟩, fl]; rfl
  have vals2 : mIt (mOf (mLst (mCons (mC .non) (mCons (mC (.int 3)) (mCons (mVar 8) (mCons (mTup (mCons (mVar 4) (mNil))) (mCons (mCall tupleO (mCons (mVar 3) (mNil))) (mCons (mC (.bl true)) (mNil))))))))) [S0, .sh .box, .sh (.int (n : Int)), .sh (.lst (cs.map dD)), .sh (.str (textOf cs)), b5, b6, .sh (.lst (cs.map hD)), .sh (.lst ((cs.map rowD).map .str)), b9, b10, .un, .un] s3 = .ok [.non, .int 3, .lst ((cs.map rowD).map .str), .tup [.str (textOf cs)], .tup (cs.map dD), .bl true] s3 := rfl
  have e0 : textOf [] = ("" : Str) := by decide +kernel
  have C0 : Cs ([] : List (Int × List Int)) := { ok := fun kp h => absurd h List.not_mem_nil, len := Nat.zero_le _, sz := Nat.zero_le _ }
  have last1 : f_law_read [.str ("" : Str)] s3 = .ok (.tup [.str readS, .tup []]) s3 := by
    have := text_read C0 (s := s3)
    rw [e0] at this
    exact law_read_ok this
  have last2 : f_law_written [.tup []] s3 = .ok (.tup [.str textS, .str ("" : Str)]) s3 := by
    have := written_ok (s := s3) C0 isDeed_dD (d := .tup []) rfl
    rw [e0] at this
    exact law_written_ok this
  refine ⟨s3, go _ _ (st_seq (st_share rfl) (st_seq (st_par (hand s1 _ _ _ _ _ _ _ _ _) (ev_fn (l := [.lst (cs.map dD)]) (s1 := s1) rfl (law_rows_ok C))) (st_seq (st_asg (text4 s1 _ _ _ _ _ _ _ _)) (st_seq (env' := [S0, .sh .box, .sh (.int (n : Int)), .sh (.lst (cs.map dD)), .sh (.str (textOf cs)), .un, .un, .sh (.lst (cs.map hD)), .sh (.lst ((cs.map rowD).map .str)), .un, .un, .un, .un]) (s1 := s1) (st_ifF (ev_or (k := false) (ev_not (k := true) (ev_test (one s1))) (by rw [if_neg (by decide)]; exact ev_test (ev2 (s1 := s1) (x := .lst (cs.map hD)) (y := .lst (cs.map hD)) rfl (hand s1 _ _ _ _ _ _ _ _ _) (ne_self cs)))) rfl) (st_seq (env' := [S0, .sh .box, .sh (.int (n : Int)), .sh (.lst (cs.map dD)), .sh (.str (textOf cs)), .un, .un, .sh (.lst (cs.map hD)), .sh (.lst ((cs.map rowD).map .str)), .un, .un, .un, .un]) (s1 := s1) (st_ifF (ev_or (k := false) (ev_not (k := true) (ev_test (two s1))) (by rw [if_neg (by decide)]; exact ev_not (k := true) (ev_test (three s1)))) rfl) (st_seq (env' := [S0, .sh .box, .sh (.int (n : Int)), .sh (.lst (cs.map dD)), .sh (.str (textOf cs)), .un, .un, .sh (.lst (cs.map hD)), .sh (.lst ((cs.map rowD).map .str)), .un, .un, .un, .un]) (s1 := s2) (st_ifF (ev_not (k := true) (ev_test (ev_fn (l := [.box, .lst ((cs.map rowD).map .str)]) (s1 := s1) rfl w1))) rfl) (st_seq (st_for (l := numbers 3) (s1 := s2) rfl l1) (st_seq (st_for vals1 l2) (st_seq (st_for vals2 l3) (st_seqR (st_ret (ev_andV (k := true) (s1 := s3) (ev_fn (l := [.tup [.str readS, .tup []], .tup [.str readS, .tup []]]) (s1 := s3) (ev_cons (ev_fn (l := [.str ("" : Str)]) (s1 := s3) rfl last1) rfl) (same_ok 7 _ rfl)) (by rw [if_pos rfl]; exact ev_fn (l := [.tup [.str textS, .str ("" : Str)], .tup [.str textS, .str ("" : Str)]]) (s1 := s3) (ev_cons (ev_fn (l := [.tup []]) (s1 := s3) rfl last2) rfl) (same_ok 7 _ rfl))))))))))))))⟩
end Kn

end

section
set_option Elab.async false
set_option linter.all false
set_option maxRecDepth 100000
set_option maxHeartbeats 4000000
/-! Bx: the box; the law's def. -/
namespace Kn
open PySem PySem.Spec PyProof.Rows L2
/-! ### the box's own reckoning -/
def geF (p : Int → Bool) : List Int → List Int
  | [] => []
  | x :: r => if p x = true then x :: geF p r else geF p r
theorem geF_len (p : Int → Bool) : ∀ l, (geF p l).length ≤ l.length
  | [] => Nat.le_refl _
  | x :: r => by
    unfold geF
    have := geF_len p r
    split
    · rw [List.length_cons, List.length_cons]; omega
    · rw [List.length_cons]; omega
theorem geF_mem (p : Int → Bool) : ∀ l x, x ∈ geF p l → p x = true
  | [], x, h => by cases h
  | y :: r, x, h => by
    unfold geF at h
    split at h
    · rename_i hp
      rcases List.mem_cons.mp h with e | e
      · rw [e]; exact hp
      · exact geF_mem p r x e
    · exact geF_mem p r x h
def BXB : MS := (mSeq (mAsg 2 (m2 modI (mCall intO (mCons (m2 addO (m2 addO (m2 mulA (mVar 2) (mC (.int 16807))) (m2 modI (mCall intO (mCons (mVar 3) (mNil))) (mC (.int 2147483563)))) (mC (.int 59))) (mNil))) (mC (.int 2147483647)))) (mNext))
theorem bx_loop {v1 : Sl} {s : BoxSt} : ∀ (zs : List Int) (b : Int) (v3 : Sl), 0 ≤ b → b < 2147483647 → ∃ b' v3', forM (gN 3) BXB (zs.map .int) [.un, v1, .sh (.int b), v3] s = .nx [.un, v1, .sh (.int b'), v3'] s ∧ 0 ≤ b' ∧ b' < 2147483647
  | [], b, v3, h0, h1 => ⟨b, v3, rfl, h0, h1⟩
  | z :: r, b, v3, h0, h1 => by
    have md : ∀ k : Int, 0 < k → ∀ i : Int, modI (.int i) (.int k) = some (.int (i % k)) := fun k a i => by
      show (if decide (0 < k) = true then some (D.int (i % k)) else none) = _
      rw [if_pos (decide_eq_true a)]
    obtain ⟨b', v3', g1, g2, g3⟩ := bx_loop (v1 := v1) (s := s) r ((b * 16807 + z % 2147483563 + 59) % 2147483647) (.sh (.int z)) (Int.emod_nonneg _ (by decide)) (Int.emod_lt_of_pos _ (by decide))
    refine ⟨b', v3', for_cons rfl (st_seq (st_asg (ev2 (s1 := s) (ev_call (l := [.int (b * 16807 + z % 2147483563 + 59)]) (ev_cons (ev2 (s1 := s) (x := .int (b * 16807 + z % 2147483563)) (y := .int 59) (ev2 (s1 := s) (x := .int (b * 16807)) (y := .int (z % 2147483563)) (ev2 (s1 := s) (x := .int b) (y := .int 16807) rfl rfl (mulA_int (by decide))) (ev2 (s1 := s) (x := .int z) (y := .int 2147483563) rfl rfl (md _ (by decide) _)) rfl) rfl rfl) rfl) rfl) rfl (md _ (by decide) _))) rfl) g1, g2, g3⟩
theorem lc_ge {env : En} {s : BoxSt} (he : ∃ v0 v1 v2 v3, env = [v0, v1, v2, v3]) : ∀ zs : List Int, lcM (gN 3) (mTest (m2 geI (mVar 3) (mC (.int (10 ^ 18))))) (mVar 3) env (zs.map .int) s = .ok ((geF (fun z => decide ((10 : Int) ^ 18 ≤ z)) zs).map .int) s
  | [] => rfl
  | z :: r => by
    have ih := lc_ge (s := s) he r
    obtain ⟨v0, v1, v2, v3, rfl⟩ := he
    have e1 : gN 3 (.int z) [v0, v1, v2, v3] = some [v0, v1, v2, .sh (.int z)] := rfl
    have e2 : mTest (m2 geI (mVar 3) (mC (.int (10 ^ 18)))) [v0, v1, v2, .sh (.int z)] s = .ok (decide ((10 : Int) ^ 18 ≤ z)) s := rfl
    have e3 : mVar 3 [v0, v1, v2, .sh (.int z)] s = .ok (.int z) s := rfl
    rw [List.map_cons]
    unfold lcM geF
    by_cases h : (10 : Int) ^ 18 ≤ z
    · rw [decide_eq_true h] at e2 ⊢
      simp only [e1, e2, e3, ih]
      rfl
    · rw [decide_eq_false h] at e2 ⊢
      simp only [e1, e2, e3, ih]
      rfl
theorem box_math {s : BoxSt} (zs : List Int) (hl : zs.length ≤ 60) : ∃ bigs blend, b_law_box [.un, .ow (zs.map .int), .un, .un] s = .rt (.lst [.lst (bigs.map .int), .int blend]) s ∧ okS ⟨bigs, blend⟩ = true := by
  obtain ⟨b', v3', g1, g2, g3⟩ := bx_loop (v1 := .sh (.lst (zs.map .int))) (s := s) zs 77023 .un (by decide) (by decide)
  refine ⟨geF (fun z => decide ((10 : Int) ^ 18 ≤ z)) zs, b', st_seq (st_asg rfl) (st_seq (st_share rfl) (st_seq (st_for (l := zs.map .int) (s1 := s) rfl g1) (st_seqR (st_ret (ev_of (ev_lst (ev_cons (ev_of (l := (geF (fun z => decide ((10 : Int) ^ 18 ≤ z)) zs).map .int) (s1 := s) ?_) (ev_cons rfl rfl)) (Nat.le_trans (show 2 ≤ 2 from Nat.le_refl 2) (by decide)))))))), ?_⟩
  · show (if (zs.map D.int).length ≤ 1000000 then (match lcM (gN 3) (mTest (m2 geI (mVar 3) (mC (.int (10 ^ 18))))) (mVar 3) [.un, .sh (.lst (zs.map .int)), .sh (.int b'), .un] (zs.map .int) s with | .ok l s2 => Res.ok l s2 | _ => .bad) else .bad) = _
    rw [if_pos (by rw [List.length_map]; omega), lc_ge ⟨_, _, _, _, rfl⟩]
  · unfold okS
    rw [Bool.and_eq_true, Bool.and_eq_true, Bool.and_eq_true, decide_eq_true_eq, decide_eq_true_eq, decide_eq_true_eq, List.all_eq_true]
    refine ⟨fun z hz => ?_, Nat.le_trans (geF_len _ _) hl, g2, g3⟩
    have := of_decide_eq_true (geF_mem _ _ z hz)
    exact decide_eq_true (by omega)
/-! ### its def -/
abbrev noH : Hp := fun _ => none
theorem noH_same {H : Hp} : Same noH H := fun _ _ h => nomatch h
def spBox (K : PySem.W.Frag) : Sp := fun vs H Q _ => ∃ (a : Addr) (ns : List Int), vs = [.ref a] ∧ SqL K H a (ns.map V.int) ∧ ∀ (H' : Hp) (b p2 : Addr) (cells : List Int) (blend : Int), H' b = some (.lst [.ref p2, .int blend]) → H' p2 = some (.lst (cells.map V.int)) → okS ⟨cells, blend⟩ = true → Q (.ref b) H'
def absI (i : Int) : Int := if i < 0 then -i else i
theorem cutV_60 (ns : List Int) : cutV (ns.map V.int) none (some 60) = (ns.take 60).map V.int := by
  unfold cutV
  have e : HT.sIx (ns.map V.int).length (ns.map V.int).length (some 60) = min 60 (ns.map V.int).length := HT.sIx_nat _ _ 60
  rw [e, HT.sIx_none, List.drop_zero, Nat.sub_zero, ← List.map_take, List.length_map]
  congr 1
  by_cases h : 60 ≤ ns.length
  · rw [Nat.min_eq_left h]
  · rw [Nat.min_eq_right (by omega), List.take_length, List.take_of_length_le (by omega)]
section
variable {P : Program} {w : World} {mg : Str → Option Value} {base : Heap} {t : Sc}
theorem c_law_box (T : Txt P mg t) : ∃ (fa : Addr) (fd : FuncData), FnOk P w t.K mg base (L2N.CX P w) 6 fa fd ["script"] (spBox t.K) ∧ mg "_law_box" = some (.ref fa) ∧ PySem.W.keepIn t.K (.ref fa) = true ∧ Binds t.K fd ["script"] [] := by
  obtain ⟨fa, fd, F, hm, hb0, _⟩ := T.d_law_box.ex
  have kp := F.kp
  refine ⟨fa, fd, ?_, hm, kp, hb0⟩
  obtain ⟨oc, od, kV, doc, pm, an, cdv, ct, osl, rfl, lk, hcd⟩ := F.ex
  refine fn_of (k := 5) lk hcd s_law_box (fun vs H Q E ⟨a, ns, e, _⟩ => by rw [e]; rfl) fun A outer s H vs Q E hr ⟨a, ns, ev, hS, k⟩ => ⟨_, r_law_box T (bx := none) (G0 := noH) hr (L2N.takes_of rfl rfl rfl rfl) (passes_of rfl), ?_⟩
  subst ev
  have BA : BoxAt ⟨t, none⟩ ⟨[], 0⟩ H := fun p hp => nomatch hp
  have R0 : Rel ⟨t, none⟩ noH H [.un, .un, .un, .un] (L2.start ["script", "cells", "blend", "cell"] [.ref a]) noH H ⟨[], 0⟩ := by
    refine ⟨.refl noH_same BA, ⟨_, BA⟩, fun _ _ => rfl, rfl, fun _ => 0, fun i e he => ?_, fun i j l m hi hj _ => ?_⟩
    · match i, he with
      | 0, he => cases he; trivial
      | 1, he => cases he; trivial
      | 2, he => cases he; trivial
      | 3, he => cases he; trivial
      | i + 4, he => cases he
    · match i, hi with
      | 0, he => cases he
      | 1, he => cases he
      | 2, he => cases he
      | 3, he => cases he
      | i + 4, he => cases he
  have e1 : mAsgO 1 (mLc [3] (gN 3) (fun _ s => .ok ((ns.take 60).map .int) s) mYes e_law_box) [.un, .un, .un, .un] ⟨[], 0⟩ = .nx [.un, .ow (((ns.take 60).map absI).map .int), .un, .un] ⟨[], 0⟩ := by
    refine st_asgO (ev_lcg (ds := (ns.take 60).map .int) (f := fun x => match x with | .int i => .int (absI i) | _ => .non) (s1 := ⟨[], 0⟩) rfl (by rw [List.length_map, List.length_take]; omega) (fun x hx => ?_) (by rw [List.map_map, List.map_map]; rfl))
    obtain ⟨i, _, rfl⟩ := List.mem_map.mp hx
    exact ⟨_, rfl, rfl⟩
  obtain ⟨bigs, blend, e2, e3⟩ := box_math (s := ⟨[], 0⟩) ((ns.take 60).map absI) (by rw [List.length_map, List.length_take]; omega)
  have top_ : lS ⟨t, none⟩ noH H (fun cl d _ H' => E cl d H') (mAsgO 1 (mLc [3] (gN 3) (fun _ s => .ok ((ns.take 60).map .int) s) mYes e_law_box)) { nx := lS ⟨t, none⟩ noH H (fun cl d _ H' => E cl d H') b_law_box { nx := fun _ H' => Q .non H', rt := Q }, rt := Q } (L2.start ["script", "cells", "blend", "cell"] [.ref a]) H := by
    refine ⟨_, noH, _, R0, ?_⟩
    rw [e1]
    intro σ G1 H1 R1 _
    refine ⟨_, G1, _, R1, ?_⟩
    rw [e2]
    intro v G2 H2 x2 q
    cases q with
    | lst h r =>
      cases r with
      | cons d1 r =>
        cases r with
        | cons d2 r =>
          cases r
          cases d2
          cases d1 with
          | lst h1 r1 =>
            have en := ints_da r1 (show intsOf (bigs.map D.int) = some bigs from by
              have : ∀ l : List Int, intsOf (l.map D.int) = some l := by
                intro l
                induction l with
                | nil => rfl
                | cons x r ih => rw [List.map_cons]; show (intsOf (r.map D.int)).map _ = _; rw [ih]; rfl
              exact this bigs)
            subst en
            exact k H2 _ _ bigs blend (x2.sub _ _ h) (x2.sub _ _ h1) e3
  have asg := l_asgO _ _ _ top_
  -- from the walk over known numbers to the walk over the slice
  have lc := l_lc (is := [3]) (by decide) _ _ _ asg
  obtain ⟨env, G, s2, R, p⟩ := lc
  refine ⟨.ref a, rfl, 60, rfl, a, _, rfl, hS, fun q hq => ⟨q, rfl, ⟨_, SqL.of upd_same⟩, ?_⟩⟩
  rw [cutV_60]
  have E1 : Ex ⟨t, none⟩ G H (upd G q (.lst ((ns.take 60).map V.int))) (upd H q (.lst ((ns.take 60).map V.int))) s2 := .new R.ex.sub R.ex.box hq
  refine p _ _ (Itl t.K q) _ _ E1 (by rw [show ((ns.take 60).map D.int).length = ((ns.take 60).map V.int).length by rw [List.length_map, List.length_map]]; exact walk_list) (wok_at (K := t.K) (da_ints _) fun G1 H1 a b => SqL.of (b _ _ (a _ _ upd_same)))
end
end Kn

end

section
set_option Elab.async false
set_option linter.all false
set_option maxRecDepth 100000
set_option maxHeartbeats 4000000
/-! Bx2: law's def. -/
namespace Kn
open PySem PySem.Spec PyProof.Rows L2
def spLaw (K : PySem.W.Frag) : Sp := fun vs H Q _ => ∃ (a : Addr) (ns : List Int), vs = [.ref a] ∧ SqL K H a (ns.map V.int) ∧ ∀ H', Q (.bl true) H'
theorem FnOk.cx0 {P : Program} {w : World} {K : PySem.W.Frag} {mg : Str → Option Value} {base : Heap} {k : Nat} {f : Addr} {fd : FuncData} {ps : List Str} {sp : Sp} (F : FnOk P w K mg base (L2N.CX P w) k f fd ps sp)
    (h : ∀ vs H Q E, sp vs H Q E → sp vs H Q fun _ _ _ => False) : FnOk P w K mg base L2.CX0 k f fd ps sp :=
  ⟨F.len, fun A outer s H args us vs Q E hr he hb hv hs => codeAny_mono (F.run A outer s H args us vs Q _ hr he hb hv (h _ _ _ _ hs)) fun r s' c => by
    cases r with
    | ok r =>
      cases r <;> exact c
    | error e =>
      obtain ⟨_, _, _, _, _, _, _, _, _, _, _, _, z⟩ := c
      exact False.elim z⟩
section
variable {P : Program} {mg : Str → Option Value} {t : Sc}
theorem ok_law (T : Txt P mg t) (D : Is t.K mg "law" (top 42) ["script"]) : ∃ (fa : Addr) (fd : FuncData), (∀ (w : World) (base : Heap), FnOk P w t.K mg base (L2N.CX P w) 13 fa fd ["script"] (spLaw t.K)) ∧ mg "law" = some (.ref fa) ∧ ∀ (s : Shared) (u : Value), BindsTo s fd ⟨[u], []⟩ [("script", u)] := by
  obtain ⟨fa, fd, F, hm, hb0, hkw⟩ := D.ex
  refine ⟨fa, fd, fun w base => ?_, hm, fun s u => ?_⟩
  case refine_2 =>
    obtain ⟨oc, od, kV, doc, pm, an, cdv, ct, osl, rfl, lk, hcd⟩ := F.ex
    exact .of_eq rfl
  obtain ⟨oc, od, kV, doc, pm, an, cdv, ct, osl, rfl, lk, hcd⟩ := F.ex
  obtain ⟨fb, fbd, FB, hmb, hkb, hbb⟩ := c_law_box (P := P) (w := w) (base := base) T
  refine fn_of (k := 12) lk hcd s_law (fun vs H Q E ⟨a, ns, e, _⟩ => by rw [e]; rfl) fun A outer s H vs Q E hr ⟨a, ns, ev, hS, k⟩ => ?_
  have tk : L2N.Takes (cxOf (L2N.CX P w) P w t.K mg base ["script", "box", "many", "deeds", "text", "turn", "value", "handed", "rows", "at", "found", "kind", "places"] "law" (defScope (top 42)) fa cdv A outer s H E) (fun cl d _ H' => E cl d H') := L2N.takes_of rfl rfl rfl rfl
  refine ⟨tSeq (tAsg (tCallS (spBox t.K) (WE fun cl d _ H' => E cl d H') (tCons (tVar 0) tNil)) (gName 1)) (fun K σ H' => ∃ bx H0, lS ⟨t, bx⟩ noH H0 (fun cl d _ H' => E cl d H') b_law K σ H'), ?_, ?_⟩
  · refine pss_cons (rest := List.drop 1 (defBody (top 42))) (ps_set (i := 1) s_law.nd rfl (by first | exact .inl rfl | exact .inr rfl) (pe_callS FB (hr.mono (by decide)) (by rfl) hmb hkb hbb (fun σ => L2N.passAt tk σ) (by exact (pa_cons (pv 0) pa_nil)))) ⟨fun pins s1 σ H1 K I ⟨bx, H0, q⟩ => (r_law T hr tk (passes_of rfl)).run pins s1 σ H1 K I q⟩
  · subst ev
    refine ⟨_, rfl, a, ns, rfl, hS, fun H' b p2 cells blend hb hp2 ok => ?_⟩
    have bp : b ≠ p2 := fun e => by
      rw [e, hp2] at hb
      have := Option.some.inj hb
      cases cells with
      | nil => cases this
      | cons x r => cases this
    obtain ⟨s', e⟩ := law_ok (S0 := .un) ok
    refine ⟨some (b, p2), H', [.un, .sh .box, .un, .un, .un, .un, .un, .un, .un, .un, .un, .un, .un], noH, ⟨cells, blend⟩, ?_, ?_⟩
    · have BA : BoxAt ⟨t, some (b, p2)⟩ ⟨cells, blend⟩ H' := fun p hp => by
        cases hp
        exact ⟨hb, hp2, bp⟩
      refine ⟨.refl noH_same BA, ⟨_, BA⟩, fun _ _ => rfl, rfl, fun _ => 0, fun i e he => ?_, fun i j l m hi hj _ => ?_⟩
      · match i, he with
        | 0, he | 2, he | 3, he | 4, he | 5, he | 6, he | 7, he | 8, he | 9, he | 10, he | 11, he | 12, he => cases he; trivial
        | 1, he => cases he; exact ⟨_, rfl, Dd.box (c := ⟨t, some (b, p2)⟩) (p := (b, p2)) rfl⟩
        | i + 13, he => cases he
      · match i, hi with
        | 0, hi | 1, hi | 2, hi | 3, hi | 4, hi | 5, hi | 6, hi | 7, hi | 8, hi | 9, hi | 10, hi | 11, hi | 12, hi => cases hi
        | i + 13, hi => cases hi
    · rw [e]
      intro v G2 H2 x2 q
      cases q
      exact k _
end
end Kn

end

section
set_option Elab.async false
set_option linter.all false
set_option maxRecDepth 100000
set_option maxHeartbeats 4000000
/-! Fct: what stands behind the top, from the written part's facts. -/
namespace Kn
open PySem PySem.Spec PyProof.Rows L2 PySem.W
/-- the classes' names and where they stand -/
def clOf : List (Str × Addr) → Str → Option Addr
  | [], _ => none
  | (x, a) :: r, n => if n = x then some a else clOf r n
theorem clOf_hd {x : Str} {a : Addr} {r : List (Str × Addr)} : clOf ((x, a) :: r) x = some a := if_pos rfl
theorem clOf_tl {x n : Str} {a b : Addr} {r : List (Str × Addr)} (h : n ≠ x) (q : clOf r n = some b) : clOf ((x, a) :: r) n = some b := (if_neg h).trans q
section
variable {P : Program} {K : Frag} {h : Heap} {mg : Str → Option Value}
theorem is_mk (X : K.In h) (G : h.Ns mainGlobals mg) {x : Str} {st : Stmt} {ps : List Str} {fa : Addr} {oc : Value} {od an : Option Addr} {osl : Array (Option Value)} {kV doc pm cdv ct : Value}
    (a : nsIn K mainGlobals x = some (some (.ref fa))) (l : K.lookup fa = some ⟨oc, od, .func (fnOf x x (defArgs st) (defBody st) (defScope st) .none kV doc pm an cdv ct), osl⟩) (c : codeIn K cdv x = true) (k : keepIn K (.ref fa) = true)
    (hb : ∀ (kV doc pm : Value) (an : Option Addr) (cdv ct : Value) (us : List Value), us.length = ps.length → bindArgs (fnOf x x (defArgs st) (defBody st) (defScope st) .none kV doc pm an cdv ct) ⟨us, []⟩ = pure (ps.zip us))
    (hk : ∀ (kV doc pm : Value) (an : Option Addr) (cdv ct : Value) (kn : Str), ps = [kn] → ∀ (s : Shared) (u : Value), BindsTo s (fnOf x x (defArgs st) (defBody st) (defScope st) .none kV doc pm an cdv ct) ⟨[], [(kn, u)]⟩ [(kn, u)]) : Is K mg x st ps :=
  ⟨⟨fa, _, fun_mk l c k, mg_of X G a, (fun_mk l c k).binds hb, fun kn e s u => hk _ _ _ _ _ _ kn e s u⟩⟩
/-- an error of the class at S is what «except S» names -/
theorem ex_one {S : Addr} (h1 : subIn K (.ref S) (.type "BaseException") = some true) (h2 : isClsIn K S = true) (h3 : typeIn K (.ref S) = some (.type "type")) (h4 : subIn K (.ref S) (.ref S) = some true) : exmOne K (.ref S) (.ref S) = some true := by
  have a : (subIn K (.ref S) (.type "BaseException") == some true) = true := by rw [h1]; rfl
  have b : ((clsIn K S).isSome && typeIn K (.ref S) == some (.type "type")) = true := by
    have z : (clsIn K S).isSome = true := h2
    rw [z, h3]; rfl
  unfold exmOne
  rw [if_pos a]
  show (if ((clsIn K S).isSome && typeIn K (.ref S) == some (.type "type")) = true then subIn K (.ref S) (.ref S) else none) = _
  rw [if_pos b, h4]
theorem er_mk {t : Sc} (hK : t.K = K) (X : K.In h) (G : h.Ns mainGlobals mg) {nm fl qn : Str} {C B fI cc cda : Addr}
    {n1 q1 : Str} {N : Addr} {bs : List Value} {sn : List Str} {sub : List Value} {ab : Bool} {col : Option Bool} {dd : Option Addr} {k0 k1 k2 k3 k5 : Option Value}
    {n2 q2 : Str} {N2 : Addr} {bs2 : List Value} {h2 : Bool} {sn2 : List Str} {sub2 : List Value} {ab2 : Bool} {col2 : Option Bool} {dd2 : Option Addr} {j0 j1 j2 j3 j5 : Option Value} {nw2 : String}
    {oc cl ccl : Value} {od an cld cdd : Option Addr} {doc pm ct : Value} {osl csl ccs : Array (Option Value)} {vs : Array Value} {file : Str} {tf : Tok} {p1 p2 r1 r2 r3 r4 r5 r6 r7 r8 r9 r10 : Pos} {j : Nat} {msg : Str}
    (hcl : t.cl nm = some C) (hfl : t.fld nm = fl)
    (a : nsIn K mainGlobals nm = some (some (.ref C)))
    (xL : K.lookup C = some (excClassObj n1 q1 C N bs (.ref B :: baseTail) true sn sub ab col dd k0 k1 k2 k3 k5 "Exception.__new__"))
    (xB : K.lookup B = some (excClassObj n2 q2 B N2 bs2 baseTail h2 sn2 sub2 ab2 col2 dd2 j0 j1 j2 j3 j5 nw2))
    (sa : findIn K (.ref C) "__setattr__" = some (some (.builtin "object.__setattr__"))) (ga : findIn K (.ref C) "__getattribute__" = some (some (.builtin "BaseException.__getattribute__"))) (gg : findIn K (.ref C) "__getattr__" = some none)
    (nf : findIn K (.ref C) fl = some none) (ic : findIn K (.ref C) "__init__" = some (some (.ref fI))) (ib : findIn K (.ref B) "__init__" = some (some (.builtin "Exception.__init__")))
    (tI : typeIn K (.ref fI) = some (.type "function")) (kC : keepIn K (.ref C) = true) (eB : subIn K (.ref C) (.type "BaseException") = some true) (eE : subIn K (.ref C) (.type "Exception") = some true) (tC : typeIn K (.ref C) = some (.type "type")) (hd : hasDictIn K C = true) (iC : isClsIn K C = true) (sC : subIn K (.ref C) (.ref C) = some true)
    (op : nsIn K cStatics "thirdparty.any" = some none) (su : nsIn K mainGlobals "super" = some none) (tp : (P.main.scope.names.lookup ("super" : Str)).isSome = false)
    (lI : K.lookup fI = some ⟨oc, od, .func (fnX "__init__" qn (erA p1 p2 fl) (erB r1 r2 r3 r4 r5 r6 r7 r8 r9 r10 j msg fl) (erS fl) [("__class__", cc)] .none .none doc pm an (.ref cda) ct), osl⟩)
    (ce : K.lookup cc = some ⟨cl, cld, .cell (some (.ref C)), csl⟩) (co : K.lookup cda = some ⟨ccl, cdd, .fields vs, ccs⟩) (cv : vs[2]? = some (.str file tf)) (cf : ((P.main.file : Str) == file) = true) (cq : codeIn K (.ref cda) qn = true)
    (fo : (("self" : Str) == fl) = false ∧ (fl == ("__debug__" : Str)) = false ∧ ((fl == ("super" : Str)) = false ∧ (fl == ("__class__" : Str)) = false)) (hl : (r3.endLine == r5.line) = true)
    (hb : ∀ u v : Value, bindArgs (fnX "__init__" qn (erA p1 p2 fl) (erB r1 r2 r3 r4 r5 r6 r7 r8 r9 r10 j msg fl) (erS fl) [("__class__", cc)] .none .none doc pm an (.ref cda) ct) ⟨[u, v], []⟩ = pure [(("self" : Str), u), (fl, v)]) : Er P mg t nm fl := by
  subst hK
  have te := ex_one eB iC tC sC
  refine ⟨qn, C, B, fI, cc, cda, { gC := mg_of X G a, cls := ⟨n1, q1, N, bs, sn, sub, ab, col, dd, k0, k1, k2, k3, k5, xL⟩, sa := sa, ga := ga, gg := gg, noN := nf, iC := ic, iB := ?_, tC := tI, kC := kC, exC := eB, eC := eE, tyC := tC, hdC := hd, te := te, op := op, su := mg_none_of X G su, top := tp, cell := ⟨_, _, _, ce⟩, code := ⟨_, _, _, _, _, _, co, cv, cf⟩, cdq := cq, flOk := fo, fn := ⟨_, _, _, _, _, _, _, p1, p2, r1, r2, r3, r4, r5, r6, r7, r8, r9, r10, j, msg, hl, lI, hb⟩ }, hcl, hfl, te, ⟨ga, gg, eB, hd⟩, nf⟩
  have := ib
  unfold findIn at this
  dsimp only at this
  rw [xB] at this
  exact this
end
end Kn

end

section
set_option Elab.async false
set_option linter.all false
set_option maxRecDepth 100000
set_option maxHeartbeats 4000000
/-! what stands behind the top -/
namespace Kn
open PySem PySem.Spec PyProof.Rows L2 PySem.W
theorem all_mk {P : Program} {w : World} {K : Frag} {h : Heap} {mg : Str → Option Value} {fa : Addr} (X : K.In h) (G : h.Ns mainGlobals mg) (hfa : mg "law" = some (.ref fa))
    {d_is_integerf : Addr} {d_is_integer1 d_is_integer2 d_is_integer3 d_is_integer4 d_is_integer5 d_is_integer6 : Value} {d_is_integer7 d_is_integer8 : Option Addr} {d_is_integer9 : Array (Option Value)}
    {d_is_numberf : Addr} {d_is_number1 d_is_number2 d_is_number3 d_is_number4 d_is_number5 d_is_number6 : Value} {d_is_number7 d_is_number8 : Option Addr} {d_is_number9 : Array (Option Value)}
    {d_is_belowf : Addr} {d_is_below1 d_is_below2 d_is_below3 d_is_below4 d_is_below5 d_is_below6 : Value} {d_is_below7 d_is_below8 : Option Addr} {d_is_below9 : Array (Option Value)}
    {d_is_sequencef : Addr} {d_is_sequence1 d_is_sequence2 d_is_sequence3 d_is_sequence4 d_is_sequence5 d_is_sequence6 : Value} {d_is_sequence7 d_is_sequence8 : Option Addr} {d_is_sequence9 : Array (Option Value)}
    {d_is_rowf : Addr} {d_is_row1 d_is_row2 d_is_row3 d_is_row4 d_is_row5 d_is_row6 : Value} {d_is_row7 d_is_row8 : Option Addr} {d_is_row9 : Array (Option Value)}
    {d_is_told_rowf : Addr} {d_is_told_row1 d_is_told_row2 d_is_told_row3 d_is_told_row4 d_is_told_row5 d_is_told_row6 : Value} {d_is_told_row7 d_is_told_row8 : Option Addr} {d_is_told_row9 : Array (Option Value)}
    {d_is_lotf : Addr} {d_is_lot1 d_is_lot2 d_is_lot3 d_is_lot4 d_is_lot5 d_is_lot6 : Value} {d_is_lot7 d_is_lot8 : Option Addr} {d_is_lot9 : Array (Option Value)}
    {d_integer_off : Addr} {d_integer_of1 d_integer_of2 d_integer_of3 d_integer_of4 d_integer_of5 d_integer_of6 : Value} {d_integer_of7 d_integer_of8 : Option Addr} {d_integer_of9 : Array (Option Value)}
    {d_integers_off : Addr} {d_integers_of1 d_integers_of2 d_integers_of3 d_integers_of4 d_integers_of5 d_integers_of6 : Value} {d_integers_of7 d_integers_of8 : Option Addr} {d_integers_of9 : Array (Option Value)}
    {d_rows_off : Addr} {d_rows_of1 d_rows_of2 d_rows_of3 d_rows_of4 d_rows_of5 d_rows_of6 : Value} {d_rows_of7 d_rows_of8 : Option Addr} {d_rows_of9 : Array (Option Value)}
    {d_row_textf : Addr} {d_row_text1 d_row_text2 d_row_text3 d_row_text4 d_row_text5 d_row_text6 : Value} {d_row_text7 d_row_text8 : Option Addr} {d_row_text9 : Array (Option Value)}
    {d_numbers_atf : Addr} {d_numbers_at1 d_numbers_at2 d_numbers_at3 d_numbers_at4 d_numbers_at5 d_numbers_at6 : Value} {d_numbers_at7 d_numbers_at8 : Option Addr} {d_numbers_at9 : Array (Option Value)}
    {d_is_told_deedf : Addr} {d_is_told_deed1 d_is_told_deed2 d_is_told_deed3 d_is_told_deed4 d_is_told_deed5 d_is_told_deed6 : Value} {d_is_told_deed7 d_is_told_deed8 : Option Addr} {d_is_told_deed9 : Array (Option Value)}
    {d_course_textf : Addr} {d_course_text1 d_course_text2 d_course_text3 d_course_text4 d_course_text5 d_course_text6 : Value} {d_course_text7 d_course_text8 : Option Addr} {d_course_text9 : Array (Option Value)}
    {d_read_coursef : Addr} {d_read_course1 d_read_course2 d_read_course3 d_read_course4 d_read_course5 d_read_course6 : Value} {d_read_course7 d_read_course8 : Option Addr} {d_read_course9 : Array (Option Value)}
    {d_law_boxf : Addr} {d_law_box1 d_law_box2 d_law_box3 d_law_box4 d_law_box5 d_law_box6 : Value} {d_law_box7 d_law_box8 : Option Addr} {d_law_box9 : Array (Option Value)}
    {d_law_drawf : Addr} {d_law_draw1 d_law_draw2 d_law_draw3 d_law_draw4 d_law_draw5 d_law_draw6 : Value} {d_law_draw7 d_law_draw8 : Option Addr} {d_law_draw9 : Array (Option Value)}
    {d_law_pickf : Addr} {d_law_pick1 d_law_pick2 d_law_pick3 d_law_pick4 d_law_pick5 d_law_pick6 : Value} {d_law_pick7 d_law_pick8 : Option Addr} {d_law_pick9 : Array (Option Value)}
    {d_law_tellsf : Addr} {d_law_tells1 d_law_tells2 d_law_tells3 d_law_tells4 d_law_tells5 d_law_tells6 : Value} {d_law_tells7 d_law_tells8 : Option Addr} {d_law_tells9 : Array (Option Value)}
    {d_law_is_intf : Addr} {d_law_is_int1 d_law_is_int2 d_law_is_int3 d_law_is_int4 d_law_is_int5 d_law_is_int6 : Value} {d_law_is_int7 d_law_is_int8 : Option Addr} {d_law_is_int9 : Array (Option Value)}
    {d_law_placef : Addr} {d_law_place1 d_law_place2 d_law_place3 d_law_place4 d_law_place5 d_law_place6 : Value} {d_law_place7 d_law_place8 : Option Addr} {d_law_place9 : Array (Option Value)}
    {d_law_samef : Addr} {d_law_same1 d_law_same2 d_law_same3 d_law_same4 d_law_same5 d_law_same6 : Value} {d_law_same7 d_law_same8 : Option Addr} {d_law_same9 : Array (Option Value)}
    {d_law_row_textf : Addr} {d_law_row_text1 d_law_row_text2 d_law_row_text3 d_law_row_text4 d_law_row_text5 d_law_row_text6 : Value} {d_law_row_text7 d_law_row_text8 : Option Addr} {d_law_row_text9 : Array (Option Value)}
    {d_law_bad_wordf : Addr} {d_law_bad_word1 d_law_bad_word2 d_law_bad_word3 d_law_bad_word4 d_law_bad_word5 d_law_bad_word6 : Value} {d_law_bad_word7 d_law_bad_word8 : Option Addr} {d_law_bad_word9 : Array (Option Value)}
    {d_law_bad_formf : Addr} {d_law_bad_form1 d_law_bad_form2 d_law_bad_form3 d_law_bad_form4 d_law_bad_form5 d_law_bad_form6 : Value} {d_law_bad_form7 d_law_bad_form8 : Option Addr} {d_law_bad_form9 : Array (Option Value)}
    {d_law_readf : Addr} {d_law_read1 d_law_read2 d_law_read3 d_law_read4 d_law_read5 d_law_read6 : Value} {d_law_read7 d_law_read8 : Option Addr} {d_law_read9 : Array (Option Value)}
    {d_law_writtenf : Addr} {d_law_written1 d_law_written2 d_law_written3 d_law_written4 d_law_written5 d_law_written6 : Value} {d_law_written7 d_law_written8 : Option Addr} {d_law_written9 : Array (Option Value)}
    {d_law_deedf : Addr} {d_law_deed1 d_law_deed2 d_law_deed3 d_law_deed4 d_law_deed5 d_law_deed6 : Value} {d_law_deed7 d_law_deed8 : Option Addr} {d_law_deed9 : Array (Option Value)}
    {d_law_rowsf : Addr} {d_law_rows1 d_law_rows2 d_law_rows3 d_law_rows4 d_law_rows5 d_law_rows6 : Value} {d_law_rows7 d_law_rows8 : Option Addr} {d_law_rows9 : Array (Option Value)}
    {d_law_bad_deedf : Addr} {d_law_bad_deed1 d_law_bad_deed2 d_law_bad_deed3 d_law_bad_deed4 d_law_bad_deed5 d_law_bad_deed6 : Value} {d_law_bad_deed7 d_law_bad_deed8 : Option Addr} {d_law_bad_deed9 : Array (Option Value)}
    {d_law_bad_rowf : Addr} {d_law_bad_row1 d_law_bad_row2 d_law_bad_row3 d_law_bad_row4 d_law_bad_row5 d_law_bad_row6 : Value} {d_law_bad_row7 d_law_bad_row8 : Option Addr} {d_law_bad_row9 : Array (Option Value)}
    {d_law_wrong_textsf : Addr} {d_law_wrong_texts1 d_law_wrong_texts2 d_law_wrong_texts3 d_law_wrong_texts4 d_law_wrong_texts5 d_law_wrong_texts6 : Value} {d_law_wrong_texts7 d_law_wrong_texts8 : Option Addr} {d_law_wrong_texts9 : Array (Option Value)}
    {v_MOST_VISITSt : Tok}
    {v_FIGURESt : Tok}
    {v_MOST_FIGURESt : Tok}
    {d_lawf : Addr} {d_law1 d_law2 d_law3 d_law4 d_law5 d_law6 : Value} {d_law7 d_law8 : Option Addr} {d_law9 : Array (Option Value)}
    {e_InvalidCourseqn : Str} {e_InvalidCourseC e_InvalidCourseB e_InvalidCoursefI e_InvalidCoursecc e_InvalidCoursecda : Addr} {e_InvalidCoursen1 e_InvalidCourseq1 : Str} {e_InvalidCourseN : Addr} {e_InvalidCoursebs : List Value} {e_InvalidCoursesn : List Str} {e_InvalidCoursesub : List Value} {e_InvalidCourseab : Bool} {e_InvalidCoursecol : Option Bool} {e_InvalidCoursedd : Option Addr} {e_InvalidCoursek0 e_InvalidCoursek1 e_InvalidCoursek2 e_InvalidCoursek3 e_InvalidCoursek5 : Option Value}
    {e_InvalidCoursen2 e_InvalidCourseq2 : Str} {e_InvalidCourseN2 : Addr} {e_InvalidCoursebs2 : List Value} {e_InvalidCourseh2 : Bool} {e_InvalidCoursesn2 : List Str} {e_InvalidCoursesub2 : List Value} {e_InvalidCourseab2 : Bool} {e_InvalidCoursecol2 : Option Bool} {e_InvalidCoursedd2 : Option Addr} {e_InvalidCoursej0 e_InvalidCoursej1 e_InvalidCoursej2 e_InvalidCoursej3 e_InvalidCoursej5 : Option Value} {e_InvalidCoursenw2 : String}
    {e_InvalidCourseoc e_InvalidCoursecl e_InvalidCourseccl : Value} {e_InvalidCourseod e_InvalidCoursean e_InvalidCoursecld e_InvalidCoursecdd : Option Addr} {e_InvalidCoursedoc e_InvalidCoursepm e_InvalidCoursect : Value} {e_InvalidCourseosl e_InvalidCoursecsl e_InvalidCourseccs : Array (Option Value)} {e_InvalidCoursevs : Array Value} {e_InvalidCoursefile : Str} {e_InvalidCoursetf : Tok} {e_InvalidCoursep1 e_InvalidCoursep2 e_InvalidCourser1 e_InvalidCourser2 e_InvalidCourser3 e_InvalidCourser4 e_InvalidCourser5 e_InvalidCourser6 e_InvalidCourser7 e_InvalidCourser8 e_InvalidCourser9 e_InvalidCourser10 : Pos} {e_InvalidCoursej : Nat} {e_InvalidCoursemsg : Str}
    {e_InvalidTextqn : Str} {e_InvalidTextC e_InvalidTextB e_InvalidTextfI e_InvalidTextcc e_InvalidTextcda : Addr} {e_InvalidTextn1 e_InvalidTextq1 : Str} {e_InvalidTextN : Addr} {e_InvalidTextbs : List Value} {e_InvalidTextsn : List Str} {e_InvalidTextsub : List Value} {e_InvalidTextab : Bool} {e_InvalidTextcol : Option Bool} {e_InvalidTextdd : Option Addr} {e_InvalidTextk0 e_InvalidTextk1 e_InvalidTextk2 e_InvalidTextk3 e_InvalidTextk5 : Option Value}
    {e_InvalidTextn2 e_InvalidTextq2 : Str} {e_InvalidTextN2 : Addr} {e_InvalidTextbs2 : List Value} {e_InvalidTexth2 : Bool} {e_InvalidTextsn2 : List Str} {e_InvalidTextsub2 : List Value} {e_InvalidTextab2 : Bool} {e_InvalidTextcol2 : Option Bool} {e_InvalidTextdd2 : Option Addr} {e_InvalidTextj0 e_InvalidTextj1 e_InvalidTextj2 e_InvalidTextj3 e_InvalidTextj5 : Option Value} {e_InvalidTextnw2 : String}
    {e_InvalidTextoc e_InvalidTextcl e_InvalidTextccl : Value} {e_InvalidTextod e_InvalidTextan e_InvalidTextcld e_InvalidTextcdd : Option Addr} {e_InvalidTextdoc e_InvalidTextpm e_InvalidTextct : Value} {e_InvalidTextosl e_InvalidTextcsl e_InvalidTextccs : Array (Option Value)} {e_InvalidTextvs : Array Value} {e_InvalidTextfile : Str} {e_InvalidTexttf : Tok} {e_InvalidTextp1 e_InvalidTextp2 e_InvalidTextr1 e_InvalidTextr2 e_InvalidTextr3 e_InvalidTextr4 e_InvalidTextr5 e_InvalidTextr6 e_InvalidTextr7 e_InvalidTextr8 e_InvalidTextr9 e_InvalidTextr10 : Pos} {e_InvalidTextj : Nat} {e_InvalidTextmsg : Str}
    (d_is_integera : nsIn K mainGlobals "is_integer" = some (some (.ref d_is_integerf)))
    (d_is_integerl : K.lookup d_is_integerf = some ⟨d_is_integer1, d_is_integer7, .func (fnOf "is_integer" "is_integer" (defArgs (top 5)) (defBody (top 5)) (defScope (top 5)) .none d_is_integer2 d_is_integer3 d_is_integer4 d_is_integer8 d_is_integer5 d_is_integer6), d_is_integer9⟩)
    (d_is_integerc : codeIn K d_is_integer5 "is_integer" = true)
    (d_is_integerk : keepIn K (.ref d_is_integerf) = true)
    (d_is_numbera : nsIn K mainGlobals "is_number" = some (some (.ref d_is_numberf)))
    (d_is_numberl : K.lookup d_is_numberf = some ⟨d_is_number1, d_is_number7, .func (fnOf "is_number" "is_number" (defArgs (top 6)) (defBody (top 6)) (defScope (top 6)) .none d_is_number2 d_is_number3 d_is_number4 d_is_number8 d_is_number5 d_is_number6), d_is_number9⟩)
    (d_is_numberc : codeIn K d_is_number5 "is_number" = true)
    (d_is_numberk : keepIn K (.ref d_is_numberf) = true)
    (d_is_belowa : nsIn K mainGlobals "is_below" = some (some (.ref d_is_belowf)))
    (d_is_belowl : K.lookup d_is_belowf = some ⟨d_is_below1, d_is_below7, .func (fnOf "is_below" "is_below" (defArgs (top 7)) (defBody (top 7)) (defScope (top 7)) .none d_is_below2 d_is_below3 d_is_below4 d_is_below8 d_is_below5 d_is_below6), d_is_below9⟩)
    (d_is_belowc : codeIn K d_is_below5 "is_below" = true)
    (d_is_belowk : keepIn K (.ref d_is_belowf) = true)
    (d_is_sequencea : nsIn K mainGlobals "is_sequence" = some (some (.ref d_is_sequencef)))
    (d_is_sequencel : K.lookup d_is_sequencef = some ⟨d_is_sequence1, d_is_sequence7, .func (fnOf "is_sequence" "is_sequence" (defArgs (top 8)) (defBody (top 8)) (defScope (top 8)) .none d_is_sequence2 d_is_sequence3 d_is_sequence4 d_is_sequence8 d_is_sequence5 d_is_sequence6), d_is_sequence9⟩)
    (d_is_sequencec : codeIn K d_is_sequence5 "is_sequence" = true)
    (d_is_sequencek : keepIn K (.ref d_is_sequencef) = true)
    (d_is_rowa : nsIn K mainGlobals "is_row" = some (some (.ref d_is_rowf)))
    (d_is_rowl : K.lookup d_is_rowf = some ⟨d_is_row1, d_is_row7, .func (fnOf "is_row" "is_row" (defArgs (top 9)) (defBody (top 9)) (defScope (top 9)) .none d_is_row2 d_is_row3 d_is_row4 d_is_row8 d_is_row5 d_is_row6), d_is_row9⟩)
    (d_is_rowc : codeIn K d_is_row5 "is_row" = true)
    (d_is_rowk : keepIn K (.ref d_is_rowf) = true)
    (d_is_told_rowa : nsIn K mainGlobals "is_told_row" = some (some (.ref d_is_told_rowf)))
    (d_is_told_rowl : K.lookup d_is_told_rowf = some ⟨d_is_told_row1, d_is_told_row7, .func (fnOf "is_told_row" "is_told_row" (defArgs (top 10)) (defBody (top 10)) (defScope (top 10)) .none d_is_told_row2 d_is_told_row3 d_is_told_row4 d_is_told_row8 d_is_told_row5 d_is_told_row6), d_is_told_row9⟩)
    (d_is_told_rowc : codeIn K d_is_told_row5 "is_told_row" = true)
    (d_is_told_rowk : keepIn K (.ref d_is_told_rowf) = true)
    (d_is_lota : nsIn K mainGlobals "is_lot" = some (some (.ref d_is_lotf)))
    (d_is_lotl : K.lookup d_is_lotf = some ⟨d_is_lot1, d_is_lot7, .func (fnOf "is_lot" "is_lot" (defArgs (top 11)) (defBody (top 11)) (defScope (top 11)) .none d_is_lot2 d_is_lot3 d_is_lot4 d_is_lot8 d_is_lot5 d_is_lot6), d_is_lot9⟩)
    (d_is_lotc : codeIn K d_is_lot5 "is_lot" = true)
    (d_is_lotk : keepIn K (.ref d_is_lotf) = true)
    (d_integer_ofa : nsIn K mainGlobals "integer_of" = some (some (.ref d_integer_off)))
    (d_integer_ofl : K.lookup d_integer_off = some ⟨d_integer_of1, d_integer_of7, .func (fnOf "integer_of" "integer_of" (defArgs (top 16)) (defBody (top 16)) (defScope (top 16)) .none d_integer_of2 d_integer_of3 d_integer_of4 d_integer_of8 d_integer_of5 d_integer_of6), d_integer_of9⟩)
    (d_integer_ofc : codeIn K d_integer_of5 "integer_of" = true)
    (d_integer_ofk : keepIn K (.ref d_integer_off) = true)
    (d_integers_ofa : nsIn K mainGlobals "integers_of" = some (some (.ref d_integers_off)))
    (d_integers_ofl : K.lookup d_integers_off = some ⟨d_integers_of1, d_integers_of7, .func (fnOf "integers_of" "integers_of" (defArgs (top 17)) (defBody (top 17)) (defScope (top 17)) .none d_integers_of2 d_integers_of3 d_integers_of4 d_integers_of8 d_integers_of5 d_integers_of6), d_integers_of9⟩)
    (d_integers_ofc : codeIn K d_integers_of5 "integers_of" = true)
    (d_integers_ofk : keepIn K (.ref d_integers_off) = true)
    (d_rows_ofa : nsIn K mainGlobals "rows_of" = some (some (.ref d_rows_off)))
    (d_rows_ofl : K.lookup d_rows_off = some ⟨d_rows_of1, d_rows_of7, .func (fnOf "rows_of" "rows_of" (defArgs (top 18)) (defBody (top 18)) (defScope (top 18)) .none d_rows_of2 d_rows_of3 d_rows_of4 d_rows_of8 d_rows_of5 d_rows_of6), d_rows_of9⟩)
    (d_rows_ofc : codeIn K d_rows_of5 "rows_of" = true)
    (d_rows_ofk : keepIn K (.ref d_rows_off) = true)
    (d_row_texta : nsIn K mainGlobals "row_text" = some (some (.ref d_row_textf)))
    (d_row_textl : K.lookup d_row_textf = some ⟨d_row_text1, d_row_text7, .func (fnOf "row_text" "row_text" (defArgs (top 19)) (defBody (top 19)) (defScope (top 19)) .none d_row_text2 d_row_text3 d_row_text4 d_row_text8 d_row_text5 d_row_text6), d_row_text9⟩)
    (d_row_textc : codeIn K d_row_text5 "row_text" = true)
    (d_row_textk : keepIn K (.ref d_row_textf) = true)
    (d_numbers_ata : nsIn K mainGlobals "numbers_at" = some (some (.ref d_numbers_atf)))
    (d_numbers_atl : K.lookup d_numbers_atf = some ⟨d_numbers_at1, d_numbers_at7, .func (fnOf "numbers_at" "numbers_at" (defArgs (top 20)) (defBody (top 20)) (defScope (top 20)) .none d_numbers_at2 d_numbers_at3 d_numbers_at4 d_numbers_at8 d_numbers_at5 d_numbers_at6), d_numbers_at9⟩)
    (d_numbers_atc : codeIn K d_numbers_at5 "numbers_at" = true)
    (d_numbers_atk : keepIn K (.ref d_numbers_atf) = true)
    (d_is_told_deeda : nsIn K mainGlobals "is_told_deed" = some (some (.ref d_is_told_deedf)))
    (d_is_told_deedl : K.lookup d_is_told_deedf = some ⟨d_is_told_deed1, d_is_told_deed7, .func (fnOf "is_told_deed" "is_told_deed" (defArgs (top 21)) (defBody (top 21)) (defScope (top 21)) .none d_is_told_deed2 d_is_told_deed3 d_is_told_deed4 d_is_told_deed8 d_is_told_deed5 d_is_told_deed6), d_is_told_deed9⟩)
    (d_is_told_deedc : codeIn K d_is_told_deed5 "is_told_deed" = true)
    (d_is_told_deedk : keepIn K (.ref d_is_told_deedf) = true)
    (d_course_texta : nsIn K mainGlobals "course_text" = some (some (.ref d_course_textf)))
    (d_course_textl : K.lookup d_course_textf = some ⟨d_course_text1, d_course_text7, .func (fnOf "course_text" "course_text" (defArgs (top 22)) (defBody (top 22)) (defScope (top 22)) .none d_course_text2 d_course_text3 d_course_text4 d_course_text8 d_course_text5 d_course_text6), d_course_text9⟩)
    (d_course_textc : codeIn K d_course_text5 "course_text" = true)
    (d_course_textk : keepIn K (.ref d_course_textf) = true)
    (d_read_coursea : nsIn K mainGlobals "read_course" = some (some (.ref d_read_coursef)))
    (d_read_coursel : K.lookup d_read_coursef = some ⟨d_read_course1, d_read_course7, .func (fnOf "read_course" "read_course" (defArgs (top 23)) (defBody (top 23)) (defScope (top 23)) .none d_read_course2 d_read_course3 d_read_course4 d_read_course8 d_read_course5 d_read_course6), d_read_course9⟩)
    (d_read_coursec : codeIn K d_read_course5 "read_course" = true)
    (d_read_coursek : keepIn K (.ref d_read_coursef) = true)
    (d_law_boxa : nsIn K mainGlobals "_law_box" = some (some (.ref d_law_boxf)))
    (d_law_boxl : K.lookup d_law_boxf = some ⟨d_law_box1, d_law_box7, .func (fnOf "_law_box" "_law_box" (defArgs (top 25)) (defBody (top 25)) (defScope (top 25)) .none d_law_box2 d_law_box3 d_law_box4 d_law_box8 d_law_box5 d_law_box6), d_law_box9⟩)
    (d_law_boxc : codeIn K d_law_box5 "_law_box" = true)
    (d_law_boxk : keepIn K (.ref d_law_boxf) = true)
    (d_law_drawa : nsIn K mainGlobals "_law_draw" = some (some (.ref d_law_drawf)))
    (d_law_drawl : K.lookup d_law_drawf = some ⟨d_law_draw1, d_law_draw7, .func (fnOf "_law_draw" "_law_draw" (defArgs (top 26)) (defBody (top 26)) (defScope (top 26)) .none d_law_draw2 d_law_draw3 d_law_draw4 d_law_draw8 d_law_draw5 d_law_draw6), d_law_draw9⟩)
    (d_law_drawc : codeIn K d_law_draw5 "_law_draw" = true)
    (d_law_drawk : keepIn K (.ref d_law_drawf) = true)
    (d_law_picka : nsIn K mainGlobals "_law_pick" = some (some (.ref d_law_pickf)))
    (d_law_pickl : K.lookup d_law_pickf = some ⟨d_law_pick1, d_law_pick7, .func (fnOf "_law_pick" "_law_pick" (defArgs (top 27)) (defBody (top 27)) (defScope (top 27)) .none d_law_pick2 d_law_pick3 d_law_pick4 d_law_pick8 d_law_pick5 d_law_pick6), d_law_pick9⟩)
    (d_law_pickc : codeIn K d_law_pick5 "_law_pick" = true)
    (d_law_pickk : keepIn K (.ref d_law_pickf) = true)
    (d_law_tellsa : nsIn K mainGlobals "_law_tells" = some (some (.ref d_law_tellsf)))
    (d_law_tellsl : K.lookup d_law_tellsf = some ⟨d_law_tells1, d_law_tells7, .func (fnOf "_law_tells" "_law_tells" (defArgs (top 28)) (defBody (top 28)) (defScope (top 28)) .none d_law_tells2 d_law_tells3 d_law_tells4 d_law_tells8 d_law_tells5 d_law_tells6), d_law_tells9⟩)
    (d_law_tellsc : codeIn K d_law_tells5 "_law_tells" = true)
    (d_law_tellsk : keepIn K (.ref d_law_tellsf) = true)
    (d_law_is_inta : nsIn K mainGlobals "_law_is_int" = some (some (.ref d_law_is_intf)))
    (d_law_is_intl : K.lookup d_law_is_intf = some ⟨d_law_is_int1, d_law_is_int7, .func (fnOf "_law_is_int" "_law_is_int" (defArgs (top 29)) (defBody (top 29)) (defScope (top 29)) .none d_law_is_int2 d_law_is_int3 d_law_is_int4 d_law_is_int8 d_law_is_int5 d_law_is_int6), d_law_is_int9⟩)
    (d_law_is_intc : codeIn K d_law_is_int5 "_law_is_int" = true)
    (d_law_is_intk : keepIn K (.ref d_law_is_intf) = true)
    (d_law_placea : nsIn K mainGlobals "_law_place" = some (some (.ref d_law_placef)))
    (d_law_placel : K.lookup d_law_placef = some ⟨d_law_place1, d_law_place7, .func (fnOf "_law_place" "_law_place" (defArgs (top 30)) (defBody (top 30)) (defScope (top 30)) .none d_law_place2 d_law_place3 d_law_place4 d_law_place8 d_law_place5 d_law_place6), d_law_place9⟩)
    (d_law_placec : codeIn K d_law_place5 "_law_place" = true)
    (d_law_placek : keepIn K (.ref d_law_placef) = true)
    (d_law_samea : nsIn K mainGlobals "_law_same" = some (some (.ref d_law_samef)))
    (d_law_samel : K.lookup d_law_samef = some ⟨d_law_same1, d_law_same7, .func (fnOf "_law_same" "_law_same" (defArgs (top 31)) (defBody (top 31)) (defScope (top 31)) .none d_law_same2 d_law_same3 d_law_same4 d_law_same8 d_law_same5 d_law_same6), d_law_same9⟩)
    (d_law_samec : codeIn K d_law_same5 "_law_same" = true)
    (d_law_samek : keepIn K (.ref d_law_samef) = true)
    (d_law_row_texta : nsIn K mainGlobals "_law_row_text" = some (some (.ref d_law_row_textf)))
    (d_law_row_textl : K.lookup d_law_row_textf = some ⟨d_law_row_text1, d_law_row_text7, .func (fnOf "_law_row_text" "_law_row_text" (defArgs (top 32)) (defBody (top 32)) (defScope (top 32)) .none d_law_row_text2 d_law_row_text3 d_law_row_text4 d_law_row_text8 d_law_row_text5 d_law_row_text6), d_law_row_text9⟩)
    (d_law_row_textc : codeIn K d_law_row_text5 "_law_row_text" = true)
    (d_law_row_textk : keepIn K (.ref d_law_row_textf) = true)
    (d_law_bad_worda : nsIn K mainGlobals "_law_bad_word" = some (some (.ref d_law_bad_wordf)))
    (d_law_bad_wordl : K.lookup d_law_bad_wordf = some ⟨d_law_bad_word1, d_law_bad_word7, .func (fnOf "_law_bad_word" "_law_bad_word" (defArgs (top 33)) (defBody (top 33)) (defScope (top 33)) .none d_law_bad_word2 d_law_bad_word3 d_law_bad_word4 d_law_bad_word8 d_law_bad_word5 d_law_bad_word6), d_law_bad_word9⟩)
    (d_law_bad_wordc : codeIn K d_law_bad_word5 "_law_bad_word" = true)
    (d_law_bad_wordk : keepIn K (.ref d_law_bad_wordf) = true)
    (d_law_bad_forma : nsIn K mainGlobals "_law_bad_form" = some (some (.ref d_law_bad_formf)))
    (d_law_bad_forml : K.lookup d_law_bad_formf = some ⟨d_law_bad_form1, d_law_bad_form7, .func (fnOf "_law_bad_form" "_law_bad_form" (defArgs (top 34)) (defBody (top 34)) (defScope (top 34)) .none d_law_bad_form2 d_law_bad_form3 d_law_bad_form4 d_law_bad_form8 d_law_bad_form5 d_law_bad_form6), d_law_bad_form9⟩)
    (d_law_bad_formc : codeIn K d_law_bad_form5 "_law_bad_form" = true)
    (d_law_bad_formk : keepIn K (.ref d_law_bad_formf) = true)
    (d_law_reada : nsIn K mainGlobals "_law_read" = some (some (.ref d_law_readf)))
    (d_law_readl : K.lookup d_law_readf = some ⟨d_law_read1, d_law_read7, .func (fnOf "_law_read" "_law_read" (defArgs (top 35)) (defBody (top 35)) (defScope (top 35)) .none d_law_read2 d_law_read3 d_law_read4 d_law_read8 d_law_read5 d_law_read6), d_law_read9⟩)
    (d_law_readc : codeIn K d_law_read5 "_law_read" = true)
    (d_law_readk : keepIn K (.ref d_law_readf) = true)
    (d_law_writtena : nsIn K mainGlobals "_law_written" = some (some (.ref d_law_writtenf)))
    (d_law_writtenl : K.lookup d_law_writtenf = some ⟨d_law_written1, d_law_written7, .func (fnOf "_law_written" "_law_written" (defArgs (top 36)) (defBody (top 36)) (defScope (top 36)) .none d_law_written2 d_law_written3 d_law_written4 d_law_written8 d_law_written5 d_law_written6), d_law_written9⟩)
    (d_law_writtenc : codeIn K d_law_written5 "_law_written" = true)
    (d_law_writtenk : keepIn K (.ref d_law_writtenf) = true)
    (d_law_deeda : nsIn K mainGlobals "_law_deed" = some (some (.ref d_law_deedf)))
    (d_law_deedl : K.lookup d_law_deedf = some ⟨d_law_deed1, d_law_deed7, .func (fnOf "_law_deed" "_law_deed" (defArgs (top 37)) (defBody (top 37)) (defScope (top 37)) .none d_law_deed2 d_law_deed3 d_law_deed4 d_law_deed8 d_law_deed5 d_law_deed6), d_law_deed9⟩)
    (d_law_deedc : codeIn K d_law_deed5 "_law_deed" = true)
    (d_law_deedk : keepIn K (.ref d_law_deedf) = true)
    (d_law_rowsa : nsIn K mainGlobals "_law_rows" = some (some (.ref d_law_rowsf)))
    (d_law_rowsl : K.lookup d_law_rowsf = some ⟨d_law_rows1, d_law_rows7, .func (fnOf "_law_rows" "_law_rows" (defArgs (top 38)) (defBody (top 38)) (defScope (top 38)) .none d_law_rows2 d_law_rows3 d_law_rows4 d_law_rows8 d_law_rows5 d_law_rows6), d_law_rows9⟩)
    (d_law_rowsc : codeIn K d_law_rows5 "_law_rows" = true)
    (d_law_rowsk : keepIn K (.ref d_law_rowsf) = true)
    (d_law_bad_deeda : nsIn K mainGlobals "_law_bad_deed" = some (some (.ref d_law_bad_deedf)))
    (d_law_bad_deedl : K.lookup d_law_bad_deedf = some ⟨d_law_bad_deed1, d_law_bad_deed7, .func (fnOf "_law_bad_deed" "_law_bad_deed" (defArgs (top 39)) (defBody (top 39)) (defScope (top 39)) .none d_law_bad_deed2 d_law_bad_deed3 d_law_bad_deed4 d_law_bad_deed8 d_law_bad_deed5 d_law_bad_deed6), d_law_bad_deed9⟩)
    (d_law_bad_deedc : codeIn K d_law_bad_deed5 "_law_bad_deed" = true)
    (d_law_bad_deedk : keepIn K (.ref d_law_bad_deedf) = true)
    (d_law_bad_rowa : nsIn K mainGlobals "_law_bad_row" = some (some (.ref d_law_bad_rowf)))
    (d_law_bad_rowl : K.lookup d_law_bad_rowf = some ⟨d_law_bad_row1, d_law_bad_row7, .func (fnOf "_law_bad_row" "_law_bad_row" (defArgs (top 40)) (defBody (top 40)) (defScope (top 40)) .none d_law_bad_row2 d_law_bad_row3 d_law_bad_row4 d_law_bad_row8 d_law_bad_row5 d_law_bad_row6), d_law_bad_row9⟩)
    (d_law_bad_rowc : codeIn K d_law_bad_row5 "_law_bad_row" = true)
    (d_law_bad_rowk : keepIn K (.ref d_law_bad_rowf) = true)
    (d_law_wrong_textsa : nsIn K mainGlobals "_law_wrong_texts" = some (some (.ref d_law_wrong_textsf)))
    (d_law_wrong_textsl : K.lookup d_law_wrong_textsf = some ⟨d_law_wrong_texts1, d_law_wrong_texts7, .func (fnOf "_law_wrong_texts" "_law_wrong_texts" (defArgs (top 41)) (defBody (top 41)) (defScope (top 41)) .none d_law_wrong_texts2 d_law_wrong_texts3 d_law_wrong_texts4 d_law_wrong_texts8 d_law_wrong_texts5 d_law_wrong_texts6), d_law_wrong_texts9⟩)
    (d_law_wrong_textsc : codeIn K d_law_wrong_texts5 "_law_wrong_texts" = true)
    (d_law_wrong_textsk : keepIn K (.ref d_law_wrong_textsf) = true)
    (n_abs : nsIn K mainGlobals "abs" = some none)
    (n_all : nsIn K mainGlobals "all" = some none)
    (n_any : nsIn K mainGlobals "any" = some none)
    (n_bool : nsIn K mainGlobals "bool" = some none)
    (n_enumerate : nsIn K mainGlobals "enumerate" = some none)
    (n_int : nsIn K mainGlobals "int" = some none)
    (n_isinstance : nsIn K mainGlobals "isinstance" = some none)
    (n_len : nsIn K mainGlobals "len" = some none)
    (n_list : nsIn K mainGlobals "list" = some none)
    (n_max : nsIn K mainGlobals "max" = some none)
    (n_min : nsIn K mainGlobals "min" = some none)
    (n_range : nsIn K mainGlobals "range" = some none)
    (n_str : nsIn K mainGlobals "str" = some none)
    (n_tuple : nsIn K mainGlobals "tuple" = some none)
    (n_zip : nsIn K mainGlobals "zip" = some none)
    (v_MOST_VISITS : nsIn K mainGlobals "MOST_VISITS" = some (some (.int 400 v_MOST_VISITSt)))
    (v_FIGURES : nsIn K mainGlobals "FIGURES" = some (some (.str ("0123456789" : PySem.Str) v_FIGURESt)))
    (v_MOST_FIGURES : nsIn K mainGlobals "MOST_FIGURES" = some (some (.int 40 v_MOST_FIGURESt)))
    (d_lawa : nsIn K mainGlobals "law" = some (some (.ref d_lawf)))
    (d_lawl : K.lookup d_lawf = some ⟨d_law1, d_law7, .func (fnOf "law" "law" (defArgs (top 42)) (defBody (top 42)) (defScope (top 42)) .none d_law2 d_law3 d_law4 d_law8 d_law5 d_law6), d_law9⟩)
    (d_lawc : codeIn K d_law5 "law" = true)
    (d_lawk : keepIn K (.ref d_lawf) = true)
    (e_InvalidCoursea : nsIn K mainGlobals "InvalidCourse" = some (some (.ref e_InvalidCourseC)))
    (e_InvalidCoursexL : K.lookup e_InvalidCourseC = some (excClassObj e_InvalidCoursen1 e_InvalidCourseq1 e_InvalidCourseC e_InvalidCourseN e_InvalidCoursebs (.ref e_InvalidCourseB :: baseTail) true e_InvalidCoursesn e_InvalidCoursesub e_InvalidCourseab e_InvalidCoursecol e_InvalidCoursedd e_InvalidCoursek0 e_InvalidCoursek1 e_InvalidCoursek2 e_InvalidCoursek3 e_InvalidCoursek5 "Exception.__new__"))
    (e_InvalidCoursexB : K.lookup e_InvalidCourseB = some (excClassObj e_InvalidCoursen2 e_InvalidCourseq2 e_InvalidCourseB e_InvalidCourseN2 e_InvalidCoursebs2 baseTail e_InvalidCourseh2 e_InvalidCoursesn2 e_InvalidCoursesub2 e_InvalidCourseab2 e_InvalidCoursecol2 e_InvalidCoursedd2 e_InvalidCoursej0 e_InvalidCoursej1 e_InvalidCoursej2 e_InvalidCoursej3 e_InvalidCoursej5 e_InvalidCoursenw2))
    (e_InvalidCoursesa : findIn K (.ref e_InvalidCourseC) "__setattr__" = some (some (.builtin "object.__setattr__")))
    (e_InvalidCoursega : findIn K (.ref e_InvalidCourseC) "__getattribute__" = some (some (.builtin "BaseException.__getattribute__")))
    (e_InvalidCoursegg : findIn K (.ref e_InvalidCourseC) "__getattr__" = some none)
    (e_InvalidCoursenf : findIn K (.ref e_InvalidCourseC) "at" = some none)
    (e_InvalidCourseic : findIn K (.ref e_InvalidCourseC) "__init__" = some (some (.ref e_InvalidCoursefI)))
    (e_InvalidCourseib : findIn K (.ref e_InvalidCourseB) "__init__" = some (some (.builtin "Exception.__init__")))
    (e_InvalidCoursetI : typeIn K (.ref e_InvalidCoursefI) = some (.type "function"))
    (e_InvalidCoursekC : keepIn K (.ref e_InvalidCourseC) = true)
    (e_InvalidCourseeB : subIn K (.ref e_InvalidCourseC) (.type "BaseException") = some true)
    (e_InvalidCourseeE : subIn K (.ref e_InvalidCourseC) (.type "Exception") = some true)
    (e_InvalidCoursetC : typeIn K (.ref e_InvalidCourseC) = some (.type "type"))
    (e_InvalidCoursehd : hasDictIn K e_InvalidCourseC = true)
    (e_InvalidCourseiC : isClsIn K e_InvalidCourseC = true)
    (e_InvalidCoursesC : subIn K (.ref e_InvalidCourseC) (.ref e_InvalidCourseC) = some true)
    (e_InvalidCourseop : nsIn K cStatics "thirdparty.any" = some none)
    (e_InvalidCoursesu : nsIn K mainGlobals "super" = some none)
    (e_InvalidCoursetp : (P.main.scope.names.lookup ("super" : Str)).isSome = false)
    (e_InvalidCourselI : K.lookup e_InvalidCoursefI = some ⟨e_InvalidCourseoc, e_InvalidCourseod, .func (fnX "__init__" e_InvalidCourseqn (erA e_InvalidCoursep1 e_InvalidCoursep2 "at") (erB e_InvalidCourser1 e_InvalidCourser2 e_InvalidCourser3 e_InvalidCourser4 e_InvalidCourser5 e_InvalidCourser6 e_InvalidCourser7 e_InvalidCourser8 e_InvalidCourser9 e_InvalidCourser10 e_InvalidCoursej e_InvalidCoursemsg "at") (erS "at") [("__class__", e_InvalidCoursecc)] .none .none e_InvalidCoursedoc e_InvalidCoursepm e_InvalidCoursean (.ref e_InvalidCoursecda) e_InvalidCoursect), e_InvalidCourseosl⟩)
    (e_InvalidCoursece : K.lookup e_InvalidCoursecc = some ⟨e_InvalidCoursecl, e_InvalidCoursecld, .cell (some (.ref e_InvalidCourseC)), e_InvalidCoursecsl⟩)
    (e_InvalidCourseco : K.lookup e_InvalidCoursecda = some ⟨e_InvalidCourseccl, e_InvalidCoursecdd, .fields e_InvalidCoursevs, e_InvalidCourseccs⟩)
    (e_InvalidCoursecv : e_InvalidCoursevs[2]? = some (.str e_InvalidCoursefile e_InvalidCoursetf))
    (e_InvalidCoursecf : ((P.main.file : Str) == e_InvalidCoursefile) = true)
    (e_InvalidCoursecq : codeIn K (.ref e_InvalidCoursecda) e_InvalidCourseqn = true)
    (e_InvalidCoursehl : (e_InvalidCourser3.endLine == e_InvalidCourser5.line) = true)
    (e_InvalidCoursehb : ∀ u v : Value, bindArgs (fnX "__init__" e_InvalidCourseqn (erA e_InvalidCoursep1 e_InvalidCoursep2 "at") (erB e_InvalidCourser1 e_InvalidCourser2 e_InvalidCourser3 e_InvalidCourser4 e_InvalidCourser5 e_InvalidCourser6 e_InvalidCourser7 e_InvalidCourser8 e_InvalidCourser9 e_InvalidCourser10 e_InvalidCoursej e_InvalidCoursemsg "at") (erS "at") [("__class__", e_InvalidCoursecc)] .none .none e_InvalidCoursedoc e_InvalidCoursepm e_InvalidCoursean (.ref e_InvalidCoursecda) e_InvalidCoursect) ⟨[u, v], []⟩ = pure [(("self" : Str), u), ("at", v)])
    (e_InvalidTexta : nsIn K mainGlobals "InvalidText" = some (some (.ref e_InvalidTextC)))
    (e_InvalidTextxL : K.lookup e_InvalidTextC = some (excClassObj e_InvalidTextn1 e_InvalidTextq1 e_InvalidTextC e_InvalidTextN e_InvalidTextbs (.ref e_InvalidTextB :: baseTail) true e_InvalidTextsn e_InvalidTextsub e_InvalidTextab e_InvalidTextcol e_InvalidTextdd e_InvalidTextk0 e_InvalidTextk1 e_InvalidTextk2 e_InvalidTextk3 e_InvalidTextk5 "Exception.__new__"))
    (e_InvalidTextxB : K.lookup e_InvalidTextB = some (excClassObj e_InvalidTextn2 e_InvalidTextq2 e_InvalidTextB e_InvalidTextN2 e_InvalidTextbs2 baseTail e_InvalidTexth2 e_InvalidTextsn2 e_InvalidTextsub2 e_InvalidTextab2 e_InvalidTextcol2 e_InvalidTextdd2 e_InvalidTextj0 e_InvalidTextj1 e_InvalidTextj2 e_InvalidTextj3 e_InvalidTextj5 e_InvalidTextnw2))
    (e_InvalidTextsa : findIn K (.ref e_InvalidTextC) "__setattr__" = some (some (.builtin "object.__setattr__")))
    (e_InvalidTextga : findIn K (.ref e_InvalidTextC) "__getattribute__" = some (some (.builtin "BaseException.__getattribute__")))
    (e_InvalidTextgg : findIn K (.ref e_InvalidTextC) "__getattr__" = some none)
    (e_InvalidTextnf : findIn K (.ref e_InvalidTextC) "at" = some none)
    (e_InvalidTextic : findIn K (.ref e_InvalidTextC) "__init__" = some (some (.ref e_InvalidTextfI)))
    (e_InvalidTextib : findIn K (.ref e_InvalidTextB) "__init__" = some (some (.builtin "Exception.__init__")))
    (e_InvalidTexttI : typeIn K (.ref e_InvalidTextfI) = some (.type "function"))
    (e_InvalidTextkC : keepIn K (.ref e_InvalidTextC) = true)
    (e_InvalidTexteB : subIn K (.ref e_InvalidTextC) (.type "BaseException") = some true)
    (e_InvalidTexteE : subIn K (.ref e_InvalidTextC) (.type "Exception") = some true)
    (e_InvalidTexttC : typeIn K (.ref e_InvalidTextC) = some (.type "type"))
    (e_InvalidTexthd : hasDictIn K e_InvalidTextC = true)
    (e_InvalidTextiC : isClsIn K e_InvalidTextC = true)
    (e_InvalidTextsC : subIn K (.ref e_InvalidTextC) (.ref e_InvalidTextC) = some true)
    (e_InvalidTextop : nsIn K cStatics "thirdparty.any" = some none)
    (e_InvalidTextsu : nsIn K mainGlobals "super" = some none)
    (e_InvalidTexttp : (P.main.scope.names.lookup ("super" : Str)).isSome = false)
    (e_InvalidTextlI : K.lookup e_InvalidTextfI = some ⟨e_InvalidTextoc, e_InvalidTextod, .func (fnX "__init__" e_InvalidTextqn (erA e_InvalidTextp1 e_InvalidTextp2 "at") (erB e_InvalidTextr1 e_InvalidTextr2 e_InvalidTextr3 e_InvalidTextr4 e_InvalidTextr5 e_InvalidTextr6 e_InvalidTextr7 e_InvalidTextr8 e_InvalidTextr9 e_InvalidTextr10 e_InvalidTextj e_InvalidTextmsg "at") (erS "at") [("__class__", e_InvalidTextcc)] .none .none e_InvalidTextdoc e_InvalidTextpm e_InvalidTextan (.ref e_InvalidTextcda) e_InvalidTextct), e_InvalidTextosl⟩)
    (e_InvalidTextce : K.lookup e_InvalidTextcc = some ⟨e_InvalidTextcl, e_InvalidTextcld, .cell (some (.ref e_InvalidTextC)), e_InvalidTextcsl⟩)
    (e_InvalidTextco : K.lookup e_InvalidTextcda = some ⟨e_InvalidTextccl, e_InvalidTextcdd, .fields e_InvalidTextvs, e_InvalidTextccs⟩)
    (e_InvalidTextcv : e_InvalidTextvs[2]? = some (.str e_InvalidTextfile e_InvalidTexttf))
    (e_InvalidTextcf : ((P.main.file : Str) == e_InvalidTextfile) = true)
    (e_InvalidTextcq : codeIn K (.ref e_InvalidTextcda) e_InvalidTextqn = true)
    (e_InvalidTexthl : (e_InvalidTextr3.endLine == e_InvalidTextr5.line) = true)
    (e_InvalidTexthb : ∀ u v : Value, bindArgs (fnX "__init__" e_InvalidTextqn (erA e_InvalidTextp1 e_InvalidTextp2 "at") (erB e_InvalidTextr1 e_InvalidTextr2 e_InvalidTextr3 e_InvalidTextr4 e_InvalidTextr5 e_InvalidTextr6 e_InvalidTextr7 e_InvalidTextr8 e_InvalidTextr9 e_InvalidTextr10 e_InvalidTextj e_InvalidTextmsg "at") (erS "at") [("__class__", e_InvalidTextcc)] .none .none e_InvalidTextdoc e_InvalidTextpm e_InvalidTextan (.ref e_InvalidTextcda) e_InvalidTextct) ⟨[u, v], []⟩ = pure [(("self" : Str), u), ("at", v)]) :
    ∃ fd : FuncData, (∀ (s : Shared) (u : Value), BindsTo s fd ⟨[u], []⟩ [("script", u)]) ∧ ∀ base : Heap, K.In base → base.Ns mainGlobals mg → FnOk P w K mg base L2.CX0 13 fa fd ["script"] (spLaw K) := by
  have T : Txt P mg ⟨K, clOf [(("InvalidCourse" : Str), e_InvalidCourseC), (("InvalidText" : Str), e_InvalidTextC)], fun _ => "at"⟩ := {
    d_is_integer := is_mk X G d_is_integera d_is_integerl d_is_integerc d_is_integerk (fun _ _ _ _ _ _ us hl => match us, hl with | [_], _ => rfl) (fun _ _ _ _ _ _ kn e s u => by cases e; exact .of_eq rfl)
    d_is_number := is_mk X G d_is_numbera d_is_numberl d_is_numberc d_is_numberk (fun _ _ _ _ _ _ us hl => match us, hl with | [_], _ => rfl) (fun _ _ _ _ _ _ kn e s u => by cases e; exact .of_eq rfl)
    d_is_below := is_mk X G d_is_belowa d_is_belowl d_is_belowc d_is_belowk (fun _ _ _ _ _ _ us hl => match us, hl with | [_, _], _ => rfl) (fun _ _ _ _ _ _ kn e s u => by cases e)
    d_is_sequence := is_mk X G d_is_sequencea d_is_sequencel d_is_sequencec d_is_sequencek (fun _ _ _ _ _ _ us hl => match us, hl with | [_], _ => rfl) (fun _ _ _ _ _ _ kn e s u => by cases e; exact .of_eq rfl)
    d_is_row := is_mk X G d_is_rowa d_is_rowl d_is_rowc d_is_rowk (fun _ _ _ _ _ _ us hl => match us, hl with | [_, _], _ => rfl) (fun _ _ _ _ _ _ kn e s u => by cases e)
    d_is_told_row := is_mk X G d_is_told_rowa d_is_told_rowl d_is_told_rowc d_is_told_rowk (fun _ _ _ _ _ _ us hl => match us, hl with | [_, _], _ => rfl) (fun _ _ _ _ _ _ kn e s u => by cases e)
    d_is_lot := is_mk X G d_is_lota d_is_lotl d_is_lotc d_is_lotk (fun _ _ _ _ _ _ us hl => match us, hl with | [_, _], _ => rfl) (fun _ _ _ _ _ _ kn e s u => by cases e)
    d_integer_of := is_mk X G d_integer_ofa d_integer_ofl d_integer_ofc d_integer_ofk (fun _ _ _ _ _ _ us hl => match us, hl with | [_], _ => rfl) (fun _ _ _ _ _ _ kn e s u => by cases e; exact .of_eq rfl)
    d_integers_of := is_mk X G d_integers_ofa d_integers_ofl d_integers_ofc d_integers_ofk (fun _ _ _ _ _ _ us hl => match us, hl with | [_], _ => rfl) (fun _ _ _ _ _ _ kn e s u => by cases e; exact .of_eq rfl)
    d_rows_of := is_mk X G d_rows_ofa d_rows_ofl d_rows_ofc d_rows_ofk (fun _ _ _ _ _ _ us hl => match us, hl with | [_], _ => rfl) (fun _ _ _ _ _ _ kn e s u => by cases e; exact .of_eq rfl)
    d_row_text := is_mk X G d_row_texta d_row_textl d_row_textc d_row_textk (fun _ _ _ _ _ _ us hl => match us, hl with | [_, _], _ => rfl) (fun _ _ _ _ _ _ kn e s u => by cases e)
    d_numbers_at := is_mk X G d_numbers_ata d_numbers_atl d_numbers_atc d_numbers_atk (fun _ _ _ _ _ _ us hl => match us, hl with | [_, _, _], _ => rfl) (fun _ _ _ _ _ _ kn e s u => by cases e)
    d_is_told_deed := is_mk X G d_is_told_deeda d_is_told_deedl d_is_told_deedc d_is_told_deedk (fun _ _ _ _ _ _ us hl => match us, hl with | [_], _ => rfl) (fun _ _ _ _ _ _ kn e s u => by cases e; exact .of_eq rfl)
    d_course_text := is_mk X G d_course_texta d_course_textl d_course_textc d_course_textk (fun _ _ _ _ _ _ us hl => match us, hl with | [_], _ => rfl) (fun _ _ _ _ _ _ kn e s u => by cases e; exact .of_eq rfl)
    d_read_course := is_mk X G d_read_coursea d_read_coursel d_read_coursec d_read_coursek (fun _ _ _ _ _ _ us hl => match us, hl with | [_], _ => rfl) (fun _ _ _ _ _ _ kn e s u => by cases e; exact .of_eq rfl)
    d_law_box := is_mk X G d_law_boxa d_law_boxl d_law_boxc d_law_boxk (fun _ _ _ _ _ _ us hl => match us, hl with | [_], _ => rfl) (fun _ _ _ _ _ _ kn e s u => by cases e; exact .of_eq rfl)
    d_law_draw := is_mk X G d_law_drawa d_law_drawl d_law_drawc d_law_drawk (fun _ _ _ _ _ _ us hl => match us, hl with | [_, _], _ => rfl) (fun _ _ _ _ _ _ kn e s u => by cases e)
    d_law_pick := is_mk X G d_law_picka d_law_pickl d_law_pickc d_law_pickk (fun _ _ _ _ _ _ us hl => match us, hl with | [_, _], _ => rfl) (fun _ _ _ _ _ _ kn e s u => by cases e)
    d_law_tells := is_mk X G d_law_tellsa d_law_tellsl d_law_tellsc d_law_tellsk (fun _ _ _ _ _ _ us hl => match us, hl with | [_, _], _ => rfl) (fun _ _ _ _ _ _ kn e s u => by cases e)
    d_law_is_int := is_mk X G d_law_is_inta d_law_is_intl d_law_is_intc d_law_is_intk (fun _ _ _ _ _ _ us hl => match us, hl with | [_], _ => rfl) (fun _ _ _ _ _ _ kn e s u => by cases e; exact .of_eq rfl)
    d_law_place := is_mk X G d_law_placea d_law_placel d_law_placec d_law_placek (fun _ _ _ _ _ _ us hl => match us, hl with | [_], _ => rfl) (fun _ _ _ _ _ _ kn e s u => by cases e; exact .of_eq rfl)
    d_law_same := is_mk X G d_law_samea d_law_samel d_law_samec d_law_samek (fun _ _ _ _ _ _ us hl => match us, hl with | [_, _], _ => rfl) (fun _ _ _ _ _ _ kn e s u => by cases e)
    d_law_row_text := is_mk X G d_law_row_texta d_law_row_textl d_law_row_textc d_law_row_textk (fun _ _ _ _ _ _ us hl => match us, hl with | [_, _], _ => rfl) (fun _ _ _ _ _ _ kn e s u => by cases e)
    d_law_bad_word := is_mk X G d_law_bad_worda d_law_bad_wordl d_law_bad_wordc d_law_bad_wordk (fun _ _ _ _ _ _ us hl => match us, hl with | [_, _], _ => rfl) (fun _ _ _ _ _ _ kn e s u => by cases e)
    d_law_bad_form := is_mk X G d_law_bad_forma d_law_bad_forml d_law_bad_formc d_law_bad_formk (fun _ _ _ _ _ _ us hl => match us, hl with | [_, _], _ => rfl) (fun _ _ _ _ _ _ kn e s u => by cases e)
    d_law_read := is_mk X G d_law_reada d_law_readl d_law_readc d_law_readk (fun _ _ _ _ _ _ us hl => match us, hl with | [_], _ => rfl) (fun _ _ _ _ _ _ kn e s u => by cases e; exact .of_eq rfl)
    d_law_written := is_mk X G d_law_writtena d_law_writtenl d_law_writtenc d_law_writtenk (fun _ _ _ _ _ _ us hl => match us, hl with | [_], _ => rfl) (fun _ _ _ _ _ _ kn e s u => by cases e; exact .of_eq rfl)
    d_law_deed := is_mk X G d_law_deeda d_law_deedl d_law_deedc d_law_deedk (fun _ _ _ _ _ _ us hl => match us, hl with | [_], _ => rfl) (fun _ _ _ _ _ _ kn e s u => by cases e; exact .of_eq rfl)
    d_law_rows := is_mk X G d_law_rowsa d_law_rowsl d_law_rowsc d_law_rowsk (fun _ _ _ _ _ _ us hl => match us, hl with | [_], _ => rfl) (fun _ _ _ _ _ _ kn e s u => by cases e; exact .of_eq rfl)
    d_law_bad_deed := is_mk X G d_law_bad_deeda d_law_bad_deedl d_law_bad_deedc d_law_bad_deedk (fun _ _ _ _ _ _ us hl => match us, hl with | [_, _], _ => rfl) (fun _ _ _ _ _ _ kn e s u => by cases e)
    d_law_bad_row := is_mk X G d_law_bad_rowa d_law_bad_rowl d_law_bad_rowc d_law_bad_rowk (fun _ _ _ _ _ _ us hl => match us, hl with | [_, _], _ => rfl) (fun _ _ _ _ _ _ kn e s u => by cases e)
    d_law_wrong_texts := is_mk X G d_law_wrong_textsa d_law_wrong_textsl d_law_wrong_textsc d_law_wrong_textsk (fun _ _ _ _ _ _ us hl => match us, hl with | [_, _], _ => rfl) (fun _ _ _ _ _ _ kn e s u => by cases e)
    n_abs := mg_none_of X G n_abs
    n_all := mg_none_of X G n_all
    n_any := mg_none_of X G n_any
    n_bool := mg_none_of X G n_bool
    n_enumerate := mg_none_of X G n_enumerate
    n_int := mg_none_of X G n_int
    n_isinstance := mg_none_of X G n_isinstance
    n_len := mg_none_of X G n_len
    n_list := mg_none_of X G n_list
    n_max := mg_none_of X G n_max
    n_min := mg_none_of X G n_min
    n_range := mg_none_of X G n_range
    n_str := mg_none_of X G n_str
    n_tuple := mg_none_of X G n_tuple
    n_zip := mg_none_of X G n_zip
    v_MOST_VISITS := ⟨_, mg_of X G v_MOST_VISITS⟩
    v_FIGURES := ⟨_, mg_of X G v_FIGURES⟩
    v_MOST_FIGURES := ⟨_, mg_of X G v_MOST_FIGURES⟩
    e_InvalidCourse := er_mk rfl X G ((show clOf [(("InvalidCourse" : Str), e_InvalidCourseC), (("InvalidText" : Str), e_InvalidTextC)] "InvalidCourse" = some e_InvalidCourseC from (clOf_hd (x := "InvalidCourse") (a := e_InvalidCourseC) (r := [(("InvalidText" : Str), e_InvalidTextC)])))) rfl e_InvalidCoursea e_InvalidCoursexL e_InvalidCoursexB e_InvalidCoursesa e_InvalidCoursega e_InvalidCoursegg e_InvalidCoursenf e_InvalidCourseic e_InvalidCourseib e_InvalidCoursetI e_InvalidCoursekC e_InvalidCourseeB e_InvalidCourseeE e_InvalidCoursetC e_InvalidCoursehd e_InvalidCourseiC e_InvalidCoursesC e_InvalidCourseop e_InvalidCoursesu e_InvalidCoursetp e_InvalidCourselI e_InvalidCoursece e_InvalidCourseco e_InvalidCoursecv e_InvalidCoursecf e_InvalidCoursecq ⟨by decide, by decide, by decide, by decide⟩ e_InvalidCoursehl e_InvalidCoursehb
    e_InvalidText := er_mk rfl X G ((show clOf [(("InvalidCourse" : Str), e_InvalidCourseC), (("InvalidText" : Str), e_InvalidTextC)] "InvalidText" = some e_InvalidTextC from (clOf_tl (x := "InvalidCourse") (n := "InvalidText") (a := e_InvalidCourseC) (b := e_InvalidTextC) (r := [(("InvalidText" : Str), e_InvalidTextC)]) (by decide) (clOf_hd (x := "InvalidText") (a := e_InvalidTextC) (r := []))))) rfl e_InvalidTexta e_InvalidTextxL e_InvalidTextxB e_InvalidTextsa e_InvalidTextga e_InvalidTextgg e_InvalidTextnf e_InvalidTextic e_InvalidTextib e_InvalidTexttI e_InvalidTextkC e_InvalidTexteB e_InvalidTexteE e_InvalidTexttC e_InvalidTexthd e_InvalidTextiC e_InvalidTextsC e_InvalidTextop e_InvalidTextsu e_InvalidTexttp e_InvalidTextlI e_InvalidTextce e_InvalidTextco e_InvalidTextcv e_InvalidTextcf e_InvalidTextcq ⟨by decide, by decide, by decide, by decide⟩ e_InvalidTexthl e_InvalidTexthb }
  have D : Is K mg "law" (top 42) ["script"] := is_mk X G d_lawa d_lawl d_lawc d_lawk (fun _ _ _ _ _ _ us hl => match us, hl with | [_], _ => rfl) (fun _ _ _ _ _ _ kn e s u => by cases e; exact .of_eq rfl)
  obtain ⟨fb, fd, F, hm, hb⟩ := ok_law T D
  have e := hfa.symm.trans hm
  cases e
  exact ⟨fd, hb, fun base _ _ => FnOk.cx0 (F w base) fun _ _ _ _ q => q⟩
end Kn

end

section
set_option Elab.async false
set_option linter.all false
set_option maxRecDepth 100000
set_option maxHeartbeats 4000000
open PySem PySem.W PyProof.Rows
set_option maxHeartbeats 0 in
theorem PySem.Challenge.cw_keepnothing_k92_whole_texts_of_courses_holds : PySem.Challenge.rw_keepnothing_k92_whole_texts_of_courses.Holds := by
  w_on; o_law; k_head; (case hw => w_witness2)
  k_fill
  refine L2.walk_ofK (n := 63) (k := 13) (CX := L2.CX0) (sp := Kn.spLaw) (x := "script") rfl (by decide) rfl ⟨rfl, by decide, by decide⟩ (fun w h Y => PySem.W.kIn_of Y) ?F (fun K H a ns _ _ hS => ⟨a, ns, rfl, hS, fun _ => rfl⟩) (fun _ _ _ _ z => z)
  intro w mg fa h KX G hmg
  refine' Kn.all_mk KX G hmg ?d_is_integera ?d_is_integerl ?d_is_integerc ?d_is_integerk ?d_is_numbera ?d_is_numberl ?d_is_numberc ?d_is_numberk ?d_is_belowa ?d_is_belowl ?d_is_belowc ?d_is_belowk ?d_is_sequencea ?d_is_sequencel ?d_is_sequencec ?d_is_sequencek ?d_is_rowa ?d_is_rowl ?d_is_rowc ?d_is_rowk ?d_is_told_rowa ?d_is_told_rowl ?d_is_told_rowc ?d_is_told_rowk ?d_is_lota ?d_is_lotl ?d_is_lotc ?d_is_lotk ?d_integer_ofa ?d_integer_ofl ?d_integer_ofc ?d_integer_ofk ?d_integers_ofa ?d_integers_ofl ?d_integers_ofc ?d_integers_ofk ?d_rows_ofa ?d_rows_ofl ?d_rows_ofc ?d_rows_ofk ?d_row_texta ?d_row_textl ?d_row_textc ?d_row_textk ?d_numbers_ata ?d_numbers_atl ?d_numbers_atc ?d_numbers_atk ?d_is_told_deeda ?d_is_told_deedl ?d_is_told_deedc ?d_is_told_deedk ?d_course_texta ?d_course_textl ?d_course_textc ?d_course_textk ?d_read_coursea ?d_read_coursel ?d_read_coursec ?d_read_coursek ?d_law_boxa ?d_law_boxl ?d_law_boxc ?d_law_boxk ?d_law_drawa ?d_law_drawl ?d_law_drawc ?d_law_drawk ?d_law_picka ?d_law_pickl ?d_law_pickc ?d_law_pickk ?d_law_tellsa ?d_law_tellsl ?d_law_tellsc ?d_law_tellsk ?d_law_is_inta ?d_law_is_intl ?d_law_is_intc ?d_law_is_intk ?d_law_placea ?d_law_placel ?d_law_placec ?d_law_placek ?d_law_samea ?d_law_samel ?d_law_samec ?d_law_samek ?d_law_row_texta ?d_law_row_textl ?d_law_row_textc ?d_law_row_textk ?d_law_bad_worda ?d_law_bad_wordl ?d_law_bad_wordc ?d_law_bad_wordk ?d_law_bad_forma ?d_law_bad_forml ?d_law_bad_formc ?d_law_bad_formk ?d_law_reada ?d_law_readl ?d_law_readc ?d_law_readk ?d_law_writtena ?d_law_writtenl ?d_law_writtenc ?d_law_writtenk ?d_law_deeda ?d_law_deedl ?d_law_deedc ?d_law_deedk ?d_law_rowsa ?d_law_rowsl ?d_law_rowsc ?d_law_rowsk ?d_law_bad_deeda ?d_law_bad_deedl ?d_law_bad_deedc ?d_law_bad_deedk ?d_law_bad_rowa ?d_law_bad_rowl ?d_law_bad_rowc ?d_law_bad_rowk ?d_law_wrong_textsa ?d_law_wrong_textsl ?d_law_wrong_textsc ?d_law_wrong_textsk ?n_abs ?n_all ?n_any ?n_bool ?n_enumerate ?n_int ?n_isinstance ?n_len ?n_list ?n_max ?n_min ?n_range ?n_str ?n_tuple ?n_zip ?v_MOST_VISITS ?v_FIGURES ?v_MOST_FIGURES ?d_lawa ?d_lawl ?d_lawc ?d_lawk ?e_InvalidCoursea ?e_InvalidCoursexL ?e_InvalidCoursexB ?e_InvalidCoursesa ?e_InvalidCoursega ?e_InvalidCoursegg ?e_InvalidCoursenf ?e_InvalidCourseic ?e_InvalidCourseib ?e_InvalidCoursetI ?e_InvalidCoursekC ?e_InvalidCourseeB ?e_InvalidCourseeE ?e_InvalidCoursetC ?e_InvalidCoursehd ?e_InvalidCourseiC ?e_InvalidCoursesC ?e_InvalidCourseop ?e_InvalidCoursesu ?e_InvalidCoursetp ?e_InvalidCourselI ?e_InvalidCoursece ?e_InvalidCourseco ?e_InvalidCoursecv ?e_InvalidCoursecf ?e_InvalidCoursecq ?e_InvalidCoursehl ?e_InvalidCoursehb ?e_InvalidTexta ?e_InvalidTextxL ?e_InvalidTextxB ?e_InvalidTextsa ?e_InvalidTextga ?e_InvalidTextgg ?e_InvalidTextnf ?e_InvalidTextic ?e_InvalidTextib ?e_InvalidTexttI ?e_InvalidTextkC ?e_InvalidTexteB ?e_InvalidTexteE ?e_InvalidTexttC ?e_InvalidTexthd ?e_InvalidTextiC ?e_InvalidTextsC ?e_InvalidTextop ?e_InvalidTextsu ?e_InvalidTexttp ?e_InvalidTextlI ?e_InvalidTextce ?e_InvalidTextco ?e_InvalidTextcv ?e_InvalidTextcf ?e_InvalidTextcq ?e_InvalidTexthl ?e_InvalidTexthb
  (case d_is_integera => k_is)
  (case d_is_integerl => k_is)
  (case d_is_integerc => k_is)
  (case d_is_integerk => k_is)
  (case d_is_numbera => k_is)
  (case d_is_numberl => k_is)
  (case d_is_numberc => k_is)
  (case d_is_numberk => k_is)
  (case d_is_belowa => k_is)
  (case d_is_belowl => k_is)
  (case d_is_belowc => k_is)
  (case d_is_belowk => k_is)
  (case d_is_sequencea => k_is)
  (case d_is_sequencel => k_is)
  (case d_is_sequencec => k_is)
  (case d_is_sequencek => k_is)
  (case d_is_rowa => k_is)
  (case d_is_rowl => k_is)
  (case d_is_rowc => k_is)
  (case d_is_rowk => k_is)
  (case d_is_told_rowa => k_is)
  (case d_is_told_rowl => k_is)
  (case d_is_told_rowc => k_is)
  (case d_is_told_rowk => k_is)
  (case d_is_lota => k_is)
  (case d_is_lotl => k_is)
  (case d_is_lotc => k_is)
  (case d_is_lotk => k_is)
  (case d_integer_ofa => k_is)
  (case d_integer_ofl => k_is)
  (case d_integer_ofc => k_is)
  (case d_integer_ofk => k_is)
  (case d_integers_ofa => k_is)
  (case d_integers_ofl => k_is)
  (case d_integers_ofc => k_is)
  (case d_integers_ofk => k_is)
  (case d_rows_ofa => k_is)
  (case d_rows_ofl => k_is)
  (case d_rows_ofc => k_is)
  (case d_rows_ofk => k_is)
  (case d_row_texta => k_is)
  (case d_row_textl => k_is)
  (case d_row_textc => k_is)
  (case d_row_textk => k_is)
  (case d_numbers_ata => k_is)
  (case d_numbers_atl => k_is)
  (case d_numbers_atc => k_is)
  (case d_numbers_atk => k_is)
  (case d_is_told_deeda => k_is)
  (case d_is_told_deedl => k_is)
  (case d_is_told_deedc => k_is)
  (case d_is_told_deedk => k_is)
  (case d_course_texta => k_is)
  (case d_course_textl => k_is)
  (case d_course_textc => k_is)
  (case d_course_textk => k_is)
  (case d_read_coursea => k_is)
  (case d_read_coursel => k_is)
  (case d_read_coursec => k_is)
  (case d_read_coursek => k_is)
  (case d_law_boxa => k_is)
  (case d_law_boxl => k_is)
  (case d_law_boxc => k_is)
  (case d_law_boxk => k_is)
  (case d_law_drawa => k_is)
  (case d_law_drawl => k_is)
  (case d_law_drawc => k_is)
  (case d_law_drawk => k_is)
  (case d_law_picka => k_is)
  (case d_law_pickl => k_is)
  (case d_law_pickc => k_is)
  (case d_law_pickk => k_is)
  (case d_law_tellsa => k_is)
  (case d_law_tellsl => k_is)
  (case d_law_tellsc => k_is)
  (case d_law_tellsk => k_is)
  (case d_law_is_inta => k_is)
  (case d_law_is_intl => k_is)
  (case d_law_is_intc => k_is)
  (case d_law_is_intk => k_is)
  (case d_law_placea => k_is)
  (case d_law_placel => k_is)
  (case d_law_placec => k_is)
  (case d_law_placek => k_is)
  (case d_law_samea => k_is)
  (case d_law_samel => k_is)
  (case d_law_samec => k_is)
  (case d_law_samek => k_is)
  (case d_law_row_texta => k_is)
  (case d_law_row_textl => k_is)
  (case d_law_row_textc => k_is)
  (case d_law_row_textk => k_is)
  (case d_law_bad_worda => k_is)
  (case d_law_bad_wordl => k_is)
  (case d_law_bad_wordc => k_is)
  (case d_law_bad_wordk => k_is)
  (case d_law_bad_forma => k_is)
  (case d_law_bad_forml => k_is)
  (case d_law_bad_formc => k_is)
  (case d_law_bad_formk => k_is)
  (case d_law_reada => k_is)
  (case d_law_readl => k_is)
  (case d_law_readc => k_is)
  (case d_law_readk => k_is)
  (case d_law_writtena => k_is)
  (case d_law_writtenl => k_is)
  (case d_law_writtenc => k_is)
  (case d_law_writtenk => k_is)
  (case d_law_deeda => k_is)
  (case d_law_deedl => k_is)
  (case d_law_deedc => k_is)
  (case d_law_deedk => k_is)
  (case d_law_rowsa => k_is)
  (case d_law_rowsl => k_is)
  (case d_law_rowsc => k_is)
  (case d_law_rowsk => k_is)
  (case d_law_bad_deeda => k_is)
  (case d_law_bad_deedl => k_is)
  (case d_law_bad_deedc => k_is)
  (case d_law_bad_deedk => k_is)
  (case d_law_bad_rowa => k_is)
  (case d_law_bad_rowl => k_is)
  (case d_law_bad_rowc => k_is)
  (case d_law_bad_rowk => k_is)
  (case d_law_wrong_textsa => k_is)
  (case d_law_wrong_textsl => k_is)
  (case d_law_wrong_textsc => k_is)
  (case d_law_wrong_textsk => k_is)
  (case n_abs => k_is)
  (case n_all => k_is)
  (case n_any => k_is)
  (case n_bool => k_is)
  (case n_enumerate => k_is)
  (case n_int => k_is)
  (case n_isinstance => k_is)
  (case n_len => k_is)
  (case n_list => k_is)
  (case n_max => k_is)
  (case n_min => k_is)
  (case n_range => k_is)
  (case n_str => k_is)
  (case n_tuple => k_is)
  (case n_zip => k_is)
  (case v_MOST_VISITS => k_is)
  (case v_FIGURES => k_is)
  (case v_MOST_FIGURES => k_is)
  (case d_lawa => k_is)
  (case d_lawl => k_is)
  (case d_lawc => k_is)
  (case d_lawk => k_is)
  (case e_InvalidCoursea => k_is)
  (case e_InvalidCoursexL => k_is)
  (case e_InvalidCoursexB => k_is)
  (case e_InvalidCoursesa => k_is)
  (case e_InvalidCoursega => k_is)
  (case e_InvalidCoursegg => k_is)
  (case e_InvalidCoursenf => k_is)
  (case e_InvalidCourseic => k_is)
  (case e_InvalidCourseib => k_is)
  (case e_InvalidCoursetI => k_is)
  (case e_InvalidCoursekC => k_is)
  (case e_InvalidCourseeB => k_is)
  (case e_InvalidCourseeE => k_is)
  (case e_InvalidCoursetC => k_is)
  (case e_InvalidCoursehd => k_is)
  (case e_InvalidCourseiC => k_is)
  (case e_InvalidCoursesC => k_is)
  (case e_InvalidCourseop => k_is)
  (case e_InvalidCoursesu => k_is)
  (case e_InvalidCoursetp => first | rfl | decide +kernel)
  (case e_InvalidCourselI => k_is)
  (case e_InvalidCoursece => k_is)
  (case e_InvalidCourseco => k_is)
  (case e_InvalidCoursecv => exact rfl)
  (case e_InvalidCoursecf => first | rfl | decide +kernel)
  (case e_InvalidCoursecq => k_is)
  (case e_InvalidCoursehl => exact rfl)
  (case e_InvalidCoursehb => intro u v; rfl)
  (case e_InvalidTexta => k_is)
  (case e_InvalidTextxL => k_is)
  (case e_InvalidTextxB => k_is)
  (case e_InvalidTextsa => k_is)
  (case e_InvalidTextga => k_is)
  (case e_InvalidTextgg => k_is)
  (case e_InvalidTextnf => k_is)
  (case e_InvalidTextic => k_is)
  (case e_InvalidTextib => k_is)
  (case e_InvalidTexttI => k_is)
  (case e_InvalidTextkC => k_is)
  (case e_InvalidTexteB => k_is)
  (case e_InvalidTexteE => k_is)
  (case e_InvalidTexttC => k_is)
  (case e_InvalidTexthd => k_is)
  (case e_InvalidTextiC => k_is)
  (case e_InvalidTextsC => k_is)
  (case e_InvalidTextop => k_is)
  (case e_InvalidTextsu => k_is)
  (case e_InvalidTexttp => first | rfl | decide +kernel)
  (case e_InvalidTextlI => k_is)
  (case e_InvalidTextce => k_is)
  (case e_InvalidTextco => k_is)
  (case e_InvalidTextcv => exact rfl)
  (case e_InvalidTextcf => first | rfl | decide +kernel)
  (case e_InvalidTextcq => k_is)
  (case e_InvalidTexthl => exact rfl)
  (case e_InvalidTexthb => intro u v; rfl)

end
