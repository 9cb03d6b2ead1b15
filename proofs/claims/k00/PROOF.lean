import PyProof.Rows.All
import Wide.All
import OpenK.AllK
import Wide.FinOn
import KE.KStateDown
import HandS.ForMost
import HandS.ForExc
import HandS.Flow
import HandS.Wide
import HandS.HeadHook2
import HandS.TupAny
import HandS.TupMul
import HandS.Deep
import HandS.Style
import HandS.Defaults
import HandS.SortInts
import HandS.RaiseMore
import HandS.StrMore
import HandS.ExcIs
import HandS.ExcOwn
import HandS.FStr
import HandS.Ends
import HandS.HeadEnd
import HandS.Head0
import HandS.Head1
import HandS.Head2
import PySem.Challenge.RW_planeworth_k00_numbers
set_option Elab.async false
set_option linter.all false
set_option maxRecDepth 100000
set_option maxHeartbeats 0
namespace DL
open L2 PySem PySem.Spec PyProof.Rows

inductive D where
  | non | bl (b : Bool) | int (i : Int) | str (x : Str)
  | tup (l : List D) | lst (l : List D)
  | scr (l : List D)
  | fn (x : Str)
  | obj (c : Str) (fs : List (Str × D))
  | exn (c : Str) (fs : List (Str × D))
structure Xn where
  c : Str
  fs : List (Str × D) := []
abbrev En := List (Option D)
inductive R (α : Type) where
  | ok (a : α) (r : En)
  | ex (x : Xn) (r : En)
  | bad
def R.bind {α β : Type} : R α → (α → En → R β) → R β
  | .ok a r, f => f a r
  | .ex x r, _ => .ex x r
  | .bad, _ => .bad
abbrev ME := En → R D
abbrev MT := En → R Bool
abbrev MA := En → R (List D)

def SqTA (K : PySem.W.Frag) (A : Addr → Prop) (H : Hp) (a : Addr) (xs : List V) : Prop :=
  (Rd H a (.tup xs) ∧ ¬ A a) ∨
    ∃ (o : Obj) (its : Array Value) (n : Nat), K.lookup a = some o ∧ o.cls = .type "tuple" ∧ o.data = .seq its n ∧ its.size ≤ sizeLine ∧ Vals xs its.toList
def SqLA (K : PySem.W.Frag) (A : Addr → Prop) (H : Hp) (a : Addr) (xs : List V) : Prop :=
  (Rd H a (.lst xs) ∧ ¬ A a) ∨
    ∃ (o : Obj) (its : Array Value) (n : Nat), K.lookup a = some o ∧ o.cls = .type "list" ∧ o.dict = none ∧ o.data = .seq its n ∧ its.size ≤ sizeLine ∧ Vals xs its.toList
theorem SqTA.sq {K : PySem.W.Frag} {A : Addr → Prop} {H : Hp} {a : Addr} {xs : List V} (h : SqTA K A H a xs) : SqT K H a xs := h.imp (fun z => z.1) id
theorem SqLA.sq {K : PySem.W.Frag} {A : Addr → Prop} {H : Hp} {a : Addr} {xs : List V} (h : SqLA K A H a xs) : SqL K H a xs := h.imp (fun z => z.1) id

mutual
inductive Rp (K : PySem.W.Frag) (A : Addr → Prop) (H : Hp) : V → D → Prop where
  | non : Rp K A H .non .non
  | bl (b : Bool) : Rp K A H (.bl b) (.bl b)
  | int (i : Int) : Rp K A H (.int i) (.int i)
  | str (x : Str) : Rp K A H (.str x) (.str x)
  | tup {a : Addr} {xs : List V} {ds : List D} : SqTA K A H a xs → RpA K A H xs ds → Rp K A H (.ref a) (.tup ds)
  | lst {a : Addr} {xs : List V} {ds : List D} : H a = some (.lst xs) → ¬ A a → RpA K A H xs ds → Rp K A H (.ref a) (.lst ds)
  | scr {a : Addr} {xs : List V} {ds : List D} : SqLA K A H a xs → RpA K A H xs ds → Rp K A H (.ref a) (.scr ds)
  | fn (x : Str) : Rp K A H (.ref (He.ga K x)) (.fn x)
  | obj {a dx : Addr} {c : Str} {fs : List (Str × V)} {ds : List (Str × D)} : H a = some (.ins (He.ga K c) dx fs) → ¬ A a → RpF K A H fs ds → Rp K A H (.ref a) (.obj c ds)
inductive RpA (K : PySem.W.Frag) (A : Addr → Prop) (H : Hp) : List V → List D → Prop where
  | nil : RpA K A H [] []
  | cons {v : V} {vs : List V} {d : D} {ds : List D} : Rp K A H v d → RpA K A H vs ds → RpA K A H (v :: vs) (d :: ds)
inductive RpF (K : PySem.W.Frag) (A : Addr → Prop) (H : Hp) : List (Str × V) → List (Str × D) → Prop where
  | nil : RpF K A H [] []
  | cons {f : Str} {v : V} {vs : List (Str × V)} {d : D} {ds : List (Str × D)} : Rp K A H v d → RpF K A H vs ds → RpF K A H ((f, v) :: vs) ((f, d) :: ds)
end

section
variable {K : PySem.W.Frag} {A A' : Addr → Prop} {H H' : Hp}
def Tr (A A' : Addr → Prop) (H H' : Hp) : Prop := ∀ a o, H a = some o → ¬ A a → H' a = some o ∧ ¬ A' a
theorem Tr.rd (t : Tr A A' H H') {a : Addr} {u : HO} (h : Rd H a u) (n : ¬ A a) : Rd H' a u ∧ ¬ A' a := by
  rcases h with h | ⟨o, h⟩
  · exact ⟨.inl (t a _ h n).1, (t a _ h n).2⟩
  · exact ⟨.inr ⟨o, (t a _ h n).1⟩, (t a _ h n).2⟩
theorem SqTA.tr (t : Tr A A' H H') {a : Addr} {xs : List V} (h : SqTA K A H a xs) : SqTA K A' H' a xs := h.imp (fun z => t.rd z.1 z.2) id
theorem SqLA.tr (t : Tr A A' H H') {a : Addr} {xs : List V} (h : SqLA K A H a xs) : SqLA K A' H' a xs := h.imp (fun z => t.rd z.1 z.2) id
mutual
theorem Rp.tr (t : Tr A A' H H') : ∀ {v : V} {d : D}, Rp K A H v d → Rp K A' H' v d
  | _, _, .non => .non
  | _, _, .bl b => .bl b
  | _, _, .int i => .int i
  | _, _, .str x => .str x
  | _, _, .tup h q => .tup (h.tr t) (RpA.tr t q)
  | _, _, .lst h n q => .lst (t _ _ h n).1 (t _ _ h n).2 (RpA.tr t q)
  | _, _, .scr h q => .scr (h.tr t) (RpA.tr t q)
  | _, _, .fn x => .fn x
  | _, _, .obj h n q => .obj (t _ _ h n).1 (t _ _ h n).2 (RpF.tr t q)
theorem RpA.tr (t : Tr A A' H H') : ∀ {v : List V} {d : List D}, RpA K A H v d → RpA K A' H' v d
  | _, _, .nil => .nil
  | _, _, .cons h q => .cons (Rp.tr t h) (RpA.tr t q)
theorem RpF.tr (t : Tr A A' H H') : ∀ {v : List (Str × V)} {d : List (Str × D)}, RpF K A H v d → RpF K A' H' v d
  | _, _, .nil => .nil
  | _, _, .cons h q => .cons (Rp.tr t h) (RpF.tr t q)
end
theorem RpA.length : ∀ {vs : List V} {ds : List D}, RpA K A H vs ds → vs.length = ds.length
  | _, _, .nil => rfl
  | _, _, .cons _ q => by rw [List.length_cons, List.length_cons, RpA.length q]
theorem RpA.get : ∀ {vs : List V} {ds : List D} {i : Nat} {d : D}, RpA K A H vs ds → ds[i]? = some d → ∃ v, vs[i]? = some v ∧ Rp K A H v d
  | _, _, _, _, .nil, e => by simp at e
  | _, _, 0, _, .cons h _, e => by simp at e; subst e; exact ⟨_, rfl, h⟩
  | _, _, i + 1, _, .cons _ q, e => by
    obtain ⟨v, h1, h2⟩ := RpA.get (i := i) q (by simpa using e)
    exact ⟨v, by simpa using h1, h2⟩
theorem RpA.getV : ∀ {vs : List V} {ds : List D} {i : Nat} {v : V}, RpA K A H vs ds → vs[i]? = some v → ∃ d, ds[i]? = some d ∧ Rp K A H v d
  | _, _, _, _, .nil, e => by simp at e
  | _, _, 0, _, .cons h _, e => by simp at e; subst e; exact ⟨_, rfl, h⟩
  | _, _, i + 1, _, .cons _ q, e => by
    obtain ⟨v, h1, h2⟩ := RpA.getV (i := i) q (by simpa using e)
    exact ⟨v, by simpa using h1, h2⟩
theorem RpA.app : ∀ {vs ws : List V} {ds es : List D}, RpA K A H vs ds → RpA K A H ws es → RpA K A H (vs ++ ws) (ds ++ es)
  | _, _, _, _, .nil, q => q
  | _, _, _, _, .cons h t, q => .cons h (RpA.app t q)
theorem RpA.take : ∀ {vs : List V} {ds : List D} (n : Nat), RpA K A H vs ds → RpA K A H (vs.take n) (ds.take n)
  | _, _, 0, _ => .nil
  | _, _, _ + 1, .nil => .nil
  | _, _, n + 1, .cons h t => .cons h (RpA.take n t)
theorem RpA.drop : ∀ {vs : List V} {ds : List D} (n : Nat), RpA K A H vs ds → RpA K A H (vs.drop n) (ds.drop n)
  | _, _, 0, h => h
  | _, _, _ + 1, .nil => .nil
  | _, _, n + 1, .cons _ t => RpA.drop n t
theorem RpA.set : ∀ {vs : List V} {ds : List D} {v : V} {d : D} (n : Nat), RpA K A H vs ds → Rp K A H v d → RpA K A H (vs.set n v) (ds.set n d)
  | _, _, _, _, _, .nil, _ => .nil
  | _, _, _, _, 0, .cons _ t, q => .cons q t
  | _, _, _, _, n + 1, .cons h t, q => .cons h (RpA.set n t q)
theorem RpA.rev : ∀ {vs : List V} {ds : List D}, RpA K A H vs ds → RpA K A H vs.reverse ds.reverse
  | _, _, .nil => .nil
  | _, _, .cons h t => by
    rw [List.reverse_cons, List.reverse_cons]
    exact (RpA.rev t).app (.cons h .nil)
theorem RpA.dropLast {vs : List V} {ds : List D} (h : RpA K A H vs ds) : RpA K A H vs.dropLast ds.dropLast := by
  rw [List.dropLast_eq_take, List.dropLast_eq_take, h.length]
  exact h.take _
theorem RpA.ints : ∀ {vs : List V} {ns : List Int}, RpA K A H vs (ns.map D.int) → vs = ns.map V.int
  | vs, [], h => by cases h; rfl
  | vs, n :: ns, h => by
    rw [List.map_cons] at h
    cases h with
    | cons h t =>
      cases h
      rw [RpA.ints t, List.map_cons]
theorem RpA.of_ints : ∀ (ns : List Int), RpA K A H (ns.map V.int) (ns.map D.int)
  | [] => .nil
  | n :: ns => .cons (.int n) (RpA.of_ints ns)
theorem RpA.strs : ∀ {vs : List V} {ns : List Str}, RpA K A H vs (ns.map D.str) → vs = ns.map V.str
  | vs, [], h => by cases h; rfl
  | vs, n :: ns, h => by
    rw [List.map_cons] at h
    cases h with
    | cons h t =>
      cases h
      rw [RpA.strs t, List.map_cons]
theorem RpA.of_strs : ∀ (ns : List Str), RpA K A H (ns.map V.str) (ns.map D.str)
  | [] => .nil
  | n :: ns => .cons (.str n) (RpA.of_strs ns)
theorem RpA.bls : ∀ {vs : List V} {ns : List Bool}, RpA K A H vs (ns.map D.bl) → vs = ns.map V.bl
  | vs, [], h => by cases h; rfl
  | vs, n :: ns, h => by
    rw [List.map_cons] at h
    cases h with
    | cons h t =>
      cases h
      rw [RpA.bls t, List.map_cons]
end

inductive Own (K : PySem.W.Frag) (A : Addr → Prop) (H : Hp) (p : Addr) : D → Prop where
  | lst {vs : List V} {ds : List D} : H p = some (.lst vs) → RpA K A H vs ds → Own K A H p (.lst ds)
  | obj {dx : Addr} {c : Str} {fs : List (Str × V)} {ds : List (Str × D)} : H p = some (.ins (He.ga K c) dx fs) → RpF K A H fs ds → Own K A H p (.obj c ds)
theorem Own.there {K : PySem.W.Frag} {A : Addr → Prop} {H : Hp} {p : Addr} {d : D} (h : Own K A H p d) : ∃ o, H p = some o := by
  cases h with
  | lst e _ => exact ⟨_, e⟩
  | obj e _ => exact ⟨_, e⟩
theorem Own.tr {K : PySem.W.Frag} {A A' : Addr → Prop} {H H' : Hp} {p : Addr} {d : D} (h : Own K A H p d) (t : Tr A A' H H') (hp : ∀ o, H p = some o → H' p = some o) : Own K A' H' p d := by
  cases h with
  | lst e q => exact .lst (hp _ e) (q.tr t)
  | obj e q => exact .obj (hp _ e) (q.tr t)
theorem Own.freeze {K : PySem.W.Frag} {A A' : Addr → Prop} {H : Hp} {p : Addr} {d : D} (h : Own K A H p d) (s : ∀ a, A' a → A a) (n : ¬ A' p) : Rp K A' H (.ref p) d := by
  have t : Tr A A' H H := fun a o e q => ⟨e, fun z => q (s a z)⟩
  cases h with
  | lst e q => exact .lst e n (q.tr t)
  | obj e q => exact .obj e n (q.tr t)

structure Gd where
  A0 : Addr → Prop
  H0 : Hp
  io : Option Addr
  px : Option (Nat × Addr × Str)
structure RelS (K : PySem.W.Frag) (G : Gd) (O : List Nat) (A : Addr → Prop) (ms : Nat → Option Addr) (σ : L2.St) (H : Hp) (ρ : En) : Prop where
  sub : ∀ a, G.A0 a → A a
  trk0 : ∀ a, G.A0 a → ∃ o, G.H0 a = some o
  trk : ∀ a, A a → ∃ o, H a = some o
  keep : ∀ a o, G.H0 a = some o → G.io ≠ some a → H a = some o
  len : σ.length = ρ.length
  fz : ∀ i d, ρ[i]? = some (some d) → i ∉ O → ∃ v, σ[i]? = some (some v) ∧ Rp K A H v d
  ow : ∀ i d, ρ[i]? = some (some d) → i ∈ O → ∃ p, ms i = some p ∧ σ[i]? = some (some (.ref p)) ∧ Own K A H p d
  inA : ∀ i p, i ∈ O → ms i = some p → A p
  ok : ∀ i p, i ∈ O → ms i = some p → (i = 0 ∧ G.io = some p) ∨ ((i ≠ 0 ∨ G.io = none) ∧ G.H0 p = none)
  dist : ∀ i j p, i ∈ O → j ∈ O → ms i = some p → ms j = some p → i = j
  px : ∀ i a c, G.px = some (i, a, c) → i ∈ O ∧ σ[i]? = some (some (.ref a))
  io : ∀ p, G.io = some p → 0 ∈ O ∧ G.A0 p ∧ ms 0 = some p ∧ ∃ d, ρ[0]? = some (some d)
def Kp (O : List Nat) (ms : Nat → Option Addr) (H H' : Hp) : Prop := ∀ a o, H a = some o → (∀ i ∈ O, ms i ≠ some a) → H' a = some o
section
variable {O : List Nat} {ms : Nat → Option Addr}
theorem Kp.refl {H : Hp} : Kp O ms H H := fun _ _ e _ => e
theorem Kp.trans {H H1 H2 : Hp} (a : Kp O ms H H1) (b : Kp O ms H1 H2) : Kp O ms H H2 := fun x o e n => b x o (a x o e n) n
theorem Kp.same {H H' : Hp} (k : Same H H') : Kp O ms H H' := fun a o e _ => k a o e
theorem Tr.same {A : Addr → Prop} {H H' : Hp} (k : Same H H') : Tr A A H H' := fun a o e n => ⟨k a o e, n⟩
theorem RelS.kt {K : PySem.W.Frag} {G : Gd} {A : Addr → Prop} {σ : L2.St} {H0 H H' : Hp} {ρ : En} (R : RelS K G O A ms σ H0 ρ) (k : Kp O ms H H') : Tr A A H H' := fun a o e n => ⟨k a o e fun i m z => n (R.inA i a m z), n⟩
theorem RelS.same {K : PySem.W.Frag} {G : Gd} {A : Addr → Prop} {σ : L2.St} {H H' : Hp} {ρ : En} (h : RelS K G O A ms σ H ρ) (k : Same H H') : RelS K G O A ms σ H' ρ where
  sub := h.sub
  trk0 := h.trk0
  trk := fun a q => let ⟨o, e⟩ := h.trk a q; ⟨o, k _ _ e⟩
  keep := fun a o e n => k _ _ (h.keep a o e n)
  len := h.len
  fz := fun i d e n => let ⟨v, e1, q⟩ := h.fz i d e n; ⟨v, e1, q.tr (Tr.same k)⟩
  ow := fun i d e n => let ⟨p, e0, e1, q⟩ := h.ow i d e n; ⟨p, e0, e1, q.tr (Tr.same k) fun o z => k _ _ z⟩
  inA := h.inA
  ok := h.ok
  dist := h.dist
  px := h.px
  io := h.io
end

def XRel (K : PySem.W.Frag) (A : Addr → Prop) (H : Hp) (x : Xn) (dx : Option Addr) : Prop :=
  (x.fs = [] ∧ dx = none) ∨ (x.fs ≠ [] ∧ ∃ d fs, dx = some d ∧ H d = some (.xd fs) ∧ RpF K A H fs x.fs)
section
variable (K : PySem.W.Frag) (G : Gd) (O : List Nat) (W : WX) (A : Addr → Prop) (ms : Nat → Option Addr) (σ : L2.St)
def RPost {α β : Type} (H : Hp) (rel : Hp → β → α → Prop) (Q : β → Hp → Prop) : R α → Prop
  | .ok d ρ' => ∀ v H', RelS K G O A ms σ H' ρ' → Kp O ms H H' → rel H' v d → Q v H'
  | .ex x ρ' => ∀ dx H', RelS K G O A ms σ H' ρ' → Kp O ms H H' → XRel K A H' x dx → W (.ref (He.ga K x.c)) dx σ H'
  | .bad => False
end
section
variable {K : PySem.W.Frag} {G : Gd} {O : List Nat} {W : WX} {A : Addr → Prop} {ms : Nat → Option Addr} {σ : L2.St} {H H1 : Hp}
theorem RPost.from {α β : Type} {rel : Hp → β → α → Prop} {Q : β → Hp → Prop} {r : R α} (k : Kp O ms H H1) (h : RPost K G O W A ms σ H rel Q r) : RPost K G O W A ms σ H1 rel Q r := by
  cases r with
  | ok d ρ => exact fun v H' R k' q => h v H' R (k.trans k') q
  | ex x ρ => exact fun dx H' R k' q => h dx H' R (k.trans k') q
  | bad => exact h
theorem RPost.mono {α β : Type} {rel : Hp → β → α → Prop} {Q Q' : β → Hp → Prop} {r : R α} (h : RPost K G O W A ms σ H rel Q r) (w : ∀ v H', Q v H' → Q' v H') : RPost K G O W A ms σ H rel Q' r := by
  cases r with
  | ok d ρ => exact fun v H' R k' q => w _ _ (h v H' R k' q)
  | ex x ρ => exact h
  | bad => exact h
theorem RPost.bind {α β γ δ : Type} {rel : Hp → β → α → Prop} {rel' : Hp → δ → γ → Prop} {Q : δ → Hp → Prop} {r : R α} {f : α → En → R γ} (h : RPost K G O W A ms σ H rel' Q (r.bind f)) :
    RPost K G O W A ms σ H rel (fun v H1 => ∃ d ρ1, RelS K G O A ms σ H1 ρ1 ∧ Kp O ms H H1 ∧ rel H1 v d ∧ RPost K G O W A ms σ H1 rel' Q (f d ρ1)) r := by
  cases r with
  | ok d ρ => exact fun v H' R k' q => ⟨d, ρ, R, k', q, RPost.from k' h⟩
  | ex x ρ => exact h
  | bad => exact h
end

def tE (K : PySem.W.Frag) (G : Gd) (O : List Nat) (W : WX) (m : ME) : TE := fun σ H Q => ∃ A ms ρ, RelS K G O A ms σ H ρ ∧ RPost K G O W A ms σ H (Rp K A) Q (m ρ)
def tT (K : PySem.W.Frag) (G : Gd) (O : List Nat) (W : WX) (m : MT) : TT := fun σ H Q => ∃ A ms ρ, RelS K G O A ms σ H ρ ∧ RPost K G O W A ms σ H (fun _ => Eq) Q (m ρ)
def tA (K : PySem.W.Frag) (G : Gd) (O : List Nat) (W : WX) (m : MA) : TA := fun σ H Q => ∃ A ms ρ, RelS K G O A ms σ H ρ ∧ RPost K G O W A ms σ H (RpA K A) Q (m ρ)
def DE (X : Cx) (G : Gd) (O : List Nat) (W : WX) (e : Expr) (m : ME) : Prop := PE X e (tE X.K G O W m)
def DT (X : Cx) (G : Gd) (O : List Nat) (W : WX) (e : Expr) (m : MT) : Prop := PT X e (tT X.K G O W m)
def DA (X : Cx) (G : Gd) (O : List Nat) (W : WX) (es : List Expr) (m : MA) : Prop := PA X es (tA X.K G O W m)
theorem pe_imp {X : Cx} {e : Expr} {t t' : TE} (h : PE X e t) (w : ∀ σ H Q, t' σ H Q → t σ H Q) : PE X e t' := ⟨fun pins s σ H Q I q => h.run pins s σ H Q I (w σ H Q q)⟩
theorem pt_imp {X : Cx} {e : Expr} {t t' : TT} (h : PT X e t) (w : ∀ σ H Q, t' σ H Q → t σ H Q) : PT X e t' := ⟨fun pins s σ H Q I q => h.run pins s σ H Q I (w σ H Q q)⟩
theorem pw_imp {X : Cx} {e : Expr} {t t' : TT} (h : PW X e t) (w : ∀ σ H Q, t' σ H Q → t σ H Q) : PW X e t' := ⟨fun wh pins s σ H Q I q => h.run wh pins s σ H Q I (w σ H Q q)⟩
theorem pa_imp {X : Cx} {es : List Expr} {t t' : TA} (h : PA X es t) (w : ∀ σ H Q, t' σ H Q → t σ H Q) : PA X es t' := ⟨fun pos pins s σ H Q I q => h.run pos pins s σ H Q I (w σ H Q q)⟩
theorem ps_imp {X : Cx} {st : Stmt} {t t' : TS} (h : PS X st t) (w : ∀ D σ H, t' D σ H → t D σ H) : PS X st t' := ⟨fun pins s σ H D I q => h.run pins s σ H D I (w D σ H q)⟩
theorem pss_imp {X : Cx} {st : List Stmt} {t t' : TS} (h : PSs X st t) (w : ∀ D σ H, t' D σ H → t D σ H) : PSs X st t' := ⟨fun pins s σ H D I q => h.run pins s σ H D I (w D σ H q)⟩
end DL
namespace DL
open L2 PySem PySem.Spec PyProof.Rows

def ret {α : Type} (d : Option α) (ρ : En) : R α := match d with
  | some d => .ok d ρ
  | none => .bad
def mVar (i : Nat) : ME := fun ρ => match ρ[i]? with
  | some (some d) => .ok d ρ
  | _ => .bad
def mK (d : D) : ME := fun ρ => .ok d ρ
def m1 (g : D → Option D) (a : ME) : ME := fun ρ => (a ρ).bind fun x ρ1 => ret (g x) ρ1
def m2 (g : D → D → Option D) (a b : ME) : ME := fun ρ => (a ρ).bind fun x ρ1 => (b ρ1).bind fun y ρ2 => ret (g x y) ρ2
def mIf (c : MT) (a b : ME) : ME := fun ρ => (c ρ).bind fun k ρ1 => if k = true then a ρ1 else b ρ1
def tru : D → Option Bool
  | .non => some false
  | .bl b => some b
  | .int i => some (i != 0)
  | .str y => if y.length ≤ sizeLine then some ((y.length : Int) != 0) else none
  | .tup l => some (!l.isEmpty)
  | .lst l => some (!l.isEmpty)
  | .scr l => some (!l.isEmpty)
  | _ => none
def mTru (a : ME) : MT := fun ρ => (a ρ).bind fun x ρ1 => ret (tru x) ρ1
def mAndT (a b : MT) : MT := fun ρ => (a ρ).bind fun k ρ1 => if k = true then b ρ1 else .ok false ρ1
def mOrT (a b : MT) : MT := fun ρ => (a ρ).bind fun k ρ1 => if k = true then .ok true ρ1 else b ρ1
def mNotT (a : MT) : MT := fun ρ => (a ρ).bind fun k ρ1 => .ok (!k) ρ1
def mBl (a : MT) : ME := fun ρ => (a ρ).bind fun k ρ1 => .ok (.bl k) ρ1
def mAnd (a b : ME) : ME := fun ρ => (a ρ).bind fun x ρ1 => (ret (tru x) ρ1).bind fun k ρ2 => if k = true then b ρ2 else .ok x ρ2
def mOr (a b : ME) : ME := fun ρ => (a ρ).bind fun x ρ1 => (ret (tru x) ρ1).bind fun k ρ2 => if k = true then .ok x ρ2 else b ρ2
def mNil : MA := fun ρ => .ok [] ρ
def mCons (a : ME) (b : MA) : MA := fun ρ => (a ρ).bind fun x ρ1 => (b ρ1).bind fun xs ρ2 => .ok (x :: xs) ρ2
def mN (g : List D → Option D) (a : MA) : ME := fun ρ => (a ρ).bind fun xs ρ1 => ret (g xs) ρ1
def gTup (xs : List D) : Option D := if xs.length ≤ sizeLine then some (.tup xs) else none
def gLst (xs : List D) : Option D := if xs.length ≤ sizeLine then some (.lst xs) else none
def mChain (g g' : D → D → Option D) (a b c : ME) : ME := fun ρ => (a ρ).bind fun x ρ1 => (b ρ1).bind fun y ρ2 => (ret (g x y) ρ2).bind fun k ρ3 => match k with
  | .bl true => (c ρ3).bind fun z ρ4 => ret (g' y z) ρ4
  | .bl false => .ok (.bl false) ρ3
  | _ => .bad

def gAdd : D → D → Option D
  | .int i, .int j => some (.int (i + j))
  | .str x, .str y => if x.length + y.length ≤ sizeLine then some (.str (x ++ y)) else none
  | .tup xs, .tup ys => if xs.length + ys.length ≤ sizeLine then some (.tup (xs ++ ys)) else none
  | .lst xs, .lst ys => if xs.length + ys.length ≤ sizeLine then some (.lst (xs ++ ys)) else none
  | _, _ => none
def gSub : D → D → Option D
  | .int i, .int j => some (.int (i - j))
  | _, _ => none
def okMul (i j : Int) : Bool := decide (i.natAbs.log2 + j.natAbs.log2 < 100000000)
def gMul : D → D → Option D
  | .int i, .int j => if okMul i j = true then some (.int (i * j)) else none
  | .lst xs, .int k => if -(2 ^ 63) ≤ k ∧ k < 2 ^ 63 ∧ xs.length * k.toNat ≤ sizeLine then some (.lst (List.replicate k.toNat xs).flatten) else none
  | _, _ => none
def gDiv : D → D → Option D
  | .int i, .int j => if j ≠ 0 ∧ j.natAbs.log2 < 9000 then some (.int (i.fdiv j)) else none
  | _, _ => none
instance {i j : Int} : Decidable (CPow i j) := by unfold CPow; infer_instance
def gPow : D → D → Option D
  | .int i, .int j => if CPow i j then some (.int (i ^ j.toNat)) else none
  | _, _ => none
def gMod : D → D → Option D
  | .int i, .int j => if j ≠ 0 then some (.int (i.fmod j)) else none
  | _, _ => none
def gNeg : D → Option D
  | .int i => some (.int (-i))
  | _ => none
def gLt : D → D → Option D
  | .int i, .int j => some (.bl (decide (i < j)))
  | .str i, .str j => some (.bl (decide (i.cps.toList < j.cps.toList)))
  | _, _ => none
def gGt : D → D → Option D
  | .int i, .int j => some (.bl (decide (j < i)))
  | .str i, .str j => some (.bl (decide (j.cps.toList < i.cps.toList)))
  | _, _ => none
def gLe : D → D → Option D
  | .int i, .int j => some (.bl (decide (i ≤ j)))
  | .str i, .str j => some (.bl (!decide (j.cps.toList < i.cps.toList)))
  | _, _ => none
def gGe : D → D → Option D
  | .int i, .int j => some (.bl (decide (j ≤ i)))
  | .str i, .str j => some (.bl (!decide (i.cps.toList < j.cps.toList)))
  | _, _ => none
mutual
def D.py : D → Option PyData
  | .non => some .none
  | .bl b => some (.bool b)
  | .int i => some (.int i)
  | .str x => some (.str x)
  | .tup l => (pyAll l).map .tuple
  | .lst l => (pyAll l).map .list
  | _ => none
def pyAll : List D → Option (List PyData)
  | [] => some []
  | d :: ds => (D.py d).bind fun x => (pyAll ds).map fun xs => x :: xs
end
def eqD (a b : D) : Option Bool := match a, b with
  | .int i, .int j => some (decide (i = j))
  | .str i, .str j => some (decide (i = j))
  | .bl i, .bl j => some (decide (i = j))
  | .non, .non => some true
  | a, b => match a.py, b.py with
    | some x, some y => if SeqAt.shaped x = true ∧ SeqAt.shaped y = true then some (PyData.eqv x y) else none
    | _, _ => none
def gEq (a b : D) : Option D := (eqD a b).map D.bl
def gNe (a b : D) : Option D := (eqD a b).map fun k => D.bl (!k)
def isNon : D → Bool
  | .non => true
  | _ => false
def gIs : D → D → Option D
  | a, .non => some (.bl (isNon a))
  | .bl a, .bl b => some (.bl (decide (a = b)))
  | _, _ => none
def gIsNot : D → D → Option D
  | a, .non => some (.bl (!isNon a))
  | .bl a, .bl b => some (.bl (!decide (a = b)))
  | _, _ => none
def inStr (x y : Str) : Bool := !(Builtin.Str.occurrences y x 0 y.length 1).isEmpty
def inD (a : D) (l : D) : Option Bool := match a, l with
  | .str x, .str y => some (inStr x y)
  | a, .lst ds => match a.py, pyAll ds with
    | some x, some ys => if SeqAt.shaped x = true ∧ SeqAt.shaped (.list ys) = true then some (ys.any fun z => PyData.eqv z x) else none
    | _, _ => none
  | _, _ => none
def gIn (a l : D) : Option D := (inD a l).map D.bl
def gNotIn (a l : D) : Option D := (inD a l).map fun k => D.bl (!k)

def Trk (A : Addr → Prop) (H : Hp) : Prop := ∀ p, A p → ∃ o, H p = some o
theorem Trk.no {A : Addr → Prop} {H : Hp} (t : Trk A H) {p : Addr} (h : H p = none) : ¬ A p := fun q => by
  obtain ⟨o, e⟩ := t p q
  rw [h] at e
  cases e
theorem same_upd {H : Hp} {p : Addr} {o : HO} (h : H p = none) : Same H (upd H p o) := fun b x e => by
  rw [upd_ne (ne_of_none e h)]
  exact e
inductive RpB (K : PySem.W.Frag) (A : Addr → Prop) (H : Hp) : V → D → Prop where
  | of {v : V} {d : D} : Rp K A H v d → RpB K A H v d
  | own {p : Addr} {ws : List V} {cs : List D} : H p = some (.lst ws) → RpA K A H ws cs → RpB K A H (.ref p) (.lst cs)
section
variable {K : PySem.W.Frag} {A : Addr → Prop} {H : Hp} {v : V}
theorem RpB.non (h : RpB K A H v .non) : v = .non := by cases h with | of h => cases h; rfl
theorem RpB.bl {b : Bool} (h : RpB K A H v (.bl b)) : v = .bl b := by cases h with | of h => cases h; rfl
theorem RpB.int {i : Int} (h : RpB K A H v (.int i)) : v = .int i := by cases h with | of h => cases h; rfl
theorem RpB.str {x : Str} (h : RpB K A H v (.str x)) : v = .str x := by cases h with | of h => cases h; rfl
theorem RpB.tup {ds : List D} (h : RpB K A H v (.tup ds)) : ∃ a xs, v = .ref a ∧ SqTA K A H a xs ∧ RpA K A H xs ds := by cases h with | of h => cases h with | tup h q => exact ⟨_, _, rfl, h, q⟩
theorem RpB.lst {ds : List D} (h : RpB K A H v (.lst ds)) : ∃ a xs, v = .ref a ∧ H a = some (.lst xs) ∧ RpA K A H xs ds := by
  cases h with
  | of h => cases h with | lst h n q => exact ⟨_, _, rfl, h, q⟩
  | own h q => exact ⟨_, _, rfl, h, q⟩
theorem RpB.scr {ds : List D} (h : RpB K A H v (.scr ds)) : ∃ a xs, v = .ref a ∧ SqLA K A H a xs ∧ RpA K A H xs ds := by cases h with | of h => cases h with | scr h q => exact ⟨_, _, rfl, h, q⟩
end
def rD1 (K : PySem.W.Frag) (g : D → Option D) : V → Hp → VK → Prop := fun x H Q => ∃ A a d, Trk A H ∧ RpB K A H x a ∧ g a = some d ∧ ∀ v H', Same H H' → Rp K A H' v d → Q v H'
def rD2 (K : PySem.W.Frag) (g : D → D → Option D) : R2 := fun x y H Q => ∃ A a b d, Trk A H ∧ RpB K A H x a ∧ RpB K A H y b ∧ g a b = some d ∧ ∀ v H', Same H H' → Rp K A H' v d → Q v H'
def Fr (K : PySem.W.Frag) (A : Addr → Prop) (H H' : Hp) (v : V) (d : D) : Prop := ∀ l, d = .lst l → ∃ p, v = .ref p ∧ H p = none ∧ Own K (fun a => A a ∨ a = p) H' p (.lst l)
def rF2 (K : PySem.W.Frag) (g : D → D → Option D) : R2 := fun x y H Q => ∃ A a b d, Trk A H ∧ RpB K A H x a ∧ RpB K A H y b ∧ g a b = some d ∧ ∀ v H', Same H H' → Rp K A H' v d → Fr K A H H' v d → Q v H'
def rDN (K : PySem.W.Frag) (g : List D → Option D) : List V → Hp → VK → Prop := fun xs H Q => ∃ A ds d, Trk A H ∧ (RpA K A H xs ds ∨ ∃ v c, xs = [v] ∧ ds = [c] ∧ RpB K A H v c) ∧ g ds = some d ∧ ∀ v H', Same H H' → Rp K A H' v d → Q v H'
def rFN (K : PySem.W.Frag) (g : List D → Option D) : List V → Hp → VK → Prop := fun xs H Q => ∃ A ds d, Trk A H ∧ (RpA K A H xs ds ∨ ∃ v c, xs = [v] ∧ ds = [c] ∧ RpB K A H v c) ∧ g ds = some d ∧ ∀ v H', Same H H' → Rp K A H' v d → Fr K A H H' v d → Q v H'
section
variable {K : PySem.W.Frag} {A : Addr → Prop} {H : Hp}
theorem new_tup {p : Addr} {xs : List V} {ds : List D} (t : Trk A H) (h : RpA K A H xs ds) (hp : H p = none) : Rp K A (upd H p (.tup xs)) (.ref p) (.tup ds) :=
  .tup (.inl ⟨.inl upd_same, t.no hp⟩) (h.tr (Tr.same (same_upd hp)))
theorem new_lst {p : Addr} {xs : List V} {ds : List D} (t : Trk A H) (h : RpA K A H xs ds) (hp : H p = none) : Rp K A (upd H p (.lst xs)) (.ref p) (.lst ds) :=
  .lst upd_same (t.no hp) (h.tr (Tr.same (same_upd hp)))
theorem RpA.nil_iff {xs : List V} {ds : List D} (h : RpA K A H xs ds) : xs = [] ↔ ds = [] := by
  cases h with
  | nil => simp
  | cons _ _ => simp
end

theorem ite_d {c : Prop} [Decidable c] {x d : D} (h : (if c then some x else none) = some d) : c ∧ x = d := by
  by_cases q : c
  · rw [if_pos q] at h
    exact ⟨q, Option.some.inj h⟩
  · rw [if_neg q] at h
    cases h
section
variable {X : Cx}
theorem new_own' {K : PySem.W.Frag} {A : Addr → Prop} {H : Hp} {p : Addr} {xs : List V} {ds : List D} (t : Trk A H) (h : RpA K A H xs ds) (hp : H p = none) : Own K (fun a => A a ∨ a = p) (upd H p (.lst xs)) p (.lst ds) :=
  .lst upd_same (h.tr fun a u e n => ⟨same_upd hp _ _ e, fun z => z.elim n fun z => by rw [z, hp] at e; cases e⟩)
theorem new_fr {K : PySem.W.Frag} {A : Addr → Prop} {H : Hp} {p : Addr} {xs : List V} {ds : List D} (t : Trk A H) (h : RpA K A H xs ds) (hp : H p = none) : Fr K A H (upd H p (.lst xs)) (.ref p) (.lst ds) := fun l e => by
  cases e
  exact ⟨p, rfl, hp, new_own' t h hp⟩
theorem no_fr {K : PySem.W.Frag} {A : Addr → Prop} {H H' : Hp} {v : V} {d : D} (h : ∀ l, d ≠ .lst l) : Fr K A H H' v d := fun l e => absurd e (h l)
theorem od_addF : OpR X (binaryOp .Add) (rF2 X.K gAdd) := by
  intro pins s σ H x y v u Q I rx ry ⟨A, a, b, d, t, pa, pb, e, q⟩
  cases a with
  | int i =>
    cases b with
    | int j =>
      cases e
      rw [pa.int] at rx
      rw [pb.int] at ry
      exact op_add pins s σ H _ _ v u Q I rx ry ⟨i, j, rfl, rfl, q _ _ (Same.refl _) (.int _) (no_fr fun _ => nofun)⟩
    | _ => cases e
  | str i =>
    cases b with
    | str j =>
      obtain ⟨hz, rfl⟩ := ite_d (x := .str (i ++ j)) e
      rw [pa.str] at rx
      rw [pb.str] at ry
      exact op_add_str pins s σ H _ _ v u Q I rx ry ⟨i, j, rfl, rfl, hz, q _ _ (Same.refl _) (.str _) (no_fr fun _ => nofun)⟩
    | _ => cases e
  | tup xs =>
    cases b with
    | tup ys =>
      obtain ⟨hz, rfl⟩ := ite_d (x := .tup (xs ++ ys)) e
      obtain ⟨a1, x1, rfl, ha, da⟩ := pa.tup
      obtain ⟨a2, x2, rfl, hb, db⟩ := pb.tup
      refine op_catA pins s σ H _ _ v u Q I rx ry ⟨_, _, _, _, rfl, rfl, ha.sq, hb.sq, by rw [da.length, db.length]; exact hz, fun z => ?_, fun _ z => ?_, fun _ _ p hp => ?_⟩
      · rw [da.nil_iff.mp z, List.nil_append] at q
        exact q _ _ (Same.refl _) (.tup hb db) (no_fr fun _ => nofun)
      · rw [db.nil_iff.mp z, List.append_nil] at q
        exact q _ _ (Same.refl _) (.tup ha da) (no_fr fun _ => nofun)
      · exact q _ _ (same_upd hp) (new_tup t (da.app db) hp) (no_fr fun _ => nofun)
    | _ => cases e
  | lst xs =>
    cases b with
    | lst ys =>
      obtain ⟨hz, rfl⟩ := ite_d (x := .lst (xs ++ ys)) e
      obtain ⟨a1, x1, rfl, ha, da⟩ := pa.lst
      obtain ⟨a2, x2, rfl, hb, db⟩ := pb.lst
      refine op_cat pins s σ H _ _ v u Q I rx ry ⟨_, _, _, _, rfl, rfl, ha, hb, by rw [da.length, db.length]; exact hz, fun p hp => ?_⟩
      exact q _ _ (same_upd hp) (new_lst t (da.app db) hp) (new_fr t (da.app db) hp)
    | _ => cases e
  | _ => cases b <;> cases e
theorem OpR.weak {f : Value → Value → Sem Value} {g : D → D → Option D} (h : OpR X f (rF2 X.K g)) : OpR X f (rD2 X.K g) := fun pins s σ H x y v u Q I rx ry ⟨A, a, b, d, t, pa, pb, e, q⟩ => h pins s σ H x y v u Q I rx ry ⟨A, a, b, d, t, pa, pb, e, fun v H' s r _ => q v H' s r⟩
theorem od_add : OpR X (binaryOp .Add) (rD2 X.K gAdd) := OpR.weak od_addF
theorem od_sub : OpR X (binaryOp .Sub) (rD2 X.K gSub) := by
  intro pins s σ H x y v u Q I rx ry ⟨A, a, b, d, t, pa, pb, e, q⟩
  cases a with
  | int i =>
    cases b with
    | int j =>
      cases e
      rw [pa.int] at rx
      rw [pb.int] at ry
      exact op_sub pins s σ H _ _ v u Q I rx ry ⟨i, j, rfl, rfl, q _ _ (Same.refl _) (.int _)⟩
    | _ => cases e
  | _ => cases b <;> cases e
theorem okMul_ok {i j : Int} (h : okMul i j = true) : IntMulOk i j := by
  have b : ∀ x : Int, Builtin.Int.intBits x ≤ x.natAbs.log2 + 1 := fun x => by
    unfold Builtin.Int.intBits
    split <;> omega
  have h1 := b i
  have h2 := b j
  have h3 : i.natAbs.log2 + j.natAbs.log2 < 100000000 := of_decide_eq_true h
  have e : bitsLine = 134217728 := by decide
  unfold IntMulOk
  intro z
  rw [Bool.and_eq_true] at z
  have z2 := z.2
  unfold Builtin.Int.intTooBig at z2
  have z3 := of_decide_eq_true z2
  rw [e] at z3
  omega
theorem RpA.rep {K : PySem.W.Frag} {A : Addr → Prop} {H : Hp} {xs : List V} {ds : List D} (h : RpA K A H xs ds) : ∀ n : Nat, RpA K A H (List.replicate n xs).flatten (List.replicate n ds).flatten
  | 0 => .nil
  | n + 1 => by
    rw [List.replicate_succ, List.replicate_succ, List.flatten_cons, List.flatten_cons]
    exact h.app (RpA.rep h n)
theorem od_mulF : OpR X (binaryOp .Mult) (rF2 X.K gMul) := by
  intro pins s σ H x y v u Q I rx ry ⟨A, a, b, d, t, pa, pb, e, q⟩
  cases a with
  | int i =>
    cases b with
    | int j =>
      obtain ⟨hz, rfl⟩ := ite_d (x := .int (i * j)) e
      rw [pa.int] at rx
      rw [pb.int] at ry
      obtain ⟨t1, rfl⟩ := rx
      obtain ⟨t2, rfl⟩ := ry
      exact mul_int ⟨.int (i * j), H, I.tok _, ⟨_, rfl⟩, q _ _ (Same.refl _) (.int _) (no_fr fun _ => nofun)⟩ (okMul_ok hz)
    | _ => cases e
  | lst xs =>
    cases b with
    | int k =>
      obtain ⟨hz, rfl⟩ := ite_d (x := .lst (List.replicate k.toNat xs).flatten) e
      obtain ⟨a1, x1, rfl, ha, da⟩ := pa.lst
      rw [pb.int] at ry
      refine op_rep pins s σ H _ _ v u Q I rx ry ⟨_, k, _, rfl, rfl, ha, hz.1, hz.2.1, by rw [da.length]; exact hz.2.2, fun p hp => ?_⟩
      exact q _ _ (same_upd hp) (new_lst t (da.rep _) hp) (new_fr t (da.rep _) hp)
    | _ => cases e
  | _ => cases b <;> cases e
theorem od_mul : OpR X (binaryOp .Mult) (rD2 X.K gMul) := OpR.weak od_mulF
theorem od_div : OpR X (binaryOp .FloorDiv) (rD2 X.K gDiv) := by
  intro pins s σ H x y v u Q I rx ry ⟨A, a, b, d, t, pa, pb, e, q⟩
  cases a with
  | int i =>
    cases b with
    | int j =>
      obtain ⟨hz, rfl⟩ := ite_d (x := .int (i.fdiv j)) e
      rw [pa.int] at rx
      rw [pb.int] at ry
      obtain ⟨t1, rfl⟩ := rx
      obtain ⟨t2, rfl⟩ := ry
      exact floordiv_int hz.1 ⟨.int (i.fdiv j), H, I.tok _, ⟨_, rfl⟩, q _ _ (Same.refl _) (.int _)⟩ (.inl (PyProof.noPylong_of_log2 hz.2))
    | _ => cases e
  | _ => cases b <;> cases e
theorem od_mod : OpR X (binaryOp .Mod) (rD2 X.K gMod) := by
  intro pins s σ H x y v u Q I rx ry ⟨A, a, b, d, t, pa, pb, e, q⟩
  cases a with
  | int i =>
    cases b with
    | int j =>
      obtain ⟨hz, rfl⟩ := ite_d (x := .int (i.fmod j)) e
      rw [pa.int] at rx
      rw [pb.int] at ry
      exact op_modN pins s σ H _ _ v u Q I rx ry ⟨i, j, rfl, rfl, hz, q _ _ (Same.refl _) (.int _)⟩
    | _ => cases e
  | _ => cases b <;> cases e
theorem od_pow : OpR X (binaryOp .Pow) (rD2 X.K gPow) := by
  intro pins s σ H x y v u Q I rx ry ⟨A, a, b, d, t, pa, pb, e, q⟩
  cases a with
  | int i =>
    cases b with
    | int j =>
      obtain ⟨hz, rfl⟩ := ite_d (x := .int (i ^ j.toNat)) e
      rw [pa.int] at rx
      rw [pb.int] at ry
      exact op_pow pins s σ H _ _ v u Q I rx ry ⟨i, j, rfl, rfl, hz, q _ _ (Same.refl _) (.int _)⟩
    | _ => cases e
  | _ => cases b <;> cases e
theorem ud_neg : UnR X (unaryOp .USub) (rD1 X.K gNeg) := by
  intro pins s σ H x v Q I rx ⟨A, a, d, t, pa, e, q⟩
  cases a with
  | int i =>
    cases e
    rw [pa.int] at rx
    exact un_neg pins s σ H _ v Q I rx ⟨i, rfl, q _ _ (Same.refl _) (.int _)⟩
  | _ => cases e
theorem od_lt : OpR X (compareOp .Lt) (rD2 X.K gLt) := by
  intro pins s σ H x y v u Q I rx ry ⟨A, a, b, d, t, pa, pb, e, q⟩
  cases a with
  | int i =>
    cases b with
    | int j =>
      cases e
      rw [pa.int] at rx
      rw [pb.int] at ry
      exact op_lt pins s σ H _ _ v u Q I rx ry ⟨i, j, rfl, rfl, q _ _ (Same.refl _) (.bl _)⟩
    | _ => cases e
  | str i =>
    cases b with
    | str j =>
      cases e
      rw [pa.str] at rx
      rw [pb.str] at ry
      exact op_lt_str pins s σ H _ _ v u Q I rx ry ⟨i, j, rfl, rfl, q _ _ (Same.refl _) (.bl _)⟩
    | _ => cases e
  | _ => cases b <;> cases e
theorem od_gt : OpR X (compareOp .Gt) (rD2 X.K gGt) := by
  intro pins s σ H x y v u Q I rx ry ⟨A, a, b, d, t, pa, pb, e, q⟩
  cases a with
  | int i =>
    cases b with
    | int j =>
      cases e
      rw [pa.int] at rx
      rw [pb.int] at ry
      exact op_gt pins s σ H _ _ v u Q I rx ry ⟨i, j, rfl, rfl, q _ _ (Same.refl _) (.bl _)⟩
    | _ => cases e
  | str i =>
    cases b with
    | str j =>
      cases e
      rw [pa.str] at rx
      rw [pb.str] at ry
      exact op_gt_str pins s σ H _ _ v u Q I rx ry ⟨i, j, rfl, rfl, q _ _ (Same.refl _) (.bl _)⟩
    | _ => cases e
  | _ => cases b <;> cases e
theorem od_le : OpR X (compareOp .LtE) (rD2 X.K gLe) := by
  intro pins s σ H x y v u Q I rx ry ⟨A, a, b, d, t, pa, pb, e, q⟩
  cases a with
  | int i =>
    cases b with
    | int j =>
      cases e
      rw [pa.int] at rx
      rw [pb.int] at ry
      exact op_le pins s σ H _ _ v u Q I rx ry ⟨i, j, rfl, rfl, q _ _ (Same.refl _) (.bl _)⟩
    | _ => cases e
  | str i =>
    cases b with
    | str j =>
      cases e
      rw [pa.str] at rx
      rw [pb.str] at ry
      exact op_le_str pins s σ H _ _ v u Q I rx ry ⟨i, j, rfl, rfl, q _ _ (Same.refl _) (.bl _)⟩
    | _ => cases e
  | _ => cases b <;> cases e
theorem od_ge : OpR X (compareOp .GtE) (rD2 X.K gGe) := by
  intro pins s σ H x y v u Q I rx ry ⟨A, a, b, d, t, pa, pb, e, q⟩
  cases a with
  | int i =>
    cases b with
    | int j =>
      cases e
      rw [pa.int] at rx
      rw [pb.int] at ry
      exact op_ge pins s σ H _ _ v u Q I rx ry ⟨i, j, rfl, rfl, q _ _ (Same.refl _) (.bl _)⟩
    | _ => cases e
  | str i =>
    cases b with
    | str j =>
      cases e
      rw [pa.str] at rx
      rw [pb.str] at ry
      exact op_ge_str pins s σ H _ _ v u Q I rx ry ⟨i, j, rfl, rfl, q _ _ (Same.refl _) (.bl _)⟩
    | _ => cases e
  | _ => cases b <;> cases e

mutual
theorem Rp.dp {K : PySem.W.Frag} {A : Addr → Prop} {H : Hp} : ∀ {v : V} {d : D} {x : PyData}, Rp K A H v d → d.py = some x → Dp K H v x
  | _, _, _, .non, e => by cases e; exact .non
  | _, _, _, .bl b, e => by cases e; exact .bl b
  | _, _, _, .int i, e => by cases e; exact .int i
  | _, _, _, .str i, e => by cases e; exact .str i
  | _, .tup ds, _, .tup h q, e => by
    unfold D.py at e
    cases hp : pyAll ds with
    | none => rw [hp] at e; cases e
    | some ys => rw [hp] at e; cases e; exact .tup h.sq (RpA.dp q hp)
  | _, .lst ds, _, .lst h n q, e => by
    unfold D.py at e
    cases hp : pyAll ds with
    | none => rw [hp] at e; cases e
    | some ys => rw [hp] at e; cases e; exact .lst (SqL.of h) (RpA.dp q hp)
  | _, _, _, .scr _ _, e => by unfold D.py at e; cases e
  | _, _, _, .fn _, e => by unfold D.py at e; cases e
  | _, _, _, .obj _ _ _, e => by unfold D.py at e; cases e
theorem RpA.dp {K : PySem.W.Frag} {A : Addr → Prop} {H : Hp} : ∀ {v : List V} {d : List D} {x : List PyData}, RpA K A H v d → pyAll d = some x → DpAll K H v x
  | _, _, _, .nil, e => by cases e; exact .nil
  | _, d :: ds, _, .cons h q, e => by
    unfold pyAll at e
    cases h1 : d.py with
    | none => rw [h1] at e; cases e
    | some y =>
      rw [h1] at e
      cases h2 : pyAll ds with
      | none => rw [h2] at e; cases e
      | some ys => rw [h2] at e; cases e; exact .cons (Rp.dp h h1) (RpA.dp q h2)
end
theorem RpB.dp {K : PySem.W.Frag} {A : Addr → Prop} {H : Hp} {v : V} {d : D} {x : PyData} (h : RpB K A H v d) (e : d.py = some x) : Dp K H v x := by
  cases h with
  | of h => exact h.dp e
  | @own p ws cs h q =>
    unfold D.py at e
    cases hp : pyAll cs with
    | none => rw [hp] at e; cases e
    | some ys => rw [hp] at e; cases e; exact .lst (SqL.of h) (RpA.dp q hp)
theorem eqD_some {a b : D} {k : Bool} (e : eqD a b = some k) : (∃ i j, a = .int i ∧ b = .int j ∧ k = decide (i = j)) ∨ (∃ i j, a = .str i ∧ b = .str j ∧ k = decide (i = j)) ∨ (∃ i j, a = .bl i ∧ b = .bl j ∧ k = decide (i = j)) ∨ (a = .non ∧ b = .non ∧ k = true) ∨
    ∃ x y, a.py = some x ∧ b.py = some y ∧ SeqAt.shaped x = true ∧ SeqAt.shaped y = true ∧ k = PyData.eqv x y := by
  unfold eqD at e
  split at e
  · cases e; exact .inl ⟨_, _, rfl, rfl, rfl⟩
  · cases e; exact .inr (.inl ⟨_, _, rfl, rfl, rfl⟩)
  · cases e; exact .inr (.inr (.inl ⟨_, _, rfl, rfl, rfl⟩))
  · cases e; exact .inr (.inr (.inr (.inl ⟨rfl, rfl, rfl⟩)))
  · split at e
    · rename_i x y hx hy
      split at e
      · rename_i hs
        cases e
        exact .inr (.inr (.inr (.inr ⟨x, y, hx, hy, hs.1, hs.2, rfl⟩)))
      · cases e
    · cases e
theorem map_some {α β : Type} {o : Option α} {f : α → β} {z : β} (e : o.map f = some z) : ∃ k, o = some k ∧ z = f k := by
  cases o with
  | none => cases e
  | some k => cases e; exact ⟨k, rfl, rfl⟩
theorem decI {i j : Int} : decide (V.int i = V.int j) = decide (i = j) := by rw [decide_eq_decide]; simp
theorem decS {i j : Str} : decide (V.str i = V.str j) = decide (i = j) := by rw [decide_eq_decide]; simp
theorem decB {i j : Bool} : decide (V.bl i = V.bl j) = decide (i = j) := by rw [decide_eq_decide]; simp
theorem od_eq (hu : X.A.units + 64 < cLine) : OpR X (compareOp .Eq) (rD2 X.K gEq) := by
  intro pins s σ H x y v u Q I rx ry ⟨A, a, b, d, t, pa, pb, e, q⟩
  obtain ⟨k, e2, rfl⟩ := map_some e
  rcases eqD_some e2 with ⟨i, j, rfl, rfl, rfl⟩ | ⟨i, j, rfl, rfl, rfl⟩ | ⟨i, j, rfl, rfl, rfl⟩ | ⟨rfl, rfl, rfl⟩ | ⟨x', y', hx, hy, sx, sy, rfl⟩
  · rw [pa.int] at rx; rw [pb.int] at ry
    exact op_eq pins s σ H _ _ v u Q I rx ry ⟨rfl, by rw [decI]; exact q _ _ (Same.refl _) (.bl _)⟩
  · rw [pa.str] at rx; rw [pb.str] at ry
    exact op_eq pins s σ H _ _ v u Q I rx ry ⟨rfl, by rw [decS]; exact q _ _ (Same.refl _) (.bl _)⟩
  · rw [pa.bl] at rx; rw [pb.bl] at ry
    exact op_eq pins s σ H _ _ v u Q I rx ry ⟨rfl, by rw [decB]; exact q _ _ (Same.refl _) (.bl _)⟩
  · rw [pa.non] at rx; rw [pb.non] at ry
    exact op_eq pins s σ H _ _ v u Q I rx ry ⟨rfl, q _ _ (Same.refl _) (.bl _)⟩
  · exact op_eqD hu pins s σ H _ _ v u Q I rx ry ⟨x', y', pa.dp hx, pb.dp hy, sx, sy, q _ _ (Same.refl _) (.bl _)⟩
theorem od_ne (hu : X.A.units + 64 < cLine) : OpR X (compareOp .NotEq) (rD2 X.K gNe) := by
  intro pins s σ H x y v u Q I rx ry ⟨A, a, b, d, t, pa, pb, e, q⟩
  obtain ⟨k, e2, rfl⟩ := map_some e
  rcases eqD_some e2 with ⟨i, j, rfl, rfl, rfl⟩ | ⟨i, j, rfl, rfl, rfl⟩ | ⟨i, j, rfl, rfl, rfl⟩ | ⟨rfl, rfl, rfl⟩ | ⟨x', y', hx, hy, sx, sy, rfl⟩
  · rw [pa.int] at rx; rw [pb.int] at ry
    exact op_ne pins s σ H _ _ v u Q I rx ry ⟨rfl, by rw [decI]; exact q _ _ (Same.refl _) (.bl _)⟩
  · rw [pa.str] at rx; rw [pb.str] at ry
    exact op_ne pins s σ H _ _ v u Q I rx ry ⟨rfl, by rw [decS]; exact q _ _ (Same.refl _) (.bl _)⟩
  · rw [pa.bl] at rx; rw [pb.bl] at ry
    exact op_ne pins s σ H _ _ v u Q I rx ry ⟨rfl, by rw [decB]; exact q _ _ (Same.refl _) (.bl _)⟩
  · rw [pa.non] at rx; rw [pb.non] at ry
    exact op_ne pins s σ H _ _ v u Q I rx ry ⟨rfl, q _ _ (Same.refl _) (.bl _)⟩
  · exact op_neD hu pins s σ H _ _ v u Q I rx ry ⟨x', y', pa.dp hx, pb.dp hy, sx, sy, q _ _ (Same.refl _) (.bl _)⟩
theorem isNon_dec {K : PySem.W.Frag} {A : Addr → Prop} {H : Hp} {x : V} {a : D} (h : RpB K A H x a) : decide (x = V.non) = isNon a := by
  cases h with
  | of h => cases h <;> simp [isNon]
  | own _ _ => simp [isNon]
theorem od_is : OpR X (compareOp .Is) (rD2 X.K gIs) := by
  intro pins s σ H x y v u Q I rx ry ⟨A, a, b, d, t, pa, pb, e, q⟩
  cases b with
  | non =>
    have e' : some (D.bl (isNon a)) = some d := by
      rw [← e]
      cases a <;> rfl
    cases e'
    rw [pb.non] at ry
    exact op_isN pins s σ H _ _ v u Q I rx ry ⟨rfl, by rw [isNon_dec pa]; exact q _ _ (Same.refl _) (.bl _)⟩
  | bl k =>
    cases a with
    | bl j =>
      cases e
      rw [pa.bl] at rx
      rw [pb.bl] at ry
      exact op_isBl pins s σ H _ _ v u Q I rx ry ⟨j, k, rfl, rfl, q _ _ (Same.refl _) (.bl _)⟩
    | _ => cases e
  | _ => cases a <;> cases e
theorem od_isnot : OpR X (compareOp .IsNot) (rD2 X.K gIsNot) := by
  intro pins s σ H x y v u Q I rx ry ⟨A, a, b, d, t, pa, pb, e, q⟩
  cases b with
  | non =>
    have e' : some (D.bl (!isNon a)) = some d := by
      rw [← e]
      cases a <;> rfl
    cases e'
    rw [pb.non] at ry
    exact op_notN pins s σ H _ _ v u Q I rx ry ⟨rfl, by rw [isNon_dec pa]; exact q _ _ (Same.refl _) (.bl _)⟩
  | bl k =>
    cases a with
    | bl j =>
      cases e
      rw [pa.bl] at rx
      rw [pb.bl] at ry
      exact op_notBl pins s σ H _ _ v u Q I rx ry ⟨j, k, rfl, rfl, q _ _ (Same.refl _) (.bl _)⟩
    | _ => cases e
  | _ => cases a <;> cases e
theorem inD_some {a l : D} {k : Bool} (e : inD a l = some k) : (∃ x y, a = .str x ∧ l = .str y ∧ k = inStr x y) ∨
    ∃ ds x ys, l = .lst ds ∧ a.py = some x ∧ pyAll ds = some ys ∧ SeqAt.shaped x = true ∧ SeqAt.shaped (.list ys) = true ∧ k = ys.any fun z => PyData.eqv z x := by
  unfold inD at e
  split at e
  · cases e; exact .inl ⟨_, _, rfl, rfl, rfl⟩
  · split at e
    · rename_i x y hx hy
      split at e
      · rename_i hs
        cases e
        exact .inr ⟨_, x, y, rfl, hx, hy, hs.1, hs.2, rfl⟩
      · cases e
    · cases e
  · cases e
theorem od_in (hu : X.A.units + 65 < cLine) : OpR X (compareOp .In) (rD2 X.K gIn) := by
  intro pins s σ H x y v u Q I rx ry ⟨A, a, b, d, t, pa, pb, e, q⟩
  obtain ⟨k, e2, rfl⟩ := map_some e
  rcases inD_some e2 with ⟨i, j, rfl, rfl, rfl⟩ | ⟨ds, x', ys, rfl, hx, hy, sx, sy, rfl⟩
  · rw [pa.str] at rx; rw [pb.str] at ry
    exact op_in_str pins s σ H _ _ v u Q I rx ry ⟨i, j, rfl, rfl, q _ _ (Same.refl _) (.bl _)⟩
  · exact op_inD hu pins s σ H _ _ v u Q I rx ry ⟨x', ys, pa.dp hx, pb.dp (by unfold D.py; rw [hy]; rfl), sx, sy, q _ _ (Same.refl _) (.bl _)⟩
theorem od_notin (hu : X.A.units + 65 < cLine) : OpR X (compareOp .NotIn) (rD2 X.K gNotIn) := by
  intro pins s σ H x y v u Q I rx ry ⟨A, a, b, d, t, pa, pb, e, q⟩
  obtain ⟨k, e2, rfl⟩ := map_some e
  rcases inD_some e2 with ⟨i, j, rfl, rfl, rfl⟩ | ⟨ds, x', ys, rfl, hx, hy, sx, sy, rfl⟩
  · rw [pa.str] at rx; rw [pb.str] at ry
    exact op_notIn_str pins s σ H _ _ v u Q I rx ry ⟨i, j, rfl, rfl, q _ _ (Same.refl _) (.bl _)⟩
  · exact op_notInD hu pins s σ H _ _ v u Q I rx ry ⟨x', ys, pa.dp hx, pb.dp (by unfold D.py; rw [hy]; rfl), sx, sy, q _ _ (Same.refl _) (.bl _)⟩
end
end DL
namespace DL
open L2 PySem PySem.Spec PyProof.Rows

theorem ite2' {c : Bool} {P Q : Prop} (h1 : c = true → P) (h2 : c = false → Q) : if c = true then P else Q := by
  cases c
  · exact h2 rfl
  · exact h1 rfl
section
variable {X : Cx} {G : Gd} {O : List Nat} {W : WX} {a b c e : Expr} {es : List Expr} {ma mb mc : ME} {pos : Pos}
theorem de_var (i : Nat) {x : Str} {pos : Pos} (hO : O.contains i = false) (hN : X.N[i]? = some x) (hv : Vis X.env.scope x) (hd : (x == ("__debug__" : Str)) = false := by decide)
    (hcd : (x == ("__classdict__" : Str)) = false := by decide) : DE X G O W (.Name x pos) (mVar i) := by
  refine pe_imp (pe_var hN hv hd hcd) fun σ H Q ⟨A, ms, ρ, R, q⟩ => ?_
  unfold mVar at q
  split at q
  · rename_i d h
    obtain ⟨v, h1, h2⟩ := R.fz i d h fun z => by rw [List.contains_iff_mem.mpr z] at hO; cases hO
    exact ⟨v, h1, q v H R Kp.refl h2⟩
  · exact q.elim
theorem de_c {e : Expr} {v : V} {d : D} (h : PE X e (tC v)) (r : ∀ A H, Rp X.K A H v d) : DE X G O W e (mK d) :=
  pe_imp h fun σ H Q ⟨A, ms, ρ, R, q⟩ => q v H R Kp.refl (r A H)
theorem de_int {i j pos} : DE X G O W (.Constant (.int i) j pos) (mK (.int i)) := de_c pe_int fun _ _ => .int i
theorem de_bl {b j pos} : DE X G O W (.Constant (.bool b) j pos) (mK (.bl b)) := de_c pe_bl fun _ _ => .bl b
theorem de_non {j pos} : DE X G O W (.Constant .none j pos) (mK .non) := de_c pe_non fun _ _ => .non
theorem de_str {x j pos} : DE X G O W (.Constant (.str x) j pos) (mK (.str x)) := de_c pe_str fun _ _ => .str x
theorem de_fn {x : Str} (hg : Gl X x) (hm : X.mg x = some (.ref (He.ga X.K x))) (hd : (x == ("__debug__" : Str)) = false := by decide) : DE X G O W (.Name x pos) (mK (.fn x)) := de_c (v := .ref (He.ga X.K x)) (pe_glob hg hm rfl hd) fun _ _ => .fn x

theorem rp_of {α : Type} {g : Option α} {ρ : En} {K : PySem.W.Frag} {A : Addr → Prop} {ms : Nat → Option Addr} {σ : L2.St} {H : Hp} {β : Type} {rel : Hp → β → α → Prop} {Q : β → Hp → Prop} (R : RelS K G O A ms σ H ρ)
    (h : RPost K G O W A ms σ H rel Q (ret g ρ)) : ∃ d, g = some d ∧ ∀ v H', Same H H' → rel H' v d → Q v H' := by
  cases g with
  | none => exact h.elim
  | some d => exact ⟨d, rfl, fun v H' s r => h v H' (R.same s) (Kp.same s) r⟩
theorem de_un {op : UnaryOp} {g : D → Option D} (ho : UnR X (unaryOp op) (rD1 X.K g)) (ha : DE X G O W a ma) : DE X G O W (.UnaryOp op a pos) (m1 g ma) := by
  refine pe_imp (pe_un ho ha) fun σ H Q ⟨A, ms, ρ, R, q⟩ => ?_
  refine ⟨A, ms, ρ, R, q.bind.mono ?_⟩
  rintro x H1 ⟨d, ρ1, R1, k1, r1, q1⟩
  obtain ⟨z, hz, q2⟩ := rp_of R1 q1
  exact ⟨A, d, z, R1.trk, .of r1, hz, q2⟩
theorem op2_go {r : R2} {g : D → D → Option D} {K : PySem.W.Frag} (hr : ∀ x y H Q, rD2 K g x y H Q → r x y H Q) {σ : L2.St} {H : Hp} {Q : VK} (h : tE K G O W (m2 g ma mb) σ H Q) : tOp r (tE K G O W ma) (tE K G O W mb) σ H Q := by
  obtain ⟨A, ms, ρ, R, q⟩ := h
  refine ⟨A, ms, ρ, R, q.bind.mono ?_⟩
  rintro x H1 ⟨d, ρ1, R1, k1, r1, q1⟩
  refine ⟨A, ms, ρ1, R1, q1.bind.mono ?_⟩
  rintro y H2 ⟨d2, ρ2, R2', k2, r2, q2⟩
  obtain ⟨z, hz, q3⟩ := rp_of R2' q2
  exact hr _ _ _ _ ⟨A, d, d2, z, R2'.trk, .of (r1.tr (R1.kt k2)), .of r2, hz, q3⟩
theorem de_bin {op : Operator} {g : D → D → Option D} (ho : OpR X (binaryOp op) (rD2 X.K g)) (ha : DE X G O W a ma) (hb : DE X G O W b mb) : DE X G O W (.BinOp a op b pos) (m2 g ma mb) :=
  pe_imp (pe_op ho ha hb) fun _ _ _ h => op2_go (fun _ _ _ _ z => z) h
theorem de_cmp {op : CmpOp} {g : D → D → Option D} (ho : OpR X (compareOp op) (rD2 X.K g)) (ha : DE X G O W a ma) (hb : DE X G O W b mb) (hm : behindInMarks op b = false) : DE X G O W (.Compare a [op] [b] pos) (m2 g ma mb) :=
  pe_imp (pe_cmpR ho ha hb hm) fun _ _ _ h => op2_go (fun _ _ _ _ z => z) h
theorem de_ix {g : D → D → Option D} (hr : IxR X (rD2 X.K g)) (ha : DE X G O W a ma) (hb : DE X G O W b mb) (hs : PlainIx b) : DE X G O W (.Subscript a b pos) (m2 g ma mb) :=
  pe_imp (pe_ix hr ha hb hs) fun _ _ _ h => op2_go (fun _ _ _ _ z => z) h
theorem tru_ok' {K : PySem.W.Frag} {A : Addr → Prop} {H : Hp} {x : V} {d : D} {k : Bool} (h : Rp K A H x d) (e : tru d = some k) : TruV K x H k := by
  cases h with
  | non => cases e; rfl
  | bl b => cases e; rfl
  | int i => cases e; rfl
  | str y =>
    have e' : (if y.length ≤ sizeLine then some ((y.length : Int) != 0) else none) = some k := e
    split at e'
    · rename_i hz
      cases e'
      exact ⟨hz, rfl⟩
    · cases e'
  | tup h q =>
    cases e
    refine .inr (.inl ⟨_, h.sq, ?_⟩)
    have := q.nil_iff
    cases q <;> rfl
  | lst h n q =>
    cases e
    refine .inl ⟨_, SqL.of h, ?_⟩
    cases q <;> rfl
  | scr h q =>
    cases e
    refine .inl ⟨_, h.sq, ?_⟩
    cases q <;> rfl
  | fn _ => cases e
  | obj _ _ _ => cases e
theorem dt_tru (ha : DE X G O W a ma) (he : ∀ whole, isTrue a X.env whole = (do let v ← whole; standAt a.pos; holding [v] (truthy v)) := by intro _; rfl) : DT X G O W a (mTru ma) := by
  refine pt_imp (pt_truth ha he) fun σ H Q ⟨A, ms, ρ, R, q⟩ => ?_
  refine ⟨A, ms, ρ, R, q.bind.mono ?_⟩
  rintro x H1 ⟨d, ρ1, R1, k1, r1, q1⟩
  obtain ⟨z, hz, q2⟩ := rp_of R1 q1
  exact ⟨z, tru_ok' r1 hz, q2 z H1 (Same.refl _) rfl⟩
def asB : D → Option Bool
  | .bl b => some b
  | _ => none
def mTest (m : ME) : MT := fun ρ => (m ρ).bind fun x ρ1 => ret (asB x) ρ1
theorem test_go {t : TE} {m : ME} {K : PySem.W.Frag} (ht : ∀ σ H Q, tE K G O W m σ H Q → t σ H Q) {σ : L2.St} {H : Hp} {Q : Bool → Hp → Prop} (h : tT K G O W (mTest m) σ H Q) : tTest t σ H Q := by
  obtain ⟨A, ms, ρ, R, q⟩ := h
  refine ht _ _ _ ⟨A, ms, ρ, R, q.bind.mono ?_⟩
  rintro x H1 ⟨d, ρ1, R1, k1, r1, q1⟩
  obtain ⟨z, hz, q2⟩ := rp_of R1 q1
  cases d with
  | bl k =>
    cases hz
    cases r1
    exact ⟨_, rfl, q2 _ H1 (Same.refl _) rfl⟩
  | _ => cases hz
theorem dt_cmp {op : CmpOp} {g : D → D → Option D} (ho : OpR X (compareOp op) (rD2 X.K g)) (ha : DE X G O W a ma) (hb : DE X G O W b mb) (hm : behindInMarks op b = false) : DT X G O W (.Compare a [op] [b] pos) (mTest (m2 g ma mb)) :=
  pt_imp (pt_cmpR ho ha hb hm) fun _ _ _ h => test_go (fun _ _ _ z => op2_go (fun _ _ _ _ z => z) z) h
theorem chain_go {g g' : D → D → Option D} {K : PySem.W.Frag} {σ : L2.St} {H : Hp} {Q : VK} (h : tE K G O W (mChain g g' ma mb mc) σ H Q) : tChain (rD2 K g) (rD2 K g') (tE K G O W ma) (tE K G O W mb) (tE K G O W mc) σ H Q := by
  obtain ⟨A, ms, ρ, R, q⟩ := h
  refine ⟨A, ms, ρ, R, q.bind.mono ?_⟩
  rintro x H1 ⟨d, ρ1, R1, k1, r1, q1⟩
  refine ⟨A, ms, ρ1, R1, q1.bind.mono ?_⟩
  rintro y H2 ⟨d2, ρ2, R2', k2, r2, q2⟩
  obtain ⟨z, hz, q3⟩ := rp_of (rel := Rp K A) R2' q2.bind
  refine ⟨A, d, d2, z, R2'.trk, .of (r1.tr (R1.kt k2)), .of r2, hz, fun v H3 s r => ?_⟩
  obtain ⟨d3, ρ3, R3, k3, r3, q4⟩ := q3 v H3 s r
  cases d3 with
  | bl k =>
    cases r3
    refine ⟨_, rfl, ?_⟩
    cases k with
    | true =>
      rw [if_pos rfl]
      refine ⟨A, ms, ρ3, R3, RPost.mono (RPost.bind q4) ?_⟩
      rintro w H4 ⟨d4, ρ4, R4, k4, r4, q5⟩
      obtain ⟨z2, hz2, q6⟩ := rp_of R4 q5
      exact ⟨A, d2, d4, z2, R4.trk, .of ((r2.tr (R2'.kt k3)).tr (R3.kt k4)), .of r4, hz2, q6⟩
    | false =>
      rw [if_neg Bool.false_ne_true]
      exact q4 _ H3 R3 Kp.refl (.bl false)
  | _ => exact q4.elim
theorem de_chain {op op' : CmpOp} {g g' : D → D → Option D} (ho : OpR X (compareOp op) (rD2 X.K g)) (ho' : OpR X (compareOp op') (rD2 X.K g')) (ha : DE X G O W a ma) (hb : DE X G O W b mb) (hc : DE X G O W c mc)
    (hm : lastMarks [op, op'] [b, c] = false := by with_unfolding_all rfl) : DE X G O W (.Compare a [op, op'] [b, c] pos) (mChain g g' ma mb mc) :=
  pe_imp (pe_chain ho ho' ha hb hc hm) fun _ _ _ h => chain_go h
theorem dt_chain {op op' : CmpOp} {g g' : D → D → Option D} (ho : OpR X (compareOp op) (rD2 X.K g)) (ho' : OpR X (compareOp op') (rD2 X.K g')) (ha : DE X G O W a ma) (hb : DE X G O W b mb) (hc : DE X G O W c mc)
    (hm : lastMarks [op, op'] [b, c] = false := by with_unfolding_all rfl) : DT X G O W (.Compare a [op, op'] [b, c] pos) (mTest (mChain g g' ma mb mc)) :=
  pt_imp (pt_chain ho ho' ha hb hc hm) fun _ _ _ h => test_go (fun _ _ _ z => chain_go z) h

def DW (X : Cx) (G : Gd) (O : List Nat) (W : WX) (e : Expr) (m : MT) : Prop := PW X e (tT X.K G O W m)
variable {ta tb tc : MT} {rest : List Expr}
theorem DW.t (h : DW X G O W e ta) : DT X G O W e ta := PW.pt h
theorem dw_and1 (ha : DT X G O W a ta) : DW X G O W (.BoolOp .And [a] pos) ta := pw_and1 ha
theorem dw_or1 (ha : DT X G O W a ta) : DW X G O W (.BoolOp .Or [a] pos) ta := pw_or1 ha
theorem dw_and (ha : DT X G O W a ta) (hb : DW X G O W (.BoolOp .And (b :: rest) pos) tb) : DW X G O W (.BoolOp .And (a :: b :: rest) pos) (mAndT ta tb) := by
  refine pw_imp (pw_and ha hb) fun σ H Q ⟨A, ms, ρ, R, q⟩ => ?_
  refine ⟨A, ms, ρ, R, q.bind.mono ?_⟩
  rintro k H1 ⟨d, ρ1, R1, k1, rfl, q1⟩
  cases k with
  | true => exact ⟨A, ms, ρ1, R1, q1⟩
  | false => exact q1 _ H1 R1 Kp.refl rfl
theorem dw_or (ha : DT X G O W a ta) (hb : DW X G O W (.BoolOp .Or (b :: rest) pos) tb) : DW X G O W (.BoolOp .Or (a :: b :: rest) pos) (mOrT ta tb) := by
  refine pw_imp (pw_or ha hb) fun σ H Q ⟨A, ms, ρ, R, q⟩ => ?_
  refine ⟨A, ms, ρ, R, q.bind.mono ?_⟩
  rintro k H1 ⟨d, ρ1, R1, k1, rfl, q1⟩
  cases k with
  | true => exact q1 _ H1 R1 Kp.refl rfl
  | false => exact ⟨A, ms, ρ1, R1, q1⟩
theorem dt_not (ha : DT X G O W a ta) : DT X G O W (.UnaryOp .Not a pos) (mNotT ta) := by
  refine pt_imp (pt_not ha) fun σ H Q ⟨A, ms, ρ, R, q⟩ => ?_
  refine ⟨A, ms, ρ, R, q.bind.mono ?_⟩
  rintro k H1 ⟨d, ρ1, R1, k1, rfl, q1⟩
  exact q1 _ H1 R1 Kp.refl rfl
theorem de_if (hc : DT X G O W c tc) (ha : DE X G O W a ma) (hb : DE X G O W b mb) : DE X G O W (.IfExp c a b pos) (mIf tc ma mb) := by
  refine pe_imp (pe_ifExp hc ha hb) fun σ H Q ⟨A, ms, ρ, R, q⟩ => ?_
  refine ⟨A, ms, ρ, R, q.bind.mono ?_⟩
  rintro k H1 ⟨d, ρ1, R1, k1, rfl, q1⟩
  cases k with
  | true => exact ⟨A, ms, ρ1, R1, q1⟩
  | false => exact ⟨A, ms, ρ1, R1, q1⟩
theorem de_one {op} (ha : DE X G O W a ma) : DE X G O W (.BoolOp op [a] pos) ma := pe_one ha
theorem de_and (ha : DE X G O W a ma) (hb : DE X G O W (.BoolOp .And (b :: rest) pos) mb) : DE X G O W (.BoolOp .And (a :: b :: rest) pos) (mAnd ma mb) := by
  refine pe_imp (pe_andT ha hb) fun σ H Q ⟨A, ms, ρ, R, q⟩ => ?_
  refine ⟨A, ms, ρ, R, q.bind.mono ?_⟩
  rintro x H1 ⟨d, ρ1, R1, k1, r1, q1⟩
  obtain ⟨k, hk, q2⟩ := rp_of (rel := fun _ => @Eq Bool) R1 q1.bind
  obtain ⟨_, ρ2, R2', k2, rfl, q3⟩ := q2 k H1 (Same.refl _) rfl
  refine ⟨k, tru_ok' r1 hk, ?_⟩
  cases k with
  | true => exact ⟨A, ms, ρ2, R2', q3⟩
  | false => exact q3 _ H1 R2' Kp.refl r1
theorem de_or (ha : DE X G O W a ma) (hb : DE X G O W (.BoolOp .Or (b :: rest) pos) mb) : DE X G O W (.BoolOp .Or (a :: b :: rest) pos) (mOr ma mb) := by
  refine pe_imp (pe_orT ha hb) fun σ H Q ⟨A, ms, ρ, R, q⟩ => ?_
  refine ⟨A, ms, ρ, R, q.bind.mono ?_⟩
  rintro x H1 ⟨d, ρ1, R1, k1, r1, q1⟩
  obtain ⟨k, hk, q2⟩ := rp_of (rel := fun _ => @Eq Bool) R1 q1.bind
  obtain ⟨_, ρ2, R2', k2, rfl, q3⟩ := q2 k H1 (Same.refl _) rfl
  refine ⟨k, tru_ok' r1 hk, ?_⟩
  cases k with
  | true => exact q3 _ H1 R2' Kp.refl r1
  | false => exact ⟨A, ms, ρ2, R2', q3⟩
def gNot (d : D) : Option D := (tru d).map fun k => .bl (!k)
theorem de_not (ha : DE X G O W a ma) : DE X G O W (.UnaryOp .Not a pos) (m1 gNot ma) := by
  refine pe_imp (pe_notT ha) fun σ H Q ⟨A, ms, ρ, R, q⟩ => ?_
  refine ⟨A, ms, ρ, R, q.bind.mono ?_⟩
  rintro x H1 ⟨d, ρ1, R1, k1, r1, q1⟩
  obtain ⟨z, hz, q2⟩ := rp_of R1 q1
  obtain ⟨k, hk, rfl⟩ := map_some hz
  exact ⟨k, tru_ok' r1 hk, q2 _ H1 (Same.refl _) (.bl _)⟩

variable {mr : MA}
theorem da_nil : DA X G O W [] mNil := pa_imp pa_nil fun σ H Q ⟨A, ms, ρ, R, q⟩ => q [] H R Kp.refl .nil
theorem da_cons (ha : DE X G O W e ma) (hr : DA X G O W es mr) (hs : starEach (e :: es) X.env = (false, eval e X.env) :: starEach es X.env := by rfl) : DA X G O W (e :: es) (mCons ma mr) := by
  refine pa_imp (pa_cons ha hr hs) fun σ H Q ⟨A, ms, ρ, R, q⟩ => ?_
  refine ⟨A, ms, ρ, R, q.bind.mono ?_⟩
  rintro x H1 ⟨d, ρ1, R1, k1, r1, q1⟩
  refine ⟨A, ms, ρ1, R1, RPost.mono (RPost.bind q1) ?_⟩
  rintro xs H2 ⟨ds, ρ2, R2', k2, r2, q2⟩
  exact q2 _ H2 R2' Kp.refl (.cons (r1.tr (R1.kt k2)) r2)
theorem de_tup {x1} (h : DA X G O W es mr) : DE X G O W (.Tuple es x1 pos) (mN gTup mr) := by
  refine pe_imp (pe_tup h) fun σ H Q ⟨A, ms, ρ, R, q⟩ => ?_
  refine ⟨A, ms, ρ, R, q.bind.mono ?_⟩
  rintro xs H1 ⟨ds, ρ1, R1, k1, r1, q1⟩
  obtain ⟨z, hz, q2⟩ := rp_of R1 q1
  obtain ⟨hl, rfl⟩ := ite_d (x := .tup ds) hz
  exact ⟨by rw [r1.length]; exact hl, fun p hp => q2 _ _ (same_upd hp) (new_tup R1.trk r1 hp)⟩

def FPost (K : PySem.W.Frag) (G : Gd) (O : List Nat) (W : WX) (A : Addr → Prop) (ms : Nat → Option Addr) (σ : L2.St) (H : Hp) (Q : VK) : R D → Prop
  | .ok d ρ' => ∀ p H', RelS K G O A ms σ H' ρ' → RelS K G O (fun a => A a ∨ a = p) ms σ H' ρ' → Kp O ms H H' → H p = none → Own K (fun a => A a ∨ a = p) H' p d → Q (.ref p) H'
  | .ex x ρ' => ∀ dx H', RelS K G O A ms σ H' ρ' → Kp O ms H H' → XRel K A H' x dx → W (.ref (He.ga K x.c)) dx σ H'
  | .bad => False
def tF (K : PySem.W.Frag) (G : Gd) (O : List Nat) (W : WX) (m : ME) : TE := fun σ H Q => ∃ A ms ρ, RelS K G O A ms σ H ρ ∧ FPost K G O W A ms σ H Q (m ρ)
def DF (X : Cx) (G : Gd) (O : List Nat) (W : WX) (e : Expr) (m : ME) : Prop := PE X e (tF X.K G O W m)
theorem RelS.less {K : PySem.W.Frag} {A A' : Addr → Prop} {ms : Nat → Option Addr} {σ : L2.St} {H : Hp} {ρ : En} (R : RelS K G O A ms σ H ρ) (hs : ∀ a, A' a → A a) (h0 : ∀ a, G.A0 a → A' a) (ho : ∀ i p, i ∈ O → ms i = some p → A' p) : RelS K G O A' ms σ H ρ where
  sub := h0
  trk0 := R.trk0
  trk := fun a q => R.trk a (hs a q)
  keep := R.keep
  len := R.len
  fz := fun i d e n => let ⟨v, e1, q⟩ := R.fz i d e n; ⟨v, e1, q.tr fun a o z n => ⟨z, fun k => n (hs a k)⟩⟩
  ow := fun i d e n => let ⟨p, e0, e1, q⟩ := R.ow i d e n; ⟨p, e0, e1, q.tr (fun a o z n => ⟨z, fun k => n (hs a k)⟩) fun o z => z⟩
  inA := ho
  ok := R.ok
  dist := R.dist
  px := R.px
  io := R.io
theorem RelS.grow {K : PySem.W.Frag} {A : Addr → Prop} {ms : Nat → Option Addr} {σ : L2.St} {H H' : Hp} {ρ : En} {p : Addr} {o : HO} (R : RelS K G O A ms σ H ρ) (hp : H p = none) (s : Same H H') (hp' : H' p = some o) : RelS K G O (fun a => A a ∨ a = p) ms σ H' ρ := by
  have t : Tr A (fun a => A a ∨ a = p) H H' := fun a u e n => ⟨s _ _ e, fun z => z.elim n fun z => by rw [z, hp] at e; cases e⟩
  have R' := R.same s
  exact {
    sub := fun a q => .inl (R.sub a q)
    trk0 := R.trk0
    trk := fun a q => q.elim (R'.trk a) fun z => ⟨o, z ▸ hp'⟩
    keep := R'.keep
    len := R.len
    fz := fun i d e n => let ⟨v, e1, q⟩ := R.fz i d e n; ⟨v, e1, q.tr t⟩
    ow := fun i d e n => let ⟨q, e0, e1, w⟩ := R.ow i d e n; ⟨q, e0, e1, w.tr t fun o z => s _ _ z⟩
    inA := fun i q m e => .inl (R.inA i q m e)
    ok := R.ok
    dist := R.dist
    px := R.px
    io := R.io }
theorem RelS.msne {K : PySem.W.Frag} {A : Addr → Prop} {ms : Nat → Option Addr} {σ : L2.St} {H : Hp} {ρ : En} {p : Addr} (R : RelS K G O A ms σ H ρ) (hp : H p = none) : ∀ i ∈ O, ms i ≠ some p := fun i m z => by
  obtain ⟨o, e⟩ := R.trk p (R.inA i p m z)
  rw [hp] at e
  cases e
theorem Kp.none {K : PySem.W.Frag} {A : Addr → Prop} {ms : Nat → Option Addr} {σ : L2.St} {H H1 : Hp} {ρ : En} {p : Addr} (R : RelS K G O A ms σ H1 ρ) (k : Kp O ms H H1) (hp : H1 p = none) : H p = none := by
  cases e : H p with
  | none => rfl
  | some o =>
    have := k p o e (R.msne hp)
    rw [hp] at this
    cases this
theorem new_own {K : PySem.W.Frag} {A : Addr → Prop} {H : Hp} {p : Addr} {xs : List V} {ds : List D} (t : Trk A H) (h : RpA K A H xs ds) (hp : H p = none) : Own K (fun a => A a ∨ a = p) (upd H p (.lst xs)) p (.lst ds) :=
  .lst upd_same (h.tr fun a u e n => ⟨same_upd hp _ _ e, fun z => z.elim n fun z => by rw [z, hp] at e; cases e⟩)
theorem DF.toE {e : Expr} {m : ME} (h : DF X G O W e m) : DE X G O W e m := by
  refine pe_imp h fun σ H Q ⟨A, ms, ρ, R, q⟩ => ⟨A, ms, ρ, R, ?_⟩
  cases hm : m ρ with
  | bad => rw [hm] at q; exact q.elim
  | ex x ρ1 => rw [hm] at q; exact q
  | ok d ρ1 =>
    rw [hm] at q
    intro p H' R' _ k hp ow
    have np : ¬ A p := Trk.no (fun a z => R.trk a z) hp
    exact q (.ref p) H' R' k (ow.freeze (fun a z => .inl z) np)
theorem df_lst {es : List Expr} {mr : MA} (h : DA X G O W es mr) : DF X G O W (.List es pos) (mN gLst mr) := by
  refine pe_imp (pe_lst h) fun σ H Q ⟨A, ms, ρ, R, q⟩ => ⟨A, ms, ρ, R, ?_⟩
  unfold mN at q
  cases hm : mr ρ with
  | bad => rw [hm] at q; exact q.elim
  | ex x ρ1 => rw [hm] at q; exact q
  | ok ds ρ1 =>
    rw [hm] at q
    intro xs H1 R1 k1 r1
    have q' : FPost X.K G O W A ms σ H Q (ret (gLst ds) ρ1) := q
    unfold gLst at q'
    split at q'
    · rename_i hz
      refine ⟨by rw [r1.length]; exact hz, fun p hp => ?_⟩
      refine q' p _ (R1.same (same_upd hp)) (R1.grow hp (same_upd hp) upd_same) (k1.trans (Kp.same (same_upd hp))) ?_ (new_own R1.trk r1 hp)
      exact Kp.none R1 k1 hp
    · exact q'.elim
end
end DL
namespace DL
open L2 PySem PySem.Spec PyProof.Rows

inductive Out where
  | nx (r : En) | rt (d : D) (r : En) | bk (r : En) | ct (r : En) | ex (x : Xn) (r : En) | bad
abbrev MS := En → Out
inductive Ret where
  | rt (d o : D) | ex (x : Xn) (o : D) | bad
abbrev FN := List D → Ret

def RetR (K : PySem.W.Frag) (A : Addr → Prop) (fr : Bool) (H H' : Hp) (q : Option Addr) (v : V) (d o : D) : Prop :=
  if fr = true then ∃ r, v = .ref r ∧ H r = none ∧ Own K (fun a => A a ∨ a = r) H' r d ∧ ∀ p, q = some p → Own K (fun a => A a ∨ a = r) H' p o
  else Rp K A H' v d ∧ ∀ p, q = some p → Own K A H' p o
def KI (q : Option Addr) (H H' : Hp) : Prop := ∀ a o, H a = some o → q ≠ some a → H' a = some o
def ArgR (K : PySem.W.Frag) (A : Addr → Prop) (H : Hp) (q : Option Addr) (vs : List V) (ds : List D) : Prop :=
  match q with
  | none => RpA K A H vs ds
  | some p => ∃ vs' d ds', vs = .ref p :: vs' ∧ ds = d :: ds' ∧ A p ∧ Own K A H p d ∧ RpA K A H vs' ds'
def spD (K : PySem.W.Frag) (io fr : Bool) (F : FN) : Sp := fun vs H Q E => ∃ (A : Addr → Prop) (q : Option Addr) (ds : List D), Trk A H ∧ q.isSome = io ∧ ArgR K A H q vs ds ∧
  match F ds with
  | .rt d o => ∀ v H', KI q H H' → RetR K A fr H H' q v d o → Q v H'
  | .ex x o => ∀ dx H', KI q H H' → (∀ p, q = some p → Own K A H' p o) → XRel K A H' x dx → E (.ref (He.ga K x.c)) dx H'
  | .bad => False
structure FnG (P : Program) (w : World) (K : PySem.W.Frag) (mg : Str → Option Value) (base : Heap) (k : Nat) (f : Addr) (io fr : Bool) (F : FN) : Prop where
  run : ∀ (A : Around) (outer : List Env) (s : Shared) (H : Hp) (us : List Value) (vs : List V) (Q : VK) (E : XK), Room k A → A.guards = some [] → Env0 P w K mg base A outer s H → Vals vs us →
    spD K io fr F vs H Q E → codeAny (model P w) A (.call (.ref f) ⟨us, []⟩) (CR (L2.CX P w) outer P w H s Q E) s
  kp : PySem.W.keepIn K (.ref f) = true
theorem FnG.mono {P : Program} {w : World} {K : PySem.W.Frag} {mg : Str → Option Value} {base : Heap} {j k : Nat} {f : Addr} {io fr : Bool} {F : FN} (h : FnG P w K mg base j f io fr F) (l : j ≤ k) : FnG P w K mg base k f io fr F :=
  ⟨fun A outer s H us vs Q E hr => h.run A outer s H us vs Q E (hr.mono l), h.kp⟩

section
variable (K : PySem.W.Frag) (G : Gd)
def RetG (fr : Bool) (v : V) (H' : Hp) (d o : D) : Prop := KI G.io G.H0 H' ∧ RetR K G.A0 fr G.H0 H' G.io v d o
def io0 (ρ : En) : D := match ρ[0]? with
  | some (some d) => d
  | _ => .non
variable (XC : List Nat → Prop) (Ol O O' : List Nat) (W : WX) (fr : Bool) (A : Addr → Prop) (H : Hp)
def SPost (D0 : Ends) : Out → Prop
  | .nx ρ' => ∀ σ' H' A' ms', RelS K G O' A' ms' σ' H' ρ' → Tr A A' H H' → D0.nx σ' H'
  | .rt d ρ' => ∀ v H', RetG K G fr v H' d (io0 ρ') → D0.rt v H'
  | .bk ρ' => ∀ σ' H' A' ms', RelS K G Ol A' ms' σ' H' ρ' → Tr A A' H H' → D0.bk σ' H'
  | .ct ρ' => ∀ σ' H' A' ms', RelS K G Ol A' ms' σ' H' ρ' → Tr A A' H H' → D0.ct σ' H'
  | .ex x ρ' => ∀ dx σ' H' A' ms' O'', XC O'' → RelS K G O'' A' ms' σ' H' ρ' → Tr A A' H H' → XRel K A' H' x dx → W (.ref (He.ga K x.c)) dx σ' H'
  | .bad => False
def tS (m : MS) : TS := fun D0 σ H => ∃ A ms ρ, RelS K G O A ms σ H ρ ∧ SPost K G XC Ol O' W fr A H D0 (m ρ)
end
def DS (X : Cx) (G : Gd) (XC : List Nat → Prop) (Ol O O' : List Nat) (W : WX) (fr : Bool) (st : Stmt) (m : MS) : Prop := PS X st (tS X.K G XC Ol O O' W fr m)
def DSs (X : Cx) (G : Gd) (XC : List Nat → Prop) (Ol O O' : List Nat) (W : WX) (fr : Bool) (sts : List Stmt) (m : MS) : Prop := PSs X sts (tS X.K G XC Ol O O' W fr m)

theorem Tr.trans {A A1 A2 : Addr → Prop} {H H1 H2 : Hp} (a : Tr A A1 H H1) (b : Tr A1 A2 H1 H2) : Tr A A2 H H2 := fun x o e n => let ⟨e1, n1⟩ := a x o e n; b x o e1 n1
theorem Tr.refl {A : Addr → Prop} {H : Hp} : Tr A A H H := fun _ _ e n => ⟨e, n⟩
theorem SPost.from {K : PySem.W.Frag} {G : Gd} {XC : List Nat → Prop} {Ol O' : List Nat} {W : WX} {fr : Bool} {A A1 : Addr → Prop} {H H1 : Hp} {D0 : Ends} {r : Out} (t : Tr A A1 H H1) (h : SPost K G XC Ol O' W fr A H D0 r) : SPost K G XC Ol O' W fr A1 H1 D0 r := by
  cases r with
  | nx ρ => exact fun σ' H' A' ms' R k => h σ' H' A' ms' R (t.trans k)
  | rt d ρ => exact h
  | bk ρ => exact fun σ' H' A' ms' R k => h σ' H' A' ms' R (t.trans k)
  | ct ρ => exact fun σ' H' A' ms' R k => h σ' H' A' ms' R (t.trans k)
  | ex x ρ => exact fun dx σ' H' A' ms' O'' c R k => h dx σ' H' A' ms' O'' c R (t.trans k)
  | bad => exact h

def pad (n : Nat) (ds : List D) : En := ds.map some ++ List.replicate (n - ds.length) none
def runM (n np : Nat) (dd : List D) (fr : Bool) (m : MS) : FN := fun ds => if (ds ++ dd).length = np then match m (pad n (ds ++ dd)) with
  | .nx ρ => if fr = true then .bad else .rt .non (io0 ρ)
  | .rt d ρ => .rt d (io0 ρ)
  | .ex x ρ => .ex x (io0 ρ)
  | _ => .bad
  else .bad
theorem pad_get {n : Nat} {ds : List D} {i : Nat} {d : D} (h : (pad n ds)[i]? = some (some d)) : ds[i]? = some d := by
  unfold pad at h
  by_cases hi : i < ds.length
  · rw [List.getElem?_append_left (by rw [List.length_map]; exact hi), List.getElem?_map] at h
    cases e : ds[i]? with
    | none => rw [e] at h; cases h
    | some x => rw [e] at h; cases h; rfl
  · rw [List.getElem?_append_right (by rw [List.length_map]; omega), List.getElem?_replicate] at h
    split at h
    · cases h
    · cases h
theorem start_get {N : List Str} {vs : List V} {i : Nat} {v : V} (h : vs[i]? = some v) : (L2.start N vs)[i]? = some (some v) := by
  unfold L2.start
  have hi := (List.getElem?_eq_some_iff.mp h).1
  rw [List.getElem?_append_left (by rw [List.length_map]; exact hi), List.getElem?_map, h]
  rfl
theorem start_rel {K : PySem.W.Frag} {A : Addr → Prop} {H : Hp} {q : Option Addr} {N : List Str} {vs : List V} {ds : List D} {O : List Nat} {np : Nat} (t : Trk A H) (h : ArgR K A H q vs ds) (hn : ds.length = np) (hN : np ≤ N.length)
    (hO : ∀ i, i < np → i ∈ O → i = 0 ∧ q.isSome = true) (hq : q.isSome = true → 0 ∈ O) : RelS K ⟨A, H, q, none⟩ O A (fun i => if i = 0 then q else none) (L2.start N vs) H (pad N.length ds) := by
  have hl : vs.length = ds.length := by
    cases q with
    | none => exact RpA.length h
    | some p =>
      obtain ⟨vs', d, ds', rfl, rfl, _, _, r⟩ := h
      rw [List.length_cons, List.length_cons, r.length]
  have lt : ∀ {i : Nat} {d : D}, (pad N.length ds)[i]? = some (some d) → i < np := fun {i d} e => by
    have := (List.getElem?_eq_some_iff.mp (pad_get e)).1
    omega
  have at0 : ∀ {i : Nat} {p : Addr}, (if i = 0 then q else none) = some p → i = 0 ∧ q = some p := fun {i p} e => by
    by_cases h : i = 0
    · rw [if_pos h] at e; exact ⟨h, e⟩
    · rw [if_neg h] at e; cases e
  refine ⟨fun _ z => z, t, t, fun _ _ e _ => e, ?_, fun i d e n => ?_, fun i d e m => ?_, fun i p m e => ?_, fun i p m e => .inl (at0 e), fun i j p m m' e e' => (at0 e).1.trans (at0 e').1.symm, fun i a c e => ?_, fun p e => ?_⟩
  all_goals try (cases (show (none : Option (Nat × Addr × Str)) = some (_, _, _) from e); done)
  · unfold L2.start pad
    rw [List.length_append, List.length_append, List.length_map, List.length_map, List.length_replicate, List.length_replicate, hl]
  · have e1 := pad_get e
    cases q with
    | none =>
      obtain ⟨v, h1, h2⟩ := RpA.get h e1
      exact ⟨v, start_get h1, h2⟩
    | some p =>
      obtain ⟨vs', d0, ds', rfl, rfl, _, _, r⟩ := h
      cases i with
      | zero => exact absurd (hq rfl) n
      | succ i =>
        obtain ⟨v, h1, h2⟩ := r.get (i := i) (by simpa using e1)
        exact ⟨v, start_get (by simpa using h1), h2⟩
  · obtain ⟨rfl, z⟩ := hO i (lt e) m
    have e1 := pad_get e
    cases q with
    | none => cases z
    | some p =>
      obtain ⟨vs', d0, ds', rfl, rfl, ap, ow, r⟩ := h
      cases (show some d0 = some d from e1)
      exact ⟨p, rfl, start_get rfl, ow⟩
  · obtain ⟨_, z⟩ := at0 e
    cases q with
    | none => cases z
    | some p' =>
      cases z
      obtain ⟨vs', d0, ds', rfl, rfl, ap, ow, r⟩ := h
      exact ap
  · have e' : q = some p := e
    subst e'
    obtain ⟨vs', d0, ds', rfl, rfl, ap, ow, r⟩ := h
    refine ⟨hq rfl, ap, rfl, d0, ?_⟩
    unfold pad
    rfl
theorem RelS.ki {K : PySem.W.Frag} {G : Gd} {O : List Nat} {A : Addr → Prop} {ms : Nat → Option Addr} {σ : L2.St} {H : Hp} {ρ : En} (R : RelS K G O A ms σ H ρ) : KI G.io G.H0 H := R.keep
theorem RelS.ioOwn {K : PySem.W.Frag} {G : Gd} {O : List Nat} {A : Addr → Prop} {ms : Nat → Option Addr} {σ : L2.St} {H : Hp} {ρ : En} (R : RelS K G O A ms σ H ρ) {p : Addr} (e : G.io = some p) : Own K A H p (io0 ρ) := by
  obtain ⟨h1, h2, h3, d, h4⟩ := R.io p e
  obtain ⟨p', e0, _, w⟩ := R.ow 0 d h4 h1
  rw [h3] at e0
  cases e0
  unfold io0
  rw [h4]
  exact w
theorem Own.less {K : PySem.W.Frag} {A A' : Addr → Prop} {H : Hp} {p : Addr} {d : D} (h : Own K A H p d) (s : ∀ a, A' a → A a) : Own K A' H p d := h.tr (fun a o e n => ⟨e, fun z => n (s a z)⟩) fun _ z => z
theorem Rp.less {K : PySem.W.Frag} {A A' : Addr → Prop} {H : Hp} {v : V} {d : D} (h : Rp K A H v d) (s : ∀ a, A' a → A a) : Rp K A' H v d := h.tr fun a o e n => ⟨e, fun z => n (s a z)⟩

section
variable {P : Program} {w : World} {K : PySem.W.Frag} {mg : Str → Option Value} {base : Heap} {x qual : Str} {params : Arguments} {body : List Stmt} {scope : Scope} {dvs : List V} {kws : List (Str × V)} {f : Addr} {fd : FuncData}
theorem fnG_of {N ps : List Str} {k : Nat} {io fr : Bool} {ds : List Value} {dw : List V} {dd : List D} {O O' : List Nat} {m : MS} (F : FunD K x qual params body scope dvs kws f fd) (S : FnScope N ps scope) (hb : Binds K fd ps ds) (hd : Vals dw ds)
    (rd : ∀ A H, RpA K A H dw dd) (hN : ps.length ≤ N.length) (hO : ∀ i, i < ps.length → i ∈ O → i = 0 ∧ io = true) (hq : io = true → 0 ∈ O)
    (hbody : ∀ (cdv : Value) (A : Around) (outer : List Env) (s : Shared) (H : Hp) (E : XK) (A0 : Addr → Prop) (q : Option Addr), q.isSome = io → Room k (A.deeper (envOfC qual scope s.heap.objs.size f cdv)) → A.guards = some [] →
      DSs (cxOf (L2.CX P w) P w K mg base N qual scope f cdv A outer s H E) ⟨A0, H, q, none⟩ (fun _ => True) [] O O' (fun cls d _ H' => E cls d H') fr body m) :
    FnG P w K mg base (k + 1) f io fr (runM N.length ps.length dd fr m) := by
  refine ⟨fun A outer s H us vs Q E hr hg e0 rv hsp => ?_, F.kp⟩
  obtain ⟨oc, od, dV, kV, doc, pm, an, cdv, ct, osl, rfl, lk, hcd, _, _⟩ := F.ex
  obtain ⟨A0, q, args, trk, hio, ar, post⟩ := hsp
  have KXh : K.In s.heap := e0.mod.kin.keeps fun b o e => (e0.bs b o e).1
  have limit : s.heap.NoLimit := e0.mod.nolimit.keeps fun b o e => (e0.bs b o e).1
  have ar2 : ArgR K A0 H q (vs ++ dw) (args ++ dd) := by
    cases q with
    | none => exact RpA.app ar (rd _ _)
    | some p =>
      obtain ⟨vs', d0, ds', rfl, rfl, ap, ow, r⟩ := ar
      exact ⟨_, _, _, rfl, rfl, ap, ow, r.app (rd _ _)⟩
  have alen : (vs ++ dw).length = (args ++ dd).length := by
    cases q with
    | none => exact RpA.length ar2
    | some p =>
      obtain ⟨vs', d0, ds', e1, e2, _, _, r⟩ := ar2
      rw [e1, e2, List.length_cons, List.length_cons, r.length]
  unfold runM at post
  by_cases hnp : (args ++ dd).length = ps.length
  · rw [if_pos hnp] at post
    have rv2 : Vals (vs ++ dw) (us ++ ds) := rv.append hd
    have hul : (us ++ ds).length = ps.length := by rw [← rv2.length, alen]; exact hnp
    have hvl : (vs ++ dw).length = ps.length := by rw [alen]; exact hnp
    have kinds : ∀ y ∈ ps.zip (us ++ ds), scope.names.lookup y.1 = some .local ∨ (scope.names.lookup y.1 = some .cell ∧ ((cellsFrom (s.heap.objs.size + 1) scope.names []).lookup y.1).isSome = true) := fun ⟨n, v⟩ hy => by
      rcases S.par n (List.of_mem_zip hy).1 with z | z
      · exact .inl z
      · exact .inr ⟨z, PySem.W.cellsFrom_some _ _ _ (.inl z)⟩
    refine codeAny_call_function hr.depth (KXh _ _ lk) rfl S.co S.gen rfl (PySem.W.codeRec_of KXh hcd) (hb s us KXh hul _ _ _ _ ?_)
    refine wpAny_newFunctionEnv_cells S.kind kinds fun env henv s1 made => ?_
    subst henv
    refine ⟨limit.keeps made.toInCall.keep, codeAny_func ?_⟩
    have I : Inv (cxOf (L2.CX P w) P w K mg base N qual scope f cdv A outer s H E) [] (L2.start N (vs ++ dw)) H s1 := inv_start S hr.hd e0 hvl rv2 made
    have R := start_rel (N := N) (O := O) (np := ps.length) trk ar2 hnp hN (fun i h1 h2 => by rw [hio]; exact hO i h1 h2) (fun z => hq (by rw [← hio]; exact z))
    have body := hbody cdv A outer s H E A0 q hio (hr.deeper _) hg
    have goal : tS K ⟨A0, H, q, none⟩ (fun _ => True) [] O O' (fun cls d _ H' => E cls d H') fr m { nx := fun _ H' => Q .non H', rt := Q } (L2.start N (vs ++ dw)) H := by
      refine ⟨A0, _, _, R, ?_⟩
      cases hm : m (pad N.length (args ++ dd)) with
      | bad => rw [hm] at post; exact post.elim
      | bk ρ => rw [hm] at post; exact post.elim
      | ct ρ => rw [hm] at post; exact post.elim
      | rt d ρ =>
        rw [hm] at post
        exact fun v H' rg => post v H' rg.1 rg.2
      | nx ρ =>
        rw [hm] at post
        cases fr with
        | true => exact post.elim
        | false => exact fun σ' H' A' ms' R' _ => post .non H' R'.ki ⟨.non, fun p e => (R'.ioOwn e).less R'.sub⟩
      | ex y ρ =>
        rw [hm] at post
        refine fun dx σ' H' A' ms' O'' _ R' _ xr => post dx H' R'.ki (fun p e => (R'.ioOwn e).less R'.sub) ?_
        rcases xr with z | ⟨ne, d, fs, e1, e2, r⟩
        · exact .inl z
        · exact .inr ⟨ne, d, fs, e1, e2, r.tr fun a o e n => ⟨e, fun z => n (R'.sub a z)⟩⟩
    refine wpAny_mono (body.run [] s1 (L2.start N (vs ++ dw)) H _ I goal) (fun fl s' hs => ?_) fun e s' hs => hs
    have done : ∀ {σ' : L2.St} {H' : Hp} {v : V} {u : Value}, Inv (cxOf (L2.CX P w) P w K mg base N qual scope f cdv A outer s H E) [] σ' H' s' → RelV v u → Q v H' → CE outer P w H s Q u s' :=
      fun {σ' H' v u} J rv q => ⟨v, H', J.os, J.bare, J.base, J.hok, rv, q⟩
    cases fl with
    | ret u =>
      obtain ⟨v, σ', H', J, rv, qq⟩ := hs
      exact done J rv qq
    | next =>
      obtain ⟨σ', H', J, qq⟩ := hs
      exact done (v := V.non) (u := Value.none) J rfl qq
    | brk =>
      obtain ⟨_, _, _, qq⟩ := hs
      exact qq.elim
    | cont =>
      obtain ⟨_, _, _, qq⟩ := hs
      exact qq.elim
  · rw [if_neg hnp] at post
    exact post.elim
end

section
variable {X : Cx} {G : Gd} {O : List Nat} {W : WX} {k : Nat} {f : Addr} {io fr : Bool} {F : FN} {x : Str} {p pos : Pos} {e : Expr} {es : List Expr} {mr : MA}
theorem run_fnG {pins : List (Addr × Obj)} {σ : L2.St} {H : Hp} {s : Shared} {Q : VK} {us : List Value} {vs : List V} (C : FnG X.prog X.w X.K X.mg X.base k f io fr F) (hr : Room k X.A) (hg : X.A.guards = some []) (tk : Takes X W)
    (I : Inv X pins σ H s) (r : Vals vs us) (h : spD X.K io fr F vs H Q (WE W σ)) : wpAny (model X.prog X.w) X.A (call (.ref f) us) (EP X pins σ Q) X.xe s := by
  refine wpAny_call (codeAny_mono (C.run X.A X.stack s H us vs Q (WE W σ) hr hg I.env0 r h) fun res s' hres => ?_)
  cases res with
  | error e => exact passAt tk σ pins H s e s' I hres
  | ok fl =>
    cases fl with
    | ret u => exact I.after hres
    | next => exact hres.elim
    | brk => exact hres.elim
    | cont => exact hres.elim
def tCallG (K : PySem.W.Frag) (io fr : Bool) (F : FN) (W : WX) (t : TA) : TE := fun σ H Q => t σ H fun vs H1 => spD K io fr F vs H1 Q (WE W σ)
theorem pe_callG {t : TA} (C : FnG X.prog X.w X.K X.mg X.base k f io fr F) (hr : Room k X.A) (hg : X.A.guards = some []) (tk : Takes X W) (hn : Gl X x) (hm : X.mg x = some (.ref f)) (ha : PA X (e :: es) t)
    (hdb : (x == ("__debug__" : Str)) = false := by decide) (he : starEach (e :: es) X.env = (false, eval e X.env) :: starEach es X.env := by rfl) (hpl : (backTo pos (starEach es X.env)).any (·.1) = false := by rfl) :
    PE X (.Call (.Name x p) (e :: es) [] pos) (tCallG X.K io fr F W t) := by
  refine ⟨fun pins s σ H Q I h => wpAny_Call_Name_kw (ld_glob I hn hm ?_ hdb)⟩
  exact PySem.W.callWith_K (h₀ := X.base) I.ok.mod.kin C.kp (thn (ha.run pos pins s σ H _ I h) fun us s1 ⟨vs, H1, I1, r, q⟩ => ⟨I1.kIn, run_fnG C hr hg tk I1 r q⟩) he hpl
theorem pe_callG0 (C : FnG X.prog X.w X.K X.mg X.base k f io fr F) (hr : Room k X.A) (hg : X.A.guards = some []) (tk : Takes X W) (hn : Gl X x) (hm : X.mg x = some (.ref f)) (hdb : (x == ("__debug__" : Str)) = false := by decide) :
    PE X (.Call (.Name x p) [] [] pos) (tCallG X.K io fr F W tNil) := by
  refine ⟨fun pins s σ H Q I h => wpAny_Call_Name_kw (ld_glob I hn hm ?_ hdb)⟩
  exact PySem.W.callWith_K0 I.kIn C.kp (run_fnG (us := []) C hr hg tk I .nil h)
def mCall (F : FN) (args : MA) : ME := fun ρ => (args ρ).bind fun ds ρ1 => match F ds with
  | .rt d _ => .ok d ρ1
  | .ex x _ => .ex x ρ1
  | .bad => .bad
theorem call_goE {K : PySem.W.Frag} {σ : L2.St} {H : Hp} {Q : VK} (h : tE K G O W (mCall F mr) σ H Q) : tCallG K false false F W (tA K G O W mr) σ H Q := by
  obtain ⟨A, ms, ρ, R, q⟩ := h
  refine ⟨A, ms, ρ, R, q.bind.mono ?_⟩
  rintro vs H1 ⟨ds, ρ1, R1, k1, r1, q1⟩
  refine ⟨A, none, ds, R1.trk, rfl, r1, ?_⟩
  cases hF : F ds with
  | bad => rw [hF] at q1; exact q1.elim
  | rt d o =>
    rw [hF] at q1
    intro v H' ki ⟨rr, _⟩
    have s : Same H1 H' := fun a o e => ki a o e (by simp)
    exact q1 v H' (R1.same s) (Kp.same s) rr
  | ex y o =>
    rw [hF] at q1
    intro dx H' ki _ xr
    have s : Same H1 H' := fun a o e => ki a o e (by simp)
    exact q1 dx H' (R1.same s) (Kp.same s) xr
theorem call_goF {K : PySem.W.Frag} {σ : L2.St} {H : Hp} {Q : VK} (h : tF K G O W (mCall F mr) σ H Q) : tCallG K false true F W (tA K G O W mr) σ H Q := by
  obtain ⟨A, ms, ρ, R, q⟩ := h
  refine ⟨A, ms, ρ, R, ?_⟩
  unfold mCall at q
  cases hm : mr ρ with
  | bad => rw [hm] at q; exact q.elim
  | ex x ρ1 => rw [hm] at q; exact q
  | ok ds ρ1 =>
    rw [hm] at q
    intro vs H1 R1 k1 r1
    refine ⟨A, none, ds, R1.trk, rfl, r1, ?_⟩
    have q1 : FPost K G O W A ms σ H Q (match F ds with
      | .rt d _ => .ok d ρ1
      | .ex x _ => .ex x ρ1
      | .bad => .bad) := q
    cases hF : F ds with
    | bad => rw [hF] at q1; exact q1.elim
    | rt d o =>
      rw [hF] at q1
      intro v H' ki rr
      have s : Same H1 H' := fun a o e => ki a o e (by simp)
      obtain ⟨r, rfl, hr, ow, _⟩ := (show ∃ r, v = .ref r ∧ H1 r = none ∧ Own K (fun a => A a ∨ a = r) H' r d ∧ _ from rr)
      obtain ⟨o', ho'⟩ := ow.there
      refine q1 r H' (R1.same s) (R1.grow hr s ho') (k1.trans (Kp.same s)) ?_ ow
      exact Kp.none R1 k1 hr
    | ex y o =>
      rw [hF] at q1
      intro dx H' ki _ xr
      have s : Same H1 H' := fun a o e => ki a o e (by simp)
      exact q1 dx H' (R1.same s) (k1.trans (Kp.same s)) xr
theorem de_call (C : FnG X.prog X.w X.K X.mg X.base k f false false F) (hr : Room k X.A) (hg : X.A.guards = some []) (tk : Takes X W) (hn : Gl X x) (hm : X.mg x = some (.ref f)) (ha : DA X G O W (e :: es) mr)
    (hdb : (x == ("__debug__" : Str)) = false := by decide) (he : starEach (e :: es) X.env = (false, eval e X.env) :: starEach es X.env := by rfl) (hpl : (backTo pos (starEach es X.env)).any (·.1) = false := by rfl) :
    DE X G O W (.Call (.Name x p) (e :: es) [] pos) (mCall F mr) := pe_imp (pe_callG C hr hg tk hn hm ha hdb he hpl) fun _ _ _ h => call_goE h
theorem df_call (C : FnG X.prog X.w X.K X.mg X.base k f false true F) (hr : Room k X.A) (hg : X.A.guards = some []) (tk : Takes X W) (hn : Gl X x) (hm : X.mg x = some (.ref f)) (ha : DA X G O W (e :: es) mr)
    (hdb : (x == ("__debug__" : Str)) = false := by decide) (he : starEach (e :: es) X.env = (false, eval e X.env) :: starEach es X.env := by rfl) (hpl : (backTo pos (starEach es X.env)).any (·.1) = false := by rfl) :
    DF X G O W (.Call (.Name x p) (e :: es) [] pos) (mCall F mr) := pe_imp (pe_callG C hr hg tk hn hm ha hdb he hpl) fun _ _ _ h => call_goF h
theorem tNil_go {K : PySem.W.Frag} {σ : L2.St} {H : Hp} {Q : List V → Hp → Prop} (h : tA K G O W mNil σ H Q) : tNil σ H Q := by
  obtain ⟨A, ms, ρ, R, q⟩ := h
  exact q [] H R Kp.refl .nil
end
end DL
namespace DL
open L2 PySem PySem.Spec PyProof.Rows

theorem set_get_ne {ρ : En} {i j : Nat} {o : Option D} (h : i ≠ j) : (ρ.set j o)[i]? = ρ[i]? := List.getElem?_set_ne (Ne.symm h)
theorem RelS.setOwn {K : PySem.W.Frag} {G : Gd} {O : List Nat} {A : Addr → Prop} {ms : Nat → Option Addr} {σ : L2.St} {H H' : Hp} {ρ : En} {j : Nat} {p : Addr} {c d : D} (R : RelS K G O A ms σ H ρ) (hj : j ∈ O) (hc : ρ[j]? = some (some c)) (hp : ms j = some p)
    (k : ∀ a o, H a = some o → a ≠ p → H' a = some o) (ow : Own K A H' p d) : RelS K G O A ms σ H' (ρ.set j (some d)) := by
  have hlt : j < ρ.length := (List.getElem?_eq_some_iff.mp hc).1
  have aj : A p := R.inA j p hj hp
  have t : Tr A A H H' := fun a o e n => ⟨k a o e fun z => n (z ▸ aj), n⟩
  exact {
    sub := R.sub
    trk0 := R.trk0
    trk := fun a z => by
      by_cases h : a = p
      · rw [h]; exact ow.there
      · obtain ⟨o, e⟩ := R.trk a z
        exact ⟨o, k a o e h⟩
    keep := fun a o e n => by
      refine k a o (R.keep a o e n) fun z => ?_
      rcases R.ok j p hj hp with ⟨_, w⟩ | ⟨_, w⟩
      · exact n (z ▸ w)
      · rw [z, w] at e; cases e
    len := by rw [List.length_set]; exact R.len
    fz := fun i z e n => by
      have h : i ≠ j := fun q => n (q ▸ hj)
      rw [set_get_ne h] at e
      obtain ⟨v, e1, q⟩ := R.fz i z e n
      exact ⟨v, e1, q.tr t⟩
    ow := fun i z e m => by
      by_cases h : i = j
      · subst h
        rw [List.getElem?_set_self hlt] at e
        cases e
        obtain ⟨p', e0, e1, _⟩ := R.ow i c hc hj
        rw [hp] at e0
        cases e0
        exact ⟨p, hp, e1, ow⟩
      · rw [set_get_ne h] at e
        obtain ⟨q, e0, e1, w⟩ := R.ow i z e m
        exact ⟨q, e0, e1, w.tr t fun o u => k _ _ u fun z => h (R.dist i j p m hj (z ▸ e0) hp)⟩
    inA := R.inA
    ok := R.ok
    dist := R.dist
    px := R.px
    io := fun q e => by
      obtain ⟨h1, h2, h3, z, h4⟩ := R.io q e
      by_cases h : j = 0
      · subst h
        exact ⟨h1, h2, h3, d, List.getElem?_set_self hlt⟩
      · exact ⟨h1, h2, h3, z, by rw [set_get_ne (Ne.symm h)]; exact h4⟩ }
theorem Kp.own {O : List Nat} {ms : Nat → Option Addr} {j : Nat} {p : Addr} {H H' : Hp} (m : j ∈ O) (e : ms j = some p) (k : ∀ b o, H b = some o → b ≠ p → H' b = some o) : Kp O ms H H' := fun b o h n => k b o h fun z => n j m (z ▸ e)

section
variable {X : Cx} {G : Gd} {O : List Nat} {W : WX} {k : Nat} {f : Addr} {fr : Bool} {F : FN} {x y : Str} {p py pos : Pos} {e : Expr} {es : List Expr} {mr : MA}
def getO (ρ : En) (j : Nat) : Option D := match ρ[j]? with
  | some (some d) => some d
  | _ => none
theorem getO_some {ρ : En} {j : Nat} {d : D} (h : getO ρ j = some d) : ρ[j]? = some (some d) := by
  unfold getO at h
  split at h
  · rename_i z hz
    cases h
    exact hz
  · cases h
def mCallIo (F : FN) (j : Nat) (args : MA) : ME := fun ρ => match getO ρ j with
  | none => .bad
  | some _ => (args ρ).bind fun ds ρ1 => match getO ρ1 j with
    | none => .bad
    | some c => match F (c :: ds) with
      | .rt d o => .ok d (ρ1.set j (some o))
      | .ex x o => .ex x (ρ1.set j (some o))
      | .bad => .bad
theorem callio_go {K : PySem.W.Frag} {j : Nat} (hj : j ∈ O) {σ : L2.St} {H : Hp} {Q : VK} (h : tE K G O W (mCallIo F j mr) σ H Q) : tCallG K true false F W (tCons (tVar j) (tA K G O W mr)) σ H Q := by
  obtain ⟨A, ms, ρ, R, q⟩ := h
  unfold mCallIo at q
  cases hc : getO ρ j with
  | none => rw [hc] at q; exact q.elim
  | some c =>
    rw [hc] at q
    have q' : RPost K G O W A ms σ H (Rp K A) Q ((mr ρ).bind fun ds ρ1 => match getO ρ1 j with
      | none => .bad
      | some c => match F (c :: ds) with
        | .rt d o => .ok d (ρ1.set j (some o))
        | .ex x o => .ex x (ρ1.set j (some o))
        | .bad => .bad) := q
    obtain ⟨p, hp, hv, _⟩ := R.ow j c (getO_some hc) hj
    refine ⟨.ref p, hv, A, ms, ρ, R, q'.bind.mono ?_⟩
    rintro vs H1 ⟨ds, ρ1, R1, k1, r1, q1⟩
    cases hc1 : getO ρ1 j with
    | none => rw [hc1] at q1; exact q1.elim
    | some c1 =>
      rw [hc1] at q1
      have b1 := getO_some hc1
      obtain ⟨p', hp', _, oj⟩ := R1.ow j c1 b1 hj
      rw [hp] at hp'
      cases hp'
      refine ⟨A, some p, c1 :: ds, R1.trk, rfl, ⟨vs, c1, ds, rfl, rfl, R.inA j p hj hp, oj, r1⟩, ?_⟩
      have q2 : RPost K G O W A ms σ H1 (Rp K A) Q (match F (c1 :: ds) with
        | .rt d o => .ok d (ρ1.set j (some o))
        | .ex x o => .ex x (ρ1.set j (some o))
        | .bad => .bad) := q1
      cases hF : F (c1 :: ds) with
      | bad => rw [hF] at q2; exact q2.elim
      | rt d o =>
        rw [hF] at q2
        intro v H' ki ⟨rr, oo⟩
        have kk : ∀ a u, H1 a = some u → a ≠ p → H' a = some u := fun a u e n => ki a u e fun z => n (Option.some.inj z).symm
        exact q2 v H' (R1.setOwn hj b1 hp kk (oo _ rfl)) (Kp.own hj hp kk) rr
      | ex z o =>
        rw [hF] at q2
        intro dx H' ki oo xr
        have kk : ∀ a u, H1 a = some u → a ≠ p → H' a = some u := fun a u e n => ki a u e fun z => n (Option.some.inj z).symm
        exact q2 dx H' (R1.setOwn hj b1 hp kk (oo _ rfl)) (Kp.own hj hp kk) xr
theorem de_callio {j : Nat} (C : FnG X.prog X.w X.K X.mg X.base k f true false F) (hr : Room k X.A) (hg : X.A.guards = some []) (tk : Takes X W) (hn : Gl X x) (hm : X.mg x = some (.ref f)) (hj : O.contains j = true) (hy : PE X (.Name y py) (tVar j)) (ha : DA X G O W es mr)
    (hs : starEach (.Name y py :: es) X.env = (false, eval (.Name y py) X.env) :: starEach es X.env := by rfl)
    (hdb : (x == ("__debug__" : Str)) = false := by decide) (hpl : (backTo pos (starEach es X.env)).any (·.1) = false := by rfl) :
    DE X G O W (.Call (.Name x p) (.Name y py :: es) [] pos) (mCallIo F j mr) :=
  pe_imp (pe_callG C hr hg tk hn hm (pa_cons hy ha hs) hdb hs hpl) fun _ _ _ h => callio_go (List.contains_iff_mem.mp hj) h

def rOM (K : PySem.W.Frag) (g : List D → List D → Option (D × List D)) : V → List V → Hp → VK → Prop := fun x vs H Q => ∃ (A : Addr → Prop) (p : Addr) (cs ds : List D) (ws : List V) (z : D) (cs' : List D), x = .ref p ∧ A p ∧ Trk A H ∧ H p = some (.lst ws) ∧ RpA K A H ws cs ∧ RpA K A H vs ds ∧
  g cs ds = some (z, cs') ∧ ∀ v H', (∀ a o, H a = some o → a ≠ p → H' a = some o) → (∃ ws', H' p = some (.lst ws') ∧ RpA K A H' ws' cs') → Rp K A H' v z → Q v H'
def mOM (g : List D → List D → Option (D × List D)) (j : Nat) (args : MA) : ME := fun ρ => match getO ρ j with
  | some (.lst _) => (args ρ).bind fun ds ρ1 => match getO ρ1 j with
    | some (.lst cs) => match g cs ds with
      | some (z, cs') => .ok z (ρ1.set j (some (.lst cs')))
      | none => .bad
    | _ => .bad
  | _ => .bad
theorem own_lst {K : PySem.W.Frag} {A : Addr → Prop} {H : Hp} {p : Addr} {cs : List D} (h : Own K A H p (.lst cs)) : ∃ ws, H p = some (.lst ws) ∧ RpA K A H ws cs := by
  cases h with
  | lst e q => exact ⟨_, e, q⟩
theorem om_go {g : List D → List D → Option (D × List D)} {r : V → List V → Hp → VK → Prop} {K : PySem.W.Frag} (hr : ∀ x vs H Q, rOM K g x vs H Q → r x vs H Q) {j : Nat} (hj : j ∈ O) {σ : L2.St} {H : Hp} {Q : VK} (h : tE K G O W (mOM g j mr) σ H Q) :
    ∃ v, σ[j]? = some (some v) ∧ tyV K "list" v H ∧ tA K G O W mr σ H fun xs H2 => r v xs H2 Q := by
  obtain ⟨A, ms, ρ, R, q⟩ := h
  unfold mOM at q
  split at q
  · rename_i c hc
    obtain ⟨p, hp, e1, oj⟩ := R.ow j _ (getO_some hc) hj
    obtain ⟨ws, hw, _⟩ := own_lst oj
    refine ⟨_, e1, .inl ⟨rfl, _, SqL.of hw⟩, A, ms, ρ, R, RPost.mono (RPost.bind q) ?_⟩
    rintro vs H1 ⟨ds, ρ1, R1, k1, r1, q1⟩
    split at q1
    · rename_i cs hc1
      have b1 := getO_some hc1
      obtain ⟨p', hp', _, oj1⟩ := R1.ow j _ b1 hj
      rw [hp] at hp'
      cases hp'
      obtain ⟨ws1, hw1, rw1⟩ := own_lst oj1
      split at q1
      · rename_i z cs' hg
        refine hr _ _ _ _ ⟨A, p, cs, ds, ws1, z, cs', rfl, R.inA j p hj hp, R1.trk, hw1, rw1, r1, hg, fun v H' kk ⟨ws', hw', rw'⟩ rv => ?_⟩
        exact q1 v H' (R1.setOwn hj b1 hp kk (.lst hw' rw')) (Kp.own hj hp kk) rv
      · exact q1.elim
    · exact q1.elim
  · exact q.elim
theorem de_om {j : Nat} {name : Str} {id : String} {apos cpos : Pos} {g : List D → List D → Option (D × List D)} (hm : MtR X id (rOM X.K g)) (slot : Slot "list" name id) (hty : typeOf (.builtin id) = pure (.type "method_descriptor")) (hj : O.contains j = true) (hy : PE X (.Name y py) (tVar j)) (ha : DA X G O W (e :: es) mr)
    (hbase : attributeBase (.Name y py) name X.env (eval (.Name y py) X.env) = eval (.Name y py) X.env := by rfl)
    (hfew : ((backTo cpos (starEach (e :: es) X.env)).all (fun x => !x.1) && (backToKw cpos (keywordEach [] X.env)).all (fun x => x.1.isSome)
      && decide ((e :: es).length + ([] : List Keyword).length + (if ([] : List Keyword).isEmpty then 0 else 1) < 30)) = true := by rfl)
    (hline : (apos.endLine == cpos.line) = true := by rfl) (hs : starEach (e :: es) X.env = (false, eval e X.env) :: starEach es X.env := by rfl) (hplain : (backTo cpos (starEach es X.env)).any (·.1) = false := by rfl) :
    DE X G O W (.Call (.Attribute (.Name y py) name apos) (e :: es) [] cpos) (mOM g j mr) :=
  pe_imp (pe_bm PySem.F.plainAttrs_list slot hty hm hy ha hbase hfew hline hs hplain) fun _ _ _ h => om_go (fun _ _ _ _ z => z) (List.contains_iff_mem.mp hj) h
theorem de_om0 {j : Nat} {name : Str} {id : String} {apos cpos : Pos} {g : List D → List D → Option (D × List D)} (hm : MtR X id (rOM X.K g)) (slot : Slot "list" name id) (hty : typeOf (.builtin id) = pure (.type "method_descriptor")) (hj : O.contains j = true) (hy : PE X (.Name y py) (tVar j))
    (hbase : attributeBase (.Name y py) name X.env (eval (.Name y py) X.env) = eval (.Name y py) X.env := by rfl) (hline : (apos.endLine == cpos.line) = true := by rfl) :
    DE X G O W (.Call (.Attribute (.Name y py) name apos) [] [] cpos) (mOM g j mNil) := by
  refine pe_imp (pe_bm0 PySem.F.plainAttrs_list slot hty hm hy hbase hline) fun σ H Q h => ?_
  obtain ⟨v, h1, h2, h3⟩ := om_go (fun _ _ _ _ z => z) (List.contains_iff_mem.mp hj) h
  exact ⟨v, h1, h2, tNil_go h3⟩
def gAppend (cs ds : List D) : Option (D × List D) := match ds with
  | [d] => if cs.length < sizeLine then some (.non, cs ++ [d]) else none
  | _ => none
def gExtend (cs ds : List D) : Option (D × List D) := match ds with
  | [.lst es] => if cs.length + es.length ≤ sizeLine then some (.non, cs ++ es) else none
  | _ => none
def gPop (cs ds : List D) : Option (D × List D) := match ds with
  | [] => (cs[cs.length - 1]?).map fun z => (z, cs.dropLast)
  | [.int i] => if -(2 ^ 63) ≤ i ∧ i < 2 ^ 63 then (seqIndex? i cs.length).bind fun k => (cs[k]?).map fun z => (z, cs.eraseIdx k) else none
  | _ => none
def gReverse (cs ds : List D) : Option (D × List D) := match ds with
  | [] => some (.non, cs.reverse)
  | _ => none
theorem upd_out {H : Hp} {p : Addr} {o : HO} : ∀ a u, H a = some u → a ≠ p → (upd H p o) a = some u := fun a u e n => by rw [upd_ne n]; exact e
theorem RpA.upd {K : PySem.W.Frag} {A : Addr → Prop} {H : Hp} {p : Addr} {o : HO} {vs : List V} {ds : List D} (h : RpA K A H vs ds) (a : A p) : RpA K A (L2.upd H p o) vs ds := h.tr fun b o e n => ⟨upd_out b o e fun z => n (z ▸ a), n⟩
theorem Rp.upd {K : PySem.W.Frag} {A : Addr → Prop} {H : Hp} {p : Addr} {o : HO} {v : V} {d : D} (h : Rp K A H v d) (a : A p) : Rp K A (L2.upd H p o) v d := h.tr fun b o e n => ⟨upd_out b o e fun z => n (z ▸ a), n⟩
theorem om_append : MtR X "list.append" (rOM X.K gAppend) := by
  rintro pins s σ H x vs v us Q I rx rv ⟨A, p, cs, ds, ws, z, cs', rfl, ap, t, hp, rc, rd, hg, q⟩
  unfold gAppend at hg
  split at hg
  · rename_i d
    split at hg
    · rename_i hz
      cases hg
      cases rd with
      | cons r1 r2 =>
        cases r2
        refine mt_append pins s σ H _ _ v us Q I rx rv ⟨p, ws, _, rfl, rfl, hp, by rw [rc.length]; exact hz, ?_⟩
        exact q _ _ upd_out ⟨_, upd_same, (rc.upd ap).app (.cons (r1.upd ap) .nil)⟩ .non
    · cases hg
  · cases hg
theorem om_extend : MtR X "list.extend" (rOM X.K gExtend) := by
  rintro pins s σ H x vs v us Q I rx rv ⟨A, p, cs, ds, ws, z, cs', rfl, ap, t, hp, rc, rd, hg, q⟩
  unfold gExtend at hg
  split at hg
  · split at hg
    · rename_i hz
      cases hg
      cases rd with
      | cons r1 r2 =>
        cases r2
        cases r1 with
        | lst hb nb rb =>
          refine mt_extend pins s σ H _ _ v us Q I rx rv ⟨p, _, ws, _, rfl, rfl, hp, hb, by rw [rc.length, rb.length]; exact hz, ?_⟩
          exact q _ _ upd_out ⟨_, upd_same, (rc.upd ap).app (rb.upd ap)⟩ .non
    · cases hg
  · cases hg
theorem RpA.eraseIdx {K : PySem.W.Frag} {A : Addr → Prop} {H : Hp} : ∀ {vs : List V} {ds : List D} (n : Nat), RpA K A H vs ds → RpA K A H (vs.eraseIdx n) (ds.eraseIdx n)
  | _, _, _, .nil => .nil
  | _, _, 0, .cons _ t => t
  | _, _, n + 1, .cons h t => .cons h (RpA.eraseIdx n t)
theorem om_pop : MtR X "list.pop" (rOM X.K gPop) := by
  rintro pins s σ H x vs v us Q I rx rv ⟨A, p, cs, ds, ws, z, cs', rfl, ap, t, hp, rc, rd, hg, q⟩
  unfold gPop at hg
  split at hg
  · cases rd
    obtain ⟨y, hy, e⟩ := map_some hg
    cases e
    have hl := rc.length
    obtain ⟨w, hw, rw⟩ := rc.get hy
    refine mt_pop pins s σ H _ _ v us Q I rx rv ⟨p, ws, w, rfl, rfl, hp, by rw [hl]; exact hw, ?_⟩
    exact q _ _ upd_out ⟨_, upd_same, rc.dropLast.upd ap⟩ (rw.upd ap)
  · rename_i i
    split at hg
    · rename_i hz
      cases hk : seqIndex? i cs.length with
      | none => rw [hk] at hg; cases hg
      | some k =>
        rw [hk] at hg
        obtain ⟨y, hy, e⟩ := map_some (show (cs[k]?).map (fun z => (z, cs.eraseIdx k)) = some (z, cs') from hg)
        cases e
        cases rd with
        | cons r1 r2 =>
          cases r2
          cases r1
          obtain ⟨w, hw, rw⟩ := rc.get hy
          refine mt_popAt pins s σ H _ _ v us Q I rx rv ⟨p, ws, i, k, w, rfl, rfl, hp, hz.1, hz.2, by rw [rc.length]; exact hk, hw, ?_⟩
          exact q _ _ upd_out ⟨_, upd_same, (rc.eraseIdx k).upd ap⟩ (rw.upd ap)
    · cases hg
  · cases hg
theorem om_reverse : MtR X "list.reverse" (rOM X.K gReverse) := by
  rintro pins s σ H x vs v us Q I rx rv ⟨A, p, cs, ds, ws, z, cs', rfl, ap, t, hp, rc, rd, hg, q⟩
  unfold gReverse at hg
  split at hg
  · cases hg
    cases rd
    refine mt_reverse pins s σ H _ _ v us Q I rx rv ⟨p, ws, rfl, rfl, hp, ?_⟩
    exact q _ _ upd_out ⟨_, upd_same, rc.rev.upd ap⟩ .non
  · cases hg

def mOwn (j : Nat) (g : D → Option D) : ME := fun ρ => match getO ρ j with
  | some d => ret (g d) ρ
  | none => .bad
end

abbrev MG := D → En → R Unit
def SlEq (vs : List Nat) (σ σ' : L2.St) : Prop := σ'.length = σ.length ∧ ∀ i, i ∉ vs → σ'[i]? = σ[i]?
theorem SlEq.refl {vs : List Nat} {σ : L2.St} : SlEq vs σ σ := ⟨rfl, fun _ _ => rfl⟩
theorem SlEq.trans {vs : List Nat} {σ σ1 σ2 : L2.St} (a : SlEq vs σ σ1) (b : SlEq vs σ1 σ2) : SlEq vs σ σ2 := ⟨b.1.trans a.1, fun i h => (b.2 i h).trans (a.2 i h)⟩
theorem SlEq.mono {vs ws : List Nat} {σ σ' : L2.St} (a : SlEq vs σ σ') (h : ∀ i ∈ vs, i ∈ ws) : SlEq ws σ σ' := ⟨a.1, fun i n => a.2 i fun m => n (h i m)⟩
theorem SlEq.set {vs : List Nat} {σ : L2.St} {i : Nat} {o : Option V} (h : i ∈ vs) : SlEq vs σ (σ.set i o) := ⟨List.length_set, fun j n => List.getElem?_set_ne fun e => n (by rw [← e]; exact h)⟩
def GPost (K : PySem.W.Frag) (G : Gd) (O : List Nat) (vs : List Nat) (A : Addr → Prop) (ms : Nat → Option Addr) (σ : L2.St) (H : Hp) (Q : L2.St → Hp → Prop) : R Unit → Prop
  | .ok _ ρ' => ∀ σ' H', SlEq vs σ σ' → RelS K G O A ms σ' H' ρ' → Kp O ms H H' → Q σ' H'
  | _ => False
def tG (K : PySem.W.Frag) (G : Gd) (O : List Nat) (vs : List Nat) (g : MG) : TG := fun v σ H Q => ∃ A ms ρ d, RelS K G O A ms σ H ρ ∧ Rp K A H v d ∧ GPost K G O vs A ms σ H Q (g d ρ)
def tGs (K : PySem.W.Frag) (G : Gd) (O : List Nat) (vs : List Nat) (g : List D → En → R Unit) : TGs := fun us σ H Q => ∃ A ms ρ ds, RelS K G O A ms σ H ρ ∧ RpA K A H us ds ∧ GPost K G O vs A ms σ H Q (g ds ρ)
def DG (X : Cx) (G : Gd) (O : List Nat) (vs : List Nat) (tg : Expr) (g : MG) : Prop := PG X tg (tG X.K G O vs g)
def DGs (X : Cx) (G : Gd) (O : List Nat) (vs : List Nat) (ts : List Expr) (g : List D → En → R Unit) : Prop := PGs X ts (tGs X.K G O vs g)
theorem pg_imp {X : Cx} {e : Expr} {t t' : TG} (h : PG X e t) (w : ∀ v σ H Q, t' v σ H Q → t v σ H Q) : PG X e t' := ⟨fun pins s σ H v u Q I r q => h.run pins s σ H v u Q I r (w v σ H Q q)⟩
theorem pgs_imp {X : Cx} {e : List Expr} {t t' : TGs} (h : PGs X e t) (w : ∀ v σ H Q, t' v σ H Q → t v σ H Q) : PGs X e t' := ⟨fun pins s σ H v u Q I r q => h.run pins s σ H v u Q I r (w v σ H Q q)⟩
theorem GPost.from {K : PySem.W.Frag} {G : Gd} {O : List Nat} {vs : List Nat} {A : Addr → Prop} {ms : Nat → Option Addr} {σ σ1 : L2.St} {H H1 : Hp} {Q : L2.St → Hp → Prop} {r : R Unit} (e : SlEq vs σ σ1) (k : Kp O ms H H1) (h : GPost K G O vs A ms σ H Q r) : GPost K G O vs A ms σ1 H1 Q r := by
  cases r with
  | ok u ρ => exact fun σ' H' e' R k' => h σ' H' (e.trans e') R (k.trans k')
  | ex _ _ => exact h
  | bad => exact h
theorem RelS.put {K : PySem.W.Frag} {G : Gd} {O : List Nat} {A : Addr → Prop} {ms : Nat → Option Addr} {σ : L2.St} {H : Hp} {ρ : En} {i : Nat} {v : V} {d : D} (R : RelS K G O A ms σ H ρ) (hi : i ∉ O) (hlt : i < ρ.length) (r : Rp K A H v d) : RelS K G O A ms (σ.set i (some v)) H (ρ.set i (some d)) := by
  have ne : ∀ {j : Nat}, j ∈ O → j ≠ i := fun {j} m z => hi (z ▸ m)
  have g : ∀ {j : Nat} {z : D}, j ∈ O → (ρ.set i (some d))[j]? = some (some z) → ρ[j]? = some (some z) := fun {j z} m e => by rw [set_get_ne (ne m)] at e; exact e
  exact {
    sub := R.sub
    trk0 := R.trk0
    trk := R.trk
    keep := R.keep
    len := by rw [List.length_set, List.length_set]; exact R.len
    fz := fun j z e n => by
      by_cases h : j = i
      · subst h
        rw [List.getElem?_set_self hlt] at e
        cases e
        exact ⟨v, List.getElem?_set_self (by rw [R.len]; exact hlt), r⟩
      · rw [set_get_ne h] at e
        obtain ⟨w, e1, q⟩ := R.fz j z e n
        exact ⟨w, by rw [List.getElem?_set_ne (Ne.symm h)]; exact e1, q⟩
    ow := fun j z e m => by
      obtain ⟨p, e0, e1, q⟩ := R.ow j z (g m e) m
      exact ⟨p, e0, by rw [List.getElem?_set_ne (Ne.symm (ne m))]; exact e1, q⟩
    inA := R.inA
    ok := R.ok
    dist := R.dist
    px := fun j a c e => let ⟨m, q⟩ := R.px j a c e; ⟨m, by rw [List.getElem?_set_ne (Ne.symm (ne m))]; exact q⟩
    io := fun p e => by
      obtain ⟨h1, h2, h3, z, h4⟩ := R.io p e
      exact ⟨h1, h2, h3, z, by rw [set_get_ne (ne h1)]; exact h4⟩ }
def mgName (i : Nat) : MG := fun d ρ => if i < ρ.length then .ok () (ρ.set i (some d)) else .bad
def mgNil : List D → En → R Unit := fun ds ρ => match ds with
  | [] => .ok () ρ
  | _ => .bad
def mgCons (g : MG) (gs : List D → En → R Unit) : List D → En → R Unit := fun ds ρ => match ds with
  | d :: r => (g d ρ).bind fun _ ρ1 => gs r ρ1
  | [] => .bad
def mgTup (n : Nat) (gs : List D → En → R Unit) : MG := fun d ρ => match d with
  | .tup ds => if ds.length = n then gs ds ρ else .bad
  | _ => .bad
def mgLst (n : Nat) (gs : List D → En → R Unit) : MG := fun d ρ => match d with
  | .lst ds => if ds.length = n then gs ds ρ else .bad
  | _ => .bad
section
variable {X : Cx} {G : Gd} {O vs : List Nat} {W : WX} {x : Str} {pos : Pos} {e : Expr} {es : List Expr} {g : MG} {gs : List D → En → R Unit}
theorem dg_name {i : Nat} (hv : vs.contains i = true) (hO : O.contains i = false) (hN : X.N.Nodup) (hi : X.N[i]? = some x) (hx : Loc X.env.scope x) (hf : X.fn x = true ∨ X.env.scope.names.lookup x = some .local := by first | exact .inl rfl | exact .inr rfl | assumption) : DG X G O vs (.Name x pos) (mgName i) := by
  refine pg_imp (pg_name hN hi hx hf) fun v σ H Q ⟨A, ms, ρ, d, R, r, q⟩ => ?_
  unfold mgName at q
  split at q
  · rename_i hl
    exact q _ _ (SlEq.set (List.contains_iff_mem.mp hv)) (R.put (fun z => by rw [List.contains_iff_mem.mpr z] at hO; cases hO) hl r) Kp.refl
  · exact q.elim
theorem dgs_nil : DGs X G O vs [] mgNil := pgs_imp pgs_nil fun us σ H Q ⟨A, ms, ρ, ds, R, r, q⟩ => by
  cases r with
  | nil => exact ⟨rfl, q _ _ SlEq.refl R Kp.refl⟩
  | cons _ _ => exact q.elim
theorem dgs_cons (h1 : DG X G O vs e g) (h2 : DGs X G O vs es gs) (hs : (assignEach (e :: es) X.env).map (·.2) = assign e X.env :: (assignEach es X.env).map (·.2) := by rfl) : DGs X G O vs (e :: es) (mgCons g gs) := by
  refine pgs_imp (pgs_cons h1 h2 hs) fun us σ H Q ⟨A, ms, ρ, ds, R, r, q⟩ => ?_
  cases r with
  | nil => exact q.elim
  | @cons v vr d dr r1 r2 =>
    refine ⟨_, _, rfl, A, ms, ρ, d, R, r1, ?_⟩
    have q' : GPost X.K G O vs A ms σ H Q ((g d ρ).bind fun _ ρ1 => gs dr ρ1) := q
    cases hg : g d ρ with
    | bad => rw [hg] at q'; exact q'.elim
    | ex y ρ1 => rw [hg] at q'; exact q'.elim
    | ok u ρ1 =>
      rw [hg] at q'
      have q : GPost X.K G O vs A ms σ H Q (gs dr ρ1) := q'
      exact fun σ' H' e' R' k => ⟨A, ms, ρ1, dr, R', r2.tr (R.kt k), GPost.from e' k q⟩
theorem dg_tup {k n : Nat} (hc : X.calm = true) (h : DGs X G O vs es gs) (hn : (assignEach es X.env).length = n := by rfl) (hst : (assignEach es X.env).findIdx? (·.1) = none := by rfl) : DG X G O vs (.Tuple es k pos) (mgTup n gs) := by
  refine pg_imp (pg_tup hc h hn hst) fun v σ H Q ⟨A, ms, ρ, d, R, r, q⟩ => ?_
  unfold mgTup at q
  split at q
  · split at q
    · rename_i ds hl
      cases r with
      | tup h1 h2 => exact ⟨_, _, rfl, h1.sq, by rw [h2.length]; exact hl, A, ms, ρ, ds, R, h2, q⟩
    · exact q.elim
  · exact q.elim
theorem dg_lst {k n : Nat} (hc : X.calm = true) (h : DGs X G O vs es gs) (hn : (assignEach es X.env).length = n := by rfl) (hst : (assignEach es X.env).findIdx? (·.1) = none := by rfl) : DG X G O vs (.Tuple es k pos) (mgLst n gs) := by
  refine pg_imp (pg_lst hc h hn hst) fun v σ H Q ⟨A, ms, ρ, d, R, r, q⟩ => ?_
  unfold mgLst at q
  split at q
  · split at q
    · rename_i ds hl
      cases r with
      | lst h1 n1 h2 => exact ⟨_, _, rfl, SqL.of h1, by rw [h2.length]; exact hl, A, ms, ρ, ds, R, h2, q⟩
    · exact q.elim
  · exact q.elim
def gSet : D → D → D → Option D
  | .lst cs, .int k, d => (L2.ixN cs.length k).map fun n => .lst (cs.set n d)
  | _, _, _ => none
def mgSub (j : Nat) (mi : ME) : MG := fun d ρ => match getO ρ j with
  | some (.lst _) => (mi ρ).bind fun i ρ1 => match getO ρ1 j with
    | some c => match gSet c i d with
      | some c' => .ok () (ρ1.set j (some c'))
      | none => .bad
    | none => .bad
  | _ => .bad
abbrev W0 : WX := fun _ _ _ _ => False
theorem dg_sub {j : Nat} {i : Expr} {mi : ME} {y : Str} {py : Pos} (hj : O.contains j = true) (hy : PE X (.Name y py) (tVar j)) (hi : DE X G O W0 i mi)
    (ha : ∀ v, assign (.Subscript (.Name y py) i pos) X.env v = (do
      let ov ← holding [v] (eval (.Name y py) X.env)
      let iv ← holding [v, ov] (eval i X.env)
      standAt pos
      holding [v, ov, iv] (setItem ov iv v)
      release [v, ov, iv] []) := by intro _; rfl) : DG X G O vs (.Subscript (.Name y py) i pos) (mgSub j mi) := by
  refine pg_imp (pg_sub hy hi set_list ha) fun v σ H Q ⟨A, ms, ρ, d, R, r, q⟩ => ?_
  have hj' := List.contains_iff_mem.mp hj
  unfold mgSub at q
  split at q
  · rename_i c hc
    obtain ⟨p, hp, hv, _⟩ := R.ow j _ (getO_some hc) hj'
    refine ⟨_, hv, A, ms, ρ, R, ?_⟩
    cases hm : mi ρ with
    | bad => rw [hm] at q; exact q.elim
    | ex y ρ1 => rw [hm] at q; exact q.elim
    | ok iv ρ1 =>
      rw [hm] at q
      intro iV H1 R1 k1 r1
      have q1 : GPost X.K G O vs A ms σ H Q (match getO ρ1 j with
        | some c => match gSet c iv d with
          | some c' => .ok () (ρ1.set j (some c'))
          | none => .bad
        | none => .bad) := q
      split at q1
      · rename_i c1 hc1
        split at q1
        · rename_i c2 hset
          cases c1 with
          | lst cs =>
            cases iv with
            | int kk =>
              obtain ⟨n, hn, rfl⟩ := map_some (show (L2.ixN cs.length kk).map (fun n => D.lst (cs.set n d)) = some c2 from hset)
              have b1 := getO_some hc1
              obtain ⟨p', hp', _, oj⟩ := R1.ow j _ b1 hj'
              rw [hp] at hp'
              cases hp'
              have aj := R.inA j p hj' hp
              obtain ⟨ws, hw, rw1⟩ := own_lst oj
              cases r1
              refine ⟨_, ws, kk, n, rfl, rfl, hw, by rw [rw1.length]; exact hn, ?_⟩
              refine q1 σ _ SlEq.refl (R1.setOwn hj' b1 hp upd_out (.lst upd_same ((rw1.upd aj).set n ((r.tr (R.kt k1)).upd aj)))) (k1.trans (Kp.own hj' hp upd_out))
            | _ => cases hset
          | _ => cases hset
        · exact q1.elim
      · exact q1.elim
  · exact q.elim
end
end DL
namespace DL
open L2 PySem PySem.Spec PyProof.Rows

def NPx (G : Gd) (j : Nat) : Prop := ∀ i a c, G.px = some (i, a, c) → i ≠ j
theorem NPx.no {G : Gd} {j : Nat} (h : G.px = none) : NPx G j := fun i a c e => by rw [h] at e; cases e
def obind {α : Type} (r : R α) (f : α → En → Out) : Out := match r with
  | .ok a ρ => f a ρ
  | .ex x ρ => .ex x ρ
  | .bad => .bad
def msNil : MS := fun ρ => .nx ρ
def msSeq (a b : MS) : MS := fun ρ => match a ρ with
  | .nx ρ1 => b ρ1
  | o => o
def msExpr (m : ME) : MS := fun ρ => obind (m ρ) fun _ ρ1 => .nx ρ1
def msAsg (m : ME) (g : MG) : MS := fun ρ => obind (m ρ) fun d ρ1 => match g d ρ1 with
  | .ok _ ρ2 => .nx ρ2
  | _ => .bad
def msOwn (i : Nat) (m : ME) : MS := fun ρ => obind (m ρ) fun d ρ1 => if i < ρ1.length then .nx (ρ1.set i (some d)) else .bad
def msRet (m : ME) : MS := fun ρ => obind (m ρ) fun d ρ1 => .rt d ρ1
def msRetN : MS := fun ρ => .rt .non ρ
def msRetO (j : Nat) : MS := fun ρ => match getO ρ j with
  | some d => .rt d ρ
  | none => .bad
def msIf (c : MT) (a b : MS) : MS := fun ρ => obind (c ρ) fun k ρ1 => if k = true then a ρ1 else b ρ1
def msBrk : MS := fun ρ => .bk ρ
def msCnt : MS := fun ρ => .ct ρ
def loopL (g : MG) (mb : MS) : List D → En → Out
  | [], ρ => .nx ρ
  | d :: r, ρ => match g d ρ with
    | .ok _ ρ1 => match mb ρ1 with
      | .nx ρ2 => loopL g mb r ρ2
      | .ct ρ2 => loopL g mb r ρ2
      | .bk ρ2 => .nx ρ2
      | o => o
    | _ => .bad
def msFor (mi : En → R (List D)) (g : MG) (mb : MS) : MS := fun ρ => obind (mi ρ) fun ds ρ1 => loopL g mb ds ρ1
def loopW (c : MT) (mb : MS) : Nat → En → Out
  | 0, _ => .bad
  | n + 1, ρ => match c ρ with
    | .ok true ρ1 => match mb ρ1 with
      | .nx ρ2 => loopW c mb n ρ2
      | .ct ρ2 => loopW c mb n ρ2
      | .bk ρ2 => .nx ρ2
      | o => o
    | .ok false ρ1 => .nx ρ1
    | .ex x ρ1 => .ex x ρ1
    | .bad => .bad
def msWhile (n : Nat) (c : MT) (mb : MS) : MS := loopW c mb n

section
variable {X : Cx} {G : Gd} {XC : List Nat → Prop} {Ol O O' O1 : List Nat} {W : WX} {fr : Bool} {st : Stmt} {sts rest : List Stmt} {ma mb mc : MS} {e c : Expr} {me : ME} {pos : Pos}
theorem dss_nil : DSs X G XC Ol O O W fr [] msNil := pss_imp pss_nil fun D0 σ H ⟨A, ms, ρ, R, q⟩ => q σ H A ms R Tr.refl
theorem dss_cons (h1 : DS X G XC Ol O O1 W fr st ma) (h2 : DSs X G XC Ol O1 O' W fr rest mb) : DSs X G XC Ol O O' W fr (st :: rest) (msSeq ma mb) := by
  refine pss_imp (pss_cons h1 h2) fun D0 σ H ⟨A, ms, ρ, R, q⟩ => ?_
  refine ⟨A, ms, ρ, R, ?_⟩
  unfold msSeq at q
  cases hm : ma ρ with
  | nx ρ1 =>
    rw [hm] at q
    exact fun σ' H' A' ms' R' t => ⟨A', ms', ρ1, R', SPost.from t q⟩
  | rt d ρ1 => rw [hm] at q; exact q
  | bk ρ1 => rw [hm] at q; exact q
  | ct ρ1 => rw [hm] at q; exact q
  | ex x ρ1 => rw [hm] at q; exact q
  | bad => rw [hm] at q; exact q.elim
theorem dss_one (h1 : DS X G XC Ol O O' W fr st ma) : DSs X G XC Ol O O' W fr [st] ma := pss_imp (pss_one h1) fun _ _ _ h => h
theorem eb {K : PySem.W.Frag} {α β : Type} {A : Addr → Prop} {ms : Nat → Option Addr} {σ : L2.St} {H : Hp} {D0 : Ends} {r : R α} {f : α → En → Out} {rel : Hp → β → α → Prop} {Q : β → Hp → Prop} (hx : XC O) (h : SPost K G XC Ol O' W fr A H D0 (obind r f))
    (w : ∀ a ρ1 v H1, r = .ok a ρ1 → RelS K G O A ms σ H1 ρ1 → Kp O ms H H1 → rel H1 v a → SPost K G XC Ol O' W fr A H1 D0 (f a ρ1) → Q v H1) : RPost K G O W A ms σ H rel Q r := by
  cases r with
  | ok a ρ1 => exact fun v H1 R k q => w a ρ1 v H1 rfl R k q (SPost.from (R.kt k) h)
  | ex x ρ1 => exact fun dx H1 R k xr => h dx σ H1 A ms O hx R (R.kt k) xr
  | bad => exact h
theorem ds_expr (hx : XC O) (he : DE X G O W e me) (hs : swapsWith e none pos.line X.env = pure false := by rfl) : DS X G XC Ol O O W fr (.Expr e pos) (msExpr me) := by
  refine ps_imp (ps_expr he hs) fun D0 σ H ⟨A, ms, ρ, R, q⟩ => ⟨A, ms, ρ, R, eb hx q ?_⟩
  exact fun a ρ1 v H1 _ R1 k r q1 => q1 σ H1 A ms R1 Tr.refl
theorem ds_doc {x j pos pos'} : DS X G XC Ol O O W fr (.Expr (.Constant (.str x) j pos) pos') msNil := ps_imp ps_doc fun D0 σ H ⟨A, ms, ρ, R, q⟩ => q σ H A ms R Tr.refl
theorem ds_pass : DS X G XC Ol O O W fr (.Pass pos) msNil := ps_imp ps_pass fun D0 σ H ⟨A, ms, ρ, R, q⟩ => q σ H A ms R Tr.refl
theorem ds_brk : DS X G XC O O O' W fr (.Break pos) msBrk := ps_imp ps_break fun D0 σ H ⟨A, ms, ρ, R, q⟩ => q σ H A ms R Tr.refl
theorem ds_cnt : DS X G XC O O O' W fr (.Continue pos) msCnt := ps_imp ps_continue fun D0 σ H ⟨A, ms, ρ, R, q⟩ => q σ H A ms R Tr.refl
theorem ds_asg {tg : Expr} {g : MG} {vs : List Nat} (hx : XC O) (he : DE X G O W e me) (hg : DG X G O vs tg g) (hs : swapsWithSole [tg] e pos.line X.env = pure false := by rfl) (hw : swappedStores [tg] e X.env = pure none := by rfl) (h1 : (assignEach [tg] X.env).map (·.2) = [assign tg X.env] := by rfl) : DS X G XC Ol O O W fr (.Assign [tg] e pos) (msAsg me g) := by
  refine ps_imp (ps_asg he hg hs hw h1) fun D0 σ H ⟨A, ms, ρ, R, q⟩ => ⟨A, ms, ρ, R, eb hx q ?_⟩
  intro d ρ1 v H1 _ R1 k r q1
  refine ⟨A, ms, ρ1, d, R1, r, ?_⟩
  cases hg' : g d ρ1 with
  | ok u ρ2 =>
    rw [hg'] at q1
    exact fun σ' H' _ R' k' => q1 σ' H' A ms R' (R'.kt k')
  | ex y ρ2 => rw [hg'] at q1; exact q1.elim
  | bad => rw [hg'] at q1; exact q1.elim
theorem RelS.own {K : PySem.W.Frag} {A : Addr → Prop} {ms : Nat → Option Addr} {σ : L2.St} {H : Hp} {ρ : En} {i : Nat} {p : Addr} {d : D} (R : RelS K G O (fun a => A a ∨ a = p) ms σ H ρ) (hi : i ∈ O) (h0 : i ≠ 0 ∨ G.io = none) (hlt : i < ρ.length)
    (nm : ∀ j ∈ O, ms j ≠ some p) (hpx : NPx G i) (hp0 : G.H0 p = none) (ow : Own K (fun a => A a ∨ a = p) H p d) : RelS K G O (fun a => A a ∨ a = p) (fun j => if j = i then some p else ms j) (σ.set i (some (.ref p))) H (ρ.set i (some d)) := by
  have gne : ∀ {j : Nat} {z : D}, j ≠ i → (ρ.set i (some d))[j]? = some (some z) → ρ[j]? = some (some z) := fun {j z} n e => by rw [set_get_ne n] at e; exact e
  exact {
    sub := R.sub
    trk0 := R.trk0
    trk := R.trk
    keep := R.keep
    len := by rw [List.length_set, List.length_set]; exact R.len
    fz := fun j z e n => by
      have h : j ≠ i := fun q => n (q ▸ hi)
      obtain ⟨w, e1, q⟩ := R.fz j z (gne h e) n
      exact ⟨w, by rw [List.getElem?_set_ne (Ne.symm h)]; exact e1, q⟩
    ow := fun j z e m => by
      by_cases h : j = i
      · subst h
        rw [List.getElem?_set_self hlt] at e
        cases e
        exact ⟨p, if_pos rfl, List.getElem?_set_self (by rw [R.len]; exact hlt), ow⟩
      · obtain ⟨q, e0, e1, w⟩ := R.ow j z (gne h e) m
        exact ⟨q, (if_neg h).trans e0, by rw [List.getElem?_set_ne (Ne.symm h)]; exact e1, w⟩
    inA := fun j q m e => by
      by_cases h : j = i
      · rw [if_pos h] at e
        exact .inr (Option.some.inj e).symm
      · rw [if_neg h] at e
        exact R.inA j q m e
    ok := fun j q m e => by
      by_cases h : j = i
      · rw [if_pos h] at e
        cases e
        exact .inr ⟨h ▸ h0, hp0⟩
      · rw [if_neg h] at e
        exact R.ok j q m e
    dist := fun j j' q m m' e e' => by
      by_cases h : j = i
      · by_cases h' : j' = i
        · exact h.trans h'.symm
        · rw [if_pos h] at e
          rw [if_neg h'] at e'
          cases e
          exact absurd e' (nm j' m')
      · by_cases h' : j' = i
        · rw [if_neg h] at e
          rw [if_pos h'] at e'
          cases e'
          exact absurd e (nm j m)
        · rw [if_neg h] at e
          rw [if_neg h'] at e'
          exact R.dist j j' q m m' e e'
    px := fun j a c e => let ⟨m, q⟩ := R.px j a c e; ⟨m, by rw [List.getElem?_set_ne fun z => hpx j a c e z.symm]; exact q⟩
    io := fun q e => by
      obtain ⟨h1, h2, h3, z, h4⟩ := R.io q e
      have hi0 : (0 : Nat) ≠ i := fun w => by
        rcases h0 with k | k
        · exact k w.symm
        · rw [k] at e; cases e
      exact ⟨h1, h2, by rw [if_neg hi0]; exact h3, z, by rw [set_get_ne hi0]; exact h4⟩ }
theorem h0_none {K : PySem.W.Frag} {A : Addr → Prop} {ms : Nat → Option Addr} {σ : L2.St} {H : Hp} {ρ : En} {p : Addr} (R : RelS K G O A ms σ H ρ) (hp : H p = none) : G.H0 p = none := by
  cases e : G.H0 p with
  | none => rfl
  | some o =>
    by_cases q : G.io = some p
    · obtain ⟨_, h2, _⟩ := R.io p q
      obtain ⟨o', e'⟩ := R.trk p (R.sub p h2)
      rw [hp] at e'; cases e'
    · have := R.keep p o e q
      rw [hp] at this; cases this
theorem ds_own {i : Nat} {x : Str} {p : Pos} (hx : XC O) (he : DF X G O W e me) (hi : O.contains i = true) (h0 : i ≠ 0 ∨ G.io = none) (hN : X.N.Nodup) (hn : X.N[i]? = some x) (hl : Loc X.env.scope x)
    (hf : X.fn x = true ∨ X.env.scope.names.lookup x = some .local := by first | exact .inl rfl | exact .inr rfl | assumption)
    (hs : swapsWithSole [.Name x p] e pos.line X.env = pure false := by rfl) (hw : swappedStores [.Name x p] e X.env = pure none := by rfl) (hpx : NPx G i := by first | exact NPx.no rfl | assumption) : DS X G XC Ol O O W fr (.Assign [.Name x p] e pos) (msOwn i me) := by
  refine ps_imp (ps_asg he (pg_name hN hn hl hf) hs hw) fun D0 σ H ⟨A, ms, ρ, R, q⟩ => ⟨A, ms, ρ, R, ?_⟩
  unfold msOwn at q
  cases hm : me ρ with
  | bad => rw [hm] at q; exact q.elim
  | ex y ρ1 => rw [hm] at q; exact fun dx H1 R1 k xr => q dx σ H1 A ms O hx R1 (R1.kt k) xr
  | ok d ρ1 =>
    rw [hm] at q
    intro r H1 R1 R2 k hr ow
    have q' : SPost X.K G XC Ol O W fr A H D0 (if i < ρ1.length then .nx (ρ1.set i (some d)) else .bad) := q
    split at q'
    · rename_i hlt
      refine q' _ H1 _ _ (R2.own (List.contains_iff_mem.mp hi) h0 hlt (R.msne hr) hpx (h0_none R hr) ow) fun a o e n => ⟨(R1.kt k a o e n).1, fun z => z.elim n fun z => ?_⟩
      rw [z, hr] at e
      cases e
    · exact q'.elim
theorem ret_of {K : PySem.W.Frag} {A : Addr → Prop} {ms : Nat → Option Addr} {σ : L2.St} {H : Hp} {ρ : En} {v : V} {d : D} (R : RelS K G O A ms σ H ρ) (r : Rp K A H v d) : RetG K G false v H d (io0 ρ) := ⟨R.ki, r.less R.sub, fun p e => (R.ioOwn e).less R.sub⟩
theorem ds_ret (hx : XC O) (he : DE X G O W e me) : DS X G XC Ol O O' W false (.Return (some e) pos) (msRet me) := by
  refine ps_imp (ps_ret he) fun D0 σ H ⟨A, ms, ρ, R, q⟩ => ⟨A, ms, ρ, R, eb hx q ?_⟩
  exact fun d ρ1 v H1 _ R1 k r q1 => q1 v H1 (ret_of R1 r)
theorem ds_retN : DS X G XC Ol O O' W false (.Return none pos) msRetN := by
  refine ps_imp ps_retN fun D0 σ H ⟨A, ms, ρ, R, q⟩ => ?_
  exact q .non H (ret_of R .non)
theorem ds_retF (hx : XC O) (he : DF X G O W e me) : DS X G XC Ol O O' W true (.Return (some e) pos) (msRet me) := by
  refine ps_imp (ps_ret he) fun D0 σ H ⟨A, ms, ρ, R, q⟩ => ⟨A, ms, ρ, R, ?_⟩
  unfold msRet at q
  cases hm : me ρ with
  | bad => rw [hm] at q; exact q.elim
  | ex y ρ1 => rw [hm] at q; exact fun dx H1 R1 k xr => q dx σ H1 A ms O hx R1 (R1.kt k) xr
  | ok d ρ1 =>
    rw [hm] at q
    intro r H1 R1 R2 k hr ow
    have less : ∀ a, (G.A0 a ∨ a = r) → (A a ∨ a = r) := fun a z => z.imp (R.sub a) id
    exact q (.ref r) H1 ⟨R1.ki, r, rfl, h0_none R hr, ow.less less, fun p e => (R2.ioOwn e).less less⟩
theorem ds_retO {j : Nat} {x : Str} {p : Pos} (hj : O.contains j = true) (h0 : j ≠ 0 ∨ G.io = none) (hy : PE X (.Name x p) (tVar j)) : DS X G XC Ol O O' W true (.Return (some (.Name x p)) pos) (msRetO j) := by
  refine ps_imp (ps_ret hy) fun D0 σ H ⟨A, ms, ρ, R, q⟩ => ?_
  unfold msRetO at q
  cases hc : getO ρ j with
  | none => rw [hc] at q; exact q.elim
  | some d =>
    rw [hc] at q
    have hj' := List.contains_iff_mem.mp hj
    have b := getO_some hc
    obtain ⟨p, e0, e1, oj⟩ := R.ow j d b hj'
    have aj := R.inA j p hj' e0
    have hp0 : G.H0 p = none := by
      rcases R.ok j p hj' e0 with ⟨z, w⟩ | ⟨_, w⟩
      · rcases h0 with k | k
        · exact absurd z k
        · rw [k] at w; cases w
      · exact w
    have less : ∀ a, (G.A0 a ∨ a = p) → A a := fun a z => z.elim (R.sub a) fun z => z ▸ aj
    exact ⟨_, e1, q (.ref p) H ⟨R.ki, p, rfl, hp0, oj.less less, fun p e => (R.ioOwn e).less less⟩⟩
theorem ds_retOv {j : Nat} {x : Str} {p : Pos} (hj : O.contains j = true) (h0 : j ≠ 0 ∨ G.io = none) (hy : PE X (.Name x p) (tVar j)) : DS X G XC Ol O O' W false (.Return (some (.Name x p)) pos) (msRetO j) := by
  refine ps_imp (ps_ret hy) fun D0 σ H ⟨A, ms, ρ, R, q⟩ => ?_
  unfold msRetO at q
  cases hc : getO ρ j with
  | none => rw [hc] at q; exact q.elim
  | some d =>
    rw [hc] at q
    have hj' := List.contains_iff_mem.mp hj
    have b := getO_some hc
    obtain ⟨p, e0, e1, oj⟩ := R.ow j d b hj'
    have aj := R.inA j p hj' e0
    have hp0 : G.H0 p = none := by
      rcases R.ok j p hj' e0 with ⟨z, w⟩ | ⟨_, w⟩
      · rcases h0 with k | k
        · exact absurd z k
        · rw [k] at w; cases w
      · exact w
    have n0 : ¬ G.A0 p := fun z => by
      obtain ⟨o, w⟩ := R.trk0 _ z
      rw [hp0] at w; cases w
    exact ⟨_, e1, q (.ref p) H ⟨R.ki, oj.freeze R.sub n0, fun p e => (R.ioOwn e).less R.sub⟩⟩
theorem ds_if {mt : MT} {a b : List Stmt} (hx : XC O) (hc : DT X G O W c mt) (ha : DSs X G XC Ol O O' W fr a ma) (hb : DSs X G XC Ol O O' W fr b mb) : DS X G XC Ol O O' W fr (.If c a b pos) (msIf mt ma mb) := by
  refine ps_imp (ps_if hc ha hb) fun D0 σ H ⟨A, ms, ρ, R, q⟩ => ⟨A, ms, ρ, R, eb hx q ?_⟩
  intro k ρ1 v H1 _ R1 k1 r q1
  cases r
  cases k with
  | true => exact ⟨A, ms, ρ1, R1, q1⟩
  | false => exact ⟨A, ms, ρ1, R1, q1⟩
def msAug (i : Nat) (g : D → D → Option D) (m : ME) : MS := fun ρ => match getO ρ i with
  | some a => obind (m ρ) fun b ρ1 => match g a b with
    | some d => if i < ρ1.length then .nx (ρ1.set i (some d)) else .bad
    | none => .bad
  | none => .bad
theorem ds_aug {i : Nat} {x : Str} {op : Operator} {g : D → D → Option D} {pos' : Pos} (hx : XC O) (hi : O.contains i = false) (hN : X.N.Nodup) (hn : X.N[i]? = some x) (hl : Loc X.env.scope x) (he : DE X G O W e me) (ho : OpR X (inplaceOp op) (rD2 X.K g))
    (hf : X.fn x = true ∨ X.env.scope.names.lookup x = some .local := by first | exact .inl rfl | exact .inr rfl | assumption) : DS X G XC Ol O O W fr (.AugAssign (.Name x pos') op e pos) (msAug i g me) := by
  refine ps_imp (ps_aug hN hn hl he (ti := rD2 X.K g) ho hf) fun D0 σ H ⟨A, ms, ρ, R, q⟩ => ?_
  have ni : i ∉ O := fun z => by rw [List.contains_iff_mem.mpr z] at hi; cases hi
  unfold msAug at q
  cases hc : getO ρ i with
  | none => rw [hc] at q; exact q.elim
  | some a =>
    rw [hc] at q
    obtain ⟨v, e1, ra⟩ := R.fz i a (getO_some hc) ni
    refine ⟨v, e1, A, ms, ρ, R, eb hx q ?_⟩
    intro b ρ1 w H1 _ R1 k r q1
    cases hg : g a b with
    | none => simp only [hg] at q1; exact q1.elim
    | some d =>
      simp only [hg] at q1
      refine ⟨A, a, b, d, R1.trk, .of (ra.tr (R.kt k)), .of r, hg, fun z H2 s rz => ?_⟩
      split at q1
      · rename_i hlt
        exact q1 _ H2 A ms ((R1.same s).put ni hlt rz) (Tr.same s)
      · exact q1.elim

def ItOk (K : PySem.W.Frag) (A : Addr → Prop) (H : Hp) (J : It) (ds : List D) : Prop := ∀ A' H', Tr A A' H H' → Trk A' H' → (∀ i d, ds[i]? = some d → J.go i H' ∧ ∀ x H'', J.yld i H' x H'' → Same H' H'' ∧ Rp K A' H'' x d) ∧ J.stop ds.length H'
def tI (K : PySem.W.Frag) (G : Gd) (O : List Nat) (W : WX) (m : En → R (List D)) : TI := fun σ H Q => ∃ A ms ρ, RelS K G O A ms σ H ρ ∧ RPost K G O W A ms σ H (fun H' J ds => ItOk K A H' J ds) Q (m ρ)
def DI (X : Cx) (G : Gd) (O : List Nat) (W : WX) (tg e : Expr) (m : En → R (List D)) : Prop := PI X tg e (tI X.K G O W m)
theorem pi_imp {tg e : Expr} {t t' : TI} (h : PI X tg e t) (w : ∀ σ H Q, t' σ H Q → t σ H Q) : PI X tg e t' := ⟨fun pins s σ H R I q => h.run pins s σ H R I (w σ H R q)⟩
theorem ItOk.tr {K : PySem.W.Frag} {A A1 : Addr → Prop} {H H1 : Hp} {J : It} {ds : List D} (h : ItOk K A H J ds) (t : Tr A A1 H H1) : ItOk K A1 H1 J ds := fun A' H' t' => h A' H' (t.trans t')
theorem ds_for {tg iter : Expr} {vs : List Nat} {body : List Stmt} {mi : En → R (List D)} {g : MG} (hx : XC O) (hp : PassesOwn (model X.prog X.w) X.A X.env X.xe) (hc : X.calm = true) (hi : DI X G O W tg iter mi) (hg : DG X G O vs tg g) (hb : DSs X G XC O O O W fr body mb)
    (hs : ∀ x, foldedSetIterable iter X.env x = pure x := by intro _; rfl) : DS X G XC Ol O O W fr (.For tg iter body [] pos) (msFor mi g mb) := by
  refine ps_imp (ps_for hp hc hi hg hb hs) fun D0 σ H ⟨A, ms, ρ, R, q⟩ => ⟨A, ms, ρ, R, eb hx q ?_⟩
  intro ds ρ1 J H1 _ R1 k1 itok q1
  refine ⟨fun i m σ' H' => i ≤ ds.length ∧ m = ds.length - i ∧ ∃ A' ms' ρ', RelS X.K G O A' ms' σ' H' ρ' ∧ Tr A A' H1 H' ∧ SPost X.K G XC Ol O W fr A' H' D0 (loopL g mb (ds.drop i) ρ'),
    ⟨ds.length, Nat.zero_le _, rfl, A, ms, ρ1, R1, Tr.refl, q1⟩, ?_⟩
  rintro i m σ2 H2 ⟨hi, rfl, A2, ms2, ρ2, R2, t2, q2⟩
  obtain ⟨goes, stops⟩ := itok A2 H2 t2 R2.trk
  by_cases hlt : i < ds.length
  · have hd : ds[i]? = some ds[i] := List.getElem?_eq_getElem hlt
    obtain ⟨go, yl⟩ := goes i _ hd
    have e : ds.drop i = ds[i] :: ds.drop (i + 1) := List.drop_eq_getElem_cons hlt
    rw [e] at q2
    refine .inr ⟨go, fun σ' H' => i + 1 ≤ ds.length ∧ ∃ A' ms' ρ', RelS X.K G O A' ms' σ' H' ρ' ∧ Tr A A' H1 H' ∧ SPost X.K G XC Ol O W fr A' H' D0 (loopL g mb (ds.drop (i + 1)) ρ'), fun σ' H' ⟨w1, w2⟩ => ⟨ds.length - (i + 1), by omega, w1, rfl, w2⟩, fun x H3 hy => ?_⟩
    obtain ⟨s3, rx⟩ := yl x H3 hy
    refine ⟨A2, ms2, ρ2, ds[i], R2.same s3, rx, ?_⟩
    have q3 : SPost X.K G XC Ol O W fr A2 H3 D0 (match g ds[i] ρ2 with
      | .ok _ ρ1 => match mb ρ1 with
        | .nx ρ2 => loopL g mb (ds.drop (i + 1)) ρ2
        | .ct ρ2 => loopL g mb (ds.drop (i + 1)) ρ2
        | .bk ρ2 => .nx ρ2
        | o => o
      | _ => .bad) := SPost.from (Tr.same s3) q2
    have t3 : Tr A A2 H1 H3 := t2.trans (Tr.same s3)
    cases hgd : g ds[i] ρ2 with
    | bad => rw [hgd] at q3; exact q3.elim
    | ex y ρ3 => rw [hgd] at q3; exact q3.elim
    | ok u ρ3 =>
      rw [hgd] at q3
      intro σ4 H4 _ R4 k4
      refine ⟨A2, ms2, ρ3, R4, ?_⟩
      have t4 : Tr A A2 H1 H4 := t3.trans (R4.kt k4)
      have q4 := SPost.from (R4.kt k4) q3
      cases hm : mb ρ3 with
      | nx ρ5 =>
        simp only [hm] at q4
        exact fun σ' H' A' ms' R' t => ⟨hlt, A', ms', ρ5, R', t4.trans t, SPost.from t q4⟩
      | ct ρ5 =>
        simp only [hm] at q4
        exact fun σ' H' A' ms' R' t => ⟨hlt, A', ms', ρ5, R', t4.trans t, SPost.from t q4⟩
      | bk ρ5 =>
        simp only [hm] at q4
        exact fun σ' H' A' ms' R' t => q4 σ' H' A' ms' R' t
      | rt d ρ5 => simp only [hm] at q4; exact q4
      | ex y ρ5 => simp only [hm] at q4; exact q4
      | bad => simp only [hm] at q4; exact q4.elim
  · have e : i = ds.length := by omega
    subst e
    refine .inl ⟨stops, ?_⟩
    have q3 : SPost X.K G XC Ol O W fr A2 H2 D0 (loopL g mb (ds.drop ds.length) ρ2) := q2
    rw [List.drop_length] at q3
    exact q3 σ2 H2 A2 ms2 R2 Tr.refl
theorem ds_while {mt : MT} {body : List Stmt} (n : Nat) (hx : XC O) (hp : PassesOwn (model X.prog X.w) X.A X.env X.xe) (hc : DT X G O W c mt) (hb : DSs X G XC O O O W fr body mb) : DS X G XC Ol O O W fr (.While c body [] pos) (msWhile n mt mb) := by
  refine ps_imp (ps_while hp hc hb) fun D0 σ H ⟨A, ms, ρ, R, q⟩ => ?_
  refine ⟨fun m σ' H' => ∃ A' ms' ρ', RelS X.K G O A' ms' σ' H' ρ' ∧ SPost X.K G XC Ol O W fr A' H' D0 (loopW mt mb m ρ'), ⟨n, A, ms, ρ, R, q⟩, ?_⟩
  rintro m σ1 H1 ⟨A1, ms1, ρ1, R1, q1⟩
  cases m with
  | zero => exact q1.elim
  | succ m =>
    refine ⟨A1, ms1, ρ1, R1, ?_⟩
    have q2 : SPost X.K G XC Ol O W fr A1 H1 D0 (match mt ρ1 with
      | .ok true ρ1 => match mb ρ1 with
        | .nx ρ2 => loopW mt mb m ρ2
        | .ct ρ2 => loopW mt mb m ρ2
        | .bk ρ2 => .nx ρ2
        | o => o
      | .ok false ρ1 => .nx ρ1
      | .ex x ρ1 => .ex x ρ1
      | .bad => .bad) := q1
    cases hm : mt ρ1 with
    | bad => rw [hm] at q2; exact q2.elim
    | ex y ρ2 => rw [hm] at q2; exact fun dx H' R' k xr => q2 dx σ1 H' A1 ms1 O hx R' (R'.kt k) xr
    | ok b ρ2 =>
      rw [hm] at q2
      intro v H2 R2 k2 rv
      cases rv
      have q3 := SPost.from (R2.kt k2) q2
      cases b with
      | false => exact q3 σ1 H2 A1 ms1 R2 Tr.refl
      | true =>
        rw [if_pos rfl]
        refine ⟨fun σ' H' => ∃ A' ms' ρ', RelS X.K G O A' ms' σ' H' ρ' ∧ SPost X.K G XC Ol O W fr A' H' D0 (loopW mt mb m ρ'), fun σ' H' w => ⟨m, Nat.lt_succ_self _, w⟩, A1, ms1, ρ2, R2, ?_⟩
        cases hb' : mb ρ2 with
        | nx ρ5 =>
          simp only [hb'] at q3
          exact fun σ' H' A' ms' R' t => ⟨A', ms', ρ5, R', SPost.from t q3⟩
        | ct ρ5 =>
          simp only [hb'] at q3
          exact fun σ' H' A' ms' R' t => ⟨A', ms', ρ5, R', SPost.from t q3⟩
        | bk ρ5 =>
          simp only [hb'] at q3
          exact fun σ' H' A' ms' R' t => q3 σ' H' A' ms' R' t
        | rt d ρ5 => simp only [hb'] at q3; exact q3
        | ex y ρ5 => simp only [hb'] at q3; exact q3
        | bad => simp only [hb'] at q3; exact q3.elim

theorem RelS.freezeSlot {K : PySem.W.Frag} {A : Addr → Prop} {ms : Nat → Option Addr} {σ : L2.St} {H : Hp} {ρ : En} {j : Nat} (R : RelS K G O A ms σ H ρ) (hpx : NPx G j) (h0 : j ≠ 0 ∨ G.io = none) (hO : ∀ i, i ∈ O1 ↔ i ∈ O ∧ i ≠ j) :
    ∃ A', RelS K G O1 A' ms σ H ρ ∧ Tr A A' H H := by
  have io1 : ∀ p, G.io = some p → 0 ∈ O1 ∧ G.A0 p ∧ ms 0 = some p ∧ ∃ d, ρ[0]? = some (some d) := fun p e => by
    obtain ⟨h1, h2, h3, z, h4⟩ := R.io p e
    refine ⟨(hO 0).mpr ⟨h1, fun w => ?_⟩, h2, h3, z, h4⟩
    rcases h0 with k | k
    · exact k w.symm
    · rw [k] at e; cases e
  by_cases hb : j ∈ O ∧ ∃ d, ρ[j]? = some (some d)
  · obtain ⟨hj, d, hd⟩ := hb
    obtain ⟨p, e0, e1, oj⟩ := R.ow j d hd hj
    have hp0 : G.H0 p = none := by
      rcases R.ok j p hj e0 with ⟨z, w⟩ | ⟨_, w⟩
      · rcases h0 with k | k
        · exact absurd z k
        · rw [k] at w; cases w
      · exact w
    have less : ∀ a, (A a ∧ a ≠ p) → A a := fun a z => z.1
    refine ⟨fun a => A a ∧ a ≠ p, ?_, fun a o e n => ⟨e, fun z => n z.1⟩⟩
    exact {
      sub := fun a z => ⟨R.sub a z, fun q => by
        obtain ⟨o, w⟩ := R.trk0 _ z
        rw [q, hp0] at w; cases w⟩
      trk0 := R.trk0
      trk := fun a z => R.trk a z.1
      keep := R.keep
      len := R.len
      fz := fun i z e n => by
        by_cases h : i = j
        · subst h
          rw [hd] at e
          cases e
          exact ⟨_, e1, oj.freeze less fun z => z.2 rfl⟩
        · obtain ⟨v, e2, q⟩ := R.fz i z e fun m => n ((hO i).mpr ⟨m, h⟩)
          exact ⟨v, e2, q.less less⟩
      ow := fun i z e m => by
        obtain ⟨q, w0, w1, w2⟩ := R.ow i z e ((hO i).mp m).1
        exact ⟨q, w0, w1, w2.less less⟩
      inA := fun i q m e => ⟨R.inA i q ((hO i).mp m).1 e, fun z => ((hO i).mp m).2 (R.dist i j p ((hO i).mp m).1 hj (z ▸ e) e0)⟩
      ok := fun i q m e => R.ok i q ((hO i).mp m).1 e
      dist := fun i i' q m m' e e' => R.dist i i' q ((hO i).mp m).1 ((hO i').mp m').1 e e'
      px := fun i a c e => let ⟨m, q⟩ := R.px i a c e; ⟨(hO i).mpr ⟨m, hpx i a c e⟩, q⟩
      io := io1 }
  · refine ⟨A, ?_, Tr.refl⟩
    exact {
      sub := R.sub
      trk0 := R.trk0
      trk := R.trk
      keep := R.keep
      len := R.len
      fz := fun i z e n => by
        by_cases h : i = j
        · subst h
          by_cases m : i ∈ O
          · exact absurd ⟨m, z, e⟩ hb
          · exact R.fz i z e m
        · exact R.fz i z e fun m => n ((hO i).mpr ⟨m, h⟩)
      ow := fun i z e m => R.ow i z e ((hO i).mp m).1
      inA := fun i q m e => R.inA i q ((hO i).mp m).1 e
      ok := fun i q m e => R.ok i q ((hO i).mp m).1 e
      dist := fun i i' q m m' e e' => R.dist i i' q ((hO i).mp m).1 ((hO i').mp m').1 e e'
      px := fun i a c e => let ⟨m, q⟩ := R.px i a c e; ⟨(hO i).mpr ⟨m, hpx i a c e⟩, q⟩
      io := io1 }
theorem dss_freeze (j : Nat) (h0 : j ≠ 0 ∨ G.io = none) (h : DSs X G XC Ol (O.filter (· != j)) O' W fr sts ma) (hpx : NPx G j := by first | exact NPx.no rfl | assumption) : DSs X G XC Ol O O' W fr sts ma := by
  refine pss_imp h fun D0 σ H ⟨A, ms, ρ, R, q⟩ => ?_
  obtain ⟨A', R', t⟩ := R.freezeSlot (O1 := O.filter (· != j)) hpx h0 fun i => by simp [List.mem_filter]
  exact ⟨A', ms, ρ, R', SPost.from t q⟩
theorem RelS.forget {K : PySem.W.Frag} {A : Addr → Prop} {ms : Nat → Option Addr} {σ : L2.St} {H : Hp} {ρ : En} {j : Nat} (R : RelS K G O A ms σ H ρ) (hpx : NPx G j) (h0 : j ≠ 0 ∨ G.io = none) (hO : ∀ i, i ≠ j → (i ∈ O1 ↔ i ∈ O)) :
    RelS K G O1 A (fun i => if i = j then none else ms i) σ H (ρ.set j none) := by
  have ne : ∀ {i : Nat} {z : D}, (ρ.set j none)[i]? = some (some z) → i ≠ j := fun {i z} e h => by
    subst h
    by_cases hl : i < ρ.length
    · rw [List.getElem?_set_self hl] at e; cases e
    · rw [List.getElem?_eq_none (by rw [List.length_set]; omega)] at e; cases e
  have g : ∀ {i : Nat} {z : D}, (ρ.set j none)[i]? = some (some z) → ρ[i]? = some (some z) := fun {i z} e => by
    have e' := e
    rw [set_get_ne (ne e)] at e'
    exact e'
  have sm : ∀ {i : Nat} {p : Addr}, (if i = j then none else ms i) = some p → i ≠ j ∧ ms i = some p := fun {i p} e => by
    by_cases h : i = j
    · rw [if_pos h] at e; cases e
    · rw [if_neg h] at e; exact ⟨h, e⟩
  exact {
    sub := R.sub
    trk0 := R.trk0
    trk := R.trk
    keep := R.keep
    len := by rw [List.length_set]; exact R.len
    fz := fun i z e n => R.fz i z (g e) fun m => n ((hO i (ne e)).mpr m)
    ow := fun i z e m => by
      obtain ⟨p, e0, e1, w⟩ := R.ow i z (g e) ((hO i (ne e)).mp m)
      exact ⟨p, (if_neg (ne e)).trans e0, e1, w⟩
    inA := fun i p m e => R.inA i p ((hO i (sm e).1).mp m) (sm e).2
    ok := fun i p m e => R.ok i p ((hO i (sm e).1).mp m) (sm e).2
    dist := fun i i' p m m' e e' => R.dist i i' p ((hO i (sm e).1).mp m) ((hO i' (sm e').1).mp m') (sm e).2 (sm e').2
    px := fun i a c e => let ⟨m, q⟩ := R.px i a c e; ⟨(hO i (hpx i a c e)).mpr m, q⟩
    io := fun p e => by
      obtain ⟨h1, h2, h3, z, h4⟩ := R.io p e
      have n0 : (0 : Nat) ≠ j := fun w => by
        rcases h0 with k | k
        · exact k w.symm
        · rw [k] at e; cases e
      exact ⟨(hO 0 n0).mpr h1, h2, (if_neg n0).trans h3, z, by rw [set_get_ne n0]; exact h4⟩ }
def msForget (j : Nat) (m : MS) : MS := fun ρ => m (ρ.set j none)
theorem dss_forgetO (j : Nat) (h0 : j ≠ 0 ∨ G.io = none) (h : DSs X G XC Ol (j :: O) O' W fr sts ma) (hpx : NPx G j := by first | exact NPx.no rfl | assumption) : DSs X G XC Ol O O' W fr sts (msForget j ma) := by
  refine pss_imp h fun D0 σ H ⟨A, ms, ρ, R, q⟩ => ?_
  exact ⟨A, _, _, R.forget hpx h0 fun i hi => by simp [hi], q⟩
end
end DL
namespace DL
open L2 PySem PySem.Spec PyProof.Rows

def chars (s : Str) : List D := s.cps.toList.map fun c => .str ⟨#[c]⟩
def gIter : D → Option (List D)
  | .lst l => some l
  | .scr l => some l
  | .tup l => some l
  | .str s => some (chars s)
  | _ => none
def mIter (m : ME) : En → R (List D) := fun ρ => (m ρ).bind fun d ρ1 => ret (gIter d) ρ1
def rangeL (lo : Int) (n : Nat) : List D := (List.range n).map fun i => .int (lo + (i : Nat))
def okR (i : Int) : Bool := decide (-(2 ^ 62) ≤ i) && decide (i < 2 ^ 62)
def gRange1 : List D → Option (List D)
  | [.int j] => if okR j = true then some (rangeL 0 j.toNat) else none
  | _ => none
def gRange2 : List D → Option (List D)
  | [.int i, .int j] => if okR i = true ∧ okR j = true then some (rangeL i (j - i).toNat) else none
  | _ => none
def mItN (g : List D → Option (List D)) (args : MA) : En → R (List D) := fun ρ => (args ρ).bind fun ds ρ1 => ret (g ds) ρ1
def enumL (l : List D) : List D := l.zipIdx.map fun p => .tup [.int (p.2 : Nat), p.1]
def gEnum : List D → Option (List D)
  | [.lst l] => some (enumL l)
  | _ => none
def gZip : List D → Option (List D)
  | [.lst l, .lst r] => some ((l.zip r).map fun p => .tup [p.1, p.2])
  | _ => none
section
variable {X : Cx} {G : Gd} {O : List Nat} {W : WX} {a b e : Expr} {es : List Expr} {me : ME} {mr : MA} {tg : Expr} {p pos tpos : Pos} {elts : List Expr} {kk : Nat}
theorem pi_or {t1 t2 : TI} (h1 : PI X tg e t1) (h2 : PI X tg e t2) : PI X tg e (fun σ H Q => t1 σ H Q ∨ t2 σ H Q) := ⟨fun pins s σ H Q I q => q.elim (h1.run pins s σ H Q I) (h2.run pins s σ H Q I)⟩
theorem sql_at {K : PySem.W.Frag} {A A' : Addr → Prop} {H H' : Hp} {a : Addr} {xs : List V} (h : SqLA K A H a xs) (t : Tr A A' H H') : SqL K H' a xs := (h.tr t).sq
theorem itok_list {K : PySem.W.Frag} {A : Addr → Prop} {H : Hp} {a : Addr} {xs : List V} {ds : List D} (h : SqLA K A H a xs) (r : RpA K A H xs ds) : ItOk K A H (Itl K a) ds := by
  intro A' H' t tk
  have h' := sql_at h t
  have hl := r.length
  refine ⟨fun i d e => ?_, ⟨xs, h', Nat.le_of_eq hl⟩⟩
  obtain ⟨v, e1, rv⟩ := r.get e
  refine ⟨⟨xs, v, h', e1⟩, fun x H'' ⟨eq, y⟩ => ?_⟩
  subst eq
  have := y xs h'
  rw [e1] at this
  cases this
  exact ⟨Same.refl _, rv.tr t⟩
theorem itok_tup {K : PySem.W.Frag} {A : Addr → Prop} {H : Hp} {a : Addr} {xs : List V} {ds : List D} (h : SqTA K A H a xs) (r : RpA K A H xs ds) : ItOk K A H (Itt K a) ds := by
  intro A' H' t tk
  have h' := (h.tr t).sq
  have hl := r.length
  refine ⟨fun i d e => ?_, ⟨xs, h', Nat.le_of_eq hl⟩⟩
  obtain ⟨v, e1, rv⟩ := r.get e
  refine ⟨⟨xs, v, h', e1⟩, fun x H'' ⟨eq, y⟩ => ?_⟩
  subst eq
  have := y xs h'
  rw [e1] at this
  cases this
  exact ⟨Same.refl _, rv.tr t⟩
theorem itok_str {K : PySem.W.Frag} {A : Addr → Prop} {H : Hp} (s : Str) : ItOk K A H (Its s) (chars s) := by
  intro A' H' t tk
  have hl : (chars s).length = s.cps.size := by unfold chars; rw [List.length_map, Array.length_toList]
  refine ⟨fun i d e => ?_, by show s.cps.size ≤ (chars s).length; omega⟩
  have hi := (List.getElem?_eq_some_iff.mp e).1
  refine ⟨by show i < s.cps.size; omega, fun x H'' ⟨eq, c, hc, hx⟩ => ?_⟩
  subst eq hx
  refine ⟨Same.refl _, ?_⟩
  unfold chars at e
  rw [List.getElem?_map, Array.getElem?_toList, hc] at e
  cases e
  exact .str _
theorem itok_rng {K : PySem.W.Frag} {A : Addr → Prop} {H : Hp} (lo : Int) (n : Nat) : ItOk K A H (Itr lo n) (rangeL lo n) := by
  intro A' H' t tk
  have hl : (rangeL lo n).length = n := by unfold rangeL; rw [List.length_map, List.length_range]
  refine ⟨fun i d e => ?_, by show n ≤ (rangeL lo n).length; omega⟩
  have hi := (List.getElem?_eq_some_iff.mp e).1
  refine ⟨by show i < n; omega, fun x H'' ⟨eq, hx⟩ => ?_⟩
  subst eq hx
  refine ⟨Same.refl _, ?_⟩
  unfold rangeL at e
  rw [List.getElem?_map, List.getElem?_range (by omega)] at e
  cases e
  exact .int _
theorem di_seq (he : DE X G O W e me) : DI X G O W tg e (mIter me) := by
  refine pi_imp (pi_or (pi_list he) (pi_or (pi_tup he) (pi_str he))) fun σ H Q ⟨A, ms, ρ, R, q⟩ => ?_
  unfold mIter at q
  cases hm : me ρ with
  | bad => rw [hm] at q; exact q.elim
  | ex x ρ1 =>
    rw [hm] at q
    exact .inl ⟨A, ms, ρ, R, by rw [hm]; exact q⟩
  | ok d ρ1 =>
    rw [hm] at q
    cases d with
    | lst l =>
      refine .inl ⟨A, ms, ρ, R, ?_⟩
      rw [hm]
      intro v H1 R1 k1 r1
      cases r1 with
      | lst h1 n1 rr => exact ⟨_, rfl, ⟨_, SqL.of h1⟩, q _ H1 R1 k1 (itok_list (.inl ⟨.inl h1, n1⟩) rr)⟩
    | scr l =>
      refine .inl ⟨A, ms, ρ, R, ?_⟩
      rw [hm]
      intro v H1 R1 k1 r1
      cases r1 with
      | scr h1 rr => exact ⟨_, rfl, ⟨_, h1.sq⟩, q _ H1 R1 k1 (itok_list h1 rr)⟩
    | tup l =>
      refine .inr (.inl ⟨A, ms, ρ, R, ?_⟩)
      rw [hm]
      intro v H1 R1 k1 r1
      cases r1 with
      | tup h1 rr => exact ⟨_, rfl, ⟨_, h1.sq⟩, q _ H1 R1 k1 (itok_tup h1 rr)⟩
    | str z =>
      refine .inr (.inr ⟨A, ms, ρ, R, ?_⟩)
      rw [hm]
      intro v H1 R1 k1 r1
      cases r1
      exact ⟨_, rfl, q _ H1 R1 k1 (itok_str z)⟩
    | _ => exact q.elim
theorem okR_ok {i : Int} (h : okR i = true) : -(2 ^ 62) ≤ i ∧ i < 2 ^ 62 := by
  unfold okR at h
  rw [Bool.and_eq_true] at h
  exact ⟨of_decide_eq_true h.1, of_decide_eq_true h.2⟩
theorem ite_l {α : Type} {c : Prop} [Decidable c] {x d : α} (h : (if c then some x else none) = some d) : c ∧ x = d := by
  by_cases q : c
  · rw [if_pos q] at h
    exact ⟨q, Option.some.inj h⟩
  · rw [if_neg q] at h
    cases h
theorem itn_go {t : TA} {g : List D → Option (List D)} {K : PySem.W.Frag} (ht : ∀ σ H Q, tA K G O W mr σ H Q → t σ H Q) {σ : L2.St} {H : Hp} {Q : It → Hp → Prop} {P : List V → Hp → Prop} (h : tI K G O W (mItN g mr) σ H Q)
    (w : ∀ A vs ds l H1, Trk A H1 → RpA K A H1 vs ds → g ds = some l → (∀ J, ItOk K A H1 J l → Q J H1) → P vs H1) : t σ H P := by
  obtain ⟨A, ms, ρ, R, q⟩ := h
  refine ht _ _ _ ⟨A, ms, ρ, R, q.bind.mono ?_⟩
  rintro vs H1 ⟨ds, ρ1, R1, k1, r1, q1⟩
  obtain ⟨l, hl, q2⟩ := rp_of (rel := fun H' J ds => ItOk K A H' J ds) R1 q1
  exact w A vs ds l H1 R1.trk r1 hl fun J it => q2 J H1 (Same.refl _) it
theorem di_range1 (hg : Gl X "range") (hm : X.mg "range" = none) (ha : DA X G O W [a] mr) (hs : starEach [a] X.env = [(false, eval a X.env)] := by rfl) : DI X G O W tg (.Call (.Name "range" p) [a] [] pos) (mItN gRange1 mr) := by
  refine pi_imp (pi_range1 hg hm ha hs) fun σ H Q h => itn_go (fun _ _ _ z => z) h fun A vs ds l H1 tk r hl q => ?_
  unfold gRange1 at hl
  split at hl
  · obtain ⟨hj, rfl⟩ := ite_l hl
    cases r with
    | cons r r' =>
      cases r'
      cases r
      exact ⟨_, rfl, (okR_ok hj).1, (okR_ok hj).2, q _ (itok_rng _ _)⟩
  · cases hl
theorem di_range2 (hg : Gl X "range") (hm : X.mg "range" = none) (ha : DA X G O W [a, b] mr) (hs : starEach [a, b] X.env = [(false, eval a X.env), (false, eval b X.env)] := by rfl) (hs2 : starEach [b] X.env = [(false, eval b X.env)] := by rfl) : DI X G O W tg (.Call (.Name "range" p) [a, b] [] pos) (mItN gRange2 mr) := by
  refine pi_imp (pi_range2 hg hm ha hs hs2) fun σ H Q h => itn_go (fun _ _ _ z => z) h fun A vs ds l H1 tk r hl q => ?_
  unfold gRange2 at hl
  split at hl
  · obtain ⟨hj, rfl⟩ := ite_l hl
    cases r with
    | cons r r' =>
      cases r' with
      | cons s s' =>
        cases s'
        cases r
        cases s
        exact ⟨_, _, rfl, ⟨(okR_ok hj.1).1, (okR_ok hj.1).2, (okR_ok hj.2).1, (okR_ok hj.2).2⟩, q _ (itok_rng _ _)⟩
  · cases hl
theorem di_enum (hg : Gl X "enumerate") (hm : X.mg "enumerate" = none) (ha : DA X G O W [e] mr) (hs : starEach [e] X.env = [(false, eval e X.env)] := by rfl) : DI X G O W (.Tuple elts kk tpos) (.Call (.Name "enumerate" p) [e] [] pos) (mItN gEnum mr) := by
  refine pi_imp (pi_enum hg hm ha hs) fun σ H Q h => itn_go (fun _ _ _ z => z) h fun A vs ds l H1 tk r hl q => ?_
  unfold gEnum at hl
  split at hl
  · rename_i zs
    cases hl
    cases r with
    | cons r r' =>
      cases r'
      cases r with
      | lst h1 n1 rr =>
        rename_i a xs
        refine ⟨a, xs, rfl, SqL.of h1, q _ fun A' H' t tk' => ?_⟩
        have sq : SqL X.K H' a xs := SqL.of (t _ _ h1 n1).1
        have hlen := rr.length
        have el : (enumL zs).length = zs.length := by unfold enumL; rw [List.length_map, List.length_zipIdx]
        refine ⟨fun i d e => ?_, ⟨xs, sq, by omega⟩⟩
        have hi := (List.getElem?_eq_some_iff.mp e).1
        rw [el] at hi
        have e2 : d = .tup [.int (i : Nat), zs[i]] := by
          unfold enumL at e
          rw [List.getElem?_map, List.getElem?_zipIdx, List.getElem?_eq_getElem hi] at e
          have := Option.some.inj e
          rw [← this]
          simp
        obtain ⟨v, ev, rv⟩ := rr.get (List.getElem?_eq_getElem hi)
        refine ⟨⟨xs, v, sq, ev⟩, ?_⟩
        rintro x H'' ⟨T, y, rfl, hT, rfl, hy⟩
        have := hy xs sq
        rw [ev] at this
        cases this
        rw [e2]
        exact ⟨same_upd hT, new_tup tk' (.cons (.int _) (.cons (rv.tr t) .nil)) hT⟩
  · cases hl
theorem di_zip {e2 : Expr} (hg : Gl X "zip") (hm : X.mg "zip" = none) (ha : DA X G O W [e, e2] mr) (hs : starEach [e, e2] X.env = (false, eval e X.env) :: starEach [e2] X.env := by rfl) (hpl : (backTo pos (starEach [e2] X.env)).any (·.1) = false := by rfl) :
    DI X G O W (.Tuple elts kk tpos) (.Call (.Name "zip" p) [e, e2] [] pos) (mItN gZip mr) := by
  refine pi_imp (pi_zip hg hm ha hs hpl) fun σ H Q h => itn_go (fun _ _ _ z => z) h fun A vs ds l H1 tk r hl q => ?_
  unfold gZip at hl
  split at hl
  · rename_i zs ws
    cases hl
    cases r with
    | cons r r' =>
      cases r' with
      | cons s s' =>
        cases s'
        cases r with
        | lst h1 n1 rr =>
          cases s with
          | lst h2 n2 ss =>
            rename_i a xs b ys
            refine ⟨a, b, xs, ys, rfl, SqL.of h1, SqL.of h2, q _ fun A' H' t tk' => ?_⟩
            have sx : SqL X.K H' a xs := SqL.of (t _ _ h1 n1).1
            have sy : SqL X.K H' b ys := SqL.of (t _ _ h2 n2).1
            have l1 := rr.length
            have l2 := ss.length
            refine ⟨fun i d e => ?_, ⟨xs, ys, sx, sy, by rw [List.length_map, List.length_zip]; omega⟩⟩
            have hi := (List.getElem?_eq_some_iff.mp e).1
            rw [List.length_map, List.length_zip] at hi
            have i1 : i < zs.length := by omega
            have i2 : i < ws.length := by omega
            have e2 : d = .tup [zs[i], ws[i]] := by
              rw [List.getElem?_map, List.getElem?_eq_getElem (by rw [List.length_zip]; omega), List.getElem_zip] at e
              have := Option.some.inj e
              rw [← this]
            obtain ⟨v, ev, rv⟩ := rr.get (List.getElem?_eq_getElem i1)
            obtain ⟨u, eu, ru⟩ := ss.get (List.getElem?_eq_getElem i2)
            refine ⟨⟨xs, ys, v, u, sx, sy, ev, eu⟩, ?_⟩
            rintro x H'' ⟨T, y, z, rfl, hT, rfl, hy, hz⟩
            have q1 := hy xs sx
            have q2 := hz ys sy
            rw [ev] at q1
            rw [eu] at q2
            cases q1
            cases q2
            rw [e2]
            exact ⟨same_upd hT, new_tup tk' (.cons (rv.tr t) (.cons (ru.tr t) .nil)) hT⟩
  · cases hl

def wipeE (ρ : En) : List Nat → En
  | [] => ρ
  | v :: vs => (wipeE ρ vs).set v none
def restE (ρ0 : En) : List Nat → En → En
  | [], ρ => ρ
  | v :: vs, ρ => (restE ρ0 vs ρ).set v (match ρ0[v]? with
    | some o => o
    | none => none)
def lcLoop (vs : List Nat) (g : MG) (mt : MT) (me : ME) : List D → En → R (List D)
  | [], ρ => .ok [] ρ
  | d :: r, ρ => match g d (wipeE ρ vs) with
    | .ok _ ρ1 => match mt ρ1 with
      | .ok true ρ2 => match me ρ2 with
        | .ok y ρ3 => match lcLoop vs g mt me r ρ3 with
          | .ok ys ρ4 => .ok (y :: ys) ρ4
          | _ => .bad
        | _ => .bad
      | .ok false ρ2 => lcLoop vs g mt me r ρ2
      | _ => .bad
    | _ => .bad
def mLc (vs : List Nat) (mi : En → R (List D)) (g : MG) (mt : MT) (me : ME) : ME := fun ρ => (mi ρ).bind fun ds ρ1 => match lcLoop vs g mt me ds ρ1 with
  | .ok ys ρ2 => if ys.length ≤ sizeLine then .ok (.lst ys) (restE ρ1 vs ρ2) else .bad
  | _ => .bad
def mYes : MT := fun ρ => .ok true ρ
theorem RelS.unset {K : PySem.W.Frag} {A : Addr → Prop} {ms : Nat → Option Addr} {σ : L2.St} {H : Hp} {ρ : En} {i : Nat} (R : RelS K G O A ms σ H ρ) (hi : i ∉ O) : RelS K G O A ms (σ.set i none) H (ρ.set i none) := by
  have ne : ∀ {j : Nat}, j ∈ O → j ≠ i := fun {j} m z => hi (z ▸ m)
  have g : ∀ {j : Nat} {z : D}, j ∈ O → (ρ.set i none)[j]? = some (some z) → ρ[j]? = some (some z) := fun {j z} m e => by rw [set_get_ne (ne m)] at e; exact e
  exact {
    sub := R.sub
    trk0 := R.trk0
    trk := R.trk
    keep := R.keep
    len := by rw [List.length_set, List.length_set]; exact R.len
    fz := fun j z e n => by
      by_cases h : j = i
      · subst h
        by_cases hl : j < ρ.length
        · rw [List.getElem?_set_self hl] at e; cases e
        · rw [List.getElem?_eq_none (by rw [List.length_set]; omega)] at e; cases e
      · rw [set_get_ne h] at e
        obtain ⟨w, e1, q⟩ := R.fz j z e n
        exact ⟨w, by rw [List.getElem?_set_ne (Ne.symm h)]; exact e1, q⟩
    ow := fun j z e m => by
      obtain ⟨p, e0, e1, q⟩ := R.ow j z (g m e) m
      exact ⟨p, e0, by rw [List.getElem?_set_ne (Ne.symm (ne m))]; exact e1, q⟩
    inA := R.inA
    ok := R.ok
    dist := R.dist
    px := fun j a c e => let ⟨m, q⟩ := R.px j a c e; ⟨m, by rw [List.getElem?_set_ne (Ne.symm (ne m))]; exact q⟩
    io := fun p e => by
      obtain ⟨h1, h2, h3, z, h4⟩ := R.io p e
      exact ⟨h1, h2, h3, z, by rw [set_get_ne (ne h1)]; exact h4⟩ }
theorem RelS.wipe {K : PySem.W.Frag} {A : Addr → Prop} {ms : Nat → Option Addr} {σ : L2.St} {H : Hp} {ρ : En} (R : RelS K G O A ms σ H ρ) : ∀ vs : List Nat, (∀ i ∈ vs, i ∉ O) → RelS K G O A ms (L2.wipe σ vs) H (wipeE ρ vs)
  | [], _ => R
  | v :: vs, h => (RelS.wipe R vs fun i m => h i (List.mem_cons_of_mem _ m)).unset (h v List.mem_cons_self)
theorem restE_len (ρ0 ρ : En) : ∀ vs, (restE ρ0 vs ρ).length = ρ.length
  | [] => rfl
  | v :: vs => by unfold restE; rw [List.length_set, restE_len ρ0 ρ vs]
theorem restE_out {ρ0 ρ : En} {i : Nat} : ∀ {vs : List Nat}, i ∉ vs → (restE ρ0 vs ρ)[i]? = ρ[i]?
  | [], _ => rfl
  | v :: vs, h => by
    unfold restE
    rw [set_get_ne fun e => h (by rw [e]; exact List.mem_cons_self)]
    exact restE_out fun m => h (List.mem_cons_of_mem _ m)
theorem restE_in {ρ0 ρ : En} (hl : ρ.length = ρ0.length) {i : Nat} : ∀ {vs : List Nat}, i ∈ vs → (restE ρ0 vs ρ)[i]? = ρ0[i]?
  | v :: vs, h => by
    unfold restE
    by_cases e : i = v
    · subst e
      by_cases hi : i < ρ0.length
      · rw [List.getElem?_set_self (by rw [restE_len, hl]; exact hi), List.getElem?_eq_getElem hi]
      · rw [List.getElem?_eq_none (by rw [List.length_set, restE_len, hl]; omega), List.getElem?_eq_none (by omega)]
    · rw [set_get_ne e]
      exact restE_in hl ((List.mem_cons.mp h).resolve_left e)
theorem wipe_get {σ : L2.St} {i : Nat} : ∀ {vs : List Nat}, i ∉ vs → (L2.wipe σ vs)[i]? = σ[i]?
  | [], _ => rfl
  | v :: vs, h => by
    show ((L2.wipe σ vs).set v none)[i]? = _
    rw [List.getElem?_set_ne fun e => h (by rw [← e]; exact List.mem_cons_self)]
    exact wipe_get fun m => h (List.mem_cons_of_mem _ m)
theorem wipe_at {σ : L2.St} {i : Nat} : ∀ {vs : List Nat}, i ∈ vs → i < σ.length → (L2.wipe σ vs)[i]? = some none
  | v :: vs, h, hl => by
    show ((L2.wipe σ vs).set v none)[i]? = _
    by_cases e : i = v
    · subst e
      exact List.getElem?_set_self (by rw [L2.wipe_length]; exact hl)
    · rw [List.getElem?_set_ne fun q => e q.symm]
      exact wipe_at ((List.mem_cons.mp h).resolve_left e) hl
theorem wipe_eq {σ σ2 : L2.St} {vs : List Nat} (h : SlEq vs (L2.wipe σ vs) σ2) : L2.wipe σ2 vs = L2.wipe σ vs := by
  apply List.ext_getElem?
  intro i
  have hl : σ2.length = σ.length := by rw [h.1, L2.wipe_length]
  by_cases m : i ∈ vs
  · by_cases hi : i < σ.length
    · rw [wipe_at m (by rw [hl]; exact hi), wipe_at m hi]
    · rw [List.getElem?_eq_none (by rw [L2.wipe_length, hl]; omega), List.getElem?_eq_none (by rw [L2.wipe_length]; omega)]
  · rw [wipe_get m, h.2 i m]
theorem RelS.rest {K : PySem.W.Frag} {A A' : Addr → Prop} {ms : Nat → Option Addr} {σ : L2.St} {H1 H : Hp} {ρ0 ρ : En} {vs : List Nat} (hv : ∀ i ∈ vs, i ∉ O) (R0 : RelS K G O A' ms σ H1 ρ0) (t : Tr A' A H1 H) (R : RelS K G O A ms (L2.wipe σ vs) H (wipeE ρ vs)) (hl : ρ.length = ρ0.length) :
    RelS K G O A ms σ H (restE ρ0 vs ρ) := by
  have wE : ∀ {i : Nat}, i ∉ vs → (wipeE ρ vs)[i]? = ρ[i]? := fun {i} => by
    induction vs with
    | nil => exact fun _ => rfl
    | cons v vs ih =>
      intro h
      show ((wipeE ρ vs).set v none)[i]? = _
      rw [set_get_ne fun e => h (by rw [e]; exact List.mem_cons_self)]
      have : ∀ vs : List Nat, i ∉ vs → (wipeE ρ vs)[i]? = ρ[i]? := fun vs => by
        induction vs with
        | nil => exact fun _ => rfl
        | cons v vs ih2 =>
          intro h
          show ((wipeE ρ vs).set v none)[i]? = _
          rw [set_get_ne fun e => h (by rw [e]; exact List.mem_cons_self)]
          exact ih2 fun m => h (List.mem_cons_of_mem _ m)
      exact this vs fun m => h (List.mem_cons_of_mem _ m)
  have g : ∀ {i : Nat}, i ∈ O → (restE ρ0 vs ρ)[i]? = (wipeE ρ vs)[i]? := fun {i} m => by
    have nv : i ∉ vs := fun z => hv i z m
    rw [restE_out nv, wE nv]
  exact {
    sub := R.sub
    trk0 := R.trk0
    trk := R.trk
    keep := R.keep
    len := by rw [restE_len, hl]; exact R0.len
    fz := fun i d e n => by
      by_cases m : i ∈ vs
      · rw [restE_in hl m] at e
        obtain ⟨v, e1, q⟩ := R0.fz i d e n
        exact ⟨v, e1, q.tr t⟩
      · rw [restE_out m, ← wE m] at e
        obtain ⟨v, e1, q⟩ := R.fz i d e n
        rw [wipe_get m] at e1
        exact ⟨v, e1, q⟩
    ow := fun i d e m => by
      rw [g m] at e
      obtain ⟨p, e0, e1, q⟩ := R.ow i d e m
      rw [wipe_get fun z => hv i z m] at e1
      exact ⟨p, e0, e1, q⟩
    inA := R.inA
    ok := R.ok
    dist := R.dist
    px := R0.px
    io := fun p e => by
      obtain ⟨h1, h2, h3, z, h4⟩ := R.io p e
      exact ⟨h1, h2, h3, z, by rw [g h1]; exact h4⟩ }
end
end DL
namespace DL
open L2 PySem PySem.Spec PyProof.Rows
section
variable {X : Cx} {G : Gd} {O : List Nat} {W : WX}
theorem wipeE_out {ρ : En} {i : Nat} : ∀ {vs : List Nat}, i ∉ vs → (wipeE ρ vs)[i]? = ρ[i]?
  | [], _ => rfl
  | v :: vs, h => by
    show ((wipeE ρ vs).set v none)[i]? = _
    rw [set_get_ne fun e => h (by rw [e]; exact List.mem_cons_self)]
    exact wipeE_out fun m => h (List.mem_cons_of_mem _ m)
theorem wipeE_len (ρ : En) : ∀ vs, (wipeE ρ vs).length = ρ.length
  | [] => rfl
  | v :: vs => by
    show ((wipeE ρ vs).set v none).length = _
    rw [List.length_set, wipeE_len ρ vs]
theorem RelS.rewipe {K : PySem.W.Frag} {A : Addr → Prop} {ms : Nat → Option Addr} {σ σ2 : L2.St} {H : Hp} {ρ : En} {vs : List Nat} (hv : ∀ i ∈ vs, i ∉ O) (e : SlEq vs (L2.wipe σ vs) σ2) (R : RelS K G O A ms σ2 H ρ) : RelS K G O A ms (L2.wipe σ vs) H (wipeE ρ vs) := by
  rw [← wipe_eq e]
  exact R.wipe vs hv
theorem lc_goes {K : PySem.W.Frag} {A : Addr → Prop} {ms : Nat → Option Addr} {σ : L2.St} {H1 : Hp} {ρ1 ρf : En} {vs : List Nat} {g : MG} {mt : MT} {me : ME} {tt : TT} {J : It} {ds ys : List D} {Q : VK} (hv : ∀ i ∈ vs, i ∉ O)
    (htt : ∀ σ H Q, tT K G O W0 mt σ H Q → tt σ H Q) (R1 : RelS K G O A ms σ H1 ρ1) (it : ItOk K A H1 J ds) (hl : lcLoop vs g mt me ds ρ1 = .ok ys ρf) (hz : ys.length ≤ sizeLine)
    (q : ∀ p H', RelS K G O A ms σ H' (restE ρ1 vs ρf) → RelS K G O (fun a => A a ∨ a = p) ms σ H' (restE ρ1 vs ρf) → Kp O ms H1 H' → H1 p = none → Own K (fun a => A a ∨ a = p) H' p (.lst ys) → Q (.ref p) H') :
    ∀ L, H1 L = none → ∃ Wv : Nat → Nat → Hp → Prop, (∃ m, Wv 0 m (upd H1 L (.lst []))) ∧ ∀ i m H, Wv i m H →
      (J.stop i H ∧ Q (.ref L) H) ∨ (J.go i H ∧ ∃ Nx : Hp → Prop, (∀ H', Nx H' → ∃ m', m' < m ∧ Wv (i + 1) m' H') ∧ ∀ x H', J.yld i H x H' → tG K G O vs g x (L2.wipe σ vs) H' fun σ2 H2 => L2.wipe σ2 vs = L2.wipe σ vs ∧ tt σ2 H2 fun b H3 =>
        if b = true then tE K G O W0 me σ2 H3 fun y H4 => ∃ acc, H4 L = some (.lst acc) ∧ acc.length < sizeLine ∧ Nx (upd H4 L (.lst (acc ++ [y]))) else Nx H3) := by
  intro L hL
  have s0 : Same H1 (upd H1 L (.lst [])) := same_upd hL
  have t0 : Tr A (fun a => A a ∨ a = L) H1 (upd H1 L (.lst [])) := fun a u e n => ⟨s0 _ _ e, fun z => z.elim n fun z => by rw [z, hL] at e; cases e⟩
  have R2 : RelS K G O (fun a => A a ∨ a = L) ms σ (upd H1 L (.lst [])) ρ1 := R1.grow hL s0 upd_same
  have nL : ∀ i ∈ O, ms i ≠ some L := R1.msne hL
  refine ⟨fun i m H => i ≤ ds.length ∧ m = ds.length - i ∧ (∃ ρi acc y0 rest, RelS K G O (fun a => A a ∨ a = L) ms (L2.wipe σ vs) H (wipeE ρi vs) ∧ (∀ a o, (upd H1 L (.lst [])) a = some o → a ≠ L → (∀ i ∈ O, ms i ≠ some a) → H a = some o) ∧ H L = some (.lst acc) ∧ RpA K (fun a => A a ∨ a = L) H acc y0 ∧
    lcLoop vs g mt me (ds.drop i) ρi = .ok rest ρf ∧ ys = y0 ++ rest ∧ ρi.length = ρ1.length), ⟨ds.length, Nat.zero_le _, rfl, ρ1, [], [], ys, R2.wipe vs hv, fun _ _ e _ _ => e, upd_same, .nil, hl, rfl, rfl⟩, ?_⟩
  rintro i m H ⟨hi, rfl, ρi, acc, y0, rest, R, k, hacc, racc, hrest, hys, hlen⟩
  have kA : Tr A (fun a => A a ∨ a = L) H1 H := fun a u e n => by
    have nl : a ≠ L := fun z => by rw [z, hL] at e; cases e
    exact ⟨k a u (s0 _ _ e) nl fun i m z => n (R1.inA i a m z), fun z => z.elim n nl⟩
  obtain ⟨goes, stops⟩ := it _ H kA R.trk
  by_cases hlt : i < ds.length
  · have hd : ds[i]? = some ds[i] := List.getElem?_eq_getElem hlt
    obtain ⟨go, yl⟩ := goes i _ hd
    have e : ds.drop i = ds[i] :: ds.drop (i + 1) := List.drop_eq_getElem_cons hlt
    rw [e] at hrest
    refine .inr ⟨go, fun H' => (∃ ρi acc y0 rest, RelS K G O (fun a => A a ∨ a = L) ms (L2.wipe σ vs) H' (wipeE ρi vs) ∧ (∀ a o, (upd H1 L (.lst [])) a = some o → a ≠ L → (∀ i ∈ O, ms i ≠ some a) → H' a = some o) ∧ H' L = some (.lst acc) ∧ RpA K (fun a => A a ∨ a = L) H' acc y0 ∧
      lcLoop vs g mt me (ds.drop (i + 1)) ρi = .ok rest ρf ∧ ys = y0 ++ rest ∧ ρi.length = ρ1.length), fun H' w => ⟨ds.length - (i + 1), by omega, hlt, rfl, w⟩, fun x H3 hy => ?_⟩
    obtain ⟨s3, rx⟩ := yl x H3 hy
    have R3 := R.same s3
    refine ⟨_, ms, wipeE ρi vs, ds[i], R3, rx, ?_⟩
    unfold lcLoop at hrest
    cases hg : g ds[i] (wipeE ρi vs) with
    | bad => rw [hg] at hrest; cases hrest
    | ex y ρ2 => rw [hg] at hrest; cases hrest
    | ok u ρ2 =>
      rw [hg] at hrest
      intro σ4 H4 e4 R4 k4
      refine ⟨wipe_eq e4, htt _ _ _ ⟨_, ms, ρ2, R4, ?_⟩⟩
      cases hmt : mt ρ2 with
      | bad => simp only [hmt] at hrest; cases hrest
      | ex y ρ3 => simp only [hmt] at hrest; cases hrest
      | ok b ρ3 =>
        simp only [hmt] at hrest
        intro b' H5 R5 k5 hb
        cases hb
        have len5 : ρ3.length = ρ1.length := by rw [← R5.len, e4.1, L2.wipe_length, R1.len]
        have k5' : ∀ a o, (upd H1 L (.lst [])) a = some o → a ≠ L → (∀ i ∈ O, ms i ≠ some a) → H5 a = some o := fun a o h1 h2 h3 => k5 a o (k4 a o (s3 _ _ (k a o h1 h2 h3)) h3) h3
        have acc5 : H5 L = some (.lst acc) := k5 _ _ (k4 _ _ (s3 _ _ hacc) nL) nL
        have tr5 : Tr (fun a => A a ∨ a = L) (fun a => A a ∨ a = L) H H5 := ((Tr.same s3).trans (R.kt k4)).trans (R.kt k5)
        cases b with
        | false =>
          rw [if_neg Bool.false_ne_true]
          exact ⟨ρ3, acc, y0, rest, R5.rewipe hv e4, k5', acc5, racc.tr tr5, hrest, hys, len5⟩
        | true =>
          rw [if_pos rfl]
          refine ⟨_, ms, ρ3, R5, ?_⟩
          cases hme : me ρ3 with
          | bad => simp only [hme] at hrest; cases hrest
          | ex y ρ4 => simp only [hme] at hrest; cases hrest
          | ok y ρ4 =>
            simp only [hme] at hrest
            cases hr : lcLoop vs g mt me (ds.drop (i + 1)) ρ4 with
            | bad => simp only [hr] at hrest; cases hrest
            | ex z ρ5 => simp only [hr] at hrest; cases hrest
            | ok ys' ρ5 =>
              simp only [hr] at hrest
              cases hrest
              intro w H6 R6 k6 rw6
              have acc6 : H6 L = some (.lst acc) := k6 _ _ acc5 nL
              have al : (fun a => A a ∨ a = L) L := .inr rfl
              have lenacc : acc.length < sizeLine := by
                have := racc.length
                rw [hys, List.length_append, List.length_cons] at hz
                omega
              refine ⟨acc, acc6, lenacc, ρ4, acc ++ [w], y0 ++ [y], ys', ?_, ?_, upd_same, ?_, hr, by rw [hys]; simp, by rw [← R6.len, e4.1, L2.wipe_length, R1.len]⟩
              · -- the new list grew: no slot's own
                have R7 := R6.rewipe hv e4
                have tr7 : Tr (fun a => A a ∨ a = L) (fun a => A a ∨ a = L) H6 (upd H6 L (.lst (acc ++ [w]))) := fun a o e n => ⟨upd_out a o e fun z => n (.inr z), n⟩
                exact {
                  sub := R7.sub
                  trk0 := R7.trk0
                  trk := fun a z => by
                    by_cases h : a = L
                    · rw [h]; exact ⟨_, upd_same⟩
                    · obtain ⟨o, e⟩ := R7.trk a z
                      exact ⟨o, upd_out a o e h⟩
                  keep := fun a o e n => by
                    have := R7.keep a o e n
                    refine upd_out a o this fun z => ?_
                    have h0 := R1.keep a o e n
                    rw [z, hL] at h0
                    cases h0
                  len := R7.len
                  fz := fun j d e n => let ⟨v, e1, q⟩ := R7.fz j d e n; ⟨v, e1, q.tr tr7⟩
                  ow := fun j d e n => let ⟨p, e0, e1, q⟩ := R7.ow j d e n; ⟨p, e0, e1, q.tr tr7 fun o z => upd_out _ _ z fun h => nL j n (h ▸ e0)⟩
                  inA := R7.inA
                  ok := R7.ok
                  dist := R7.dist
                  px := R7.px
                  io := R7.io }
              · exact fun a o h1 h2 h3 => upd_out a o (k6 a o (k5' a o h1 h2 h3) h3) h2
              · exact ((racc.tr (tr5.trans (R5.kt k6))).upd al).app (.cons (rw6.upd al) .nil)
  · have e : i = ds.length := by omega
    subst e
    rw [List.drop_length] at hrest
    cases hrest
    rw [List.append_nil] at hys
    subst hys
    refine .inl ⟨stops, ?_⟩
    have Rf : RelS K G O (fun a => A a ∨ a = L) ms σ H (restE ρ1 vs ρf) := RelS.rest hv R1 kA R hlen
    have kf : Kp O ms H1 H := fun a o e n => k a o (s0 _ _ e) (fun z => by rw [z, hL] at e; cases e) n
    exact q L H (Rf.less (fun a z => .inl z) R1.sub fun j p m z => R1.inA j p m z) Rf kf hL (.lst hacc racc)
abbrev ownS (own : List (Str × Nat)) : List Nat := own.map (·.2)
theorem lc_go {K : PySem.W.Frag} {own : List (Str × Nat)} {mi : En → R (List D)} {g : MG} {mt : MT} {me : ME} {tt : TT} (hv : (ownS own).all (fun i => !O.contains i) = true) (htt : ∀ σ H Q, tT K G O W0 mt σ H Q → tt σ H Q) {σ : L2.St} {H : Hp} {Q : VK} (h : tF K G O W (mLc (ownS own) mi g mt me) σ H Q) :
    tLc (tI K G O W mi) (tG K G O (ownS own) g) tt (tE K G O W0 me) (own.map (·.2)) σ H Q := by
  have hv' : ∀ i ∈ ownS own, i ∉ O := fun i m z => by
    have := List.all_eq_true.mp hv i m
    rw [List.contains_iff_mem.mpr z] at this
    cases this
  obtain ⟨A, ms, ρ, R, q⟩ := h
  refine ⟨A, ms, ρ, R, ?_⟩
  unfold mLc at q
  cases hm : mi ρ with
  | bad => rw [hm] at q; exact q.elim
  | ex x ρ1 => rw [hm] at q; exact q
  | ok ds ρ1 =>
    rw [hm] at q
    intro J H1 R1 k1 itok
    have q1 : FPost K G O W A ms σ H Q (match lcLoop (ownS own) g mt me ds ρ1 with
      | .ok ys ρ2 => if ys.length ≤ sizeLine then .ok (.lst ys) (restE ρ1 (ownS own) ρ2) else .bad
      | _ => .bad) := q
    cases hl : lcLoop (ownS own) g mt me ds ρ1 with
    | bad => rw [hl] at q1; exact q1.elim
    | ex x ρ2 => rw [hl] at q1; exact q1.elim
    | ok ys ρ2 =>
      rw [hl] at q1
      have q2 : FPost K G O W A ms σ H Q (if ys.length ≤ sizeLine then .ok (.lst ys) (restE ρ1 (ownS own) ρ2) else .bad) := q1
      split at q2
      · rename_i hz
        exact lc_goes hv' htt R1 itok hl hz fun p H' r1 r2 k hp ow => q2 p H' r1 r2 (k1.trans k) (Kp.none R1 k1 hp) ow
      · exact q2.elim
theorem df_lc {elt tg iter : Expr} {ifs : List Expr} {scope : Scope} {own : List (Str × Nat)} {pos : Pos} {mi : En → R (List D)} {g : MG} {mt : MT} {me : ME} {tt : TT} (hc : X.calm = true) (hN : X.N.Nodup) (hv : (ownS own).all (fun i => !O.contains i) = true)
    (hi : DI X G O W tg iter mi) (ok : BlkOk X.N X.env.scope scope own)
    (hg : ∀ (s : Shared) (H : Hp) (C : Addr) (cl : List (Str × Addr)) (fp : List Addr), DG (X.blk s H scope (compEnvC scope cl C X.env) fp) G O (ownS own) tg g)
    (ht : ∀ (s : Shared) (H : Hp) (C : Addr) (cl : List (Str × Addr)) (fp : List Addr), PTs (X.blk s H scope (compEnvC scope cl C X.env) fp) ifs tt) (htt : ∀ σ H Q, tT X.K G O W0 mt σ H Q → tt σ H Q)
    (he : ∀ (s : Shared) (H : Hp) (C : Addr) (cl : List (Str × Addr)) (fp : List Addr), DE (X.blk s H scope (compEnvC scope cl C X.env) fp) G O W0 elt me) (hs : ∀ x, foldedSetIterable iter X.env x = pure x := by intro _; rfl) :
    DF X G O W (.ListComp elt [⟨tg, iter, ifs, 0⟩] scope pos) (mLc (ownS own) mi g mt me) :=
  pe_imp (pe_lc (te := tE X.K G O W0 me) (tt := tt) (g := tG X.K G O (ownS own) g) hc hN hi ok hg ht he hs) fun _ _ _ h => lc_go hv htt h
theorem tYes_go {K : PySem.W.Frag} : ∀ σ H Q, tT K G O W0 mYes σ H Q → tYes σ H Q := fun σ H Q ⟨A, ms, ρ, R, q⟩ => q true H R Kp.refl rfl
end
end DL
namespace DL
open L2 PySem PySem.Spec PyProof.Rows

inductive Bx where
  | ex (m : ME)
  | ow (j : Nat)
def evB : Bx → ME
  | .ex m => m
  | .ow j => fun ρ => match getO ρ j with
    | some d => .ok d ρ
    | none => .bad
def rdB (b : Bx) (d : D) (ρ : En) : Option D := match b with
  | .ex _ => some d
  | .ow j => getO ρ j
def m1B (g : D → Option D) (b : Bx) : ME := fun ρ => (evB b ρ).bind fun x ρ1 => ret (g x) ρ1
def m2B (g : D → D → Option D) (a b : Bx) : ME := fun ρ => (evB a ρ).bind fun x ρ1 => (evB b ρ1).bind fun y ρ2 => ret ((rdB a x ρ2).bind fun x' => g x' y) ρ2
def DB (X : Cx) (G : Gd) (O : List Nat) (W : WX) (e : Expr) (b : Bx) : Prop := match b with
  | .ex m => DE X G O W e m
  | .ow j => O.contains j = true ∧ PE X e (tVar j)
section
variable {X : Cx} {G : Gd} {O : List Nat} {W : WX} {a b c e : Expr} {es : List Expr} {ma mb mc : ME} {ba bb : Bx} {mr : MA} {pos p : Pos} {x : Str}
theorem db_e (h : DE X G O W e ma) : DB X G O W e (.ex ma) := h
theorem db_o {j : Nat} (hj : O.contains j = true) (hy : PE X e (tVar j)) : DB X G O W e (.ow j) := ⟨hj, hy⟩
def tBx (K : PySem.W.Frag) (G : Gd) (O : List Nat) (W : WX) : Bx → TE
  | .ex m => tE K G O W m
  | .ow j => tVar j
theorem DB.pe (h : DB X G O W e ba) : PE X e (tBx X.K G O W ba) := by
  cases ba with
  | ex m => exact h
  | ow j => exact h.2
theorem own_at {K : PySem.W.Frag} {A : Addr → Prop} {ms : Nat → Option Addr} {σ : L2.St} {H : Hp} {ρ : En} {j : Nat} {d : D} (R : RelS K G O A ms σ H ρ) (hj : O.contains j = true) (h : getO ρ j = some d) : ∃ p, ms j = some p ∧ σ[j]? = some (some (.ref p)) ∧ Own K A H p d := R.ow j d (getO_some h) (List.contains_iff_mem.mp hj)
theorem own_b {K : PySem.W.Frag} {A : Addr → Prop} {H : Hp} {q : Addr} {l : List D} (h : Own K A H q (.lst l)) : RpB K A H (.ref q) (.lst l) := by
  cases h with
  | lst e r => exact .own e r
def LstOf (d : D) : Prop := ∀ c fs, d ≠ .obj c fs
theorem op2B_go {r : R2} {g : D → D → Option D} {K : PySem.W.Frag} (hA : ∀ j, ba = .ow j → O.contains j = true) (hB : ∀ j, bb = .ow j → O.contains j = true) (hl : ∀ c fs z, g (.obj c fs) z = none) (hr' : ∀ c fs z, g z (.obj c fs) = none)
    (hr : ∀ x y H Q, rD2 K g x y H Q → r x y H Q) {σ : L2.St} {H : Hp} {Q : VK} (h : tE K G O W (m2B g ba bb) σ H Q) : tOp r (tBx K G O W ba) (tBx K G O W bb) σ H Q := by
  obtain ⟨A, ms, ρ, R, q⟩ := h
  -- the second operand and the operation, the first one lying as x at the end
  have snd : ∀ (x : V) (d0 : D) (ρ1 : En) (H1 : Hp), RelS K G O A ms σ H1 ρ1 → Kp O ms H H1 →
      (∀ ρ2 H2 d', RelS K G O A ms σ H2 ρ2 → Kp O ms H1 H2 → rdB ba d0 ρ2 = some d' → (∀ c fs, d' ≠ .obj c fs) → RpB K A H2 x d') →
      RPost K G O W A ms σ H1 (Rp K A) Q ((evB bb ρ1).bind fun y ρ2 => ret ((rdB ba d0 ρ2).bind fun x' => g x' y) ρ2) → tBx K G O W bb σ H1 fun y H2 => r x y H2 Q := by
    intro x d0 ρ1 H1 R1 k1 hx q1
    have fin : ∀ (y : V) (d2 : D) (ρ2 : En) (H2 : Hp), RelS K G O A ms σ H2 ρ2 → Kp O ms H1 H2 → ((∀ c fs, d2 ≠ .obj c fs) → RpB K A H2 y d2) → RPost K G O W A ms σ H2 (Rp K A) Q (ret ((rdB ba d0 ρ2).bind fun x' => g x' d2) ρ2) → r x y H2 Q := by
      intro y d2 ρ2 H2 R2' k2 r2 q2
      obtain ⟨z, hz, q3⟩ := rp_of R2' q2
      cases hd : rdB ba d0 ρ2 with
      | none => rw [hd] at hz; cases hz
      | some d' =>
        rw [hd] at hz
        have hz' : g d' d2 = some z := hz
        have n1 : ∀ c fs, d' ≠ .obj c fs := fun c fs w => by rw [w, hl] at hz'; cases hz'
        have n2 : ∀ c fs, d2 ≠ .obj c fs := fun c fs w => by rw [w, hr'] at hz'; cases hz'
        exact hr _ _ _ _ ⟨A, d', d2, z, R2'.trk, hx ρ2 H2 d' R2' k2 hd n1, r2 n2, hz', q3⟩
    cases bb with
    | ex m =>
      refine ⟨A, ms, ρ1, R1, RPost.mono (RPost.bind q1) ?_⟩
      rintro y H2 ⟨d2, ρ2, R2', k2, r2, q2⟩
      exact fin y d2 ρ2 H2 R2' k2 (fun _ => .of r2) q2
    | ow j =>
      unfold evB at q1
      cases hj : getO ρ1 j with
      | none => simp only [hj] at q1; exact q1.elim
      | some d2 =>
        simp only [hj] at q1
        obtain ⟨pj, h1, h2, h3⟩ := own_at R1 (hB j rfl) hj
        refine ⟨_, h2, fin _ d2 ρ1 H1 R1 Kp.refl (fun n => ?_) q1⟩
        cases d2 with
        | lst l => exact own_b h3
        | obj c fs => exact absurd rfl (n c fs)
        | _ => cases h3
  cases ba with
  | ex m =>
    refine ⟨A, ms, ρ, R, RPost.mono (RPost.bind q) ?_⟩
    rintro x H1 ⟨d, ρ1, R1, k1, r1, q1⟩
    exact snd x d ρ1 H1 R1 k1 (fun ρ2 H2 d' R2' k2 e _ => by cases e; exact .of (r1.tr (R1.kt k2))) q1
  | ow j =>
    have q' : RPost K G O W A ms σ H (Rp K A) Q ((evB (.ow j) ρ).bind fun x ρ1 => (evB bb ρ1).bind fun y ρ2 => ret ((rdB (.ow j) x ρ2).bind fun x' => g x' y) ρ2) := q
    have e1 : evB (.ow j) ρ = (match getO ρ j with | some d => .ok d ρ | none => .bad) := rfl
    rw [e1] at q'
    cases hj : getO ρ j with
    | none => simp only [hj] at q'; exact q'.elim
    | some d =>
      simp only [hj] at q'
      obtain ⟨pj, h1, h2, h3⟩ := own_at R (hA j rfl) hj
      refine ⟨_, h2, snd _ d ρ H R Kp.refl (fun ρ2 H2 d' R2' k2 e n => ?_) q'⟩
      obtain ⟨pj', h1', h2', h3'⟩ := own_at R2' (hA j rfl) e
      rw [h1] at h1'
      cases h1'
      cases d' with
      | lst l => exact own_b h3'
      | obj c fs => exact absurd rfl (n c fs)
      | _ => cases h3'
theorem DB.own (h : DB X G O W e ba) : ∀ j, ba = .ow j → O.contains j = true := fun j w => by subst w; exact h.1
structure NoObj (g : D → D → Option D) : Prop where
  l : ∀ c fs z, g (.obj c fs) z = none
  r : ∀ c fs z, g z (.obj c fs) = none
theorem de_ixB {g : D → D → Option D} (hr : IxR X (rD2 X.K g)) (n : NoObj g) (ha : DB X G O W a ba) (hb : DB X G O W b bb) (hs : PlainIx b) : DE X G O W (.Subscript a b pos) (m2B g ba bb) :=
  pe_imp (pe_ix hr ha.pe hb.pe hs) fun _ _ _ h => op2B_go ha.own hb.own n.l n.r (fun _ _ _ _ z => z) h
theorem de_cmpB {op : CmpOp} {g : D → D → Option D} (ho : OpR X (compareOp op) (rD2 X.K g)) (n : NoObj g) (ha : DB X G O W a ba) (hb : DB X G O W b bb) (hm : behindInMarks op b = false) : DE X G O W (.Compare a [op] [b] pos) (m2B g ba bb) :=
  pe_imp (pe_cmpR ho ha.pe hb.pe hm) fun _ _ _ h => op2B_go ha.own hb.own n.l n.r (fun _ _ _ _ z => z) h
theorem dt_cmpB {op : CmpOp} {g : D → D → Option D} (ho : OpR X (compareOp op) (rD2 X.K g)) (n : NoObj g) (ha : DB X G O W a ba) (hb : DB X G O W b bb) (hm : behindInMarks op b = false) : DT X G O W (.Compare a [op] [b] pos) (mTest (m2B g ba bb)) :=
  pt_imp (pt_cmpR ho ha.pe hb.pe hm) fun _ _ _ h => test_go (fun _ _ _ z => op2B_go ha.own hb.own n.l n.r (fun _ _ _ _ z => z) z) h
theorem de_binB {op : Operator} {g : D → D → Option D} (ho : OpR X (binaryOp op) (rD2 X.K g)) (n : NoObj g) (ha : DB X G O W a ba) (hb : DB X G O W b bb) : DE X G O W (.BinOp a op b pos) (m2B g ba bb) :=
  pe_imp (pe_op ho ha.pe hb.pe) fun _ _ _ h => op2B_go ha.own hb.own n.l n.r (fun _ _ _ _ z => z) h
def mTruO (j : Nat) : MT := fun ρ => match getO ρ j with
  | some (.lst l) => .ok (!l.isEmpty) ρ
  | _ => .bad
theorem dt_truO {j : Nat} (hj : O.contains j = true) (ha : PE X a (tVar j)) (he : ∀ whole, isTrue a X.env whole = (do let v ← whole; standAt a.pos; holding [v] (truthy v)) := by intro _; rfl) : DT X G O W a (mTruO j) := by
  refine pt_imp (pt_truth ha he) fun σ H Q ⟨A, ms, ρ, R, q⟩ => ?_
  unfold mTruO at q
  split at q
  · rename_i l h
    obtain ⟨pj, h1, h2, h3⟩ := own_at R hj h
    refine ⟨_, h2, !l.isEmpty, ?_, q _ H R Kp.refl rfl⟩
    cases h3 with
    | lst e r =>
      refine .inl ⟨_, SqL.of e, ?_⟩
      cases r <;> rfl
  · exact q.elim

def gIx (a b : D) : Option D := match a, b with
  | .lst l, .int i => L2.atI l i
  | .scr l, .int i => L2.atI l i
  | .tup l, .int i => L2.atI l i
  | .str z, .int i => if z.length ≤ sizeLine then (L2.atI z.cps.toList i).map fun c => .str ⟨#[c]⟩ else none
  | _, _ => none
theorem gIx_no : NoObj gIx := ⟨fun _ _ z => by cases z <;> rfl, fun _ _ z => by cases z <;> rfl⟩
theorem at_rp {K : PySem.W.Frag} {A : Addr → Prop} {H : Hp} {xs : List V} {ds : List D} {i : Int} {d : D} (h : RpA K A H xs ds) (e : L2.atI ds i = some d) : ∃ v, L2.atI xs i = some v ∧ Rp K A H v d := by
  unfold L2.atI at e ⊢
  rw [h.length]
  cases hj : ixN ds.length i with
  | none => rw [hj] at e; cases e
  | some j =>
    rw [hj] at e
    exact h.get (show ds[j]? = some d from e)
theorem ix_d : IxR X (rD2 X.K gIx) := by
  intro value slice pins s σ H x y v u Q I rx ry ⟨A, a, b, d, t, pa, pb, e, q⟩ hs
  cases a with
  | lst l =>
    cases b with
    | int i =>
      obtain ⟨p, xs, rfl, h1, r1⟩ := pa.lst
      obtain ⟨w, hw, rw'⟩ := at_rp r1 (show L2.atI l i = some d from e)
      rw [pb.int] at ry
      exact ix_list value slice pins s σ H _ _ v u Q I rx ry ⟨p, xs, i, w, rfl, rfl, SqL.of h1, hw, q w H (Same.refl _) rw'⟩ hs
    | _ => cases e
  | scr l =>
    cases b with
    | int i =>
      obtain ⟨p, xs, rfl, h1, r1⟩ := pa.scr
      obtain ⟨w, hw, rw'⟩ := at_rp r1 (show L2.atI l i = some d from e)
      rw [pb.int] at ry
      exact ix_list value slice pins s σ H _ _ v u Q I rx ry ⟨p, xs, i, w, rfl, rfl, h1.sq, hw, q w H (Same.refl _) rw'⟩ hs
    | _ => cases e
  | tup l =>
    cases b with
    | int i =>
      obtain ⟨p, xs, rfl, h1, r1⟩ := pa.tup
      obtain ⟨w, hw, rw'⟩ := at_rp r1 (show L2.atI l i = some d from e)
      rw [pb.int] at ry
      exact ix_tup value slice pins s σ H _ _ v u Q I rx ry ⟨p, xs, i, w, rfl, rfl, h1.sq, hw, q w H (Same.refl _) rw'⟩ hs
    | _ => cases e
  | str z =>
    cases b with
    | int i =>
      have e' : (if z.length ≤ sizeLine then (L2.atI z.cps.toList i).map (fun c => D.str ⟨#[c]⟩) else none) = some d := e
      split at e'
      · rename_i hz
        obtain ⟨c, hc, rfl⟩ := map_some e'
        rw [pa.str] at rx
        rw [pb.int] at ry
        exact ix_str value slice pins s σ H _ _ v u Q I rx ry ⟨z, i, c, rfl, rfl, hz, hc, q _ H (Same.refl _) (.str _)⟩ hs
      · cases e'
    | _ => cases e
  | _ => cases b <;> cases e

def cutD (xs : List D) (lo hi : Option Int) : List D := (xs.drop (HT.sIx xs.length 0 lo)).take (HT.sIx xs.length xs.length hi - HT.sIx xs.length 0 lo)
def gSl (d : D) (lo hi : Option Int) : Option D := match d with
  | .lst l => some (.lst (cutD l lo hi))
  | .tup l => some (.tup (cutD l lo hi))
  | .str z => if z.length ≤ sizeLine then some (.str (L2.cutS z lo hi)) else none
  | _ => none
theorem cut_rp {K : PySem.W.Frag} {A : Addr → Prop} {H : Hp} {xs : List V} {ds : List D} (h : RpA K A H xs ds) (lo hi : Option Int) : RpA K A H (L2.cutV xs lo hi) (cutD ds lo hi) := by
  unfold L2.cutV cutD
  rw [h.length]
  exact (h.drop _).take _
def rSlD (K : PySem.W.Frag) : V → Option Int → Option Int → Hp → VK → Prop := fun x lo hi H Q => ∃ A a d, Trk A H ∧ RpB K A H x a ∧ gSl a lo hi = some d ∧ ∀ v H', Same H H' → Rp K A H' v d → Fr K A H H' v d → Q v H'
theorem cutD_whole {l : List D} {lo hi : Option Int} (h : HT.sIx l.length 0 lo = 0 ∧ HT.sIx l.length l.length hi = l.length) : cutD l lo hi = l := by
  unfold cutD
  rw [h.1, h.2, List.drop_zero, Nat.sub_zero, List.take_length]
theorem sl_d : SlR X (rSlD X.K) := by
  intro pins s σ H x v vl vu lo hi sl Q I rx hs pl pu ⟨A, a, d, t, pa, e, q⟩
  cases a with
  | lst l =>
    cases e
    obtain ⟨p, xs, rfl, h1, r1⟩ := pa.lst
    exact sl_list pins s σ H _ v vl vu lo hi sl Q I rx hs pl pu ⟨p, xs, rfl, SqL.of h1, fun r hr => q _ _ (same_upd hr) (new_lst t (cut_rp r1 lo hi) hr) (new_fr t (cut_rp r1 lo hi) hr)⟩
  | tup l =>
    cases e
    obtain ⟨p, xs, rfl, h1, r1⟩ := pa.tup
    have hl := r1.length
    refine sl_tupA pins s σ H _ v vl vu lo hi sl Q I rx hs pl pu ⟨p, xs, rfl, h1.sq, fun w => ?_, fun _ r hr => q _ _ (same_upd hr) (new_tup t (cut_rp r1 lo hi) hr) (no_fr fun _ => nofun)⟩
    rw [hl] at w
    rw [cutD_whole w] at q
    exact q _ _ (Same.refl _) (.tup h1 r1) (no_fr fun _ => nofun)
  | str z =>
    obtain ⟨hz, rfl⟩ := ite_d (x := .str (L2.cutS z lo hi)) e
    rw [pa.str] at rx
    exact sl_str pins s σ H _ v vl vu lo hi sl Q I rx hs pl pu ⟨z, rfl, hz, q _ H (Same.refl _) (.str _) (no_fr fun _ => nofun)⟩
  | _ => cases e
abbrev MP := En → R (Option Int)
def mNoP : MP := fun ρ => .ok none ρ
def asI : D → Option (Option Int)
  | .int i => some (some i)
  | _ => none
def mPart (m : ME) : MP := fun ρ => (m ρ).bind fun d ρ1 => ret (asI d) ρ1
def tP (K : PySem.W.Frag) (G : Gd) (O : List Nat) (W : WX) (m : MP) : TO := fun σ H Q => ∃ A ms ρ, RelS K G O A ms σ H ρ ∧ RPost K G O W A ms σ H (fun _ => Eq) Q (m ρ)
def DP (X : Cx) (G : Gd) (O : List Nat) (W : WX) (e : Option Expr) (m : MP) : Prop := PO X e (tP X.K G O W m)
theorem po_imp {e : Option Expr} {t t' : TO} (h : PO X e t) (w : ∀ σ H Q, t' σ H Q → t σ H Q) : PO X e t' := ⟨fun pins s σ H Q I q => h.run pins s σ H Q I (w σ H Q q)⟩
theorem dp_no : DP X G O W none mNoP := po_imp po_none fun σ H Q ⟨A, ms, ρ, R, q⟩ => q none H R Kp.refl rfl
theorem dp_e (h : DE X G O W e ma) : DP X G O W (some e) (mPart ma) := by
  refine po_imp (po_some h) fun σ H Q ⟨A, ms, ρ, R, q⟩ => ⟨A, ms, ρ, R, RPost.mono (RPost.bind q) ?_⟩
  rintro x H1 ⟨d, ρ1, R1, k1, r1, q1⟩
  obtain ⟨z, hz, q2⟩ := rp_of (rel := fun _ => @Eq (Option Int)) R1 q1
  cases d with
  | int i =>
    cases hz
    cases r1
    exact ⟨i, rfl, q2 _ H1 (Same.refl _) rfl⟩
  | _ => cases hz
def mSl (b : Bx) (l h : MP) : ME := fun ρ => (evB b ρ).bind fun x ρ1 => (l ρ1).bind fun lo ρ2 => (h ρ2).bind fun hi ρ3 => ret ((rdB b x ρ3).bind fun x' => gSl x' lo hi) ρ3
theorem fpost_of {K : PySem.W.Frag} {A : Addr → Prop} {ms : Nat → Option Addr} {σ : L2.St} {H H1 : Hp} {Q : VK} {ρ1 : En} {d : D} {v : V} {H2 : Hp} (h : FPost K G O W A ms σ H Q (.ok d ρ1)) (R : RelS K G O A ms σ H1 ρ1) (k : Kp O ms H H1) (s : Same H1 H2) (hl : ∃ l, d = .lst l) (f : Fr K A H1 H2 v d) : Q v H2 := by
  obtain ⟨l, rfl⟩ := hl
  obtain ⟨p, rfl, hp, ow⟩ := f l rfl
  obtain ⟨o, e⟩ := ow.there
  exact h p H2 (R.same s) (R.grow hp s e) (k.trans (Kp.same s)) (Kp.none R k hp) ow

theorem FPost.from {K : PySem.W.Frag} {A : Addr → Prop} {ms : Nat → Option Addr} {σ : L2.St} {H H1 : Hp} {ρ1 : En} {Q : VK} {r : R D} (R : RelS K G O A ms σ H1 ρ1) (k : Kp O ms H H1) (h : FPost K G O W A ms σ H Q r) : FPost K G O W A ms σ H1 Q r := by
  cases r with
  | ok d ρ => exact fun p H' R1 R2 k' hp ow => h p H' R1 R2 (k.trans k') (Kp.none R k hp) ow
  | ex x ρ => exact fun dx H' R1 k' q => h dx H' R1 (k.trans k') q
  | bad => exact h
theorem FPost.bind {α β : Type} {K : PySem.W.Frag} {A : Addr → Prop} {ms : Nat → Option Addr} {σ : L2.St} {H : Hp} {Q : VK} {rel : Hp → β → α → Prop} {r : R α} {f : α → En → R D} (h : FPost K G O W A ms σ H Q (r.bind f)) :
    RPost K G O W A ms σ H rel (fun v H1 => ∃ d ρ1, RelS K G O A ms σ H1 ρ1 ∧ Kp O ms H H1 ∧ rel H1 v d ∧ FPost K G O W A ms σ H1 Q (f d ρ1)) r := by
  cases r with
  | ok d ρ => exact fun v H' R k' q => ⟨d, ρ, R, k', q, FPost.from R k' h⟩
  | ex x ρ => exact h
  | bad => exact h
def isL (d : D) : Option D := match d with
  | .lst l => some (.lst l)
  | _ => none
theorem isL_some {d z : D} (h : isL d = some z) : d = z ∧ ∃ l, d = .lst l := by
  cases d with
  | lst l => cases h; exact ⟨rfl, l, rfl⟩
  | _ => cases h
theorem fp_fin {K : PySem.W.Frag} {A : Addr → Prop} {ms : Nat → Option Addr} {σ : L2.St} {H1 H2 : Hp} {Q : VK} {ρ1 : En} {g : Option D} {d : D} {v : V} (h : FPost K G O W A ms σ H1 Q (ret (g.bind isL) ρ1)) (hg : g = some d) (R : RelS K G O A ms σ H1 ρ1) (s : Same H1 H2) (f : Fr K A H1 H2 v d) : Q v H2 := by
  subst hg
  cases d with
  | lst l => exact fpost_of (d := .lst l) h R Kp.refl s ⟨l, rfl⟩ f
  | _ => exact h.elim
theorem fp_some {K : PySem.W.Frag} {A : Addr → Prop} {ms : Nat → Option Addr} {σ : L2.St} {H1 : Hp} {Q : VK} {ρ1 : En} {g : Option D} (h : FPost K G O W A ms σ H1 Q (ret (g.bind isL) ρ1)) : ∃ l, g = some (.lst l) := by
  cases g with
  | none => exact h.elim
  | some d => cases d with
    | lst l => exact ⟨l, rfl⟩
    | _ => exact h.elim
def mL (m : ME) : ME := fun ρ => (m ρ).bind fun d ρ1 => ret (isL d) ρ1
def mSlF (b : Bx) (l h : MP) : ME := fun ρ => (evB b ρ).bind fun x ρ1 => (l ρ1).bind fun lo ρ2 => (h ρ2).bind fun hi ρ3 => ret (((rdB b x ρ3).bind fun x' => gSl x' lo hi).bind isL) ρ3
variable {lo hi : Option Expr} {ml mh : MP} {p2 : Pos}
theorem sl_go {K : PySem.W.Frag} (hA : ∀ j, ba = .ow j → O.contains j = true) {σ : L2.St} {H : Hp} {Q : VK} (h : tE K G O W (mSl ba ml mh) σ H Q) : tSl (rSlD K) (tBx K G O W ba) (tP K G O W ml) (tP K G O W mh) σ H Q := by
  obtain ⟨A, ms, ρ, R, q⟩ := h
  have snd : ∀ (x : V) (d0 : D) (ρ1 : En) (H1 : Hp), RelS K G O A ms σ H1 ρ1 → (∀ ρ2 H2 d', RelS K G O A ms σ H2 ρ2 → Kp O ms H1 H2 → rdB ba d0 ρ2 = some d' → (∀ c fs, d' ≠ .obj c fs) → RpB K A H2 x d') →
      RPost K G O W A ms σ H1 (Rp K A) Q ((ml ρ1).bind fun lo ρ2 => (mh ρ2).bind fun hi ρ3 => ret ((rdB ba d0 ρ3).bind fun x' => gSl x' lo hi) ρ3) → tP K G O W ml σ H1 fun l H2 => tP K G O W mh σ H2 fun u H3 => rSlD K x l u H3 Q := by
    intro x d0 ρ1 H1 R1 hx q1
    refine ⟨A, ms, ρ1, R1, RPost.mono (RPost.bind q1) ?_⟩
    rintro l H2 ⟨lo, ρ2, R2', k2, rfl, q2⟩
    refine ⟨A, ms, ρ2, R2', RPost.mono (RPost.bind q2) ?_⟩
    rintro u H3 ⟨hi, ρ3, R3, k3, rfl, q3⟩
    obtain ⟨z, hz, q4⟩ := rp_of R3 q3
    cases hd : rdB ba d0 ρ3 with
    | none => rw [hd] at hz; cases hz
    | some d' =>
      rw [hd] at hz
      exact ⟨A, d', z, R3.trk, hx ρ3 H3 d' R3 (k2.trans k3) hd (fun c fs w => by subst w; cases hz), hz, fun v H' s r _ => q4 v H' s r⟩
  cases ba with
  | ex m =>
    refine ⟨A, ms, ρ, R, RPost.mono (RPost.bind q) ?_⟩
    rintro x H1 ⟨d, ρ1, R1, k1, r1, q1⟩
    exact snd x d ρ1 H1 R1 (fun ρ2 H2 d' R2' k2 e _ => by cases e; exact .of (r1.tr (R1.kt k2))) q1
  | ow j =>
    have q' : RPost K G O W A ms σ H (Rp K A) Q ((evB (.ow j) ρ).bind fun x ρ1 => (ml ρ1).bind fun lo ρ2 => (mh ρ2).bind fun hi ρ3 => ret ((rdB (.ow j) x ρ3).bind fun x' => gSl x' lo hi) ρ3) := q
    have e1 : evB (.ow j) ρ = (match getO ρ j with | some d => .ok d ρ | none => .bad) := rfl
    rw [e1] at q'
    cases hj : getO ρ j with
    | none => simp only [hj] at q'; exact q'.elim
    | some d =>
      simp only [hj] at q'
      obtain ⟨pj, h1, h2, h3⟩ := own_at R (hA j rfl) hj
      refine ⟨_, h2, snd _ d ρ H R (fun ρ2 H2 d' R2' k2 e n => ?_) q'⟩
      obtain ⟨pj', h1', h2', h3'⟩ := own_at R2' (hA j rfl) e
      rw [h1] at h1'
      cases h1'
      cases d' with
      | lst l => exact own_b h3'
      | obj c fs => exact absurd rfl (n c fs)
      | _ => cases h3'
theorem slF_go {K : PySem.W.Frag} (hA : ∀ j, ba = .ow j → O.contains j = true) {σ : L2.St} {H : Hp} {Q : VK} (h : tF K G O W (mSlF ba ml mh) σ H Q) : tSl (rSlD K) (tBx K G O W ba) (tP K G O W ml) (tP K G O W mh) σ H Q := by
  obtain ⟨A, ms, ρ, R, q⟩ := h
  have snd : ∀ (x : V) (d0 : D) (ρ1 : En) (H1 : Hp), RelS K G O A ms σ H1 ρ1 → (∀ ρ2 H2 d', RelS K G O A ms σ H2 ρ2 → Kp O ms H1 H2 → rdB ba d0 ρ2 = some d' → (∀ c fs, d' ≠ .obj c fs) → RpB K A H2 x d') →
      FPost K G O W A ms σ H1 Q ((ml ρ1).bind fun lo ρ2 => (mh ρ2).bind fun hi ρ3 => ret (((rdB ba d0 ρ3).bind fun x' => gSl x' lo hi).bind isL) ρ3) → tP K G O W ml σ H1 fun l H2 => tP K G O W mh σ H2 fun u H3 => rSlD K x l u H3 Q := by
    intro x d0 ρ1 H1 R1 hx q1
    refine ⟨A, ms, ρ1, R1, RPost.mono (FPost.bind q1) ?_⟩
    rintro l H2 ⟨lo, ρ2, R2', k2, rfl, q2⟩
    refine ⟨A, ms, ρ2, R2', RPost.mono (FPost.bind q2) ?_⟩
    rintro u H3 ⟨hi, ρ3, R3, k3, rfl, q3⟩
    obtain ⟨z, hz⟩ := fp_some q3
    cases hd : rdB ba d0 ρ3 with
    | none => rw [hd] at hz; cases hz
    | some d' =>
      have hz' := hz
      rw [hd] at hz'
      exact ⟨A, d', _, R3.trk, hx ρ3 H3 d' R3 (k2.trans k3) hd (fun c fs w => by subst w; cases hz'), hz', fun v H' s r f => fp_fin q3 hz R3 s f⟩
  cases ba with
  | ex m =>
    refine ⟨A, ms, ρ, R, RPost.mono (FPost.bind q) ?_⟩
    rintro x H1 ⟨d, ρ1, R1, k1, r1, q1⟩
    exact snd x d ρ1 H1 R1 (fun ρ2 H2 d' R2' k2 e _ => by cases e; exact .of (r1.tr (R1.kt k2))) q1
  | ow j =>
    have q' : FPost K G O W A ms σ H Q ((evB (.ow j) ρ).bind fun x ρ1 => (ml ρ1).bind fun lo ρ2 => (mh ρ2).bind fun hi ρ3 => ret (((rdB (.ow j) x ρ3).bind fun x' => gSl x' lo hi).bind isL) ρ3) := q
    have e1 : evB (.ow j) ρ = (match getO ρ j with | some d => .ok d ρ | none => .bad) := rfl
    rw [e1] at q'
    cases hj : getO ρ j with
    | none => simp only [hj] at q'; exact q'.elim
    | some d =>
      simp only [hj] at q'
      obtain ⟨pj, h1, h2, h3⟩ := own_at R (hA j rfl) hj
      refine ⟨_, h2, snd _ d ρ H R (fun ρ2 H2 d' R2' k2 e n => ?_) q'⟩
      obtain ⟨pj', h1', h2', h3'⟩ := own_at R2' (hA j rfl) e
      rw [h1] at h1'
      cases h1'
      cases d' with
      | lst l => exact own_b h3'
      | obj c fs => exact absurd rfl (n c fs)
      | _ => cases h3'
theorem de_sl (ha : DB X G O W a ba) (hl : DP X G O W lo ml) (hh : DP X G O W hi mh) : DE X G O W (.Subscript a (.Slice lo hi none p2) pos) (mSl ba ml mh) := pe_imp (pe_slice sl_d ha.pe hl hh) fun _ _ _ h => sl_go ha.own h
theorem df_sl (ha : DB X G O W a ba) (hl : DP X G O W lo ml) (hh : DP X G O W hi mh) : DF X G O W (.Subscript a (.Slice lo hi none p2) pos) (mSlF ba ml mh) := pe_imp (pe_slice sl_d ha.pe hl hh) fun _ _ _ h => slF_go ha.own h
def m2F (g : D → D → Option D) (a b : ME) : ME := fun ρ => (a ρ).bind fun x ρ1 => (b ρ1).bind fun y ρ2 => ret ((g x y).bind isL) ρ2
theorem df_bin {op : Operator} {g : D → D → Option D} (ho : OpR X (binaryOp op) (rF2 X.K g)) (ha : DE X G O W a ma) (hb : DE X G O W b mb) : DF X G O W (.BinOp a op b pos) (m2F g ma mb) := by
  refine pe_imp (pe_op ho ha hb) fun σ H Q ⟨A, ms, ρ, R, q⟩ => ⟨A, ms, ρ, R, RPost.mono (FPost.bind q) ?_⟩
  rintro x H1 ⟨d, ρ1, R1, k1, r1, q1⟩
  refine ⟨A, ms, ρ1, R1, RPost.mono (FPost.bind q1) ?_⟩
  rintro y H2 ⟨d2, ρ2, R2', k2, r2, q2⟩
  obtain ⟨z, hz⟩ := fp_some q2
  exact ⟨A, d, d2, _, R2'.trk, .of (r1.tr (R1.kt k2)), .of r2, hz, fun v H' s r f => fp_fin q2 hz R2' s f⟩

theorem cN_go {g : List D → Option D} {K : PySem.W.Frag} {σ : L2.St} {H : Hp} {Q : VK} (h : tE K G O W (mN g mr) σ H Q) : tCB (rDN K g) (tA K G O W mr) σ H Q := by
  obtain ⟨A, ms, ρ, R, q⟩ := h
  refine ⟨A, ms, ρ, R, RPost.mono (RPost.bind q) ?_⟩
  rintro vs H1 ⟨ds, ρ1, R1, k1, r1, q1⟩
  obtain ⟨z, hz, q2⟩ := rp_of R1 q1
  exact ⟨A, ds, z, R1.trk, .inl r1, hz, q2⟩
def mNF (g : List D → Option D) (a : MA) : ME := fun ρ => (a ρ).bind fun xs ρ1 => ret ((g xs).bind isL) ρ1
theorem cF_go {g : List D → Option D} {K : PySem.W.Frag} {σ : L2.St} {H : Hp} {Q : VK} (h : tF K G O W (mNF g mr) σ H Q) : tCB (rFN K g) (tA K G O W mr) σ H Q := by
  obtain ⟨A, ms, ρ, R, q⟩ := h
  refine ⟨A, ms, ρ, R, RPost.mono (FPost.bind q) ?_⟩
  rintro vs H1 ⟨ds, ρ1, R1, k1, r1, q1⟩
  obtain ⟨z, hz⟩ := fp_some q1
  exact ⟨A, ds, _, R1.trk, .inl r1, hz, fun v H' s r f => fp_fin q1 hz R1 s f⟩
theorem rFN.weak {f : Value} {g : List D → Option D} (h : CallR X f (rFN X.K g)) : CallR X f (rDN X.K g) := fun pins s σ H xs us Q I r ⟨A, ds, d, t, p, e, q⟩ => h pins s σ H xs us Q I r ⟨A, ds, d, t, p, e, fun v H' s r _ => q v H' s r⟩
def mNO (g : List D → Option D) (j : Nat) : ME := fun ρ => match getO ρ j with
  | some (.lst l) => ret (g [.lst l]) ρ
  | _ => .bad
def mNOF (g : List D → Option D) (j : Nat) : ME := fun ρ => match getO ρ j with
  | some (.lst l) => ret ((g [.lst l]).bind isL) ρ
  | _ => .bad
def tOwn1 (j : Nat) : TA := tCons (tVar j) tNil
theorem cNO_go {g : List D → Option D} {K : PySem.W.Frag} {j : Nat} (hj : O.contains j = true) {σ : L2.St} {H : Hp} {Q : VK} (h : tE K G O W (mNO g j) σ H Q) : tCB (rDN K g) (tOwn1 j) σ H Q := by
  obtain ⟨A, ms, ρ, R, q⟩ := h
  unfold mNO at q
  split at q
  · rename_i l hl
    obtain ⟨pj, h1, h2, h3⟩ := own_at R hj hl
    obtain ⟨z, hz, q2⟩ := rp_of R q
    exact ⟨_, h2, A, _, z, R.trk, .inr ⟨_, _, rfl, rfl, own_b h3⟩, hz, q2⟩
  · exact q.elim
theorem cNOF_go {g : List D → Option D} {K : PySem.W.Frag} {j : Nat} (hj : O.contains j = true) {σ : L2.St} {H : Hp} {Q : VK} (h : tF K G O W (mNOF g j) σ H Q) : tCB (rFN K g) (tOwn1 j) σ H Q := by
  obtain ⟨A, ms, ρ, R, q⟩ := h
  unfold mNOF at q
  split at q
  · rename_i l hl
    obtain ⟨pj, h1, h2, h3⟩ := own_at R hj hl
    obtain ⟨z, hz⟩ := fp_some q
    exact ⟨_, h2, A, _, _, R.trk, .inr ⟨_, _, rfl, rfl, own_b h3⟩, hz, fun v H' s r f => fp_fin q hz R s f⟩
  · exact q.elim
section
variable {id T : String} {g : List D → Option D} {j : Nat}
theorem de_b (hv : bootBuiltins x = some (.builtin id)) (hc : CallR X (.builtin id) (rDN X.K g)) (hg : Gl X x) (hm : X.mg x = none) (ha : DA X G O W (e :: es) mr) (hn : x ≠ "__name__" := by decide) (hdb : (x == ("__debug__" : Str)) = false := by decide)
    (he : starEach (e :: es) X.env = (false, eval e X.env) :: starEach es X.env := by rfl) (hpl : (backTo pos (starEach es X.env)).any (·.1) = false := by rfl) : DE X G O W (.Call (.Name x p) (e :: es) [] pos) (mN g mr) :=
  pe_imp (pe_callB hc hg hm hv ha hn hdb he hpl) fun _ _ _ h => cN_go h
theorem de_ty (hv : bootBuiltins x = some (.type T)) (hc : CallR X (.type T) (rDN X.K g)) (hg : Gl X x) (hm : X.mg x = none) (ha : DA X G O W (e :: es) mr) (hn : x ≠ "__name__" := by decide) (hdb : (x == ("__debug__" : Str)) = false := by decide)
    (he : starEach (e :: es) X.env = (false, eval e X.env) :: starEach es X.env := by rfl) (hpl : (backTo pos (starEach es X.env)).any (·.1) = false := by rfl) : DE X G O W (.Call (.Name x p) (e :: es) [] pos) (mN g mr) :=
  pe_imp (pe_callTy hc hg hm hv ha hn hdb he hpl) fun _ _ _ h => cN_go h
theorem df_b (hv : bootBuiltins x = some (.builtin id)) (hc : CallR X (.builtin id) (rFN X.K g)) (hg : Gl X x) (hm : X.mg x = none) (ha : DA X G O W (e :: es) mr) (hn : x ≠ "__name__" := by decide) (hdb : (x == ("__debug__" : Str)) = false := by decide)
    (he : starEach (e :: es) X.env = (false, eval e X.env) :: starEach es X.env := by rfl) (hpl : (backTo pos (starEach es X.env)).any (·.1) = false := by rfl) : DF X G O W (.Call (.Name x p) (e :: es) [] pos) (mNF g mr) :=
  pe_imp (pe_callB hc hg hm hv ha hn hdb he hpl) fun _ _ _ h => cF_go h
theorem df_ty (hv : bootBuiltins x = some (.type T)) (hc : CallR X (.type T) (rFN X.K g)) (hg : Gl X x) (hm : X.mg x = none) (ha : DA X G O W (e :: es) mr) (hn : x ≠ "__name__" := by decide) (hdb : (x == ("__debug__" : Str)) = false := by decide)
    (he : starEach (e :: es) X.env = (false, eval e X.env) :: starEach es X.env := by rfl) (hpl : (backTo pos (starEach es X.env)).any (·.1) = false := by rfl) : DF X G O W (.Call (.Name x p) (e :: es) [] pos) (mNF g mr) :=
  pe_imp (pe_callTy hc hg hm hv ha hn hdb he hpl) fun _ _ _ h => cF_go h
theorem pa_own (hy : PE X e (tVar j)) (hs : starEach [e] X.env = (false, eval e X.env) :: starEach [] X.env := by rfl) : PA X [e] (tOwn1 j) := pa_cons hy pa_nil hs
theorem de_bO (hj : O.contains j = true) (hv : bootBuiltins x = some (.builtin id)) (hc : CallR X (.builtin id) (rDN X.K g)) (hg : Gl X x) (hm : X.mg x = none) (hy : PE X e (tVar j)) (hn : x ≠ "__name__" := by decide) (hdb : (x == ("__debug__" : Str)) = false := by decide)
    (he : starEach [e] X.env = (false, eval e X.env) :: starEach [] X.env := by rfl) (hpl : (backTo pos (starEach [] X.env)).any (·.1) = false := by rfl) : DE X G O W (.Call (.Name x p) [e] [] pos) (mNO g j) :=
  pe_imp (pe_callB hc hg hm hv (pa_own hy he) hn hdb he hpl) fun _ _ _ h => cNO_go hj h
theorem de_tyO (hj : O.contains j = true) (hv : bootBuiltins x = some (.type T)) (hc : CallR X (.type T) (rDN X.K g)) (hg : Gl X x) (hm : X.mg x = none) (hy : PE X e (tVar j)) (hn : x ≠ "__name__" := by decide) (hdb : (x == ("__debug__" : Str)) = false := by decide)
    (he : starEach [e] X.env = (false, eval e X.env) :: starEach [] X.env := by rfl) (hpl : (backTo pos (starEach [] X.env)).any (·.1) = false := by rfl) : DE X G O W (.Call (.Name x p) [e] [] pos) (mNO g j) :=
  pe_imp (pe_callTy hc hg hm hv (pa_own hy he) hn hdb he hpl) fun _ _ _ h => cNO_go hj h
theorem df_bO (hj : O.contains j = true) (hv : bootBuiltins x = some (.builtin id)) (hc : CallR X (.builtin id) (rFN X.K g)) (hg : Gl X x) (hm : X.mg x = none) (hy : PE X e (tVar j)) (hn : x ≠ "__name__" := by decide) (hdb : (x == ("__debug__" : Str)) = false := by decide)
    (he : starEach [e] X.env = (false, eval e X.env) :: starEach [] X.env := by rfl) (hpl : (backTo pos (starEach [] X.env)).any (·.1) = false := by rfl) : DF X G O W (.Call (.Name x p) [e] [] pos) (mNOF g j) :=
  pe_imp (pe_callB hc hg hm hv (pa_own hy he) hn hdb he hpl) fun _ _ _ h => cNOF_go hj h
theorem df_tyO (hj : O.contains j = true) (hv : bootBuiltins x = some (.type T)) (hc : CallR X (.type T) (rFN X.K g)) (hg : Gl X x) (hm : X.mg x = none) (hy : PE X e (tVar j)) (hn : x ≠ "__name__" := by decide) (hdb : (x == ("__debug__" : Str)) = false := by decide)
    (he : starEach [e] X.env = (false, eval e X.env) :: starEach [] X.env := by rfl) (hpl : (backTo pos (starEach [] X.env)).any (·.1) = false := by rfl) : DF X G O W (.Call (.Name x p) [e] [] pos) (mNOF g j) :=
  pe_imp (pe_callTy hc hg hm hv (pa_own hy he) hn hdb he hpl) fun _ _ _ h => cNOF_go hj h
end
end
end DL
namespace DL
open L2 PySem PySem.Spec PyProof.Rows

def asInts : List D → Option (List Int)
  | [] => some []
  | .int i :: r => (asInts r).map (i :: ·)
  | _ :: _ => none
def asBls : List D → Option (List Bool)
  | [] => some []
  | .bl i :: r => (asBls r).map (i :: ·)
  | _ :: _ => none
def asStrs : List D → Option (List Str)
  | [] => some []
  | .str i :: r => (asStrs r).map (i :: ·)
  | _ :: _ => none
theorem asInts_eq : ∀ {l : List D} {ns : List Int}, asInts l = some ns → l = ns.map D.int
  | [], _, e => by cases e; rfl
  | .int i :: r, _, e => by
    obtain ⟨k, hk, rfl⟩ := map_some (show (asInts r).map (i :: ·) = some _ from e)
    rw [asInts_eq hk]; rfl
  | .non :: _, _, e => by cases e
  | .bl _ :: _, _, e => by cases e
  | .str _ :: _, _, e => by cases e
  | .tup _ :: _, _, e => by cases e
  | .lst _ :: _, _, e => by cases e
  | .scr _ :: _, _, e => by cases e
  | .fn _ :: _, _, e => by cases e
  | .obj _ _ :: _, _, e => by cases e
  | .exn _ _ :: _, _, e => by cases e
theorem asBls_eq : ∀ {l : List D} {ns : List Bool}, asBls l = some ns → l = ns.map D.bl
  | [], _, e => by cases e; rfl
  | .bl i :: r, _, e => by
    obtain ⟨k, hk, rfl⟩ := map_some (show (asBls r).map (i :: ·) = some _ from e)
    rw [asBls_eq hk]; rfl
  | .non :: _, _, e => by cases e
  | .int _ :: _, _, e => by cases e
  | .str _ :: _, _, e => by cases e
  | .tup _ :: _, _, e => by cases e
  | .lst _ :: _, _, e => by cases e
  | .scr _ :: _, _, e => by cases e
  | .fn _ :: _, _, e => by cases e
  | .obj _ _ :: _, _, e => by cases e
  | .exn _ _ :: _, _, e => by cases e
theorem asStrs_eq : ∀ {l : List D} {ns : List Str}, asStrs l = some ns → l = ns.map D.str
  | [], _, e => by cases e; rfl
  | .str i :: r, _, e => by
    obtain ⟨k, hk, rfl⟩ := map_some (show (asStrs r).map (i :: ·) = some _ from e)
    rw [asStrs_eq hk]; rfl
  | .non :: _, _, e => by cases e
  | .int _ :: _, _, e => by cases e
  | .bl _ :: _, _, e => by cases e
  | .tup _ :: _, _, e => by cases e
  | .lst _ :: _, _, e => by cases e
  | .scr _ :: _, _, e => by cases e
  | .fn _ :: _, _, e => by cases e
  | .obj _ _ :: _, _, e => by cases e
  | .exn _ _ :: _, _, e => by cases e
theorem asInts_map (ns : List Int) : asInts (ns.map D.int) = some ns := by
  induction ns with
  | nil => rfl
  | cons n ns ih => rw [List.map_cons]; unfold asInts; rw [ih]; rfl
theorem asBls_map (ns : List Bool) : asBls (ns.map D.bl) = some ns := by
  induction ns with
  | nil => rfl
  | cons n ns ih => rw [List.map_cons]; unfold asBls; rw [ih]; rfl
theorem asStrs_map (ns : List Str) : asStrs (ns.map D.str) = some ns := by
  induction ns with
  | nil => rfl
  | cons n ns ih => rw [List.map_cons]; unfold asStrs; rw [ih]; rfl
def gLen : List D → Option D
  | [.lst l] => some (.int l.length)
  | [.tup l] => some (.int l.length)
  | [.scr l] => some (.int l.length)
  | [.str z] => if z.length ≤ sizeLine then some (.int z.length) else none
  | _ => none
def gAbs : List D → Option D
  | [.int i] => some (.int (if i < 0 then -i else i))
  | _ => none
def gInt : List D → Option D
  | [.int i] => some (.int i)
  | [.bl k] => some (.int (if k then 1 else 0))
  | [.str a] => if a.length ≤ 640 then (PySem.intText? a).map D.int else none
  | _ => none
def shownD (d : D) : Option Str := match d.py with
  | some x => if x.showable = true ∧ x.shown.length ≤ sizeLine ∧ x.depth ≤ 60 then some x.shown else none
  | none => none
def gRepr : List D → Option D
  | [d] => (shownD d).map D.str
  | _ => none
def gStr : List D → Option D
  | [.str a] => some (.str a)
  | [.int i] => if i.natAbs.log2 < 1920 then some (.str (toString i)) else none
  | [.lst l] => (shownD (.lst l)).map D.str
  | [.tup l] => (shownD (.tup l)).map D.str
  | _ => none
def gAll : List D → Option D
  | [.lst l] => (asBls l).map fun bs => .bl (bs.all id)
  | _ => none
def gAny : List D → Option D
  | [.lst l] => (asBls l).map fun bs => .bl (bs.any id)
  | _ => none
def gSum : List D → Option D
  | [.lst l] => (asInts l).map fun ns => .int ns.sum
  | _ => none
def maxL : List Int → Option Int
  | [] => none
  | n :: r => some (r.foldl max n)
def minL : List Int → Option Int
  | [] => none
  | n :: r => some (r.foldl min n)
def gMax : List D → Option D
  | [.lst l] => ((asInts l).bind maxL).map D.int
  | [.int i, .int j] => some (.int (if j > i then j else i))
  | _ => none
def gMin : List D → Option D
  | [.lst l] => ((asInts l).bind minL).map D.int
  | [.int i, .int j] => some (.int (if j < i then j else i))
  | _ => none
def gList : List D → Option D
  | [.lst l] => some (.lst l)
  | [.tup l] => some (.lst l)
  | [.scr l] => some (.lst l)
  | _ => none
def gTuple : List D → Option D
  | [.lst l] => some (.tup l)
  | [.scr l] => some (.tup l)
  | [.tup l] => some (.tup l)
  | _ => none
theorem one_arg {K : PySem.W.Frag} {A : Addr → Prop} {H : Hp} {xs : List V} {a : D} (h : RpA K A H xs [a] ∨ ∃ v c, xs = [v] ∧ [a] = [c] ∧ RpB K A H v c) : ∃ v, xs = [v] ∧ RpB K A H v a := by
  rcases h with h | ⟨v, c, rfl, e, h⟩
  · cases h with
    | cons h t => cases t; exact ⟨_, rfl, .of h⟩
  · cases e; exact ⟨_, rfl, h⟩
theorem two_args {K : PySem.W.Frag} {A : Addr → Prop} {H : Hp} {xs : List V} {a b : D} (h : RpA K A H xs [a, b] ∨ ∃ v c, xs = [v] ∧ [a, b] = [c] ∧ RpB K A H v c) : ∃ v w, xs = [v, w] ∧ Rp K A H v a ∧ Rp K A H w b := by
  rcases h with h | ⟨v, c, rfl, e, h⟩
  · cases h with
    | cons h t => cases t with
      | cons h' t => cases t; exact ⟨_, _, rfl, h, h'⟩
  · cases e
section
variable {X : Cx}
theorem b_len : CallR X (.builtin "len") (rDN X.K gLen) := by
  intro pins s σ H xs us Q I r ⟨A, ds, d, t, p, e, q⟩
  unfold gLen at e
  split at e
  · rename_i l
    cases e
    obtain ⟨v, rfl, hv⟩ := one_arg p
    obtain ⟨a, ys, rfl, h, rr⟩ := hv.lst
    exact call_len_seq pins s σ H _ us Q I r ⟨a, ys, rfl, .inl (SqL.of h), by rw [rr.length]; exact q _ _ (Same.refl _) (.int _)⟩
  · rename_i l
    cases e
    obtain ⟨v, rfl, hv⟩ := one_arg p
    obtain ⟨a, ys, rfl, h, rr⟩ := hv.tup
    exact call_len_seq pins s σ H _ us Q I r ⟨a, ys, rfl, .inr h.sq, by rw [rr.length]; exact q _ _ (Same.refl _) (.int _)⟩
  · rename_i l
    cases e
    obtain ⟨v, rfl, hv⟩ := one_arg p
    obtain ⟨a, ys, rfl, h, rr⟩ := hv.scr
    exact call_len_seq pins s σ H _ us Q I r ⟨a, ys, rfl, .inl h.sq, by rw [rr.length]; exact q _ _ (Same.refl _) (.int _)⟩
  · rename_i z
    obtain ⟨hz, rfl⟩ := ite_d (x := .int z.length) e
    obtain ⟨v, rfl, hv⟩ := one_arg p
    rw [hv.str] at r
    exact call_len_str pins s σ H _ us Q I r ⟨z, rfl, hz, q _ _ (Same.refl _) (.int _)⟩
  · cases e
theorem b_abs : CallR X (.builtin "abs") (rDN X.K gAbs) := by
  intro pins s σ H xs us Q I r ⟨A, ds, d, t, p, e, q⟩
  unfold gAbs at e
  split at e
  · rename_i i
    cases e
    obtain ⟨v, rfl, hv⟩ := one_arg p
    rw [hv.int] at r
    exact call_abs pins s σ H _ us Q I r ⟨i, rfl, q _ _ (Same.refl _) (.int _)⟩
  · cases e
theorem b_int : CallR X (.type "int") (rDN X.K gInt) := by
  intro pins s σ H xs us Q I r ⟨A, ds, d, t, p, e, q⟩
  unfold gInt at e
  split at e
  · rename_i i
    cases e
    obtain ⟨v, rfl, hv⟩ := one_arg p
    rw [hv.int] at r
    exact call_int1 pins s σ H _ us Q I r (.inl ⟨i, rfl, q _ _ (Same.refl _) (.int _)⟩)
  · rename_i i
    cases e
    obtain ⟨v, rfl, hv⟩ := one_arg p
    rw [hv.bl] at r
    exact call_int1 pins s σ H _ us Q I r (.inr ⟨i, rfl, q _ _ (Same.refl _) (.int _)⟩)
  · rename_i a
    split at e
    · rename_i hz
      obtain ⟨n, hn, rfl⟩ := map_some e
      obtain ⟨v, rfl, hv⟩ := one_arg p
      rw [hv.str] at r
      exact call_int_str pins s σ H _ us Q I r ⟨a, n, rfl, hn, hz, q _ _ (Same.refl _) (.int _)⟩
    · cases e
  · cases e
mutual
theorem py_noDict : ∀ {d : D} {x : PyData}, d.py = some x → x.hasDict = false
  | .non, _, e => by cases e; simp only [PyData.hasDict]
  | .bl _, _, e => by cases e; simp only [PyData.hasDict]
  | .int _, _, e => by cases e; simp only [PyData.hasDict]
  | .str _, _, e => by cases e; simp only [PyData.hasDict]
  | .tup ds, _, e => by
    unfold D.py at e
    cases hp : pyAll ds with
    | none => rw [hp] at e; cases e
    | some ys => rw [hp] at e; cases e; simp only [PyData.hasDict]; exact pyAll_noDict hp
  | .lst ds, _, e => by
    unfold D.py at e
    cases hp : pyAll ds with
    | none => rw [hp] at e; cases e
    | some ys => rw [hp] at e; cases e; simp only [PyData.hasDict]; exact pyAll_noDict hp
  | .scr _, _, e => by unfold D.py at e; cases e
  | .fn _, _, e => by unfold D.py at e; cases e
  | .obj _ _, _, e => by unfold D.py at e; cases e
  | .exn _ _, _, e => by unfold D.py at e; cases e
theorem pyAll_noDict : ∀ {d : List D} {x : List PyData}, pyAll d = some x → PyData.hasDictAll x = false
  | [], _, e => by cases e; simp only [PyData.hasDictAll]
  | d :: ds, _, e => by
    unfold pyAll at e
    cases h1 : d.py with
    | none => rw [h1] at e; cases e
    | some y =>
      rw [h1] at e
      cases h2 : pyAll ds with
      | none => rw [h2] at e; cases e
      | some ys => rw [h2] at e; cases e; simp only [PyData.hasDictAll, py_noDict h1, pyAll_noDict h2, Bool.or_self]
end
theorem shownD_some {d : D} {z : Str} (e : shownD d = some z) : ∃ x, d.py = some x ∧ x.showable = true ∧ x.shown.length ≤ sizeLine ∧ x.depth ≤ 60 ∧ z = x.shown := by
  unfold shownD at e
  split at e
  · rename_i x hx
    split at e
    · rename_i h
      cases e
      exact ⟨x, hx, h.1, h.2.1, h.2.2, rfl⟩
    · cases e
  · cases e
theorem b_repr (hg : X.A.guards = some []) (hu : X.A.units + 64 < cLine) : CallR X (.builtin "repr") (rDN X.K gRepr) := by
  intro pins s σ H xs us Q I r ⟨A, ds, d, t, p, e, q⟩
  unfold gRepr at e
  split at e
  · rename_i c
    obtain ⟨z, hz, rfl⟩ := map_some e
    obtain ⟨v, rfl, hv⟩ := one_arg p
    obtain ⟨x, hx, h1, h2, h3, rfl⟩ := shownD_some hz
    have dp := hv.dp hx
    obtain ⟨u, rfl, ru⟩ := vals1 r
    have fin : ∀ h' tk u', (∀ b o, s.heap.get? b = some o → h'.get? b = some o) → EP X pins σ Q (.str x.shown u') { s with heap := h', toks := tk } := fun h' tk u' hk => ⟨.str x.shown, H, I.kept hk, ⟨_, rfl⟩, q _ _ (Same.refl _) (.str _)⟩
    have nd := py_noDict hx
    obtain ⟨as, rd⟩ := Dp.reads I x v u dp ru
    cases rd with
    | none =>
      refine PySem.P.repr_of_none ?_
      exact ⟨.str _, H, I.tok _, ⟨_, rfl⟩, q _ _ (Same.refl _) (.str _)⟩
    | bool b =>
      refine PySem.P.repr_of_bool ?_
      refine ⟨.str _, H, I.tok _, ⟨_, rfl⟩, ?_⟩
      have := q _ H (Same.refl _) (.str _)
      simpa [PyData.shown] using this
    | int i t =>
      refine PySem.P.repr_of_int (by simpa [PyData.showable] using h1) ?_
      refine ⟨.str _, H, I.tok _, ⟨_, rfl⟩, ?_⟩
      have := q _ H (Same.refl _) (.str _)
      simpa [PyData.shown] using this
    | str y t =>
      refine PySem.P.repr_of_str (Q := EP X pins σ Q) ?_ (by simpa [PyData.shown] using h2)
      refine ⟨.str _, H, I.tok _, ⟨_, rfl⟩, ?_⟩
      have := q _ H (Same.refl _) (.str _)
      simpa [PyData.shown] using this
    | list a1 a2 a3 a4 =>
      refine repr_of_reads' (h₀ := s.heap) (Reads.list a1 a2 a3 a4) h1 (PyData.noDict_hsm nd) hg (by omega) (fun _ _ z => z) (fun h' u' tk hk => fin h' tk u' hk) h2
    | tuple a1 a2 a3 a4 =>
      refine repr_of_reads' (h₀ := s.heap) (Reads.tuple a1 a2 a3 a4) h1 (PyData.noDict_hsm nd) hg (by omega) (fun _ _ z => z) (fun h' u' tk hk => fin h' tk u' hk) h2
    | dict => simp [PyData.hasDict] at nd
  · cases e
theorem str_seq (hg : X.A.guards = some []) (hu : X.A.units + 64 < cLine) {pins : List (Addr × Obj)} {s : Shared} {σ : L2.St} {H : Hp} {us : List Value} {Q : VK} {A : Addr → Prop} {v : V} {c : D} {z : Str} (I : Inv X pins σ H s) (r : Vals [v] us) (hv : RpB X.K A H v c) (hc : (∃ l, c = .lst l) ∨ ∃ l, c = .tup l)
    (hz : shownD c = some z) (q : ∀ v H', Same H H' → Rp X.K A H' v (.str z) → Q v H') : wpAny (model X.prog X.w) X.A (call (.type "str") us) (EP X pins σ Q) X.xe s := by
  obtain ⟨x, hx, h1, h2, h3, rfl⟩ := shownD_some hz
  have dp := hv.dp hx
  obtain ⟨u, rfl, ru⟩ := vals1 r
  have fin : ∀ h' tk u', (∀ b o, s.heap.get? b = some o → h'.get? b = some o) → EP X pins σ Q (.str x.shown u') { s with heap := h', toks := tk } := fun h' tk u' hk => ⟨.str x.shown, H, I.kept hk, ⟨_, rfl⟩, q _ _ (Same.refl _) (.str _)⟩
  have nd := py_noDict hx
  obtain ⟨as, rd⟩ := Dp.reads I x v u dp ru
  have ok : (∃ l, x = .list l) ∨ ∃ l, x = .tuple l := by
    rcases hc with ⟨l, rfl⟩ | ⟨l, rfl⟩
    · unfold D.py at hx
      obtain ⟨k, _, rfl⟩ := map_some hx
      exact .inl ⟨_, rfl⟩
    · unfold D.py at hx
      obtain ⟨k, _, rfl⟩ := map_some hx
      exact .inr ⟨_, rfl⟩
  cases rd with
  | list a1 a2 a3 a4 => exact str_of_reads (h₀ := s.heap) (Reads.list a1 a2 a3 a4) h1 (PyData.noDict_hsm nd) hg (by omega) (fun _ _ z => z) (fun h' u' tk hk => fin h' tk u' hk) h2
  | tuple a1 a2 a3 a4 => exact str_of_reads (h₀ := s.heap) (Reads.tuple a1 a2 a3 a4) h1 (PyData.noDict_hsm nd) hg (by omega) (fun _ _ z => z) (fun h' u' tk hk => fin h' tk u' hk) h2
  | _ =>
    rcases ok with ⟨l, ok⟩ | ⟨l, ok⟩ <;> cases ok
theorem b_str (hg : X.A.guards = some []) (hu : X.A.units + 64 < cLine) : CallR X (.type "str") (rDN X.K gStr) := by
  intro pins s σ H xs us Q I r ⟨A, ds, d, t, p, e, q⟩
  unfold gStr at e
  split at e
  · rename_i a
    cases e
    obtain ⟨v, rfl, hv⟩ := one_arg p
    rw [hv.str] at r
    exact SkE.call_str_str pins s σ H _ us Q I r ⟨a, rfl, q _ _ (Same.refl _) (.str _)⟩
  · rename_i i
    obtain ⟨hz, rfl⟩ := ite_d (x := .str (toString i)) e
    obtain ⟨v, rfl, hv⟩ := one_arg p
    rw [hv.int] at r
    exact call_str_int pins s σ H _ us Q I r ⟨i, rfl, hz, q _ _ (Same.refl _) (.str _)⟩
  · rename_i l
    obtain ⟨z, hz, rfl⟩ := map_some e
    obtain ⟨v, rfl, hv⟩ := one_arg p
    exact str_seq hg hu I r hv (.inl ⟨l, rfl⟩) hz q
  · rename_i l
    obtain ⟨z, hz, rfl⟩ := map_some e
    obtain ⟨v, rfl, hv⟩ := one_arg p
    exact str_seq hg hu I r hv (.inr ⟨l, rfl⟩) hz q
  · cases e
theorem b_all (hc : X.calm = true) : CallR X (.builtin "all") (rDN X.K gAll) := by
  intro pins s σ H xs us Q I r ⟨A, ds, d, t, p, e, q⟩
  unfold gAll at e
  split at e
  · rename_i l
    obtain ⟨bs, hb, rfl⟩ := map_some e
    obtain ⟨v, rfl, hv⟩ := one_arg p
    obtain ⟨a, ys, rfl, h, rr⟩ := hv.lst
    rw [asBls_eq hb] at rr
    rw [rr.bls] at h
    exact cr_all hc pins s σ H _ us Q I r ⟨a, bs, rfl, SqL.of h, q _ _ (Same.refl _) (.bl _)⟩
  · cases e
theorem b_any (hc : X.calm = true) : CallR X (.builtin "any") (rDN X.K gAny) := by
  intro pins s σ H xs us Q I r ⟨A, ds, d, t, p, e, q⟩
  unfold gAny at e
  split at e
  · rename_i l
    obtain ⟨bs, hb, rfl⟩ := map_some e
    obtain ⟨v, rfl, hv⟩ := one_arg p
    obtain ⟨a, ys, rfl, h, rr⟩ := hv.lst
    rw [asBls_eq hb] at rr
    rw [rr.bls] at h
    exact cr_any hc pins s σ H _ us Q I r ⟨a, bs, rfl, SqL.of h, q _ _ (Same.refl _) (.bl _)⟩
  · cases e
theorem b_sum (hc : X.calm = true) : CallR X (.builtin "sum") (rDN X.K gSum) := by
  intro pins s σ H xs us Q I r ⟨A, ds, d, t, p, e, q⟩
  unfold gSum at e
  split at e
  · rename_i l
    obtain ⟨bs, hb, rfl⟩ := map_some e
    obtain ⟨v, rfl, hv⟩ := one_arg p
    obtain ⟨a, ys, rfl, h, rr⟩ := hv.lst
    rw [asInts_eq hb] at rr
    rw [rr.ints] at h
    exact cr_sum hc pins s σ H _ us Q I r ⟨a, bs, rfl, SqL.of h, q _ _ (Same.refl _) (.int _)⟩
  · cases e
theorem foldl_max {r : List Int} : ∀ {n : Int}, n ≤ r.foldl max n ∧ (∀ y ∈ r, y ≤ r.foldl max n) ∧ (r.foldl max n = n ∨ r.foldl max n ∈ r) := by
  induction r with
  | nil => intro n; exact ⟨Int.le_refl _, nofun, .inl rfl⟩
  | cons m r ih =>
    intro n
    rw [List.foldl_cons]
    obtain ⟨h1, h2, h3⟩ := ih (n := max n m)
    refine ⟨by omega, fun y hy => ?_, ?_⟩
    · rcases List.mem_cons.mp hy with z | z
      · omega
      · exact h2 y z
    · rcases h3 with z | z
      · rw [z]
        by_cases w : m ≤ n
        · exact .inl (by omega)
        · exact .inr (List.mem_cons.mpr (.inl (by omega)))
      · exact .inr (List.mem_cons_of_mem _ z)
theorem foldl_min {r : List Int} : ∀ {n : Int}, r.foldl min n ≤ n ∧ (∀ y ∈ r, r.foldl min n ≤ y) ∧ (r.foldl min n = n ∨ r.foldl min n ∈ r) := by
  induction r with
  | nil => intro n; exact ⟨Int.le_refl _, nofun, .inl rfl⟩
  | cons m r ih =>
    intro n
    rw [List.foldl_cons]
    obtain ⟨h1, h2, h3⟩ := ih (n := min n m)
    refine ⟨by omega, fun y hy => ?_, ?_⟩
    · rcases List.mem_cons.mp hy with z | z
      · omega
      · exact h2 y z
    · rcases h3 with z | z
      · rw [z]
        by_cases w : n ≤ m
        · exact .inl (by omega)
        · exact .inr (List.mem_cons.mpr (.inl (by omega)))
      · exact .inr (List.mem_cons_of_mem _ z)
theorem b_max (hc : X.calm = true) : CallR X (.builtin "max") (rDN X.K gMax) := by
  intro pins s σ H xs us Q I r ⟨A, ds, d, t, p, e, q⟩
  unfold gMax at e
  split at e
  · rename_i l
    obtain ⟨m, hb, rfl⟩ := map_some e
    cases hi : asInts l with
    | none => rw [hi] at hb; cases hb
    | some ns =>
      rw [hi] at hb
      have hb' : maxL ns = some m := hb
      obtain ⟨v, rfl, hv⟩ := one_arg p
      obtain ⟨a, ys, rfl, h, rr⟩ := hv.lst
      rw [asInts_eq hi] at rr
      rw [rr.ints] at h
      cases ns with
      | nil => cases hb'
      | cons n r' =>
        cases hb'
        obtain ⟨h1, h2, h3⟩ := foldl_max (r := r') (n := n)
        refine cr_max hc pins s σ H _ us Q I r ⟨a, n :: r', rfl, SqL.of h, Nat.succ_pos _, fun m hm hle => ?_⟩
        have e1 : m = r'.foldl max n := by
          refine Int.le_antisymm ?_ ?_
          · rcases List.mem_cons.mp hm with z | z
            · rw [z]; exact h1
            · exact h2 m z
          · rcases h3 with z | z
            · rw [z]; exact hle n List.mem_cons_self
            · exact hle _ (List.mem_cons_of_mem _ z)
        rw [e1]
        exact q _ _ (Same.refl _) (.int _)
  · rename_i i j
    cases e
    obtain ⟨v, w, rfl, hv, hw⟩ := two_args p
    cases hv
    cases hw
    exact call_max2 hc pins s σ H _ us Q I r ⟨i, j, rfl, q _ _ (Same.refl _) (.int _)⟩
  · cases e
theorem b_min (hc : X.calm = true) : CallR X (.builtin "min") (rDN X.K gMin) := by
  intro pins s σ H xs us Q I r ⟨A, ds, d, t, p, e, q⟩
  unfold gMin at e
  split at e
  · rename_i l
    obtain ⟨m, hb, rfl⟩ := map_some e
    cases hi : asInts l with
    | none => rw [hi] at hb; cases hb
    | some ns =>
      rw [hi] at hb
      have hb' : minL ns = some m := hb
      obtain ⟨v, rfl, hv⟩ := one_arg p
      obtain ⟨a, ys, rfl, h, rr⟩ := hv.lst
      rw [asInts_eq hi] at rr
      rw [rr.ints] at h
      cases ns with
      | nil => cases hb'
      | cons n r' =>
        cases hb'
        obtain ⟨h1, h2, h3⟩ := foldl_min (r := r') (n := n)
        refine cr_min hc pins s σ H _ us Q I r ⟨a, n :: r', rfl, SqL.of h, Nat.succ_pos _, fun m hm hle => ?_⟩
        have e1 : m = r'.foldl min n := by
          refine Int.le_antisymm ?_ ?_
          · rcases h3 with z | z
            · rw [z]; exact hle n List.mem_cons_self
            · exact hle _ (List.mem_cons_of_mem _ z)
          · rcases List.mem_cons.mp hm with z | z
            · rw [z]; exact h1
            · exact h2 m z
        rw [e1]
        exact q _ _ (Same.refl _) (.int _)
  · rename_i i j
    cases e
    obtain ⟨v, w, rfl, hv, hw⟩ := two_args p
    cases hv
    cases hw
    exact call_min2 hc pins s σ H _ us Q I r ⟨i, j, rfl, q _ _ (Same.refl _) (.int _)⟩
  · cases e
theorem b_listF : CallR X (.type "list") (rFN X.K gList) := by
  intro pins s σ H xs us Q I r ⟨A, ds, d, t, p, e, q⟩
  unfold gList at e
  split at e
  · cases e
    obtain ⟨v, rfl, hv⟩ := one_arg p
    obtain ⟨a, ys, rfl, h, rr⟩ := hv.lst
    exact call_list_of pins s σ H _ us Q I r ⟨a, ys, rfl, .inl (SqL.of h), fun l hl => q _ _ (same_upd hl) (new_lst t rr hl) (new_fr t rr hl)⟩
  · cases e
    obtain ⟨v, rfl, hv⟩ := one_arg p
    obtain ⟨a, ys, rfl, h, rr⟩ := hv.tup
    exact call_list_of pins s σ H _ us Q I r ⟨a, ys, rfl, .inr h.sq, fun l hl => q _ _ (same_upd hl) (new_lst t rr hl) (new_fr t rr hl)⟩
  · cases e
    obtain ⟨v, rfl, hv⟩ := one_arg p
    obtain ⟨a, ys, rfl, h, rr⟩ := hv.scr
    exact call_list_of pins s σ H _ us Q I r ⟨a, ys, rfl, .inl h.sq, fun l hl => q _ _ (same_upd hl) (new_lst t rr hl) (new_fr t rr hl)⟩
  · cases e
theorem b_list : CallR X (.type "list") (rDN X.K gList) := rFN.weak b_listF
theorem b_tuple : CallR X (.type "tuple") (rDN X.K gTuple) := by
  intro pins s σ H xs us Q I r ⟨A, ds, d, t, p, e, q⟩
  unfold gTuple at e
  split at e
  · cases e
    obtain ⟨v, rfl, hv⟩ := one_arg p
    obtain ⟨a, ys, rfl, h, rr⟩ := hv.lst
    exact call_tuple_of pins s σ H _ us Q I r ⟨a, ys, rfl, .inl ⟨SqL.of h, fun l hl => q _ _ (same_upd hl) (new_tup t rr hl)⟩⟩
  · cases e
    obtain ⟨v, rfl, hv⟩ := one_arg p
    obtain ⟨a, ys, rfl, h, rr⟩ := hv.scr
    exact call_tuple_of pins s σ H _ us Q I r ⟨a, ys, rfl, .inl ⟨h.sq, fun l hl => q _ _ (same_upd hl) (new_tup t rr hl)⟩⟩
  · cases e
    obtain ⟨v, rfl, hv⟩ := one_arg p
    obtain ⟨a, ys, rfl, h, rr⟩ := hv.tup
    exact call_tuple_of pins s σ H _ us Q I r ⟨a, ys, rfl, .inr ⟨h.sq, q _ _ (Same.refl _) (.tup h rr)⟩⟩
  · cases e
end
theorem bt_len : bootBuiltins "len" = some (.builtin "len") := by decide +kernel
theorem bt_int : bootBuiltins "int" = some (.type "int") := by decide +kernel
theorem bt_str : bootBuiltins "str" = some (.type "str") := by decide +kernel
theorem bt_list : bootBuiltins "list" = some (.type "list") := by decide +kernel
theorem bt_tuple : bootBuiltins "tuple" = some (.type "tuple") := by decide +kernel
theorem bt_repr : bootBuiltins "repr" = some (.builtin "repr") := by decide +kernel
theorem bt_abs : bootBuiltins "abs" = some (.builtin "abs") := by decide +kernel
theorem bt_all : bootBuiltins "all" = some (.builtin "all") := by decide +kernel
theorem bt_any : bootBuiltins "any" = some (.builtin "any") := by decide +kernel
theorem bt_sum : bootBuiltins "sum" = some (.builtin "sum") := by decide +kernel
theorem bt_max : bootBuiltins "max" = some (.builtin "max") := by decide +kernel
theorem bt_min : bootBuiltins "min" = some (.builtin "min") := by decide +kernel
theorem bt_sorted : bootBuiltins "sorted" = some (.builtin "sorted") := by decide +kernel
theorem bt_isinstance : bootBuiltins "isinstance" = some (.builtin "isinstance") := by decide +kernel
end DL
namespace DL
open L2 PySem PySem.Spec PyProof.Rows

section
variable {X : Cx} {G : Gd} {XC : List Nat → Prop} {Ol O O' O1 : List Nat} {W : WX} {fr : Bool} {a b c e : Expr} {es : List Expr} {ma mb mc me : ME} {mr : MA} {pos p : Pos} {x y : Str}

def putP : List Nat → List D → En → Out
  | [], [], ρ => .nx ρ
  | i :: is, d :: ds, ρ => if i < ρ.length then putP is ds (ρ.set i (some d)) else .bad
  | _, _, _ => .bad
def msPar (is : List Nat) (m : MA) : MS := fun ρ => obind (m ρ) fun ds ρ1 => putP is ds ρ1
theorem ds_par {i j : Nat} {px py pt : Pos} {kt k2 pt2} (hx : XC O) (hc : X.calm = true) (hN : X.N.Nodup) (hi : X.N[i]? = some x) (hj : X.N[j]? = some y) (hij : i ≠ j) (oi : O.contains i = false) (oj : O.contains j = false)
    (hlx : X.env.scope.names.lookup x = some .local) (hly : X.env.scope.names.lookup y = some .local) (ha : DA X G O W [a, b] mr)
    (hw : swappedStores [.Tuple [.Name x px, .Name y py] kt pt] (.Tuple [a, b] k2 pt2) X.env = pure (some [x, y]) := by rfl)
    (hs : swapsWithSole [.Tuple [.Name x px, .Name y py] kt pt] (.Tuple [a, b] k2 pt2) pos.line X.env = pure false := by rfl) :
    DS X G XC Ol O O W fr (.Assign [.Tuple [.Name x px, .Name y py] kt pt] (.Tuple [a, b] k2 pt2) pos) (msPar [i, j] mr) := by
  have ni : i ∉ O := fun z => by rw [List.contains_iff_mem.mpr z] at oi; cases oi
  have nj : j ∉ O := fun z => by rw [List.contains_iff_mem.mpr z] at oj; cases oj
  refine ps_imp (ps_par hc hN hi hj hij hlx hly ha hw hs) fun D0 σ H ⟨A, ms, ρ, R, q⟩ => ⟨A, ms, ρ, R, eb hx q ?_⟩
  intro ds ρ1 vs H1 _ R1 k1 r q1
  cases r with
  | nil => exact q1.elim
  | cons r1 r =>
    cases r with
    | nil =>
      simp only [putP] at q1
      split at q1 <;> exact q1.elim
    | cons r2 r =>
      cases r with
      | cons _ _ =>
        simp only [putP] at q1
        split at q1
        · split at q1 <;> exact q1.elim
        · exact q1.elim
      | nil =>
        simp only [putP] at q1
        split at q1
        · rename_i h1
          split at q1
          · rename_i h2
            exact ⟨_, _, rfl, q1 _ H1 A ms ((R1.put ni h1 r1).put nj h2 r2) Tr.refl⟩
          · exact q1.elim
        · exact q1.elim
theorem ds_par3 {i j l : Nat} {z : Str} {px py pz pt : Pos} {kt k2 pt2} (hx : XC O) (hc : X.calm = true) (hN : X.N.Nodup) (hi : X.N[i]? = some x) (hj : X.N[j]? = some y) (hl : X.N[l]? = some z) (hij : i ≠ j) (hil : i ≠ l) (hjl : j ≠ l) (oi : O.contains i = false) (oj : O.contains j = false) (ol : O.contains l = false)
    (hlx : X.env.scope.names.lookup x = some .local) (hly : X.env.scope.names.lookup y = some .local) (hlz : X.env.scope.names.lookup z = some .local) (ha : DA X G O W [a, b, c] mr)
    (hw : swappedStores [.Tuple [.Name x px, .Name y py, .Name z pz] kt pt] (.Tuple [a, b, c] k2 pt2) X.env = pure (some [x, y, z]) := by rfl)
    (hs : swapsWithSole [.Tuple [.Name x px, .Name y py, .Name z pz] kt pt] (.Tuple [a, b, c] k2 pt2) pos.line X.env = pure false := by rfl) :
    DS X G XC Ol O O W fr (.Assign [.Tuple [.Name x px, .Name y py, .Name z pz] kt pt] (.Tuple [a, b, c] k2 pt2) pos) (msPar [i, j, l] mr) := by
  have ni : i ∉ O := fun z => by rw [List.contains_iff_mem.mpr z] at oi; cases oi
  have nj : j ∉ O := fun z => by rw [List.contains_iff_mem.mpr z] at oj; cases oj
  have nl : l ∉ O := fun z => by rw [List.contains_iff_mem.mpr z] at ol; cases ol
  refine ps_imp (ps_par3 hc hN hi hj hl hij hil hjl hlx hly hlz ha hw hs) fun D0 σ H ⟨A, ms, ρ, R, q⟩ => ⟨A, ms, ρ, R, eb hx q ?_⟩
  intro ds ρ1 vs H1 _ R1 k1 r q1
  cases r with
  | nil => exact q1.elim
  | cons r1 r =>
    cases r with
    | nil =>
      simp only [putP] at q1
      split at q1 <;> exact q1.elim
    | cons r2 r =>
      cases r with
      | nil =>
        simp only [putP] at q1
        split at q1
        · split at q1 <;> exact q1.elim
        · exact q1.elim
      | cons r3 r =>
        cases r with
        | cons _ _ =>
          simp only [putP] at q1
          split at q1
          · split at q1
            · split at q1 <;> exact q1.elim
            · exact q1.elim
          · exact q1.elim
        | nil =>
          simp only [putP] at q1
          split at q1
          · rename_i h1
            split at q1
            · rename_i h2
              split at q1
              · rename_i h3
                exact ⟨_, _, _, rfl, q1 _ H1 A ms (((R1.put ni h1 r1).put nj h2 r2).put nl h3 r3) Tr.refl⟩
              · exact q1.elim
            · exact q1.elim
          · exact q1.elim

def gFmt : D → Option D
  | .str y => if y.length ≤ sizeLine then some (.str y) else none
  | .int i => if i.natAbs.log2 < 1920 then some (.str (toString i)) else none
  | _ => none
theorem de_fmt (ha : DE X G O W e ma) : DE X G O W (.FormattedValue e (-1) none pos) (m1 gFmt ma) := by
  refine pe_imp (pe_fmt ha) fun σ H Q ⟨A, ms, ρ, R, q⟩ => ⟨A, ms, ρ, R, RPost.mono (RPost.bind q) ?_⟩
  rintro v H1 ⟨d, ρ1, R1, k1, r1, q1⟩
  obtain ⟨z, hz, q2⟩ := rp_of R1 q1
  cases d with
  | str y =>
    obtain ⟨hl, rfl⟩ := ite_d (x := .str y) hz
    cases r1
    exact .inl ⟨y, rfl, hl, q2 _ H1 (Same.refl _) (.str _)⟩
  | int i =>
    obtain ⟨hl, rfl⟩ := ite_d (x := .str (toString i)) hz
    cases r1
    exact .inr ⟨i, rfl, hl, q2 _ H1 (Same.refl _) (.str _)⟩
  | _ => cases hz
inductive DJ (X : Cx) (G : Gd) (O : List Nat) (W : WX) : List Expr → List ME → Prop where
  | nil : DJ X G O W [] []
  | cons {e : Expr} {m : ME} {es : List Expr} {ms : List ME} (h : DE X G O W e m) (r : DJ X G O W es ms) : DJ X G O W (e :: es) (m :: ms)
def mJs : List ME → Str → ME
  | [], acc, ρ => .ok (.str acc) ρ
  | m :: ms, acc, ρ => (m ρ).bind fun d ρ1 => match d with
    | .str y => if (acc ++ y).length ≤ sizeLine then mJs ms (acc ++ y) ρ1 else .bad
    | _ => .bad
theorem DJ.pj {es : List Expr} {ms : List ME} (h : DJ X G O W es ms) : PJ X es (ms.map (tE X.K G O W)) := by
  induction h with
  | nil => exact .nil
  | cons h r ih => exact .cons h ih
theorem js_go {K : PySem.W.Frag} {σ : L2.St} {Q : VK} : ∀ {ms : List ME} {acc : Str} {H : Hp}, tE K G O W (mJs ms acc) σ H Q → tJs (ms.map (tE K G O W)) acc σ H fun out H1 => Q (.str out) H1
  | [], acc, H, ⟨A, ms, ρ, R, q⟩ => q _ H R Kp.refl (.str _)
  | m :: r, acc, H, ⟨A, ms, ρ, R, q⟩ => by
    refine ⟨A, ms, ρ, R, RPost.mono (RPost.bind q) ?_⟩
    rintro v H1 ⟨d, ρ1, R1, k1, r1, q1⟩
    cases d with
    | str y =>
      cases r1
      have q2 : RPost K G O W A ms σ H1 (Rp K A) Q (if (acc ++ y).length ≤ sizeLine then mJs r (acc ++ y) ρ1 else .bad) := q1
      split at q2
      · rename_i hz
        exact ⟨y, rfl, hz, js_go ⟨A, ms, ρ1, R1, q2⟩⟩
      · exact q2.elim
    | _ => exact q1.elim
theorem de_joined {v1 v2 : Expr} {rest : List Expr} {ms : List ME} (h : DJ X G O W (v1 :: v2 :: rest) ms) : DE X G O W (.JoinedStr (v1 :: v2 :: rest) pos) (mJs ms Str.empty) := pe_imp (pe_joined h.pj) fun _ _ _ h => js_go h

def msRaise (c : Str) : MS := fun ρ => .ex ⟨c, []⟩ ρ
theorem ds_raise {C : Str} (hx : XC O) (hc : X.calm = true) (tk : Takes X W) (he : PMk X e (fun _ H Q => Q (.ref (He.ga X.K C)) none H)) : DS X G XC Ol O O' W fr (.Raise (some e) none pos) (msRaise C) := by
  refine ps_imp (ps_raise hc tk he) fun D0 σ H ⟨A, ms, ρ, R, q⟩ => ?_
  exact q none σ H A ms O hx R Tr.refl (.inl ⟨rfl, rfl⟩)

theorem pss_ex {ι : Type} {sts : List Stmt} {P : ι → Prop} {t : ι → TS} (h : ∀ i, P i → PSs X sts (t i)) : PSs X sts (fun D σ H => ∃ i, P i ∧ t i D σ H) := ⟨fun pins s σ H D I ⟨i, p, q⟩ => (h i p).run pins s σ H D I q⟩
def fgt (i : Nat) : Out → Out
  | .nx ρ => .nx (ρ.set i none)
  | .rt d ρ => .rt d ρ
  | .bk ρ => .bk (ρ.set i none)
  | .ct ρ => .ct (ρ.set i none)
  | .ex _ _ => .bad
  | .bad => .bad
def msTryAs (mt : Str → Option Bool) (i : Nat) (mb : MS) (ms : Str → MS) : MS := fun ρ => match mb ρ with
  | .ex y ρ1 => match mt y.c with
    | some true => match y.fs with
      | [] => if i < ρ1.length then fgt i (ms y.c (ρ1.set i none)) else .bad
      | _ => .bad
    | some false => .ex y ρ1
    | none => .bad
  | o => o
def Mt (X : Cx) (c : Value) (mt : Str → Option Bool) : Prop := ∀ y b, mt y = some b → PySem.W.exmOne X.K (.ref (He.ga X.K y)) c = some b
def Gd.at (G : Gd) (i : Nat) (a : Addr) (c : Str) : Gd := { G with px := some (i, a, c) }
theorem RelS.named {K : PySem.W.Frag} {A : Addr → Prop} {ms : Nat → Option Addr} {σ : L2.St} {H : Hp} {ρ : En} {i : Nat} {a : Addr} {c : Str} (R : RelS K G O A ms σ H ρ) (hi : i ∉ O) (hlt : i < ρ.length) (hn : G.px = none) (h0 : i ≠ 0 ∨ G.io = none) :
    RelS K (G.at i a c) (i :: O) A (fun j => if j = i then none else ms j) (σ.set i (some (.ref a))) H (ρ.set i none) := by
  have R1 := R.forget (O1 := i :: O) (NPx.no hn) h0 fun j hj => by simp [hj]
  have ne : ∀ {j : Nat} {z : D}, (ρ.set i none)[j]? = some (some z) → j ≠ i := fun {j z} e h => by
    subst h
    rw [List.getElem?_set_self hlt] at e; cases e
  exact {
    sub := R1.sub
    trk0 := R1.trk0
    trk := R1.trk
    keep := R1.keep
    len := by rw [List.length_set]; exact R1.len
    fz := fun j d e n => let ⟨v, e1, q⟩ := R1.fz j d e n; ⟨v, by rw [List.getElem?_set_ne (Ne.symm (ne e))]; exact e1, q⟩
    ow := fun j d e m => let ⟨p, e0, e1, q⟩ := R1.ow j d e m; ⟨p, e0, by rw [List.getElem?_set_ne (Ne.symm (ne e))]; exact e1, q⟩
    inA := R1.inA
    ok := R1.ok
    dist := R1.dist
    px := fun j a' c' e => by
      cases e
      exact ⟨List.mem_cons_self, List.getElem?_set_self (by rw [R.len]; exact hlt)⟩
    io := R1.io }
theorem RelS.unnamed {K : PySem.W.Frag} {A : Addr → Prop} {ms : Nat → Option Addr} {σ : L2.St} {H : Hp} {ρ : En} {i : Nat} {a : Addr} {c : Str} (R : RelS K (G.at i a c) (i :: O) A ms σ H ρ) (hi : i ∉ O) (hn : G.px = none) (h0 : i ≠ 0 ∨ G.io = none) :
    RelS K G O A (fun j => if j = i then none else ms j) (σ.set i none) H (ρ.set i none) := by
  have ne : ∀ {j : Nat} {z : D}, (ρ.set i none)[j]? = some (some z) → j ≠ i := fun {j z} e h => by
    subst h
    by_cases hl : j < ρ.length
    · rw [List.getElem?_set_self hl] at e; cases e
    · rw [List.getElem?_eq_none (by rw [List.length_set]; omega)] at e; cases e
  have g : ∀ {j : Nat} {z : D}, (ρ.set i none)[j]? = some (some z) → ρ[j]? = some (some z) := fun {j z} e => by
    have e' := e
    rw [set_get_ne (ne e)] at e'
    exact e'
  have sm : ∀ {j : Nat} {p : Addr}, (if j = i then none else ms j) = some p → j ≠ i ∧ ms j = some p := fun {j p} e => by
    by_cases h : j = i
    · rw [if_pos h] at e; cases e
    · rw [if_neg h] at e; exact ⟨h, e⟩
  exact {
    sub := R.sub
    trk0 := R.trk0
    trk := R.trk
    keep := R.keep
    len := by rw [List.length_set, List.length_set]; exact R.len
    fz := fun j d e n => by
      have nj := ne e
      obtain ⟨v, e1, q⟩ := R.fz j d (g e) fun m => (List.mem_cons.mp m).elim nj n
      exact ⟨v, by rw [List.getElem?_set_ne (Ne.symm nj)]; exact e1, q⟩
    ow := fun j d e m => by
      have nj := ne e
      obtain ⟨p, e0, e1, q⟩ := R.ow j d (g e) (List.mem_cons_of_mem _ m)
      exact ⟨p, (if_neg nj).trans e0, by rw [List.getElem?_set_ne (Ne.symm nj)]; exact e1, q⟩
    inA := fun j p m e => R.inA j p (List.mem_cons_of_mem _ m) (sm e).2
    ok := fun j p m e => R.ok j p (List.mem_cons_of_mem _ m) (sm e).2
    dist := fun j j' p m m' e e' => R.dist j j' p (List.mem_cons_of_mem _ m) (List.mem_cons_of_mem _ m') (sm e).2 (sm e').2
    px := fun j a' c' e => by rw [hn] at e; cases e
    io := fun p e => by
      obtain ⟨h1, h2, h3, z, h4⟩ := R.io p e
      have n0 : (0 : Nat) ≠ i := fun w => by
        rcases h0 with k | k
        · exact k w.symm
        · rw [k] at e; cases e
      exact ⟨(List.mem_cons.mp h1).resolve_left n0, h2, (if_neg n0).trans h3, z, by rw [set_get_ne n0]; exact h4⟩ }
theorem ds_tryAs {n : Str} {c : Value} {i : Nat} {body suite : List Stmt} {b₀ : Stmt} {np pos' : Pos} {mt : Str → Option Bool} {mb : MS} {ms : Str → MS} (hx : XC O) (hs : X.stack = X.env :: X.outer) (hf : X.env.frame = some X.env.locals) (hN : X.N.Nodup) (hi : X.N[i]? = some n) (hln : X.env.kindOf n = some .local) (hc : Names X x c) (tk : Takes X W)
    (hmt : Mt X c mt) (oi : O.contains i = false) (h0 : i ≠ 0 ∨ G.io = none) (hn : G.px = none)
    (hb : ∀ (W : WX) (pn : List (Addr × Obj)) (xe : Value → Shared → Prop), Takes (X.tr pn xe) W → PassesOwn (model X.prog X.w) X.A X.env xe → DSs (X.tr pn xe) G (fun o => o = O) Ol O O W fr body mb)
    (hsu : ∀ (a : Addr) (oe : Obj) (k : Str) (pn : List (Addr × Obj)), Zc (.ref (He.ga X.K k)) none oe → (∃ vs, oe.data = .fields vs) → mt k = some true → DSs (X.suite a ((a, oe) :: pn)) (G.at i a k) (fun o => o = i :: O) (i :: Ol) (i :: O) (i :: O) W0 fr (b₀ :: suite) (ms k))
    (nol : Ol.contains i = false) :
    DS X G XC Ol O O W fr (.Try body [.ExceptHandler (some (.Name x np)) (some n) (b₀ :: suite) pos'] [] [] pos) (msTryAs mt i mb ms) := by
  have ni : i ∉ O := fun z => by rw [List.contains_iff_mem.mpr z] at oi; cases oi
  have nl : i ∉ Ol := fun z => by rw [List.contains_iff_mem.mpr z] at nol; cases nol
  let ts : Addr → Value → Option Addr → TS := fun a cls d D σ H => ∃ k : Str, (cls = .ref (He.ga X.K k) ∧ d = none ∧ mt k = some true) ∧ tS X.K (G.at i a k) (fun o => o = i :: O) (i :: Ol) (i :: O) (i :: O) W0 fr (ms k) D σ H
  refine ps_imp (ps_try_as (ts := ts) (Wout := W) (tb := fun W => tS X.K G (fun o => o = O) Ol O O W fr mb) hs hf hN hi hln hc tk (fun W pn xe t p => hb W pn xe t p) (fun a oe cls d pn hz hd => ?_)) fun D0 σ H ⟨A, ms', ρ, R, q⟩ => ?_
  · refine pss_ex fun k ⟨e1, e2, e3⟩ => ?_
    subst e1 e2
    exact hsu a oe k pn hz hd e3
  · refine ⟨A, ms', ρ, R, ?_⟩
    unfold msTryAs at q
    cases hm : mb ρ with
    | nx ρ1 => rw [hm] at q; exact q
    | rt d ρ1 => rw [hm] at q; exact q
    | bk ρ1 => rw [hm] at q; exact q
    | ct ρ1 => rw [hm] at q; exact q
    | bad => rw [hm] at q; exact q.elim
    | ex y ρ1 =>
      rw [hm] at q
      intro dx σ1 H1 A1 ms1 O'' hO R1 t1 xr
      have hO' : O'' = O := hO
      subst hO'
      have q1 := SPost.from t1 q
      have q1 : SPost X.K G XC Ol O'' W fr A1 H1 D0 (match mt y.c with
        | some true => match y.fs with
          | [] => if i < ρ1.length then fgt i (ms y.c (ρ1.set i none)) else .bad
          | _ => .bad
        | some false => .ex y ρ1
        | none => .bad) := q1
      cases hb1 : mt y.c with
      | none => simp only [hb1] at q1; exact q1.elim
      | some b =>
        simp only [hb1] at q1
        refine ⟨b, hmt _ _ hb1, fun e1 a na => ?_, fun e1 => ?_⟩
        · subst e1
          obtain ⟨yc, yf⟩ := y
          cases yf with
          | cons _ _ => exact q1.elim
          | nil =>
            have q2 : SPost X.K G XC Ol O'' W fr A1 H1 D0 (if i < ρ1.length then fgt i (ms yc (ρ1.set i none)) else .bad) := q1
            have dn : dx = none := by
              rcases xr with ⟨_, z⟩ | ⟨z, _⟩
              · exact z
              · exact absurd rfl z
            subst dn
            split at q2
            · rename_i hlt
              refine ⟨yc, ⟨rfl, rfl, hb1⟩, A1, _, _, R1.named ni hlt hn h0, ?_⟩
              cases hr : ms yc (ρ1.set i none) with
              | nx ρ2 => rw [hr] at q2; exact fun σ' H' A' ms' R' t => q2 _ H' A' _ (R'.unnamed ni hn h0) t
              | bk ρ2 => rw [hr] at q2; exact fun σ' H' A' ms' R' t => q2 _ H' A' _ (R'.unnamed nl hn h0) t
              | ct ρ2 => rw [hr] at q2; exact fun σ' H' A' ms' R' t => q2 _ H' A' _ (R'.unnamed nl hn h0) t
              | rt d ρ2 => rw [hr] at q2; exact q2
              | ex z ρ2 => rw [hr] at q2; exact q2.elim
              | bad => rw [hr] at q2; exact q2.elim
            · exact q2.elim
        · subst e1
          have q2 : SPost X.K G XC Ol O'' W fr A1 H1 D0 (.ex y ρ1) := q1
          exact q2 dx σ1 H1 A1 ms1 O'' hx R1 Tr.refl xr
end
end DL
namespace DL
open L2 PySem PySem.Spec PyProof.Rows
section
variable {X : Cx} {G : Gd} {XC : List Nat → Prop} {Ol O O' O1 : List Nat} {W : WX} {fr : Bool} {a b c e o : Expr} {es : List Expr} {ma mb mc me mo : ME} {mr : MA} {pos p apos : Pos} {x y : Str}

theorem de_isE {i : Nat} {n C k : Str} {v : Bool} {ad : Addr} {np cp : Pos} (hpx : G.px = some (i, ad, k)) (hC : CallR X (.builtin "isinstance") (rIsE X.K (He.ga X.K k) ad)) (ht : PySem.W.kitOne X.K (.ref (He.ga X.K k)) (.ref (He.ga X.K C)) = some v)
    (hg : Gl X "isinstance") (hm : X.mg "isinstance" = none) (hN : X.N[i]? = some n) (hv : Vis X.env.scope n) (hcg : Gl X C) (hcm : X.mg C = some (.ref (He.ga X.K C)))
    (hd1 : (n == ("__debug__" : Str)) = false := by decide) (hd2 : (n == ("__classdict__" : Str)) = false := by decide) (hd3 : (C == ("__debug__" : Str)) = false := by decide)
    (he : starEach [.Name n np, .Name C cp] X.env = (false, eval (.Name n np) X.env) :: starEach [.Name C cp] X.env := by rfl) (he2 : starEach [.Name C cp] X.env = (false, eval (.Name C cp) X.env) :: starEach [] X.env := by rfl) (hpl : (backTo pos (starEach [.Name C cp] X.env)).any (·.1) = false := by rfl) :
    DE X G O W (.Call (.Name "isinstance" p) [.Name n np, .Name C cp] [] pos) (mK (.bl v)) := by
  refine pe_imp (pe_callB hC hg hm bt_isinstance (pa_cons (pe_var hN hv hd1 hd2) (pa_cons (pe_glob (v := .ref (He.ga X.K C)) hcg hcm rfl hd3) pa_nil he2) he) (by decide) (by decide) he hpl) fun σ H Q ⟨A, ms, ρ, R, q⟩ => ?_
  obtain ⟨_, h1⟩ := R.px i ad k hpx
  exact ⟨_, h1, .ref (He.ga X.K C), .ref (He.ga X.K C), v, rfl, fun u r => r, ht, q _ H R Kp.refl (.bl v)⟩

theorem FnG.weak {P : Program} {w : World} {K : PySem.W.Frag} {mg : Str → Option Value} {base : Heap} {k : Nat} {f : Addr} {F : FN} (h : FnG P w K mg base k f false true F) : FnG P w K mg base k f false false F := by
  refine ⟨fun A outer s H us vs Q E hr hg e0 rv ⟨A0, q, ds, t, hq, ar, post⟩ => h.run A outer s H us vs Q E hr hg e0 rv ⟨A0, q, ds, t, hq, ar, ?_⟩, h.kp⟩
  cases hF : F ds with
  | bad => rw [hF] at post; exact post.elim
  | ex x o => rw [hF] at post; exact post
  | rt d o =>
    rw [hF] at post
    intro v H' ki rr
    obtain ⟨r, rfl, hr, ow, oo⟩ := (show ∃ r, v = .ref r ∧ H r = none ∧ Own K (fun a => A0 a ∨ a = r) H' r d ∧ ∀ p, q = some p → Own K (fun a => A0 a ∨ a = r) H' p o from rr)
    have nr : ¬ A0 r := t.no hr
    exact post _ H' ki ⟨ow.freeze (fun a z => .inl z) nr, fun p e => (oo p e).less fun a z => .inl z⟩
def Tab (X : Cx) (k : Nat) (tab : Str → Option FN) : Prop := ∀ x F, tab x = some F → FnG X.prog X.w X.K X.mg X.base k (He.ga X.K x) false false F
def mCallV (tab : Str → Option FN) (f : ME) (args : MA) : ME := fun ρ => (f ρ).bind fun d ρ1 => match d with
  | .fn x => match tab x with
    | some F => mCall F args ρ1
    | none => .bad
  | _ => .bad
theorem de_callV {k : Nat} {tab : Str → Option FN} {f : Expr} {mf : ME} (T : Tab X k tab) (hr : Room k X.A) (hg : X.A.guards = some []) (tk : Takes X W) (hf : DE X G O W f mf) (ha : DA X G O W (e :: es) mr)
    (ht : eval (.Call f (e :: es) [] pos) X.env = (do callWith pos (← eval f X.env) [] (backTo pos (starEach (e :: es) X.env)) (backToKw pos (keywordEach [] X.env))) := by rfl)
    (he : starEach (e :: es) X.env = (false, eval e X.env) :: starEach es X.env := by rfl) (hpl : (backTo pos (starEach es X.env)).any (·.1) = false := by rfl) : DE X G O W (.Call f (e :: es) [] pos) (mCallV tab mf mr) := by
  refine ⟨fun pins s σ H Q I ⟨A, ms, ρ, R, q⟩ => ?_⟩
  refine Call_ (thn (PE.run hf pins s σ H (fun y H1 => ∃ d ρ1, RelS X.K G O A ms σ H1 ρ1 ∧ Kp O ms H H1 ∧ Rp X.K A H1 y d ∧ RPost X.K G O W A ms σ H1 (Rp X.K A) Q (match d with
    | .fn x => match tab x with
      | some F => mCall F mr ρ1
      | none => .bad
    | _ => .bad)) I ⟨A, ms, ρ, R, RPost.bind q⟩) fun u s1 ⟨y, H1, I1, ry, d, ρ1, R1, k1, r1, q1⟩ => ?_) ht
  cases d with
  | fn x =>
    cases hT : tab x with
    | none => simp only [hT] at q1; exact q1.elim
    | some F =>
      simp only [hT] at q1
      cases r1
      obtain rfl : u = Value.ref (He.ga X.K x) := ry
      have C := T x F hT
      have q2 : tCallG X.K false false F W (tA X.K G O W mr) σ H1 Q := call_goE ⟨A, ms, ρ1, R1, q1⟩
      exact PySem.W.callWith_K (h₀ := X.base) I1.ok.mod.kin C.kp (thn (ha.run pos pins s1 σ H1 _ I1 q2) fun us s2 ⟨vs, H2, I2, r, q3⟩ => ⟨I2.kIn, run_fnG C hr hg tk I2 r q3⟩) he hpl
  | _ => exact q1.elim

def rMD (K : PySem.W.Frag) (g : D → List D → Option D) : V → List V → Hp → VK → Prop := fun x xs H Q => ∃ A c ds d, Trk A H ∧ RpB K A H x c ∧ (RpA K A H xs ds ∨ ∃ v c, xs = [v] ∧ ds = [c] ∧ RpB K A H v c) ∧ g c ds = some d ∧ ∀ v H', Same H H' → Rp K A H' v d → Fr K A H H' v d → Q v H'
def isStr : D → Bool
  | .str _ => true
  | _ => false
def mM (g : D → List D → Option D) (o : ME) (args : MA) : ME := fun ρ => (o ρ).bind fun x ρ1 => if isStr x = true then (args ρ1).bind fun xs ρ2 => ret (g x xs) ρ2 else .bad
def mMF (g : D → List D → Option D) (o : ME) (args : MA) : ME := fun ρ => (o ρ).bind fun x ρ1 => if isStr x = true then (args ρ1).bind fun xs ρ2 => ret ((g x xs).bind isL) ρ2 else .bad
theorem strm_go {K : PySem.W.Frag} {g : D → List D → Option D} {σ : L2.St} {H : Hp} {Q : VK} (h : tE K G O W (mM g mo mr) σ H Q) : tBM K "str" (rMD K g) (tE K G O W mo) (tA K G O W mr) σ H Q := by
  obtain ⟨A, ms, ρ, R, q⟩ := h
  refine ⟨A, ms, ρ, R, RPost.mono (RPost.bind q) ?_⟩
  rintro v H1 ⟨d, ρ1, R1, k1, r1, q1⟩
  split at q1
  · cases d with
    | str z =>
      cases r1
      refine ⟨rfl, A, ms, ρ1, R1, RPost.mono (RPost.bind q1) ?_⟩
      rintro vs H2 ⟨ds, ρ2, R2', k2, r2, q2⟩
      obtain ⟨z', hz, q3⟩ := rp_of R2' q2
      exact ⟨A, _, ds, z', R2'.trk, .of (.str z), .inl r2, hz, fun v H' s r _ => q3 v H' s r⟩
    | _ => rename_i h; cases h
  · exact q1.elim
theorem strmF_go {K : PySem.W.Frag} {g : D → List D → Option D} {σ : L2.St} {H : Hp} {Q : VK} (h : tF K G O W (mMF g mo mr) σ H Q) : tBM K "str" (rMD K g) (tE K G O W mo) (tA K G O W mr) σ H Q := by
  obtain ⟨A, ms, ρ, R, q⟩ := h
  refine ⟨A, ms, ρ, R, RPost.mono (FPost.bind q) ?_⟩
  rintro v H1 ⟨d, ρ1, R1, k1, r1, q1⟩
  split at q1
  · cases d with
    | str z =>
      cases r1
      refine ⟨rfl, A, ms, ρ1, R1, RPost.mono (FPost.bind q1) ?_⟩
      rintro vs H2 ⟨ds, ρ2, R2', k2, r2, q2⟩
      obtain ⟨z', hz⟩ := fp_some q2
      exact ⟨A, _, ds, _, R2'.trk, .of (.str z), .inl r2, hz, fun v H' s r f => fp_fin q2 hz R2' s f⟩
    | _ => rename_i h; cases h
  · exact q1.elim
section
variable {name : Str} {id : String} {g : D → List D → Option D}
theorem de_sm (slot : Slot "str" name id) (hty : typeOf (.builtin id) = pure (.type "method_descriptor")) (hm : MtR X id (rMD X.K g)) (ho : DE X G O W o mo) (ha : DA X G O W (e :: es) mr)
    (hbase : attributeBase o name X.env (eval o X.env) = eval o X.env := by rfl)
    (hfew : ((backTo pos (starEach (e :: es) X.env)).all (fun x => !x.1) && (backToKw pos (keywordEach [] X.env)).all (fun x => x.1.isSome)
      && decide ((e :: es).length + ([] : List Keyword).length + (if ([] : List Keyword).isEmpty then 0 else 1) < 30)) = true := by rfl)
    (hline : (apos.endLine == pos.line) = true := by rfl) (hs : starEach (e :: es) X.env = (false, eval e X.env) :: starEach es X.env := by rfl) (hplain : (backTo pos (starEach es X.env)).any (·.1) = false := by rfl) :
    DE X G O W (.Call (.Attribute o name apos) (e :: es) [] pos) (mM g mo mr) := pe_imp (pe_bm PySem.F.plainAttrs_str slot hty hm ho ha hbase hfew hline hs hplain) fun _ _ _ h => strm_go h
theorem df_sm (slot : Slot "str" name id) (hty : typeOf (.builtin id) = pure (.type "method_descriptor")) (hm : MtR X id (rMD X.K g)) (ho : DE X G O W o mo) (ha : DA X G O W (e :: es) mr)
    (hbase : attributeBase o name X.env (eval o X.env) = eval o X.env := by rfl)
    (hfew : ((backTo pos (starEach (e :: es) X.env)).all (fun x => !x.1) && (backToKw pos (keywordEach [] X.env)).all (fun x => x.1.isSome)
      && decide ((e :: es).length + ([] : List Keyword).length + (if ([] : List Keyword).isEmpty then 0 else 1) < 30)) = true := by rfl)
    (hline : (apos.endLine == pos.line) = true := by rfl) (hs : starEach (e :: es) X.env = (false, eval e X.env) :: starEach es X.env := by rfl) (hplain : (backTo pos (starEach es X.env)).any (·.1) = false := by rfl) :
    DF X G O W (.Call (.Attribute o name apos) (e :: es) [] pos) (mMF g mo mr) := pe_imp (pe_bm PySem.F.plainAttrs_str slot hty hm ho ha hbase hfew hline hs hplain) fun _ _ _ h => strmF_go h
end
def gSplit (x : D) (xs : List D) : Option D := match x, xs with
  | .str a, [.str b] => if (b.length == 0) = false ∧ a.length + 2 ≤ sizeLine then some (.lst ((Txt.split a b).map D.str)) else none
  | _, _ => none
def gJoin (x : D) (xs : List D) : Option D := match x, xs with
  | .str a, [.lst l] => match asStrs l with
    | some ys => if (ys.map (·.length)).sum + ys.length * a.length ≤ 16777216 then some (.str (Txt.join a ys)) else none
    | none => none
  | _, _ => none
theorem mt_splitD : MtR X "str.split" (rMD X.K gSplit) := by
  rintro pins s σ H v xs u us Q I rx rs ⟨A, c, ds, d, t, rc, ra, hg, q⟩
  unfold gSplit at hg
  split at hg
  · rename_i a b
    obtain ⟨hz, rfl⟩ := ite_d (x := .lst ((Txt.split a b).map D.str)) hg
    rw [rc.str] at rx
    obtain ⟨w, rfl, hw⟩ := one_arg ra
    rw [hw.str] at rs
    refine mt_split pins s σ H _ _ u us Q I rx rs ⟨a, b, rfl, rfl, hz.1, hz.2, fun r hr => ?_⟩
    exact q _ _ (same_upd hr) (new_lst t (RpA.of_strs _) hr) (new_fr t (RpA.of_strs _) hr)
  · cases hg
theorem mt_joinD : MtR X "str.join" (rMD X.K gJoin) := by
  rintro pins s σ H v xs u us Q I rx rs ⟨A, c, ds, d, t, rc, ra, hg, q⟩
  unfold gJoin at hg
  split at hg
  · rename_i a l
    split at hg
    · rename_i ys hy
      obtain ⟨hz, rfl⟩ := ite_d (x := .str (Txt.join a ys)) hg
      rw [rc.str] at rx
      obtain ⟨w, rfl, hw⟩ := one_arg ra
      obtain ⟨p, zs, rfl, h1, r1⟩ := hw.lst
      rw [asStrs_eq hy] at r1
      rw [r1.strs] at h1
      exact mt_join pins s σ H _ _ u us Q I rx rs ⟨a, p, ys, rfl, rfl, .inl (SqL.of h1), hz, q _ _ (Same.refl _) (.str _) (no_fr fun _ => nofun)⟩
    · cases hg
  · cases hg
def mJoinO (o : ME) (j : Nat) : ME := fun ρ => (o ρ).bind fun x ρ1 => if isStr x = true then match getO ρ1 j with
  | some (.lst l) => ret (gJoin x [.lst l]) ρ1
  | _ => .bad
  else .bad
theorem de_joinO {j : Nat} (hj : O.contains j = true) (ho : DE X G O W o mo) (hy : PE X e (tVar j))
    (hbase : attributeBase o "join" X.env (eval o X.env) = eval o X.env := by rfl)
    (hfew : ((backTo pos (starEach [e] X.env)).all (fun x => !x.1) && (backToKw pos (keywordEach [] X.env)).all (fun x => x.1.isSome)
      && decide (([e] : List Expr).length + ([] : List Keyword).length + (if ([] : List Keyword).isEmpty then 0 else 1) < 30)) = true := by rfl)
    (hline : (apos.endLine == pos.line) = true := by rfl) (hs : starEach [e] X.env = (false, eval e X.env) :: starEach [] X.env := by rfl) (hplain : (backTo pos (starEach [] X.env)).any (·.1) = false := by rfl) :
    DE X G O W (.Call (.Attribute o "join" apos) [e] [] pos) (mJoinO mo j) := by
  refine pe_imp (pe_bm PySem.F.plainAttrs_str PySem.F.slot_str_join PySem.F.type_str_join mt_joinD ho (pa_own hy hs) hbase hfew hline hs hplain) fun σ H Q ⟨A, ms, ρ, R, q⟩ => ?_
  refine ⟨A, ms, ρ, R, RPost.mono (RPost.bind q) ?_⟩
  rintro v H1 ⟨d, ρ1, R1, k1, r1, q1⟩
  split at q1
  · cases d with
    | str z =>
      cases r1
      refine ⟨rfl, ?_⟩
      split at q1
      · rename_i l hl
        obtain ⟨pj, h1, h2, h3⟩ := own_at R1 hj hl
        obtain ⟨z', hz, q3⟩ := rp_of R1 q1
        exact ⟨_, h2, A, _, _, z', R1.trk, .of (.str z), .inr ⟨_, _, rfl, rfl, own_b h3⟩, hz, fun v H' s r _ => q3 v H' s r⟩
      · exact q1.elim
    | _ => rename_i h; cases h
  · exact q1.elim
end
end DL
namespace DL
open L2 PySem PySem.Spec PyProof.Rows

theorem lawG {P : Program} {w : World} {K : PySem.W.Frag} {mg mB : Str → Option Value} {k : Nat} {fL sc : Addr} {F : FN} {t0 : Shared} {ws : List Value} {zs : List Int} {o : D} (kin : K.In t0.heap) (nsG : t0.heap.Ns mainGlobals mg) (nsB : t0.heap.Ns builtinsNs mB)
    (bB : ∀ y : Str, y ≠ "__name__" → mB y = bootBuiltins y) (noL : t0.heap.NoLimit) (noG : t0.gens = #[]) (hsc : t0.heap.get? sc = some { cls := .type "list", data := .seq ws.toArray }) (itg : IntsAre ws zs) (few : zs.length ≤ sizeLine) (room : Room k callerA)
    (C : ∀ base : Heap, K.In base → base.Ns mainGlobals mg → FnG P w K mg base k fL false false F) (hF : F [.scr (zs.map D.int)] = .rt (.bl true) o) :
    codeAny (model P w) callerA (.call (.ref fL) ⟨[.ref sc], []⟩) (fun r t => r = .ok (.ret (.bool true)) ∧ OldK t0.heap t.heap ∧ t.os = t0.os ∧ AllBare t.gens) t0 := by
  have rz := vals_ints itg
  have lz := itg.length
  have main : ∀ J : Hp, Only J → SqL K J sc (zs.map V.int) → HOk P w J t0.heap → (∀ b, J b ≠ none → b = sc) → (J sc ≠ none → K.lookup sc = none) →
      codeAny (model P w) callerA (.call (.ref fL) ⟨[.ref sc], []⟩) (fun r t => r = .ok (.ret (.bool true)) ∧ OldK t0.heap t.heap ∧ t.os = t0.os ∧ AllBare t.gens) t0 := by
    intro J only sq ok1 at1 no1
    have keepB : ∀ {b : Addr} {ob : Obj}, t0.heap.get? b = some ob → J b = none → (hidT t0.heap J).get? b = some ob := fun x y => hidT_get x y
    have noDict : ∀ {b : Addr} {ob : Obj} {es : Array DictEntry} {ep : Nat}, t0.heap.get? b = some ob → ob.data = .dict es ep → J b = none := fun {b ob es ep} x y => by
      cases z : J b with
      | none => rfl
      | some u =>
        obtain rfl : b = sc := at1 b (by rw [z]; simp)
        rw [hsc] at x
        cases x
        cases (show Data.seq ws.toArray _ = Data.dict es ep from y)
    have nsT : ∀ {b : Addr} {m : Str → Option Value}, t0.heap.Ns b m → (hidT t0.heap J).Ns b m := fun {b m} ⟨ob, es, ep, x, y, r⟩ => ⟨ob, es, ep, keepB x (noDict x y), y, r⟩
    have kinB : K.In (hidT t0.heap J) := fun b ob x => keepB (kin b ob x) (by
      cases z : J b with
      | none => rfl
      | some u =>
        obtain rfl : b = sc := at1 b (by rw [z]; simp)
        rw [no1 (by rw [z]; simp)] at x
        cases x)
    have modB : Mod K mg (hidT t0.heap J) := ⟨kinB, nsT nsG, ⟨mB, nsT nsB, bB⟩, let ⟨m1, x, y⟩ := noL; ⟨m1, nsT x, y⟩⟩
    have env0 : Env0 P w K mg (hidT t0.heap J) callerA [] t0 J := ⟨rfl, modB, fun b ob x => of_hidT x, Nat.le_of_eq (hidT_size _ _), trivial, fun b hb => absurd (show b ∈ ([] : List Addr) from hb) List.not_mem_nil, ok1, .of_eq noG⟩
    have sp1 : spD K false false F [.ref sc] J (fun v _ => v = .bl true) (fun _ _ _ => False) := by
      refine ⟨fun _ => False, none, [.scr (zs.map D.int)], fun _ z => z.elim, rfl, ?_, ?_⟩
      · exact .cons (.scr (sq.imp (fun z => ⟨z, fun z => z⟩) id) (RpA.of_ints zs)) .nil
      · rw [hF]
        intro v J' _ rr
        have rr' : Rp K (fun _ => False) J' v (.bl true) := rr.1
        cases rr'
        rfl
    refine codeAny_mono ((C _ kinB (nsT nsG)).run callerA [] t0 J [.ref sc] [.ref sc] _ _ room rfl env0 (.cons rfl .nil) sp1) fun r t hr => ?_
    cases r with
    | error e =>
      obtain ⟨_, _, _, _, _, _, _, _, _, _, _, _, z⟩ := (show L2.CX P w [] J t0 (fun _ _ _ => False) e t from hr)
      exact z.elim
    | ok fl =>
      cases fl with
      | next => exact hr.elim
      | brk => exact hr.elim
      | cont => exact hr.elim
      | ret u =>
        obtain ⟨v, J', os1, bare1, un1, ok2, rv, qv⟩ := hr
        obtain rfl : v = .bl true := qv
        obtain rfl : u = Value.bool true := rv
        refine ⟨rfl, OldK.of_keep fun b ob x => ?_, os1, bare1⟩
        cases z : J b with
        | none => exact un1.keep b ob x z (fun y => absurd (show b ∈ ([] : List Addr) from y) List.not_mem_nil) List.not_mem_nil
        | some u =>
          rcases only b with y | ⟨o1, xs, y⟩
          · rw [z] at y; cases y
          · obtain ⟨g1, _⟩ := ok1 b _ y
            obtain ⟨g2, _⟩ := ok2 b _ (un1.frzs b o1 _ y)
            rw [x] at g1
            cases g1
            exact g2
  cases lk : K.lookup sc with
  | some ob =>
    have x := kin sc ob lk
    rw [hsc] at x
    cases x
    exact main (fun _ => none) (fun _ => .inl rfl) (.inr ⟨_, ws.toArray, _, lk, rfl, rfl, rfl, by rw [List.size_toArray, lz]; exact few, by simpa using rz⟩) (fun b u z => by cases (show (none : Option HO) = some u from z)) (fun b z => absurd rfl z) fun z => absurd rfl z
  | none =>
    let ob : Obj := { cls := .type "list", data := .seq ws.toArray }
    refine main (fun b => if b = sc then some (.frz ob (.lst (zs.map V.int))) else none) (fun b => ?_) (.inl (.inr ⟨ob, if_pos rfl⟩)) (fun b u z => ?_) (fun b z => ?_) fun _ => lk
    · by_cases hb : b = sc
      · exact .inr ⟨_, _, if_pos hb⟩
      · exact .inl (if_neg hb)
    · by_cases hb : b = sc
      · cases (if_pos hb).symm.trans z
        subst hb
        exact ⟨hsc, by rw [List.length_map]; exact few, ws, _, rz, hsc⟩
      · cases (if_neg hb).symm.trans z
    · by_cases hb : b = sc
      · exact hb
      · exact absurd (if_neg hb) z
theorem walkG {l : PySem.W.OpenLaw} {n k : Nat} {q : Program} {loose : List Str} {XP : (Str → Option Value) → Heap → Prop} {YP : World → Heap → Prop} {d : DefRec} {F : FN} (hn : l.most = some n) (hn2 : n ≤ sizeLine) (hdf : d.params.defaults = []) (room : Room k callerA)
    (C : ∀ (w : World) (mg : Str → Option Value) (fL : Addr) (h : Heap), YP w h → h.Ns mainGlobals mg → mg d.name = some (.ref fL) → ∃ K : PySem.W.Frag, K.In h ∧ ∀ base : Heap, K.In base → base.Ns mainGlobals mg → FnG l.prog w K mg base k fL false false F)
    (hF : ∀ zs : List Int, zs.length ≤ n → ∃ o, F [.scr (zs.map D.int)] = .rt (.bl true) o) : PySem.W.WalkO q loose XP YP l.row.toRowW d [] (fun f vs => PySem.call f vs) := by
  refine Att.attach_call hn hdf fun w t1 t0 mg mB fL o pm cd doc sc ws zs G Y ho hd hcd hmg hobj hints hlen hg => ?_
  obtain ⟨K, kin, hC⟩ := C w mg fL _ Y G.T.g hmg
  obtain ⟨o', e⟩ := hF zs hlen
  exact lawG kin G.T.g G.T.b G.T.builtins G.T.nolimit hg hobj hints (Nat.le_trans hlen hn2) room hC e
abbrev Ok (P : Program) (w : World) (K : PySem.W.Frag) (mg : Str → Option Value) (k : Nat) (x : Str) (io fr : Bool) (F : FN) : Prop := ∀ base : Heap, FnG P w K mg base k (He.ga K x) io fr F

theorem guards_deeper {A : Around} {e : Env} (h : A.guards = some []) : (A.deeper e).guards = some [] := h
theorem Room.u64 {k : Nat} {A : Around} (r : Room k A) : A.units + 64 < cLine := by have := r.un; omega
theorem Room.u65 {k : Nat} {A : Around} (r : Room k A) : A.units + 65 < cLine := by have := r.un; omega
section
variable {X : Cx} {G : Gd} {XC : List Nat → Prop} {Ol O O' O1 : List Nat} {W : WX} {fr : Bool} {a b c e o : Expr} {es : List Expr} {ma mb mc me mo : ME} {mr : MA} {pos p apos : Pos} {x y : Str}
theorem v_ (i : Nat) {x : Str} {pos : Pos} (hO : O.contains i = false := by rfl) (hN : X.N[i]? = some x := by rfl) (hv : Vis X.env.scope x := by first | exact Or.inl rfl | exact Or.inr (Or.inl rfl) | exact Or.inr (Or.inr rfl))
    (hd : (x == ("__debug__" : Str)) = false := by decide) (hcd : (x == ("__classdict__" : Str)) = false := by decide) : DE X G O W (.Name x pos) (mVar i) := de_var i hO hN hv hd hcd
theorem gv_ {x : Str} {d : D} {v : V} {u : Value} (hm : X.mg x = some u) (ru : RelV v u) (hr : ∀ A H, Rp X.K A H v d) (hg : Gl X x := by rfl) (hd : (x == ("__debug__" : Str)) = false := by decide) : DE X G O W (.Name x pos) (mK d) := de_c (pe_glob hg hm ru hd) hr
theorem pm (op : CmpOp) (b : Expr) (h : behindInMarks op b = false := by rfl) : behindInMarks op b = false := h
end
end DL
namespace DL
open L2 PySem PySem.Spec PyProof.Rows
section
variable {X : Cx} {G : Gd} {XC : List Nat → Prop} {Ol O O' O1 : List Nat} {W : WX} {fr : Bool} {a b c e o : Expr} {es : List Expr} {ma mb mc me mo : ME} {mr : MA} {pos p apos : Pos} {x y : Str}
theorem tE_tF {K : PySem.W.Frag} {m : ME} {σ : L2.St} {H : Hp} {Q : VK} (h : tE K G O W m σ H Q) : tF K G O W m σ H Q := by
  obtain ⟨A, ms, ρ, R, q⟩ := h
  refine ⟨A, ms, ρ, R, ?_⟩
  cases hm : m ρ with
  | bad => rw [hm] at q; exact q.elim
  | ex x ρ1 => rw [hm] at q; exact q
  | ok d ρ1 =>
    rw [hm] at q
    intro p H' R' _ k hp ow
    have np : ¬ A p := Trk.no (fun a z => R.trk a z) hp
    exact q (.ref p) H' R' k (ow.freeze (fun a z => .inl z) np)
theorem put_post {K : PySem.W.Frag} {i : Nat} {D0 : Ends} {σ : L2.St} {H : Hp} (hx : XC O) (oi : O.contains i = false) (h : tS K G XC Ol O O W fr (msAsg me (mgName i)) D0 σ H) : tAsg (tE K G O W me) (gName i) D0 σ H := by
  obtain ⟨A, ms, ρ, R, q⟩ := h
  have ni : i ∉ O := fun z => by rw [List.contains_iff_mem.mpr z] at oi; cases oi
  refine ⟨A, ms, ρ, R, eb hx q ?_⟩
  intro d ρ1 v H1 _ R1 k r q1
  unfold mgName at q1
  split at q1
  · rename_i ρ2 he
    split at he
    · rename_i hlt
      cases he
      exact q1 _ H1 A ms (R1.put ni hlt r) Tr.refl
    · cases he
  · exact q1.elim
theorem own_post {K : PySem.W.Frag} {i : Nat} {D0 : Ends} {σ : L2.St} {H : Hp} (hx : XC O) (hi : O.contains i = true) (h0 : i ≠ 0 ∨ G.io = none) (hpx : NPx G i) (h : tS K G XC Ol O O W fr (msOwn i me) D0 σ H) : tAsg (tF K G O W me) (gName i) D0 σ H := by
  obtain ⟨A, ms, ρ, R, q⟩ := h
  refine ⟨A, ms, ρ, R, ?_⟩
  unfold msOwn at q
  cases hm : me ρ with
  | bad => rw [hm] at q; exact q.elim
  | ex y ρ1 => rw [hm] at q; exact fun dx H1 R1 k xr => q dx σ H1 A ms O hx R1 (R1.kt k) xr
  | ok d ρ1 =>
    rw [hm] at q
    intro r H1 R1 R2 k hr ow
    have q' : SPost K G XC Ol O W fr A H D0 (if i < ρ1.length then .nx (ρ1.set i (some d)) else .bad) := q
    split at q'
    · rename_i hlt
      refine q' _ H1 _ _ (R2.own (List.contains_iff_mem.mp hi) h0 hlt (R.msne hr) hpx (h0_none R hr) ow) fun a o e n => ⟨(R1.kt k a o e n).1, fun z => z.elim n fun z => ?_⟩
      rw [z, hr] at e
      cases e
    · exact q'.elim
section
variable {i : Nat} {py spos : Pos} {elt tg iter : Expr} {ifs : List Expr} {scope : Scope} {own : List (Str × Nat)} {mi : En → R (List D)} {g : MG} {mt : MT} {tt : TT}
theorem ds_setLc (hx : XC O) (oi : O.contains i = false) (hc : X.calm = true) (hN : X.N.Nodup) (hy : X.N[i]? = some y) (hyl : X.env.scope.names.lookup y = some .local) (hsw : swapsWith (.ListComp elt [⟨tg, iter, ifs, 0⟩] scope pos) (some (.Name y py)) spos.line X.env = pure true) (hv : (ownS own).all (fun i => !O.contains i) = true)
    (hi : DI X G O W tg iter mi) (ok : BlkOk X.N X.env.scope scope own)
    (hg : ∀ (s : Shared) (H : Hp) (C : Addr) (cl : List (Str × Addr)) (fp : List Addr), DG (X.blk s H scope (compEnvC scope cl C X.env) fp) G O (ownS own) tg g)
    (ht : ∀ (s : Shared) (H : Hp) (C : Addr) (cl : List (Str × Addr)) (fp : List Addr), PTs (X.blk s H scope (compEnvC scope cl C X.env) fp) ifs tt) (htt : ∀ σ H Q, tT X.K G O W0 mt σ H Q → tt σ H Q)
    (he : ∀ (s : Shared) (H : Hp) (C : Addr) (cl : List (Str × Addr)) (fp : List Addr), DE (X.blk s H scope (compEnvC scope cl C X.env) fp) G O W0 elt me) (hs : ∀ x, foldedSetIterable iter X.env x = pure x := by intro _; rfl) :
    DS X G XC Ol O O W fr (.Assign [.Name y py] (.ListComp elt [⟨tg, iter, ifs, 0⟩] scope pos) spos) (msAsg (mLc (ownS own) mi g mt me) (mgName i)) :=
  ps_imp (ps_setLc (te := tE X.K G O W0 me) (tt := tt) (g := tG X.K G O (ownS own) g) hc hN hy hyl hsw hi ok hg ht he hs) fun D0 σ H h => lc_go (W := W) hv htt (tE_tF (put_post hx oi h))
theorem ds_ownLc (hx : XC O) (oi : O.contains i = true) (h0 : i ≠ 0 ∨ G.io = none) (hc : X.calm = true) (hN : X.N.Nodup) (hy : X.N[i]? = some y) (hyl : X.env.scope.names.lookup y = some .local) (hsw : swapsWith (.ListComp elt [⟨tg, iter, ifs, 0⟩] scope pos) (some (.Name y py)) spos.line X.env = pure true) (hv : (ownS own).all (fun i => !O.contains i) = true)
    (hi : DI X G O W tg iter mi) (ok : BlkOk X.N X.env.scope scope own)
    (hg : ∀ (s : Shared) (H : Hp) (C : Addr) (cl : List (Str × Addr)) (fp : List Addr), DG (X.blk s H scope (compEnvC scope cl C X.env) fp) G O (ownS own) tg g)
    (ht : ∀ (s : Shared) (H : Hp) (C : Addr) (cl : List (Str × Addr)) (fp : List Addr), PTs (X.blk s H scope (compEnvC scope cl C X.env) fp) ifs tt) (htt : ∀ σ H Q, tT X.K G O W0 mt σ H Q → tt σ H Q)
    (he : ∀ (s : Shared) (H : Hp) (C : Addr) (cl : List (Str × Addr)) (fp : List Addr), DE (X.blk s H scope (compEnvC scope cl C X.env) fp) G O W0 elt me) (hs : ∀ x, foldedSetIterable iter X.env x = pure x := by intro _; rfl)
    (hpx : NPx G i := by first | exact NPx.no rfl | assumption) :
    DS X G XC Ol O O W fr (.Assign [.Name y py] (.ListComp elt [⟨tg, iter, ifs, 0⟩] scope pos) spos) (msOwn i (mLc (ownS own) mi g mt me)) :=
  ps_imp (ps_setLc (te := tE X.K G O W0 me) (tt := tt) (g := tG X.K G O (ownS own) g) hc hN hy hyl hsw hi ok hg ht he hs) fun D0 σ H h => lc_go (W := W) hv htt (own_post hx oi h0 hpx h)
end
theorem takes0 (h : X.xe = fun _ _ => False) : Takes X W0 := fun u s' ⟨_, _, _, _, _, _, _, _, _, _, _, _, _, _, _, _, z⟩ => z.elim
end
end DL
namespace DL
open L2 PySem PySem.Spec PyProof.Rows

abbrev XF := PySem.W.Frag → Bool
def obX (fa : List He.Fa) (xf : XF) (fn : List He.DefD) (K : PySem.W.Frag) : He.AlD := (xf K && ((fa.all fun f => f.ok K) && fn.all fun d => d.ok K), fn.map fun d => He.fnW K d.at_)
def SaysX (fa : List He.Fa) (xf : XF) (fn : List He.DefD) (K : PySem.W.Frag) : Prop := obX fa xf fn K = He.valD fn
def obXG (n : Nat) (fa : List He.Fa) (xf : XF) (fn : List He.DefD) (g : Addr → Option Obj) : He.AlD := obX fa xf fn (He.frG g (He.asD g n))
def hookX (n : Nat) (fa : List He.Fa) (xf : XF) (fn : List He.DefD) : PySem.W.Hook where
  α := He.AlD
  obs := fun t => obXG n fa xf fn t.heap.get?
  val := fun _ => He.valD fn
  says := fun _ hp => ∃ K : PySem.W.Frag, K.In hp ∧ SaysX fa xf fn K
  of := fun _ _ z => ⟨_, He.frG_in, z⟩
  keeps := fun _ _ _ ⟨K, z, c⟩ k => ⟨K, PySem.W.Frag.In.keeps z k, c⟩
theorem obXG_eq {n : Nat} {fa : List He.Fa} {xf : XF} {fn : List He.DefD} {g : Addr → Option Obj} {t : Shared} (h : ∀ a, g a = t.heap.get? a) : obXG n fa xf fn g = (hookX n fa xf fn).obs t := by
  have z : g = t.heap.get? := funext h
  rw [z] <;> rfl
section
variable {fa : List He.Fa} {xf : XF} {fn : List He.DefD} {K : PySem.W.Frag}
theorem SaysX.x1 (c : SaysX fa xf fn K) : xf K = true := (He.ba (show (xf K && ((fa.all fun f => f.ok K) && fn.all fun d => d.ok K)) = true from congrArg (fun z : He.AlD => z.1) c)).1
theorem SaysX.d (c : SaysX fa xf fn K) : He.SaysD fa fn K := by
  have c1 : (xf K && ((fa.all fun f => f.ok K) && fn.all fun d => d.ok K)) = true := congrArg (fun z : He.AlD => z.1) c
  have c2 : (fn.map fun d => He.fnW K d.at_) = fn.map He.DefD.val := congrArg (fun z : He.AlD => z.2) c
  exact Prod.ext (He.ba c1).2 c2
end
def excB (K : PySem.W.Frag) (x : Str) : Bool :=
  decide (PySem.W.findIn K (.ref (He.ga K x)) "__getattribute__" = some (some (.builtin "BaseException.__getattribute__"))) && (decide (PySem.W.findIn K (.ref (He.ga K x)) "__getattr__" = some none) && (decide (PySem.W.subIn K (.ref (He.ga K x)) (.type "BaseException") = some true) &&
    (PySem.W.hasDictIn K (He.ga K x) && (decide (PySem.W.findIn K (.ref (He.ga K x)) "__class__" = some (some (.builtin "object.__class__"))) && (decide (PySem.W.specialIn K (.builtin "object.__class__") "__get__" = some (some (.builtin "getset_descriptor.__get__"))) &&
      (decide (PySem.W.takesIn K (.builtin "object.__class__") = some true) && decide (PySem.W.mroIn K (He.ga K x) (.type "object") = some true)))))))
theorem excB_ok {K : PySem.W.Frag} {x : Str} (h : excB K x = true) : ExcC K (He.ga K x) := by
  unfold excB at h
  obtain ⟨h1, h⟩ := He.ba h
  obtain ⟨h2, h⟩ := He.ba h
  obtain ⟨h3, h⟩ := He.ba h
  obtain ⟨h4, h⟩ := He.ba h
  obtain ⟨h5, h⟩ := He.ba h
  obtain ⟨h6, h⟩ := He.ba h
  obtain ⟨h7, h8⟩ := He.ba h
  exact ⟨of_decide_eq_true h1, of_decide_eq_true h2, of_decide_eq_true h3, h4, of_decide_eq_true h5, of_decide_eq_true h6, of_decide_eq_true h7, of_decide_eq_true h8⟩
def kitB (K : PySem.W.Frag) (x y : Str) (b : Bool) : Bool := decide (PySem.W.kitOne K (.ref (He.ga K x)) (.ref (He.ga K y)) = some b)
theorem kitB_ok {K : PySem.W.Frag} {x y : Str} {b : Bool} (h : kitB K x y b = true) : PySem.W.kitOne K (.ref (He.ga K x)) (.ref (He.ga K y)) = some b := of_decide_eq_true h
theorem supB_ok {K : PySem.W.Frag} {x : Str} {vs : List He.Dv} (h : He.tupB K x vs = true) (A : Addr → Prop) (H : Hp) : SqTA K A H (He.ga K x) (vs.map (He.Dv.v K)) := by
  have h0 := He.tupB_ok h (fun _ => none)
  rcases h0 with h0 | h0
  · rcases h0 with z | ⟨o, z⟩ <;> cases z
  · exact .inr h0
section
variable {X : Cx} {G : Gd} {XC : List Nat → Prop} {Ol O O' O1 : List Nat} {W : WX} {fr : Bool} {a b c e o : Expr} {es : List Expr} {ma mb mc me mo : ME} {mr : MA} {pos p apos : Pos} {x y : Str}
theorem gi_ {x : Str} {i : Int} (hm : ∃ t, X.mg x = some (.int i t)) (hg : Gl X x := by rfl) (hd : (x == ("__debug__" : Str)) = false := by decide) : DE X G O W (.Name x pos) (mK (.int i)) := by
  obtain ⟨t, e⟩ := hm
  exact gv_ (v := .int i) e ⟨t, rfl⟩ (fun _ _ => .int i) hg hd
theorem gs_ {x z : Str} (hm : ∃ t, X.mg x = some (.str z t)) (hg : Gl X x := by rfl) (hd : (x == ("__debug__" : Str)) = false := by decide) : DE X G O W (.Name x pos) (mK (.str z)) := by
  obtain ⟨t, e⟩ := hm
  exact gv_ (v := .str z) e ⟨t, rfl⟩ (fun _ _ => .str z) hg hd
theorem gt_ {x : Str} {vs : List He.Dv} {ds : List D} (hm : X.mg x = some (.ref (He.ga X.K x))) (hS : He.tupB X.K x vs = true) (hR : ∀ A H, RpA X.K A H (vs.map (He.Dv.v X.K)) ds) (hg : Gl X x := by rfl) (hd : (x == ("__debug__" : Str)) = false := by decide) : DE X G O W (.Name x pos) (mK (.tup ds)) :=
  gv_ (v := .ref (He.ga X.K x)) hm rfl (fun A H => .tup (supB_ok hS A H) (hR A H)) hg hd
theorem gf_ {x : Str} (hm : X.mg x = some (.ref (He.ga X.K x))) (hg : Gl X x := by rfl) (hd : (x == ("__debug__" : Str)) = false := by decide) : DE X G O W (.Name x pos) (mK (.fn x)) := de_fn hg hm hd
structure ExcOk (K : PySem.W.Frag) (mg : Str → Option Value) (C : Str) : Prop where
  ex : PySem.W.excIn K (He.ga K C) He.veBase "ValueError.__new__" = true
  kp : PySem.W.keepIn K (.ref (He.ga K C)) = true
  bs : PySem.W.subIn K (.ref (He.ga K C)) (.type "BaseException") = some true
  ty : PySem.W.typeIn K (.ref (He.ga K C)) = some (.type "type")
  gl : mg C = some (.ref (He.ga K C))
theorem ds_raiseC {C m : Str} {j : Nat} {p2 pos2 : Pos} (ec : ExcOk X.K X.mg C) (hx : XC O) (tk : Takes X W) (hc : X.calm = true := by rfl) (hg : Gl X C := by rfl) (hdb : (C == ("__debug__" : Str)) = false := by decide) : DS X G XC Ol O O' W fr (.Raise (some (.Call (.Name C p) [.Constant (.str m) j p2] [] pos2)) none pos) (msRaise C) :=
  ds_raise hx hc tk (pmk_own PySem.F.excBase_ValueError ec.ex ec.gl ec.kp (raises_own ec.bs ec.ty) hg hdb)
theorem callIsE {k : Str} {a : Addr} {oe : Obj} {pn : List (Addr × Obj)} (C : ExcC X.K (He.ga X.K k)) (hz : Zc (.ref (He.ga X.K k)) none oe) (hf : ∃ vs, oe.data = .fields vs) : CallR (X.suite a ((a, oe) :: pn)) (.builtin "isinstance") (rIsE X.K (He.ga X.K k) a) := call_isE C hz hf
end

theorem no_gEq : NoObj gEq := ⟨fun c fs z => by cases z <;> rfl, fun c fs z => by
  cases z with
  | tup l => show (match (D.tup l).py, (D.obj c fs).py with | some x, some y => if SeqAt.shaped x = true ∧ SeqAt.shaped y = true then some (PyData.eqv x y) else none | _, _ => none).map D.bl = none; cases (D.tup l).py <;> rfl
  | lst l => show (match (D.lst l).py, (D.obj c fs).py with | some x, some y => if SeqAt.shaped x = true ∧ SeqAt.shaped y = true then some (PyData.eqv x y) else none | _, _ => none).map D.bl = none; cases (D.lst l).py <;> rfl
  | _ => rfl⟩
theorem no_gNe : NoObj gNe := ⟨fun c fs z => by cases z <;> rfl, fun c fs z => by
  cases z with
  | tup l => show (match (D.tup l).py, (D.obj c fs).py with | some x, some y => if SeqAt.shaped x = true ∧ SeqAt.shaped y = true then some (PyData.eqv x y) else none | _, _ => none).map (fun k => D.bl (!k)) = none; cases (D.tup l).py <;> rfl
  | lst l => show (match (D.lst l).py, (D.obj c fs).py with | some x, some y => if SeqAt.shaped x = true ∧ SeqAt.shaped y = true then some (PyData.eqv x y) else none | _, _ => none).map (fun k => D.bl (!k)) = none; cases (D.lst l).py <;> rfl
  | _ => rfl⟩
theorem no_gIn : NoObj gIn := ⟨fun c fs z => by cases z <;> rfl, fun c fs z => by cases z <;> rfl⟩
theorem no_gNotIn : NoObj gNotIn := ⟨fun c fs z => by cases z <;> rfl, fun c fs z => by cases z <;> rfl⟩
theorem no_gAdd : NoObj gAdd := ⟨fun c fs z => by cases z <;> rfl, fun c fs z => by cases z <;> rfl⟩
theorem no_gMul : NoObj gMul := ⟨fun c fs z => by cases z <;> rfl, fun c fs z => by cases z <;> rfl⟩
def gIAdd (a b : D) : Option D := match a, b with
  | .int i, .int j => some (.int (i + j))
  | .str x, .str y => if x.length + y.length ≤ sizeLine then some (.str (x ++ y)) else none
  | _, _ => none
theorem oi_add {X : Cx} : OpR X (inplaceOp .Add) (rD2 X.K gIAdd) := by
  intro pins s σ H x y v u Q I rx ry ⟨A, a, b, d, t, pa, pb, e, q⟩
  cases a with
  | int i =>
    cases b with
    | int j =>
      cases e
      rw [pa.int] at rx
      rw [pb.int] at ry
      exact iop_add pins s σ H _ _ v u Q I rx ry ⟨i, j, rfl, rfl, q _ _ (Same.refl _) (.int _)⟩
    | _ => cases e
  | str i =>
    cases b with
    | str j =>
      obtain ⟨hz, rfl⟩ := ite_d (x := .str (i ++ j)) e
      rw [pa.str] at rx
      rw [pb.str] at ry
      exact iop_add_str pins s σ H _ _ v u Q I rx ry ⟨i, j, rfl, rfl, hz, q _ _ (Same.refl _) (.str _)⟩
    | _ => cases e
  | _ => cases b <;> cases e
section
variable {P : Program} {w : World} {K : PySem.W.Frag} {mg : Str → Option Value} {base : Heap} {N : List Str} {qual : Str} {scope : Scope} {f : Addr} {cdv : Value} {A : Around} {outer : List Env} {s : Shared} {H : Hp} {E : XK}
theorem cx_tk : Takes (cxOf (L2.CX P w) P w K mg base N qual scope f cdv A outer s H E) (fun cls d _ H' => E cls d H') := takes_of rfl rfl rfl rfl
theorem cx_pw : PassesOwn (model (cxOf (L2.CX P w) P w K mg base N qual scope f cdv A outer s H E).prog (cxOf (L2.CX P w) P w K mg base N qual scope f cdv A outer s H E).w) (cxOf (L2.CX P w) P w K mg base N qual scope f cdv A outer s H E).A (cxOf (L2.CX P w) P w K mg base N qual scope f cdv A outer s H E).env (cxOf (L2.CX P w) P w K mg base N qual scope f cdv A outer s H E).xe := passes_of rfl
end
end DL
namespace DL
open L2 PySem PySem.Spec PyProof.Rows

def Ret.R (r : Ret) (ρ : En) : R D := match r with
  | .rt d _ => .ok d ρ
  | .ex x _ => .ex x ρ
  | .bad => .bad
theorem mCall_R (F : FN) (args : MA) (ρ : En) : mCall F args ρ = (args ρ).bind fun ds ρ1 => (F ds).R ρ1 := rfl
section
variable {ρ ρ1 : En} {d : D} {α β : Type} {x : Xn}
@[simp] theorem bind_ok (a : α) (r : En) (f : α → En → R β) : R.bind (.ok a r) f = f a r := rfl
@[simp] theorem bind_ex (x : Xn) (r : En) (f : α → En → R β) : R.bind (.ex x r : R α) f = .ex x r := rfl
@[simp] theorem obind_ok (a : α) (r : En) (f : α → En → Out) : obind (.ok a r) f = f a r := rfl
@[simp] theorem obind_ex (x : Xn) (r : En) (f : α → En → Out) : obind (.ex x r : R α) f = .ex x r := rfl
@[simp] theorem ret_some (a : α) : ret (some a) ρ = .ok a ρ := rfl
@[simp] theorem ret_none : ret (none : Option α) ρ = .bad := rfl
@[simp] theorem mK_ap : mK d ρ = .ok d ρ := rfl
@[simp] theorem mVar_ap (i : Nat) : mVar i ρ = match ρ[i]? with | some (some d) => .ok d ρ | _ => .bad := by unfold mVar; rfl
@[simp] theorem m1_ap (g : D → Option D) (a : ME) : m1 g a ρ = (a ρ).bind fun x ρ1 => ret (g x) ρ1 := rfl
@[simp] theorem m2_ap (g : D → D → Option D) (a b : ME) : m2 g a b ρ = (a ρ).bind fun x ρ1 => (b ρ1).bind fun y ρ2 => ret (g x y) ρ2 := rfl
@[simp] theorem mIf_ap (c : MT) (a b : ME) : mIf c a b ρ = (c ρ).bind fun k ρ1 => if k = true then a ρ1 else b ρ1 := by
  unfold mIf; cases c ρ with
  | ok k r => cases k <;> rfl
  | ex _ _ => rfl
  | bad => rfl
@[simp] theorem mTest_ap (m : ME) : mTest m ρ = (m ρ).bind fun x ρ1 => ret (asB x) ρ1 := rfl
@[simp] theorem asB_bl (b : Bool) : asB (.bl b) = some b := rfl
@[simp] theorem mTru_ap (m : ME) : mTru m ρ = (m ρ).bind fun x ρ1 => ret (tru x) ρ1 := rfl
@[simp] theorem mNotT_ap (m : MT) : mNotT m ρ = (m ρ).bind fun x ρ1 => .ok (!x) ρ1 := rfl
@[simp] theorem mAndT_ap (a b : MT) : mAndT a b ρ = (a ρ).bind fun k ρ1 => if k = true then b ρ1 else .ok false ρ1 := by
  unfold mAndT; cases a ρ with
  | ok k r => cases k <;> rfl
  | ex _ _ => rfl
  | bad => rfl
@[simp] theorem mOrT_ap (a b : MT) : mOrT a b ρ = (a ρ).bind fun k ρ1 => if k = true then .ok true ρ1 else b ρ1 := by
  unfold mOrT; cases a ρ with
  | ok k r => cases k <;> rfl
  | ex _ _ => rfl
  | bad => rfl
@[simp] theorem mNil_ap : mNil ρ = .ok [] ρ := rfl
@[simp] theorem mCons_ap (a : ME) (b : MA) : mCons a b ρ = (a ρ).bind fun x ρ1 => (b ρ1).bind fun xs ρ2 => .ok (x :: xs) ρ2 := rfl
@[simp] theorem mN_ap (g : List D → Option D) (a : MA) : mN g a ρ = (a ρ).bind fun xs ρ1 => ret (g xs) ρ1 := rfl
@[simp] theorem msNil_ap : msNil ρ = .nx ρ := rfl
@[simp] theorem msSeq_ap (a b : MS) : msSeq a b ρ = match a ρ with | .nx ρ1 => b ρ1 | o => o := rfl
@[simp] theorem msExpr_ap (m : ME) : msExpr m ρ = obind (m ρ) fun _ ρ1 => .nx ρ1 := rfl
@[simp] theorem msAsg_ap (m : ME) (g : MG) : msAsg m g ρ = obind (m ρ) fun d ρ1 => match g d ρ1 with | .ok _ ρ2 => .nx ρ2 | _ => .bad := rfl
@[simp] theorem msOwn_ap (i : Nat) (m : ME) : msOwn i m ρ = obind (m ρ) fun d ρ1 => if i < ρ1.length then .nx (ρ1.set i (some d)) else .bad := rfl
@[simp] theorem msRet_ap (m : ME) : msRet m ρ = obind (m ρ) fun d ρ1 => .rt d ρ1 := rfl
@[simp] theorem msRetN_ap : msRetN ρ = .rt .non ρ := rfl
@[simp] theorem msRetO_ap (j : Nat) : msRetO j ρ = match getO ρ j with | some d => .rt d ρ | none => .bad := rfl
@[simp] theorem msIf_ap (c : MT) (a b : MS) : msIf c a b ρ = obind (c ρ) fun k ρ1 => if k = true then a ρ1 else b ρ1 := rfl
@[simp] theorem msBrk_ap : msBrk ρ = .bk ρ := rfl
@[simp] theorem msCnt_ap : msCnt ρ = .ct ρ := rfl
@[simp] theorem msFor_ap (mi : En → R (List D)) (g : MG) (mb : MS) : msFor mi g mb ρ = obind (mi ρ) fun ds ρ1 => loopL g mb ds ρ1 := rfl
@[simp] theorem msWhile_ap (n : Nat) (c : MT) (mb : MS) : msWhile n c mb ρ = loopW c mb n ρ := rfl
@[simp] theorem msForget_ap (j : Nat) (m : MS) : msForget j m ρ = m (ρ.set j none) := rfl
@[simp] theorem msPar_ap (is : List Nat) (m : MA) : msPar is m ρ = obind (m ρ) fun ds ρ1 => putP is ds ρ1 := rfl
@[simp] theorem msRaise_ap (c : Str) : msRaise c ρ = .ex ⟨c, []⟩ ρ := rfl
@[simp] theorem mgName_ap (i : Nat) : mgName i d ρ = if i < ρ.length then .ok () (ρ.set i (some d)) else .bad := rfl
@[simp] theorem mgNil_ap : mgNil [] ρ = .ok () ρ := rfl
@[simp] theorem mgCons_ap (g : MG) (gs : List D → En → R Unit) (r : List D) : mgCons g gs (d :: r) ρ = (g d ρ).bind fun _ ρ1 => gs r ρ1 := rfl
@[simp] theorem mgTup_ap (n : Nat) (gs : List D → En → R Unit) (ds : List D) : mgTup n gs (.tup ds) ρ = if ds.length = n then gs ds ρ else .bad := rfl
@[simp] theorem putP_nil : putP [] [] ρ = .nx ρ := rfl
@[simp] theorem putP_cons (i : Nat) (is : List Nat) (ds : List D) : putP (i :: is) (d :: ds) ρ = if i < ρ.length then putP is ds (ρ.set i (some d)) else .bad := rfl
@[simp] theorem mItN_ap (g : List D → Option (List D)) (a : MA) : mItN g a ρ = (a ρ).bind fun ds ρ1 => ret (g ds) ρ1 := rfl
@[simp] theorem mIter_ap (m : ME) : mIter m ρ = (m ρ).bind fun d ρ1 => ret (gIter d) ρ1 := rfl
theorem getO_ap (j : Nat) : getO ρ j = match ρ[j]? with | some (some d) => some d | _ => none := by unfold getO; rfl
@[simp] theorem mOM_ap (g : List D → List D → Option (D × List D)) (j : Nat) (args : MA) : mOM g j args ρ = match getO ρ j with
  | some (.lst _) => (args ρ).bind fun ds ρ1 => match getO ρ1 j with
    | some (.lst cs) => match g cs ds with
      | some (z, cs') => .ok z (ρ1.set j (some (.lst cs')))
      | none => .bad
    | _ => .bad
  | _ => .bad := rfl
@[simp] theorem mTruO_ap (j : Nat) : mTruO j ρ = match getO ρ j with | some (.lst l) => .ok (!l.isEmpty) ρ | _ => .bad := rfl
theorem mCallIo_ap (F : FN) (j : Nat) (args : MA) : mCallIo F j args ρ = match getO ρ j with
  | none => .bad
  | some _ => (args ρ).bind fun ds ρ1 => match getO ρ1 j with
    | none => .bad
    | some c => match F (c :: ds) with
      | .rt d o => .ok d (ρ1.set j (some o))
      | .ex x o => .ex x (ρ1.set j (some o))
      | .bad => .bad := rfl
@[simp] theorem mCallV_ap (tab : Str → Option FN) (f : ME) (args : MA) : mCallV tab f args ρ = (f ρ).bind fun d ρ1 => match d with
  | .fn x => match tab x with
    | some F => mCall F args ρ1
    | none => .bad
  | _ => .bad := rfl
@[simp] theorem gTup_ap (xs : List D) : gTup xs = if xs.length ≤ sizeLine then some (.tup xs) else none := rfl
@[simp] theorem gLst_ap (xs : List D) : gLst xs = if xs.length ≤ sizeLine then some (.lst xs) else none := rfl
@[simp] theorem gAdd_ii (i j : Int) : gAdd (.int i) (.int j) = some (.int (i + j)) := rfl
@[simp] theorem gSub_ii (i j : Int) : gSub (.int i) (.int j) = some (.int (i - j)) := rfl
theorem gMul_ii (i j : Int) : gMul (.int i) (.int j) = if okMul i j = true then some (.int (i * j)) else none := rfl
theorem gDiv_ii (i j : Int) : gDiv (.int i) (.int j) = if j ≠ 0 ∧ j.natAbs.log2 < 9000 then some (.int (i.fdiv j)) else none := rfl
theorem gMod_ii (i j : Int) : gMod (.int i) (.int j) = if j ≠ 0 then some (.int (i.fmod j)) else none := rfl
@[simp] theorem gNeg_i (i : Int) : gNeg (.int i) = some (.int (-i)) := rfl
@[simp] theorem gLt_ii (i j : Int) : gLt (.int i) (.int j) = some (.bl (decide (i < j))) := rfl
@[simp] theorem gGt_ii (i j : Int) : gGt (.int i) (.int j) = some (.bl (decide (j < i))) := rfl
@[simp] theorem gLe_ii (i j : Int) : gLe (.int i) (.int j) = some (.bl (decide (i ≤ j))) := rfl
@[simp] theorem gGe_ii (i j : Int) : gGe (.int i) (.int j) = some (.bl (decide (j ≤ i))) := rfl
@[simp] theorem gEq_ii (i j : Int) : gEq (.int i) (.int j) = some (.bl (decide (i = j))) := rfl
@[simp] theorem gNe_ii (i j : Int) : gNe (.int i) (.int j) = some (.bl (!decide (i = j))) := rfl
@[simp] theorem gEq_ss (i j : Str) : gEq (.str i) (.str j) = some (.bl (decide (i = j))) := rfl
@[simp] theorem gNe_ss (i j : Str) : gNe (.str i) (.str j) = some (.bl (!decide (i = j))) := rfl
@[simp] theorem gIs_n (d : D) : gIs d .non = some (.bl (isNon d)) := by cases d <;> rfl
@[simp] theorem gIsNot_n (d : D) : gIsNot d .non = some (.bl (!isNon d)) := by cases d <;> rfl
@[simp] theorem gIs_b (a b : Bool) : gIs (.bl a) (.bl b) = some (.bl (decide (a = b))) := rfl
@[simp] theorem gIsNot_b (a b : Bool) : gIsNot (.bl a) (.bl b) = some (.bl (!decide (a = b))) := rfl
@[simp] theorem gInt_i (i : Int) : gInt [.int i] = some (.int i) := rfl
@[simp] theorem gInt_b (k : Bool) : gInt [.bl k] = some (.int (if k then 1 else 0)) := rfl
@[simp] theorem gAbs_i (i : Int) : gAbs [.int i] = some (.int (if i < 0 then -i else i)) := rfl
@[simp] theorem mAnd_ap (a b : ME) : mAnd a b ρ = (a ρ).bind fun x ρ1 => (ret (tru x) ρ1).bind fun k ρ2 => if k = true then b ρ2 else .ok x ρ2 := by
  unfold mAnd
  cases a ρ with
  | ok x r =>
    simp only [bind_ok]
    try (cases tru x with
    | none => rfl
    | some k => cases k <;> rfl)
  | ex _ _ => rfl
  | bad => rfl
@[simp] theorem tru_bl (b : Bool) : tru (.bl b) = some b := rfl
@[simp] theorem gIx_t (l : List D) (i : Int) : gIx (.tup l) (.int i) = L2.atI l i := rfl
@[simp] theorem gIx_l (l : List D) (i : Int) : gIx (.lst l) (.int i) = L2.atI l i := rfl
@[simp] theorem gRange1_i (j : Int) : gRange1 [.int j] = if okR j = true then some (rangeL 0 j.toNat) else none := rfl
@[simp] theorem Ret.R_rt (d o : D) : Ret.R (.rt d o) ρ = .ok d ρ := rfl
@[simp] theorem Ret.R_ex (x : Xn) (o : D) : Ret.R (.ex x o) ρ = .ex x ρ := rfl
theorem mLc_ap (vs : List Nat) (mi : En → R (List D)) (g : MG) (mt : MT) (me : ME) : mLc vs mi g mt me ρ = (mi ρ).bind fun ds ρ1 => match lcLoop vs g mt me ds ρ1 with
  | .ok ys ρ2 => if ys.length ≤ sizeLine then .ok (.lst ys) (restE ρ1 vs ρ2) else .bad
  | _ => .bad := rfl
theorem mTryAs_ap (mt : Str → Option Bool) (i : Nat) (mb : MS) (ms : Str → MS) : msTryAs mt i mb ms ρ = match mb ρ with
  | .ex y ρ1 => match mt y.c with
    | some true => match y.fs with
      | [] => if i < ρ1.length then fgt i (ms y.c (ρ1.set i none)) else .bad
      | _ => .bad
    | some false => .ex y ρ1
    | none => .bad
  | o => o := rfl
end

theorem lg {n k : Nat} (h : n < 2 ^ k) (hk : 0 < k) : n.log2 < k := by
  by_cases z : n = 0
  · subst z; simpa using hk
  · exact (Nat.log2_lt z).mpr h
theorem sm_mul {a b : Int} {i j : Nat} (h1 : a.natAbs < 2 ^ i) (h2 : b.natAbs < 2 ^ j) : (a * b).natAbs < 2 ^ (i + j) := by
  rw [Int.natAbs_mul, Nat.pow_add]
  exact Nat.mul_lt_mul'' h1 h2
theorem sm_add {a b : Int} {i : Nat} (h1 : a.natAbs < 2 ^ i) (h2 : b.natAbs < 2 ^ i) : (a + b).natAbs < 2 ^ (i + 1) := by
  have := Int.natAbs_add_le a b
  rw [Nat.pow_succ]
  omega
theorem sm_sub {a b : Int} {i : Nat} (h1 : a.natAbs < 2 ^ i) (h2 : b.natAbs < 2 ^ i) : (a - b).natAbs < 2 ^ (i + 1) := by
  rw [Nat.pow_succ]
  omega
theorem sm_up {a : Int} {i j : Nat} (h : a.natAbs < 2 ^ i) (l : i ≤ j) : a.natAbs < 2 ^ j := Nat.lt_of_lt_of_le h (Nat.pow_le_pow_right (by decide) l)
theorem okMul_of {a b : Int} {i j : Nat} (h1 : a.natAbs < 2 ^ i) (h2 : b.natAbs < 2 ^ j) (hi : 0 < i) (hj : 0 < j) (h : i + j < 100000000) : okMul a b = true := by
  unfold okMul
  have := lg h1 hi
  have := lg h2 hj
  exact decide_eq_true (by omega)
theorem gMul_sm {a b : Int} {i j : Nat} (h1 : a.natAbs < 2 ^ i) (h2 : b.natAbs < 2 ^ j) (hi : 0 < i) (hj : 0 < j) (h : i + j < 100000000) : gMul (.int a) (.int b) = some (.int (a * b)) := by rw [gMul_ii, if_pos (okMul_of h1 h2 hi hj h)]
theorem gDiv_sm {a b : Int} {j : Nat} (h0 : b ≠ 0) (h2 : b.natAbs < 2 ^ j) (hj : 0 < j) (h : j ≤ 9000) : gDiv (.int a) (.int b) = some (.int (a.fdiv b)) := by
  rw [gDiv_ii, if_pos ⟨h0, Nat.lt_of_lt_of_le (lg h2 hj) h⟩]
theorem gMod_nz {a b : Int} (h0 : b ≠ 0) : gMod (.int a) (.int b) = some (.int (a.fmod b)) := by rw [gMod_ii, if_pos h0]
end DL
namespace DL
open L2 PySem PySem.Spec PyProof.Rows

def mqNumber : MS := (msSeq (msIf (mTest (m2 gLt (mVar 0) (mK (.int 0)))) (msRet (m2 gSub (mK (.int 0)) (mVar 0))) msNil) (msRet (mVar 0)))
def qNumber : FN := runM 1 1 [] false mqNumber
def mqInner : MS := (msSeq (msIf (mTest (m2 gEq (mVar 3) (mK (.int 0)))) msBrk msNil) (msSeq (msExpr (mOM gAppend 1 (mCons (m2 gMod (mN gInt (mCons (mVar 3) mNil)) (mK (.int 1000))) mNil))) (msAsg (m2 gDiv (mVar 3) (mK (.int 1000))) (mgName 3))))
def mqBody : MS := (msSeq (msAsg (mCall qNumber (mCons (mVar 2) mNil)) (mgName 3)) (msIf (mTest (m2 gGe (mVar 3) (mK (.int 1000000000000000000)))) (msFor (mItN gRange1 (mCons (mK (.int 60)) mNil)) (mgName 4) mqInner) (msSeq (msAsg (m2 gMod (mN gInt (mCons (m2 gAdd (m2 gMul (mVar 3) (mK (.int 48271))) (mK (.int 11))) mNil)) (mK (.int 2147483647))) (mgName 5)) (msSeq (msAsg (m2 gMod (mN gInt (mCons (m2 gAdd (m2 gMul (mVar 5) (mK (.int 69621))) (mVar 3)) mNil)) (mK (.int 2147483629))) (mgName 6)) (msExpr (mOM gExtend 1 (mCons (mN gLst (mCons (m2 gMod (mN gInt (mCons (mVar 3) mNil)) (mK (.int 1000))) (mCons (m2 gMod (mN gInt (mCons (mVar 5) mNil)) (mK (.int 1000))) (mCons (m2 gMod (mN gInt (mCons (mVar 6) mNil)) (mK (.int 1000))) mNil)))) mNil)))))))
def mqDraws : MS := (msForget 1 (msSeq (msOwn 1 (mN gLst mNil)) (msSeq (msFor (mIter (mVar 0)) (mgName 2) mqBody) (msRetO 1))))
def qDraws : FN := runM 7 1 [] true mqDraws
def mqNext : MS := (msSeq (msIf (mTruO 0) (msRet (mOM gPop 0 mNil)) msNil) (msRet (mK (.int 0))))
def qNext : FN := runM 1 1 [] false mqNext
theorem qNumber_v (n : Int) (ρ : En) : (qNumber [.int n]).R ρ = .ok (.int (if n < 0 then -n else n)) ρ := by
  by_cases h : n < 0
  · simp [qNumber, runM, mqNumber, pad, h]
  · simp [qNumber, runM, mqNumber, pad, h]
theorem getO_1 (a : Option D) (d : D) (r : En) : getO (a :: some d :: r) 1 = some d := rfl
theorem getO_0 (d : D) (r : En) : getO (some d :: r) 0 = some d := rfl
def drawI (l : List Int) : Int := l.getLastD 0
theorem qNext_v (l : List Int) : qNext [.lst (l.map .int)] = .rt (.int (drawI l)) (.lst (l.dropLast.map .int)) := by
  rcases List.eq_nil_or_concat l with h | ⟨r, z, h⟩
  · subst h; rfl
  · subst h
    simp [qNext, runM, mqNext, pad, getO_0, gPop, drawI, io0]
theorem inner_v (s : Option D) (o2 o4 o5 o6 : Option D) : ∀ (ds : List D) (acc : List Int) (n : Int), acc.length + ds.length < sizeLine →
    ∃ (acc' : List Int) (n' : Int) (o4' : Option D), loopL (mgName 4) mqInner ds [s, some (.lst (acc.map .int)), o2, some (.int n), o4, o5, o6] = .nx [s, some (.lst (acc'.map .int)), o2, some (.int n'), o4', o5, o6] ∧ acc'.length ≤ acc.length + ds.length := by
  intro ds
  induction ds generalizing o4 with
  | nil => exact fun acc n _ => ⟨acc, n, o4, rfl, Nat.le_refl _⟩
  | cons d r ih =>
    intro acc n h
    rw [List.length_cons] at h
    by_cases hn : n = 0
    · subst hn
      refine ⟨acc, 0, some d, ?_, by omega⟩
      simp [loopL, mqInner]
    · obtain ⟨acc', n', o4', e, l⟩ := ih (some d) (acc ++ [n.fmod 1000]) (n.fdiv 1000) (by rw [List.length_append, List.length_singleton]; omega)
      refine ⟨acc', n', o4', ?_, by rw [List.length_append, List.length_singleton] at l; rw [List.length_cons]; omega⟩
      rw [← e]
      have h1 : acc.length < sizeLine := by omega
      have h2 : ∀ x : Int, gDiv (.int x) (.int 1000) = some (.int (x.fdiv 1000)) := fun x => gDiv_sm (j := 10) (by decide) (by decide) (by decide) (by decide)
      simp [loopL, mqInner, hn, getO_1, gAppend, gMod_ii, h1, h2]
theorem body_v (s : Option D) : ∀ (cells acc : List Int) (o2 o3 o4 o5 o6 : Option D), acc.length + 60 * cells.length < sizeLine →
    ∃ (acc' : List Int) (o2' o3' o4' o5' o6' : Option D), loopL (mgName 2) mqBody (cells.map .int) [s, some (.lst (acc.map .int)), o2, o3, o4, o5, o6] = .nx [s, some (.lst (acc'.map .int)), o2', o3', o4', o5', o6'] ∧ acc'.length ≤ acc.length + 60 * cells.length := by
  intro cells
  induction cells with
  | nil => exact fun acc o2 o3 o4 o5 o6 _ => ⟨acc, o2, o3, o4, o5, o6, rfl, Nat.le_refl _⟩
  | cons c r ih =>
    intro acc o2 o3 o4 o5 o6 h
    rw [List.length_cons] at h
    rw [List.map_cons]
    by_cases hc : (1000000000000000000 : Int) ≤ (if c < 0 then -c else c)
    · obtain ⟨acc1, n1, o41, e1, l1⟩ := inner_v s (some (.int c)) o4 o5 o6 (rangeL 0 60) acc (if c < 0 then -c else c) (by
        have : (rangeL 0 60).length = 60 := by simp [rangeL]
        omega)
      have hl : (rangeL 0 60).length = 60 := by simp [rangeL]
      obtain ⟨acc', o2', o3', o4', o5', o6', e, l⟩ := ih acc1 (some (.int c)) (some (.int n1)) o41 o5 o6 (by omega)
      refine ⟨acc', o2', o3', o4', o5', o6', ?_, by rw [List.length_cons]; omega⟩
      rw [← e]
      have ok60 : okR 60 = true := by decide
      have e1' : loopL (mgName 4) mqInner (rangeL 0 60) [s, some (.lst (acc.map .int)), some (.int c), some (.int (if c < 0 then -c else c)), o4, o5, o6] = _ := e1
      have t60 : Int.toNat 60 = 60 := rfl
      simp only [loopL]
      simp [mqBody, mCall_R, qNumber_v, hc, ok60, e1']
    · have hs : (if c < 0 then -c else c).natAbs < 2 ^ 60 := by
        split <;> split at hc <;> omega
      have m1 := gMul_sm (a := if c < 0 then -c else c) (b := 48271) (i := 60) (j := 20) hs (by decide) (by decide) (by decide) (by decide)
      have p1 : ∀ x : Int, (x.fmod 2147483647).natAbs < 2 ^ 60 := fun x => by
        rw [Int.fmod_eq_emod_of_nonneg _ (by decide)]
        omega
      have m2' := fun x : Int => gMul_sm (a := x.fmod 2147483647) (b := 69621) (i := 60) (j := 20) (p1 x) (by decide) (by decide) (by decide) (by decide)
      obtain ⟨acc', o2', o3', o4', o5', o6', e, l⟩ := ih (acc ++ [(if c < 0 then -c else c).fmod 1000, ((((if c < 0 then -c else c) * 48271 + 11).fmod 2147483647)).fmod 1000, ((((((if c < 0 then -c else c) * 48271 + 11).fmod 2147483647) * 69621 + (if c < 0 then -c else c)).fmod 2147483629)).fmod 1000])
        (some (.int c)) (some (.int (if c < 0 then -c else c))) o4 (some (.int (((if c < 0 then -c else c) * 48271 + 11).fmod 2147483647))) (some (.int (((((if c < 0 then -c else c) * 48271 + 11).fmod 2147483647) * 69621 + (if c < 0 then -c else c)).fmod 2147483629))) (by simp; omega)
      refine ⟨acc', o2', o3', o4', o5', o6', ?_, by simp at l; rw [List.length_cons]; omega⟩
      rw [← e]
      have h3 : 3 ≤ sizeLine := by decide
      have h4 : acc.length + 3 ≤ sizeLine := by omega
      simp only [loopL]
      simp [mqBody, mCall_R, qNumber_v, hc, m1, m2', gMod_ii, getO_1, gExtend, h3, h4]
theorem qDraws_v (zs : List Int) (h : zs.length ≤ 63) : ∃ l : List Int, ∀ ρ, (qDraws [.scr (zs.map .int)]).R ρ = .ok (.lst (l.map .int)) ρ := by
  have hz : sizeLine = 16777216 := by decide
  obtain ⟨acc', o2', o3', o4', o5', o6', e, l⟩ := body_v (some (.scr (zs.map .int))) zs [] none none none none none (by simp; omega)
  refine ⟨acc', fun ρ => ?_⟩
  have e' : loopL (mgName 2) mqBody (zs.map .int) [some (.scr (zs.map .int)), some (.lst []), none, none, none, none, none] = _ := e
  have h0 : 0 ≤ sizeLine := by decide
  simp [qDraws, runM, mqDraws, pad, gIter, h0, e', getO_1]
end DL
namespace DL
open L2 PySem PySem.Spec PyProof.Rows

theorem eu_step {b r k : Nat} (hb : b < 2 ^ (k + 1)) (hr : 0 < r) (hrb : r < b) : b % r < 2 ^ k := by
  have h1 := Nat.mod_lt b hr
  rw [Nat.pow_succ] at hb
  by_cases h : 2 * r ≤ b
  · omega
  · have e : b % r = b - r := by rw [Nat.mod_eq_sub_mod (by omega), Nat.mod_eq_of_lt (by omega)]
    omega
theorem fmod_nat (a b : Nat) : (a : Int).fmod (b : Int) = ((a % b : Nat) : Int) := by
  rw [Int.fmod_eq_emod_of_nonneg _ (Int.natCast_nonneg b)]
  exact (Int.natCast_emod a b).symm
def mEuC : MT := mTest (m2 gNe (mVar 1) (mK (.int 0)))
def mEuB : MS := msPar [0, 1] (mCons (mVar 1) (mCons (m2 gMod (mVar 0) (mVar 1)) mNil))
theorem eu_zero (a n : Nat) : loopW mEuC mEuB (n + 1) [some (.int (a : Int)), some (.int ((0 : Nat) : Int))] = .nx [some (.int (a : Int)), some (.int 0)] := by
  simp [loopW, mEuC]
theorem eu_one {a b n : Nat} (hb : b ≠ 0) : loopW mEuC mEuB (n + 1) [some (.int (a : Int)), some (.int (b : Int))] = loopW mEuC mEuB n [some (.int (b : Int)), some (.int ((a % b : Nat) : Int))] := by
  have h : (b : Int) ≠ 0 := by omega
  rw [← fmod_nat]
  simp [loopW, mEuC, mEuB, h, gMod_nz h, hb]
theorem eu_loop : ∀ (k a b n : Nat), b < 2 ^ k → 2 * k + 1 ≤ n → loopW mEuC mEuB n [some (.int (a : Int)), some (.int (b : Int))] = .nx [some (.int (Nat.gcd a b : Nat)), some (.int 0)]
  | k, a, b, 0, _, h => by omega
  | 0, a, b, n + 1, hb, h => by
    obtain rfl : b = 0 := by simpa using hb
    rw [Nat.gcd_zero_right]
    exact eu_zero a n
  | k + 1, a, b, n + 1, hb, h => by
    by_cases b0 : b = 0
    · subst b0
      rw [Nat.gcd_zero_right]
      exact eu_zero a n
    · rw [eu_one b0]
      have g1 : Nat.gcd a b = Nat.gcd b (a % b) := by rw [Nat.gcd_comm a b, Nat.gcd_rec b a, Nat.gcd_comm]
      by_cases r0 : a % b = 0
      · rw [g1, r0, Nat.gcd_zero_right]
        obtain ⟨m, rfl⟩ : ∃ m, n = m + 1 := ⟨n - 1, by omega⟩
        exact eu_zero b m
      · have hrb := Nat.mod_lt a (Nat.pos_of_ne_zero b0)
        obtain ⟨m, rfl⟩ : ∃ m, n = m + 1 := ⟨n - 1, by omega⟩
        rw [eu_one r0]
        have g2 : Nat.gcd b (a % b) = Nat.gcd (a % b) (b % (a % b)) := by rw [Nat.gcd_comm b, Nat.gcd_rec (a % b) b, Nat.gcd_comm]
        rw [g1, g2]
        exact eu_loop k (a % b) (b % (a % b)) m (eu_step hb (Nat.pos_of_ne_zero r0) hrb) (by omega)
def mqDivisor : MS := (msSeq (msPar [0, 1] (mCons (mN gAbs (mCons (mVar 0) mNil)) (mCons (mN gAbs (mCons (mVar 1) mNil)) mNil))) (msSeq (msWhile 1000000 mEuC mEuB) (msRet (mVar 0))))
def qDivisor : FN := runM 2 2 [] false mqDivisor
theorem abs_cast (a : Int) : (if a < 0 then -a else a) = ((a.natAbs : Nat) : Int) := by split <;> omega
theorem qDivisor_v (a b : Int) (hb : b.natAbs < 2 ^ 8000) (ρ : En) : (qDivisor [.int a, .int b]).R ρ = .ok (.int (Int.gcd a b : Nat)) ρ := by
  have e := eu_loop 8000 a.natAbs b.natAbs 1000000 hb (by decide)
  rw [Int.gcd_eq_natAbs_gcd_natAbs]
  simp [qDivisor, runM, mqDivisor, pad, abs_cast, e]
def mEv : MS := (msSeq (msIf (mTest (m2 gEq (mVar 3) (mK (.int 0)))) msBrk msNil) (msPar [2, 3] (mCons (mVar 3) (mCons (m2 gMod (mN gInt (mCons (mVar 2) mNil)) (mVar 3)) mNil))))
theorem ev_zero (x y : Option D) (a : Nat) (o : Option D) : ∀ ds : List D, ∃ o', loopL (mgName 4) mEv ds [x, y, some (.int (a : Int)), some (.int ((0 : Nat) : Int)), o] = .nx [x, y, some (.int (a : Int)), some (.int 0), o']
  | [] => ⟨o, rfl⟩
  | d :: r => ⟨some d, by simp [loopL, mEv]⟩
theorem ev_one (x y : Option D) {a b : Nat} (o : Option D) (hb : b ≠ 0) (d : D) (ds : List D) : loopL (mgName 4) mEv (d :: ds) [x, y, some (.int (a : Int)), some (.int (b : Int)), o] = loopL (mgName 4) mEv ds [x, y, some (.int (b : Int)), some (.int ((a % b : Nat) : Int)), some d] := by
  have h : (b : Int) ≠ 0 := by omega
  rw [← fmod_nat]
  simp [loopL, mEv, h, gMod_nz h, hb]
theorem ev_loop (x y : Option D) : ∀ (k a b : Nat) (o : Option D) (ds : List D), b < 2 ^ k → 2 * k ≤ ds.length → ∃ o', loopL (mgName 4) mEv ds [x, y, some (.int (a : Int)), some (.int (b : Int)), o] = .nx [x, y, some (.int (Nat.gcd a b : Nat)), some (.int 0), o']
  | 0, a, b, o, ds, hb, h => by
    obtain rfl : b = 0 := by simpa using hb
    rw [Nat.gcd_zero_right]
    exact ev_zero x y a o ds
  | k + 1, a, b, o, [], hb, h => by simp at h
  | k + 1, a, b, o, [_], hb, h => by simp at h; omega
  | k + 1, a, b, o, d :: d2 :: ds, hb, h => by
    by_cases b0 : b = 0
    · subst b0
      rw [Nat.gcd_zero_right]
      exact ev_zero x y a o _
    · rw [ev_one x y o b0]
      have g1 : Nat.gcd a b = Nat.gcd b (a % b) := by rw [Nat.gcd_comm a b, Nat.gcd_rec b a, Nat.gcd_comm]
      by_cases r0 : a % b = 0
      · rw [g1, r0, Nat.gcd_zero_right]
        exact ev_zero x y b _ _
      · have hrb := Nat.mod_lt a (Nat.pos_of_ne_zero b0)
        rw [ev_one x y _ r0]
        have g2 : Nat.gcd b (a % b) = Nat.gcd (a % b) (b % (a % b)) := by rw [Nat.gcd_comm b, Nat.gcd_rec (a % b) b, Nat.gcd_comm]
        rw [g1, g2]
        exact ev_loop x y k (a % b) (b % (a % b)) _ ds (eu_step hb (Nat.pos_of_ne_zero r0) hrb) (by simp at h; omega)
def mqLD (mi : En → R (List D)) : MS := (msSeq (msAsg (mN gAbs (mCons (mVar 0) mNil)) (mgName 2)) (msSeq (msAsg (mN gAbs (mCons (mVar 1) mNil)) (mgName 3)) (msSeq (msFor mi (mgName 4) mEv) (msRet (mVar 2)))))
def qLDivisor : FN := runM 5 2 [] false (mqLD (mItN gRange1 (mCons (m2 gPow (mK (.int 10)) (mK (.int 9))) mNil)))
theorem rangeL_length (i : Int) (n : Nat) : (rangeL i n).length = n := by simp [rangeL]
theorem mqLD_v {mi : En → R (List D)} {ds : List D} (hmi : ∀ ρ, mi ρ = .ok ds ρ) (hl : 16000 ≤ ds.length) (a b : Int) (hb : b.natAbs < 2 ^ 8000) (ρ : En) : (runM 5 2 [] false (mqLD mi) [.int a, .int b]).R ρ = .ok (.int (Int.gcd a b : Nat)) ρ := by
  obtain ⟨o', e⟩ := ev_loop (some (.int a)) (some (.int b)) 8000 a.natAbs b.natAbs none ds hb hl
  rw [Int.gcd_eq_natAbs_gcd_natAbs]
  simp [runM, mqLD, pad, abs_cast, hmi, e]
theorem p9 : gPow (.int 10) (.int 9) = some (.int 1000000000) := by
  have c : CPow 10 9 := by decide
  show (if CPow 10 9 then some (D.int (10 ^ (9 : Int).toNat)) else none) = _
  rw [if_pos c] <;> rfl
theorem r9 : ∃ ds, gRange1 [.int 1000000000] = some ds ∧ 16000 ≤ ds.length := by
  have ok9 : okR 1000000000 = true := by decide
  exact ⟨rangeL 0 (Int.toNat 1000000000), by rw [gRange1_i, if_pos ok9], by rw [rangeL_length]; decide⟩
theorem qLDivisor_v (a b : Int) (hb : b.natAbs < 2 ^ 8000) (ρ : En) : (qLDivisor [.int a, .int b]).R ρ = .ok (.int (Int.gcd a b : Nat)) ρ := by
  obtain ⟨ds, hds, hl⟩ := r9
  refine mqLD_v (fun ρ => ?_) hl a b hb ρ
  rw [mItN_ap, mCons_ap, m2_ap, mK_ap, bind_ok, mK_ap, bind_ok, p9, ret_some, bind_ok, mNil_ap, bind_ok, bind_ok, hds, ret_some]

def sgcd (a b : Int) : Int := if b < 0 then -(Int.gcd a b : Int) else (Int.gcd a b : Int)
def low (a b : Int) : Int × Int := (a.fdiv (sgcd a b), b.fdiv (sgcd a b))
def tupI (p : Int × Int) : D := .tup [.int p.1, .int p.2]
theorem sgcd_ne {a b : Int} (h : b ≠ 0) : sgcd a b ≠ 0 := by
  have : 0 < Int.gcd a b := Int.gcd_pos_of_ne_zero_right a h
  unfold sgcd
  split <;> omega
theorem gcd_le {a b : Int} (h : b ≠ 0) : Int.gcd a b ≤ b.natAbs := by
  rw [Int.gcd_eq_natAbs_gcd_natAbs]
  exact Nat.gcd_le_right _ (by omega)
theorem sgcd_sm {a b : Int} {k : Nat} (h : b ≠ 0) (hb : b.natAbs < 2 ^ k) : (sgcd a b).natAbs < 2 ^ k := by
  have := gcd_le (a := a) h
  unfold sgcd
  split <;> omega
def mqLowest (F : FN) (neg : ME) : MS := (msSeq (msAsg (mCall F (mCons (mVar 0) (mCons (mVar 1) mNil))) (mgName 2)) (msSeq (msIf (mTest (m2 gLt (mVar 1) (mK (.int 0)))) (msAsg neg (mgName 2)) msNil) (msRet (mN gTup (mCons (m2 gDiv (mVar 0) (mVar 2)) (mCons (m2 gDiv (mVar 1) (mVar 2)) mNil))))))
def qLowest : FN := runM 3 2 [] false (mqLowest qDivisor (m1 gNeg (mVar 2)))
def qLLowest : FN := runM 3 2 [] false (mqLowest qLDivisor (m2 gSub (mK (.int 0)) (mVar 2)))
theorem two_le : 2 ≤ sizeLine := by decide
theorem lowest_gen {F : FN} {neg : ME} {a b : Int} (h : b ≠ 0) (hb : b.natAbs < 2 ^ 8000) (hF : ∀ ρ, (F [.int a, .int b]).R ρ = .ok (.int (Int.gcd a b : Nat)) ρ) (hn : ∀ (x y : Option D) (z : Int), neg [x, y, some (.int z)] = .ok (.int (-z)) [x, y, some (.int z)]) (ρ : En) :
    (runM 3 2 [] false (mqLowest F neg) [.int a, .int b]).R ρ = .ok (tupI (low a b)) ρ := by
  have d1 := fun x : Int => gDiv_sm (a := x) (sgcd_ne (a := a) h) (sgcd_sm (a := a) h hb) (by decide) (by decide)
  by_cases n : b < 0
  · have e : sgcd a b = -(Int.gcd a b : Int) := if_pos n
    rw [e] at d1
    simp [runM, mqLowest, pad, mCall_R, hF, n, d1, two_le, tupI, low, e, hn]
  · have e : sgcd a b = (Int.gcd a b : Int) := if_neg n
    rw [e] at d1
    simp [runM, mqLowest, pad, mCall_R, hF, n, d1, two_le, tupI, low, e]
theorem qLowest_v {a b : Int} (h : b ≠ 0) (hb : b.natAbs < 2 ^ 8000) (ρ : En) : (qLowest [.int a, .int b]).R ρ = .ok (tupI (low a b)) ρ := lowest_gen h hb (qDivisor_v a b hb) (fun x y z => by simp) ρ
theorem qLLowest_v {a b : Int} (h : b ≠ 0) (hb : b.natAbs < 2 ^ 8000) (ρ : En) : (qLLowest [.int a, .int b]).R ρ = .ok (tupI (low a b)) ρ := lowest_gen h hb (qLDivisor_v a b hb) (fun x y z => by simp) ρ
def isNum (a b : Int) : Bool := decide (1 ≤ b) && decide (Int.gcd a b = 1)
theorem low_sm {a b : Int} {i j : Nat} (h1 : a.natAbs < 2 ^ i) (h2 : b.natAbs < 2 ^ j) : (low a b).1.natAbs < 2 ^ i ∧ (low a b).2.natAbs < 2 ^ j :=
  ⟨Nat.lt_of_le_of_lt (Int.natAbs_fdiv_le_natAbs _ _) h1, Nat.lt_of_le_of_lt (Int.natAbs_fdiv_le_natAbs _ _) h2⟩
theorem low_num {a b : Int} (h : b ≠ 0) : isNum (low a b).1 (low a b).2 = true := by
  have g0 : 0 < Int.gcd a b := Int.gcd_pos_of_ne_zero_right a h
  have da : (Int.gcd a b : Int) ∣ a := Int.gcd_dvd_left a b
  have db : (Int.gcd a b : Int) ∣ b := Int.gcd_dvd_right a b
  obtain ⟨x, hx⟩ := da
  obtain ⟨y, hy⟩ := db
  generalize hg : Int.gcd a b = g at *
  have gi : (g : Int) ≠ 0 := by omega
  have cop : Int.gcd x y = 1 := by
    have e : Int.gcd a b = g * Int.gcd x y := by
      rw [hx, hy, Int.gcd_mul_left]
      simp
    rw [hg] at e
    exact Nat.eq_of_mul_eq_mul_left g0 (by omega)
  unfold low sgcd isNum
  rw [hg]
  by_cases n : b < 0
  · rw [if_pos n]
    have e1 : a.fdiv (-(g : Int)) = -x := by
      have : a = (-x) * (-(g : Int)) := by rw [hx, Int.neg_mul_neg, Int.mul_comm]
      rw [this, Int.mul_fdiv_cancel _ (by omega)]
    have e2 : b.fdiv (-(g : Int)) = -y := by
      have : b = (-y) * (-(g : Int)) := by rw [hy, Int.neg_mul_neg, Int.mul_comm]
      rw [this, Int.mul_fdiv_cancel _ (by omega)]
    rw [e1, e2]
    have y0 : y < 0 := by
      by_cases q : 0 ≤ y
      · have : 0 ≤ (g : Int) * y := Int.mul_nonneg (by omega) q
        omega
      · omega
    simp [cop]
    omega
  · rw [if_neg n]
    have e1 : a.fdiv (g : Int) = x := by rw [hx, Int.mul_comm, Int.mul_fdiv_cancel _ gi]
    have e2 : b.fdiv (g : Int) = y := by rw [hy, Int.mul_comm, Int.mul_fdiv_cancel _ gi]
    rw [e1, e2]
    have y0 : 0 < y := by
      by_cases q : y ≤ 0
      · have : (g : Int) * y ≤ 0 := Int.mul_nonpos_of_nonneg_of_nonpos (by omega) q
        omega
      · omega
    simp [cop]
    omega
def mqIsNumber : MS := (msSeq (msAsg (mVar 0) (mgTup 2 (mgCons (mgName 1) (mgCons (mgName 2) mgNil)))) (msRet (mAnd (m2 gGe (mVar 2) (mK (.int 1))) (m2 gEq (mCall qDivisor (mCons (mVar 1) (mCons (mVar 2) mNil))) (mK (.int 1))))))
def qIsNumber : FN := runM 3 1 [] false mqIsNumber
theorem qIsNumber_v {a b : Int} (hb : b.natAbs < 2 ^ 8000) (ρ : En) : (qIsNumber [tupI (a, b)]).R ρ = .ok (.bl (isNum a b)) ρ := by
  have e : decide (((Int.gcd a b : Nat) : Int) = 1) = decide (Int.gcd a b = 1) := by rw [decide_eq_decide]; omega
  by_cases h : 1 ≤ b
  · simp [qIsNumber, runM, mqIsNumber, pad, tupI, mCall_R, qDivisor_v a b hb, isNum, h, e]
  · simp [qIsNumber, runM, mqIsNumber, pad, tupI, mCall_R, qDivisor_v a b hb, isNum, h]

theorem int_len {a : Int} (h : a.natAbs < 2 ^ 1900) : (Str.ofString (toString a)).length ≤ 2000 := by
  have e := int_text_length_le (k := 1900) (by decide) (lg h (by decide))
  rw [PySem.ofString_length]; omega
theorem shown_tup {p : Int × Int} (h1 : p.1.natAbs < 2 ^ 1900) (h2 : p.2.natAbs < 2 ^ 1900) : ∃ z, shownD (tupI p) = some z := by
  have l1 := lg h1 (by decide)
  have l2 := lg h2 (by decide)
  have e : (PyData.tuple [.int p.1, .int p.2]).shown = tupleText [Str.ofString (toString p.1), Str.ofString (toString p.2)] := by simp only [PyData.shown, PyData.shownAll] <;> rfl
  have e1 := int_len h1
  have e2 := int_len h2
  have n1 : (PyData.tuple [.int p.1, .int p.2]).showable = true := by simp only [PyData.showable, PyData.showableAll, Bool.and_true, Bool.and_eq_true, decide_eq_true_eq]; omega
  have n2 : (PyData.tuple [.int p.1, .int p.2]).shown.length ≤ sizeLine := by
    rw [e]
    have : tupleText [Str.ofString (toString p.1), Str.ofString (toString p.2)] = ("(" : Str) ++ (Str.ofString (toString p.1) ++ ", " ++ Str.ofString (toString p.2)) ++ (")" : String) := rfl
    rw [this, strLen_append, strLen_append, strLen_append, strLen_append, PySem.ofString_length "(", PySem.ofString_length ", ", PySem.ofString_length ")", sizeLine_eq]
    have a1 : "(".length = 1 := rfl
    have a2 : ", ".length = 2 := rfl
    have a3 : ")".length = 1 := rfl
    omega
  have n3 : (PyData.tuple [.int p.1, .int p.2]).depth ≤ 60 := by simp [PyData.depth, PyData.depthAll]
  refine ⟨(PyData.tuple [.int p.1, .int p.2]).shown, ?_⟩
  · unfold shownD
    show (match D.py (.tup [.int p.1, .int p.2]) with
      | some x => if x.showable = true ∧ x.shown.length ≤ sizeLine ∧ x.depth ≤ 60 then some x.shown else none
      | none => none) = _
    have ep : D.py (.tup [.int p.1, .int p.2]) = some (.tuple [.int p.1, .int p.2]) := rfl
    rw [ep]
    exact if_pos ⟨n1, n2, n3⟩
theorem shown_bl (b : Bool) : ∃ z, shownD (.bl b) = some z := by cases b <;> exact ⟨_, rfl⟩
theorem shown_non : ∃ z, shownD .non = some z := ⟨_, rfl⟩
end DL
namespace K00
open DL L2 PySem PySem.Spec PyProof.Rows
abbrev prog : Program := PySem.Challenge.pw_planeworth_k00_numbers
def top (i : Nat) : Stmt := prog.main.body.getD i (.Pass ⟨0, 0, 0, 0⟩)
abbrev s_law_number : Stmt := top 26
abbrev s_law_draws : Stmt := top 27
abbrev s_law_next : Stmt := top 28
abbrev s_law_integer : Stmt := top 31
abbrev s_law_divisor : Stmt := top 29
abbrev s_law_lowest : Stmt := top 30
abbrev s_law_pair : Stmt := top 32
abbrev sdivisor : Stmt := top 8
abbrev slowest : Stmt := top 9
abbrev snumber : Stmt := top 13
abbrev sis_number : Stmt := top 10
abbrev scheck_number : Stmt := top 11
abbrev ssign : Stmt := top 22
abbrev snumber_text : Stmt := top 24
abbrev scheck_both : Stmt := top 12
abbrev ssummed : Stmt := top 14
abbrev splus : Stmt := top 18
abbrev snegated : Stmt := top 16
abbrev sminus : Stmt := top 19
abbrev smultiplied : Stmt := top 15
abbrev stimes : Stmt := top 20
abbrev sinverted : Stmt := top 17
abbrev sover : Stmt := top 21
abbrev sis_less : Stmt := top 23
abbrev s_law_told : Stmt := top 33
abbrev s_law_due : Stmt := top 34
abbrev slaw : Stmt := top 35
abbrev cBEYOND : Int := 10000000000000000000000000000000000000000000000000000000000000000000000000000000000000000000000000000000000000000000000000000000000000000000000000000000000000000000000000000000000000000000000000000000000000000000000000000000000000000000000000000000000000000000000000000000000000000000000000000000000000000000000000000000000000000000000000000000000000000000000000000000000000000000000000000000000000000
abbrev cZERO_d : List He.Dv := [.int 0, .int 1]
abbrev cZERO : List D := [.int 0, .int 1]
theorem cZERO_rp {K : PySem.W.Frag} (A : Addr → Prop) (H : Hp) : RpA K A H (cZERO_d.map (He.Dv.v K)) cZERO := (.cons (.int _) (.cons (.int _) .nil))
structure Fc (K : PySem.W.Frag) (mg : Str → Option Value) : Prop where
  g_BadNumber : mg "BadNumber" = some (.ref (He.ga K "BadNumber"))
  g_NotNumber : mg "NotNumber" = some (.ref (He.ga K "NotNumber"))
  g_PlaneError : mg "PlaneError" = some (.ref (He.ga K "PlaneError"))
  g_TooLarge : mg "TooLarge" = some (.ref (He.ga K "TooLarge"))
  g_ZERO : mg "ZERO" = some (.ref (He.ga K "ZERO"))
  g__law_divisor : mg "_law_divisor" = some (.ref (He.ga K "_law_divisor"))
  g__law_draws : mg "_law_draws" = some (.ref (He.ga K "_law_draws"))
  g__law_due : mg "_law_due" = some (.ref (He.ga K "_law_due"))
  g__law_integer : mg "_law_integer" = some (.ref (He.ga K "_law_integer"))
  g__law_lowest : mg "_law_lowest" = some (.ref (He.ga K "_law_lowest"))
  g__law_next : mg "_law_next" = some (.ref (He.ga K "_law_next"))
  g__law_number : mg "_law_number" = some (.ref (He.ga K "_law_number"))
  g__law_pair : mg "_law_pair" = some (.ref (He.ga K "_law_pair"))
  g__law_told : mg "_law_told" = some (.ref (He.ga K "_law_told"))
  g_check_both : mg "check_both" = some (.ref (He.ga K "check_both"))
  g_check_number : mg "check_number" = some (.ref (He.ga K "check_number"))
  g_divisor : mg "divisor" = some (.ref (He.ga K "divisor"))
  g_inverted : mg "inverted" = some (.ref (He.ga K "inverted"))
  g_is_less : mg "is_less" = some (.ref (He.ga K "is_less"))
  g_is_number : mg "is_number" = some (.ref (He.ga K "is_number"))
  g_law : mg "law" = some (.ref (He.ga K "law"))
  g_lowest : mg "lowest" = some (.ref (He.ga K "lowest"))
  g_minus : mg "minus" = some (.ref (He.ga K "minus"))
  g_multiplied : mg "multiplied" = some (.ref (He.ga K "multiplied"))
  g_negated : mg "negated" = some (.ref (He.ga K "negated"))
  g_number : mg "number" = some (.ref (He.ga K "number"))
  g_number_text : mg "number_text" = some (.ref (He.ga K "number_text"))
  g_over : mg "over" = some (.ref (He.ga K "over"))
  g_plus : mg "plus" = some (.ref (He.ga K "plus"))
  g_sign : mg "sign" = some (.ref (He.ga K "sign"))
  g_summed : mg "summed" = some (.ref (He.ga K "summed"))
  g_times : mg "times" = some (.ref (He.ga K "times"))
  f_abs : mg "abs" = none
  f_all : mg "all" = none
  f_int : mg "int" = none
  f_isinstance : mg "isinstance" = none
  f_range : mg "range" = none
  f_repr : mg "repr" = none
  f_str : mg "str" = none
  c_BEYOND : ∃ t, mg "BEYOND" = some (.int cBEYOND t)
  e_PlaneError : ExcOk K mg "PlaneError"
  e_NotNumber : ExcOk K mg "NotNumber"
  e_BadNumber : ExcOk K mg "BadNumber"
  e_TooLarge : ExcOk K mg "TooLarge"
  m_PlaneError_PlaneError : PySem.W.exmOne K (.ref (He.ga K "PlaneError")) (.ref (He.ga K "PlaneError")) = some true
  m_PlaneError_NotNumber : PySem.W.exmOne K (.ref (He.ga K "NotNumber")) (.ref (He.ga K "PlaneError")) = some true
  m_PlaneError_BadNumber : PySem.W.exmOne K (.ref (He.ga K "BadNumber")) (.ref (He.ga K "PlaneError")) = some true
  m_PlaneError_TooLarge : PySem.W.exmOne K (.ref (He.ga K "TooLarge")) (.ref (He.ga K "PlaneError")) = some true
  c_ZERO : He.tupB K "ZERO" cZERO_d = true
  x_PlaneError_PlaneError : ExcC K (He.ga K "PlaneError")
  x_PlaneError_NotNumber : ExcC K (He.ga K "NotNumber")
  x_PlaneError_BadNumber : ExcC K (He.ga K "BadNumber")
  x_PlaneError_TooLarge : ExcC K (He.ga K "TooLarge")
  k_PlaneError_BadNumber_PlaneError : PySem.W.kitOne K (.ref (He.ga K "PlaneError")) (.ref (He.ga K "BadNumber")) = some false
  k_PlaneError_BadNumber_NotNumber : PySem.W.kitOne K (.ref (He.ga K "NotNumber")) (.ref (He.ga K "BadNumber")) = some false
  k_PlaneError_BadNumber_BadNumber : PySem.W.kitOne K (.ref (He.ga K "BadNumber")) (.ref (He.ga K "BadNumber")) = some true
  k_PlaneError_BadNumber_TooLarge : PySem.W.kitOne K (.ref (He.ga K "TooLarge")) (.ref (He.ga K "BadNumber")) = some false
  k_PlaneError_NotNumber_PlaneError : PySem.W.kitOne K (.ref (He.ga K "PlaneError")) (.ref (He.ga K "NotNumber")) = some false
  k_PlaneError_NotNumber_NotNumber : PySem.W.kitOne K (.ref (He.ga K "NotNumber")) (.ref (He.ga K "NotNumber")) = some true
  k_PlaneError_NotNumber_BadNumber : PySem.W.kitOne K (.ref (He.ga K "BadNumber")) (.ref (He.ga K "NotNumber")) = some false
  k_PlaneError_NotNumber_TooLarge : PySem.W.kitOne K (.ref (He.ga K "TooLarge")) (.ref (He.ga K "NotNumber")) = some false
  d__law_number : ∃ fd, FunD K "_law_number" "_law_number" (defArgs s_law_number) (defBody s_law_number) (defScope s_law_number) [] [] (He.ga K "_law_number") fd
  d__law_draws : ∃ fd, FunD K "_law_draws" "_law_draws" (defArgs s_law_draws) (defBody s_law_draws) (defScope s_law_draws) [] [] (He.ga K "_law_draws") fd
  d__law_next : ∃ fd, FunD K "_law_next" "_law_next" (defArgs s_law_next) (defBody s_law_next) (defScope s_law_next) [] [] (He.ga K "_law_next") fd
  d__law_integer : ∃ fd, FunD K "_law_integer" "_law_integer" (defArgs s_law_integer) (defBody s_law_integer) (defScope s_law_integer) [] [] (He.ga K "_law_integer") fd
  d__law_divisor : ∃ fd, FunD K "_law_divisor" "_law_divisor" (defArgs s_law_divisor) (defBody s_law_divisor) (defScope s_law_divisor) [] [] (He.ga K "_law_divisor") fd
  d__law_lowest : ∃ fd, FunD K "_law_lowest" "_law_lowest" (defArgs s_law_lowest) (defBody s_law_lowest) (defScope s_law_lowest) [] [] (He.ga K "_law_lowest") fd
  d__law_pair : ∃ fd, FunD K "_law_pair" "_law_pair" (defArgs s_law_pair) (defBody s_law_pair) (defScope s_law_pair) [] [] (He.ga K "_law_pair") fd
  d_divisor : ∃ fd, FunD K "divisor" "divisor" (defArgs sdivisor) (defBody sdivisor) (defScope sdivisor) [] [] (He.ga K "divisor") fd
  d_lowest : ∃ fd, FunD K "lowest" "lowest" (defArgs slowest) (defBody slowest) (defScope slowest) [] [] (He.ga K "lowest") fd
  d_number : ∃ fd, FunD K "number" "number" (defArgs snumber) (defBody snumber) (defScope snumber) [.int 1] [] (He.ga K "number") fd
  d_is_number : ∃ fd, FunD K "is_number" "is_number" (defArgs sis_number) (defBody sis_number) (defScope sis_number) [] [] (He.ga K "is_number") fd
  d_check_number : ∃ fd, FunD K "check_number" "check_number" (defArgs scheck_number) (defBody scheck_number) (defScope scheck_number) [] [] (He.ga K "check_number") fd
  d_sign : ∃ fd, FunD K "sign" "sign" (defArgs ssign) (defBody ssign) (defScope ssign) [] [] (He.ga K "sign") fd
  d_number_text : ∃ fd, FunD K "number_text" "number_text" (defArgs snumber_text) (defBody snumber_text) (defScope snumber_text) [] [] (He.ga K "number_text") fd
  d_check_both : ∃ fd, FunD K "check_both" "check_both" (defArgs scheck_both) (defBody scheck_both) (defScope scheck_both) [] [] (He.ga K "check_both") fd
  d_summed : ∃ fd, FunD K "summed" "summed" (defArgs ssummed) (defBody ssummed) (defScope ssummed) [] [] (He.ga K "summed") fd
  d_plus : ∃ fd, FunD K "plus" "plus" (defArgs splus) (defBody splus) (defScope splus) [] [] (He.ga K "plus") fd
  d_negated : ∃ fd, FunD K "negated" "negated" (defArgs snegated) (defBody snegated) (defScope snegated) [] [] (He.ga K "negated") fd
  d_minus : ∃ fd, FunD K "minus" "minus" (defArgs sminus) (defBody sminus) (defScope sminus) [] [] (He.ga K "minus") fd
  d_multiplied : ∃ fd, FunD K "multiplied" "multiplied" (defArgs smultiplied) (defBody smultiplied) (defScope smultiplied) [] [] (He.ga K "multiplied") fd
  d_times : ∃ fd, FunD K "times" "times" (defArgs stimes) (defBody stimes) (defScope stimes) [] [] (He.ga K "times") fd
  d_inverted : ∃ fd, FunD K "inverted" "inverted" (defArgs sinverted) (defBody sinverted) (defScope sinverted) [] [] (He.ga K "inverted") fd
  d_over : ∃ fd, FunD K "over" "over" (defArgs sover) (defBody sover) (defScope sover) [] [] (He.ga K "over") fd
  d_is_less : ∃ fd, FunD K "is_less" "is_less" (defArgs sis_less) (defBody sis_less) (defScope sis_less) [] [] (He.ga K "is_less") fd
  d__law_told : ∃ fd, FunD K "_law_told" "_law_told" (defArgs s_law_told) (defBody s_law_told) (defScope s_law_told) [] [] (He.ga K "_law_told") fd
  d__law_due : ∃ fd, FunD K "_law_due" "_law_due" (defArgs s_law_due) (defBody s_law_due) (defScope s_law_due) [] [] (He.ga K "_law_due") fd
  d_law : ∃ fd, FunD K "law" "law" (defArgs slaw) (defBody slaw) (defScope slaw) [] [] (He.ga K "law") fd
def mtPlaneError (k : Str) : Option Bool := if k = "PlaneError" then some true else if k = "NotNumber" then some true else if k = "BadNumber" then some true else if k = "TooLarge" then some true else none
section
variable {K : PySem.W.Frag} {mg : Str → Option Value}
theorem mtPlaneError_ok (fc : Fc K mg) : ∀ k b, mtPlaneError k = some b → PySem.W.exmOne K (.ref (He.ga K k)) (.ref (He.ga K "PlaneError")) = some b := by
  intro k b h
  unfold mtPlaneError at h
  repeat' split at h
  · subst k; cases h; exact fc.m_PlaneError_PlaneError
  · subst k; cases h; exact fc.m_PlaneError_NotNumber
  · subst k; cases h; exact fc.m_PlaneError_BadNumber
  · subst k; cases h; exact fc.m_PlaneError_TooLarge
  · cases h
theorem mtPlaneError_ex (fc : Fc K mg) {k : Str} (h : mtPlaneError k = some true) : ExcC K (He.ga K k) := by
  unfold mtPlaneError at h
  repeat' split at h
  · subst k; exact fc.x_PlaneError_PlaneError
  · subst k; exact fc.x_PlaneError_NotNumber
  · subst k; exact fc.x_PlaneError_BadNumber
  · subst k; exact fc.x_PlaneError_TooLarge
  · cases h
end
def kBadNumber (k : Str) : Bool := decide (k = "BadNumber")
def kNotNumber (k : Str) : Bool := decide (k = "NotNumber")
theorem isPlaneError_BadNumber {K : PySem.W.Frag} {mg : Str → Option Value} (fc : Fc K mg) {k : Str} (h : mtPlaneError k = some true) : PySem.W.kitOne K (.ref (He.ga K k)) (.ref (He.ga K "BadNumber")) = some (kBadNumber k) := by
  unfold mtPlaneError at h
  repeat' split at h
  · subst k; exact fc.k_PlaneError_BadNumber_PlaneError
  · subst k; exact fc.k_PlaneError_BadNumber_NotNumber
  · subst k; exact fc.k_PlaneError_BadNumber_BadNumber
  · subst k; exact fc.k_PlaneError_BadNumber_TooLarge
  · cases h
theorem isPlaneError_NotNumber {K : PySem.W.Frag} {mg : Str → Option Value} (fc : Fc K mg) {k : Str} (h : mtPlaneError k = some true) : PySem.W.kitOne K (.ref (He.ga K k)) (.ref (He.ga K "NotNumber")) = some (kNotNumber k) := by
  unfold mtPlaneError at h
  repeat' split at h
  · subst k; exact fc.k_PlaneError_NotNumber_PlaneError
  · subst k; exact fc.k_PlaneError_NotNumber_NotNumber
  · subst k; exact fc.k_PlaneError_NotNumber_BadNumber
  · subst k; exact fc.k_PlaneError_NotNumber_TooLarge
  · cases h
def m_law_number : MS := (msSeq (msIf (mTest (m2 gLt (mVar 0) (mK (.int 0)))) (msRet (m2 gSub (mK (.int 0)) (mVar 0))) msNil) (msRet (mVar 0)))
def F_law_number : FN := runM 1 1 [] false m_law_number
def m_law_draws : MS := (msForget 1 (msSeq (msOwn 1 (mN gLst mNil)) (msSeq (msFor (mIter (mVar 0)) (mgName 2) (msSeq (msAsg (mCall F_law_number (mCons (mVar 2) mNil)) (mgName 3)) (msIf (mTest (m2 gGe (mVar 3) (mK (.int 1000000000000000000)))) (msFor (mItN gRange1 (mCons (mK (.int 60)) mNil)) (mgName 4) (msSeq (msIf (mTest (m2 gEq (mVar 3) (mK (.int 0)))) msBrk msNil) (msSeq (msExpr (mOM gAppend 1 (mCons (m2 gMod (mN gInt (mCons (mVar 3) mNil)) (mK (.int 1000))) mNil))) (msAsg (m2 gDiv (mVar 3) (mK (.int 1000))) (mgName 3))))) (msSeq (msAsg (m2 gMod (mN gInt (mCons (m2 gAdd (m2 gMul (mVar 3) (mK (.int 48271))) (mK (.int 11))) mNil)) (mK (.int 2147483647))) (mgName 5)) (msSeq (msAsg (m2 gMod (mN gInt (mCons (m2 gAdd (m2 gMul (mVar 5) (mK (.int 69621))) (mVar 3)) mNil)) (mK (.int 2147483629))) (mgName 6)) (msExpr (mOM gExtend 1 (mCons (mN gLst (mCons (m2 gMod (mN gInt (mCons (mVar 3) mNil)) (mK (.int 1000))) (mCons (m2 gMod (mN gInt (mCons (mVar 5) mNil)) (mK (.int 1000))) (mCons (m2 gMod (mN gInt (mCons (mVar 6) mNil)) (mK (.int 1000))) mNil)))) mNil)))))))) (msRetO 1))))
def F_law_draws : FN := runM 7 1 [] true m_law_draws
def m_law_next : MS := (msSeq (msIf (mTruO 0) (msRet (mOM gPop 0 mNil)) msNil) (msRet (mK (.int 0))))
def F_law_next : FN := runM 1 1 [] false m_law_next
def m_law_integer : MS := (msSeq (msAsg (m2 gMod (mN gInt (mCons (mCallIo F_law_next 0 mNil) mNil)) (mK (.int 4))) (mgName 1)) (msSeq (msIf (mTest (m2 gLt (mVar 1) (mK (.int 2)))) (msRet (m2 gSub (m2 gMod (mN gInt (mCons (mCallIo F_law_next 0 mNil) mNil)) (mK (.int 19))) (mK (.int 9)))) msNil) (msSeq (msIf (mTest (m2 gEq (mVar 1) (mK (.int 2)))) (msRet (m2 gSub (m2 gAdd (m2 gMul (mK (.int 2)) (m2 gMod (mN gInt (mCons (mCallIo F_law_next 0 mNil) mNil)) (mK (.int 1000)))) (m2 gMod (mN gInt (mCons (mCallIo F_law_next 0 mNil) mNil)) (mK (.int 3)))) (mK (.int 1000)))) msNil) (msSeq (msAsg (mK (.int 0)) (mgName 2)) (msSeq (msFor (mItN gRange1 (mCons (m2 gAdd (mK (.int 1)) (m2 gMod (mN gInt (mCons (mCallIo F_law_next 0 mNil) mNil)) (mK (.int 12)))) mNil)) (mgName 3) (msAsg (m2 gAdd (m2 gMul (mVar 2) (mK (.int 1000))) (m2 gMod (mN gInt (mCons (mCallIo F_law_next 0 mNil) mNil)) (mK (.int 1000)))) (mgName 2))) (msRet (mIf (mTest (m2 gEq (m2 gMod (mN gInt (mCons (mCallIo F_law_next 0 mNil) mNil)) (mK (.int 2))) (mK (.int 0)))) (mVar 2) (m2 gSub (mK (.int 0)) (mVar 2)))))))))
def F_law_integer : FN := runM 4 1 [] false m_law_integer
def m_law_divisor : MS := (msSeq (msAsg (mN gAbs (mCons (mVar 0) mNil)) (mgName 2)) (msSeq (msAsg (mN gAbs (mCons (mVar 1) mNil)) (mgName 3)) (msSeq (msFor (mItN gRange1 (mCons (m2 gPow (mK (.int 10)) (mK (.int 9))) mNil)) (mgName 4) (msSeq (msIf (mTest (m2 gEq (mVar 3) (mK (.int 0)))) msBrk msNil) (msPar [2, 3] (mCons (mVar 3) (mCons (m2 gMod (mN gInt (mCons (mVar 2) mNil)) (mVar 3)) mNil))))) (msRet (mVar 2)))))
def F_law_divisor : FN := runM 5 2 [] false m_law_divisor
def m_law_lowest : MS := (msSeq (msAsg (mCall F_law_divisor (mCons (mVar 0) (mCons (mVar 1) mNil))) (mgName 2)) (msSeq (msIf (mTest (m2 gLt (mVar 1) (mK (.int 0)))) (msAsg (m2 gSub (mK (.int 0)) (mVar 2)) (mgName 2)) msNil) (msRet (mN gTup (mCons (m2 gDiv (mVar 0) (mVar 2)) (mCons (m2 gDiv (mVar 1) (mVar 2)) mNil))))))
def F_law_lowest : FN := runM 3 2 [] false m_law_lowest
def m_law_pair : MS := (msSeq (msAsg (mCallIo F_law_integer 0 mNil) (mgName 1)) (msRet (mCall F_law_lowest (mCons (mVar 1) (mCons (m2 gAdd (mN gAbs (mCons (mCallIo F_law_integer 0 mNil) mNil)) (mK (.int 1))) mNil)))))
def F_law_pair : FN := runM 2 1 [] false m_law_pair
def mdivisor : MS := (msSeq (msPar [0, 1] (mCons (mN gAbs (mCons (mVar 0) mNil)) (mCons (mN gAbs (mCons (mVar 1) mNil)) mNil))) (msSeq (msWhile 1000000 (mTest (m2 gNe (mVar 1) (mK (.int 0)))) (msPar [0, 1] (mCons (mVar 1) (mCons (m2 gMod (mVar 0) (mVar 1)) mNil)))) (msRet (mVar 0))))
def Fdivisor : FN := runM 2 2 [] false mdivisor
def mlowest : MS := (msSeq (msAsg (mCall Fdivisor (mCons (mVar 0) (mCons (mVar 1) mNil))) (mgName 2)) (msSeq (msIf (mTest (m2 gLt (mVar 1) (mK (.int 0)))) (msAsg (m1 gNeg (mVar 2)) (mgName 2)) msNil) (msRet (mN gTup (mCons (m2 gDiv (mVar 0) (mVar 2)) (mCons (m2 gDiv (mVar 1) (mVar 2)) mNil))))))
def Flowest : FN := runM 3 2 [] false mlowest
def mnumber : MS := (msSeq (msIf (mTest (m2 gEq (mVar 1) (mK (.int 0)))) (msRaise "BadNumber") msNil) (msRet (mCall Flowest (mCons (mVar 0) (mCons (mVar 1) mNil)))))
def Fnumber_1 : FN := runM 2 2 [.int 1] false mnumber
def Fnumber : FN := runM 2 2 [] false mnumber
def mis_number : MS := (msSeq (msAsg (mVar 0) (mgTup 2 (mgCons (mgName 1) (mgCons (mgName 2) mgNil)))) (msRet (mAnd (m2 gGe (mVar 2) (mK (.int 1))) (m2 gEq (mCall Fdivisor (mCons (mVar 1) (mCons (mVar 2) mNil))) (mK (.int 1))))))
def Fis_number : FN := runM 3 1 [] false mis_number
def mcheck_number : MS := (msIf (mNotT (mTru (mCall Fis_number (mCons (mVar 0) mNil)))) (msRaise "NotNumber") msNil)
def Fcheck_number : FN := runM 1 1 [] false mcheck_number
def msign : MS := (msSeq (msExpr (mCall Fcheck_number (mCons (mVar 0) mNil))) (msSeq (msIf (mTest (m2 gGt (m2 gIx (mVar 0) (mK (.int 0))) (mK (.int 0)))) (msRet (mK (.int 1))) msNil) (msRet (mIf (mTest (m2 gLt (m2 gIx (mVar 0) (mK (.int 0))) (mK (.int 0)))) (m1 gNeg (mK (.int 1))) (mK (.int 0))))))
def Fsign : FN := runM 1 1 [] false msign
def mnumber_text : MS := (msSeq (msExpr (mCall Fcheck_number (mCons (mVar 0) mNil))) (msSeq (msAsg (mVar 0) (mgTup 2 (mgCons (mgName 1) (mgCons (mgName 2) mgNil)))) (msSeq (msIf (mOrT (mTest (m2 gGe (mN gAbs (mCons (mVar 1) mNil)) (mK (.int cBEYOND)))) (mTest (m2 gGe (mVar 2) (mK (.int cBEYOND))))) (msRaise "TooLarge") msNil) (msSeq (msIf (mTest (m2 gEq (mVar 2) (mK (.int 1)))) (msRet (mN gStr (mCons (mVar 1) mNil))) msNil) (msRet (mJs [(m1 gFmt (mVar 1)), (mK (.str "/")), (m1 gFmt (mVar 2))] Str.empty))))))
def Fnumber_text : FN := runM 3 1 [] false mnumber_text
def mcheck_both : MS := (msSeq (msExpr (mCall Fcheck_number (mCons (mVar 0) mNil))) (msExpr (mCall Fcheck_number (mCons (mVar 1) mNil))))
def Fcheck_both : FN := runM 2 2 [] false mcheck_both
def msummed : MS := (msRet (mCall Flowest (mCons (m2 gAdd (m2 gMul (m2 gIx (mVar 0) (mK (.int 0))) (m2 gIx (mVar 1) (mK (.int 1)))) (m2 gMul (m2 gIx (mVar 1) (mK (.int 0))) (m2 gIx (mVar 0) (mK (.int 1))))) (mCons (m2 gMul (m2 gIx (mVar 0) (mK (.int 1))) (m2 gIx (mVar 1) (mK (.int 1)))) mNil))))
def Fsummed : FN := runM 2 2 [] false msummed
def mplus : MS := (msSeq (msExpr (mCall Fcheck_both (mCons (mVar 0) (mCons (mVar 1) mNil)))) (msRet (mCall Fsummed (mCons (mVar 0) (mCons (mVar 1) mNil)))))
def Fplus : FN := runM 2 2 [] false mplus
def mnegated : MS := (msRet (mN gTup (mCons (m1 gNeg (m2 gIx (mVar 0) (mK (.int 0)))) (mCons (m2 gIx (mVar 0) (mK (.int 1))) mNil))))
def Fnegated : FN := runM 1 1 [] false mnegated
def mminus : MS := (msSeq (msExpr (mCall Fcheck_both (mCons (mVar 0) (mCons (mVar 1) mNil)))) (msRet (mCall Fsummed (mCons (mVar 0) (mCons (mCall Fnegated (mCons (mVar 1) mNil)) mNil)))))
def Fminus : FN := runM 2 2 [] false mminus
def mmultiplied : MS := (msRet (mCall Flowest (mCons (m2 gMul (m2 gIx (mVar 0) (mK (.int 0))) (m2 gIx (mVar 1) (mK (.int 0)))) (mCons (m2 gMul (m2 gIx (mVar 0) (mK (.int 1))) (m2 gIx (mVar 1) (mK (.int 1)))) mNil))))
def Fmultiplied : FN := runM 2 2 [] false mmultiplied
def mtimes : MS := (msSeq (msExpr (mCall Fcheck_both (mCons (mVar 0) (mCons (mVar 1) mNil)))) (msRet (mCall Fmultiplied (mCons (mVar 0) (mCons (mVar 1) mNil)))))
def Ftimes : FN := runM 2 2 [] false mtimes
def minverted : MS := (msRet (mCall Flowest (mCons (m2 gIx (mVar 0) (mK (.int 1))) (mCons (m2 gIx (mVar 0) (mK (.int 0))) mNil))))
def Finverted : FN := runM 1 1 [] false minverted
def mover : MS := (msSeq (msExpr (mCall Fcheck_both (mCons (mVar 0) (mCons (mVar 1) mNil)))) (msSeq (msIf (mTest (m2 gEq (mVar 1) (mK (.tup cZERO)))) (msRaise "BadNumber") msNil) (msRet (mCall Fmultiplied (mCons (mVar 0) (mCons (mCall Finverted (mCons (mVar 1) mNil)) mNil))))))
def Fover : FN := runM 2 2 [] false mover
def mis_less : MS := (msSeq (msExpr (mCall Fcheck_both (mCons (mVar 0) (mCons (mVar 1) mNil)))) (msRet (m2 gLt (m2 gMul (m2 gIx (mVar 0) (mK (.int 0))) (m2 gIx (mVar 1) (mK (.int 1)))) (m2 gMul (m2 gIx (mVar 1) (mK (.int 0))) (m2 gIx (mVar 0) (mK (.int 1)))))))
def Fis_less : FN := runM 2 2 [] false mis_less
def t_law_told_0 (x : Str) : Option FN := if x = "is_less" then some Fis_less else if x = "minus" then some Fminus else if x = "over" then some Fover else if x = "plus" then some Fplus else if x = "times" then some Ftimes else none
def t_law_told_1 (x : Str) : Option FN := if x = "check_number" then some Fcheck_number else if x = "number_text" then some Fnumber_text else if x = "sign" then some Fsign else none
def m_law_told : MS := (msTryAs mtPlaneError 3 (msSeq (msIf (mTest (m2 gLt (mVar 0) (mK (.int 5)))) (msRet (mCallV t_law_told_0 (m2 gIx (mN gLst (mCons (mK (.fn "plus")) (mCons (mK (.fn "minus")) (mCons (mK (.fn "times")) (mCons (mK (.fn "over")) (mCons (mK (.fn "is_less")) mNil)))))) (mVar 0)) (mCons (mVar 1) (mCons (mVar 2) mNil)))) msNil) (msSeq (msIf (mTest (m2 gEq (mVar 0) (mK (.int 5)))) (msRet (mCall Fnumber (mCons (mVar 1) (mCons (mVar 2) mNil)))) msNil) (msRet (mCallV t_law_told_1 (m2 gIx (mN gLst (mCons (mK (.fn "sign")) (mCons (mK (.fn "check_number")) (mCons (mK (.fn "number_text")) mNil)))) (m2 gSub (mVar 0) (mK (.int 6)))) (mCons (mVar 1) mNil))))) (fun k => (msRet (m2 gAdd (mK (.str "!")) (mN gStr (mCons (mN gLst (mCons (mN gInt (mCons (mK (.bl (kBadNumber k))) mNil)) (mCons (mN gInt (mCons (mK (.bl (kNotNumber k))) mNil)) mNil))) mNil))))))
def F_law_told : FN := runM 4 3 [] false m_law_told
def m_law_due : MS := (msSeq (msIf (mTest (m2 gEq (mVar 0) (mK (.int 0)))) (msRet (mCall F_law_lowest (mCons (m2 gAdd (m2 gMul (m2 gIx (mVar 1) (mK (.int 0))) (m2 gIx (mVar 2) (mK (.int 1)))) (m2 gMul (m2 gIx (mVar 2) (mK (.int 0))) (m2 gIx (mVar 1) (mK (.int 1))))) (mCons (m2 gMul (m2 gIx (mVar 1) (mK (.int 1))) (m2 gIx (mVar 2) (mK (.int 1)))) mNil)))) msNil) (msSeq (msIf (mTest (m2 gEq (mVar 0) (mK (.int 1)))) (msRet (mCall F_law_lowest (mCons (m2 gSub (m2 gMul (m2 gIx (mVar 1) (mK (.int 0))) (m2 gIx (mVar 2) (mK (.int 1)))) (m2 gMul (m2 gIx (mVar 2) (mK (.int 0))) (m2 gIx (mVar 1) (mK (.int 1))))) (mCons (m2 gMul (m2 gIx (mVar 1) (mK (.int 1))) (m2 gIx (mVar 2) (mK (.int 1)))) mNil)))) msNil) (msSeq (msIf (mTest (m2 gEq (mVar 0) (mK (.int 2)))) (msRet (mCall F_law_lowest (mCons (m2 gMul (m2 gIx (mVar 1) (mK (.int 0))) (m2 gIx (mVar 2) (mK (.int 0)))) (mCons (m2 gMul (m2 gIx (mVar 1) (mK (.int 1))) (m2 gIx (mVar 2) (mK (.int 1)))) mNil)))) msNil) (msSeq (msIf (mTest (m2 gEq (mVar 0) (mK (.int 3)))) (msSeq (msIf (mTest (m2 gEq (m2 gIx (mVar 2) (mK (.int 0))) (mK (.int 0)))) (msRet (mK (.str "![1, 0]"))) msNil) (msRet (mCall F_law_lowest (mCons (m2 gMul (m2 gIx (mVar 1) (mK (.int 0))) (m2 gIx (mVar 2) (mK (.int 1)))) (mCons (m2 gMul (m2 gIx (mVar 1) (mK (.int 1))) (m2 gIx (mVar 2) (mK (.int 0)))) mNil))))) msNil) (msSeq (msIf (mTest (m2 gEq (mVar 0) (mK (.int 4)))) (msRet (m2 gLt (m2 gMul (m2 gIx (mVar 1) (mK (.int 0))) (m2 gIx (mVar 2) (mK (.int 1)))) (m2 gMul (m2 gIx (mVar 2) (mK (.int 0))) (m2 gIx (mVar 1) (mK (.int 1)))))) msNil) (msRet (mIf (mTest (m2 gEq (mVar 0) (mK (.int 6)))) (m2 gSub (mN gInt (mCons (m2 gGt (m2 gIx (mVar 1) (mK (.int 0))) (mK (.int 0))) mNil)) (mN gInt (mCons (m2 gLt (m2 gIx (mVar 1) (mK (.int 0))) (mK (.int 0))) mNil))) (mK .non))))))))
def F_law_due : FN := runM 3 3 [] false m_law_due
def mlaw : MS := (msForget 1 (msSeq (msOwn 1 (mCall F_law_draws (mCons (mVar 0) mNil))) (msSeq (msExpr (mOM gReverse 1 mNil)) (msSeq (msAsg (mCallIo F_law_integer 1 mNil) (mgName 2)) (msSeq (msAsg (mCallIo F_law_integer 1 mNil) (mgName 3)) (msSeq (msIf (mTest (m2 gNe (mN gRepr (mCons (mCall F_law_told (mCons (mK (.int 5)) (mCons (mVar 2) (mCons (mVar 3) mNil)))) mNil)) (mN gRepr (mCons (mIf (mTest (m2 gEq (mVar 3) (mK (.int 0)))) (mK (.str "![1, 0]")) (mCall F_law_lowest (mCons (mVar 2) (mCons (mVar 3) mNil)))) mNil)))) (msRet (mK (.bl false))) msNil) (msSeq (msIf (mTest (m2 gNe (mN gRepr (mCons (mCall Fis_number (mCons (mN gTup (mCons (mVar 2) (mCons (mVar 3) mNil))) mNil)) mNil)) (mN gRepr (mCons (mAnd (m2 gGt (mVar 3) (mK (.int 0))) (m2 gEq (mCall F_law_divisor (mCons (mVar 2) (mCons (mVar 3) mNil))) (mK (.int 1)))) mNil)))) (msRet (mK (.bl false))) msNil) (msSeq (msAsg (mCallIo F_law_pair 1 mNil) (mgName 4)) (msSeq (msAsg (mCallIo F_law_pair 1 mNil) (mgName 5)) (msSeq (msIf (mTest (m2 gEq (m2 gMod (mN gInt (mCons (mCallIo F_law_next 1 mNil) mNil)) (mK (.int 5))) (mK (.int 1)))) (msAsg (mN gTup (mCons (m2 gIx (mVar 4) (mK (.int 0))) (mCons (m2 gIx (mVar 4) (mK (.int 1))) mNil))) (mgName 5)) msNil) (msSeq (msFor (mIter (mN gLst (mCons (mK (.int 0)) (mCons (mK (.int 1)) (mCons (mK (.int 2)) (mCons (mK (.int 3)) (mCons (mK (.int 4)) (mCons (mK (.int 6)) (mCons (mK (.int 7)) mNil))))))))) (mgName 6) (msIf (mTest (m2 gNe (mN gRepr (mCons (mCall F_law_told (mCons (mVar 6) (mCons (mVar 4) (mCons (mVar 5) mNil)))) mNil)) (mN gRepr (mCons (mCall F_law_due (mCons (mVar 6) (mCons (mVar 4) (mCons (mVar 5) mNil)))) mNil)))) (msRet (mK (.bl false))) msNil)) (msSeq (msAsg (m2 gAdd (mK (.int 2)) (m2 gMod (mN gInt (mCons (mCallIo F_law_next 1 mNil) mNil)) (mK (.int 5)))) (mgName 7)) (msSeq (msAsg (m2 gIx (mN gLst (mCons (mN gTup (mCons (m2 gMul (m2 gIx (mVar 4) (mK (.int 0))) (mVar 7)) (mCons (m2 gMul (m2 gIx (mVar 4) (mK (.int 1))) (mVar 7)) mNil))) (mCons (mN gTup (mCons (m2 gIx (mVar 4) (mK (.int 0))) (mCons (m2 gSub (mK (.int 0)) (m2 gIx (mVar 4) (mK (.int 1)))) mNil))) (mCons (mN gTup (mCons (mK (.int 1)) (mCons (mK (.int 0)) mNil))) (mCons (mN gTup (mCons (mK (.int 0)) (mCons (mK (.int 0)) mNil))) (mCons (mN gTup (mCons (mK (.int 0)) (mCons (mK (.int 2)) mNil))) mNil)))))) (m2 gMod (mN gInt (mCons (mCallIo F_law_next 1 mNil) mNil)) (mK (.int 5)))) (mgName 8)) (msSeq (msIf (mOrT (mTest (m2 gIsNot (mCall Fis_number (mCons (mVar 8) mNil)) (mK (.bl false)))) (mTest (m2 gIsNot (mCall Fis_number (mCons (mVar 4) mNil)) (mK (.bl true))))) (msRet (mK (.bl false))) msNil) (msSeq (msFor (mItN gRange1 (mCons (mK (.int 5)) mNil)) (mgName 6) (msIf (mOrT (mTest (m2 gNe (mCall F_law_told (mCons (mVar 6) (mCons (mVar 8) (mCons (mVar 5) mNil)))) (mK (.str "![0, 1]")))) (mTest (m2 gNe (mCall F_law_told (mCons (mVar 6) (mCons (mVar 5) (mCons (mVar 8) mNil)))) (mK (.str "![0, 1]"))))) (msRet (mK (.bl false))) msNil)) (msSeq (msIf (mOrT (mTest (m2 gNe (mCall F_law_told (mCons (mK (.int 3)) (mCons (mVar 8) (mCons (mN gTup (mCons (mK (.int 0)) (mCons (mK (.int 1)) mNil))) mNil)))) (mK (.str "![0, 1]")))) (mTest (m2 gNe (mN gRepr (mCons (mCall Fnumber_1 (mCons (mVar 2) mNil)) mNil)) (mN gRepr (mCons (mN gTup (mCons (mVar 2) (mCons (mK (.int 1)) mNil))) mNil))))) (msRet (mK (.bl false))) msNil) (msRet (mN gAll (mCons (mLc [6] (mIter (mN gLst (mCons (mK (.int 6)) (mCons (mK (.int 7)) (mCons (mK (.int 8)) mNil))))) (mgName 6) mYes (m2 gEq (mCall F_law_told (mCons (mVar 6) (mCons (mVar 8) (mCons (mVar 5) mNil)))) (mK (.str "![0, 1]")))) mNil)))))))))))))))))))
def Flaw : FN := runM 9 1 [] false mlaw
section
variable {w : World} {K : PySem.W.Frag} {mg : Str → Option Value}
abbrev N_law_number : List Str := ["cell"]
theorem c_law_number : FnScope N_law_number ["cell"] (defScope s_law_number) := ⟨rfl, rfl, rfl, by decide +kernel, rfl, by decide +kernel, by decide +kernel⟩
theorem g_law_number (fc : Fc K mg) : Ok prog w K mg 1 "_law_number" false false F_law_number := by
  intro base
  obtain ⟨fd, F⟩ := fc.d__law_number
  refine fnG_of (ps := ["cell"]) (N := N_law_number) (O := []) (O' := []) F c_law_number (F.bindsN fun _ _ _ _ _ _ us hl => match us, hl with | [_], _ => rfl) .nil (fun _ _ => .nil) (by decide) (by decide) (by decide) fun cdv A outer s H E A0 q hio hr hg => ?_
  obtain rfl : q = none := by cases q with
    | none => rfl
    | some _ => cases hio
  have hu := Room.u64 hr
  have hv := Room.u65 hr
  exact (dss_cons (ds_if trivial (dt_cmp od_lt (v_ 0) de_int (pm _ _)) (dss_one (ds_ret trivial (de_bin od_sub de_int (v_ 0)))) dss_nil) (dss_one (ds_ret trivial (v_ 0))))
abbrev N_law_draws : List Str := ["script", "draws", "cell", "rest", "k", "once", "twice"]
theorem c_law_draws : FnScope N_law_draws ["script"] (defScope s_law_draws) := ⟨rfl, rfl, rfl, by decide +kernel, rfl, by decide +kernel, by decide +kernel⟩
theorem g_law_draws (fc : Fc K mg) : Ok prog w K mg 2 "_law_draws" false true F_law_draws := by
  intro base
  obtain ⟨fd, F⟩ := fc.d__law_draws
  refine fnG_of (ps := ["script"]) (N := N_law_draws) (O := []) (O' := []) F c_law_draws (F.bindsN fun _ _ _ _ _ _ us hl => match us, hl with | [_], _ => rfl) .nil (fun _ _ => .nil) (by decide) (by decide) (by decide) fun cdv A outer s H E A0 q hio hr hg => ?_
  obtain rfl : q = none := by cases q with
    | none => rfl
    | some _ => cases hio
  have hu := Room.u64 hr
  have hv := Room.u65 hr
  exact (dss_forgetO 1 (.inl (by decide)) (dss_cons (ds_own trivial (df_lst da_nil) rfl (.inl (by decide)) c_law_draws.nd rfl (Or.inl rfl)) (dss_cons (ds_for (vs := [2]) trivial cx_pw rfl (di_seq (v_ 0)) (dg_name rfl rfl c_law_draws.nd rfl (Or.inl rfl)) (dss_cons (ds_asg (vs := [3]) trivial (de_call (g_law_number fc _) (hr.mono (by decide)) hg cx_tk rfl fc.g__law_number (da_cons (v_ 2) da_nil)) (dg_name rfl rfl c_law_draws.nd rfl (Or.inl rfl))) (dss_one (ds_if trivial (dt_cmp od_ge (v_ 3) de_int (pm _ _)) (dss_one (ds_for (vs := [4]) trivial cx_pw rfl (di_range1 rfl fc.f_range (da_cons de_int da_nil)) (dg_name rfl rfl c_law_draws.nd rfl (Or.inl rfl)) (dss_cons (ds_if trivial (dt_cmp (od_eq hu) (v_ 3) de_int (pm _ _)) (dss_one ds_brk) dss_nil) (dss_cons (ds_expr trivial (de_om om_append PySem.F.slot_list_append PySem.F.type_list_append rfl (pv 1) (da_cons (de_bin od_mod (de_ty bt_int b_int rfl fc.f_int (da_cons (v_ 3) da_nil)) de_int) da_nil))) (dss_one (ds_asg (vs := [3]) trivial (de_bin od_div (v_ 3) de_int) (dg_name rfl rfl c_law_draws.nd rfl (Or.inl rfl)))))))) (dss_cons (ds_asg (vs := [5]) trivial (de_bin od_mod (de_ty bt_int b_int rfl fc.f_int (da_cons (de_bin od_add (de_bin od_mul (v_ 3) de_int) de_int) da_nil)) de_int) (dg_name rfl rfl c_law_draws.nd rfl (Or.inl rfl))) (dss_cons (ds_asg (vs := [6]) trivial (de_bin od_mod (de_ty bt_int b_int rfl fc.f_int (da_cons (de_bin od_add (de_bin od_mul (v_ 5) de_int) (v_ 3)) da_nil)) de_int) (dg_name rfl rfl c_law_draws.nd rfl (Or.inl rfl))) (dss_one (ds_expr trivial (de_om om_extend PySem.F.slot_list_extend PySem.F.type_list_extend rfl (pv 1) (da_cons (DF.toE (df_lst (da_cons (de_bin od_mod (de_ty bt_int b_int rfl fc.f_int (da_cons (v_ 3) da_nil)) de_int) (da_cons (de_bin od_mod (de_ty bt_int b_int rfl fc.f_int (da_cons (v_ 5) da_nil)) de_int) (da_cons (de_bin od_mod (de_ty bt_int b_int rfl fc.f_int (da_cons (v_ 6) da_nil)) de_int) da_nil))))) da_nil)))))))))) (dss_one (ds_retO rfl (.inl (by decide)) (pv 1))))))
abbrev N_law_next : List Str := ["draws"]
theorem c_law_next : FnScope N_law_next ["draws"] (defScope s_law_next) := ⟨rfl, rfl, rfl, by decide +kernel, rfl, by decide +kernel, by decide +kernel⟩
theorem g_law_next (fc : Fc K mg) : Ok prog w K mg 1 "_law_next" true false F_law_next := by
  intro base
  obtain ⟨fd, F⟩ := fc.d__law_next
  refine fnG_of (ps := ["draws"]) (N := N_law_next) (O := [0]) (O' := []) F c_law_next (F.bindsN fun _ _ _ _ _ _ us hl => match us, hl with | [_], _ => rfl) .nil (fun _ _ => .nil) (by decide) (by decide) (by decide) fun cdv A outer s H E A0 q hio hr hg => ?_
  have hu := Room.u64 hr
  have hv := Room.u65 hr
  exact (dss_cons (ds_if trivial (dt_truO rfl (pv 0)) (dss_one (ds_ret trivial (de_om0 om_pop PySem.F.slot_list_pop PySem.F.type_list_pop rfl (pv 0)))) dss_nil) (dss_one (ds_ret trivial de_int)))
abbrev N_law_integer : List Str := ["draws", "kind", "total", "j"]
theorem c_law_integer : FnScope N_law_integer ["draws"] (defScope s_law_integer) := ⟨rfl, rfl, rfl, by decide +kernel, rfl, by decide +kernel, by decide +kernel⟩
theorem g_law_integer (fc : Fc K mg) : Ok prog w K mg 2 "_law_integer" true false F_law_integer := by
  intro base
  obtain ⟨fd, F⟩ := fc.d__law_integer
  refine fnG_of (ps := ["draws"]) (N := N_law_integer) (O := [0]) (O' := []) F c_law_integer (F.bindsN fun _ _ _ _ _ _ us hl => match us, hl with | [_], _ => rfl) .nil (fun _ _ => .nil) (by decide) (by decide) (by decide) fun cdv A outer s H E A0 q hio hr hg => ?_
  have hu := Room.u64 hr
  have hv := Room.u65 hr
  exact (dss_cons (ds_asg (vs := [1]) trivial (de_bin od_mod (de_ty bt_int b_int rfl fc.f_int (da_cons (de_callio (g_law_next fc _) (hr.mono (by decide)) hg cx_tk rfl fc.g__law_next rfl (pv 0) da_nil) da_nil)) de_int) (dg_name rfl rfl c_law_integer.nd rfl (Or.inl rfl))) (dss_cons (ds_if trivial (dt_cmp od_lt (v_ 1) de_int (pm _ _)) (dss_one (ds_ret trivial (de_bin od_sub (de_bin od_mod (de_ty bt_int b_int rfl fc.f_int (da_cons (de_callio (g_law_next fc _) (hr.mono (by decide)) hg cx_tk rfl fc.g__law_next rfl (pv 0) da_nil) da_nil)) de_int) de_int))) dss_nil) (dss_cons (ds_if trivial (dt_cmp (od_eq hu) (v_ 1) de_int (pm _ _)) (dss_one (ds_ret trivial (de_bin od_sub (de_bin od_add (de_bin od_mul de_int (de_bin od_mod (de_ty bt_int b_int rfl fc.f_int (da_cons (de_callio (g_law_next fc _) (hr.mono (by decide)) hg cx_tk rfl fc.g__law_next rfl (pv 0) da_nil) da_nil)) de_int)) (de_bin od_mod (de_ty bt_int b_int rfl fc.f_int (da_cons (de_callio (g_law_next fc _) (hr.mono (by decide)) hg cx_tk rfl fc.g__law_next rfl (pv 0) da_nil) da_nil)) de_int)) de_int))) dss_nil) (dss_cons (ds_asg (vs := [2]) trivial de_int (dg_name rfl rfl c_law_integer.nd rfl (Or.inl rfl))) (dss_cons (ds_for (vs := [3]) trivial cx_pw rfl (di_range1 rfl fc.f_range (da_cons (de_bin od_add de_int (de_bin od_mod (de_ty bt_int b_int rfl fc.f_int (da_cons (de_callio (g_law_next fc _) (hr.mono (by decide)) hg cx_tk rfl fc.g__law_next rfl (pv 0) da_nil) da_nil)) de_int)) da_nil)) (dg_name rfl rfl c_law_integer.nd rfl (Or.inl rfl)) (dss_one (ds_asg (vs := [2]) trivial (de_bin od_add (de_bin od_mul (v_ 2) de_int) (de_bin od_mod (de_ty bt_int b_int rfl fc.f_int (da_cons (de_callio (g_law_next fc _) (hr.mono (by decide)) hg cx_tk rfl fc.g__law_next rfl (pv 0) da_nil) da_nil)) de_int)) (dg_name rfl rfl c_law_integer.nd rfl (Or.inl rfl))))) (dss_one (ds_ret trivial (de_if (dt_cmp (od_eq hu) (de_bin od_mod (de_ty bt_int b_int rfl fc.f_int (da_cons (de_callio (g_law_next fc _) (hr.mono (by decide)) hg cx_tk rfl fc.g__law_next rfl (pv 0) da_nil) da_nil)) de_int) de_int (pm _ _)) (v_ 2) (de_bin od_sub de_int (v_ 2))))))))))
abbrev N_law_divisor : List Str := ["a", "b", "one", "other", "j"]
theorem c_law_divisor : FnScope N_law_divisor ["a", "b"] (defScope s_law_divisor) := ⟨rfl, rfl, rfl, by decide +kernel, rfl, by decide +kernel, by decide +kernel⟩
theorem g_law_divisor (fc : Fc K mg) : Ok prog w K mg 1 "_law_divisor" false false F_law_divisor := by
  intro base
  obtain ⟨fd, F⟩ := fc.d__law_divisor
  refine fnG_of (ps := ["a", "b"]) (N := N_law_divisor) (O := []) (O' := []) F c_law_divisor (F.bindsN fun _ _ _ _ _ _ us hl => match us, hl with | [_, _], _ => rfl) .nil (fun _ _ => .nil) (by decide) (by decide) (by decide) fun cdv A outer s H E A0 q hio hr hg => ?_
  obtain rfl : q = none := by cases q with
    | none => rfl
    | some _ => cases hio
  have hu := Room.u64 hr
  have hv := Room.u65 hr
  exact (dss_cons (ds_asg (vs := [2]) trivial (de_b bt_abs b_abs rfl fc.f_abs (da_cons (v_ 0) da_nil)) (dg_name rfl rfl c_law_divisor.nd rfl (Or.inl rfl))) (dss_cons (ds_asg (vs := [3]) trivial (de_b bt_abs b_abs rfl fc.f_abs (da_cons (v_ 1) da_nil)) (dg_name rfl rfl c_law_divisor.nd rfl (Or.inl rfl))) (dss_cons (ds_for (vs := [4]) trivial cx_pw rfl (di_range1 rfl fc.f_range (da_cons (de_bin od_pow de_int de_int) da_nil)) (dg_name rfl rfl c_law_divisor.nd rfl (Or.inl rfl)) (dss_cons (ds_if trivial (dt_cmp (od_eq hu) (v_ 3) de_int (pm _ _)) (dss_one ds_brk) dss_nil) (dss_one (ds_par (i := 2) (j := 3) trivial rfl c_law_divisor.nd rfl rfl (by decide) rfl rfl rfl rfl (da_cons (v_ 3) (da_cons (de_bin od_mod (de_ty bt_int b_int rfl fc.f_int (da_cons (v_ 2) da_nil)) (v_ 3)) da_nil)))))) (dss_one (ds_ret trivial (v_ 2))))))
abbrev N_law_lowest : List Str := ["a", "b", "common"]
theorem c_law_lowest : FnScope N_law_lowest ["a", "b"] (defScope s_law_lowest) := ⟨rfl, rfl, rfl, by decide +kernel, rfl, by decide +kernel, by decide +kernel⟩
theorem g_law_lowest (fc : Fc K mg) : Ok prog w K mg 2 "_law_lowest" false false F_law_lowest := by
  intro base
  obtain ⟨fd, F⟩ := fc.d__law_lowest
  refine fnG_of (ps := ["a", "b"]) (N := N_law_lowest) (O := []) (O' := []) F c_law_lowest (F.bindsN fun _ _ _ _ _ _ us hl => match us, hl with | [_, _], _ => rfl) .nil (fun _ _ => .nil) (by decide) (by decide) (by decide) fun cdv A outer s H E A0 q hio hr hg => ?_
  obtain rfl : q = none := by cases q with
    | none => rfl
    | some _ => cases hio
  have hu := Room.u64 hr
  have hv := Room.u65 hr
  exact (dss_cons (ds_asg (vs := [2]) trivial (de_call (g_law_divisor fc _) (hr.mono (by decide)) hg cx_tk rfl fc.g__law_divisor (da_cons (v_ 0) (da_cons (v_ 1) da_nil))) (dg_name rfl rfl c_law_lowest.nd rfl (Or.inl rfl))) (dss_cons (ds_if trivial (dt_cmp od_lt (v_ 1) de_int (pm _ _)) (dss_one (ds_asg (vs := [2]) trivial (de_bin od_sub de_int (v_ 2)) (dg_name rfl rfl c_law_lowest.nd rfl (Or.inl rfl)))) dss_nil) (dss_one (ds_ret trivial (de_tup (da_cons (de_bin od_div (v_ 0) (v_ 2)) (da_cons (de_bin od_div (v_ 1) (v_ 2)) da_nil)))))))
abbrev N_law_pair : List Str := ["draws", "a"]
theorem c_law_pair : FnScope N_law_pair ["draws"] (defScope s_law_pair) := ⟨rfl, rfl, rfl, by decide +kernel, rfl, by decide +kernel, by decide +kernel⟩
theorem g_law_pair (fc : Fc K mg) : Ok prog w K mg 3 "_law_pair" true false F_law_pair := by
  intro base
  obtain ⟨fd, F⟩ := fc.d__law_pair
  refine fnG_of (ps := ["draws"]) (N := N_law_pair) (O := [0]) (O' := []) F c_law_pair (F.bindsN fun _ _ _ _ _ _ us hl => match us, hl with | [_], _ => rfl) .nil (fun _ _ => .nil) (by decide) (by decide) (by decide) fun cdv A outer s H E A0 q hio hr hg => ?_
  have hu := Room.u64 hr
  have hv := Room.u65 hr
  exact (dss_cons (ds_asg (vs := [1]) trivial (de_callio (g_law_integer fc _) (hr.mono (by decide)) hg cx_tk rfl fc.g__law_integer rfl (pv 0) da_nil) (dg_name rfl rfl c_law_pair.nd rfl (Or.inl rfl))) (dss_one (ds_ret trivial (de_call (g_law_lowest fc _) (hr.mono (by decide)) hg cx_tk rfl fc.g__law_lowest (da_cons (v_ 1) (da_cons (de_bin od_add (de_b bt_abs b_abs rfl fc.f_abs (da_cons (de_callio (g_law_integer fc _) (hr.mono (by decide)) hg cx_tk rfl fc.g__law_integer rfl (pv 0) da_nil) da_nil)) de_int) da_nil))))))
abbrev Ndivisor : List Str := ["a", "b"]
theorem cdivisor : FnScope Ndivisor ["a", "b"] (defScope sdivisor) := ⟨rfl, rfl, rfl, by decide +kernel, rfl, by decide +kernel, by decide +kernel⟩
theorem gdivisor (fc : Fc K mg) : Ok prog w K mg 1 "divisor" false false Fdivisor := by
  intro base
  obtain ⟨fd, F⟩ := fc.d_divisor
  refine fnG_of (ps := ["a", "b"]) (N := Ndivisor) (O := []) (O' := []) F cdivisor (F.bindsN fun _ _ _ _ _ _ us hl => match us, hl with | [_, _], _ => rfl) .nil (fun _ _ => .nil) (by decide) (by decide) (by decide) fun cdv A outer s H E A0 q hio hr hg => ?_
  obtain rfl : q = none := by cases q with
    | none => rfl
    | some _ => cases hio
  have hu := Room.u64 hr
  have hv := Room.u65 hr
  exact (dss_cons (ds_par (i := 0) (j := 1) trivial rfl cdivisor.nd rfl rfl (by decide) rfl rfl rfl rfl (da_cons (de_b bt_abs b_abs rfl fc.f_abs (da_cons (v_ 0) da_nil)) (da_cons (de_b bt_abs b_abs rfl fc.f_abs (da_cons (v_ 1) da_nil)) da_nil))) (dss_cons (ds_while _ trivial cx_pw (dt_cmp (od_ne hu) (v_ 1) de_int (pm _ _)) (dss_one (ds_par (i := 0) (j := 1) trivial rfl cdivisor.nd rfl rfl (by decide) rfl rfl rfl rfl (da_cons (v_ 1) (da_cons (de_bin od_mod (v_ 0) (v_ 1)) da_nil))))) (dss_one (ds_ret trivial (v_ 0)))))
abbrev Nlowest : List Str := ["a", "b", "common"]
theorem clowest : FnScope Nlowest ["a", "b"] (defScope slowest) := ⟨rfl, rfl, rfl, by decide +kernel, rfl, by decide +kernel, by decide +kernel⟩
theorem glowest (fc : Fc K mg) : Ok prog w K mg 2 "lowest" false false Flowest := by
  intro base
  obtain ⟨fd, F⟩ := fc.d_lowest
  refine fnG_of (ps := ["a", "b"]) (N := Nlowest) (O := []) (O' := []) F clowest (F.bindsN fun _ _ _ _ _ _ us hl => match us, hl with | [_, _], _ => rfl) .nil (fun _ _ => .nil) (by decide) (by decide) (by decide) fun cdv A outer s H E A0 q hio hr hg => ?_
  obtain rfl : q = none := by cases q with
    | none => rfl
    | some _ => cases hio
  have hu := Room.u64 hr
  have hv := Room.u65 hr
  exact (dss_cons (ds_asg (vs := [2]) trivial (de_call (gdivisor fc _) (hr.mono (by decide)) hg cx_tk rfl fc.g_divisor (da_cons (v_ 0) (da_cons (v_ 1) da_nil))) (dg_name rfl rfl clowest.nd rfl (Or.inl rfl))) (dss_cons (ds_if trivial (dt_cmp od_lt (v_ 1) de_int (pm _ _)) (dss_one (ds_asg (vs := [2]) trivial (de_un ud_neg (v_ 2)) (dg_name rfl rfl clowest.nd rfl (Or.inl rfl)))) dss_nil) (dss_one (ds_ret trivial (de_tup (da_cons (de_bin od_div (v_ 0) (v_ 2)) (da_cons (de_bin od_div (v_ 1) (v_ 2)) da_nil)))))))
abbrev Nnumber : List Str := ["a", "b"]
theorem cnumber : FnScope Nnumber ["a", "b"] (defScope snumber) := ⟨rfl, rfl, rfl, by decide +kernel, rfl, by decide +kernel, by decide +kernel⟩
theorem gnumber_1 (fc : Fc K mg) : Ok prog w K mg 3 "number" false false Fnumber_1 := by
  intro base
  obtain ⟨fd, F⟩ := fc.d_number
  obtain ⟨dv, hv, hb⟩ := FunD.binds1 (ps := ["a", "b"]) F 1 0 (by simp) rfl fun T _ _ _ _ _ _ us its hu hi => match us, its, hu, hi with | [_], [_], _, _ => ⟨_, rfl, rfl⟩
  refine fnG_of (ps := ["a", "b"]) (N := Nnumber) (O := []) (O' := []) F cnumber hb hv (fun _ _ => (.cons (.int _) .nil)) (by decide) (by decide) (by decide) fun cdv A outer s H E A0 q hio hr hg => ?_
  obtain rfl : q = none := by cases q with
    | none => rfl
    | some _ => cases hio
  have hu := Room.u64 hr
  have hv := Room.u65 hr
  exact (dss_cons (ds_if trivial (dt_cmp (od_eq hu) (v_ 1) de_int (pm _ _)) (dss_one (ds_raiseC fc.e_BadNumber trivial cx_tk)) dss_nil) (dss_one (ds_ret trivial (de_call (glowest fc _) (hr.mono (by decide)) hg cx_tk rfl fc.g_lowest (da_cons (v_ 0) (da_cons (v_ 1) da_nil))))))
theorem gnumber (fc : Fc K mg) : Ok prog w K mg 3 "number" false false Fnumber := by
  intro base
  obtain ⟨fd, F⟩ := fc.d_number
  obtain ⟨dv, hv, hb⟩ := FunD.binds1 (ps := ["a", "b"]) F 2 1 (by simp) rfl fun T _ _ _ _ _ _ us its hu hi => match us, its, hu, hi with | [_, _], [_], _, _ => ⟨_, rfl, rfl⟩
  refine fnG_of (ps := ["a", "b"]) (N := Nnumber) (O := []) (O' := []) F cnumber hb hv (fun _ _ => .nil) (by decide) (by decide) (by decide) fun cdv A outer s H E A0 q hio hr hg => ?_
  obtain rfl : q = none := by cases q with
    | none => rfl
    | some _ => cases hio
  have hu := Room.u64 hr
  have hv := Room.u65 hr
  exact (dss_cons (ds_if trivial (dt_cmp (od_eq hu) (v_ 1) de_int (pm _ _)) (dss_one (ds_raiseC fc.e_BadNumber trivial cx_tk)) dss_nil) (dss_one (ds_ret trivial (de_call (glowest fc _) (hr.mono (by decide)) hg cx_tk rfl fc.g_lowest (da_cons (v_ 0) (da_cons (v_ 1) da_nil))))))
abbrev Nis_number : List Str := ["x", "a", "b"]
theorem cis_number : FnScope Nis_number ["x"] (defScope sis_number) := ⟨rfl, rfl, rfl, by decide +kernel, rfl, by decide +kernel, by decide +kernel⟩
theorem gis_number (fc : Fc K mg) : Ok prog w K mg 2 "is_number" false false Fis_number := by
  intro base
  obtain ⟨fd, F⟩ := fc.d_is_number
  refine fnG_of (ps := ["x"]) (N := Nis_number) (O := []) (O' := []) F cis_number (F.bindsN fun _ _ _ _ _ _ us hl => match us, hl with | [_], _ => rfl) .nil (fun _ _ => .nil) (by decide) (by decide) (by decide) fun cdv A outer s H E A0 q hio hr hg => ?_
  obtain rfl : q = none := by cases q with
    | none => rfl
    | some _ => cases hio
  have hu := Room.u64 hr
  have hv := Room.u65 hr
  exact (dss_cons (ds_asg (vs := [1, 2]) trivial (v_ 0) (dg_tup rfl (dgs_cons (dg_name rfl rfl cis_number.nd rfl (Or.inl rfl)) (dgs_cons (dg_name rfl rfl cis_number.nd rfl (Or.inl rfl)) dgs_nil)))) (dss_one (ds_ret trivial (de_and (de_cmp od_ge (v_ 2) de_int (pm _ _)) (de_one (de_cmp (od_eq hu) (de_call (gdivisor fc _) (hr.mono (by decide)) hg cx_tk rfl fc.g_divisor (da_cons (v_ 1) (da_cons (v_ 2) da_nil))) de_int (pm _ _)))))))
abbrev Ncheck_number : List Str := ["x"]
theorem ccheck_number : FnScope Ncheck_number ["x"] (defScope scheck_number) := ⟨rfl, rfl, rfl, by decide +kernel, rfl, by decide +kernel, by decide +kernel⟩
theorem gcheck_number (fc : Fc K mg) : Ok prog w K mg 3 "check_number" false false Fcheck_number := by
  intro base
  obtain ⟨fd, F⟩ := fc.d_check_number
  refine fnG_of (ps := ["x"]) (N := Ncheck_number) (O := []) (O' := []) F ccheck_number (F.bindsN fun _ _ _ _ _ _ us hl => match us, hl with | [_], _ => rfl) .nil (fun _ _ => .nil) (by decide) (by decide) (by decide) fun cdv A outer s H E A0 q hio hr hg => ?_
  obtain rfl : q = none := by cases q with
    | none => rfl
    | some _ => cases hio
  have hu := Room.u64 hr
  have hv := Room.u65 hr
  exact (dss_one (ds_if trivial (dt_not (dt_tru (de_call (gis_number fc _) (hr.mono (by decide)) hg cx_tk rfl fc.g_is_number (da_cons (v_ 0) da_nil)))) (dss_one (ds_raiseC fc.e_NotNumber trivial cx_tk)) dss_nil))
abbrev Nsign : List Str := ["x"]
theorem csign : FnScope Nsign ["x"] (defScope ssign) := ⟨rfl, rfl, rfl, by decide +kernel, rfl, by decide +kernel, by decide +kernel⟩
theorem gsign (fc : Fc K mg) : Ok prog w K mg 4 "sign" false false Fsign := by
  intro base
  obtain ⟨fd, F⟩ := fc.d_sign
  refine fnG_of (ps := ["x"]) (N := Nsign) (O := []) (O' := []) F csign (F.bindsN fun _ _ _ _ _ _ us hl => match us, hl with | [_], _ => rfl) .nil (fun _ _ => .nil) (by decide) (by decide) (by decide) fun cdv A outer s H E A0 q hio hr hg => ?_
  obtain rfl : q = none := by cases q with
    | none => rfl
    | some _ => cases hio
  have hu := Room.u64 hr
  have hv := Room.u65 hr
  exact (dss_cons (ds_expr trivial (de_call (gcheck_number fc _) (hr.mono (by decide)) hg cx_tk rfl fc.g_check_number (da_cons (v_ 0) da_nil))) (dss_cons (ds_if trivial (dt_cmp od_gt (de_ix ix_d (v_ 0) de_int (fun _ _ => rfl)) de_int (pm _ _)) (dss_one (ds_ret trivial de_int)) dss_nil) (dss_one (ds_ret trivial (de_if (dt_cmp od_lt (de_ix ix_d (v_ 0) de_int (fun _ _ => rfl)) de_int (pm _ _)) (de_un ud_neg de_int) de_int)))))
abbrev Nnumber_text : List Str := ["x", "a", "b"]
theorem cnumber_text : FnScope Nnumber_text ["x"] (defScope snumber_text) := ⟨rfl, rfl, rfl, by decide +kernel, rfl, by decide +kernel, by decide +kernel⟩
theorem gnumber_text (fc : Fc K mg) : Ok prog w K mg 4 "number_text" false false Fnumber_text := by
  intro base
  obtain ⟨fd, F⟩ := fc.d_number_text
  refine fnG_of (ps := ["x"]) (N := Nnumber_text) (O := []) (O' := []) F cnumber_text (F.bindsN fun _ _ _ _ _ _ us hl => match us, hl with | [_], _ => rfl) .nil (fun _ _ => .nil) (by decide) (by decide) (by decide) fun cdv A outer s H E A0 q hio hr hg => ?_
  obtain rfl : q = none := by cases q with
    | none => rfl
    | some _ => cases hio
  have hu := Room.u64 hr
  have hv := Room.u65 hr
  exact (dss_cons (ds_expr trivial (de_call (gcheck_number fc _) (hr.mono (by decide)) hg cx_tk rfl fc.g_check_number (da_cons (v_ 0) da_nil))) (dss_cons (ds_asg (vs := [1, 2]) trivial (v_ 0) (dg_tup rfl (dgs_cons (dg_name rfl rfl cnumber_text.nd rfl (Or.inl rfl)) (dgs_cons (dg_name rfl rfl cnumber_text.nd rfl (Or.inl rfl)) dgs_nil)))) (dss_cons (ds_if trivial (DW.t (dw_or (dt_cmp od_ge (de_b bt_abs b_abs rfl fc.f_abs (da_cons (v_ 1) da_nil)) (gi_ fc.c_BEYOND) (pm _ _)) (dw_or1 (dt_cmp od_ge (v_ 2) (gi_ fc.c_BEYOND) (pm _ _))))) (dss_one (ds_raiseC fc.e_TooLarge trivial cx_tk)) dss_nil) (dss_cons (ds_if trivial (dt_cmp (od_eq hu) (v_ 2) de_int (pm _ _)) (dss_one (ds_ret trivial (de_ty bt_str (b_str hg hu) rfl fc.f_str (da_cons (v_ 1) da_nil)))) dss_nil) (dss_one (ds_ret trivial (de_joined (.cons (de_fmt (v_ 1)) (.cons de_str (.cons (de_fmt (v_ 2)) .nil))))))))))
abbrev Ncheck_both : List Str := ["x", "y"]
theorem ccheck_both : FnScope Ncheck_both ["x", "y"] (defScope scheck_both) := ⟨rfl, rfl, rfl, by decide +kernel, rfl, by decide +kernel, by decide +kernel⟩
theorem gcheck_both (fc : Fc K mg) : Ok prog w K mg 4 "check_both" false false Fcheck_both := by
  intro base
  obtain ⟨fd, F⟩ := fc.d_check_both
  refine fnG_of (ps := ["x", "y"]) (N := Ncheck_both) (O := []) (O' := []) F ccheck_both (F.bindsN fun _ _ _ _ _ _ us hl => match us, hl with | [_, _], _ => rfl) .nil (fun _ _ => .nil) (by decide) (by decide) (by decide) fun cdv A outer s H E A0 q hio hr hg => ?_
  obtain rfl : q = none := by cases q with
    | none => rfl
    | some _ => cases hio
  have hu := Room.u64 hr
  have hv := Room.u65 hr
  exact (dss_cons (ds_expr trivial (de_call (gcheck_number fc _) (hr.mono (by decide)) hg cx_tk rfl fc.g_check_number (da_cons (v_ 0) da_nil))) (dss_one (ds_expr trivial (de_call (gcheck_number fc _) (hr.mono (by decide)) hg cx_tk rfl fc.g_check_number (da_cons (v_ 1) da_nil)))))
abbrev Nsummed : List Str := ["x", "y"]
theorem csummed : FnScope Nsummed ["x", "y"] (defScope ssummed) := ⟨rfl, rfl, rfl, by decide +kernel, rfl, by decide +kernel, by decide +kernel⟩
theorem gsummed (fc : Fc K mg) : Ok prog w K mg 3 "summed" false false Fsummed := by
  intro base
  obtain ⟨fd, F⟩ := fc.d_summed
  refine fnG_of (ps := ["x", "y"]) (N := Nsummed) (O := []) (O' := []) F csummed (F.bindsN fun _ _ _ _ _ _ us hl => match us, hl with | [_, _], _ => rfl) .nil (fun _ _ => .nil) (by decide) (by decide) (by decide) fun cdv A outer s H E A0 q hio hr hg => ?_
  obtain rfl : q = none := by cases q with
    | none => rfl
    | some _ => cases hio
  have hu := Room.u64 hr
  have hv := Room.u65 hr
  exact (dss_one (ds_ret trivial (de_call (glowest fc _) (hr.mono (by decide)) hg cx_tk rfl fc.g_lowest (da_cons (de_bin od_add (de_bin od_mul (de_ix ix_d (v_ 0) de_int (fun _ _ => rfl)) (de_ix ix_d (v_ 1) de_int (fun _ _ => rfl))) (de_bin od_mul (de_ix ix_d (v_ 1) de_int (fun _ _ => rfl)) (de_ix ix_d (v_ 0) de_int (fun _ _ => rfl)))) (da_cons (de_bin od_mul (de_ix ix_d (v_ 0) de_int (fun _ _ => rfl)) (de_ix ix_d (v_ 1) de_int (fun _ _ => rfl))) da_nil)))))
abbrev Nplus : List Str := ["x", "y"]
theorem cplus : FnScope Nplus ["x", "y"] (defScope splus) := ⟨rfl, rfl, rfl, by decide +kernel, rfl, by decide +kernel, by decide +kernel⟩
theorem gplus (fc : Fc K mg) : Ok prog w K mg 5 "plus" false false Fplus := by
  intro base
  obtain ⟨fd, F⟩ := fc.d_plus
  refine fnG_of (ps := ["x", "y"]) (N := Nplus) (O := []) (O' := []) F cplus (F.bindsN fun _ _ _ _ _ _ us hl => match us, hl with | [_, _], _ => rfl) .nil (fun _ _ => .nil) (by decide) (by decide) (by decide) fun cdv A outer s H E A0 q hio hr hg => ?_
  obtain rfl : q = none := by cases q with
    | none => rfl
    | some _ => cases hio
  have hu := Room.u64 hr
  have hv := Room.u65 hr
  exact (dss_cons (ds_expr trivial (de_call (gcheck_both fc _) (hr.mono (by decide)) hg cx_tk rfl fc.g_check_both (da_cons (v_ 0) (da_cons (v_ 1) da_nil)))) (dss_one (ds_ret trivial (de_call (gsummed fc _) (hr.mono (by decide)) hg cx_tk rfl fc.g_summed (da_cons (v_ 0) (da_cons (v_ 1) da_nil))))))
abbrev Nnegated : List Str := ["x"]
theorem cnegated : FnScope Nnegated ["x"] (defScope snegated) := ⟨rfl, rfl, rfl, by decide +kernel, rfl, by decide +kernel, by decide +kernel⟩
theorem gnegated (fc : Fc K mg) : Ok prog w K mg 1 "negated" false false Fnegated := by
  intro base
  obtain ⟨fd, F⟩ := fc.d_negated
  refine fnG_of (ps := ["x"]) (N := Nnegated) (O := []) (O' := []) F cnegated (F.bindsN fun _ _ _ _ _ _ us hl => match us, hl with | [_], _ => rfl) .nil (fun _ _ => .nil) (by decide) (by decide) (by decide) fun cdv A outer s H E A0 q hio hr hg => ?_
  obtain rfl : q = none := by cases q with
    | none => rfl
    | some _ => cases hio
  have hu := Room.u64 hr
  have hv := Room.u65 hr
  exact (dss_one (ds_ret trivial (de_tup (da_cons (de_un ud_neg (de_ix ix_d (v_ 0) de_int (fun _ _ => rfl))) (da_cons (de_ix ix_d (v_ 0) de_int (fun _ _ => rfl)) da_nil)))))
abbrev Nminus : List Str := ["x", "y"]
theorem cminus : FnScope Nminus ["x", "y"] (defScope sminus) := ⟨rfl, rfl, rfl, by decide +kernel, rfl, by decide +kernel, by decide +kernel⟩
theorem gminus (fc : Fc K mg) : Ok prog w K mg 5 "minus" false false Fminus := by
  intro base
  obtain ⟨fd, F⟩ := fc.d_minus
  refine fnG_of (ps := ["x", "y"]) (N := Nminus) (O := []) (O' := []) F cminus (F.bindsN fun _ _ _ _ _ _ us hl => match us, hl with | [_, _], _ => rfl) .nil (fun _ _ => .nil) (by decide) (by decide) (by decide) fun cdv A outer s H E A0 q hio hr hg => ?_
  obtain rfl : q = none := by cases q with
    | none => rfl
    | some _ => cases hio
  have hu := Room.u64 hr
  have hv := Room.u65 hr
  exact (dss_cons (ds_expr trivial (de_call (gcheck_both fc _) (hr.mono (by decide)) hg cx_tk rfl fc.g_check_both (da_cons (v_ 0) (da_cons (v_ 1) da_nil)))) (dss_one (ds_ret trivial (de_call (gsummed fc _) (hr.mono (by decide)) hg cx_tk rfl fc.g_summed (da_cons (v_ 0) (da_cons (de_call (gnegated fc _) (hr.mono (by decide)) hg cx_tk rfl fc.g_negated (da_cons (v_ 1) da_nil)) da_nil))))))
abbrev Nmultiplied : List Str := ["x", "y"]
theorem cmultiplied : FnScope Nmultiplied ["x", "y"] (defScope smultiplied) := ⟨rfl, rfl, rfl, by decide +kernel, rfl, by decide +kernel, by decide +kernel⟩
theorem gmultiplied (fc : Fc K mg) : Ok prog w K mg 3 "multiplied" false false Fmultiplied := by
  intro base
  obtain ⟨fd, F⟩ := fc.d_multiplied
  refine fnG_of (ps := ["x", "y"]) (N := Nmultiplied) (O := []) (O' := []) F cmultiplied (F.bindsN fun _ _ _ _ _ _ us hl => match us, hl with | [_, _], _ => rfl) .nil (fun _ _ => .nil) (by decide) (by decide) (by decide) fun cdv A outer s H E A0 q hio hr hg => ?_
  obtain rfl : q = none := by cases q with
    | none => rfl
    | some _ => cases hio
  have hu := Room.u64 hr
  have hv := Room.u65 hr
  exact (dss_one (ds_ret trivial (de_call (glowest fc _) (hr.mono (by decide)) hg cx_tk rfl fc.g_lowest (da_cons (de_bin od_mul (de_ix ix_d (v_ 0) de_int (fun _ _ => rfl)) (de_ix ix_d (v_ 1) de_int (fun _ _ => rfl))) (da_cons (de_bin od_mul (de_ix ix_d (v_ 0) de_int (fun _ _ => rfl)) (de_ix ix_d (v_ 1) de_int (fun _ _ => rfl))) da_nil)))))
abbrev Ntimes : List Str := ["x", "y"]
theorem ctimes : FnScope Ntimes ["x", "y"] (defScope stimes) := ⟨rfl, rfl, rfl, by decide +kernel, rfl, by decide +kernel, by decide +kernel⟩
theorem gtimes (fc : Fc K mg) : Ok prog w K mg 5 "times" false false Ftimes := by
  intro base
  obtain ⟨fd, F⟩ := fc.d_times
  refine fnG_of (ps := ["x", "y"]) (N := Ntimes) (O := []) (O' := []) F ctimes (F.bindsN fun _ _ _ _ _ _ us hl => match us, hl with | [_, _], _ => rfl) .nil (fun _ _ => .nil) (by decide) (by decide) (by decide) fun cdv A outer s H E A0 q hio hr hg => ?_
  obtain rfl : q = none := by cases q with
    | none => rfl
    | some _ => cases hio
  have hu := Room.u64 hr
  have hv := Room.u65 hr
  exact (dss_cons (ds_expr trivial (de_call (gcheck_both fc _) (hr.mono (by decide)) hg cx_tk rfl fc.g_check_both (da_cons (v_ 0) (da_cons (v_ 1) da_nil)))) (dss_one (ds_ret trivial (de_call (gmultiplied fc _) (hr.mono (by decide)) hg cx_tk rfl fc.g_multiplied (da_cons (v_ 0) (da_cons (v_ 1) da_nil))))))
abbrev Ninverted : List Str := ["x"]
theorem cinverted : FnScope Ninverted ["x"] (defScope sinverted) := ⟨rfl, rfl, rfl, by decide +kernel, rfl, by decide +kernel, by decide +kernel⟩
theorem ginverted (fc : Fc K mg) : Ok prog w K mg 3 "inverted" false false Finverted := by
  intro base
  obtain ⟨fd, F⟩ := fc.d_inverted
  refine fnG_of (ps := ["x"]) (N := Ninverted) (O := []) (O' := []) F cinverted (F.bindsN fun _ _ _ _ _ _ us hl => match us, hl with | [_], _ => rfl) .nil (fun _ _ => .nil) (by decide) (by decide) (by decide) fun cdv A outer s H E A0 q hio hr hg => ?_
  obtain rfl : q = none := by cases q with
    | none => rfl
    | some _ => cases hio
  have hu := Room.u64 hr
  have hv := Room.u65 hr
  exact (dss_one (ds_ret trivial (de_call (glowest fc _) (hr.mono (by decide)) hg cx_tk rfl fc.g_lowest (da_cons (de_ix ix_d (v_ 0) de_int (fun _ _ => rfl)) (da_cons (de_ix ix_d (v_ 0) de_int (fun _ _ => rfl)) da_nil)))))
abbrev Nover : List Str := ["x", "y"]
theorem cover : FnScope Nover ["x", "y"] (defScope sover) := ⟨rfl, rfl, rfl, by decide +kernel, rfl, by decide +kernel, by decide +kernel⟩
theorem gover (fc : Fc K mg) : Ok prog w K mg 5 "over" false false Fover := by
  intro base
  obtain ⟨fd, F⟩ := fc.d_over
  refine fnG_of (ps := ["x", "y"]) (N := Nover) (O := []) (O' := []) F cover (F.bindsN fun _ _ _ _ _ _ us hl => match us, hl with | [_, _], _ => rfl) .nil (fun _ _ => .nil) (by decide) (by decide) (by decide) fun cdv A outer s H E A0 q hio hr hg => ?_
  obtain rfl : q = none := by cases q with
    | none => rfl
    | some _ => cases hio
  have hu := Room.u64 hr
  have hv := Room.u65 hr
  exact (dss_cons (ds_expr trivial (de_call (gcheck_both fc _) (hr.mono (by decide)) hg cx_tk rfl fc.g_check_both (da_cons (v_ 0) (da_cons (v_ 1) da_nil)))) (dss_cons (ds_if trivial (dt_cmp (od_eq hu) (v_ 1) (gt_ fc.g_ZERO fc.c_ZERO cZERO_rp) (pm _ _)) (dss_one (ds_raiseC fc.e_BadNumber trivial cx_tk)) dss_nil) (dss_one (ds_ret trivial (de_call (gmultiplied fc _) (hr.mono (by decide)) hg cx_tk rfl fc.g_multiplied (da_cons (v_ 0) (da_cons (de_call (ginverted fc _) (hr.mono (by decide)) hg cx_tk rfl fc.g_inverted (da_cons (v_ 1) da_nil)) da_nil)))))))
abbrev Nis_less : List Str := ["x", "y"]
theorem cis_less : FnScope Nis_less ["x", "y"] (defScope sis_less) := ⟨rfl, rfl, rfl, by decide +kernel, rfl, by decide +kernel, by decide +kernel⟩
theorem gis_less (fc : Fc K mg) : Ok prog w K mg 5 "is_less" false false Fis_less := by
  intro base
  obtain ⟨fd, F⟩ := fc.d_is_less
  refine fnG_of (ps := ["x", "y"]) (N := Nis_less) (O := []) (O' := []) F cis_less (F.bindsN fun _ _ _ _ _ _ us hl => match us, hl with | [_, _], _ => rfl) .nil (fun _ _ => .nil) (by decide) (by decide) (by decide) fun cdv A outer s H E A0 q hio hr hg => ?_
  obtain rfl : q = none := by cases q with
    | none => rfl
    | some _ => cases hio
  have hu := Room.u64 hr
  have hv := Room.u65 hr
  exact (dss_cons (ds_expr trivial (de_call (gcheck_both fc _) (hr.mono (by decide)) hg cx_tk rfl fc.g_check_both (da_cons (v_ 0) (da_cons (v_ 1) da_nil)))) (dss_one (ds_ret trivial (de_cmp od_lt (de_bin od_mul (de_ix ix_d (v_ 0) de_int (fun _ _ => rfl)) (de_ix ix_d (v_ 1) de_int (fun _ _ => rfl))) (de_bin od_mul (de_ix ix_d (v_ 1) de_int (fun _ _ => rfl)) (de_ix ix_d (v_ 0) de_int (fun _ _ => rfl))) (pm _ _)))))
abbrev N_law_told : List Str := ["way", "x", "y", "error"]
theorem c_law_told : FnScope N_law_told ["way", "x", "y"] (defScope s_law_told) := ⟨rfl, rfl, rfl, by decide +kernel, rfl, by decide +kernel, by decide +kernel⟩
theorem T_law_told_0 (fc : Fc K mg) (base : Heap) : ∀ x F, t_law_told_0 x = some F → FnG prog w K mg base 5 (He.ga K x) false false F := by
  intro x F h
  unfold t_law_told_0 at h
  repeat' split at h
  · subst x; cases h; exact FnG.mono (gis_less fc base) (by decide)
  · subst x; cases h; exact FnG.mono (gminus fc base) (by decide)
  · subst x; cases h; exact FnG.mono (gover fc base) (by decide)
  · subst x; cases h; exact FnG.mono (gplus fc base) (by decide)
  · subst x; cases h; exact FnG.mono (gtimes fc base) (by decide)
  · cases h
theorem T_law_told_1 (fc : Fc K mg) (base : Heap) : ∀ x F, t_law_told_1 x = some F → FnG prog w K mg base 4 (He.ga K x) false false F := by
  intro x F h
  unfold t_law_told_1 at h
  repeat' split at h
  · subst x; cases h; exact FnG.mono (gcheck_number fc base) (by decide)
  · subst x; cases h; exact FnG.mono (gnumber_text fc base) (by decide)
  · subst x; cases h; exact FnG.mono (gsign fc base) (by decide)
  · cases h
theorem g_law_told (fc : Fc K mg) : Ok prog w K mg 6 "_law_told" false false F_law_told := by
  intro base
  obtain ⟨fd, F⟩ := fc.d__law_told
  refine fnG_of (ps := ["way", "x", "y"]) (N := N_law_told) (O := []) (O' := []) F c_law_told (F.bindsN fun _ _ _ _ _ _ us hl => match us, hl with | [_, _, _], _ => rfl) .nil (fun _ _ => .nil) (by decide) (by decide) (by decide) fun cdv A outer s H E A0 q hio hr hg => ?_
  obtain rfl : q = none := by cases q with
    | none => rfl
    | some _ => cases hio
  have hu := Room.u64 hr
  have hv := Room.u65 hr
  exact (dss_one (ds_tryAs trivial rfl rfl c_law_told.nd rfl rfl ⟨rfl, by decide, .inl fc.g_PlaneError⟩ cx_tk (mtPlaneError_ok fc) rfl (.inl (by decide)) rfl (fun W pn xe tk pw => (dss_cons (ds_if rfl (dt_cmp od_lt (v_ 0) de_int (pm _ _)) (dss_one (ds_ret rfl (de_callV (T_law_told_0 fc _) (hr.mono (by decide)) hg tk (de_ix ix_d (DF.toE (df_lst (da_cons (gf_ fc.g_plus) (da_cons (gf_ fc.g_minus) (da_cons (gf_ fc.g_times) (da_cons (gf_ fc.g_over) (da_cons (gf_ fc.g_is_less) da_nil))))))) (v_ 0) (fun _ _ => rfl)) (da_cons (v_ 1) (da_cons (v_ 2) da_nil))))) dss_nil) (dss_cons (ds_if rfl (dt_cmp (od_eq hu) (v_ 0) de_int (pm _ _)) (dss_one (ds_ret rfl (de_call (gnumber fc _) (hr.mono (by decide)) hg tk rfl fc.g_number (da_cons (v_ 1) (da_cons (v_ 2) da_nil))))) dss_nil) (dss_one (ds_ret rfl (de_callV (T_law_told_1 fc _) (hr.mono (by decide)) hg tk (de_ix ix_d (DF.toE (df_lst (da_cons (gf_ fc.g_sign) (da_cons (gf_ fc.g_check_number) (da_cons (gf_ fc.g_number_text) da_nil))))) (de_bin od_sub (v_ 0) de_int) (fun _ _ => rfl)) (da_cons (v_ 1) da_nil))))))) (fun ad oe k pn hz hf hk => have hC := callIsE (mtPlaneError_ex fc hk) hz hf; (dss_one (ds_ret rfl (de_bin od_add de_str (de_ty bt_str (b_str hg hu) rfl fc.f_str (da_cons (DF.toE (df_lst (da_cons (de_ty bt_int b_int rfl fc.f_int (da_cons (de_isE (i := 3) (ad := ad) (k := k) rfl hC (isPlaneError_BadNumber fc hk) rfl fc.f_isinstance rfl (Or.inl rfl) rfl fc.g_BadNumber) da_nil)) (da_cons (de_ty bt_int b_int rfl fc.f_int (da_cons (de_isE (i := 3) (ad := ad) (k := k) rfl hC (isPlaneError_NotNumber fc hk) rfl fc.f_isinstance rfl (Or.inl rfl) rfl fc.g_NotNumber) da_nil)) da_nil)))) da_nil)))))) rfl))
abbrev N_law_due : List Str := ["way", "x", "y"]
theorem c_law_due : FnScope N_law_due ["way", "x", "y"] (defScope s_law_due) := ⟨rfl, rfl, rfl, by decide +kernel, rfl, by decide +kernel, by decide +kernel⟩
theorem g_law_due (fc : Fc K mg) : Ok prog w K mg 3 "_law_due" false false F_law_due := by
  intro base
  obtain ⟨fd, F⟩ := fc.d__law_due
  refine fnG_of (ps := ["way", "x", "y"]) (N := N_law_due) (O := []) (O' := []) F c_law_due (F.bindsN fun _ _ _ _ _ _ us hl => match us, hl with | [_, _, _], _ => rfl) .nil (fun _ _ => .nil) (by decide) (by decide) (by decide) fun cdv A outer s H E A0 q hio hr hg => ?_
  obtain rfl : q = none := by cases q with
    | none => rfl
    | some _ => cases hio
  have hu := Room.u64 hr
  have hv := Room.u65 hr
  exact (dss_cons (ds_if trivial (dt_cmp (od_eq hu) (v_ 0) de_int (pm _ _)) (dss_one (ds_ret trivial (de_call (g_law_lowest fc _) (hr.mono (by decide)) hg cx_tk rfl fc.g__law_lowest (da_cons (de_bin od_add (de_bin od_mul (de_ix ix_d (v_ 1) de_int (fun _ _ => rfl)) (de_ix ix_d (v_ 2) de_int (fun _ _ => rfl))) (de_bin od_mul (de_ix ix_d (v_ 2) de_int (fun _ _ => rfl)) (de_ix ix_d (v_ 1) de_int (fun _ _ => rfl)))) (da_cons (de_bin od_mul (de_ix ix_d (v_ 1) de_int (fun _ _ => rfl)) (de_ix ix_d (v_ 2) de_int (fun _ _ => rfl))) da_nil))))) dss_nil) (dss_cons (ds_if trivial (dt_cmp (od_eq hu) (v_ 0) de_int (pm _ _)) (dss_one (ds_ret trivial (de_call (g_law_lowest fc _) (hr.mono (by decide)) hg cx_tk rfl fc.g__law_lowest (da_cons (de_bin od_sub (de_bin od_mul (de_ix ix_d (v_ 1) de_int (fun _ _ => rfl)) (de_ix ix_d (v_ 2) de_int (fun _ _ => rfl))) (de_bin od_mul (de_ix ix_d (v_ 2) de_int (fun _ _ => rfl)) (de_ix ix_d (v_ 1) de_int (fun _ _ => rfl)))) (da_cons (de_bin od_mul (de_ix ix_d (v_ 1) de_int (fun _ _ => rfl)) (de_ix ix_d (v_ 2) de_int (fun _ _ => rfl))) da_nil))))) dss_nil) (dss_cons (ds_if trivial (dt_cmp (od_eq hu) (v_ 0) de_int (pm _ _)) (dss_one (ds_ret trivial (de_call (g_law_lowest fc _) (hr.mono (by decide)) hg cx_tk rfl fc.g__law_lowest (da_cons (de_bin od_mul (de_ix ix_d (v_ 1) de_int (fun _ _ => rfl)) (de_ix ix_d (v_ 2) de_int (fun _ _ => rfl))) (da_cons (de_bin od_mul (de_ix ix_d (v_ 1) de_int (fun _ _ => rfl)) (de_ix ix_d (v_ 2) de_int (fun _ _ => rfl))) da_nil))))) dss_nil) (dss_cons (ds_if trivial (dt_cmp (od_eq hu) (v_ 0) de_int (pm _ _)) (dss_cons (ds_if trivial (dt_cmp (od_eq hu) (de_ix ix_d (v_ 2) de_int (fun _ _ => rfl)) de_int (pm _ _)) (dss_one (ds_ret trivial de_str)) dss_nil) (dss_one (ds_ret trivial (de_call (g_law_lowest fc _) (hr.mono (by decide)) hg cx_tk rfl fc.g__law_lowest (da_cons (de_bin od_mul (de_ix ix_d (v_ 1) de_int (fun _ _ => rfl)) (de_ix ix_d (v_ 2) de_int (fun _ _ => rfl))) (da_cons (de_bin od_mul (de_ix ix_d (v_ 1) de_int (fun _ _ => rfl)) (de_ix ix_d (v_ 2) de_int (fun _ _ => rfl))) da_nil)))))) dss_nil) (dss_cons (ds_if trivial (dt_cmp (od_eq hu) (v_ 0) de_int (pm _ _)) (dss_one (ds_ret trivial (de_cmp od_lt (de_bin od_mul (de_ix ix_d (v_ 1) de_int (fun _ _ => rfl)) (de_ix ix_d (v_ 2) de_int (fun _ _ => rfl))) (de_bin od_mul (de_ix ix_d (v_ 2) de_int (fun _ _ => rfl)) (de_ix ix_d (v_ 1) de_int (fun _ _ => rfl))) (pm _ _)))) dss_nil) (dss_one (ds_ret trivial (de_if (dt_cmp (od_eq hu) (v_ 0) de_int (pm _ _)) (de_bin od_sub (de_ty bt_int b_int rfl fc.f_int (da_cons (de_cmp od_gt (de_ix ix_d (v_ 1) de_int (fun _ _ => rfl)) de_int (pm _ _)) da_nil)) (de_ty bt_int b_int rfl fc.f_int (da_cons (de_cmp od_lt (de_ix ix_d (v_ 1) de_int (fun _ _ => rfl)) de_int (pm _ _)) da_nil))) de_non))))))))
abbrev Nlaw : List Str := ["script", "draws", "a", "b", "x", "y", "way", "factor", "wrong"]
theorem claw : FnScope Nlaw ["script"] (defScope slaw) := ⟨rfl, rfl, rfl, by decide +kernel, rfl, by decide +kernel, by decide +kernel⟩
theorem glaw (fc : Fc K mg) : Ok prog w K mg 7 "law" false false Flaw := by
  intro base
  obtain ⟨fd, F⟩ := fc.d_law
  refine fnG_of (ps := ["script"]) (N := Nlaw) (O := []) (O' := []) F claw (F.bindsN fun _ _ _ _ _ _ us hl => match us, hl with | [_], _ => rfl) .nil (fun _ _ => .nil) (by decide) (by decide) (by decide) fun cdv A outer s H E A0 q hio hr hg => ?_
  obtain rfl : q = none := by cases q with
    | none => rfl
    | some _ => cases hio
  have hu := Room.u64 hr
  have hv := Room.u65 hr
  exact (dss_forgetO 1 (.inl (by decide)) (dss_cons (ds_own trivial (df_call (g_law_draws fc _) (hr.mono (by decide)) hg cx_tk rfl fc.g__law_draws (da_cons (v_ 0) da_nil)) rfl (.inl (by decide)) claw.nd rfl (Or.inl rfl)) (dss_cons (ds_expr trivial (de_om0 om_reverse PySem.F.slot_list_reverse PySem.F.type_list_reverse rfl (pv 1))) (dss_cons (ds_asg (vs := [2]) trivial (de_callio (g_law_integer fc _) (hr.mono (by decide)) hg cx_tk rfl fc.g__law_integer rfl (pv 1) da_nil) (dg_name rfl rfl claw.nd rfl (Or.inl rfl))) (dss_cons (ds_asg (vs := [3]) trivial (de_callio (g_law_integer fc _) (hr.mono (by decide)) hg cx_tk rfl fc.g__law_integer rfl (pv 1) da_nil) (dg_name rfl rfl claw.nd rfl (Or.inl rfl))) (dss_cons (ds_if trivial (dt_cmp (od_ne hu) (de_b bt_repr (b_repr hg hu) rfl fc.f_repr (da_cons (de_call (g_law_told fc _) (hr.mono (by decide)) hg cx_tk rfl fc.g__law_told (da_cons de_int (da_cons (v_ 2) (da_cons (v_ 3) da_nil)))) da_nil)) (de_b bt_repr (b_repr hg hu) rfl fc.f_repr (da_cons (de_if (dt_cmp (od_eq hu) (v_ 3) de_int (pm _ _)) de_str (de_call (g_law_lowest fc _) (hr.mono (by decide)) hg cx_tk rfl fc.g__law_lowest (da_cons (v_ 2) (da_cons (v_ 3) da_nil)))) da_nil)) (pm _ _)) (dss_one (ds_ret trivial de_bl)) dss_nil) (dss_cons (ds_if trivial (dt_cmp (od_ne hu) (de_b bt_repr (b_repr hg hu) rfl fc.f_repr (da_cons (de_call (gis_number fc _) (hr.mono (by decide)) hg cx_tk rfl fc.g_is_number (da_cons (de_tup (da_cons (v_ 2) (da_cons (v_ 3) da_nil))) da_nil)) da_nil)) (de_b bt_repr (b_repr hg hu) rfl fc.f_repr (da_cons (de_and (de_cmp od_gt (v_ 3) de_int (pm _ _)) (de_one (de_cmp (od_eq hu) (de_call (g_law_divisor fc _) (hr.mono (by decide)) hg cx_tk rfl fc.g__law_divisor (da_cons (v_ 2) (da_cons (v_ 3) da_nil))) de_int (pm _ _)))) da_nil)) (pm _ _)) (dss_one (ds_ret trivial de_bl)) dss_nil) (dss_cons (ds_asg (vs := [4]) trivial (de_callio (g_law_pair fc _) (hr.mono (by decide)) hg cx_tk rfl fc.g__law_pair rfl (pv 1) da_nil) (dg_name rfl rfl claw.nd rfl (Or.inl rfl))) (dss_cons (ds_asg (vs := [5]) trivial (de_callio (g_law_pair fc _) (hr.mono (by decide)) hg cx_tk rfl fc.g__law_pair rfl (pv 1) da_nil) (dg_name rfl rfl claw.nd rfl (Or.inr rfl))) (dss_cons (ds_if trivial (dt_cmp (od_eq hu) (de_bin od_mod (de_ty bt_int b_int rfl fc.f_int (da_cons (de_callio (g_law_next fc _) (hr.mono (by decide)) hg cx_tk rfl fc.g__law_next rfl (pv 1) da_nil) da_nil)) de_int) de_int (pm _ _)) (dss_one (ds_asg (vs := [5]) trivial (de_tup (da_cons (de_ix ix_d (v_ 4) de_int (fun _ _ => rfl)) (da_cons (de_ix ix_d (v_ 4) de_int (fun _ _ => rfl)) da_nil))) (dg_name rfl rfl claw.nd rfl (Or.inr rfl)))) dss_nil) (dss_cons (ds_for (vs := [6]) trivial cx_pw rfl (di_seq (DF.toE (df_lst (da_cons de_int (da_cons de_int (da_cons de_int (da_cons de_int (da_cons de_int (da_cons de_int (da_cons de_int da_nil)))))))))) (dg_name rfl rfl claw.nd rfl (Or.inl rfl)) (dss_one (ds_if trivial (dt_cmp (od_ne hu) (de_b bt_repr (b_repr hg hu) rfl fc.f_repr (da_cons (de_call (g_law_told fc _) (hr.mono (by decide)) hg cx_tk rfl fc.g__law_told (da_cons (v_ 6) (da_cons (v_ 4) (da_cons (v_ 5) da_nil)))) da_nil)) (de_b bt_repr (b_repr hg hu) rfl fc.f_repr (da_cons (de_call (g_law_due fc _) (hr.mono (by decide)) hg cx_tk rfl fc.g__law_due (da_cons (v_ 6) (da_cons (v_ 4) (da_cons (v_ 5) da_nil)))) da_nil)) (pm _ _)) (dss_one (ds_ret trivial de_bl)) dss_nil))) (dss_cons (ds_asg (vs := [7]) trivial (de_bin od_add de_int (de_bin od_mod (de_ty bt_int b_int rfl fc.f_int (da_cons (de_callio (g_law_next fc _) (hr.mono (by decide)) hg cx_tk rfl fc.g__law_next rfl (pv 1) da_nil) da_nil)) de_int)) (dg_name rfl rfl claw.nd rfl (Or.inl rfl))) (dss_cons (ds_asg (vs := [8]) trivial (de_ix ix_d (DF.toE (df_lst (da_cons (de_tup (da_cons (de_bin od_mul (de_ix ix_d (v_ 4) de_int (fun _ _ => rfl)) (v_ 7)) (da_cons (de_bin od_mul (de_ix ix_d (v_ 4) de_int (fun _ _ => rfl)) (v_ 7)) da_nil))) (da_cons (de_tup (da_cons (de_ix ix_d (v_ 4) de_int (fun _ _ => rfl)) (da_cons (de_bin od_sub de_int (de_ix ix_d (v_ 4) de_int (fun _ _ => rfl))) da_nil))) (da_cons (de_tup (da_cons de_int (da_cons de_int da_nil))) (da_cons (de_tup (da_cons de_int (da_cons de_int da_nil))) (da_cons (de_tup (da_cons de_int (da_cons de_int da_nil))) da_nil))))))) (de_bin od_mod (de_ty bt_int b_int rfl fc.f_int (da_cons (de_callio (g_law_next fc _) (hr.mono (by decide)) hg cx_tk rfl fc.g__law_next rfl (pv 1) da_nil) da_nil)) de_int) (fun _ _ => rfl)) (dg_name rfl rfl claw.nd rfl (Or.inr rfl))) (dss_cons (ds_if trivial (DW.t (dw_or (dt_cmp od_isnot (de_call (gis_number fc _) (hr.mono (by decide)) hg cx_tk rfl fc.g_is_number (da_cons (v_ 8) da_nil)) de_bl (pm _ _)) (dw_or1 (dt_cmp od_isnot (de_call (gis_number fc _) (hr.mono (by decide)) hg cx_tk rfl fc.g_is_number (da_cons (v_ 4) da_nil)) de_bl (pm _ _))))) (dss_one (ds_ret trivial de_bl)) dss_nil) (dss_cons (ds_for (vs := [6]) trivial cx_pw rfl (di_range1 rfl fc.f_range (da_cons de_int da_nil)) (dg_name rfl rfl claw.nd rfl (Or.inl rfl)) (dss_one (ds_if trivial (DW.t (dw_or (dt_cmp (od_ne hu) (de_call (g_law_told fc _) (hr.mono (by decide)) hg cx_tk rfl fc.g__law_told (da_cons (v_ 6) (da_cons (v_ 8) (da_cons (v_ 5) da_nil)))) de_str (pm _ _)) (dw_or1 (dt_cmp (od_ne hu) (de_call (g_law_told fc _) (hr.mono (by decide)) hg cx_tk rfl fc.g__law_told (da_cons (v_ 6) (da_cons (v_ 5) (da_cons (v_ 8) da_nil)))) de_str (pm _ _))))) (dss_one (ds_ret trivial de_bl)) dss_nil))) (dss_cons (ds_if trivial (DW.t (dw_or (dt_cmp (od_ne hu) (de_call (g_law_told fc _) (hr.mono (by decide)) hg cx_tk rfl fc.g__law_told (da_cons de_int (da_cons (v_ 8) (da_cons (de_tup (da_cons de_int (da_cons de_int da_nil))) da_nil)))) de_str (pm _ _)) (dw_or1 (dt_cmp (od_ne hu) (de_b bt_repr (b_repr hg hu) rfl fc.f_repr (da_cons (de_call (gnumber_1 fc _) (hr.mono (by decide)) hg cx_tk rfl fc.g_number (da_cons (v_ 2) da_nil)) da_nil)) (de_b bt_repr (b_repr hg hu) rfl fc.f_repr (da_cons (de_tup (da_cons (v_ 2) (da_cons de_int da_nil))) da_nil)) (pm _ _))))) (dss_one (ds_ret trivial de_bl)) dss_nil) (dss_one (ds_ret trivial (de_b bt_all (b_all rfl) rfl fc.f_all (da_cons (DF.toE (df_lc rfl claw.nd rfl (di_seq (DF.toE (df_lst (da_cons de_int (da_cons de_int (da_cons de_int da_nil)))))) (blkOk_by (own := [("way", 6)]) (by kernel_rfl)) (fun _ _ _ _ _ => (dg_name rfl rfl claw.nd rfl (Or.inl rfl))) (fun _ _ _ _ _ => pts_nil) tYes_go (fun _ _ _ _ _ => (de_cmp (od_eq hu) (de_call (g_law_told fc _) (hr.mono (by decide)) hg (takes0 rfl) rfl fc.g__law_told (da_cons (v_ 6) (da_cons (v_ 8) (da_cons (v_ 5) da_nil)))) de_str (pm _ _))))) da_nil))))))))))))))))))))
end
end K00
namespace K00
open DL L2 PySem PySem.Spec PyProof.Rows
theorem e_draws : F_law_draws = qDraws := rfl
theorem e_next : F_law_next = qNext := rfl
theorem e_div : Fdivisor = qDivisor := rfl
theorem e_ldiv : F_law_divisor = qLDivisor := rfl
theorem e_low : Flowest = qLowest := rfl
theorem e_llow : F_law_lowest = qLLowest := rfl
theorem e_isn : Fis_number = qIsNumber := rfl
abbrev NN : Xn := ⟨"NotNumber", []⟩
abbrev BN : Xn := ⟨"BadNumber", []⟩
abbrev Big (a : Int) : Prop := a.natAbs < 2 ^ 200
theorem big8 {a : Int} (h : Big a) : a.natAbs < 2 ^ 8000 := sm_up h (by decide)
section
variable {a b c d : Int}
theorem v_check (hb : Big b) (ρ : En) : (Fcheck_number [tupI (a, b)]).R ρ = if isNum a b = true then .ok .non ρ else .ex NN ρ := by
  have h := qIsNumber_v (a := a) (big8 hb)
  cases hi : isNum a b with
  | true => rw [hi] at h; simp -implicitDefEqProofs [Fcheck_number, runM, mcheck_number, pad, mCall_R, e_isn, h]
  | false => rw [hi] at h; simp -implicitDefEqProofs [Fcheck_number, runM, mcheck_number, pad, mCall_R, e_isn, h]
theorem v_both (hb : Big b) (hd : Big d) (ρ : En) : (Fcheck_both [tupI (a, b), tupI (c, d)]).R ρ = if (isNum a b && isNum c d) = true then .ok .non ρ else .ex NN ρ := by
  have h1 := v_check (a := a) hb
  have h2 := v_check (a := c) hd
  cases hi : isNum a b with
  | true =>
    rw [hi] at h1
    cases hj : isNum c d with
    | true => rw [hj] at h2; simp -implicitDefEqProofs [Fcheck_both, runM, mcheck_both, pad, mCall_R, h1, h2]
    | false => rw [hj] at h2; simp -implicitDefEqProofs [Fcheck_both, runM, mcheck_both, pad, mCall_R, h1, h2]
  | false => rw [hi] at h1; simp -implicitDefEqProofs [Fcheck_both, runM, mcheck_both, pad, mCall_R, h1]
theorem big_mul (h1 : Big a) (h2 : Big b) : gMul (.int a) (.int b) = some (.int (a * b)) := gMul_sm h1 h2 (by decide) (by decide) (by decide)
theorem big_mul8 (h1 : Big a) (h2 : Big b) : (a * b).natAbs < 2 ^ 8000 := sm_up (sm_mul h1 h2) (by decide)
theorem at0 (p : Int × Int) : gIx (tupI p) (.int 0) = some (.int p.1) := rfl
theorem at1 (p : Int × Int) : gIx (tupI p) (.int 1) = some (.int p.2) := rfl
theorem v_summed (ha : Big a) (hb : Big b) (hc : Big c) (hd : Big d) (nb : b ≠ 0) (nd : d ≠ 0) (ρ : En) : (Fsummed [tupI (a, b), tupI (c, d)]).R ρ = .ok (tupI (low (a * d + c * b) (b * d))) ρ := by
  have h := fun ρ => qLowest_v (a := a * d + c * b) (Int.mul_ne_zero nb nd) (big_mul8 hb hd) ρ
  simp -implicitDefEqProofs [Fsummed, runM, msummed, pad, mCall_R, e_low, h, at0, at1, big_mul, ha, hb, hc, hd]
theorem v_multiplied (ha : Big a) (hb : Big b) (hc : Big c) (hd : Big d) (nb : b ≠ 0) (nd : d ≠ 0) (ρ : En) : (Fmultiplied [tupI (a, b), tupI (c, d)]).R ρ = .ok (tupI (low (a * c) (b * d))) ρ := by
  have h := fun ρ => qLowest_v (a := a * c) (Int.mul_ne_zero nb nd) (big_mul8 hb hd) ρ
  simp -implicitDefEqProofs [Fmultiplied, runM, mmultiplied, pad, mCall_R, e_low, h, at0, at1, big_mul, ha, hb, hc, hd]
theorem v_negated (ρ : En) : (Fnegated [tupI (c, d)]).R ρ = .ok (tupI (-c, d)) ρ := by
  simp -implicitDefEqProofs [Fnegated, runM, mnegated, pad, at0, at1, two_le]
  rfl
theorem v_inverted (hc : Big c) (nc : c ≠ 0) (ρ : En) : (Finverted [tupI (c, d)]).R ρ = .ok (tupI (low d c)) ρ := by
  have h := fun ρ => qLowest_v (a := d) nc (big8 hc) ρ
  simp -implicitDefEqProofs [Finverted, runM, minverted, pad, mCall_R, e_low, h, at0, at1]
theorem num_ne (h : isNum a b = true) : b ≠ 0 := by
  unfold isNum at h
  simp at h
  omega
abbrev ok2 (a b c d : Int) : Bool := isNum a b && isNum c d
theorem ok2_l (h : ok2 a b c d = true) : b ≠ 0 ∧ d ≠ 0 := by
  unfold ok2 at h
  rw [Bool.and_eq_true] at h
  exact ⟨num_ne h.1, num_ne h.2⟩
theorem v_plus (ha : Big a) (hb : Big b) (hc : Big c) (hd : Big d) (ρ : En) : (Fplus [tupI (a, b), tupI (c, d)]).R ρ = if ok2 a b c d = true then .ok (tupI (low (a * d + c * b) (b * d))) ρ else .ex NN ρ := by
  have h := v_both (a := a) (c := c) hb hd
  cases hk : ok2 a b c d with
  | true =>
    rw [show (isNum a b && isNum c d) = true from hk] at h
    simp -implicitDefEqProofs [Fplus, runM, mplus, pad, mCall_R, h, v_summed ha hb hc hd (ok2_l hk).1 (ok2_l hk).2]
  | false =>
    rw [show (isNum a b && isNum c d) = false from hk] at h
    simp -implicitDefEqProofs [Fplus, runM, mplus, pad, mCall_R, h]
theorem neg_big (h : Big c) : Big (-c) := by unfold Big at *; rw [Int.natAbs_neg]; exact h
theorem v_minus (ha : Big a) (hb : Big b) (hc : Big c) (hd : Big d) (ρ : En) : (Fminus [tupI (a, b), tupI (c, d)]).R ρ = if ok2 a b c d = true then .ok (tupI (low (a * d - c * b) (b * d))) ρ else .ex NN ρ := by
  have h := v_both (a := a) (c := c) hb hd
  have e : a * d + -c * b = a * d - c * b := by rw [Int.neg_mul]; omega
  cases hk : ok2 a b c d with
  | true =>
    rw [show (isNum a b && isNum c d) = true from hk] at h
    have h2 := fun ρ => v_summed ha hb (neg_big hc) hd (ok2_l hk).1 (ok2_l hk).2 ρ
    rw [e] at h2
    simp -implicitDefEqProofs [Fminus, runM, mminus, pad, mCall_R, h, v_negated, h2]
  | false =>
    rw [show (isNum a b && isNum c d) = false from hk] at h
    simp -implicitDefEqProofs [Fminus, runM, mminus, pad, mCall_R, h]
theorem v_times (ha : Big a) (hb : Big b) (hc : Big c) (hd : Big d) (ρ : En) : (Ftimes [tupI (a, b), tupI (c, d)]).R ρ = if ok2 a b c d = true then .ok (tupI (low (a * c) (b * d))) ρ else .ex NN ρ := by
  have h := v_both (a := a) (c := c) hb hd
  cases hk : ok2 a b c d with
  | true =>
    rw [show (isNum a b && isNum c d) = true from hk] at h
    simp -implicitDefEqProofs [Ftimes, runM, mtimes, pad, mCall_R, h, v_multiplied ha hb hc hd (ok2_l hk).1 (ok2_l hk).2]
  | false =>
    rw [show (isNum a b && isNum c d) = false from hk] at h
    simp -implicitDefEqProofs [Ftimes, runM, mtimes, pad, mCall_R, h]
theorem eq_zero (h : isNum c d = true) : gEq (tupI (c, d)) (.tup cZERO) = some (.bl (decide (c = 0))) := by
  have e1 : (tupI (c, d)).py = some (.tuple [.int c, .int d]) := rfl
  have e2 : (D.tup cZERO).py = some (.tuple [.int 0, .int 1]) := rfl
  have s1 : SeqAt.shaped (.tuple [.int c, .int d]) = true := by simp [SeqAt.shaped, PyData.canLay0, PyData.canLayAll0, PyData.depth, PyData.depthAll]
  have s2 : SeqAt.shaped (.tuple [.int 0, .int 1]) = true := by decide
  show (eqD (tupI (c, d)) (.tup cZERO)).map D.bl = _
  have e3 : eqD (tupI (c, d)) (.tup cZERO) = (match (tupI (c, d)).py, (D.tup cZERO).py with
    | some x, some y => if SeqAt.shaped x = true ∧ SeqAt.shaped y = true then some (PyData.eqv x y) else none
    | _, _ => none) := rfl
  rw [e3, e1, e2]
  show (if _ then some _ else none : Option Bool).map D.bl = _
  rw [if_pos ⟨s1, s2⟩]
  have e4 : PyData.eqv (.tuple [.int c, .int d]) (.tuple [.int 0, .int 1]) = decide (c = 0) := by
    unfold isNum at h
    simp at h
    by_cases z : c = 0
    · subst z
      have : d = 1 := by
        have h2 := h.2
        rw [Int.gcd_zero_left] at h2
        omega
      subst this
      decide
    · simp [PyData.eqv, PyData.eqvAll, z]
  rw [e4]
  rfl
theorem v_over (ha : Big a) (hb : Big b) (hc : Big c) (hd : Big d) (ρ : En) : (Fover [tupI (a, b), tupI (c, d)]).R ρ = if ok2 a b c d = true then (if c = 0 then .ex BN ρ else .ok (tupI (low (a * (low d c).1) (b * (low d c).2))) ρ) else .ex NN ρ := by
  have h := v_both (a := a) (c := c) hb hd
  cases hk : ok2 a b c d with
  | true =>
    rw [show (isNum a b && isNum c d) = true from hk] at h
    have hy : isNum c d = true := by
      unfold ok2 at hk
      rw [Bool.and_eq_true] at hk
      exact hk.2
    by_cases z : c = 0
    · subst z
      simp -implicitDefEqProofs [Fover, runM, mover, pad, mCall_R, h, eq_zero hy]
    · have hs := low_sm hd hc
      have h2 := fun ρ => v_multiplied (a := a) (b := b) (c := (low d c).1) (d := (low d c).2) ha hb hs.1 hs.2 (ok2_l hk).1 (num_ne (low_num z)) ρ
      simp -implicitDefEqProofs [Fover, runM, mover, pad, mCall_R, h, eq_zero hy, z, v_inverted hc z, h2]
  | false =>
    rw [show (isNum a b && isNum c d) = false from hk] at h
    simp -implicitDefEqProofs [Fover, runM, mover, pad, mCall_R, h]
theorem v_less (ha : Big a) (hb : Big b) (hc : Big c) (hd : Big d) (ρ : En) : (Fis_less [tupI (a, b), tupI (c, d)]).R ρ = if ok2 a b c d = true then .ok (.bl (decide (a * d < c * b))) ρ else .ex NN ρ := by
  have h := v_both (a := a) (c := c) hb hd
  cases hk : ok2 a b c d with
  | true =>
    rw [show (isNum a b && isNum c d) = true from hk] at h
    simp -implicitDefEqProofs [Fis_less, runM, mis_less, pad, mCall_R, h, at0, at1, big_mul, ha, hb, hc, hd]
  | false =>
    rw [show (isNum a b && isNum c d) = false from hk] at h
    simp -implicitDefEqProofs [Fis_less, runM, mis_less, pad, mCall_R, h]
abbrev sgn (a : Int) : Int := if 0 < a then 1 else if a < 0 then -1 else 0
theorem v_sign (hb : Big b) (ρ : En) : (Fsign [tupI (a, b)]).R ρ = if isNum a b = true then .ok (.int (sgn a)) ρ else .ex NN ρ := by
  have h := v_check (a := a) hb
  cases hk : isNum a b with
  | true =>
    rw [hk] at h
    by_cases p : 0 < a
    · simp -implicitDefEqProofs [Fsign, runM, msign, pad, mCall_R, h, at0, p, sgn]
    · by_cases n : a < 0
      · simp -implicitDefEqProofs [Fsign, runM, msign, pad, mCall_R, h, at0, p, n, sgn]
      · simp -implicitDefEqProofs [Fsign, runM, msign, pad, mCall_R, h, at0, p, n, sgn]
  | false =>
    rw [hk] at h
    simp -implicitDefEqProofs [Fsign, runM, msign, pad, mCall_R, h]
theorem v_text (hb : Big b) (hn : isNum a b = false) (ρ : En) : (Fnumber_text [tupI (a, b)]).R ρ = .ex NN ρ := by
  have h := v_check (a := a) hb
  rw [hn] at h
  simp -implicitDefEqProofs [Fnumber_text, runM, mnumber_text, pad, mCall_R, h]
theorem v_number (hb : Big b) (ρ : En) : (Fnumber [.int a, .int b]).R ρ = if b = 0 then .ex BN ρ else .ok (tupI (low a b)) ρ := by
  by_cases z : b = 0
  · subst z
    simp -implicitDefEqProofs [Fnumber, runM, mnumber, pad]
  · have h := fun ρ => qLowest_v (a := a) z (big8 hb) ρ
    simp -implicitDefEqProofs [Fnumber, runM, mnumber, pad, mCall_R, e_low, h, z]
theorem v_number1 (ρ : En) : (Fnumber_1 [.int a]).R ρ = .ok (tupI (low a 1)) ρ := by
  have h := fun ρ => qLowest_v (a := a) (b := 1) (by decide) (sm_up (show (1 : Int).natAbs < 2 ^ 1 by decide) (by decide)) ρ
  simp -implicitDefEqProofs [Fnumber_1, runM, mnumber, pad, mCall_R, e_low, h]
abbrev sNN : D := .str "![0, 1]"
abbrev sBN : D := .str "![1, 0]"
def toldR (r : R D) : R D := match r with
  | .ok d ρ => .ok d ρ
  | .ex x ρ => if x.c = "NotNumber" then .ok sNN ρ else .ok sBN ρ
  | .bad => .bad
theorem t0_0 : t_law_told_0 "plus" = some Fplus := rfl
theorem t0_1 : t_law_told_0 "minus" = some Fminus := rfl
theorem t0_2 : t_law_told_0 "times" = some Ftimes := rfl
theorem t0_3 : t_law_told_0 "over" = some Fover := rfl
theorem t0_4 : t_law_told_0 "is_less" = some Fis_less := rfl
theorem t1_0 : t_law_told_1 "sign" = some Fsign := rfl
theorem t1_1 : t_law_told_1 "check_number" = some Fcheck_number := rfl
theorem t1_2 : t_law_told_1 "number_text" = some Fnumber_text := rfl
theorem five_le : 5 ≤ sizeLine := by decide
theorem three_le : 3 ≤ sizeLine := by decide
theorem mtNN : mtPlaneError "NotNumber" = some true := rfl
theorem mtBN : mtPlaneError "BadNumber" = some true := rfl
theorem sNNv : gAdd (.str "!") (.str "[0, 1]") = some sNN := rfl
theorem sBNv : gAdd (.str "!") (.str "[1, 0]") = some sBN := rfl
theorem g01 : gStr [.lst [.int 0, .int 1]] = some (.str "[0, 1]") := by kernel_rfl
theorem g10 : gStr [.lst [.int 1, .int 0]] = some (.str "[1, 0]") := by kernel_rfl
theorem kB1 : kBadNumber "NotNumber" = false := rfl
theorem kB2 : kBadNumber "BadNumber" = true := rfl
theorem kN1 : kNotNumber "NotNumber" = true := rfl
theorem kN2 : kNotNumber "BadNumber" = false := rfl
abbrev tl (ok : Bool) (d : D) : D := if ok = true then d else sNN
theorem told0 (ha : Big a) (hb : Big b) (hc : Big c) (hd : Big d) (ρ : En) : (F_law_told [.int 0, tupI (a, b), tupI (c, d)]).R ρ = .ok (tl (ok2 a b c d) (tupI (low (a * d + c * b) (b * d)))) ρ := by
  have h := fun ρ => v_plus ha hb hc hd ρ
  cases hk : ok2 a b c d with
  | true =>
    rw [hk] at h
    simp -implicitDefEqProofs [F_law_told, runM, m_law_told, mTryAs_ap, pad, mCall_R, t0_0, L2.atI, L2.ixN, five_le, h, tl]
  | false =>
    rw [hk] at h
    simp -implicitDefEqProofs [F_law_told, runM, m_law_told, mTryAs_ap, pad, mCall_R, t0_0, L2.atI, L2.ixN, five_le, h, mtNN, fgt, kB1, kN1, g01, sNNv, two_le, tl]
theorem told1 (ha : Big a) (hb : Big b) (hc : Big c) (hd : Big d) (ρ : En) : (F_law_told [.int 1, tupI (a, b), tupI (c, d)]).R ρ = .ok (tl (ok2 a b c d) (tupI (low (a * d - c * b) (b * d)))) ρ := by
  have h := fun ρ => v_minus ha hb hc hd ρ
  cases hk : ok2 a b c d with
  | true =>
    rw [hk] at h
    simp -implicitDefEqProofs [F_law_told, runM, m_law_told, mTryAs_ap, pad, mCall_R, L2.atI, L2.ixN, t0_1, five_le, h, tl]
  | false =>
    rw [hk] at h
    simp -implicitDefEqProofs [F_law_told, runM, m_law_told, mTryAs_ap, pad, mCall_R, L2.atI, L2.ixN, t0_1, five_le, h, mtNN, fgt, kB1, kN1, g01, sNNv, two_le, tl]
theorem told2 (ha : Big a) (hb : Big b) (hc : Big c) (hd : Big d) (ρ : En) : (F_law_told [.int 2, tupI (a, b), tupI (c, d)]).R ρ = .ok (tl (ok2 a b c d) (tupI (low (a * c) (b * d)))) ρ := by
  have h := fun ρ => v_times ha hb hc hd ρ
  cases hk : ok2 a b c d with
  | true =>
    rw [hk] at h
    simp -implicitDefEqProofs [F_law_told, runM, m_law_told, mTryAs_ap, pad, mCall_R, L2.atI, L2.ixN, t0_2, five_le, h, tl]
  | false =>
    rw [hk] at h
    simp -implicitDefEqProofs [F_law_told, runM, m_law_told, mTryAs_ap, pad, mCall_R, L2.atI, L2.ixN, t0_2, five_le, h, mtNN, fgt, kB1, kN1, g01, sNNv, two_le, tl]
theorem told4 (ha : Big a) (hb : Big b) (hc : Big c) (hd : Big d) (ρ : En) : (F_law_told [.int 4, tupI (a, b), tupI (c, d)]).R ρ = .ok (tl (ok2 a b c d) (.bl (decide (a * d < c * b)))) ρ := by
  have h := fun ρ => v_less ha hb hc hd ρ
  cases hk : ok2 a b c d with
  | true =>
    rw [hk] at h
    simp -implicitDefEqProofs [F_law_told, runM, m_law_told, mTryAs_ap, pad, mCall_R, L2.atI, L2.ixN, t0_4, five_le, h, tl]
  | false =>
    rw [hk] at h
    simp -implicitDefEqProofs [F_law_told, runM, m_law_told, mTryAs_ap, pad, mCall_R, L2.atI, L2.ixN, t0_4, five_le, h, mtNN, fgt, kB1, kN1, g01, sNNv, two_le, tl]
theorem told3 (ha : Big a) (hb : Big b) (hc : Big c) (hd : Big d) (ρ : En) : (F_law_told [.int 3, tupI (a, b), tupI (c, d)]).R ρ = .ok (tl (ok2 a b c d) (if c = 0 then sBN else tupI (low (a * (low d c).1) (b * (low d c).2)))) ρ := by
  have h := fun ρ => v_over ha hb hc hd ρ
  cases hk : ok2 a b c d with
  | true =>
    rw [hk] at h
    by_cases z : c = 0
    · subst z
      simp -implicitDefEqProofs [F_law_told, runM, m_law_told, mTryAs_ap, pad, mCall_R, L2.atI, L2.ixN, t0_3, five_le, h, mtBN, fgt, kB2, kN2, g10, sBNv, two_le, tl]
    · simp -implicitDefEqProofs [F_law_told, runM, m_law_told, mTryAs_ap, pad, mCall_R, L2.atI, L2.ixN, t0_3, five_le, h, z, tl]
  | false =>
    rw [hk] at h
    simp -implicitDefEqProofs [F_law_told, runM, m_law_told, mTryAs_ap, pad, mCall_R, L2.atI, L2.ixN, t0_3, five_le, h, mtNN, fgt, kB1, kN1, g01, sNNv, two_le, tl]
theorem told6 (hb : Big b) (y : D) (ρ : En) : (F_law_told [.int 6, tupI (a, b), y]).R ρ = .ok (tl (isNum a b) (.int (sgn a))) ρ := by
  have h := fun ρ => v_sign (a := a) hb ρ
  cases hk : isNum a b with
  | true =>
    rw [hk] at h
    simp -implicitDefEqProofs [F_law_told, runM, m_law_told, mTryAs_ap, pad, mCall_R, L2.atI, L2.ixN, t1_0, three_le, h, tl]
  | false =>
    rw [hk] at h
    simp -implicitDefEqProofs [F_law_told, runM, m_law_told, mTryAs_ap, pad, mCall_R, L2.atI, L2.ixN, t1_0, three_le, h, mtNN, fgt, kB1, kN1, g01, sNNv, two_le, tl]
theorem told7 (hb : Big b) (y : D) (ρ : En) : (F_law_told [.int 7, tupI (a, b), y]).R ρ = .ok (tl (isNum a b) .non) ρ := by
  have h := fun ρ => v_check (a := a) hb ρ
  cases hk : isNum a b with
  | true =>
    rw [hk] at h
    simp -implicitDefEqProofs [F_law_told, runM, m_law_told, mTryAs_ap, pad, mCall_R, L2.atI, L2.ixN, t1_1, three_le, h, tl]
  | false =>
    rw [hk] at h
    simp -implicitDefEqProofs [F_law_told, runM, m_law_told, mTryAs_ap, pad, mCall_R, L2.atI, L2.ixN, t1_1, three_le, h, mtNN, fgt, kB1, kN1, g01, sNNv, two_le, tl]
theorem told8 (hb : Big b) (hn : isNum a b = false) (y : D) (ρ : En) : (F_law_told [.int 8, tupI (a, b), y]).R ρ = .ok sNN ρ := by
  have h := fun ρ => v_text (a := a) hb hn ρ
  simp -implicitDefEqProofs [F_law_told, runM, m_law_told, mTryAs_ap, pad, mCall_R, L2.atI, L2.ixN, t1_2, three_le, h, mtNN, fgt, kB1, kN1, g01, sNNv, two_le, tl]
theorem told5 (hb : Big b) (ρ : En) : (F_law_told [.int 5, .int a, .int b]).R ρ = .ok (if b = 0 then sBN else tupI (low a b)) ρ := by
  have h := fun ρ => v_number (a := a) hb ρ
  by_cases z : b = 0
  · subst z
    simp -implicitDefEqProofs [F_law_told, runM, m_law_told, mTryAs_ap, pad, mCall_R, L2.atI, L2.ixN, h, mtBN, fgt, kB2, kN2, g10, sBNv, two_le]
  · simp -implicitDefEqProofs [F_law_told, runM, m_law_told, mTryAs_ap, pad, mCall_R, L2.atI, L2.ixN, h, z]
theorem due0 (ha : Big a) (hb : Big b) (hc : Big c) (hd : Big d) (nb : b ≠ 0) (nd : d ≠ 0) (ρ : En) : (F_law_due [.int 0, tupI (a, b), tupI (c, d)]).R ρ = .ok (tupI (low (a * d + c * b) (b * d))) ρ := by
  have h := fun ρ => qLLowest_v (a := a * d + c * b) (Int.mul_ne_zero nb nd) (big_mul8 hb hd) ρ
  simp -implicitDefEqProofs [F_law_due, runM, m_law_due, pad, mCall_R, e_llow, h, at0, at1, big_mul, ha, hb, hc, hd]
theorem due1 (ha : Big a) (hb : Big b) (hc : Big c) (hd : Big d) (nb : b ≠ 0) (nd : d ≠ 0) (ρ : En) : (F_law_due [.int 1, tupI (a, b), tupI (c, d)]).R ρ = .ok (tupI (low (a * d - c * b) (b * d))) ρ := by
  have h := fun ρ => qLLowest_v (a := a * d - c * b) (Int.mul_ne_zero nb nd) (big_mul8 hb hd) ρ
  simp -implicitDefEqProofs [F_law_due, runM, m_law_due, pad, mCall_R, e_llow, h, at0, at1, big_mul, ha, hb, hc, hd]
theorem due2 (ha : Big a) (hb : Big b) (hc : Big c) (hd : Big d) (nb : b ≠ 0) (nd : d ≠ 0) (ρ : En) : (F_law_due [.int 2, tupI (a, b), tupI (c, d)]).R ρ = .ok (tupI (low (a * c) (b * d))) ρ := by
  have h := fun ρ => qLLowest_v (a := a * c) (Int.mul_ne_zero nb nd) (big_mul8 hb hd) ρ
  simp -implicitDefEqProofs [F_law_due, runM, m_law_due, pad, mCall_R, e_llow, h, at0, at1, big_mul, ha, hb, hc, hd]
theorem due3 (ha : Big a) (hb : Big b) (hc : Big c) (hd : Big d) (nb : b ≠ 0) (nd : d ≠ 0) (ρ : En) : (F_law_due [.int 3, tupI (a, b), tupI (c, d)]).R ρ = .ok (if c = 0 then sBN else tupI (low (a * d) (b * c))) ρ := by
  by_cases z : c = 0
  · subst z
    simp -implicitDefEqProofs [F_law_due, runM, m_law_due, pad, mCall_R, at0, at1]
  · have h := fun ρ => qLLowest_v (a := a * d) (Int.mul_ne_zero nb z) (big_mul8 hb hc) ρ
    simp -implicitDefEqProofs [F_law_due, runM, m_law_due, pad, mCall_R, e_llow, h, at0, at1, big_mul, ha, hb, hc, hd, z]
theorem due4 (ha : Big a) (hb : Big b) (hc : Big c) (hd : Big d) (ρ : En) : (F_law_due [.int 4, tupI (a, b), tupI (c, d)]).R ρ = .ok (.bl (decide (a * d < c * b))) ρ := by
  simp -implicitDefEqProofs [F_law_due, runM, m_law_due, pad, mCall_R, at0, at1, big_mul, ha, hb, hc, hd]
theorem due6 (x : D) (ρ : En) : (F_law_due [.int 6, tupI (a, b), x]).R ρ = .ok (.int (sgn a)) ρ := by
  by_cases p : 0 < a
  · have n : ¬ a < 0 := by omega
    simp -implicitDefEqProofs [F_law_due, runM, m_law_due, pad, at0, at1, p, n, sgn]
  · by_cases n : a < 0
    · simp -implicitDefEqProofs [F_law_due, runM, m_law_due, pad, at0, at1, p, n, sgn]
    · simp -implicitDefEqProofs [F_law_due, runM, m_law_due, pad, at0, at1, p, n, sgn]
theorem due7 (x y : D) (ρ : En) : (F_law_due [.int 7, x, y]).R ρ = .ok .non ρ := by
  simp -implicitDefEqProofs [F_law_due, runM, m_law_due, pad]
end
end K00
namespace K00
open DL L2 PySem PySem.Spec PyProof.Rows
theorem fm_rng (x : Int) {m : Int} (h : 0 < m) : 0 ≤ x.fmod m ∧ x.fmod m < m := by
  rw [Int.fmod_eq_emod_of_nonneg _ (by omega)]
  exact ⟨Int.emod_nonneg _ (by omega), Int.emod_lt_of_pos _ h⟩
abbrev dl (l : List Int) : D := .lst (l.map D.int)
theorem io_next (l : List Int) (r : En) : mCallIo F_law_next 0 mNil (some (dl l) :: r) = .ok (.int (drawI l)) (some (dl l.dropLast) :: r) := by
  rw [mCallIo_ap, getO_0]
  simp -implicitDefEqProofs [getO_0, e_next, qNext_v]
theorem io_next1 (x : Option D) (l : List Int) (r : En) : mCallIo F_law_next 1 mNil (x :: some (dl l) :: r) = .ok (.int (drawI l)) (x :: some (dl l.dropLast) :: r) := by
  rw [mCallIo_ap, getO_1]
  simp -implicitDefEqProofs [getO_1, e_next, qNext_v]
theorem pow12 {m : Nat} (h : m ≤ 12) : (1000 : Int) ^ m ≤ 1000 ^ 12 := by
  have z := Nat.pow_le_pow_right (n := 1000) (by decide) h
  exact_mod_cast z
def mIt : MS := (msAsg (m2 gAdd (m2 gMul (mVar 2) (mK (.int 1000))) (m2 gMod (mN gInt (mCons (mCallIo F_law_next 0 mNil) mNil)) (mK (.int 1000)))) (mgName 2))
theorem it_loop (x : Option D) : ∀ (ds : List D) (m : Nat) (t : Int) (l : List Int) (o : Option D), m + ds.length ≤ 12 → 0 ≤ t → t < 1000 ^ m →
    ∃ (t' : Int) (l' : List Int) (o' : Option D), loopL (mgName 3) mIt ds [some (dl l), x, some (.int t), o] = .nx [some (dl l'), x, some (.int t'), o'] ∧ 0 ≤ t' ∧ t' < 1000 ^ 12
  | [], m, t, l, o, h, h0, h1 => ⟨t, l, o, rfl, h0, by
      have : (1000 : Int) ^ m ≤ 1000 ^ 12 := pow12 (by simpa using h)
      omega⟩
  | d :: ds, m, t, l, o, h, h0, h1 => by
    rw [List.length_cons] at h
    obtain ⟨r1, r2⟩ := fm_rng (drawI l) (m := 1000) (by decide)
    have h2 : t * 1000 + (drawI l).fmod 1000 < 1000 ^ (m + 1) := by
      rw [Int.pow_succ]
      omega
    obtain ⟨t', l', o', e, q0, q1⟩ := it_loop x ds (m + 1) (t * 1000 + (drawI l).fmod 1000) l.dropLast (some d) (by omega) (by omega) h2
    refine ⟨t', l', o', ?_, q0, q1⟩
    rw [← e]
    have tb : t.natAbs < 2 ^ 130 := by
      have : (1000 : Int) ^ m ≤ 1000 ^ 12 := pow12 (by omega)
      have z : (1000 : Int) ^ 12 < 2 ^ 130 := by decide
      have z2 : ((2 ^ 130 : Nat) : Int) = 2 ^ 130 := by norm_cast
      omega
    have gm := gMul_sm (a := t) (b := 1000) (i := 130) (j := 20) tb (by decide) (by decide) (by decide) (by decide)
    simp -implicitDefEqProofs [loopL, mIt, gm, io_next, gMod_ii]
theorem v_integer (l : List Int) : ∃ (n : Int) (l' : List Int), F_law_integer [dl l] = .rt (.int n) (dl l') ∧ n.natAbs < 2 ^ 130 := by
  obtain ⟨k1, k2⟩ := fm_rng (drawI l) (m := 4) (by decide)
  by_cases c1 : (drawI l).fmod 4 < 2
  · obtain ⟨r1, r2⟩ := fm_rng (drawI l.dropLast) (m := 19) (by decide)
    refine ⟨(drawI l.dropLast).fmod 19 - 9, l.dropLast.dropLast, ?_, by omega⟩
    simp -implicitDefEqProofs [F_law_integer, runM, m_law_integer, pad, io_next, gMod_ii, c1, io0]
  · by_cases c2 : (drawI l).fmod 4 = 2
    · obtain ⟨r1, r2⟩ := fm_rng (drawI l.dropLast) (m := 1000) (by decide)
      obtain ⟨r3, r4⟩ := fm_rng (drawI l.dropLast.dropLast) (m := 3) (by decide)
      refine ⟨2 * (drawI l.dropLast).fmod 1000 + (drawI l.dropLast.dropLast).fmod 3 - 1000, l.dropLast.dropLast.dropLast, ?_, by omega⟩
      have gm := gMul_sm (a := 2) (b := (drawI l.dropLast).fmod 1000) (i := 20) (j := 20) (by decide) (by omega) (by decide) (by decide) (by decide)
      simp -implicitDefEqProofs [F_law_integer, runM, m_law_integer, pad, io_next, gMod_ii, c1, c2, gm, io0]
    · obtain ⟨r1, r2⟩ := fm_rng (drawI l.dropLast) (m := 12) (by decide)
      have hk : okR (1 + (drawI l.dropLast).fmod 12) = true := by
        unfold okR
        simp
        omega
      obtain ⟨t', l', o', e, q0, q1⟩ := it_loop (some (.int ((drawI l).fmod 4))) (rangeL 0 (1 + (drawI l.dropLast).fmod 12).toNat) 0 0 l.dropLast.dropLast none (by rw [rangeL_length]; omega) (by decide) (by decide)
      have z2 : ((2 ^ 130 : Nat) : Int) = 2 ^ 130 := by norm_cast
      have z : (1000 : Int) ^ 12 < 2 ^ 130 := by decide
      by_cases c3 : (drawI l').fmod 2 = 0
      · refine ⟨t', l'.dropLast, ?_, by omega⟩
        have e' : loopL (mgName 3) (msAsg (m2 gAdd (m2 gMul (mVar 2) (mK (.int 1000))) (m2 gMod (mN gInt (mCons (mCallIo F_law_next 0 mNil) mNil)) (mK (.int 1000)))) (mgName 2)) (rangeL 0 (1 + (drawI l.dropLast).fmod 12).toNat) [some (dl l.dropLast.dropLast), some (.int ((drawI l).fmod 4)), some (.int 0), none] = _ := e
        simp -implicitDefEqProofs [F_law_integer, runM, m_law_integer, pad, io_next, gMod_ii, c1, c2, hk, e', c3, io0]
      · refine ⟨-t', l'.dropLast, ?_, by omega⟩
        have e' : loopL (mgName 3) (msAsg (m2 gAdd (m2 gMul (mVar 2) (mK (.int 1000))) (m2 gMod (mN gInt (mCons (mCallIo F_law_next 0 mNil) mNil)) (mK (.int 1000)))) (mgName 2)) (rangeL 0 (1 + (drawI l.dropLast).fmod 12).toNat) [some (dl l.dropLast.dropLast), some (.int ((drawI l).fmod 4)), some (.int 0), none] = _ := e
        simp -implicitDefEqProofs [F_law_integer, runM, m_law_integer, pad, io_next, gMod_ii, c1, c2, hk, e', c3, io0]
theorem low_scale {x y g : Int} (hy : y ≠ 0) (hg : g ≠ 0) : low (x * g) (y * g) = low x y := by
  have s0 := sgcd_ne (a := x) hy
  have e : sgcd (x * g) (y * g) = sgcd x y * g := by
    have eg : Int.gcd (x * g) (y * g) = Int.gcd x y * g.natAbs := Int.gcd_mul_right x g y
    unfold sgcd
    rw [eg]
    rcases Int.lt_or_gt_of_ne hg with hg' | hg'
    · have ea : ((g.natAbs : Nat) : Int) = -g := by omega
      rcases Int.lt_or_gt_of_ne hy with hy' | hy'
      · have : ¬ y * g < 0 := by have := Int.mul_pos_of_neg_of_neg hy' hg'; omega
        rw [if_neg this, if_pos hy', Int.natCast_mul, ea, Int.mul_neg, Int.neg_mul]
      · have : y * g < 0 := Int.mul_neg_of_pos_of_neg hy' hg'
        rw [if_pos this, if_neg (by omega), Int.natCast_mul, ea, Int.mul_neg, Int.neg_neg]
    · have ea : ((g.natAbs : Nat) : Int) = g := by omega
      rcases Int.lt_or_gt_of_ne hy with hy' | hy'
      · have : y * g < 0 := Int.mul_neg_of_neg_of_pos hy' hg'
        rw [if_pos this, if_pos hy', Int.natCast_mul, ea, Int.neg_mul]
      · have : ¬ y * g < 0 := by have := Int.mul_pos hy' hg'; omega
        rw [if_neg this, if_neg (by omega), Int.natCast_mul, ea]
  have dv : sgcd x y ∣ x ∧ sgcd x y ∣ y := by
    have d1 := Int.gcd_dvd_left x y
    have d2 := Int.gcd_dvd_right x y
    unfold sgcd
    split
    · exact ⟨Int.neg_dvd.mpr d1, Int.neg_dvd.mpr d2⟩
    · exact ⟨d1, d2⟩
  obtain ⟨⟨u, hu⟩, ⟨v, hv⟩⟩ := dv
  generalize hs : sgcd x y = s at *
  unfold low
  rw [e, hs]
  have sg : s * g ≠ 0 := Int.mul_ne_zero s0 hg
  have e1 : (x * g).fdiv (s * g) = u := by
    rw [show x * g = u * (s * g) by rw [hu]; simp only [Int.mul_comm, Int.mul_left_comm, Int.mul_assoc], Int.mul_fdiv_cancel _ sg]
  have e2 : (y * g).fdiv (s * g) = v := by
    rw [show y * g = v * (s * g) by rw [hv]; simp only [Int.mul_comm, Int.mul_left_comm, Int.mul_assoc], Int.mul_fdiv_cancel _ sg]
  have e3 : x.fdiv s = u := by
    rw [show x = u * s by rw [hu, Int.mul_comm], Int.mul_fdiv_cancel _ s0]
  have e4 : y.fdiv s = v := by
    rw [show y = v * s by rw [hv, Int.mul_comm], Int.mul_fdiv_cancel _ s0]
  rw [e1, e2, e3, e4]
end K00
namespace K00
open DL L2 PySem PySem.Spec PyProof.Rows
def L0 : MS := (msOwn 1 (mCall F_law_draws (mCons (mVar 0) mNil)))
def L1 : MS := (msExpr (mOM gReverse 1 mNil))
def L2 : MS := (msAsg (mCallIo F_law_integer 1 mNil) (mgName 2))
def L3 : MS := (msAsg (mCallIo F_law_integer 1 mNil) (mgName 3))
def L4 : MS := (msIf (mTest (m2 gNe (mN gRepr (mCons (mCall F_law_told (mCons (mK (.int 5)) (mCons (mVar 2) (mCons (mVar 3) mNil)))) mNil)) (mN gRepr (mCons (mIf (mTest (m2 gEq (mVar 3) (mK (.int 0)))) (mK (.str "![1, 0]")) (mCall F_law_lowest (mCons (mVar 2) (mCons (mVar 3) mNil)))) mNil)))) (msRet (mK (.bl false))) msNil)
def L5 : MS := (msIf (mTest (m2 gNe (mN gRepr (mCons (mCall Fis_number (mCons (mN gTup (mCons (mVar 2) (mCons (mVar 3) mNil))) mNil)) mNil)) (mN gRepr (mCons (mAnd (m2 gGt (mVar 3) (mK (.int 0))) (m2 gEq (mCall F_law_divisor (mCons (mVar 2) (mCons (mVar 3) mNil))) (mK (.int 1)))) mNil)))) (msRet (mK (.bl false))) msNil)
def L6 : MS := (msAsg (mCallIo F_law_pair 1 mNil) (mgName 4))
def L7 : MS := (msAsg (mCallIo F_law_pair 1 mNil) (mgName 5))
def L8 : MS := (msIf (mTest (m2 gEq (m2 gMod (mN gInt (mCons (mCallIo F_law_next 1 mNil) mNil)) (mK (.int 5))) (mK (.int 1)))) (msAsg (mN gTup (mCons (m2 gIx (mVar 4) (mK (.int 0))) (mCons (m2 gIx (mVar 4) (mK (.int 1))) mNil))) (mgName 5)) msNil)
def L9 : MS := (msFor (mIter (mN gLst (mCons (mK (.int 0)) (mCons (mK (.int 1)) (mCons (mK (.int 2)) (mCons (mK (.int 3)) (mCons (mK (.int 4)) (mCons (mK (.int 6)) (mCons (mK (.int 7)) mNil))))))))) (mgName 6) (msIf (mTest (m2 gNe (mN gRepr (mCons (mCall F_law_told (mCons (mVar 6) (mCons (mVar 4) (mCons (mVar 5) mNil)))) mNil)) (mN gRepr (mCons (mCall F_law_due (mCons (mVar 6) (mCons (mVar 4) (mCons (mVar 5) mNil)))) mNil)))) (msRet (mK (.bl false))) msNil))
def L10 : MS := (msAsg (m2 gAdd (mK (.int 2)) (m2 gMod (mN gInt (mCons (mCallIo F_law_next 1 mNil) mNil)) (mK (.int 5)))) (mgName 7))
def L11 : MS := (msAsg (m2 gIx (mN gLst (mCons (mN gTup (mCons (m2 gMul (m2 gIx (mVar 4) (mK (.int 0))) (mVar 7)) (mCons (m2 gMul (m2 gIx (mVar 4) (mK (.int 1))) (mVar 7)) mNil))) (mCons (mN gTup (mCons (m2 gIx (mVar 4) (mK (.int 0))) (mCons (m2 gSub (mK (.int 0)) (m2 gIx (mVar 4) (mK (.int 1)))) mNil))) (mCons (mN gTup (mCons (mK (.int 1)) (mCons (mK (.int 0)) mNil))) (mCons (mN gTup (mCons (mK (.int 0)) (mCons (mK (.int 0)) mNil))) (mCons (mN gTup (mCons (mK (.int 0)) (mCons (mK (.int 2)) mNil))) mNil)))))) (m2 gMod (mN gInt (mCons (mCallIo F_law_next 1 mNil) mNil)) (mK (.int 5)))) (mgName 8))
def L12 : MS := (msIf (mOrT (mTest (m2 gIsNot (mCall Fis_number (mCons (mVar 8) mNil)) (mK (.bl false)))) (mTest (m2 gIsNot (mCall Fis_number (mCons (mVar 4) mNil)) (mK (.bl true))))) (msRet (mK (.bl false))) msNil)
def L13 : MS := (msFor (mItN gRange1 (mCons (mK (.int 5)) mNil)) (mgName 6) (msIf (mOrT (mTest (m2 gNe (mCall F_law_told (mCons (mVar 6) (mCons (mVar 8) (mCons (mVar 5) mNil)))) (mK (.str "![0, 1]")))) (mTest (m2 gNe (mCall F_law_told (mCons (mVar 6) (mCons (mVar 5) (mCons (mVar 8) mNil)))) (mK (.str "![0, 1]"))))) (msRet (mK (.bl false))) msNil))
def L14 : MS := (msIf (mOrT (mTest (m2 gNe (mCall F_law_told (mCons (mK (.int 3)) (mCons (mVar 8) (mCons (mN gTup (mCons (mK (.int 0)) (mCons (mK (.int 1)) mNil))) mNil)))) (mK (.str "![0, 1]")))) (mTest (m2 gNe (mN gRepr (mCons (mCall Fnumber_1 (mCons (mVar 2) mNil)) mNil)) (mN gRepr (mCons (mN gTup (mCons (mVar 2) (mCons (mK (.int 1)) mNil))) mNil))))) (msRet (mK (.bl false))) msNil)
def L15 : MS := (msRet (mN gAll (mCons (mLc [6] (mIter (mN gLst (mCons (mK (.int 6)) (mCons (mK (.int 7)) (mCons (mK (.int 8)) mNil))))) (mgName 6) mYes (m2 gEq (mCall F_law_told (mCons (mVar 6) (mCons (mVar 8) (mCons (mVar 5) mNil)))) (mK (.str "![0, 1]")))) mNil)))
theorem mlaw_eq : mlaw = (msForget 1 (msSeq L0 (msSeq L1 (msSeq L2 (msSeq L3 (msSeq L4 (msSeq L5 (msSeq L6 (msSeq L7 (msSeq L8 (msSeq L9 (msSeq L10 (msSeq L11 (msSeq L12 (msSeq L13 (msSeq L14 L15)))))))))))))))) := rfl
theorem v_pair (l : List Int) : ∃ (p : Int × Int) (l' : List Int), F_law_pair [dl l] = .rt (tupI p) (dl l') ∧ isNum p.1 p.2 = true ∧ p.1.natAbs < 2 ^ 131 ∧ p.2.natAbs < 2 ^ 131 := by
  obtain ⟨n, l1, e1, h1⟩ := v_integer l
  obtain ⟨m, l2, e2, h2⟩ := v_integer l1
  have nz : (if m < 0 then -m else m) + 1 ≠ 0 := by split <;> omega
  have sm : ((if m < 0 then -m else m) + 1).natAbs < 2 ^ 131 := by
    have : (2 : Nat) ^ 131 = 2 ^ 130 * 2 := by decide
    split <;> omega
  have hl := fun ρ => qLLowest_v (a := n) nz (sm_up sm (by decide)) ρ
  have s := low_sm (sm_up h1 (by decide : 130 ≤ 131)) sm
  refine ⟨low n ((if m < 0 then -m else m) + 1), l2, ?_, low_num nz, s.1, s.2⟩
  simp -implicitDefEqProofs [F_law_pair, runM, m_law_pair, pad, mCallIo_ap, getO_0, e1, e2, mCall_R, e_llow, hl, io0]
theorem ne_same {d : D} {z : Str} (h : shownD d = some z) : gRepr [d] = some (.str z) := by
  show (shownD d).map D.str = _
  rw [h]
  rfl
theorem shown_sBN : ∃ z, shownD sBN = some z := ⟨(PyData.str "![1, 0]").shown, by kernel_rfl⟩
theorem low_over {a b c d : Int} (nb : b ≠ 0) (z : c ≠ 0) : low (a * (low d c).1) (b * (low d c).2) = low (a * d) (b * c) := by
  have dv : sgcd d c ∣ d ∧ sgcd d c ∣ c := by
    have d1 := Int.gcd_dvd_left d c
    have d2 := Int.gcd_dvd_right d c
    unfold sgcd
    split
    · exact ⟨Int.neg_dvd.mpr d1, Int.neg_dvd.mpr d2⟩
    · exact ⟨d1, d2⟩
  have s0 := sgcd_ne (a := d) z
  obtain ⟨⟨u, hu⟩, ⟨v, hv⟩⟩ := dv
  unfold low
  show low (a * d.fdiv (sgcd d c)) (b * c.fdiv (sgcd d c)) = low (a * d) (b * c)
  generalize sgcd d c = g at *
  subst hu hv
  have e1 : (g * u).fdiv g = u := by rw [Int.mul_comm, Int.mul_fdiv_cancel _ s0]
  have e2 : (g * v).fdiv g = v := by rw [Int.mul_comm, Int.mul_fdiv_cancel _ s0]
  have v0 : v ≠ 0 := fun q => z (by rw [q, Int.mul_zero])
  rw [e1, e2, ← low_scale (Int.mul_ne_zero nb v0) s0]
  simp only [Int.mul_assoc, Int.mul_comm, Int.mul_left_comm]
abbrev St (S dr : D) (a b x y w f r : Option D) : En := [some S, some dr, a, b, x, y, w, f, r]
section
variable {S : D} {l : List Int} {a b : Int} {A B x y w f r : Option D}
theorem t4 (ha : a.natAbs < 2 ^ 130) (hb : b.natAbs < 2 ^ 130) : L4 (St S (dl l) (some (.int a)) (some (.int b)) x y w f r) = .nx (St S (dl l) (some (.int a)) (some (.int b)) x y w f r) := by
  have h5 := fun ρ => told5 (a := a) (b := b) (sm_up hb (by decide)) ρ
  by_cases z : b = 0
  · subst z
    obtain ⟨s, hs⟩ := shown_sBN
    have hs' := ne_same hs
    simp -implicitDefEqProofs [L4, mCall_R, h5, hs']
  · have hl := fun ρ => qLLowest_v (a := a) z (sm_up hb (by decide)) ρ
    have sm := low_sm ha hb
    obtain ⟨s, hs⟩ := shown_tup (p := low a b) (sm_up sm.1 (by decide)) (sm_up sm.2 (by decide))
    have hs' := ne_same hs
    simp -implicitDefEqProofs [L4, mCall_R, h5, z, e_llow, hl, hs']
theorem t5 (ha : a.natAbs < 2 ^ 130) (hb : b.natAbs < 2 ^ 130) : L5 (St S (dl l) (some (.int a)) (some (.int b)) x y w f r) = .nx (St S (dl l) (some (.int a)) (some (.int b)) x y w f r) := by
  have hi := fun ρ => qIsNumber_v (a := a) (b := b) (sm_up hb (by decide)) ρ
  have hg := fun ρ => qLDivisor_v a b (sm_up hb (by decide)) ρ
  obtain ⟨s, hs⟩ := shown_bl (isNum a b)
  have hs' := ne_same hs
  have e : tupI (a, b) = .tup [.int a, .int b] := rfl
  rw [e] at hi
  by_cases z : 0 < b
  · have e2 : decide (((Int.gcd a b : Nat) : Int) = 1) = isNum a b := by
      unfold isNum
      have : decide (1 ≤ b) = true := decide_eq_true (by omega)
      rw [this, Bool.true_and, decide_eq_decide]
      omega
    simp -implicitDefEqProofs [L5, mCall_R, e_isn, hi, z, e_ldiv, hg, two_le, e2, hs']
  · have e2 : isNum a b = false := by
      unfold isNum
      have : decide (1 ≤ b) = false := decide_eq_false (by omega)
      rw [this, Bool.false_and]
    rw [e2] at hi hs'
    simp -implicitDefEqProofs [L5, mCall_R, e_isn, hi, z, two_le, hs']
end
def mWay : MS := (msIf (mTest (m2 gNe (mN gRepr (mCons (mCall F_law_told (mCons (mVar 6) (mCons (mVar 4) (mCons (mVar 5) mNil)))) mNil)) (mN gRepr (mCons (mCall F_law_due (mCons (mVar 6) (mCons (mVar 4) (mCons (mVar 5) mNil)))) mNil)))) (msRet (mK (.bl false))) msNil)
theorem L9_eq : L9 = (msFor (mIter (mN gLst (mCons (mK (.int 0)) (mCons (mK (.int 1)) (mCons (mK (.int 2)) (mCons (mK (.int 3)) (mCons (mK (.int 4)) (mCons (mK (.int 6)) (mCons (mK (.int 7)) mNil))))))))) (mgName 6) mWay) := rfl
section
variable {S : D} {l : List Int} {A B w f r : Option D} {x y : D}
theorem way_step {n : Int} {d : D} (hT : ∀ ρ, (F_law_told [.int n, x, y]).R ρ = .ok d ρ) (hU : ∀ ρ, (F_law_due [.int n, x, y]).R ρ = .ok d ρ) (hz : ∃ z, shownD d = some z) : mWay (St S (dl l) A B (some x) (some y) (some (.int n)) f r) = .nx (St S (dl l) A B (some x) (some y) (some (.int n)) f r) := by
  obtain ⟨z, hz⟩ := hz
  have hs' := ne_same hz
  simp -implicitDefEqProofs [mWay, mCall_R, hT, hU, hs']
theorem loop_step {g : MG} {mb : MS} {d : D} {ds : List D} {ρ ρ1 ρ2 : En} {o : Out} (h1 : g d ρ = .ok () ρ1) (h2 : mb ρ1 = .nx ρ2) (h3 : loopL g mb ds ρ2 = o) : loopL g mb (d :: ds) ρ = o := by
  rw [← h3]
  simp only [loopL, h1, h2]
theorem set6 {n : Int} {dr : D} {x y : Option D} : mgName 6 (.int n) (St S dr A B x y w f r) = .ok () (St S dr A B x y (some (.int n)) f r) := rfl
theorem seven_le : 7 ≤ sizeLine := by decide
theorem shown_int {a : Int} (h : a.natAbs < 2 ^ 1900) : ∃ z, shownD (.int a) = some z := by
  have l1 := lg h (by decide)
  have e1 := int_len h
  refine ⟨Str.ofString (toString a), ?_⟩
  have s1 : (PyData.int a).showable = true := by simp only [PyData.showable, decide_eq_true_eq]; omega
  have s2 : (PyData.int a).shown = Str.ofString (toString a) := by simp only [PyData.shown] <;> rfl
  have s3 : (PyData.int a).depth ≤ 60 := by simp [PyData.depth]
  have s4 : (PyData.int a).shown.length ≤ sizeLine := by rw [s2, sizeLine_eq]; omega
  unfold shownD
  have ep : D.py (.int a) = some (.int a) := rfl
  rw [ep]
  show (if _ then some _ else none) = _
  rw [if_pos ⟨s1, s4, s3⟩, s2]
theorem t9 {p q : Int × Int} (n1 : isNum p.1 p.2 = true) (n2 : isNum q.1 q.2 = true) (h1 : p.1.natAbs < 2 ^ 131) (h2 : p.2.natAbs < 2 ^ 131) (h3 : q.1.natAbs < 2 ^ 131) (h4 : q.2.natAbs < 2 ^ 131) :
    L9 (St S (dl l) A B (some (tupI p)) (some (tupI q)) w f r) = .nx (St S (dl l) A B (some (tupI p)) (some (tupI q)) (some (.int 7)) f r) := by
  obtain ⟨a, b⟩ := p
  obtain ⟨c, d⟩ := q
  have ok : ok2 a b c d = true := by show (isNum a b && isNum c d) = true; rw [n1, n2]; rfl
  have ha : Big a := sm_up h1 (by decide)
  have hb : Big b := sm_up h2 (by decide)
  have hc : Big c := sm_up h3 (by decide)
  have hd : Big d := sm_up h4 (by decide)
  have nb : b ≠ 0 := num_ne n1
  have nd : d ≠ 0 := num_ne n2
  have T := fun {d : D} => (show tl true d = d from rfl)
  have bad := sm_mul (a := a) (b := d) h1 h4
  have bcb := sm_mul (a := c) (b := b) h3 h2
  have bbd := sm_mul (a := b) (b := d) h2 h4
  have bac := sm_mul (a := a) (b := c) h1 h3
  have bbc := sm_mul (a := b) (b := c) h2 h3
  rw [L9_eq]
  have i0 : (msFor (mIter (mN gLst (mCons (mK (.int 0)) (mCons (mK (.int 1)) (mCons (mK (.int 2)) (mCons (mK (.int 3)) (mCons (mK (.int 4)) (mCons (mK (.int 6)) (mCons (mK (.int 7)) mNil))))))))) (mgName 6) mWay) (St S (dl l) A B (some (tupI (a, b))) (some (tupI (c, d))) w f r)
      = loopL (mgName 6) mWay [.int 0, .int 1, .int 2, .int 3, .int 4, .int 6, .int 7] (St S (dl l) A B (some (tupI (a, b))) (some (tupI (c, d))) w f r) := by
    simp -implicitDefEqProofs [seven_le, gIter]
  rw [i0]
  refine loop_step set6 (way_step (d := tupI (low (a * d + c * b) (b * d))) (fun ρ => by rw [told0 ha hb hc hd, ok]; rfl) (due0 ha hb hc hd nb nd) ?_) ?_
  · have s := low_sm (sm_add bad bcb) bbd
    exact shown_tup (sm_up s.1 (by decide)) (sm_up s.2 (by decide))
  refine loop_step set6 (way_step (d := tupI (low (a * d - c * b) (b * d))) (fun ρ => by rw [told1 ha hb hc hd, ok]; rfl) (due1 ha hb hc hd nb nd) ?_) ?_
  · have s := low_sm (sm_sub bad bcb) bbd
    exact shown_tup (sm_up s.1 (by decide)) (sm_up s.2 (by decide))
  refine loop_step set6 (way_step (d := tupI (low (a * c) (b * d))) (fun ρ => by rw [told2 ha hb hc hd, ok]; rfl) (due2 ha hb hc hd nb nd) ?_) ?_
  · have s := low_sm bac bbd
    exact shown_tup (sm_up s.1 (by decide)) (sm_up s.2 (by decide))
  refine loop_step set6 (way_step (d := if c = 0 then sBN else tupI (low (a * d) (b * c))) (fun ρ => ?_) (due3 ha hb hc hd nb nd) ?_) ?_
  · rw [told3 ha hb hc hd, ok]
    show R.ok (if c = 0 then sBN else _) ρ = _
    by_cases z : c = 0
    · rw [if_pos z, if_pos z]
    · rw [if_neg z, if_neg z, low_over nb z]
  · by_cases z : c = 0
    · rw [if_pos z]; exact shown_sBN
    · rw [if_neg z]
      have s := low_sm bad bbc
      exact shown_tup (sm_up s.1 (by decide)) (sm_up s.2 (by decide))
  refine loop_step set6 (way_step (d := .bl (decide (a * d < c * b))) (fun ρ => by rw [told4 ha hb hc hd, ok]; rfl) (due4 ha hb hc hd) (shown_bl _)) ?_
  refine loop_step set6 (way_step (d := .int (sgn a)) (fun ρ => by rw [told6 hb, n1]; rfl) (due6 _) (shown_int ?_)) ?_
  · show (sgn a).natAbs < _
    have : (sgn a).natAbs ≤ 1 := by unfold sgn; split <;> (try split) <;> decide
    exact Nat.lt_of_le_of_lt this (Nat.one_lt_two_pow (by decide))
  refine loop_step set6 (way_step (d := .non) (fun ρ => by rw [told7 hb, n1]; rfl) (due7 _ _) shown_non) ?_
  rfl
end
end K00
namespace K00
open DL L2 PySem PySem.Spec PyProof.Rows
def mBad : MS := (msIf (mOrT (mTest (m2 gNe (mCall F_law_told (mCons (mVar 6) (mCons (mVar 8) (mCons (mVar 5) mNil)))) (mK (.str "![0, 1]")))) (mTest (m2 gNe (mCall F_law_told (mCons (mVar 6) (mCons (mVar 5) (mCons (mVar 8) mNil)))) (mK (.str "![0, 1]"))))) (msRet (mK (.bl false))) msNil)
theorem L13_eq : L13 = (msFor (mItN gRange1 (mCons (mK (.int 5)) mNil)) (mgName 6) mBad) := rfl
section
variable {S dr : D} {l : List Int} {A B w f r : Option D} {x y : D}
theorem bad_step {n : Int} (hT : ∀ ρ, (F_law_told [.int n, x, y]).R ρ = .ok sNN ρ) (hU : ∀ ρ, (F_law_told [.int n, y, x]).R ρ = .ok sNN ρ) {X : Option D} : mBad (St S dr A B X (some y) (some (.int n)) f (some x)) = .nx (St S dr A B X (some y) (some (.int n)) f (some x)) := by
  simp -implicitDefEqProofs [mBad, mCall_R, hT, hU]
theorem ok2_fl {a b c d : Int} (h : isNum a b = false) : ok2 a b c d = false := by show (isNum a b && isNum c d) = false; rw [h]; rfl
theorem ok2_fr {a b c d : Int} (h : isNum c d = false) : ok2 a b c d = false := by show (isNum a b && isNum c d) = false; rw [h, Bool.and_false]
theorem tl_f (d : D) : tl false d = sNN := rfl
theorem t13 {p q : Int × Int} {X : Option D} (n1 : isNum p.1 p.2 = false) (h1 : Big p.1) (h2 : Big p.2) (h3 : Big q.1) (h4 : Big q.2) :
    L13 (St S dr A B X (some (tupI q)) w f (some (tupI p))) = .nx (St S dr A B X (some (tupI q)) (some (.int 4)) f (some (tupI p))) := by
  obtain ⟨a, b⟩ := p
  obtain ⟨c, d⟩ := q
  have ha : Big a := h1
  have hb : Big b := h2
  have hc : Big c := h3
  have hd : Big d := h4
  have f1 : ok2 a b c d = false := ok2_fl n1
  have f2 : ok2 c d a b = false := ok2_fr n1
  have i0 : L13 (St S dr A B X (some (tupI (c, d))) w f (some (tupI (a, b)))) = loopL (mgName 6) mBad [.int 0, .int 1, .int 2, .int 3, .int 4] (St S dr A B X (some (tupI (c, d))) w f (some (tupI (a, b)))) := by
    have ok5 : okR 5 = true := by decide
    have r5 : rangeL 0 5 = [.int 0, .int 1, .int 2, .int 3, .int 4] := rfl
    have t5 : Int.toNat 5 = 5 := rfl
    rw [L13_eq]
    simp -implicitDefEqProofs [ok5, r5]
  rw [i0]
  refine loop_step set6 (bad_step (fun ρ => by rw [told0 ha hb hc hd, f1, tl_f]) (fun ρ => by rw [told0 hc hd ha hb, f2, tl_f])) ?_
  refine loop_step set6 (bad_step (fun ρ => by rw [told1 ha hb hc hd, f1, tl_f]) (fun ρ => by rw [told1 hc hd ha hb, f2, tl_f])) ?_
  refine loop_step set6 (bad_step (fun ρ => by rw [told2 ha hb hc hd, f1, tl_f]) (fun ρ => by rw [told2 hc hd ha hb, f2, tl_f])) ?_
  refine loop_step set6 (bad_step (fun ρ => by rw [told3 ha hb hc hd, f1, tl_f]) (fun ρ => by rw [told3 hc hd ha hb, f2, tl_f])) ?_
  refine loop_step set6 (bad_step (fun ρ => by rw [told4 ha hb hc hd, f1, tl_f]) (fun ρ => by rw [told4 hc hd ha hb, f2, tl_f])) ?_
  rfl
theorem t12 {p q : Int × Int} {Y : Option D} (n1 : isNum p.1 p.2 = true) (n2 : isNum q.1 q.2 = false) (h2 : Big p.2) (h4 : Big q.2) :
    L12 (St S dr A B (some (tupI p)) Y w f (some (tupI q))) = .nx (St S dr A B (some (tupI p)) Y w f (some (tupI q))) := by
  have e1 := fun ρ => qIsNumber_v (a := p.1) (b := p.2) (big8 h2) ρ
  have e2 := fun ρ => qIsNumber_v (a := q.1) (b := q.2) (big8 h4) ρ
  rw [n1] at e1
  rw [n2] at e2
  simp -implicitDefEqProofs [L12, mCall_R, e_isn, e1, e2]
theorem low_one (a : Int) : low a 1 = (a, 1) := by
  have : sgcd a 1 = 1 := by unfold sgcd; simp
  unfold low
  rw [this]
  simp
theorem t14 {p : Int × Int} {a : Int} {X Y : Option D} (n1 : isNum p.1 p.2 = false) (h1 : Big p.1) (h2 : Big p.2) (ha : a.natAbs < 2 ^ 130) :
    L14 (St S dr (some (.int a)) B X Y w f (some (tupI p))) = .nx (St S dr (some (.int a)) B X Y w f (some (tupI p))) := by
  have f1 : ok2 p.1 p.2 0 1 = false := ok2_fl n1
  have e1 := fun ρ => told3 (a := p.1) (b := p.2) (c := 0) (d := 1) h1 h2 (by decide) (by decide) ρ
  rw [f1, tl_f] at e1
  have e2 := fun ρ => v_number1 (a := a) ρ
  rw [low_one] at e2
  obtain ⟨s, hs⟩ := shown_tup (p := (a, 1)) (sm_up ha (by decide)) (sm_up (show (1 : Int).natAbs < 2 ^ 1 by decide) (by decide))
  have hs' := ne_same hs
  have g1 : DL.gTup [.int 0, .int 1] = some (tupI (0, 1)) := rfl
  have g2 : DL.gTup [.int a, .int 1] = some (tupI (a, 1)) := rfl
  simp -implicitDefEqProofs [L14, mCall_R, e1, e2, g1, g2, hs', -gTup_ap]
theorem t15 {p : Int × Int} {X : Option D} {y : D} (n1 : isNum p.1 p.2 = false) (h2 : Big p.2) : ∃ ρ', L15 (St S dr A B X (some y) w f (some (tupI p))) = .rt (.bl true) ρ' := by
  have e6 := fun ρ => told6 (a := p.1) (b := p.2) h2 y ρ
  have e7 := fun ρ => told7 (a := p.1) (b := p.2) h2 y ρ
  have e8 := fun ρ => told8 (a := p.1) (b := p.2) h2 n1 y ρ
  rw [n1, tl_f] at e6 e7
  have g : gAll [.lst [.bl true, .bl true, .bl true]] = some (.bl true) := rfl
  simp -implicitDefEqProofs [L15, mLc_ap, three_le, gIter, lcLoop, wipeE, mYes, mCall_R, e6, e7, e8, g]
theorem io_int {l l' : List Int} {n : Int} (e : F_law_integer [dl l] = .rt (.int n) (dl l')) (x : Option D) (r : En) : mCallIo F_law_integer 1 mNil (x :: some (dl l) :: r) = .ok (.int n) (x :: some (dl l') :: r) := by
  rw [mCallIo_ap, getO_1]
  simp -implicitDefEqProofs [getO_1, e]
theorem io_pair {l l' : List Int} {p : Int × Int} (e : F_law_pair [dl l] = .rt (tupI p) (dl l')) (x : Option D) (r : En) : mCallIo F_law_pair 1 mNil (x :: some (dl l) :: r) = .ok (tupI p) (x :: some (dl l') :: r) := by
  rw [mCallIo_ap, getO_1]
  simp -implicitDefEqProofs [getO_1, e]
theorem seq_nx {a b : MS} {ρ ρ1 : En} {o : Out} (h : a ρ = .nx ρ1) (h2 : b ρ1 = o) : msSeq a b ρ = o := by
  rw [msSeq_ap, h]
  exact h2
theorem t8 {p q : Int × Int} : ∃ q', (q' = p ∨ q' = q) ∧ L8 (St S (dl l) A B (some (tupI p)) (some (tupI q)) w f none) = .nx (St S (dl l.dropLast) A B (some (tupI p)) (some (tupI q')) w f none) := by
  have g : DL.gTup [.int p.1, .int p.2] = some (tupI p) := rfl
  by_cases h : (drawI l).fmod 5 = 1
  · refine ⟨p, .inl rfl, ?_⟩
    simp -implicitDefEqProofs [L8, io_next1, gMod_ii, h, at0, at1, g, -gTup_ap]
  · refine ⟨q, .inr rfl, ?_⟩
    simp -implicitDefEqProofs [L8, io_next1, gMod_ii, h]
theorem t10 {X Y : Option D} : L10 (St S (dl l) A B X Y w none none) = .nx (St S (dl l.dropLast) A B X Y w (some (.int (2 + (drawI l).fmod 5))) none) := by
  simp -implicitDefEqProofs [L10, io_next1, gMod_ii]
theorem five {x : Int} (h0 : 0 ≤ x) (h1 : x < 5) : x = 0 ∨ x = 1 ∨ x = 2 ∨ x = 3 ∨ x = 4 := by omega
theorem t11 {p : Int × Int} {k : Int} {Y : Option D} (n1 : isNum p.1 p.2 = true) (h1 : p.1.natAbs < 2 ^ 131) (h2 : p.2.natAbs < 2 ^ 131) (k0 : 2 ≤ k) (k1 : k < 7) :
    ∃ q : Int × Int, isNum q.1 q.2 = false ∧ Big q.1 ∧ Big q.2 ∧ L11 (St S (dl l) A B (some (tupI p)) Y w (some (.int k)) none) = .nx (St S (dl l.dropLast) A B (some (tupI p)) Y w (some (.int k)) (some (tupI q))) := by
  obtain ⟨a, b⟩ := p
  have hk : k.natAbs < 2 ^ 3 := by omega
  have ga := gMul_sm (a := a) (b := k) h1 hk (by decide) (by decide) (by decide)
  have gb := gMul_sm (a := b) (b := k) h2 hk (by decide) (by decide) (by decide)
  have b1 : 1 ≤ b ∧ Int.gcd a b = 1 := by
    unfold isNum at n1
    simpa using n1
  have sa := sm_up (sm_mul (a := a) (b := k) h1 hk) (by decide : 131 + 3 ≤ 200)
  have sb := sm_up (sm_mul (a := b) (b := k) h2 hk) (by decide : 131 + 3 ≤ 200)
  obtain ⟨r0, r1⟩ := fm_rng (drawI l) (m := 5) (by decide)
  have G := fun (u v : Int) => (show DL.gTup [.int u, .int v] = some (tupI (u, v)) from rfl)
  rcases five r0 r1 with h | h | h | h | h
  · refine ⟨(a * k, b * k), ?_, sa, sb, ?_⟩
    · have e : Int.gcd (a * k) (b * k) = k.natAbs := by rw [Int.gcd_mul_right, b1.2, Nat.one_mul]
      show (decide _ && decide (Int.gcd (a * k) (b * k) = 1)) = false
      rw [e, Bool.and_eq_false_iff]
      exact .inr (decide_eq_false (by omega))
    · simp -implicitDefEqProofs [L11, io_next1, gMod_ii, h, at0, at1, ga, gb, G, -gTup_ap, five_le, L2.atI, L2.ixN]
  · refine ⟨(a, 0 - b), ?_, sm_up h1 (by decide), ?_, ?_⟩
    · show (decide (1 ≤ 0 - b) && _) = false
      rw [Bool.and_eq_false_iff]
      exact .inl (decide_eq_false (by omega))
    · show (0 - b).natAbs < _
      have := sm_up h2 (by decide : 131 ≤ 200)
      have z : (0 - b).natAbs = b.natAbs := by omega
      rw [z]
      exact this
    · simp -implicitDefEqProofs [L11, io_next1, gMod_ii, h, at0, at1, ga, gb, G, -gTup_ap, five_le, L2.atI, L2.ixN]
  · refine ⟨(1, 0), by decide, by decide, by decide, ?_⟩
    simp -implicitDefEqProofs [L11, io_next1, gMod_ii, h, at0, at1, ga, gb, G, -gTup_ap, five_le, L2.atI, L2.ixN]
  · refine ⟨(0, 0), by decide, by decide, by decide, ?_⟩
    simp -implicitDefEqProofs [L11, io_next1, gMod_ii, h, at0, at1, ga, gb, G, -gTup_ap, five_le, L2.atI, L2.ixN]
  · refine ⟨(0, 2), by decide, by decide, by decide, ?_⟩
    simp -implicitDefEqProofs [L11, io_next1, gMod_ii, h, at0, at1, ga, gb, G, -gTup_ap, five_le, L2.atI, L2.ixN]
end
theorem rt_run {ρ : En} {a : D} {m : MS} {n : Nat} {ds : List D} (h : m (pad n ds) = .rt a ρ) (hn : ds.length = 1) : runM n 1 [] false m ds = .rt a (io0 ρ) := by
  unfold runM
  rw [List.append_nil, if_pos hn, h]
theorem law_true : ∀ zs : List Int, zs.length ≤ 63 → ∃ o, Flaw [.scr (zs.map D.int)] = .rt (.bl true) o := by
  intro zs hz
  obtain ⟨l0, e0⟩ := qDraws_v zs hz
  obtain ⟨a, l2, ea, ha⟩ := v_integer l0.reverse
  obtain ⟨b, l3, eb, hb⟩ := v_integer l2
  obtain ⟨p, l4, ep, np, hp1, hp2⟩ := v_pair l3
  obtain ⟨q, l5, eq, nq, hq1, hq2⟩ := v_pair l4
  have S : D := .scr (zs.map D.int)
  suffices h : ∃ ρ', mlaw (pad 9 [.scr (zs.map D.int)]) = .rt (.bl true) ρ' by
    obtain ⟨ρ', h⟩ := h
    exact ⟨_, rt_run h rfl⟩
  generalize hS : D.scr (zs.map D.int) = S at *
  have s0 : pad 9 [S] = [some S, none, none, none, none, none, none, none, none] := rfl
  obtain ⟨q', hq', e8⟩ := t8 (S := S) (l := l5) (A := some (.int a)) (B := some (.int b)) (w := none) (f := none) (p := p) (q := q)
  have hy : isNum q'.1 q'.2 = true ∧ q'.1.natAbs < 2 ^ 131 ∧ q'.2.natAbs < 2 ^ 131 := by
    rcases hq' with z | z
    · rw [z]; exact ⟨np, hp1, hp2⟩
    · rw [z]; exact ⟨nq, hq1, hq2⟩
  obtain ⟨f0, f1⟩ := fm_rng (drawI l5.dropLast) (m := 5) (by decide)
  obtain ⟨r, nr, hr1, hr2, e11⟩ := t11 (S := S) (l := l5.dropLast.dropLast) (A := some (.int a)) (B := some (.int b)) (w := some (.int 7)) (Y := some (tupI q')) (k := 2 + (drawI l5.dropLast).fmod 5) np hp1 hp2 (by omega) (by omega)
  obtain ⟨ρ', e15⟩ := t15 (S := S) (dr := dl l5.dropLast.dropLast.dropLast) (A := some (.int a)) (B := some (.int b)) (w := some (.int 4)) (f := some (.int (2 + (drawI l5.dropLast).fmod 5))) (p := r) (X := some (tupI p)) (y := tupI q') nr hr2
  refine ⟨ρ', ?_⟩
  have B1 : ∀ {x : Int}, x.natAbs < 2 ^ 131 → Big x := fun h => sm_up h (by decide)
  rw [mlaw_eq, msForget_ap, s0]
  refine seq_nx (ρ1 := St S (dl l0) none none none none none none none) ?_ ?_
  · simp -implicitDefEqProofs [L0, mCall_R, e_draws, e0]
  refine seq_nx (ρ1 := St S (dl l0.reverse) none none none none none none none) ?_ ?_
  · simp -implicitDefEqProofs [L1, getO_1, gReverse]
  refine seq_nx (ρ1 := St S (dl l2) (some (.int a)) none none none none none none) ?_ ?_
  · simp -implicitDefEqProofs [L2, io_int ea]
  refine seq_nx (ρ1 := St S (dl l3) (some (.int a)) (some (.int b)) none none none none none) ?_ ?_
  · simp -implicitDefEqProofs [L3, io_int eb]
  refine seq_nx (t4 ha hb) ?_
  refine seq_nx (t5 ha hb) ?_
  refine seq_nx (ρ1 := St S (dl l4) (some (.int a)) (some (.int b)) (some (tupI p)) none none none none) ?_ ?_
  · simp -implicitDefEqProofs [L6, io_pair ep]
  refine seq_nx (ρ1 := St S (dl l5) (some (.int a)) (some (.int b)) (some (tupI p)) (some (tupI q)) none none none) ?_ ?_
  · simp -implicitDefEqProofs [L7, io_pair eq]
  refine seq_nx e8 ?_
  refine seq_nx (t9 np hy.1 hp1 hp2 hy.2.1 hy.2.2) ?_
  refine seq_nx t10 ?_
  refine seq_nx e11 ?_
  refine seq_nx (t12 np nr (B1 hp2) hr2) ?_
  refine seq_nx (t13 nr hr1 hr2 (B1 hy.2.1) (B1 hy.2.2)) ?_
  refine seq_nx (t14 nr hr1 hr2 ha) ?_
  exact e15
end K00
namespace K00
open DL L2 PySem PySem.Spec PyProof.Rows
def D_law_number : He.DefD := ⟨("_law_number", none), "_law_number", "_law_number", defArgs s_law_number, defBody s_law_number, defScope s_law_number, [], []⟩
def D_law_draws : He.DefD := ⟨("_law_draws", none), "_law_draws", "_law_draws", defArgs s_law_draws, defBody s_law_draws, defScope s_law_draws, [], []⟩
def D_law_next : He.DefD := ⟨("_law_next", none), "_law_next", "_law_next", defArgs s_law_next, defBody s_law_next, defScope s_law_next, [], []⟩
def D_law_integer : He.DefD := ⟨("_law_integer", none), "_law_integer", "_law_integer", defArgs s_law_integer, defBody s_law_integer, defScope s_law_integer, [], []⟩
def D_law_divisor : He.DefD := ⟨("_law_divisor", none), "_law_divisor", "_law_divisor", defArgs s_law_divisor, defBody s_law_divisor, defScope s_law_divisor, [], []⟩
def D_law_lowest : He.DefD := ⟨("_law_lowest", none), "_law_lowest", "_law_lowest", defArgs s_law_lowest, defBody s_law_lowest, defScope s_law_lowest, [], []⟩
def D_law_pair : He.DefD := ⟨("_law_pair", none), "_law_pair", "_law_pair", defArgs s_law_pair, defBody s_law_pair, defScope s_law_pair, [], []⟩
def Ddivisor : He.DefD := ⟨("divisor", none), "divisor", "divisor", defArgs sdivisor, defBody sdivisor, defScope sdivisor, [], []⟩
def Dlowest : He.DefD := ⟨("lowest", none), "lowest", "lowest", defArgs slowest, defBody slowest, defScope slowest, [], []⟩
def Dnumber : He.DefD := ⟨("number", none), "number", "number", defArgs snumber, defBody snumber, defScope snumber, [.int 1], []⟩
def Dis_number : He.DefD := ⟨("is_number", none), "is_number", "is_number", defArgs sis_number, defBody sis_number, defScope sis_number, [], []⟩
def Dcheck_number : He.DefD := ⟨("check_number", none), "check_number", "check_number", defArgs scheck_number, defBody scheck_number, defScope scheck_number, [], []⟩
def Dsign : He.DefD := ⟨("sign", none), "sign", "sign", defArgs ssign, defBody ssign, defScope ssign, [], []⟩
def Dnumber_text : He.DefD := ⟨("number_text", none), "number_text", "number_text", defArgs snumber_text, defBody snumber_text, defScope snumber_text, [], []⟩
def Dcheck_both : He.DefD := ⟨("check_both", none), "check_both", "check_both", defArgs scheck_both, defBody scheck_both, defScope scheck_both, [], []⟩
def Dsummed : He.DefD := ⟨("summed", none), "summed", "summed", defArgs ssummed, defBody ssummed, defScope ssummed, [], []⟩
def Dplus : He.DefD := ⟨("plus", none), "plus", "plus", defArgs splus, defBody splus, defScope splus, [], []⟩
def Dnegated : He.DefD := ⟨("negated", none), "negated", "negated", defArgs snegated, defBody snegated, defScope snegated, [], []⟩
def Dminus : He.DefD := ⟨("minus", none), "minus", "minus", defArgs sminus, defBody sminus, defScope sminus, [], []⟩
def Dmultiplied : He.DefD := ⟨("multiplied", none), "multiplied", "multiplied", defArgs smultiplied, defBody smultiplied, defScope smultiplied, [], []⟩
def Dtimes : He.DefD := ⟨("times", none), "times", "times", defArgs stimes, defBody stimes, defScope stimes, [], []⟩
def Dinverted : He.DefD := ⟨("inverted", none), "inverted", "inverted", defArgs sinverted, defBody sinverted, defScope sinverted, [], []⟩
def Dover : He.DefD := ⟨("over", none), "over", "over", defArgs sover, defBody sover, defScope sover, [], []⟩
def Dis_less : He.DefD := ⟨("is_less", none), "is_less", "is_less", defArgs sis_less, defBody sis_less, defScope sis_less, [], []⟩
def D_law_told : He.DefD := ⟨("_law_told", none), "_law_told", "_law_told", defArgs s_law_told, defBody s_law_told, defScope s_law_told, [], []⟩
def D_law_due : He.DefD := ⟨("_law_due", none), "_law_due", "_law_due", defArgs s_law_due, defBody s_law_due, defScope s_law_due, [], []⟩
def Dlaw : He.DefD := ⟨("law", none), "law", "law", defArgs slaw, defBody slaw, defScope slaw, [], []⟩
def fns : List He.DefD := [D_law_number, D_law_draws, D_law_next, D_law_integer, D_law_divisor, D_law_lowest, D_law_pair, Ddivisor, Dlowest, Dnumber, Dis_number, Dcheck_number, Dsign, Dnumber_text, Dcheck_both, Dsummed, Dplus, Dnegated, Dminus, Dmultiplied, Dtimes, Dinverted, Dover, Dis_less, D_law_told, D_law_due, Dlaw]
def fas : List He.Fa := [.glo "BadNumber", .glo "NotNumber", .glo "PlaneError", .glo "TooLarge", .glo "ZERO", .glo "_law_divisor", .glo "_law_draws", .glo "_law_due", .glo "_law_integer", .glo "_law_lowest", .glo "_law_next", .glo "_law_number", .glo "_law_pair", .glo "_law_told", .glo "check_both", .glo "check_number", .glo "divisor", .glo "inverted", .glo "is_less", .glo "is_number", .glo "law", .glo "lowest", .glo "minus", .glo "multiplied", .glo "negated", .glo "number", .glo "number_text", .glo "over", .glo "plus", .glo "sign", .glo "summed", .glo "times", .free "abs", .free "all", .free "int", .free "isinstance", .free "range", .free "repr", .free "str", .int "BEYOND" cBEYOND, .exc "PlaneError", .exc "NotNumber", .exc "BadNumber", .exc "TooLarge", .exm "PlaneError" "PlaneError" true, .exm "NotNumber" "PlaneError" true, .exm "BadNumber" "PlaneError" true, .exm "TooLarge" "PlaneError" true]
def xfs (K : PySem.W.Frag) : Bool := (He.tupB K "ZERO" cZERO_d && (excB K "PlaneError" && (excB K "NotNumber" && (excB K "BadNumber" && (excB K "TooLarge" && (kitB K "PlaneError" "BadNumber" false && (kitB K "NotNumber" "BadNumber" false && (kitB K "BadNumber" "BadNumber" true && (kitB K "TooLarge" "BadNumber" false && (kitB K "PlaneError" "NotNumber" false && (kitB K "NotNumber" "NotNumber" true && (kitB K "BadNumber" "NotNumber" false && (kitB K "TooLarge" "NotNumber" false && true)))))))))))))
def loose0 : List Str := ["PlaneError", "NotNumber", "BadNumber", "TooLarge", "ZERO", "BEYOND", "divisor", "lowest", "is_number", "check_number", "check_both", "number", "summed", "multiplied", "negated", "inverted", "plus", "minus", "times", "over", "sign", "is_less", "number_text", "_law_number", "_law_draws", "_law_next", "_law_divisor", "_law_lowest", "_law_integer", "_law_pair", "_law_told", "_law_due"]
def loose : List Str := loose0
abbrev R : PySem.W.OpenRow := PySem.W.OpenLaw.row PySem.Challenge.rw_planeworth_k00_numbers
abbrev hk : PySem.W.Hook := hookX 4 fas xfs fns
def ob (s : PySem.W.SharedT) : He.AlD := obXG 4 fas xfs fns (HandSHeadRun.getT s)
theorem ob_eq (s : PySem.W.SharedT) : ob s = hk.obs s.abs := obXG_eq (HandSHeadRun.getT_eq s)
theorem run (w : World) : HandSHeadRun.RunEq R (PySem.W.view R.prog [35]) hk ob 4000 loose w := by
  intro os
  kernel_rfl
theorem fcOk {K : PySem.W.Frag} {h : Heap} {mg : Str → Option Value} (X : K.In h) (G : h.Ns mainGlobals mg) (c : SaysX fas xfs fns K) : Fc K mg := by
  have x0 : xfs K = true := c.x1
  unfold xfs at x0
  obtain ⟨y0, x1⟩ := He.ba x0
  obtain ⟨y1, x2⟩ := He.ba x1
  obtain ⟨y2, x3⟩ := He.ba x2
  obtain ⟨y3, x4⟩ := He.ba x3
  obtain ⟨y4, x5⟩ := He.ba x4
  obtain ⟨y5, x6⟩ := He.ba x5
  obtain ⟨y6, x7⟩ := He.ba x6
  obtain ⟨y7, x8⟩ := He.ba x7
  obtain ⟨y8, x9⟩ := He.ba x8
  obtain ⟨y9, x10⟩ := He.ba x9
  obtain ⟨y10, x11⟩ := He.ba x10
  obtain ⟨y11, x12⟩ := He.ba x11
  obtain ⟨y12, x13⟩ := He.ba x12
  exact {
    g_BadNumber := He.glo_ok X G (c.d.fact 0 rfl)
    g_NotNumber := He.glo_ok X G (c.d.fact 1 rfl)
    g_PlaneError := He.glo_ok X G (c.d.fact 2 rfl)
    g_TooLarge := He.glo_ok X G (c.d.fact 3 rfl)
    g_ZERO := He.glo_ok X G (c.d.fact 4 rfl)
    g__law_divisor := He.glo_ok X G (c.d.fact 5 rfl)
    g__law_draws := He.glo_ok X G (c.d.fact 6 rfl)
    g__law_due := He.glo_ok X G (c.d.fact 7 rfl)
    g__law_integer := He.glo_ok X G (c.d.fact 8 rfl)
    g__law_lowest := He.glo_ok X G (c.d.fact 9 rfl)
    g__law_next := He.glo_ok X G (c.d.fact 10 rfl)
    g__law_number := He.glo_ok X G (c.d.fact 11 rfl)
    g__law_pair := He.glo_ok X G (c.d.fact 12 rfl)
    g__law_told := He.glo_ok X G (c.d.fact 13 rfl)
    g_check_both := He.glo_ok X G (c.d.fact 14 rfl)
    g_check_number := He.glo_ok X G (c.d.fact 15 rfl)
    g_divisor := He.glo_ok X G (c.d.fact 16 rfl)
    g_inverted := He.glo_ok X G (c.d.fact 17 rfl)
    g_is_less := He.glo_ok X G (c.d.fact 18 rfl)
    g_is_number := He.glo_ok X G (c.d.fact 19 rfl)
    g_law := He.glo_ok X G (c.d.fact 20 rfl)
    g_lowest := He.glo_ok X G (c.d.fact 21 rfl)
    g_minus := He.glo_ok X G (c.d.fact 22 rfl)
    g_multiplied := He.glo_ok X G (c.d.fact 23 rfl)
    g_negated := He.glo_ok X G (c.d.fact 24 rfl)
    g_number := He.glo_ok X G (c.d.fact 25 rfl)
    g_number_text := He.glo_ok X G (c.d.fact 26 rfl)
    g_over := He.glo_ok X G (c.d.fact 27 rfl)
    g_plus := He.glo_ok X G (c.d.fact 28 rfl)
    g_sign := He.glo_ok X G (c.d.fact 29 rfl)
    g_summed := He.glo_ok X G (c.d.fact 30 rfl)
    g_times := He.glo_ok X G (c.d.fact 31 rfl)
    f_abs := He.free_ok X G (c.d.fact 32 rfl)
    f_all := He.free_ok X G (c.d.fact 33 rfl)
    f_int := He.free_ok X G (c.d.fact 34 rfl)
    f_isinstance := He.free_ok X G (c.d.fact 35 rfl)
    f_range := He.free_ok X G (c.d.fact 36 rfl)
    f_repr := He.free_ok X G (c.d.fact 37 rfl)
    f_str := He.free_ok X G (c.d.fact 38 rfl)
    c_BEYOND := He.int_ok X G (c.d.fact 39 rfl)
    e_PlaneError := (let z := He.exc_ok (c.d.fact 40 rfl); ⟨z.1, z.2.1, z.2.2.1, z.2.2.2, He.glo_ok X G (c.d.fact 2 rfl)⟩)
    e_NotNumber := (let z := He.exc_ok (c.d.fact 41 rfl); ⟨z.1, z.2.1, z.2.2.1, z.2.2.2, He.glo_ok X G (c.d.fact 1 rfl)⟩)
    e_BadNumber := (let z := He.exc_ok (c.d.fact 42 rfl); ⟨z.1, z.2.1, z.2.2.1, z.2.2.2, He.glo_ok X G (c.d.fact 0 rfl)⟩)
    e_TooLarge := (let z := He.exc_ok (c.d.fact 43 rfl); ⟨z.1, z.2.1, z.2.2.1, z.2.2.2, He.glo_ok X G (c.d.fact 3 rfl)⟩)
    m_PlaneError_PlaneError := He.exm_ok (c.d.fact 44 rfl)
    m_PlaneError_NotNumber := He.exm_ok (c.d.fact 45 rfl)
    m_PlaneError_BadNumber := He.exm_ok (c.d.fact 46 rfl)
    m_PlaneError_TooLarge := He.exm_ok (c.d.fact 47 rfl)
    c_ZERO := y0
    x_PlaneError_PlaneError := excB_ok y1
    x_PlaneError_NotNumber := excB_ok y2
    x_PlaneError_BadNumber := excB_ok y3
    x_PlaneError_TooLarge := excB_ok y4
    k_PlaneError_BadNumber_PlaneError := kitB_ok y5
    k_PlaneError_BadNumber_NotNumber := kitB_ok y6
    k_PlaneError_BadNumber_BadNumber := kitB_ok y7
    k_PlaneError_BadNumber_TooLarge := kitB_ok y8
    k_PlaneError_NotNumber_PlaneError := kitB_ok y9
    k_PlaneError_NotNumber_NotNumber := kitB_ok y10
    k_PlaneError_NotNumber_BadNumber := kitB_ok y11
    k_PlaneError_NotNumber_TooLarge := kitB_ok y12
    d__law_number := c.d.def_ 0 (d := D_law_number) rfl
    d__law_draws := c.d.def_ 1 (d := D_law_draws) rfl
    d__law_next := c.d.def_ 2 (d := D_law_next) rfl
    d__law_integer := c.d.def_ 3 (d := D_law_integer) rfl
    d__law_divisor := c.d.def_ 4 (d := D_law_divisor) rfl
    d__law_lowest := c.d.def_ 5 (d := D_law_lowest) rfl
    d__law_pair := c.d.def_ 6 (d := D_law_pair) rfl
    d_divisor := c.d.def_ 7 (d := Ddivisor) rfl
    d_lowest := c.d.def_ 8 (d := Dlowest) rfl
    d_number := c.d.def_ 9 (d := Dnumber) rfl
    d_is_number := c.d.def_ 10 (d := Dis_number) rfl
    d_check_number := c.d.def_ 11 (d := Dcheck_number) rfl
    d_sign := c.d.def_ 12 (d := Dsign) rfl
    d_number_text := c.d.def_ 13 (d := Dnumber_text) rfl
    d_check_both := c.d.def_ 14 (d := Dcheck_both) rfl
    d_summed := c.d.def_ 15 (d := Dsummed) rfl
    d_plus := c.d.def_ 16 (d := Dplus) rfl
    d_negated := c.d.def_ 17 (d := Dnegated) rfl
    d_minus := c.d.def_ 18 (d := Dminus) rfl
    d_multiplied := c.d.def_ 19 (d := Dmultiplied) rfl
    d_times := c.d.def_ 20 (d := Dtimes) rfl
    d_inverted := c.d.def_ 21 (d := Dinverted) rfl
    d_over := c.d.def_ 22 (d := Dover) rfl
    d_is_less := c.d.def_ 23 (d := Dis_less) rfl
    d__law_told := c.d.def_ 24 (d := D_law_told) rfl
    d__law_due := c.d.def_ 25 (d := D_law_due) rfl
    d_law := c.d.def_ 26 (d := Dlaw) rfl }
end K00
open PySem PySem.W PySem.Calls PyProof.Rows
theorem PySem.Challenge.cw_planeworth_k00_numbers_holds : PySem.Challenge.rw_planeworth_k00_numbers.Holds := by
  w_on; o_law
  refine HandSHeadRun.head_any (r := OpenLaw.row PySem.Challenge.rw_planeworth_k00_numbers) (q := view (OpenLaw.row PySem.Challenge.rw_planeworth_k00_numbers).prog [35]) (H := K00.hk) (ob := K00.ob)
    (M := 4000) (loose := K00.loose) (d := HandSHeadRun.topDef (OpenLaw.row PySem.Challenge.rw_planeworth_k00_numbers).prog 35) (kwd := []) K00.ob_eq
    (by kernel_rfl) (fun s => by kernel_rfl) K00.run (by kernel_rfl)
    (by kernel_rfl) (by kernel_rfl) (by rfl) (by first | assumption | decide +kernel) (by decide +kernel) ⟨rfl, rfl, rfl, rfl, rfl, by decide +kernel⟩ ?hw ?hc
  case hw => w_witness2
  case hc =>
    refine DL.walkG (l := PySem.Challenge.rw_planeworth_k00_numbers) (n := 63) (k := 7) (F := K00.Flaw) rfl (by decide) (by kernel_rfl) ⟨rfl, by decide, by decide⟩ ?C K00.law_true
    intro w mg fL h Y G hmg0
    obtain ⟨K, kin, c⟩ := Y
    have hmg : mg ("law" : PySem.Str) = some (.ref fL) := by
      have e : (HandSHeadRun.topDef (OpenLaw.row PySem.Challenge.rw_planeworth_k00_numbers).prog 35).name = ("law" : PySem.Str) := by kernel_rfl
      rw [← e]
      exact hmg0
    have fc := K00.fcOk kin G c
    have e := hmg.symm.trans fc.g_law
    cases e
    exact ⟨K, kin, fun base _ _ => K00.glaw fc base⟩
