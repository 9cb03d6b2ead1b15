import PyProof.Rows.All
import Wide.All
import OpenK.AllK
import Wide.FinOn
import KE.KStateDown
import HandS.ForMost
import HandS.ForExc
import HandS.Flow
import HandS.Wide
import HandS.HeadHook2
import HandS.TupAny
import HandS.TupMul
import HandS.Deep
import HandS.Style
import HandS.Defaults
import HandS.SortInts
import HandS.RaiseMore
import HandS.StrMore
import HandS.ExcIs
import HandS.ExcOwn
import HandS.FStr
import HandS.Ends
import HandS.HeadEnd
import HandS.Replace
import PyProof.Rows.StrMul
import HandS.Codes
import PyProof.ReprLen
import PyProof.Rows.StrDouble
import HandS.Head0
import HandS.Head1
import HandS.Head2
import PySem.Challenge.RW_planeworth_k93_lines_and_words
set_option Elab.async false
set_option linter.all false
set_option maxRecDepth 100000
set_option maxHeartbeats 0
namespace DL
open L2 PySem PySem.Spec PyProof.Rows

inductive D where
  | non | bl (b : Bool) | int (i : Int) | str (x : Str)
  | tup (l : List D) | lst (l : List D)
  | scr (l : List D)
  | fn (x : Str)
  | obj (c : Str) (fs : List (Str × D))
  | exn (c : Str) (fs : List (Str × D))
structure Xn where
  c : Str
  fs : List (Str × D) := []
abbrev En := List (Option D)
inductive R (α : Type) where
  | ok (a : α) (r : En)
  | ex (x : Xn) (r : En)
  | bad
def R.bind {α β : Type} : R α → (α → En → R β) → R β
  | .ok a r, f => f a r
  | .ex x r, _ => .ex x r
  | .bad, _ => .bad
abbrev ME := En → R D
abbrev MT := En → R Bool
abbrev MA := En → R (List D)

def SqTA (K : PySem.W.Frag) (A : Addr → Prop) (H : Hp) (a : Addr) (xs : List V) : Prop :=
  (Rd H a (.tup xs) ∧ ¬ A a) ∨
    ∃ (o : Obj) (its : Array Value) (n : Nat), K.lookup a = some o ∧ o.cls = .type "tuple" ∧ o.data = .seq its n ∧ its.size ≤ sizeLine ∧ Vals xs its.toList
def SqLA (K : PySem.W.Frag) (A : Addr → Prop) (H : Hp) (a : Addr) (xs : List V) : Prop :=
  (Rd H a (.lst xs) ∧ ¬ A a) ∨
    ∃ (o : Obj) (its : Array Value) (n : Nat), K.lookup a = some o ∧ o.cls = .type "list" ∧ o.dict = none ∧ o.data = .seq its n ∧ its.size ≤ sizeLine ∧ Vals xs its.toList
theorem SqTA.sq {K : PySem.W.Frag} {A : Addr → Prop} {H : Hp} {a : Addr} {xs : List V} (h : SqTA K A H a xs) : SqT K H a xs := h.imp (fun z => z.1) id
theorem SqLA.sq {K : PySem.W.Frag} {A : Addr → Prop} {H : Hp} {a : Addr} {xs : List V} (h : SqLA K A H a xs) : SqL K H a xs := h.imp (fun z => z.1) id

mutual
inductive Rp (K : PySem.W.Frag) (A : Addr → Prop) (H : Hp) : V → D → Prop where
  | non : Rp K A H .non .non
  | bl (b : Bool) : Rp K A H (.bl b) (.bl b)
  | int (i : Int) : Rp K A H (.int i) (.int i)
  | str (x : Str) : Rp K A H (.str x) (.str x)
  | tup {a : Addr} {xs : List V} {ds : List D} : SqTA K A H a xs → RpA K A H xs ds → Rp K A H (.ref a) (.tup ds)
  | lst {a : Addr} {xs : List V} {ds : List D} : H a = some (.lst xs) → ¬ A a → RpA K A H xs ds → Rp K A H (.ref a) (.lst ds)
  | scr {a : Addr} {xs : List V} {ds : List D} : SqLA K A H a xs → RpA K A H xs ds → Rp K A H (.ref a) (.scr ds)
  | fn (x : Str) : Rp K A H (.ref (He.ga K x)) (.fn x)
  | obj {a dx : Addr} {c : Str} {fs : List (Str × V)} {ds : List (Str × D)} : H a = some (.ins (He.ga K c) dx fs) → ¬ A a → RpF K A H fs ds → Rp K A H (.ref a) (.obj c ds)
inductive RpA (K : PySem.W.Frag) (A : Addr → Prop) (H : Hp) : List V → List D → Prop where
  | nil : RpA K A H [] []
  | cons {v : V} {vs : List V} {d : D} {ds : List D} : Rp K A H v d → RpA K A H vs ds → RpA K A H (v :: vs) (d :: ds)
inductive RpF (K : PySem.W.Frag) (A : Addr → Prop) (H : Hp) : List (Str × V) → List (Str × D) → Prop where
  | nil : RpF K A H [] []
  | cons {f : Str} {v : V} {vs : List (Str × V)} {d : D} {ds : List (Str × D)} : Rp K A H v d → RpF K A H vs ds → RpF K A H ((f, v) :: vs) ((f, d) :: ds)
end

section
variable {K : PySem.W.Frag} {A A' : Addr → Prop} {H H' : Hp}
def Tr (A A' : Addr → Prop) (H H' : Hp) : Prop := ∀ a o, H a = some o → ¬ A a → H' a = some o ∧ ¬ A' a
theorem Tr.rd (t : Tr A A' H H') {a : Addr} {u : HO} (h : Rd H a u) (n : ¬ A a) : Rd H' a u ∧ ¬ A' a := by
  rcases h with h | ⟨o, h⟩
  · exact ⟨.inl (t a _ h n).1, (t a _ h n).2⟩
  · exact ⟨.inr ⟨o, (t a _ h n).1⟩, (t a _ h n).2⟩
theorem SqTA.tr (t : Tr A A' H H') {a : Addr} {xs : List V} (h : SqTA K A H a xs) : SqTA K A' H' a xs := h.imp (fun z => t.rd z.1 z.2) id
theorem SqLA.tr (t : Tr A A' H H') {a : Addr} {xs : List V} (h : SqLA K A H a xs) : SqLA K A' H' a xs := h.imp (fun z => t.rd z.1 z.2) id
mutual
theorem Rp.tr (t : Tr A A' H H') : ∀ {v : V} {d : D}, Rp K A H v d → Rp K A' H' v d
  | _, _, .non => .non
  | _, _, .bl b => .bl b
  | _, _, .int i => .int i
  | _, _, .str x => .str x
  | _, _, .tup h q => .tup (h.tr t) (RpA.tr t q)
  | _, _, .lst h n q => .lst (t _ _ h n).1 (t _ _ h n).2 (RpA.tr t q)
  | _, _, .scr h q => .scr (h.tr t) (RpA.tr t q)
  | _, _, .fn x => .fn x
  | _, _, .obj h n q => .obj (t _ _ h n).1 (t _ _ h n).2 (RpF.tr t q)
theorem RpA.tr (t : Tr A A' H H') : ∀ {v : List V} {d : List D}, RpA K A H v d → RpA K A' H' v d
  | _, _, .nil => .nil
  | _, _, .cons h q => .cons (Rp.tr t h) (RpA.tr t q)
theorem RpF.tr (t : Tr A A' H H') : ∀ {v : List (Str × V)} {d : List (Str × D)}, RpF K A H v d → RpF K A' H' v d
  | _, _, .nil => .nil
  | _, _, .cons h q => .cons (Rp.tr t h) (RpF.tr t q)
end
theorem RpA.length : ∀ {vs : List V} {ds : List D}, RpA K A H vs ds → vs.length = ds.length
  | _, _, .nil => rfl
  | _, _, .cons _ q => by rw [List.length_cons, List.length_cons, RpA.length q]
theorem RpA.get : ∀ {vs : List V} {ds : List D} {i : Nat} {d : D}, RpA K A H vs ds → ds[i]? = some d → ∃ v, vs[i]? = some v ∧ Rp K A H v d
  | _, _, _, _, .nil, e => by simp at e
  | _, _, 0, _, .cons h _, e => by simp at e; subst e; exact ⟨_, rfl, h⟩
  | _, _, i + 1, _, .cons _ q, e => by
    obtain ⟨v, h1, h2⟩ := RpA.get (i := i) q (by simpa using e)
    exact ⟨v, by simpa using h1, h2⟩
theorem RpA.getV : ∀ {vs : List V} {ds : List D} {i : Nat} {v : V}, RpA K A H vs ds → vs[i]? = some v → ∃ d, ds[i]? = some d ∧ Rp K A H v d
  | _, _, _, _, .nil, e => by simp at e
  | _, _, 0, _, .cons h _, e => by simp at e; subst e; exact ⟨_, rfl, h⟩
  | _, _, i + 1, _, .cons _ q, e => by
    obtain ⟨v, h1, h2⟩ := RpA.getV (i := i) q (by simpa using e)
    exact ⟨v, by simpa using h1, h2⟩
theorem RpA.app : ∀ {vs ws : List V} {ds es : List D}, RpA K A H vs ds → RpA K A H ws es → RpA K A H (vs ++ ws) (ds ++ es)
  | _, _, _, _, .nil, q => q
  | _, _, _, _, .cons h t, q => .cons h (RpA.app t q)
theorem RpA.take : ∀ {vs : List V} {ds : List D} (n : Nat), RpA K A H vs ds → RpA K A H (vs.take n) (ds.take n)
  | _, _, 0, _ => .nil
  | _, _, _ + 1, .nil => .nil
  | _, _, n + 1, .cons h t => .cons h (RpA.take n t)
theorem RpA.drop : ∀ {vs : List V} {ds : List D} (n : Nat), RpA K A H vs ds → RpA K A H (vs.drop n) (ds.drop n)
  | _, _, 0, h => h
  | _, _, _ + 1, .nil => .nil
  | _, _, n + 1, .cons _ t => RpA.drop n t
theorem RpA.set : ∀ {vs : List V} {ds : List D} {v : V} {d : D} (n : Nat), RpA K A H vs ds → Rp K A H v d → RpA K A H (vs.set n v) (ds.set n d)
  | _, _, _, _, _, .nil, _ => .nil
  | _, _, _, _, 0, .cons _ t, q => .cons q t
  | _, _, _, _, n + 1, .cons h t, q => .cons h (RpA.set n t q)
theorem RpA.rev : ∀ {vs : List V} {ds : List D}, RpA K A H vs ds → RpA K A H vs.reverse ds.reverse
  | _, _, .nil => .nil
  | _, _, .cons h t => by
    rw [List.reverse_cons, List.reverse_cons]
    exact (RpA.rev t).app (.cons h .nil)
theorem RpA.dropLast {vs : List V} {ds : List D} (h : RpA K A H vs ds) : RpA K A H vs.dropLast ds.dropLast := by
  rw [List.dropLast_eq_take, List.dropLast_eq_take, h.length]
  exact h.take _
theorem RpA.ints : ∀ {vs : List V} {ns : List Int}, RpA K A H vs (ns.map D.int) → vs = ns.map V.int
  | vs, [], h => by cases h; rfl
  | vs, n :: ns, h => by
    rw [List.map_cons] at h
    cases h with
    | cons h t =>
      cases h
      rw [RpA.ints t, List.map_cons]
theorem RpA.of_ints : ∀ (ns : List Int), RpA K A H (ns.map V.int) (ns.map D.int)
  | [] => .nil
  | n :: ns => .cons (.int n) (RpA.of_ints ns)
theorem RpA.strs : ∀ {vs : List V} {ns : List Str}, RpA K A H vs (ns.map D.str) → vs = ns.map V.str
  | vs, [], h => by cases h; rfl
  | vs, n :: ns, h => by
    rw [List.map_cons] at h
    cases h with
    | cons h t =>
      cases h
      rw [RpA.strs t, List.map_cons]
theorem RpA.of_strs : ∀ (ns : List Str), RpA K A H (ns.map V.str) (ns.map D.str)
  | [] => .nil
  | n :: ns => .cons (.str n) (RpA.of_strs ns)
theorem RpA.bls : ∀ {vs : List V} {ns : List Bool}, RpA K A H vs (ns.map D.bl) → vs = ns.map V.bl
  | vs, [], h => by cases h; rfl
  | vs, n :: ns, h => by
    rw [List.map_cons] at h
    cases h with
    | cons h t =>
      cases h
      rw [RpA.bls t, List.map_cons]
end

inductive Own (K : PySem.W.Frag) (A : Addr → Prop) (H : Hp) (p : Addr) : D → Prop where
  | lst {vs : List V} {ds : List D} : H p = some (.lst vs) → RpA K A H vs ds → Own K A H p (.lst ds)
  | obj {dx : Addr} {c : Str} {fs : List (Str × V)} {ds : List (Str × D)} : H p = some (.ins (He.ga K c) dx fs) → RpF K A H fs ds → Own K A H p (.obj c ds)
theorem Own.there {K : PySem.W.Frag} {A : Addr → Prop} {H : Hp} {p : Addr} {d : D} (h : Own K A H p d) : ∃ o, H p = some o := by
  cases h with
  | lst e _ => exact ⟨_, e⟩
  | obj e _ => exact ⟨_, e⟩
theorem Own.tr {K : PySem.W.Frag} {A A' : Addr → Prop} {H H' : Hp} {p : Addr} {d : D} (h : Own K A H p d) (t : Tr A A' H H') (hp : ∀ o, H p = some o → H' p = some o) : Own K A' H' p d := by
  cases h with
  | lst e q => exact .lst (hp _ e) (q.tr t)
  | obj e q => exact .obj (hp _ e) (q.tr t)
theorem Own.freeze {K : PySem.W.Frag} {A A' : Addr → Prop} {H : Hp} {p : Addr} {d : D} (h : Own K A H p d) (s : ∀ a, A' a → A a) (n : ¬ A' p) : Rp K A' H (.ref p) d := by
  have t : Tr A A' H H := fun a o e q => ⟨e, fun z => q (s a z)⟩
  cases h with
  | lst e q => exact .lst e n (q.tr t)
  | obj e q => exact .obj e n (q.tr t)

structure Gd where
  A0 : Addr → Prop
  H0 : Hp
  io : Option Addr
  px : Option (Nat × Addr × Str)
structure RelS (K : PySem.W.Frag) (G : Gd) (O : List Nat) (A : Addr → Prop) (ms : Nat → Option Addr) (σ : L2.St) (H : Hp) (ρ : En) : Prop where
  sub : ∀ a, G.A0 a → A a
  trk0 : ∀ a, G.A0 a → ∃ o, G.H0 a = some o
  trk : ∀ a, A a → ∃ o, H a = some o
  keep : ∀ a o, G.H0 a = some o → G.io ≠ some a → H a = some o
  len : σ.length = ρ.length
  fz : ∀ i d, ρ[i]? = some (some d) → i ∉ O → ∃ v, σ[i]? = some (some v) ∧ Rp K A H v d
  ow : ∀ i d, ρ[i]? = some (some d) → i ∈ O → ∃ p, ms i = some p ∧ σ[i]? = some (some (.ref p)) ∧ Own K A H p d
  inA : ∀ i p, i ∈ O → ms i = some p → A p
  ok : ∀ i p, i ∈ O → ms i = some p → (i = 0 ∧ G.io = some p) ∨ ((i ≠ 0 ∨ G.io = none) ∧ G.H0 p = none)
  dist : ∀ i j p, i ∈ O → j ∈ O → ms i = some p → ms j = some p → i = j
  px : ∀ i a c, G.px = some (i, a, c) → i ∈ O ∧ σ[i]? = some (some (.ref a))
  io : ∀ p, G.io = some p → 0 ∈ O ∧ G.A0 p ∧ ms 0 = some p ∧ ∃ d, ρ[0]? = some (some d)
def Kp (O : List Nat) (ms : Nat → Option Addr) (H H' : Hp) : Prop := ∀ a o, H a = some o → (∀ i ∈ O, ms i ≠ some a) → H' a = some o
section
variable {O : List Nat} {ms : Nat → Option Addr}
theorem Kp.refl {H : Hp} : Kp O ms H H := fun _ _ e _ => e
theorem Kp.trans {H H1 H2 : Hp} (a : Kp O ms H H1) (b : Kp O ms H1 H2) : Kp O ms H H2 := fun x o e n => b x o (a x o e n) n
theorem Kp.same {H H' : Hp} (k : Same H H') : Kp O ms H H' := fun a o e _ => k a o e
theorem Tr.same {A : Addr → Prop} {H H' : Hp} (k : Same H H') : Tr A A H H' := fun a o e n => ⟨k a o e, n⟩
theorem RelS.kt {K : PySem.W.Frag} {G : Gd} {A : Addr → Prop} {σ : L2.St} {H0 H H' : Hp} {ρ : En} (R : RelS K G O A ms σ H0 ρ) (k : Kp O ms H H') : Tr A A H H' := fun a o e n => ⟨k a o e fun i m z => n (R.inA i a m z), n⟩
theorem RelS.same {K : PySem.W.Frag} {G : Gd} {A : Addr → Prop} {σ : L2.St} {H H' : Hp} {ρ : En} (h : RelS K G O A ms σ H ρ) (k : Same H H') : RelS K G O A ms σ H' ρ where
  sub := h.sub
  trk0 := h.trk0
  trk := fun a q => let ⟨o, e⟩ := h.trk a q; ⟨o, k _ _ e⟩
  keep := fun a o e n => k _ _ (h.keep a o e n)
  len := h.len
  fz := fun i d e n => let ⟨v, e1, q⟩ := h.fz i d e n; ⟨v, e1, q.tr (Tr.same k)⟩
  ow := fun i d e n => let ⟨p, e0, e1, q⟩ := h.ow i d e n; ⟨p, e0, e1, q.tr (Tr.same k) fun o z => k _ _ z⟩
  inA := h.inA
  ok := h.ok
  dist := h.dist
  px := h.px
  io := h.io
end

def XRel (K : PySem.W.Frag) (A : Addr → Prop) (H : Hp) (x : Xn) (dx : Option Addr) : Prop :=
  (x.fs = [] ∧ dx = none) ∨ (x.fs ≠ [] ∧ ∃ d fs, dx = some d ∧ H d = some (.xd fs) ∧ RpF K A H fs x.fs)
section
variable (K : PySem.W.Frag) (G : Gd) (O : List Nat) (W : WX) (A : Addr → Prop) (ms : Nat → Option Addr) (σ : L2.St)
def RPost {α β : Type} (H : Hp) (rel : Hp → β → α → Prop) (Q : β → Hp → Prop) : R α → Prop
  | .ok d ρ' => ∀ v H', RelS K G O A ms σ H' ρ' → Kp O ms H H' → rel H' v d → Q v H'
  | .ex x ρ' => ∀ dx H', RelS K G O A ms σ H' ρ' → Kp O ms H H' → XRel K A H' x dx → W (.ref (He.ga K x.c)) dx σ H'
  | .bad => False
end
section
variable {K : PySem.W.Frag} {G : Gd} {O : List Nat} {W : WX} {A : Addr → Prop} {ms : Nat → Option Addr} {σ : L2.St} {H H1 : Hp}
theorem RPost.from {α β : Type} {rel : Hp → β → α → Prop} {Q : β → Hp → Prop} {r : R α} (k : Kp O ms H H1) (h : RPost K G O W A ms σ H rel Q r) : RPost K G O W A ms σ H1 rel Q r := by
  cases r with
  | ok d ρ => exact fun v H' R k' q => h v H' R (k.trans k') q
  | ex x ρ => exact fun dx H' R k' q => h dx H' R (k.trans k') q
  | bad => exact h
theorem RPost.mono {α β : Type} {rel : Hp → β → α → Prop} {Q Q' : β → Hp → Prop} {r : R α} (h : RPost K G O W A ms σ H rel Q r) (w : ∀ v H', Q v H' → Q' v H') : RPost K G O W A ms σ H rel Q' r := by
  cases r with
  | ok d ρ => exact fun v H' R k' q => w _ _ (h v H' R k' q)
  | ex x ρ => exact h
  | bad => exact h
theorem RPost.bind {α β γ δ : Type} {rel : Hp → β → α → Prop} {rel' : Hp → δ → γ → Prop} {Q : δ → Hp → Prop} {r : R α} {f : α → En → R γ} (h : RPost K G O W A ms σ H rel' Q (r.bind f)) :
    RPost K G O W A ms σ H rel (fun v H1 => ∃ d ρ1, RelS K G O A ms σ H1 ρ1 ∧ Kp O ms H H1 ∧ rel H1 v d ∧ RPost K G O W A ms σ H1 rel' Q (f d ρ1)) r := by
  cases r with
  | ok d ρ => exact fun v H' R k' q => ⟨d, ρ, R, k', q, RPost.from k' h⟩
  | ex x ρ => exact h
  | bad => exact h
end

def tE (K : PySem.W.Frag) (G : Gd) (O : List Nat) (W : WX) (m : ME) : TE := fun σ H Q => ∃ A ms ρ, RelS K G O A ms σ H ρ ∧ RPost K G O W A ms σ H (Rp K A) Q (m ρ)
def tT (K : PySem.W.Frag) (G : Gd) (O : List Nat) (W : WX) (m : MT) : TT := fun σ H Q => ∃ A ms ρ, RelS K G O A ms σ H ρ ∧ RPost K G O W A ms σ H (fun _ => Eq) Q (m ρ)
def tA (K : PySem.W.Frag) (G : Gd) (O : List Nat) (W : WX) (m : MA) : TA := fun σ H Q => ∃ A ms ρ, RelS K G O A ms σ H ρ ∧ RPost K G O W A ms σ H (RpA K A) Q (m ρ)
def DE (X : Cx) (G : Gd) (O : List Nat) (W : WX) (e : Expr) (m : ME) : Prop := PE X e (tE X.K G O W m)
def DT (X : Cx) (G : Gd) (O : List Nat) (W : WX) (e : Expr) (m : MT) : Prop := PT X e (tT X.K G O W m)
def DA (X : Cx) (G : Gd) (O : List Nat) (W : WX) (es : List Expr) (m : MA) : Prop := PA X es (tA X.K G O W m)
theorem pe_imp {X : Cx} {e : Expr} {t t' : TE} (h : PE X e t) (w : ∀ σ H Q, t' σ H Q → t σ H Q) : PE X e t' := ⟨fun pins s σ H Q I q => h.run pins s σ H Q I (w σ H Q q)⟩
theorem pt_imp {X : Cx} {e : Expr} {t t' : TT} (h : PT X e t) (w : ∀ σ H Q, t' σ H Q → t σ H Q) : PT X e t' := ⟨fun pins s σ H Q I q => h.run pins s σ H Q I (w σ H Q q)⟩
theorem pw_imp {X : Cx} {e : Expr} {t t' : TT} (h : PW X e t) (w : ∀ σ H Q, t' σ H Q → t σ H Q) : PW X e t' := ⟨fun wh pins s σ H Q I q => h.run wh pins s σ H Q I (w σ H Q q)⟩
theorem pa_imp {X : Cx} {es : List Expr} {t t' : TA} (h : PA X es t) (w : ∀ σ H Q, t' σ H Q → t σ H Q) : PA X es t' := ⟨fun pos pins s σ H Q I q => h.run pos pins s σ H Q I (w σ H Q q)⟩
theorem ps_imp {X : Cx} {st : Stmt} {t t' : TS} (h : PS X st t) (w : ∀ D σ H, t' D σ H → t D σ H) : PS X st t' := ⟨fun pins s σ H D I q => h.run pins s σ H D I (w D σ H q)⟩
theorem pss_imp {X : Cx} {st : List Stmt} {t t' : TS} (h : PSs X st t) (w : ∀ D σ H, t' D σ H → t D σ H) : PSs X st t' := ⟨fun pins s σ H D I q => h.run pins s σ H D I (w D σ H q)⟩
end DL
namespace DL
open L2 PySem PySem.Spec PyProof.Rows

def ret {α : Type} (d : Option α) (ρ : En) : R α := match d with
  | some d => .ok d ρ
  | none => .bad
def mVar (i : Nat) : ME := fun ρ => match ρ[i]? with
  | some (some d) => .ok d ρ
  | _ => .bad
def mK (d : D) : ME := fun ρ => .ok d ρ
def m1 (g : D → Option D) (a : ME) : ME := fun ρ => (a ρ).bind fun x ρ1 => ret (g x) ρ1
def m2 (g : D → D → Option D) (a b : ME) : ME := fun ρ => (a ρ).bind fun x ρ1 => (b ρ1).bind fun y ρ2 => ret (g x y) ρ2
def mIf (c : MT) (a b : ME) : ME := fun ρ => (c ρ).bind fun k ρ1 => if k = true then a ρ1 else b ρ1
def tru : D → Option Bool
  | .non => some false
  | .bl b => some b
  | .int i => some (i != 0)
  | .str y => if y.length ≤ sizeLine then some ((y.length : Int) != 0) else none
  | .tup l => some (!l.isEmpty)
  | .lst l => some (!l.isEmpty)
  | .scr l => some (!l.isEmpty)
  | _ => none
def mTru (a : ME) : MT := fun ρ => (a ρ).bind fun x ρ1 => ret (tru x) ρ1
def mAndT (a b : MT) : MT := fun ρ => (a ρ).bind fun k ρ1 => if k = true then b ρ1 else .ok false ρ1
def mOrT (a b : MT) : MT := fun ρ => (a ρ).bind fun k ρ1 => if k = true then .ok true ρ1 else b ρ1
def mNotT (a : MT) : MT := fun ρ => (a ρ).bind fun k ρ1 => .ok (!k) ρ1
def mBl (a : MT) : ME := fun ρ => (a ρ).bind fun k ρ1 => .ok (.bl k) ρ1
def mAnd (a b : ME) : ME := fun ρ => (a ρ).bind fun x ρ1 => (ret (tru x) ρ1).bind fun k ρ2 => if k = true then b ρ2 else .ok x ρ2
def mOr (a b : ME) : ME := fun ρ => (a ρ).bind fun x ρ1 => (ret (tru x) ρ1).bind fun k ρ2 => if k = true then .ok x ρ2 else b ρ2
def mNil : MA := fun ρ => .ok [] ρ
def mCons (a : ME) (b : MA) : MA := fun ρ => (a ρ).bind fun x ρ1 => (b ρ1).bind fun xs ρ2 => .ok (x :: xs) ρ2
def mN (g : List D → Option D) (a : MA) : ME := fun ρ => (a ρ).bind fun xs ρ1 => ret (g xs) ρ1
def gTup (xs : List D) : Option D := if xs.length ≤ sizeLine then some (.tup xs) else none
def gLst (xs : List D) : Option D := if xs.length ≤ sizeLine then some (.lst xs) else none
def mChain (g g' : D → D → Option D) (a b c : ME) : ME := fun ρ => (a ρ).bind fun x ρ1 => (b ρ1).bind fun y ρ2 => (ret (g x y) ρ2).bind fun k ρ3 => match k with
  | .bl true => (c ρ3).bind fun z ρ4 => ret (g' y z) ρ4
  | .bl false => .ok (.bl false) ρ3
  | _ => .bad

def gAdd : D → D → Option D
  | .int i, .int j => some (.int (i + j))
  | .str x, .str y => if x.length + y.length ≤ sizeLine then some (.str (x ++ y)) else none
  | .tup xs, .tup ys => if xs.length + ys.length ≤ sizeLine then some (.tup (xs ++ ys)) else none
  | .lst xs, .lst ys => if xs.length + ys.length ≤ sizeLine then some (.lst (xs ++ ys)) else none
  | _, _ => none
def gSub : D → D → Option D
  | .int i, .int j => some (.int (i - j))
  | _, _ => none
def okMul (i j : Int) : Bool := decide (i.natAbs.log2 + j.natAbs.log2 < 100000000)
def gMul : D → D → Option D
  | .int i, .int j => if okMul i j = true then some (.int (i * j)) else none
  | .lst xs, .int k => if -(2 ^ 63) ≤ k ∧ k < 2 ^ 63 ∧ xs.length * k.toNat ≤ sizeLine then some (.lst (List.replicate k.toNat xs).flatten) else none
  | _, _ => none
def gDiv : D → D → Option D
  | .int i, .int j => if j ≠ 0 ∧ j.natAbs.log2 < 9000 then some (.int (i.fdiv j)) else none
  | _, _ => none
instance {i j : Int} : Decidable (CPow i j) := by unfold CPow; infer_instance
def gPow : D → D → Option D
  | .int i, .int j => if CPow i j then some (.int (i ^ j.toNat)) else none
  | _, _ => none
def gMod : D → D → Option D
  | .int i, .int j => if j ≠ 0 then some (.int (i.fmod j)) else none
  | _, _ => none
def gNeg : D → Option D
  | .int i => some (.int (-i))
  | _ => none
def gLt : D → D → Option D
  | .int i, .int j => some (.bl (decide (i < j)))
  | .str i, .str j => some (.bl (decide (i.cps.toList < j.cps.toList)))
  | _, _ => none
def gGt : D → D → Option D
  | .int i, .int j => some (.bl (decide (j < i)))
  | .str i, .str j => some (.bl (decide (j.cps.toList < i.cps.toList)))
  | _, _ => none
def gLe : D → D → Option D
  | .int i, .int j => some (.bl (decide (i ≤ j)))
  | .str i, .str j => some (.bl (!decide (j.cps.toList < i.cps.toList)))
  | _, _ => none
def gGe : D → D → Option D
  | .int i, .int j => some (.bl (decide (j ≤ i)))
  | .str i, .str j => some (.bl (!decide (i.cps.toList < j.cps.toList)))
  | _, _ => none
mutual
def D.py : D → Option PyData
  | .non => some .none
  | .bl b => some (.bool b)
  | .int i => some (.int i)
  | .str x => some (.str x)
  | .tup l => (pyAll l).map .tuple
  | .lst l => (pyAll l).map .list
  | _ => none
def pyAll : List D → Option (List PyData)
  | [] => some []
  | d :: ds => (D.py d).bind fun x => (pyAll ds).map fun xs => x :: xs
end
def eqD (a b : D) : Option Bool := match a, b with
  | .int i, .int j => some (decide (i = j))
  | .str i, .str j => some (decide (i = j))
  | .bl i, .bl j => some (decide (i = j))
  | .non, .non => some true
  | a, b => match a.py, b.py with
    | some x, some y => if SeqAt.shaped x = true ∧ SeqAt.shaped y = true then some (PyData.eqv x y) else none
    | _, _ => none
def gEq (a b : D) : Option D := (eqD a b).map D.bl
def gNe (a b : D) : Option D := (eqD a b).map fun k => D.bl (!k)
def isNon : D → Bool
  | .non => true
  | _ => false
def gIs : D → D → Option D
  | a, .non => some (.bl (isNon a))
  | .bl a, .bl b => some (.bl (decide (a = b)))
  | _, _ => none
def gIsNot : D → D → Option D
  | a, .non => some (.bl (!isNon a))
  | .bl a, .bl b => some (.bl (!decide (a = b)))
  | _, _ => none
def inStr (x y : Str) : Bool := !(Builtin.Str.occurrences y x 0 y.length 1).isEmpty
def inD (a : D) (l : D) : Option Bool := match a, l with
  | .str x, .str y => some (inStr x y)
  | a, .lst ds => match a.py, pyAll ds with
    | some x, some ys => if SeqAt.shaped x = true ∧ SeqAt.shaped (.list ys) = true then some (ys.any fun z => PyData.eqv z x) else none
    | _, _ => none
  | _, _ => none
def gIn (a l : D) : Option D := (inD a l).map D.bl
def gNotIn (a l : D) : Option D := (inD a l).map fun k => D.bl (!k)

def Trk (A : Addr → Prop) (H : Hp) : Prop := ∀ p, A p → ∃ o, H p = some o
theorem Trk.no {A : Addr → Prop} {H : Hp} (t : Trk A H) {p : Addr} (h : H p = none) : ¬ A p := fun q => by
  obtain ⟨o, e⟩ := t p q
  rw [h] at e
  cases e
theorem same_upd {H : Hp} {p : Addr} {o : HO} (h : H p = none) : Same H (upd H p o) := fun b x e => by
  rw [upd_ne (ne_of_none e h)]
  exact e
inductive RpB (K : PySem.W.Frag) (A : Addr → Prop) (H : Hp) : V → D → Prop where
  | of {v : V} {d : D} : Rp K A H v d → RpB K A H v d
  | own {p : Addr} {ws : List V} {cs : List D} : H p = some (.lst ws) → RpA K A H ws cs → RpB K A H (.ref p) (.lst cs)
section
variable {K : PySem.W.Frag} {A : Addr → Prop} {H : Hp} {v : V}
theorem RpB.non (h : RpB K A H v .non) : v = .non := by cases h with | of h => cases h; rfl
theorem RpB.bl {b : Bool} (h : RpB K A H v (.bl b)) : v = .bl b := by cases h with | of h => cases h; rfl
theorem RpB.int {i : Int} (h : RpB K A H v (.int i)) : v = .int i := by cases h with | of h => cases h; rfl
theorem RpB.str {x : Str} (h : RpB K A H v (.str x)) : v = .str x := by cases h with | of h => cases h; rfl
theorem RpB.tup {ds : List D} (h : RpB K A H v (.tup ds)) : ∃ a xs, v = .ref a ∧ SqTA K A H a xs ∧ RpA K A H xs ds := by cases h with | of h => cases h with | tup h q => exact ⟨_, _, rfl, h, q⟩
theorem RpB.lst {ds : List D} (h : RpB K A H v (.lst ds)) : ∃ a xs, v = .ref a ∧ H a = some (.lst xs) ∧ RpA K A H xs ds := by
  cases h with
  | of h => cases h with | lst h n q => exact ⟨_, _, rfl, h, q⟩
  | own h q => exact ⟨_, _, rfl, h, q⟩
theorem RpB.scr {ds : List D} (h : RpB K A H v (.scr ds)) : ∃ a xs, v = .ref a ∧ SqLA K A H a xs ∧ RpA K A H xs ds := by cases h with | of h => cases h with | scr h q => exact ⟨_, _, rfl, h, q⟩
end
def rD1 (K : PySem.W.Frag) (g : D → Option D) : V → Hp → VK → Prop := fun x H Q => ∃ A a d, Trk A H ∧ RpB K A H x a ∧ g a = some d ∧ ∀ v H', Same H H' → Rp K A H' v d → Q v H'
def rD2 (K : PySem.W.Frag) (g : D → D → Option D) : R2 := fun x y H Q => ∃ A a b d, Trk A H ∧ RpB K A H x a ∧ RpB K A H y b ∧ g a b = some d ∧ ∀ v H', Same H H' → Rp K A H' v d → Q v H'
def Fr (K : PySem.W.Frag) (A : Addr → Prop) (H H' : Hp) (v : V) (d : D) : Prop := ∀ l, d = .lst l → ∃ p, v = .ref p ∧ H p = none ∧ Own K (fun a => A a ∨ a = p) H' p (.lst l)
def rF2 (K : PySem.W.Frag) (g : D → D → Option D) : R2 := fun x y H Q => ∃ A a b d, Trk A H ∧ RpB K A H x a ∧ RpB K A H y b ∧ g a b = some d ∧ ∀ v H', Same H H' → Rp K A H' v d → Fr K A H H' v d → Q v H'
def rDN (K : PySem.W.Frag) (g : List D → Option D) : List V → Hp → VK → Prop := fun xs H Q => ∃ A ds d, Trk A H ∧ (RpA K A H xs ds ∨ ∃ v c, xs = [v] ∧ ds = [c] ∧ RpB K A H v c) ∧ g ds = some d ∧ ∀ v H', Same H H' → Rp K A H' v d → Q v H'
def rFN (K : PySem.W.Frag) (g : List D → Option D) : List V → Hp → VK → Prop := fun xs H Q => ∃ A ds d, Trk A H ∧ (RpA K A H xs ds ∨ ∃ v c, xs = [v] ∧ ds = [c] ∧ RpB K A H v c) ∧ g ds = some d ∧ ∀ v H', Same H H' → Rp K A H' v d → Fr K A H H' v d → Q v H'
section
variable {K : PySem.W.Frag} {A : Addr → Prop} {H : Hp}
theorem new_tup {p : Addr} {xs : List V} {ds : List D} (t : Trk A H) (h : RpA K A H xs ds) (hp : H p = none) : Rp K A (upd H p (.tup xs)) (.ref p) (.tup ds) :=
  .tup (.inl ⟨.inl upd_same, t.no hp⟩) (h.tr (Tr.same (same_upd hp)))
theorem new_lst {p : Addr} {xs : List V} {ds : List D} (t : Trk A H) (h : RpA K A H xs ds) (hp : H p = none) : Rp K A (upd H p (.lst xs)) (.ref p) (.lst ds) :=
  .lst upd_same (t.no hp) (h.tr (Tr.same (same_upd hp)))
theorem RpA.nil_iff {xs : List V} {ds : List D} (h : RpA K A H xs ds) : xs = [] ↔ ds = [] := by
  cases h with
  | nil => simp
  | cons _ _ => simp
end

theorem ite_d {c : Prop} [Decidable c] {x d : D} (h : (if c then some x else none) = some d) : c ∧ x = d := by
  by_cases q : c
  · rw [if_pos q] at h
    exact ⟨q, Option.some.inj h⟩
  · rw [if_neg q] at h
    cases h
section
variable {X : Cx}
theorem new_own' {K : PySem.W.Frag} {A : Addr → Prop} {H : Hp} {p : Addr} {xs : List V} {ds : List D} (t : Trk A H) (h : RpA K A H xs ds) (hp : H p = none) : Own K (fun a => A a ∨ a = p) (upd H p (.lst xs)) p (.lst ds) :=
  .lst upd_same (h.tr fun a u e n => ⟨same_upd hp _ _ e, fun z => z.elim n fun z => by rw [z, hp] at e; cases e⟩)
theorem new_fr {K : PySem.W.Frag} {A : Addr → Prop} {H : Hp} {p : Addr} {xs : List V} {ds : List D} (t : Trk A H) (h : RpA K A H xs ds) (hp : H p = none) : Fr K A H (upd H p (.lst xs)) (.ref p) (.lst ds) := fun l e => by
  cases e
  exact ⟨p, rfl, hp, new_own' t h hp⟩
theorem no_fr {K : PySem.W.Frag} {A : Addr → Prop} {H H' : Hp} {v : V} {d : D} (h : ∀ l, d ≠ .lst l) : Fr K A H H' v d := fun l e => absurd e (h l)
theorem od_addF : OpR X (binaryOp .Add) (rF2 X.K gAdd) := by
  intro pins s σ H x y v u Q I rx ry ⟨A, a, b, d, t, pa, pb, e, q⟩
  cases a with
  | int i =>
    cases b with
    | int j =>
      cases e
      rw [pa.int] at rx
      rw [pb.int] at ry
      exact op_add pins s σ H _ _ v u Q I rx ry ⟨i, j, rfl, rfl, q _ _ (Same.refl _) (.int _) (no_fr fun _ => nofun)⟩
    | _ => cases e
  | str i =>
    cases b with
    | str j =>
      obtain ⟨hz, rfl⟩ := ite_d (x := .str (i ++ j)) e
      rw [pa.str] at rx
      rw [pb.str] at ry
      exact op_add_str pins s σ H _ _ v u Q I rx ry ⟨i, j, rfl, rfl, hz, q _ _ (Same.refl _) (.str _) (no_fr fun _ => nofun)⟩
    | _ => cases e
  | tup xs =>
    cases b with
    | tup ys =>
      obtain ⟨hz, rfl⟩ := ite_d (x := .tup (xs ++ ys)) e
      obtain ⟨a1, x1, rfl, ha, da⟩ := pa.tup
      obtain ⟨a2, x2, rfl, hb, db⟩ := pb.tup
      refine op_catA pins s σ H _ _ v u Q I rx ry ⟨_, _, _, _, rfl, rfl, ha.sq, hb.sq, by rw [da.length, db.length]; exact hz, fun z => ?_, fun _ z => ?_, fun _ _ p hp => ?_⟩
      · rw [da.nil_iff.mp z, List.nil_append] at q
        exact q _ _ (Same.refl _) (.tup hb db) (no_fr fun _ => nofun)
      · rw [db.nil_iff.mp z, List.append_nil] at q
        exact q _ _ (Same.refl _) (.tup ha da) (no_fr fun _ => nofun)
      · exact q _ _ (same_upd hp) (new_tup t (da.app db) hp) (no_fr fun _ => nofun)
    | _ => cases e
  | lst xs =>
    cases b with
    | lst ys =>
      obtain ⟨hz, rfl⟩ := ite_d (x := .lst (xs ++ ys)) e
      obtain ⟨a1, x1, rfl, ha, da⟩ := pa.lst
      obtain ⟨a2, x2, rfl, hb, db⟩ := pb.lst
      refine op_cat pins s σ H _ _ v u Q I rx ry ⟨_, _, _, _, rfl, rfl, ha, hb, by rw [da.length, db.length]; exact hz, fun p hp => ?_⟩
      exact q _ _ (same_upd hp) (new_lst t (da.app db) hp) (new_fr t (da.app db) hp)
    | _ => cases e
  | _ => cases b <;> cases e
theorem OpR.weak {f : Value → Value → Sem Value} {g : D → D → Option D} (h : OpR X f (rF2 X.K g)) : OpR X f (rD2 X.K g) := fun pins s σ H x y v u Q I rx ry ⟨A, a, b, d, t, pa, pb, e, q⟩ => h pins s σ H x y v u Q I rx ry ⟨A, a, b, d, t, pa, pb, e, fun v H' s r _ => q v H' s r⟩
theorem od_add : OpR X (binaryOp .Add) (rD2 X.K gAdd) := OpR.weak od_addF
theorem od_sub : OpR X (binaryOp .Sub) (rD2 X.K gSub) := by
  intro pins s σ H x y v u Q I rx ry ⟨A, a, b, d, t, pa, pb, e, q⟩
  cases a with
  | int i =>
    cases b with
    | int j =>
      cases e
      rw [pa.int] at rx
      rw [pb.int] at ry
      exact op_sub pins s σ H _ _ v u Q I rx ry ⟨i, j, rfl, rfl, q _ _ (Same.refl _) (.int _)⟩
    | _ => cases e
  | _ => cases b <;> cases e
theorem okMul_ok {i j : Int} (h : okMul i j = true) : IntMulOk i j := by
  have b : ∀ x : Int, Builtin.Int.intBits x ≤ x.natAbs.log2 + 1 := fun x => by
    unfold Builtin.Int.intBits
    split <;> omega
  have h1 := b i
  have h2 := b j
  have h3 : i.natAbs.log2 + j.natAbs.log2 < 100000000 := of_decide_eq_true h
  have e : bitsLine = 134217728 := by decide
  unfold IntMulOk
  intro z
  rw [Bool.and_eq_true] at z
  have z2 := z.2
  unfold Builtin.Int.intTooBig at z2
  have z3 := of_decide_eq_true z2
  rw [e] at z3
  omega
theorem RpA.rep {K : PySem.W.Frag} {A : Addr → Prop} {H : Hp} {xs : List V} {ds : List D} (h : RpA K A H xs ds) : ∀ n : Nat, RpA K A H (List.replicate n xs).flatten (List.replicate n ds).flatten
  | 0 => .nil
  | n + 1 => by
    rw [List.replicate_succ, List.replicate_succ, List.flatten_cons, List.flatten_cons]
    exact h.app (RpA.rep h n)
theorem od_mulF : OpR X (binaryOp .Mult) (rF2 X.K gMul) := by
  intro pins s σ H x y v u Q I rx ry ⟨A, a, b, d, t, pa, pb, e, q⟩
  cases a with
  | int i =>
    cases b with
    | int j =>
      obtain ⟨hz, rfl⟩ := ite_d (x := .int (i * j)) e
      rw [pa.int] at rx
      rw [pb.int] at ry
      obtain ⟨t1, rfl⟩ := rx
      obtain ⟨t2, rfl⟩ := ry
      exact mul_int ⟨.int (i * j), H, I.tok _, ⟨_, rfl⟩, q _ _ (Same.refl _) (.int _) (no_fr fun _ => nofun)⟩ (okMul_ok hz)
    | _ => cases e
  | lst xs =>
    cases b with
    | int k =>
      obtain ⟨hz, rfl⟩ := ite_d (x := .lst (List.replicate k.toNat xs).flatten) e
      obtain ⟨a1, x1, rfl, ha, da⟩ := pa.lst
      rw [pb.int] at ry
      refine op_rep pins s σ H _ _ v u Q I rx ry ⟨_, k, _, rfl, rfl, ha, hz.1, hz.2.1, by rw [da.length]; exact hz.2.2, fun p hp => ?_⟩
      exact q _ _ (same_upd hp) (new_lst t (da.rep _) hp) (new_fr t (da.rep _) hp)
    | _ => cases e
  | _ => cases b <;> cases e
theorem od_mul : OpR X (binaryOp .Mult) (rD2 X.K gMul) := OpR.weak od_mulF
theorem od_div : OpR X (binaryOp .FloorDiv) (rD2 X.K gDiv) := by
  intro pins s σ H x y v u Q I rx ry ⟨A, a, b, d, t, pa, pb, e, q⟩
  cases a with
  | int i =>
    cases b with
    | int j =>
      obtain ⟨hz, rfl⟩ := ite_d (x := .int (i.fdiv j)) e
      rw [pa.int] at rx
      rw [pb.int] at ry
      obtain ⟨t1, rfl⟩ := rx
      obtain ⟨t2, rfl⟩ := ry
      exact floordiv_int hz.1 ⟨.int (i.fdiv j), H, I.tok _, ⟨_, rfl⟩, q _ _ (Same.refl _) (.int _)⟩ (.inl (PyProof.noPylong_of_log2 hz.2))
    | _ => cases e
  | _ => cases b <;> cases e
theorem od_mod : OpR X (binaryOp .Mod) (rD2 X.K gMod) := by
  intro pins s σ H x y v u Q I rx ry ⟨A, a, b, d, t, pa, pb, e, q⟩
  cases a with
  | int i =>
    cases b with
    | int j =>
      obtain ⟨hz, rfl⟩ := ite_d (x := .int (i.fmod j)) e
      rw [pa.int] at rx
      rw [pb.int] at ry
      exact op_modN pins s σ H _ _ v u Q I rx ry ⟨i, j, rfl, rfl, hz, q _ _ (Same.refl _) (.int _)⟩
    | _ => cases e
  | _ => cases b <;> cases e
theorem od_pow : OpR X (binaryOp .Pow) (rD2 X.K gPow) := by
  intro pins s σ H x y v u Q I rx ry ⟨A, a, b, d, t, pa, pb, e, q⟩
  cases a with
  | int i =>
    cases b with
    | int j =>
      obtain ⟨hz, rfl⟩ := ite_d (x := .int (i ^ j.toNat)) e
      rw [pa.int] at rx
      rw [pb.int] at ry
      exact op_pow pins s σ H _ _ v u Q I rx ry ⟨i, j, rfl, rfl, hz, q _ _ (Same.refl _) (.int _)⟩
    | _ => cases e
  | _ => cases b <;> cases e
theorem ud_neg : UnR X (unaryOp .USub) (rD1 X.K gNeg) := by
  intro pins s σ H x v Q I rx ⟨A, a, d, t, pa, e, q⟩
  cases a with
  | int i =>
    cases e
    rw [pa.int] at rx
    exact un_neg pins s σ H _ v Q I rx ⟨i, rfl, q _ _ (Same.refl _) (.int _)⟩
  | _ => cases e
theorem od_lt : OpR X (compareOp .Lt) (rD2 X.K gLt) := by
  intro pins s σ H x y v u Q I rx ry ⟨A, a, b, d, t, pa, pb, e, q⟩
  cases a with
  | int i =>
    cases b with
    | int j =>
      cases e
      rw [pa.int] at rx
      rw [pb.int] at ry
      exact op_lt pins s σ H _ _ v u Q I rx ry ⟨i, j, rfl, rfl, q _ _ (Same.refl _) (.bl _)⟩
    | _ => cases e
  | str i =>
    cases b with
    | str j =>
      cases e
      rw [pa.str] at rx
      rw [pb.str] at ry
      exact op_lt_str pins s σ H _ _ v u Q I rx ry ⟨i, j, rfl, rfl, q _ _ (Same.refl _) (.bl _)⟩
    | _ => cases e
  | _ => cases b <;> cases e
theorem od_gt : OpR X (compareOp .Gt) (rD2 X.K gGt) := by
  intro pins s σ H x y v u Q I rx ry ⟨A, a, b, d, t, pa, pb, e, q⟩
  cases a with
  | int i =>
    cases b with
    | int j =>
      cases e
      rw [pa.int] at rx
      rw [pb.int] at ry
      exact op_gt pins s σ H _ _ v u Q I rx ry ⟨i, j, rfl, rfl, q _ _ (Same.refl _) (.bl _)⟩
    | _ => cases e
  | str i =>
    cases b with
    | str j =>
      cases e
      rw [pa.str] at rx
      rw [pb.str] at ry
      exact op_gt_str pins s σ H _ _ v u Q I rx ry ⟨i, j, rfl, rfl, q _ _ (Same.refl _) (.bl _)⟩
    | _ => cases e
  | _ => cases b <;> cases e
theorem od_le : OpR X (compareOp .LtE) (rD2 X.K gLe) := by
  intro pins s σ H x y v u Q I rx ry ⟨A, a, b, d, t, pa, pb, e, q⟩
  cases a with
  | int i =>
    cases b with
    | int j =>
      cases e
      rw [pa.int] at rx
      rw [pb.int] at ry
      exact op_le pins s σ H _ _ v u Q I rx ry ⟨i, j, rfl, rfl, q _ _ (Same.refl _) (.bl _)⟩
    | _ => cases e
  | str i =>
    cases b with
    | str j =>
      cases e
      rw [pa.str] at rx
      rw [pb.str] at ry
      exact op_le_str pins s σ H _ _ v u Q I rx ry ⟨i, j, rfl, rfl, q _ _ (Same.refl _) (.bl _)⟩
    | _ => cases e
  | _ => cases b <;> cases e
theorem od_ge : OpR X (compareOp .GtE) (rD2 X.K gGe) := by
  intro pins s σ H x y v u Q I rx ry ⟨A, a, b, d, t, pa, pb, e, q⟩
  cases a with
  | int i =>
    cases b with
    | int j =>
      cases e
      rw [pa.int] at rx
      rw [pb.int] at ry
      exact op_ge pins s σ H _ _ v u Q I rx ry ⟨i, j, rfl, rfl, q _ _ (Same.refl _) (.bl _)⟩
    | _ => cases e
  | str i =>
    cases b with
    | str j =>
      cases e
      rw [pa.str] at rx
      rw [pb.str] at ry
      exact op_ge_str pins s σ H _ _ v u Q I rx ry ⟨i, j, rfl, rfl, q _ _ (Same.refl _) (.bl _)⟩
    | _ => cases e
  | _ => cases b <;> cases e

mutual
theorem Rp.dp {K : PySem.W.Frag} {A : Addr → Prop} {H : Hp} : ∀ {v : V} {d : D} {x : PyData}, Rp K A H v d → d.py = some x → Dp K H v x
  | _, _, _, .non, e => by cases e; exact .non
  | _, _, _, .bl b, e => by cases e; exact .bl b
  | _, _, _, .int i, e => by cases e; exact .int i
  | _, _, _, .str i, e => by cases e; exact .str i
  | _, .tup ds, _, .tup h q, e => by
    unfold D.py at e
    cases hp : pyAll ds with
    | none => rw [hp] at e; cases e
    | some ys => rw [hp] at e; cases e; exact .tup h.sq (RpA.dp q hp)
  | _, .lst ds, _, .lst h n q, e => by
    unfold D.py at e
    cases hp : pyAll ds with
    | none => rw [hp] at e; cases e
    | some ys => rw [hp] at e; cases e; exact .lst (SqL.of h) (RpA.dp q hp)
  | _, _, _, .scr _ _, e => by unfold D.py at e; cases e
  | _, _, _, .fn _, e => by unfold D.py at e; cases e
  | _, _, _, .obj _ _ _, e => by unfold D.py at e; cases e
theorem RpA.dp {K : PySem.W.Frag} {A : Addr → Prop} {H : Hp} : ∀ {v : List V} {d : List D} {x : List PyData}, RpA K A H v d → pyAll d = some x → DpAll K H v x
  | _, _, _, .nil, e => by cases e; exact .nil
  | _, d :: ds, _, .cons h q, e => by
    unfold pyAll at e
    cases h1 : d.py with
    | none => rw [h1] at e; cases e
    | some y =>
      rw [h1] at e
      cases h2 : pyAll ds with
      | none => rw [h2] at e; cases e
      | some ys => rw [h2] at e; cases e; exact .cons (Rp.dp h h1) (RpA.dp q h2)
end
theorem RpB.dp {K : PySem.W.Frag} {A : Addr → Prop} {H : Hp} {v : V} {d : D} {x : PyData} (h : RpB K A H v d) (e : d.py = some x) : Dp K H v x := by
  cases h with
  | of h => exact h.dp e
  | @own p ws cs h q =>
    unfold D.py at e
    cases hp : pyAll cs with
    | none => rw [hp] at e; cases e
    | some ys => rw [hp] at e; cases e; exact .lst (SqL.of h) (RpA.dp q hp)
theorem eqD_some {a b : D} {k : Bool} (e : eqD a b = some k) : (∃ i j, a = .int i ∧ b = .int j ∧ k = decide (i = j)) ∨ (∃ i j, a = .str i ∧ b = .str j ∧ k = decide (i = j)) ∨ (∃ i j, a = .bl i ∧ b = .bl j ∧ k = decide (i = j)) ∨ (a = .non ∧ b = .non ∧ k = true) ∨
    ∃ x y, a.py = some x ∧ b.py = some y ∧ SeqAt.shaped x = true ∧ SeqAt.shaped y = true ∧ k = PyData.eqv x y := by
  unfold eqD at e
  split at e
  · cases e; exact .inl ⟨_, _, rfl, rfl, rfl⟩
  · cases e; exact .inr (.inl ⟨_, _, rfl, rfl, rfl⟩)
  · cases e; exact .inr (.inr (.inl ⟨_, _, rfl, rfl, rfl⟩))
  · cases e; exact .inr (.inr (.inr (.inl ⟨rfl, rfl, rfl⟩)))
  · split at e
    · rename_i x y hx hy
      split at e
      · rename_i hs
        cases e
        exact .inr (.inr (.inr (.inr ⟨x, y, hx, hy, hs.1, hs.2, rfl⟩)))
      · cases e
    · cases e
theorem map_some {α β : Type} {o : Option α} {f : α → β} {z : β} (e : o.map f = some z) : ∃ k, o = some k ∧ z = f k := by
  cases o with
  | none => cases e
  | some k => cases e; exact ⟨k, rfl, rfl⟩
theorem decI {i j : Int} : decide (V.int i = V.int j) = decide (i = j) := by rw [decide_eq_decide]; simp
theorem decS {i j : Str} : decide (V.str i = V.str j) = decide (i = j) := by rw [decide_eq_decide]; simp
theorem decB {i j : Bool} : decide (V.bl i = V.bl j) = decide (i = j) := by rw [decide_eq_decide]; simp
theorem od_eq (hu : X.A.units + 64 < cLine) : OpR X (compareOp .Eq) (rD2 X.K gEq) := by
  intro pins s σ H x y v u Q I rx ry ⟨A, a, b, d, t, pa, pb, e, q⟩
  obtain ⟨k, e2, rfl⟩ := map_some e
  rcases eqD_some e2 with ⟨i, j, rfl, rfl, rfl⟩ | ⟨i, j, rfl, rfl, rfl⟩ | ⟨i, j, rfl, rfl, rfl⟩ | ⟨rfl, rfl, rfl⟩ | ⟨x', y', hx, hy, sx, sy, rfl⟩
  · rw [pa.int] at rx; rw [pb.int] at ry
    exact op_eq pins s σ H _ _ v u Q I rx ry ⟨rfl, by rw [decI]; exact q _ _ (Same.refl _) (.bl _)⟩
  · rw [pa.str] at rx; rw [pb.str] at ry
    exact op_eq pins s σ H _ _ v u Q I rx ry ⟨rfl, by rw [decS]; exact q _ _ (Same.refl _) (.bl _)⟩
  · rw [pa.bl] at rx; rw [pb.bl] at ry
    exact op_eq pins s σ H _ _ v u Q I rx ry ⟨rfl, by rw [decB]; exact q _ _ (Same.refl _) (.bl _)⟩
  · rw [pa.non] at rx; rw [pb.non] at ry
    exact op_eq pins s σ H _ _ v u Q I rx ry ⟨rfl, q _ _ (Same.refl _) (.bl _)⟩
  · exact op_eqD hu pins s σ H _ _ v u Q I rx ry ⟨x', y', pa.dp hx, pb.dp hy, sx, sy, q _ _ (Same.refl _) (.bl _)⟩
theorem od_ne (hu : X.A.units + 64 < cLine) : OpR X (compareOp .NotEq) (rD2 X.K gNe) := by
  intro pins s σ H x y v u Q I rx ry ⟨A, a, b, d, t, pa, pb, e, q⟩
  obtain ⟨k, e2, rfl⟩ := map_some e
  rcases eqD_some e2 with ⟨i, j, rfl, rfl, rfl⟩ | ⟨i, j, rfl, rfl, rfl⟩ | ⟨i, j, rfl, rfl, rfl⟩ | ⟨rfl, rfl, rfl⟩ | ⟨x', y', hx, hy, sx, sy, rfl⟩
  · rw [pa.int] at rx; rw [pb.int] at ry
    exact op_ne pins s σ H _ _ v u Q I rx ry ⟨rfl, by rw [decI]; exact q _ _ (Same.refl _) (.bl _)⟩
  · rw [pa.str] at rx; rw [pb.str] at ry
    exact op_ne pins s σ H _ _ v u Q I rx ry ⟨rfl, by rw [decS]; exact q _ _ (Same.refl _) (.bl _)⟩
  · rw [pa.bl] at rx; rw [pb.bl] at ry
    exact op_ne pins s σ H _ _ v u Q I rx ry ⟨rfl, by rw [decB]; exact q _ _ (Same.refl _) (.bl _)⟩
  · rw [pa.non] at rx; rw [pb.non] at ry
    exact op_ne pins s σ H _ _ v u Q I rx ry ⟨rfl, q _ _ (Same.refl _) (.bl _)⟩
  · exact op_neD hu pins s σ H _ _ v u Q I rx ry ⟨x', y', pa.dp hx, pb.dp hy, sx, sy, q _ _ (Same.refl _) (.bl _)⟩
theorem isNon_dec {K : PySem.W.Frag} {A : Addr → Prop} {H : Hp} {x : V} {a : D} (h : RpB K A H x a) : decide (x = V.non) = isNon a := by
  cases h with
  | of h => cases h <;> simp [isNon]
  | own _ _ => simp [isNon]
theorem od_is : OpR X (compareOp .Is) (rD2 X.K gIs) := by
  intro pins s σ H x y v u Q I rx ry ⟨A, a, b, d, t, pa, pb, e, q⟩
  cases b with
  | non =>
    have e' : some (D.bl (isNon a)) = some d := by
      rw [← e]
      cases a <;> rfl
    cases e'
    rw [pb.non] at ry
    exact op_isN pins s σ H _ _ v u Q I rx ry ⟨rfl, by rw [isNon_dec pa]; exact q _ _ (Same.refl _) (.bl _)⟩
  | bl k =>
    cases a with
    | bl j =>
      cases e
      rw [pa.bl] at rx
      rw [pb.bl] at ry
      exact op_isBl pins s σ H _ _ v u Q I rx ry ⟨j, k, rfl, rfl, q _ _ (Same.refl _) (.bl _)⟩
    | _ => cases e
  | _ => cases a <;> cases e
theorem od_isnot : OpR X (compareOp .IsNot) (rD2 X.K gIsNot) := by
  intro pins s σ H x y v u Q I rx ry ⟨A, a, b, d, t, pa, pb, e, q⟩
  cases b with
  | non =>
    have e' : some (D.bl (!isNon a)) = some d := by
      rw [← e]
      cases a <;> rfl
    cases e'
    rw [pb.non] at ry
    exact op_notN pins s σ H _ _ v u Q I rx ry ⟨rfl, by rw [isNon_dec pa]; exact q _ _ (Same.refl _) (.bl _)⟩
  | bl k =>
    cases a with
    | bl j =>
      cases e
      rw [pa.bl] at rx
      rw [pb.bl] at ry
      exact op_notBl pins s σ H _ _ v u Q I rx ry ⟨j, k, rfl, rfl, q _ _ (Same.refl _) (.bl _)⟩
    | _ => cases e
  | _ => cases a <;> cases e
theorem inD_some {a l : D} {k : Bool} (e : inD a l = some k) : (∃ x y, a = .str x ∧ l = .str y ∧ k = inStr x y) ∨
    ∃ ds x ys, l = .lst ds ∧ a.py = some x ∧ pyAll ds = some ys ∧ SeqAt.shaped x = true ∧ SeqAt.shaped (.list ys) = true ∧ k = ys.any fun z => PyData.eqv z x := by
  unfold inD at e
  split at e
  · cases e; exact .inl ⟨_, _, rfl, rfl, rfl⟩
  · split at e
    · rename_i x y hx hy
      split at e
      · rename_i hs
        cases e
        exact .inr ⟨_, x, y, rfl, hx, hy, hs.1, hs.2, rfl⟩
      · cases e
    · cases e
  · cases e
theorem od_in (hu : X.A.units + 65 < cLine) : OpR X (compareOp .In) (rD2 X.K gIn) := by
  intro pins s σ H x y v u Q I rx ry ⟨A, a, b, d, t, pa, pb, e, q⟩
  obtain ⟨k, e2, rfl⟩ := map_some e
  rcases inD_some e2 with ⟨i, j, rfl, rfl, rfl⟩ | ⟨ds, x', ys, rfl, hx, hy, sx, sy, rfl⟩
  · rw [pa.str] at rx; rw [pb.str] at ry
    exact op_in_str pins s σ H _ _ v u Q I rx ry ⟨i, j, rfl, rfl, q _ _ (Same.refl _) (.bl _)⟩
  · exact op_inD hu pins s σ H _ _ v u Q I rx ry ⟨x', ys, pa.dp hx, pb.dp (by unfold D.py; rw [hy]; rfl), sx, sy, q _ _ (Same.refl _) (.bl _)⟩
theorem od_notin (hu : X.A.units + 65 < cLine) : OpR X (compareOp .NotIn) (rD2 X.K gNotIn) := by
  intro pins s σ H x y v u Q I rx ry ⟨A, a, b, d, t, pa, pb, e, q⟩
  obtain ⟨k, e2, rfl⟩ := map_some e
  rcases inD_some e2 with ⟨i, j, rfl, rfl, rfl⟩ | ⟨ds, x', ys, rfl, hx, hy, sx, sy, rfl⟩
  · rw [pa.str] at rx; rw [pb.str] at ry
    exact op_notIn_str pins s σ H _ _ v u Q I rx ry ⟨i, j, rfl, rfl, q _ _ (Same.refl _) (.bl _)⟩
  · exact op_notInD hu pins s σ H _ _ v u Q I rx ry ⟨x', ys, pa.dp hx, pb.dp (by unfold D.py; rw [hy]; rfl), sx, sy, q _ _ (Same.refl _) (.bl _)⟩
end
end DL
namespace DL
open L2 PySem PySem.Spec PyProof.Rows

theorem ite2' {c : Bool} {P Q : Prop} (h1 : c = true → P) (h2 : c = false → Q) : if c = true then P else Q := by
  cases c
  · exact h2 rfl
  · exact h1 rfl
section
variable {X : Cx} {G : Gd} {O : List Nat} {W : WX} {a b c e : Expr} {es : List Expr} {ma mb mc : ME} {pos : Pos}
theorem de_var (i : Nat) {x : Str} {pos : Pos} (hO : O.contains i = false) (hN : X.N[i]? = some x) (hv : Vis X.env.scope x) (hd : (x == ("__debug__" : Str)) = false := by decide)
    (hcd : (x == ("__classdict__" : Str)) = false := by decide) : DE X G O W (.Name x pos) (mVar i) := by
  refine pe_imp (pe_var hN hv hd hcd) fun σ H Q ⟨A, ms, ρ, R, q⟩ => ?_
  unfold mVar at q
  split at q
  · rename_i d h
    obtain ⟨v, h1, h2⟩ := R.fz i d h fun z => by rw [List.contains_iff_mem.mpr z] at hO; cases hO
    exact ⟨v, h1, q v H R Kp.refl h2⟩
  · exact q.elim
theorem de_c {e : Expr} {v : V} {d : D} (h : PE X e (tC v)) (r : ∀ A H, Rp X.K A H v d) : DE X G O W e (mK d) :=
  pe_imp h fun σ H Q ⟨A, ms, ρ, R, q⟩ => q v H R Kp.refl (r A H)
theorem de_int {i j pos} : DE X G O W (.Constant (.int i) j pos) (mK (.int i)) := de_c pe_int fun _ _ => .int i
theorem de_bl {b j pos} : DE X G O W (.Constant (.bool b) j pos) (mK (.bl b)) := de_c pe_bl fun _ _ => .bl b
theorem de_non {j pos} : DE X G O W (.Constant .none j pos) (mK .non) := de_c pe_non fun _ _ => .non
theorem de_str {x j pos} : DE X G O W (.Constant (.str x) j pos) (mK (.str x)) := de_c pe_str fun _ _ => .str x
theorem de_fn {x : Str} (hg : Gl X x) (hm : X.mg x = some (.ref (He.ga X.K x))) (hd : (x == ("__debug__" : Str)) = false := by decide) : DE X G O W (.Name x pos) (mK (.fn x)) := de_c (v := .ref (He.ga X.K x)) (pe_glob hg hm rfl hd) fun _ _ => .fn x

theorem rp_of {α : Type} {g : Option α} {ρ : En} {K : PySem.W.Frag} {A : Addr → Prop} {ms : Nat → Option Addr} {σ : L2.St} {H : Hp} {β : Type} {rel : Hp → β → α → Prop} {Q : β → Hp → Prop} (R : RelS K G O A ms σ H ρ)
    (h : RPost K G O W A ms σ H rel Q (ret g ρ)) : ∃ d, g = some d ∧ ∀ v H', Same H H' → rel H' v d → Q v H' := by
  cases g with
  | none => exact h.elim
  | some d => exact ⟨d, rfl, fun v H' s r => h v H' (R.same s) (Kp.same s) r⟩
theorem de_un {op : UnaryOp} {g : D → Option D} (ho : UnR X (unaryOp op) (rD1 X.K g)) (ha : DE X G O W a ma) : DE X G O W (.UnaryOp op a pos) (m1 g ma) := by
  refine pe_imp (pe_un ho ha) fun σ H Q ⟨A, ms, ρ, R, q⟩ => ?_
  refine ⟨A, ms, ρ, R, q.bind.mono ?_⟩
  rintro x H1 ⟨d, ρ1, R1, k1, r1, q1⟩
  obtain ⟨z, hz, q2⟩ := rp_of R1 q1
  exact ⟨A, d, z, R1.trk, .of r1, hz, q2⟩
theorem op2_go {r : R2} {g : D → D → Option D} {K : PySem.W.Frag} (hr : ∀ x y H Q, rD2 K g x y H Q → r x y H Q) {σ : L2.St} {H : Hp} {Q : VK} (h : tE K G O W (m2 g ma mb) σ H Q) : tOp r (tE K G O W ma) (tE K G O W mb) σ H Q := by
  obtain ⟨A, ms, ρ, R, q⟩ := h
  refine ⟨A, ms, ρ, R, q.bind.mono ?_⟩
  rintro x H1 ⟨d, ρ1, R1, k1, r1, q1⟩
  refine ⟨A, ms, ρ1, R1, q1.bind.mono ?_⟩
  rintro y H2 ⟨d2, ρ2, R2', k2, r2, q2⟩
  obtain ⟨z, hz, q3⟩ := rp_of R2' q2
  exact hr _ _ _ _ ⟨A, d, d2, z, R2'.trk, .of (r1.tr (R1.kt k2)), .of r2, hz, q3⟩
theorem de_bin {op : Operator} {g : D → D → Option D} (ho : OpR X (binaryOp op) (rD2 X.K g)) (ha : DE X G O W a ma) (hb : DE X G O W b mb) : DE X G O W (.BinOp a op b pos) (m2 g ma mb) :=
  pe_imp (pe_op ho ha hb) fun _ _ _ h => op2_go (fun _ _ _ _ z => z) h
theorem de_cmp {op : CmpOp} {g : D → D → Option D} (ho : OpR X (compareOp op) (rD2 X.K g)) (ha : DE X G O W a ma) (hb : DE X G O W b mb) (hm : behindInMarks op b = false) : DE X G O W (.Compare a [op] [b] pos) (m2 g ma mb) :=
  pe_imp (pe_cmpR ho ha hb hm) fun _ _ _ h => op2_go (fun _ _ _ _ z => z) h
theorem de_ix {g : D → D → Option D} (hr : IxR X (rD2 X.K g)) (ha : DE X G O W a ma) (hb : DE X G O W b mb) (hs : PlainIx b) : DE X G O W (.Subscript a b pos) (m2 g ma mb) :=
  pe_imp (pe_ix hr ha hb hs) fun _ _ _ h => op2_go (fun _ _ _ _ z => z) h
theorem tru_ok' {K : PySem.W.Frag} {A : Addr → Prop} {H : Hp} {x : V} {d : D} {k : Bool} (h : Rp K A H x d) (e : tru d = some k) : TruV K x H k := by
  cases h with
  | non => cases e; rfl
  | bl b => cases e; rfl
  | int i => cases e; rfl
  | str y =>
    have e' : (if y.length ≤ sizeLine then some ((y.length : Int) != 0) else none) = some k := e
    split at e'
    · rename_i hz
      cases e'
      exact ⟨hz, rfl⟩
    · cases e'
  | tup h q =>
    cases e
    refine .inr (.inl ⟨_, h.sq, ?_⟩)
    have := q.nil_iff
    cases q <;> rfl
  | lst h n q =>
    cases e
    refine .inl ⟨_, SqL.of h, ?_⟩
    cases q <;> rfl
  | scr h q =>
    cases e
    refine .inl ⟨_, h.sq, ?_⟩
    cases q <;> rfl
  | fn _ => cases e
  | obj _ _ _ => cases e
theorem dt_tru (ha : DE X G O W a ma) (he : ∀ whole, isTrue a X.env whole = (do let v ← whole; standAt a.pos; holding [v] (truthy v)) := by intro _; rfl) : DT X G O W a (mTru ma) := by
  refine pt_imp (pt_truth ha he) fun σ H Q ⟨A, ms, ρ, R, q⟩ => ?_
  refine ⟨A, ms, ρ, R, q.bind.mono ?_⟩
  rintro x H1 ⟨d, ρ1, R1, k1, r1, q1⟩
  obtain ⟨z, hz, q2⟩ := rp_of R1 q1
  exact ⟨z, tru_ok' r1 hz, q2 z H1 (Same.refl _) rfl⟩
def asB : D → Option Bool
  | .bl b => some b
  | _ => none
def mTest (m : ME) : MT := fun ρ => (m ρ).bind fun x ρ1 => ret (asB x) ρ1
theorem test_go {t : TE} {m : ME} {K : PySem.W.Frag} (ht : ∀ σ H Q, tE K G O W m σ H Q → t σ H Q) {σ : L2.St} {H : Hp} {Q : Bool → Hp → Prop} (h : tT K G O W (mTest m) σ H Q) : tTest t σ H Q := by
  obtain ⟨A, ms, ρ, R, q⟩ := h
  refine ht _ _ _ ⟨A, ms, ρ, R, q.bind.mono ?_⟩
  rintro x H1 ⟨d, ρ1, R1, k1, r1, q1⟩
  obtain ⟨z, hz, q2⟩ := rp_of R1 q1
  cases d with
  | bl k =>
    cases hz
    cases r1
    exact ⟨_, rfl, q2 _ H1 (Same.refl _) rfl⟩
  | _ => cases hz
theorem dt_cmp {op : CmpOp} {g : D → D → Option D} (ho : OpR X (compareOp op) (rD2 X.K g)) (ha : DE X G O W a ma) (hb : DE X G O W b mb) (hm : behindInMarks op b = false) : DT X G O W (.Compare a [op] [b] pos) (mTest (m2 g ma mb)) :=
  pt_imp (pt_cmpR ho ha hb hm) fun _ _ _ h => test_go (fun _ _ _ z => op2_go (fun _ _ _ _ z => z) z) h
theorem chain_go {g g' : D → D → Option D} {K : PySem.W.Frag} {σ : L2.St} {H : Hp} {Q : VK} (h : tE K G O W (mChain g g' ma mb mc) σ H Q) : tChain (rD2 K g) (rD2 K g') (tE K G O W ma) (tE K G O W mb) (tE K G O W mc) σ H Q := by
  obtain ⟨A, ms, ρ, R, q⟩ := h
  refine ⟨A, ms, ρ, R, q.bind.mono ?_⟩
  rintro x H1 ⟨d, ρ1, R1, k1, r1, q1⟩
  refine ⟨A, ms, ρ1, R1, q1.bind.mono ?_⟩
  rintro y H2 ⟨d2, ρ2, R2', k2, r2, q2⟩
  obtain ⟨z, hz, q3⟩ := rp_of (rel := Rp K A) R2' q2.bind
  refine ⟨A, d, d2, z, R2'.trk, .of (r1.tr (R1.kt k2)), .of r2, hz, fun v H3 s r => ?_⟩
  obtain ⟨d3, ρ3, R3, k3, r3, q4⟩ := q3 v H3 s r
  cases d3 with
  | bl k =>
    cases r3
    refine ⟨_, rfl, ?_⟩
    cases k with
    | true =>
      rw [if_pos rfl]
      refine ⟨A, ms, ρ3, R3, RPost.mono (RPost.bind q4) ?_⟩
      rintro w H4 ⟨d4, ρ4, R4, k4, r4, q5⟩
      obtain ⟨z2, hz2, q6⟩ := rp_of R4 q5
      exact ⟨A, d2, d4, z2, R4.trk, .of ((r2.tr (R2'.kt k3)).tr (R3.kt k4)), .of r4, hz2, q6⟩
    | false =>
      rw [if_neg Bool.false_ne_true]
      exact q4 _ H3 R3 Kp.refl (.bl false)
  | _ => exact q4.elim
theorem de_chain {op op' : CmpOp} {g g' : D → D → Option D} (ho : OpR X (compareOp op) (rD2 X.K g)) (ho' : OpR X (compareOp op') (rD2 X.K g')) (ha : DE X G O W a ma) (hb : DE X G O W b mb) (hc : DE X G O W c mc)
    (hm : lastMarks [op, op'] [b, c] = false := by with_unfolding_all rfl) : DE X G O W (.Compare a [op, op'] [b, c] pos) (mChain g g' ma mb mc) :=
  pe_imp (pe_chain ho ho' ha hb hc hm) fun _ _ _ h => chain_go h
theorem dt_chain {op op' : CmpOp} {g g' : D → D → Option D} (ho : OpR X (compareOp op) (rD2 X.K g)) (ho' : OpR X (compareOp op') (rD2 X.K g')) (ha : DE X G O W a ma) (hb : DE X G O W b mb) (hc : DE X G O W c mc)
    (hm : lastMarks [op, op'] [b, c] = false := by with_unfolding_all rfl) : DT X G O W (.Compare a [op, op'] [b, c] pos) (mTest (mChain g g' ma mb mc)) :=
  pt_imp (pt_chain ho ho' ha hb hc hm) fun _ _ _ h => test_go (fun _ _ _ z => chain_go z) h

def DW (X : Cx) (G : Gd) (O : List Nat) (W : WX) (e : Expr) (m : MT) : Prop := PW X e (tT X.K G O W m)
variable {ta tb tc : MT} {rest : List Expr}
theorem DW.t (h : DW X G O W e ta) : DT X G O W e ta := PW.pt h
theorem dw_and1 (ha : DT X G O W a ta) : DW X G O W (.BoolOp .And [a] pos) ta := pw_and1 ha
theorem dw_or1 (ha : DT X G O W a ta) : DW X G O W (.BoolOp .Or [a] pos) ta := pw_or1 ha
theorem dw_and (ha : DT X G O W a ta) (hb : DW X G O W (.BoolOp .And (b :: rest) pos) tb) : DW X G O W (.BoolOp .And (a :: b :: rest) pos) (mAndT ta tb) := by
  refine pw_imp (pw_and ha hb) fun σ H Q ⟨A, ms, ρ, R, q⟩ => ?_
  refine ⟨A, ms, ρ, R, q.bind.mono ?_⟩
  rintro k H1 ⟨d, ρ1, R1, k1, rfl, q1⟩
  cases k with
  | true => exact ⟨A, ms, ρ1, R1, q1⟩
  | false => exact q1 _ H1 R1 Kp.refl rfl
theorem dw_or (ha : DT X G O W a ta) (hb : DW X G O W (.BoolOp .Or (b :: rest) pos) tb) : DW X G O W (.BoolOp .Or (a :: b :: rest) pos) (mOrT ta tb) := by
  refine pw_imp (pw_or ha hb) fun σ H Q ⟨A, ms, ρ, R, q⟩ => ?_
  refine ⟨A, ms, ρ, R, q.bind.mono ?_⟩
  rintro k H1 ⟨d, ρ1, R1, k1, rfl, q1⟩
  cases k with
  | true => exact q1 _ H1 R1 Kp.refl rfl
  | false => exact ⟨A, ms, ρ1, R1, q1⟩
theorem dt_not (ha : DT X G O W a ta) : DT X G O W (.UnaryOp .Not a pos) (mNotT ta) := by
  refine pt_imp (pt_not ha) fun σ H Q ⟨A, ms, ρ, R, q⟩ => ?_
  refine ⟨A, ms, ρ, R, q.bind.mono ?_⟩
  rintro k H1 ⟨d, ρ1, R1, k1, rfl, q1⟩
  exact q1 _ H1 R1 Kp.refl rfl
theorem de_if (hc : DT X G O W c tc) (ha : DE X G O W a ma) (hb : DE X G O W b mb) : DE X G O W (.IfExp c a b pos) (mIf tc ma mb) := by
  refine pe_imp (pe_ifExp hc ha hb) fun σ H Q ⟨A, ms, ρ, R, q⟩ => ?_
  refine ⟨A, ms, ρ, R, q.bind.mono ?_⟩
  rintro k H1 ⟨d, ρ1, R1, k1, rfl, q1⟩
  cases k with
  | true => exact ⟨A, ms, ρ1, R1, q1⟩
  | false => exact ⟨A, ms, ρ1, R1, q1⟩
theorem de_one {op} (ha : DE X G O W a ma) : DE X G O W (.BoolOp op [a] pos) ma := pe_one ha
theorem de_and (ha : DE X G O W a ma) (hb : DE X G O W (.BoolOp .And (b :: rest) pos) mb) : DE X G O W (.BoolOp .And (a :: b :: rest) pos) (mAnd ma mb) := by
  refine pe_imp (pe_andT ha hb) fun σ H Q ⟨A, ms, ρ, R, q⟩ => ?_
  refine ⟨A, ms, ρ, R, q.bind.mono ?_⟩
  rintro x H1 ⟨d, ρ1, R1, k1, r1, q1⟩
  obtain ⟨k, hk, q2⟩ := rp_of (rel := fun _ => @Eq Bool) R1 q1.bind
  obtain ⟨_, ρ2, R2', k2, rfl, q3⟩ := q2 k H1 (Same.refl _) rfl
  refine ⟨k, tru_ok' r1 hk, ?_⟩
  cases k with
  | true => exact ⟨A, ms, ρ2, R2', q3⟩
  | false => exact q3 _ H1 R2' Kp.refl r1
theorem de_or (ha : DE X G O W a ma) (hb : DE X G O W (.BoolOp .Or (b :: rest) pos) mb) : DE X G O W (.BoolOp .Or (a :: b :: rest) pos) (mOr ma mb) := by
  refine pe_imp (pe_orT ha hb) fun σ H Q ⟨A, ms, ρ, R, q⟩ => ?_
  refine ⟨A, ms, ρ, R, q.bind.mono ?_⟩
  rintro x H1 ⟨d, ρ1, R1, k1, r1, q1⟩
  obtain ⟨k, hk, q2⟩ := rp_of (rel := fun _ => @Eq Bool) R1 q1.bind
  obtain ⟨_, ρ2, R2', k2, rfl, q3⟩ := q2 k H1 (Same.refl _) rfl
  refine ⟨k, tru_ok' r1 hk, ?_⟩
  cases k with
  | true => exact q3 _ H1 R2' Kp.refl r1
  | false => exact ⟨A, ms, ρ2, R2', q3⟩
def gNot (d : D) : Option D := (tru d).map fun k => .bl (!k)
theorem de_not (ha : DE X G O W a ma) : DE X G O W (.UnaryOp .Not a pos) (m1 gNot ma) := by
  refine pe_imp (pe_notT ha) fun σ H Q ⟨A, ms, ρ, R, q⟩ => ?_
  refine ⟨A, ms, ρ, R, q.bind.mono ?_⟩
  rintro x H1 ⟨d, ρ1, R1, k1, r1, q1⟩
  obtain ⟨z, hz, q2⟩ := rp_of R1 q1
  obtain ⟨k, hk, rfl⟩ := map_some hz
  exact ⟨k, tru_ok' r1 hk, q2 _ H1 (Same.refl _) (.bl _)⟩

variable {mr : MA}
theorem da_nil : DA X G O W [] mNil := pa_imp pa_nil fun σ H Q ⟨A, ms, ρ, R, q⟩ => q [] H R Kp.refl .nil
theorem da_cons (ha : DE X G O W e ma) (hr : DA X G O W es mr) (hs : starEach (e :: es) X.env = (false, eval e X.env) :: starEach es X.env := by rfl) : DA X G O W (e :: es) (mCons ma mr) := by
  refine pa_imp (pa_cons ha hr hs) fun σ H Q ⟨A, ms, ρ, R, q⟩ => ?_
  refine ⟨A, ms, ρ, R, q.bind.mono ?_⟩
  rintro x H1 ⟨d, ρ1, R1, k1, r1, q1⟩
  refine ⟨A, ms, ρ1, R1, RPost.mono (RPost.bind q1) ?_⟩
  rintro xs H2 ⟨ds, ρ2, R2', k2, r2, q2⟩
  exact q2 _ H2 R2' Kp.refl (.cons (r1.tr (R1.kt k2)) r2)
theorem de_tup {x1} (h : DA X G O W es mr) : DE X G O W (.Tuple es x1 pos) (mN gTup mr) := by
  refine pe_imp (pe_tup h) fun σ H Q ⟨A, ms, ρ, R, q⟩ => ?_
  refine ⟨A, ms, ρ, R, q.bind.mono ?_⟩
  rintro xs H1 ⟨ds, ρ1, R1, k1, r1, q1⟩
  obtain ⟨z, hz, q2⟩ := rp_of R1 q1
  obtain ⟨hl, rfl⟩ := ite_d (x := .tup ds) hz
  exact ⟨by rw [r1.length]; exact hl, fun p hp => q2 _ _ (same_upd hp) (new_tup R1.trk r1 hp)⟩

def FPost (K : PySem.W.Frag) (G : Gd) (O : List Nat) (W : WX) (A : Addr → Prop) (ms : Nat → Option Addr) (σ : L2.St) (H : Hp) (Q : VK) : R D → Prop
  | .ok d ρ' => ∀ p H', RelS K G O A ms σ H' ρ' → RelS K G O (fun a => A a ∨ a = p) ms σ H' ρ' → Kp O ms H H' → H p = none → Own K (fun a => A a ∨ a = p) H' p d → Q (.ref p) H'
  | .ex x ρ' => ∀ dx H', RelS K G O A ms σ H' ρ' → Kp O ms H H' → XRel K A H' x dx → W (.ref (He.ga K x.c)) dx σ H'
  | .bad => False
def tF (K : PySem.W.Frag) (G : Gd) (O : List Nat) (W : WX) (m : ME) : TE := fun σ H Q => ∃ A ms ρ, RelS K G O A ms σ H ρ ∧ FPost K G O W A ms σ H Q (m ρ)
def DF (X : Cx) (G : Gd) (O : List Nat) (W : WX) (e : Expr) (m : ME) : Prop := PE X e (tF X.K G O W m)
theorem RelS.less {K : PySem.W.Frag} {A A' : Addr → Prop} {ms : Nat → Option Addr} {σ : L2.St} {H : Hp} {ρ : En} (R : RelS K G O A ms σ H ρ) (hs : ∀ a, A' a → A a) (h0 : ∀ a, G.A0 a → A' a) (ho : ∀ i p, i ∈ O → ms i = some p → A' p) : RelS K G O A' ms σ H ρ where
  sub := h0
  trk0 := R.trk0
  trk := fun a q => R.trk a (hs a q)
  keep := R.keep
  len := R.len
  fz := fun i d e n => let ⟨v, e1, q⟩ := R.fz i d e n; ⟨v, e1, q.tr fun a o z n => ⟨z, fun k => n (hs a k)⟩⟩
  ow := fun i d e n => let ⟨p, e0, e1, q⟩ := R.ow i d e n; ⟨p, e0, e1, q.tr (fun a o z n => ⟨z, fun k => n (hs a k)⟩) fun o z => z⟩
  inA := ho
  ok := R.ok
  dist := R.dist
  px := R.px
  io := R.io
theorem RelS.grow {K : PySem.W.Frag} {A : Addr → Prop} {ms : Nat → Option Addr} {σ : L2.St} {H H' : Hp} {ρ : En} {p : Addr} {o : HO} (R : RelS K G O A ms σ H ρ) (hp : H p = none) (s : Same H H') (hp' : H' p = some o) : RelS K G O (fun a => A a ∨ a = p) ms σ H' ρ := by
  have t : Tr A (fun a => A a ∨ a = p) H H' := fun a u e n => ⟨s _ _ e, fun z => z.elim n fun z => by rw [z, hp] at e; cases e⟩
  have R' := R.same s
  exact {
    sub := fun a q => .inl (R.sub a q)
    trk0 := R.trk0
    trk := fun a q => q.elim (R'.trk a) fun z => ⟨o, z ▸ hp'⟩
    keep := R'.keep
    len := R.len
    fz := fun i d e n => let ⟨v, e1, q⟩ := R.fz i d e n; ⟨v, e1, q.tr t⟩
    ow := fun i d e n => let ⟨q, e0, e1, w⟩ := R.ow i d e n; ⟨q, e0, e1, w.tr t fun o z => s _ _ z⟩
    inA := fun i q m e => .inl (R.inA i q m e)
    ok := R.ok
    dist := R.dist
    px := R.px
    io := R.io }
theorem RelS.msne {K : PySem.W.Frag} {A : Addr → Prop} {ms : Nat → Option Addr} {σ : L2.St} {H : Hp} {ρ : En} {p : Addr} (R : RelS K G O A ms σ H ρ) (hp : H p = none) : ∀ i ∈ O, ms i ≠ some p := fun i m z => by
  obtain ⟨o, e⟩ := R.trk p (R.inA i p m z)
  rw [hp] at e
  cases e
theorem Kp.none {K : PySem.W.Frag} {A : Addr → Prop} {ms : Nat → Option Addr} {σ : L2.St} {H H1 : Hp} {ρ : En} {p : Addr} (R : RelS K G O A ms σ H1 ρ) (k : Kp O ms H H1) (hp : H1 p = none) : H p = none := by
  cases e : H p with
  | none => rfl
  | some o =>
    have := k p o e (R.msne hp)
    rw [hp] at this
    cases this
theorem new_own {K : PySem.W.Frag} {A : Addr → Prop} {H : Hp} {p : Addr} {xs : List V} {ds : List D} (t : Trk A H) (h : RpA K A H xs ds) (hp : H p = none) : Own K (fun a => A a ∨ a = p) (upd H p (.lst xs)) p (.lst ds) :=
  .lst upd_same (h.tr fun a u e n => ⟨same_upd hp _ _ e, fun z => z.elim n fun z => by rw [z, hp] at e; cases e⟩)
theorem DF.toE {e : Expr} {m : ME} (h : DF X G O W e m) : DE X G O W e m := by
  refine pe_imp h fun σ H Q ⟨A, ms, ρ, R, q⟩ => ⟨A, ms, ρ, R, ?_⟩
  cases hm : m ρ with
  | bad => rw [hm] at q; exact q.elim
  | ex x ρ1 => rw [hm] at q; exact q
  | ok d ρ1 =>
    rw [hm] at q
    intro p H' R' _ k hp ow
    have np : ¬ A p := Trk.no (fun a z => R.trk a z) hp
    exact q (.ref p) H' R' k (ow.freeze (fun a z => .inl z) np)
theorem df_lst {es : List Expr} {mr : MA} (h : DA X G O W es mr) : DF X G O W (.List es pos) (mN gLst mr) := by
  refine pe_imp (pe_lst h) fun σ H Q ⟨A, ms, ρ, R, q⟩ => ⟨A, ms, ρ, R, ?_⟩
  unfold mN at q
  cases hm : mr ρ with
  | bad => rw [hm] at q; exact q.elim
  | ex x ρ1 => rw [hm] at q; exact q
  | ok ds ρ1 =>
    rw [hm] at q
    intro xs H1 R1 k1 r1
    have q' : FPost X.K G O W A ms σ H Q (ret (gLst ds) ρ1) := q
    unfold gLst at q'
    split at q'
    · rename_i hz
      refine ⟨by rw [r1.length]; exact hz, fun p hp => ?_⟩
      refine q' p _ (R1.same (same_upd hp)) (R1.grow hp (same_upd hp) upd_same) (k1.trans (Kp.same (same_upd hp))) ?_ (new_own R1.trk r1 hp)
      exact Kp.none R1 k1 hp
    · exact q'.elim
end
end DL
namespace DL
open L2 PySem PySem.Spec PyProof.Rows

inductive Out where
  | nx (r : En) | rt (d : D) (r : En) | bk (r : En) | ct (r : En) | ex (x : Xn) (r : En) | bad
abbrev MS := En → Out
inductive Ret where
  | rt (d o : D) | ex (x : Xn) (o : D) | bad
abbrev FN := List D → Ret

def RetR (K : PySem.W.Frag) (A : Addr → Prop) (fr : Bool) (H H' : Hp) (q : Option Addr) (v : V) (d o : D) : Prop :=
  if fr = true then ∃ r, v = .ref r ∧ H r = none ∧ Own K (fun a => A a ∨ a = r) H' r d ∧ ∀ p, q = some p → Own K (fun a => A a ∨ a = r) H' p o
  else Rp K A H' v d ∧ ∀ p, q = some p → Own K A H' p o
def KI (q : Option Addr) (H H' : Hp) : Prop := ∀ a o, H a = some o → q ≠ some a → H' a = some o
def ArgR (K : PySem.W.Frag) (A : Addr → Prop) (H : Hp) (q : Option Addr) (vs : List V) (ds : List D) : Prop :=
  match q with
  | none => RpA K A H vs ds
  | some p => ∃ vs' d ds', vs = .ref p :: vs' ∧ ds = d :: ds' ∧ A p ∧ Own K A H p d ∧ RpA K A H vs' ds'
def spD (K : PySem.W.Frag) (io fr : Bool) (F : FN) : Sp := fun vs H Q E => ∃ (A : Addr → Prop) (q : Option Addr) (ds : List D), Trk A H ∧ q.isSome = io ∧ ArgR K A H q vs ds ∧
  match F ds with
  | .rt d o => ∀ v H', KI q H H' → RetR K A fr H H' q v d o → Q v H'
  | .ex x o => ∀ dx H', KI q H H' → (∀ p, q = some p → Own K A H' p o) → XRel K A H' x dx → E (.ref (He.ga K x.c)) dx H'
  | .bad => False
structure FnG (P : Program) (w : World) (K : PySem.W.Frag) (mg : Str → Option Value) (base : Heap) (k : Nat) (f : Addr) (io fr : Bool) (F : FN) : Prop where
  run : ∀ (A : Around) (outer : List Env) (s : Shared) (H : Hp) (us : List Value) (vs : List V) (Q : VK) (E : XK), Room k A → A.guards = some [] → Env0 P w K mg base A outer s H → Vals vs us →
    spD K io fr F vs H Q E → codeAny (model P w) A (.call (.ref f) ⟨us, []⟩) (CR (L2.CX P w) outer P w H s Q E) s
  kp : PySem.W.keepIn K (.ref f) = true
theorem FnG.mono {P : Program} {w : World} {K : PySem.W.Frag} {mg : Str → Option Value} {base : Heap} {j k : Nat} {f : Addr} {io fr : Bool} {F : FN} (h : FnG P w K mg base j f io fr F) (l : j ≤ k) : FnG P w K mg base k f io fr F :=
  ⟨fun A outer s H us vs Q E hr => h.run A outer s H us vs Q E (hr.mono l), h.kp⟩

section
variable (K : PySem.W.Frag) (G : Gd)
def RetG (fr : Bool) (v : V) (H' : Hp) (d o : D) : Prop := KI G.io G.H0 H' ∧ RetR K G.A0 fr G.H0 H' G.io v d o
def io0 (ρ : En) : D := match ρ[0]? with
  | some (some d) => d
  | _ => .non
variable (XC : List Nat → Prop) (Ol O O' : List Nat) (W : WX) (fr : Bool) (A : Addr → Prop) (H : Hp)
def SPost (D0 : Ends) : Out → Prop
  | .nx ρ' => ∀ σ' H' A' ms', RelS K G O' A' ms' σ' H' ρ' → Tr A A' H H' → D0.nx σ' H'
  | .rt d ρ' => ∀ v H', RetG K G fr v H' d (io0 ρ') → D0.rt v H'
  | .bk ρ' => ∀ σ' H' A' ms', RelS K G Ol A' ms' σ' H' ρ' → Tr A A' H H' → D0.bk σ' H'
  | .ct ρ' => ∀ σ' H' A' ms', RelS K G Ol A' ms' σ' H' ρ' → Tr A A' H H' → D0.ct σ' H'
  | .ex x ρ' => ∀ dx σ' H' A' ms' O'', XC O'' → RelS K G O'' A' ms' σ' H' ρ' → Tr A A' H H' → XRel K A' H' x dx → W (.ref (He.ga K x.c)) dx σ' H'
  | .bad => False
def tS (m : MS) : TS := fun D0 σ H => ∃ A ms ρ, RelS K G O A ms σ H ρ ∧ SPost K G XC Ol O' W fr A H D0 (m ρ)
end
def DS (X : Cx) (G : Gd) (XC : List Nat → Prop) (Ol O O' : List Nat) (W : WX) (fr : Bool) (st : Stmt) (m : MS) : Prop := PS X st (tS X.K G XC Ol O O' W fr m)
def DSs (X : Cx) (G : Gd) (XC : List Nat → Prop) (Ol O O' : List Nat) (W : WX) (fr : Bool) (sts : List Stmt) (m : MS) : Prop := PSs X sts (tS X.K G XC Ol O O' W fr m)

theorem Tr.trans {A A1 A2 : Addr → Prop} {H H1 H2 : Hp} (a : Tr A A1 H H1) (b : Tr A1 A2 H1 H2) : Tr A A2 H H2 := fun x o e n => let ⟨e1, n1⟩ := a x o e n; b x o e1 n1
theorem Tr.refl {A : Addr → Prop} {H : Hp} : Tr A A H H := fun _ _ e n => ⟨e, n⟩
theorem SPost.from {K : PySem.W.Frag} {G : Gd} {XC : List Nat → Prop} {Ol O' : List Nat} {W : WX} {fr : Bool} {A A1 : Addr → Prop} {H H1 : Hp} {D0 : Ends} {r : Out} (t : Tr A A1 H H1) (h : SPost K G XC Ol O' W fr A H D0 r) : SPost K G XC Ol O' W fr A1 H1 D0 r := by
  cases r with
  | nx ρ => exact fun σ' H' A' ms' R k => h σ' H' A' ms' R (t.trans k)
  | rt d ρ => exact h
  | bk ρ => exact fun σ' H' A' ms' R k => h σ' H' A' ms' R (t.trans k)
  | ct ρ => exact fun σ' H' A' ms' R k => h σ' H' A' ms' R (t.trans k)
  | ex x ρ => exact fun dx σ' H' A' ms' O'' c R k => h dx σ' H' A' ms' O'' c R (t.trans k)
  | bad => exact h

def pad (n : Nat) (ds : List D) : En := ds.map some ++ List.replicate (n - ds.length) none
def runM (n np : Nat) (dd : List D) (fr : Bool) (m : MS) : FN := fun ds => if (ds ++ dd).length = np then match m (pad n (ds ++ dd)) with
  | .nx ρ => if fr = true then .bad else .rt .non (io0 ρ)
  | .rt d ρ => .rt d (io0 ρ)
  | .ex x ρ => .ex x (io0 ρ)
  | _ => .bad
  else .bad
theorem pad_get {n : Nat} {ds : List D} {i : Nat} {d : D} (h : (pad n ds)[i]? = some (some d)) : ds[i]? = some d := by
  unfold pad at h
  by_cases hi : i < ds.length
  · rw [List.getElem?_append_left (by rw [List.length_map]; exact hi), List.getElem?_map] at h
    cases e : ds[i]? with
    | none => rw [e] at h; cases h
    | some x => rw [e] at h; cases h; rfl
  · rw [List.getElem?_append_right (by rw [List.length_map]; omega), List.getElem?_replicate] at h
    split at h
    · cases h
    · cases h
theorem start_get {N : List Str} {vs : List V} {i : Nat} {v : V} (h : vs[i]? = some v) : (L2.start N vs)[i]? = some (some v) := by
  unfold L2.start
  have hi := (List.getElem?_eq_some_iff.mp h).1
  rw [List.getElem?_append_left (by rw [List.length_map]; exact hi), List.getElem?_map, h]
  rfl
theorem start_rel {K : PySem.W.Frag} {A : Addr → Prop} {H : Hp} {q : Option Addr} {N : List Str} {vs : List V} {ds : List D} {O : List Nat} {np : Nat} (t : Trk A H) (h : ArgR K A H q vs ds) (hn : ds.length = np) (hN : np ≤ N.length)
    (hO : ∀ i, i < np → i ∈ O → i = 0 ∧ q.isSome = true) (hq : q.isSome = true → 0 ∈ O) : RelS K ⟨A, H, q, none⟩ O A (fun i => if i = 0 then q else none) (L2.start N vs) H (pad N.length ds) := by
  have hl : vs.length = ds.length := by
    cases q with
    | none => exact RpA.length h
    | some p =>
      obtain ⟨vs', d, ds', rfl, rfl, _, _, r⟩ := h
      rw [List.length_cons, List.length_cons, r.length]
  have lt : ∀ {i : Nat} {d : D}, (pad N.length ds)[i]? = some (some d) → i < np := fun {i d} e => by
    have := (List.getElem?_eq_some_iff.mp (pad_get e)).1
    omega
  have at0 : ∀ {i : Nat} {p : Addr}, (if i = 0 then q else none) = some p → i = 0 ∧ q = some p := fun {i p} e => by
    by_cases h : i = 0
    · rw [if_pos h] at e; exact ⟨h, e⟩
    · rw [if_neg h] at e; cases e
  refine ⟨fun _ z => z, t, t, fun _ _ e _ => e, ?_, fun i d e n => ?_, fun i d e m => ?_, fun i p m e => ?_, fun i p m e => .inl (at0 e), fun i j p m m' e e' => (at0 e).1.trans (at0 e').1.symm, fun i a c e => ?_, fun p e => ?_⟩
  all_goals try (cases (show (none : Option (Nat × Addr × Str)) = some (_, _, _) from e); done)
  · unfold L2.start pad
    rw [List.length_append, List.length_append, List.length_map, List.length_map, List.length_replicate, List.length_replicate, hl]
  · have e1 := pad_get e
    cases q with
    | none =>
      obtain ⟨v, h1, h2⟩ := RpA.get h e1
      exact ⟨v, start_get h1, h2⟩
    | some p =>
      obtain ⟨vs', d0, ds', rfl, rfl, _, _, r⟩ := h
      cases i with
      | zero => exact absurd (hq rfl) n
      | succ i =>
        obtain ⟨v, h1, h2⟩ := r.get (i := i) (by simpa using e1)
        exact ⟨v, start_get (by simpa using h1), h2⟩
  · obtain ⟨rfl, z⟩ := hO i (lt e) m
    have e1 := pad_get e
    cases q with
    | none => cases z
    | some p =>
      obtain ⟨vs', d0, ds', rfl, rfl, ap, ow, r⟩ := h
      cases (show some d0 = some d from e1)
      exact ⟨p, rfl, start_get rfl, ow⟩
  · obtain ⟨_, z⟩ := at0 e
    cases q with
    | none => cases z
    | some p' =>
      cases z
      obtain ⟨vs', d0, ds', rfl, rfl, ap, ow, r⟩ := h
      exact ap
  · have e' : q = some p := e
    subst e'
    obtain ⟨vs', d0, ds', rfl, rfl, ap, ow, r⟩ := h
    refine ⟨hq rfl, ap, rfl, d0, ?_⟩
    unfold pad
    rfl
theorem RelS.ki {K : PySem.W.Frag} {G : Gd} {O : List Nat} {A : Addr → Prop} {ms : Nat → Option Addr} {σ : L2.St} {H : Hp} {ρ : En} (R : RelS K G O A ms σ H ρ) : KI G.io G.H0 H := R.keep
theorem RelS.ioOwn {K : PySem.W.Frag} {G : Gd} {O : List Nat} {A : Addr → Prop} {ms : Nat → Option Addr} {σ : L2.St} {H : Hp} {ρ : En} (R : RelS K G O A ms σ H ρ) {p : Addr} (e : G.io = some p) : Own K A H p (io0 ρ) := by
  obtain ⟨h1, h2, h3, d, h4⟩ := R.io p e
  obtain ⟨p', e0, _, w⟩ := R.ow 0 d h4 h1
  rw [h3] at e0
  cases e0
  unfold io0
  rw [h4]
  exact w
theorem Own.less {K : PySem.W.Frag} {A A' : Addr → Prop} {H : Hp} {p : Addr} {d : D} (h : Own K A H p d) (s : ∀ a, A' a → A a) : Own K A' H p d := h.tr (fun a o e n => ⟨e, fun z => n (s a z)⟩) fun _ z => z
theorem Rp.less {K : PySem.W.Frag} {A A' : Addr → Prop} {H : Hp} {v : V} {d : D} (h : Rp K A H v d) (s : ∀ a, A' a → A a) : Rp K A' H v d := h.tr fun a o e n => ⟨e, fun z => n (s a z)⟩

section
variable {P : Program} {w : World} {K : PySem.W.Frag} {mg : Str → Option Value} {base : Heap} {x qual : Str} {params : Arguments} {body : List Stmt} {scope : Scope} {dvs : List V} {kws : List (Str × V)} {f : Addr} {fd : FuncData}
theorem fnG_of {N ps : List Str} {k : Nat} {io fr : Bool} {ds : List Value} {dw : List V} {dd : List D} {O O' : List Nat} {m : MS} (F : FunD K x qual params body scope dvs kws f fd) (S : FnScope N ps scope) (hb : Binds K fd ps ds) (hd : Vals dw ds)
    (rd : ∀ A H, RpA K A H dw dd) (hN : ps.length ≤ N.length) (hO : ∀ i, i < ps.length → i ∈ O → i = 0 ∧ io = true) (hq : io = true → 0 ∈ O)
    (hbody : ∀ (cdv : Value) (A : Around) (outer : List Env) (s : Shared) (H : Hp) (E : XK) (A0 : Addr → Prop) (q : Option Addr), q.isSome = io → Room k (A.deeper (envOfC qual scope s.heap.objs.size f cdv)) → A.guards = some [] →
      DSs (cxOf (L2.CX P w) P w K mg base N qual scope f cdv A outer s H E) ⟨A0, H, q, none⟩ (fun _ => True) [] O O' (fun cls d _ H' => E cls d H') fr body m) :
    FnG P w K mg base (k + 1) f io fr (runM N.length ps.length dd fr m) := by
  refine ⟨fun A outer s H us vs Q E hr hg e0 rv hsp => ?_, F.kp⟩
  obtain ⟨oc, od, dV, kV, doc, pm, an, cdv, ct, osl, rfl, lk, hcd, _, _⟩ := F.ex
  obtain ⟨A0, q, args, trk, hio, ar, post⟩ := hsp
  have KXh : K.In s.heap := e0.mod.kin.keeps fun b o e => (e0.bs b o e).1
  have limit : s.heap.NoLimit := e0.mod.nolimit.keeps fun b o e => (e0.bs b o e).1
  have ar2 : ArgR K A0 H q (vs ++ dw) (args ++ dd) := by
    cases q with
    | none => exact RpA.app ar (rd _ _)
    | some p =>
      obtain ⟨vs', d0, ds', rfl, rfl, ap, ow, r⟩ := ar
      exact ⟨_, _, _, rfl, rfl, ap, ow, r.app (rd _ _)⟩
  have alen : (vs ++ dw).length = (args ++ dd).length := by
    cases q with
    | none => exact RpA.length ar2
    | some p =>
      obtain ⟨vs', d0, ds', e1, e2, _, _, r⟩ := ar2
      rw [e1, e2, List.length_cons, List.length_cons, r.length]
  unfold runM at post
  by_cases hnp : (args ++ dd).length = ps.length
  · rw [if_pos hnp] at post
    have rv2 : Vals (vs ++ dw) (us ++ ds) := rv.append hd
    have hul : (us ++ ds).length = ps.length := by rw [← rv2.length, alen]; exact hnp
    have hvl : (vs ++ dw).length = ps.length := by rw [alen]; exact hnp
    have kinds : ∀ y ∈ ps.zip (us ++ ds), scope.names.lookup y.1 = some .local ∨ (scope.names.lookup y.1 = some .cell ∧ ((cellsFrom (s.heap.objs.size + 1) scope.names []).lookup y.1).isSome = true) := fun ⟨n, v⟩ hy => by
      rcases S.par n (List.of_mem_zip hy).1 with z | z
      · exact .inl z
      · exact .inr ⟨z, PySem.W.cellsFrom_some _ _ _ (.inl z)⟩
    refine codeAny_call_function hr.depth (KXh _ _ lk) rfl S.co S.gen rfl (PySem.W.codeRec_of KXh hcd) (hb s us KXh hul _ _ _ _ ?_)
    refine wpAny_newFunctionEnv_cells S.kind kinds fun env henv s1 made => ?_
    subst henv
    refine ⟨limit.keeps made.toInCall.keep, codeAny_func ?_⟩
    have I : Inv (cxOf (L2.CX P w) P w K mg base N qual scope f cdv A outer s H E) [] (L2.start N (vs ++ dw)) H s1 := inv_start S hr.hd e0 hvl rv2 made
    have R := start_rel (N := N) (O := O) (np := ps.length) trk ar2 hnp hN (fun i h1 h2 => by rw [hio]; exact hO i h1 h2) (fun z => hq (by rw [← hio]; exact z))
    have body := hbody cdv A outer s H E A0 q hio (hr.deeper _) hg
    have goal : tS K ⟨A0, H, q, none⟩ (fun _ => True) [] O O' (fun cls d _ H' => E cls d H') fr m { nx := fun _ H' => Q .non H', rt := Q } (L2.start N (vs ++ dw)) H := by
      refine ⟨A0, _, _, R, ?_⟩
      cases hm : m (pad N.length (args ++ dd)) with
      | bad => rw [hm] at post; exact post.elim
      | bk ρ => rw [hm] at post; exact post.elim
      | ct ρ => rw [hm] at post; exact post.elim
      | rt d ρ =>
        rw [hm] at post
        exact fun v H' rg => post v H' rg.1 rg.2
      | nx ρ =>
        rw [hm] at post
        cases fr with
        | true => exact post.elim
        | false => exact fun σ' H' A' ms' R' _ => post .non H' R'.ki ⟨.non, fun p e => (R'.ioOwn e).less R'.sub⟩
      | ex y ρ =>
        rw [hm] at post
        refine fun dx σ' H' A' ms' O'' _ R' _ xr => post dx H' R'.ki (fun p e => (R'.ioOwn e).less R'.sub) ?_
        rcases xr with z | ⟨ne, d, fs, e1, e2, r⟩
        · exact .inl z
        · exact .inr ⟨ne, d, fs, e1, e2, r.tr fun a o e n => ⟨e, fun z => n (R'.sub a z)⟩⟩
    refine wpAny_mono (body.run [] s1 (L2.start N (vs ++ dw)) H _ I goal) (fun fl s' hs => ?_) fun e s' hs => hs
    have done : ∀ {σ' : L2.St} {H' : Hp} {v : V} {u : Value}, Inv (cxOf (L2.CX P w) P w K mg base N qual scope f cdv A outer s H E) [] σ' H' s' → RelV v u → Q v H' → CE outer P w H s Q u s' :=
      fun {σ' H' v u} J rv q => ⟨v, H', J.os, J.bare, J.base, J.hok, rv, q⟩
    cases fl with
    | ret u =>
      obtain ⟨v, σ', H', J, rv, qq⟩ := hs
      exact done J rv qq
    | next =>
      obtain ⟨σ', H', J, qq⟩ := hs
      exact done (v := V.non) (u := Value.none) J rfl qq
    | brk =>
      obtain ⟨_, _, _, qq⟩ := hs
      exact qq.elim
    | cont =>
      obtain ⟨_, _, _, qq⟩ := hs
      exact qq.elim
  · rw [if_neg hnp] at post
    exact post.elim
end

section
variable {X : Cx} {G : Gd} {O : List Nat} {W : WX} {k : Nat} {f : Addr} {io fr : Bool} {F : FN} {x : Str} {p pos : Pos} {e : Expr} {es : List Expr} {mr : MA}
theorem run_fnG {pins : List (Addr × Obj)} {σ : L2.St} {H : Hp} {s : Shared} {Q : VK} {us : List Value} {vs : List V} (C : FnG X.prog X.w X.K X.mg X.base k f io fr F) (hr : Room k X.A) (hg : X.A.guards = some []) (tk : Takes X W)
    (I : Inv X pins σ H s) (r : Vals vs us) (h : spD X.K io fr F vs H Q (WE W σ)) : wpAny (model X.prog X.w) X.A (call (.ref f) us) (EP X pins σ Q) X.xe s := by
  refine wpAny_call (codeAny_mono (C.run X.A X.stack s H us vs Q (WE W σ) hr hg I.env0 r h) fun res s' hres => ?_)
  cases res with
  | error e => exact passAt tk σ pins H s e s' I hres
  | ok fl =>
    cases fl with
    | ret u => exact I.after hres
    | next => exact hres.elim
    | brk => exact hres.elim
    | cont => exact hres.elim
def tCallG (K : PySem.W.Frag) (io fr : Bool) (F : FN) (W : WX) (t : TA) : TE := fun σ H Q => t σ H fun vs H1 => spD K io fr F vs H1 Q (WE W σ)
theorem pe_callG {t : TA} (C : FnG X.prog X.w X.K X.mg X.base k f io fr F) (hr : Room k X.A) (hg : X.A.guards = some []) (tk : Takes X W) (hn : Gl X x) (hm : X.mg x = some (.ref f)) (ha : PA X (e :: es) t)
    (hdb : (x == ("__debug__" : Str)) = false := by decide) (he : starEach (e :: es) X.env = (false, eval e X.env) :: starEach es X.env := by rfl) (hpl : (backTo pos (starEach es X.env)).any (·.1) = false := by rfl) :
    PE X (.Call (.Name x p) (e :: es) [] pos) (tCallG X.K io fr F W t) := by
  refine ⟨fun pins s σ H Q I h => wpAny_Call_Name_kw (ld_glob I hn hm ?_ hdb)⟩
  exact PySem.W.callWith_K (h₀ := X.base) I.ok.mod.kin C.kp (thn (ha.run pos pins s σ H _ I h) fun us s1 ⟨vs, H1, I1, r, q⟩ => ⟨I1.kIn, run_fnG C hr hg tk I1 r q⟩) he hpl
theorem pe_callG0 (C : FnG X.prog X.w X.K X.mg X.base k f io fr F) (hr : Room k X.A) (hg : X.A.guards = some []) (tk : Takes X W) (hn : Gl X x) (hm : X.mg x = some (.ref f)) (hdb : (x == ("__debug__" : Str)) = false := by decide) :
    PE X (.Call (.Name x p) [] [] pos) (tCallG X.K io fr F W tNil) := by
  refine ⟨fun pins s σ H Q I h => wpAny_Call_Name_kw (ld_glob I hn hm ?_ hdb)⟩
  exact PySem.W.callWith_K0 I.kIn C.kp (run_fnG (us := []) C hr hg tk I .nil h)
def mCall (F : FN) (args : MA) : ME := fun ρ => (args ρ).bind fun ds ρ1 => match F ds with
  | .rt d _ => .ok d ρ1
  | .ex x _ => .ex x ρ1
  | .bad => .bad
theorem call_goE {K : PySem.W.Frag} {σ : L2.St} {H : Hp} {Q : VK} (h : tE K G O W (mCall F mr) σ H Q) : tCallG K false false F W (tA K G O W mr) σ H Q := by
  obtain ⟨A, ms, ρ, R, q⟩ := h
  refine ⟨A, ms, ρ, R, q.bind.mono ?_⟩
  rintro vs H1 ⟨ds, ρ1, R1, k1, r1, q1⟩
  refine ⟨A, none, ds, R1.trk, rfl, r1, ?_⟩
  cases hF : F ds with
  | bad => rw [hF] at q1; exact q1.elim
  | rt d o =>
    rw [hF] at q1
    intro v H' ki ⟨rr, _⟩
    have s : Same H1 H' := fun a o e => ki a o e (by simp)
    exact q1 v H' (R1.same s) (Kp.same s) rr
  | ex y o =>
    rw [hF] at q1
    intro dx H' ki _ xr
    have s : Same H1 H' := fun a o e => ki a o e (by simp)
    exact q1 dx H' (R1.same s) (Kp.same s) xr
theorem call_goF {K : PySem.W.Frag} {σ : L2.St} {H : Hp} {Q : VK} (h : tF K G O W (mCall F mr) σ H Q) : tCallG K false true F W (tA K G O W mr) σ H Q := by
  obtain ⟨A, ms, ρ, R, q⟩ := h
  refine ⟨A, ms, ρ, R, ?_⟩
  unfold mCall at q
  cases hm : mr ρ with
  | bad => rw [hm] at q; exact q.elim
  | ex x ρ1 => rw [hm] at q; exact q
  | ok ds ρ1 =>
    rw [hm] at q
    intro vs H1 R1 k1 r1
    refine ⟨A, none, ds, R1.trk, rfl, r1, ?_⟩
    have q1 : FPost K G O W A ms σ H Q (match F ds with
      | .rt d _ => .ok d ρ1
      | .ex x _ => .ex x ρ1
      | .bad => .bad) := q
    cases hF : F ds with
    | bad => rw [hF] at q1; exact q1.elim
    | rt d o =>
      rw [hF] at q1
      intro v H' ki rr
      have s : Same H1 H' := fun a o e => ki a o e (by simp)
      obtain ⟨r, rfl, hr, ow, _⟩ := (show ∃ r, v = .ref r ∧ H1 r = none ∧ Own K (fun a => A a ∨ a = r) H' r d ∧ _ from rr)
      obtain ⟨o', ho'⟩ := ow.there
      refine q1 r H' (R1.same s) (R1.grow hr s ho') (k1.trans (Kp.same s)) ?_ ow
      exact Kp.none R1 k1 hr
    | ex y o =>
      rw [hF] at q1
      intro dx H' ki _ xr
      have s : Same H1 H' := fun a o e => ki a o e (by simp)
      exact q1 dx H' (R1.same s) (k1.trans (Kp.same s)) xr
theorem de_call (C : FnG X.prog X.w X.K X.mg X.base k f false false F) (hr : Room k X.A) (hg : X.A.guards = some []) (tk : Takes X W) (hn : Gl X x) (hm : X.mg x = some (.ref f)) (ha : DA X G O W (e :: es) mr)
    (hdb : (x == ("__debug__" : Str)) = false := by decide) (he : starEach (e :: es) X.env = (false, eval e X.env) :: starEach es X.env := by rfl) (hpl : (backTo pos (starEach es X.env)).any (·.1) = false := by rfl) :
    DE X G O W (.Call (.Name x p) (e :: es) [] pos) (mCall F mr) := pe_imp (pe_callG C hr hg tk hn hm ha hdb he hpl) fun _ _ _ h => call_goE h
theorem df_call (C : FnG X.prog X.w X.K X.mg X.base k f false true F) (hr : Room k X.A) (hg : X.A.guards = some []) (tk : Takes X W) (hn : Gl X x) (hm : X.mg x = some (.ref f)) (ha : DA X G O W (e :: es) mr)
    (hdb : (x == ("__debug__" : Str)) = false := by decide) (he : starEach (e :: es) X.env = (false, eval e X.env) :: starEach es X.env := by rfl) (hpl : (backTo pos (starEach es X.env)).any (·.1) = false := by rfl) :
    DF X G O W (.Call (.Name x p) (e :: es) [] pos) (mCall F mr) := pe_imp (pe_callG C hr hg tk hn hm ha hdb he hpl) fun _ _ _ h => call_goF h
theorem tNil_go {K : PySem.W.Frag} {σ : L2.St} {H : Hp} {Q : List V → Hp → Prop} (h : tA K G O W mNil σ H Q) : tNil σ H Q := by
  obtain ⟨A, ms, ρ, R, q⟩ := h
  exact q [] H R Kp.refl .nil
end
end DL
namespace DL
open L2 PySem PySem.Spec PyProof.Rows

theorem set_get_ne {ρ : En} {i j : Nat} {o : Option D} (h : i ≠ j) : (ρ.set j o)[i]? = ρ[i]? := List.getElem?_set_ne (Ne.symm h)
theorem RelS.setOwn {K : PySem.W.Frag} {G : Gd} {O : List Nat} {A : Addr → Prop} {ms : Nat → Option Addr} {σ : L2.St} {H H' : Hp} {ρ : En} {j : Nat} {p : Addr} {c d : D} (R : RelS K G O A ms σ H ρ) (hj : j ∈ O) (hc : ρ[j]? = some (some c)) (hp : ms j = some p)
    (k : ∀ a o, H a = some o → a ≠ p → H' a = some o) (ow : Own K A H' p d) : RelS K G O A ms σ H' (ρ.set j (some d)) := by
  have hlt : j < ρ.length := (List.getElem?_eq_some_iff.mp hc).1
  have aj : A p := R.inA j p hj hp
  have t : Tr A A H H' := fun a o e n => ⟨k a o e fun z => n (z ▸ aj), n⟩
  exact {
    sub := R.sub
    trk0 := R.trk0
    trk := fun a z => by
      by_cases h : a = p
      · rw [h]; exact ow.there
      · obtain ⟨o, e⟩ := R.trk a z
        exact ⟨o, k a o e h⟩
    keep := fun a o e n => by
      refine k a o (R.keep a o e n) fun z => ?_
      rcases R.ok j p hj hp with ⟨_, w⟩ | ⟨_, w⟩
      · exact n (z ▸ w)
      · rw [z, w] at e; cases e
    len := by rw [List.length_set]; exact R.len
    fz := fun i z e n => by
      have h : i ≠ j := fun q => n (q ▸ hj)
      rw [set_get_ne h] at e
      obtain ⟨v, e1, q⟩ := R.fz i z e n
      exact ⟨v, e1, q.tr t⟩
    ow := fun i z e m => by
      by_cases h : i = j
      · subst h
        rw [List.getElem?_set_self hlt] at e
        cases e
        obtain ⟨p', e0, e1, _⟩ := R.ow i c hc hj
        rw [hp] at e0
        cases e0
        exact ⟨p, hp, e1, ow⟩
      · rw [set_get_ne h] at e
        obtain ⟨q, e0, e1, w⟩ := R.ow i z e m
        exact ⟨q, e0, e1, w.tr t fun o u => k _ _ u fun z => h (R.dist i j p m hj (z ▸ e0) hp)⟩
    inA := R.inA
    ok := R.ok
    dist := R.dist
    px := R.px
    io := fun q e => by
      obtain ⟨h1, h2, h3, z, h4⟩ := R.io q e
      by_cases h : j = 0
      · subst h
        exact ⟨h1, h2, h3, d, List.getElem?_set_self hlt⟩
      · exact ⟨h1, h2, h3, z, by rw [set_get_ne (Ne.symm h)]; exact h4⟩ }
theorem Kp.own {O : List Nat} {ms : Nat → Option Addr} {j : Nat} {p : Addr} {H H' : Hp} (m : j ∈ O) (e : ms j = some p) (k : ∀ b o, H b = some o → b ≠ p → H' b = some o) : Kp O ms H H' := fun b o h n => k b o h fun z => n j m (z ▸ e)

section
variable {X : Cx} {G : Gd} {O : List Nat} {W : WX} {k : Nat} {f : Addr} {fr : Bool} {F : FN} {x y : Str} {p py pos : Pos} {e : Expr} {es : List Expr} {mr : MA}
def getO (ρ : En) (j : Nat) : Option D := match ρ[j]? with
  | some (some d) => some d
  | _ => none
theorem getO_some {ρ : En} {j : Nat} {d : D} (h : getO ρ j = some d) : ρ[j]? = some (some d) := by
  unfold getO at h
  split at h
  · rename_i z hz
    cases h
    exact hz
  · cases h
def mCallIo (F : FN) (j : Nat) (args : MA) : ME := fun ρ => match getO ρ j with
  | none => .bad
  | some _ => (args ρ).bind fun ds ρ1 => match getO ρ1 j with
    | none => .bad
    | some c => match F (c :: ds) with
      | .rt d o => .ok d (ρ1.set j (some o))
      | .ex x o => .ex x (ρ1.set j (some o))
      | .bad => .bad
theorem callio_go {K : PySem.W.Frag} {j : Nat} (hj : j ∈ O) {σ : L2.St} {H : Hp} {Q : VK} (h : tE K G O W (mCallIo F j mr) σ H Q) : tCallG K true false F W (tCons (tVar j) (tA K G O W mr)) σ H Q := by
  obtain ⟨A, ms, ρ, R, q⟩ := h
  unfold mCallIo at q
  cases hc : getO ρ j with
  | none => rw [hc] at q; exact q.elim
  | some c =>
    rw [hc] at q
    have q' : RPost K G O W A ms σ H (Rp K A) Q ((mr ρ).bind fun ds ρ1 => match getO ρ1 j with
      | none => .bad
      | some c => match F (c :: ds) with
        | .rt d o => .ok d (ρ1.set j (some o))
        | .ex x o => .ex x (ρ1.set j (some o))
        | .bad => .bad) := q
    obtain ⟨p, hp, hv, _⟩ := R.ow j c (getO_some hc) hj
    refine ⟨.ref p, hv, A, ms, ρ, R, q'.bind.mono ?_⟩
    rintro vs H1 ⟨ds, ρ1, R1, k1, r1, q1⟩
    cases hc1 : getO ρ1 j with
    | none => rw [hc1] at q1; exact q1.elim
    | some c1 =>
      rw [hc1] at q1
      have b1 := getO_some hc1
      obtain ⟨p', hp', _, oj⟩ := R1.ow j c1 b1 hj
      rw [hp] at hp'
      cases hp'
      refine ⟨A, some p, c1 :: ds, R1.trk, rfl, ⟨vs, c1, ds, rfl, rfl, R.inA j p hj hp, oj, r1⟩, ?_⟩
      have q2 : RPost K G O W A ms σ H1 (Rp K A) Q (match F (c1 :: ds) with
        | .rt d o => .ok d (ρ1.set j (some o))
        | .ex x o => .ex x (ρ1.set j (some o))
        | .bad => .bad) := q1
      cases hF : F (c1 :: ds) with
      | bad => rw [hF] at q2; exact q2.elim
      | rt d o =>
        rw [hF] at q2
        intro v H' ki ⟨rr, oo⟩
        have kk : ∀ a u, H1 a = some u → a ≠ p → H' a = some u := fun a u e n => ki a u e fun z => n (Option.some.inj z).symm
        exact q2 v H' (R1.setOwn hj b1 hp kk (oo _ rfl)) (Kp.own hj hp kk) rr
      | ex z o =>
        rw [hF] at q2
        intro dx H' ki oo xr
        have kk : ∀ a u, H1 a = some u → a ≠ p → H' a = some u := fun a u e n => ki a u e fun z => n (Option.some.inj z).symm
        exact q2 dx H' (R1.setOwn hj b1 hp kk (oo _ rfl)) (Kp.own hj hp kk) xr
theorem de_callio {j : Nat} (C : FnG X.prog X.w X.K X.mg X.base k f true false F) (hr : Room k X.A) (hg : X.A.guards = some []) (tk : Takes X W) (hn : Gl X x) (hm : X.mg x = some (.ref f)) (hj : O.contains j = true) (hy : PE X (.Name y py) (tVar j)) (ha : DA X G O W es mr)
    (hs : starEach (.Name y py :: es) X.env = (false, eval (.Name y py) X.env) :: starEach es X.env := by rfl)
    (hdb : (x == ("__debug__" : Str)) = false := by decide) (hpl : (backTo pos (starEach es X.env)).any (·.1) = false := by rfl) :
    DE X G O W (.Call (.Name x p) (.Name y py :: es) [] pos) (mCallIo F j mr) :=
  pe_imp (pe_callG C hr hg tk hn hm (pa_cons hy ha hs) hdb hs hpl) fun _ _ _ h => callio_go (List.contains_iff_mem.mp hj) h

def rOM (K : PySem.W.Frag) (g : List D → List D → Option (D × List D)) : V → List V → Hp → VK → Prop := fun x vs H Q => ∃ (A : Addr → Prop) (p : Addr) (cs ds : List D) (ws : List V) (z : D) (cs' : List D), x = .ref p ∧ A p ∧ Trk A H ∧ H p = some (.lst ws) ∧ RpA K A H ws cs ∧ RpA K A H vs ds ∧
  g cs ds = some (z, cs') ∧ ∀ v H', (∀ a o, H a = some o → a ≠ p → H' a = some o) → (∃ ws', H' p = some (.lst ws') ∧ RpA K A H' ws' cs') → Rp K A H' v z → Q v H'
def mOM (g : List D → List D → Option (D × List D)) (j : Nat) (args : MA) : ME := fun ρ => match getO ρ j with
  | some (.lst _) => (args ρ).bind fun ds ρ1 => match getO ρ1 j with
    | some (.lst cs) => match g cs ds with
      | some (z, cs') => .ok z (ρ1.set j (some (.lst cs')))
      | none => .bad
    | _ => .bad
  | _ => .bad
theorem own_lst {K : PySem.W.Frag} {A : Addr → Prop} {H : Hp} {p : Addr} {cs : List D} (h : Own K A H p (.lst cs)) : ∃ ws, H p = some (.lst ws) ∧ RpA K A H ws cs := by
  cases h with
  | lst e q => exact ⟨_, e, q⟩
theorem om_go {g : List D → List D → Option (D × List D)} {r : V → List V → Hp → VK → Prop} {K : PySem.W.Frag} (hr : ∀ x vs H Q, rOM K g x vs H Q → r x vs H Q) {j : Nat} (hj : j ∈ O) {σ : L2.St} {H : Hp} {Q : VK} (h : tE K G O W (mOM g j mr) σ H Q) :
    ∃ v, σ[j]? = some (some v) ∧ tyV K "list" v H ∧ tA K G O W mr σ H fun xs H2 => r v xs H2 Q := by
  obtain ⟨A, ms, ρ, R, q⟩ := h
  unfold mOM at q
  split at q
  · rename_i c hc
    obtain ⟨p, hp, e1, oj⟩ := R.ow j _ (getO_some hc) hj
    obtain ⟨ws, hw, _⟩ := own_lst oj
    refine ⟨_, e1, .inl ⟨rfl, _, SqL.of hw⟩, A, ms, ρ, R, RPost.mono (RPost.bind q) ?_⟩
    rintro vs H1 ⟨ds, ρ1, R1, k1, r1, q1⟩
    split at q1
    · rename_i cs hc1
      have b1 := getO_some hc1
      obtain ⟨p', hp', _, oj1⟩ := R1.ow j _ b1 hj
      rw [hp] at hp'
      cases hp'
      obtain ⟨ws1, hw1, rw1⟩ := own_lst oj1
      split at q1
      · rename_i z cs' hg
        refine hr _ _ _ _ ⟨A, p, cs, ds, ws1, z, cs', rfl, R.inA j p hj hp, R1.trk, hw1, rw1, r1, hg, fun v H' kk ⟨ws', hw', rw'⟩ rv => ?_⟩
        exact q1 v H' (R1.setOwn hj b1 hp kk (.lst hw' rw')) (Kp.own hj hp kk) rv
      · exact q1.elim
    · exact q1.elim
  · exact q.elim
theorem de_om {j : Nat} {name : Str} {id : String} {apos cpos : Pos} {g : List D → List D → Option (D × List D)} (hm : MtR X id (rOM X.K g)) (slot : Slot "list" name id) (hty : typeOf (.builtin id) = pure (.type "method_descriptor")) (hj : O.contains j = true) (hy : PE X (.Name y py) (tVar j)) (ha : DA X G O W (e :: es) mr)
    (hbase : attributeBase (.Name y py) name X.env (eval (.Name y py) X.env) = eval (.Name y py) X.env := by rfl)
    (hfew : ((backTo cpos (starEach (e :: es) X.env)).all (fun x => !x.1) && (backToKw cpos (keywordEach [] X.env)).all (fun x => x.1.isSome)
      && decide ((e :: es).length + ([] : List Keyword).length + (if ([] : List Keyword).isEmpty then 0 else 1) < 30)) = true := by rfl)
    (hline : (apos.endLine == cpos.line) = true := by rfl) (hs : starEach (e :: es) X.env = (false, eval e X.env) :: starEach es X.env := by rfl) (hplain : (backTo cpos (starEach es X.env)).any (·.1) = false := by rfl) :
    DE X G O W (.Call (.Attribute (.Name y py) name apos) (e :: es) [] cpos) (mOM g j mr) :=
  pe_imp (pe_bm PySem.F.plainAttrs_list slot hty hm hy ha hbase hfew hline hs hplain) fun _ _ _ h => om_go (fun _ _ _ _ z => z) (List.contains_iff_mem.mp hj) h
theorem de_om0 {j : Nat} {name : Str} {id : String} {apos cpos : Pos} {g : List D → List D → Option (D × List D)} (hm : MtR X id (rOM X.K g)) (slot : Slot "list" name id) (hty : typeOf (.builtin id) = pure (.type "method_descriptor")) (hj : O.contains j = true) (hy : PE X (.Name y py) (tVar j))
    (hbase : attributeBase (.Name y py) name X.env (eval (.Name y py) X.env) = eval (.Name y py) X.env := by rfl) (hline : (apos.endLine == cpos.line) = true := by rfl) :
    DE X G O W (.Call (.Attribute (.Name y py) name apos) [] [] cpos) (mOM g j mNil) := by
  refine pe_imp (pe_bm0 PySem.F.plainAttrs_list slot hty hm hy hbase hline) fun σ H Q h => ?_
  obtain ⟨v, h1, h2, h3⟩ := om_go (fun _ _ _ _ z => z) (List.contains_iff_mem.mp hj) h
  exact ⟨v, h1, h2, tNil_go h3⟩
def gAppend (cs ds : List D) : Option (D × List D) := match ds with
  | [d] => if cs.length < sizeLine then some (.non, cs ++ [d]) else none
  | _ => none
def gExtend (cs ds : List D) : Option (D × List D) := match ds with
  | [.lst es] => if cs.length + es.length ≤ sizeLine then some (.non, cs ++ es) else none
  | _ => none
def gPop (cs ds : List D) : Option (D × List D) := match ds with
  | [] => (cs[cs.length - 1]?).map fun z => (z, cs.dropLast)
  | [.int i] => if -(2 ^ 63) ≤ i ∧ i < 2 ^ 63 then (seqIndex? i cs.length).bind fun k => (cs[k]?).map fun z => (z, cs.eraseIdx k) else none
  | _ => none
def gReverse (cs ds : List D) : Option (D × List D) := match ds with
  | [] => some (.non, cs.reverse)
  | _ => none
theorem upd_out {H : Hp} {p : Addr} {o : HO} : ∀ a u, H a = some u → a ≠ p → (upd H p o) a = some u := fun a u e n => by rw [upd_ne n]; exact e
theorem RpA.upd {K : PySem.W.Frag} {A : Addr → Prop} {H : Hp} {p : Addr} {o : HO} {vs : List V} {ds : List D} (h : RpA K A H vs ds) (a : A p) : RpA K A (L2.upd H p o) vs ds := h.tr fun b o e n => ⟨upd_out b o e fun z => n (z ▸ a), n⟩
theorem Rp.upd {K : PySem.W.Frag} {A : Addr → Prop} {H : Hp} {p : Addr} {o : HO} {v : V} {d : D} (h : Rp K A H v d) (a : A p) : Rp K A (L2.upd H p o) v d := h.tr fun b o e n => ⟨upd_out b o e fun z => n (z ▸ a), n⟩
theorem om_append : MtR X "list.append" (rOM X.K gAppend) := by
  rintro pins s σ H x vs v us Q I rx rv ⟨A, p, cs, ds, ws, z, cs', rfl, ap, t, hp, rc, rd, hg, q⟩
  unfold gAppend at hg
  split at hg
  · rename_i d
    split at hg
    · rename_i hz
      cases hg
      cases rd with
      | cons r1 r2 =>
        cases r2
        refine mt_append pins s σ H _ _ v us Q I rx rv ⟨p, ws, _, rfl, rfl, hp, by rw [rc.length]; exact hz, ?_⟩
        exact q _ _ upd_out ⟨_, upd_same, (rc.upd ap).app (.cons (r1.upd ap) .nil)⟩ .non
    · cases hg
  · cases hg
theorem om_extend : MtR X "list.extend" (rOM X.K gExtend) := by
  rintro pins s σ H x vs v us Q I rx rv ⟨A, p, cs, ds, ws, z, cs', rfl, ap, t, hp, rc, rd, hg, q⟩
  unfold gExtend at hg
  split at hg
  · split at hg
    · rename_i hz
      cases hg
      cases rd with
      | cons r1 r2 =>
        cases r2
        cases r1 with
        | lst hb nb rb =>
          refine mt_extend pins s σ H _ _ v us Q I rx rv ⟨p, _, ws, _, rfl, rfl, hp, hb, by rw [rc.length, rb.length]; exact hz, ?_⟩
          exact q _ _ upd_out ⟨_, upd_same, (rc.upd ap).app (rb.upd ap)⟩ .non
    · cases hg
  · cases hg
theorem RpA.eraseIdx {K : PySem.W.Frag} {A : Addr → Prop} {H : Hp} : ∀ {vs : List V} {ds : List D} (n : Nat), RpA K A H vs ds → RpA K A H (vs.eraseIdx n) (ds.eraseIdx n)
  | _, _, _, .nil => .nil
  | _, _, 0, .cons _ t => t
  | _, _, n + 1, .cons h t => .cons h (RpA.eraseIdx n t)
theorem om_pop : MtR X "list.pop" (rOM X.K gPop) := by
  rintro pins s σ H x vs v us Q I rx rv ⟨A, p, cs, ds, ws, z, cs', rfl, ap, t, hp, rc, rd, hg, q⟩
  unfold gPop at hg
  split at hg
  · cases rd
    obtain ⟨y, hy, e⟩ := map_some hg
    cases e
    have hl := rc.length
    obtain ⟨w, hw, rw⟩ := rc.get hy
    refine mt_pop pins s σ H _ _ v us Q I rx rv ⟨p, ws, w, rfl, rfl, hp, by rw [hl]; exact hw, ?_⟩
    exact q _ _ upd_out ⟨_, upd_same, rc.dropLast.upd ap⟩ (rw.upd ap)
  · rename_i i
    split at hg
    · rename_i hz
      cases hk : seqIndex? i cs.length with
      | none => rw [hk] at hg; cases hg
      | some k =>
        rw [hk] at hg
        obtain ⟨y, hy, e⟩ := map_some (show (cs[k]?).map (fun z => (z, cs.eraseIdx k)) = some (z, cs') from hg)
        cases e
        cases rd with
        | cons r1 r2 =>
          cases r2
          cases r1
          obtain ⟨w, hw, rw⟩ := rc.get hy
          refine mt_popAt pins s σ H _ _ v us Q I rx rv ⟨p, ws, i, k, w, rfl, rfl, hp, hz.1, hz.2, by rw [rc.length]; exact hk, hw, ?_⟩
          exact q _ _ upd_out ⟨_, upd_same, (rc.eraseIdx k).upd ap⟩ (rw.upd ap)
    · cases hg
  · cases hg
theorem om_reverse : MtR X "list.reverse" (rOM X.K gReverse) := by
  rintro pins s σ H x vs v us Q I rx rv ⟨A, p, cs, ds, ws, z, cs', rfl, ap, t, hp, rc, rd, hg, q⟩
  unfold gReverse at hg
  split at hg
  · cases hg
    cases rd
    refine mt_reverse pins s σ H _ _ v us Q I rx rv ⟨p, ws, rfl, rfl, hp, ?_⟩
    exact q _ _ upd_out ⟨_, upd_same, rc.rev.upd ap⟩ .non
  · cases hg

def mOwn (j : Nat) (g : D → Option D) : ME := fun ρ => match getO ρ j with
  | some d => ret (g d) ρ
  | none => .bad
end

abbrev MG := D → En → R Unit
def SlEq (vs : List Nat) (σ σ' : L2.St) : Prop := σ'.length = σ.length ∧ ∀ i, i ∉ vs → σ'[i]? = σ[i]?
theorem SlEq.refl {vs : List Nat} {σ : L2.St} : SlEq vs σ σ := ⟨rfl, fun _ _ => rfl⟩
theorem SlEq.trans {vs : List Nat} {σ σ1 σ2 : L2.St} (a : SlEq vs σ σ1) (b : SlEq vs σ1 σ2) : SlEq vs σ σ2 := ⟨b.1.trans a.1, fun i h => (b.2 i h).trans (a.2 i h)⟩
theorem SlEq.mono {vs ws : List Nat} {σ σ' : L2.St} (a : SlEq vs σ σ') (h : ∀ i ∈ vs, i ∈ ws) : SlEq ws σ σ' := ⟨a.1, fun i n => a.2 i fun m => n (h i m)⟩
theorem SlEq.set {vs : List Nat} {σ : L2.St} {i : Nat} {o : Option V} (h : i ∈ vs) : SlEq vs σ (σ.set i o) := ⟨List.length_set, fun j n => List.getElem?_set_ne fun e => n (by rw [← e]; exact h)⟩
def GPost (K : PySem.W.Frag) (G : Gd) (O : List Nat) (vs : List Nat) (A : Addr → Prop) (ms : Nat → Option Addr) (σ : L2.St) (H : Hp) (Q : L2.St → Hp → Prop) : R Unit → Prop
  | .ok _ ρ' => ∀ σ' H', SlEq vs σ σ' → RelS K G O A ms σ' H' ρ' → Kp O ms H H' → Q σ' H'
  | _ => False
def tG (K : PySem.W.Frag) (G : Gd) (O : List Nat) (vs : List Nat) (g : MG) : TG := fun v σ H Q => ∃ A ms ρ d, RelS K G O A ms σ H ρ ∧ Rp K A H v d ∧ GPost K G O vs A ms σ H Q (g d ρ)
def tGs (K : PySem.W.Frag) (G : Gd) (O : List Nat) (vs : List Nat) (g : List D → En → R Unit) : TGs := fun us σ H Q => ∃ A ms ρ ds, RelS K G O A ms σ H ρ ∧ RpA K A H us ds ∧ GPost K G O vs A ms σ H Q (g ds ρ)
def DG (X : Cx) (G : Gd) (O : List Nat) (vs : List Nat) (tg : Expr) (g : MG) : Prop := PG X tg (tG X.K G O vs g)
def DGs (X : Cx) (G : Gd) (O : List Nat) (vs : List Nat) (ts : List Expr) (g : List D → En → R Unit) : Prop := PGs X ts (tGs X.K G O vs g)
theorem pg_imp {X : Cx} {e : Expr} {t t' : TG} (h : PG X e t) (w : ∀ v σ H Q, t' v σ H Q → t v σ H Q) : PG X e t' := ⟨fun pins s σ H v u Q I r q => h.run pins s σ H v u Q I r (w v σ H Q q)⟩
theorem pgs_imp {X : Cx} {e : List Expr} {t t' : TGs} (h : PGs X e t) (w : ∀ v σ H Q, t' v σ H Q → t v σ H Q) : PGs X e t' := ⟨fun pins s σ H v u Q I r q => h.run pins s σ H v u Q I r (w v σ H Q q)⟩
theorem GPost.from {K : PySem.W.Frag} {G : Gd} {O : List Nat} {vs : List Nat} {A : Addr → Prop} {ms : Nat → Option Addr} {σ σ1 : L2.St} {H H1 : Hp} {Q : L2.St → Hp → Prop} {r : R Unit} (e : SlEq vs σ σ1) (k : Kp O ms H H1) (h : GPost K G O vs A ms σ H Q r) : GPost K G O vs A ms σ1 H1 Q r := by
  cases r with
  | ok u ρ => exact fun σ' H' e' R k' => h σ' H' (e.trans e') R (k.trans k')
  | ex _ _ => exact h
  | bad => exact h
theorem RelS.put {K : PySem.W.Frag} {G : Gd} {O : List Nat} {A : Addr → Prop} {ms : Nat → Option Addr} {σ : L2.St} {H : Hp} {ρ : En} {i : Nat} {v : V} {d : D} (R : RelS K G O A ms σ H ρ) (hi : i ∉ O) (hlt : i < ρ.length) (r : Rp K A H v d) : RelS K G O A ms (σ.set i (some v)) H (ρ.set i (some d)) := by
  have ne : ∀ {j : Nat}, j ∈ O → j ≠ i := fun {j} m z => hi (z ▸ m)
  have g : ∀ {j : Nat} {z : D}, j ∈ O → (ρ.set i (some d))[j]? = some (some z) → ρ[j]? = some (some z) := fun {j z} m e => by rw [set_get_ne (ne m)] at e; exact e
  exact {
    sub := R.sub
    trk0 := R.trk0
    trk := R.trk
    keep := R.keep
    len := by rw [List.length_set, List.length_set]; exact R.len
    fz := fun j z e n => by
      by_cases h : j = i
      · subst h
        rw [List.getElem?_set_self hlt] at e
        cases e
        exact ⟨v, List.getElem?_set_self (by rw [R.len]; exact hlt), r⟩
      · rw [set_get_ne h] at e
        obtain ⟨w, e1, q⟩ := R.fz j z e n
        exact ⟨w, by rw [List.getElem?_set_ne (Ne.symm h)]; exact e1, q⟩
    ow := fun j z e m => by
      obtain ⟨p, e0, e1, q⟩ := R.ow j z (g m e) m
      exact ⟨p, e0, by rw [List.getElem?_set_ne (Ne.symm (ne m))]; exact e1, q⟩
    inA := R.inA
    ok := R.ok
    dist := R.dist
    px := fun j a c e => let ⟨m, q⟩ := R.px j a c e; ⟨m, by rw [List.getElem?_set_ne (Ne.symm (ne m))]; exact q⟩
    io := fun p e => by
      obtain ⟨h1, h2, h3, z, h4⟩ := R.io p e
      exact ⟨h1, h2, h3, z, by rw [set_get_ne (ne h1)]; exact h4⟩ }
def mgName (i : Nat) : MG := fun d ρ => if i < ρ.length then .ok () (ρ.set i (some d)) else .bad
def mgNil : List D → En → R Unit := fun ds ρ => match ds with
  | [] => .ok () ρ
  | _ => .bad
def mgCons (g : MG) (gs : List D → En → R Unit) : List D → En → R Unit := fun ds ρ => match ds with
  | d :: r => (g d ρ).bind fun _ ρ1 => gs r ρ1
  | [] => .bad
def mgTup (n : Nat) (gs : List D → En → R Unit) : MG := fun d ρ => match d with
  | .tup ds => if ds.length = n then gs ds ρ else .bad
  | _ => .bad
def mgLst (n : Nat) (gs : List D → En → R Unit) : MG := fun d ρ => match d with
  | .lst ds => if ds.length = n then gs ds ρ else .bad
  | _ => .bad
section
variable {X : Cx} {G : Gd} {O vs : List Nat} {W : WX} {x : Str} {pos : Pos} {e : Expr} {es : List Expr} {g : MG} {gs : List D → En → R Unit}
theorem dg_name {i : Nat} (hv : vs.contains i = true) (hO : O.contains i = false) (hN : X.N.Nodup) (hi : X.N[i]? = some x) (hx : Loc X.env.scope x) (hf : X.fn x = true ∨ X.env.scope.names.lookup x = some .local := by first | exact .inl rfl | exact .inr rfl | assumption) : DG X G O vs (.Name x pos) (mgName i) := by
  refine pg_imp (pg_name hN hi hx hf) fun v σ H Q ⟨A, ms, ρ, d, R, r, q⟩ => ?_
  unfold mgName at q
  split at q
  · rename_i hl
    exact q _ _ (SlEq.set (List.contains_iff_mem.mp hv)) (R.put (fun z => by rw [List.contains_iff_mem.mpr z] at hO; cases hO) hl r) Kp.refl
  · exact q.elim
theorem dgs_nil : DGs X G O vs [] mgNil := pgs_imp pgs_nil fun us σ H Q ⟨A, ms, ρ, ds, R, r, q⟩ => by
  cases r with
  | nil => exact ⟨rfl, q _ _ SlEq.refl R Kp.refl⟩
  | cons _ _ => exact q.elim
theorem dgs_cons (h1 : DG X G O vs e g) (h2 : DGs X G O vs es gs) (hs : (assignEach (e :: es) X.env).map (·.2) = assign e X.env :: (assignEach es X.env).map (·.2) := by rfl) : DGs X G O vs (e :: es) (mgCons g gs) := by
  refine pgs_imp (pgs_cons h1 h2 hs) fun us σ H Q ⟨A, ms, ρ, ds, R, r, q⟩ => ?_
  cases r with
  | nil => exact q.elim
  | @cons v vr d dr r1 r2 =>
    refine ⟨_, _, rfl, A, ms, ρ, d, R, r1, ?_⟩
    have q' : GPost X.K G O vs A ms σ H Q ((g d ρ).bind fun _ ρ1 => gs dr ρ1) := q
    cases hg : g d ρ with
    | bad => rw [hg] at q'; exact q'.elim
    | ex y ρ1 => rw [hg] at q'; exact q'.elim
    | ok u ρ1 =>
      rw [hg] at q'
      have q : GPost X.K G O vs A ms σ H Q (gs dr ρ1) := q'
      exact fun σ' H' e' R' k => ⟨A, ms, ρ1, dr, R', r2.tr (R.kt k), GPost.from e' k q⟩
theorem dg_tup {k n : Nat} (hc : X.calm = true) (h : DGs X G O vs es gs) (hn : (assignEach es X.env).length = n := by rfl) (hst : (assignEach es X.env).findIdx? (·.1) = none := by rfl) : DG X G O vs (.Tuple es k pos) (mgTup n gs) := by
  refine pg_imp (pg_tup hc h hn hst) fun v σ H Q ⟨A, ms, ρ, d, R, r, q⟩ => ?_
  unfold mgTup at q
  split at q
  · split at q
    · rename_i ds hl
      cases r with
      | tup h1 h2 => exact ⟨_, _, rfl, h1.sq, by rw [h2.length]; exact hl, A, ms, ρ, ds, R, h2, q⟩
    · exact q.elim
  · exact q.elim
theorem dg_lst {k n : Nat} (hc : X.calm = true) (h : DGs X G O vs es gs) (hn : (assignEach es X.env).length = n := by rfl) (hst : (assignEach es X.env).findIdx? (·.1) = none := by rfl) : DG X G O vs (.Tuple es k pos) (mgLst n gs) := by
  refine pg_imp (pg_lst hc h hn hst) fun v σ H Q ⟨A, ms, ρ, d, R, r, q⟩ => ?_
  unfold mgLst at q
  split at q
  · split at q
    · rename_i ds hl
      cases r with
      | lst h1 n1 h2 => exact ⟨_, _, rfl, SqL.of h1, by rw [h2.length]; exact hl, A, ms, ρ, ds, R, h2, q⟩
    · exact q.elim
  · exact q.elim
def gSet : D → D → D → Option D
  | .lst cs, .int k, d => (L2.ixN cs.length k).map fun n => .lst (cs.set n d)
  | _, _, _ => none
def mgSub (j : Nat) (mi : ME) : MG := fun d ρ => match getO ρ j with
  | some (.lst _) => (mi ρ).bind fun i ρ1 => match getO ρ1 j with
    | some c => match gSet c i d with
      | some c' => .ok () (ρ1.set j (some c'))
      | none => .bad
    | none => .bad
  | _ => .bad
abbrev W0 : WX := fun _ _ _ _ => False
theorem dg_sub {j : Nat} {i : Expr} {mi : ME} {y : Str} {py : Pos} (hj : O.contains j = true) (hy : PE X (.Name y py) (tVar j)) (hi : DE X G O W0 i mi)
    (ha : ∀ v, assign (.Subscript (.Name y py) i pos) X.env v = (do
      let ov ← holding [v] (eval (.Name y py) X.env)
      let iv ← holding [v, ov] (eval i X.env)
      standAt pos
      holding [v, ov, iv] (setItem ov iv v)
      release [v, ov, iv] []) := by intro _; rfl) : DG X G O vs (.Subscript (.Name y py) i pos) (mgSub j mi) := by
  refine pg_imp (pg_sub hy hi set_list ha) fun v σ H Q ⟨A, ms, ρ, d, R, r, q⟩ => ?_
  have hj' := List.contains_iff_mem.mp hj
  unfold mgSub at q
  split at q
  · rename_i c hc
    obtain ⟨p, hp, hv, _⟩ := R.ow j _ (getO_some hc) hj'
    refine ⟨_, hv, A, ms, ρ, R, ?_⟩
    cases hm : mi ρ with
    | bad => rw [hm] at q; exact q.elim
    | ex y ρ1 => rw [hm] at q; exact q.elim
    | ok iv ρ1 =>
      rw [hm] at q
      intro iV H1 R1 k1 r1
      have q1 : GPost X.K G O vs A ms σ H Q (match getO ρ1 j with
        | some c => match gSet c iv d with
          | some c' => .ok () (ρ1.set j (some c'))
          | none => .bad
        | none => .bad) := q
      split at q1
      · rename_i c1 hc1
        split at q1
        · rename_i c2 hset
          cases c1 with
          | lst cs =>
            cases iv with
            | int kk =>
              obtain ⟨n, hn, rfl⟩ := map_some (show (L2.ixN cs.length kk).map (fun n => D.lst (cs.set n d)) = some c2 from hset)
              have b1 := getO_some hc1
              obtain ⟨p', hp', _, oj⟩ := R1.ow j _ b1 hj'
              rw [hp] at hp'
              cases hp'
              have aj := R.inA j p hj' hp
              obtain ⟨ws, hw, rw1⟩ := own_lst oj
              cases r1
              refine ⟨_, ws, kk, n, rfl, rfl, hw, by rw [rw1.length]; exact hn, ?_⟩
              refine q1 σ _ SlEq.refl (R1.setOwn hj' b1 hp upd_out (.lst upd_same ((rw1.upd aj).set n ((r.tr (R.kt k1)).upd aj)))) (k1.trans (Kp.own hj' hp upd_out))
            | _ => cases hset
          | _ => cases hset
        · exact q1.elim
      · exact q1.elim
  · exact q.elim
end
end DL
namespace DL
open L2 PySem PySem.Spec PyProof.Rows

def NPx (G : Gd) (j : Nat) : Prop := ∀ i a c, G.px = some (i, a, c) → i ≠ j
theorem NPx.no {G : Gd} {j : Nat} (h : G.px = none) : NPx G j := fun i a c e => by rw [h] at e; cases e
def obind {α : Type} (r : R α) (f : α → En → Out) : Out := match r with
  | .ok a ρ => f a ρ
  | .ex x ρ => .ex x ρ
  | .bad => .bad
def msNil : MS := fun ρ => .nx ρ
def msSeq (a b : MS) : MS := fun ρ => match a ρ with
  | .nx ρ1 => b ρ1
  | o => o
def msExpr (m : ME) : MS := fun ρ => obind (m ρ) fun _ ρ1 => .nx ρ1
def msAsg (m : ME) (g : MG) : MS := fun ρ => obind (m ρ) fun d ρ1 => match g d ρ1 with
  | .ok _ ρ2 => .nx ρ2
  | _ => .bad
def msOwn (i : Nat) (m : ME) : MS := fun ρ => obind (m ρ) fun d ρ1 => if i < ρ1.length then .nx (ρ1.set i (some d)) else .bad
def msRet (m : ME) : MS := fun ρ => obind (m ρ) fun d ρ1 => .rt d ρ1
def msRetN : MS := fun ρ => .rt .non ρ
def msRetO (j : Nat) : MS := fun ρ => match getO ρ j with
  | some d => .rt d ρ
  | none => .bad
def msIf (c : MT) (a b : MS) : MS := fun ρ => obind (c ρ) fun k ρ1 => if k = true then a ρ1 else b ρ1
def msBrk : MS := fun ρ => .bk ρ
def msCnt : MS := fun ρ => .ct ρ
def loopL (g : MG) (mb : MS) : List D → En → Out
  | [], ρ => .nx ρ
  | d :: r, ρ => match g d ρ with
    | .ok _ ρ1 => match mb ρ1 with
      | .nx ρ2 => loopL g mb r ρ2
      | .ct ρ2 => loopL g mb r ρ2
      | .bk ρ2 => .nx ρ2
      | o => o
    | _ => .bad
def msFor (mi : En → R (List D)) (g : MG) (mb : MS) : MS := fun ρ => obind (mi ρ) fun ds ρ1 => loopL g mb ds ρ1
def loopW (c : MT) (mb : MS) : Nat → En → Out
  | 0, _ => .bad
  | n + 1, ρ => match c ρ with
    | .ok true ρ1 => match mb ρ1 with
      | .nx ρ2 => loopW c mb n ρ2
      | .ct ρ2 => loopW c mb n ρ2
      | .bk ρ2 => .nx ρ2
      | o => o
    | .ok false ρ1 => .nx ρ1
    | .ex x ρ1 => .ex x ρ1
    | .bad => .bad
def msWhile (n : Nat) (c : MT) (mb : MS) : MS := loopW c mb n

section
variable {X : Cx} {G : Gd} {XC : List Nat → Prop} {Ol O O' O1 : List Nat} {W : WX} {fr : Bool} {st : Stmt} {sts rest : List Stmt} {ma mb mc : MS} {e c : Expr} {me : ME} {pos : Pos}
theorem dss_nil : DSs X G XC Ol O O W fr [] msNil := pss_imp pss_nil fun D0 σ H ⟨A, ms, ρ, R, q⟩ => q σ H A ms R Tr.refl
theorem dss_cons (h1 : DS X G XC Ol O O1 W fr st ma) (h2 : DSs X G XC Ol O1 O' W fr rest mb) : DSs X G XC Ol O O' W fr (st :: rest) (msSeq ma mb) := by
  refine pss_imp (pss_cons h1 h2) fun D0 σ H ⟨A, ms, ρ, R, q⟩ => ?_
  refine ⟨A, ms, ρ, R, ?_⟩
  unfold msSeq at q
  cases hm : ma ρ with
  | nx ρ1 =>
    rw [hm] at q
    exact fun σ' H' A' ms' R' t => ⟨A', ms', ρ1, R', SPost.from t q⟩
  | rt d ρ1 => rw [hm] at q; exact q
  | bk ρ1 => rw [hm] at q; exact q
  | ct ρ1 => rw [hm] at q; exact q
  | ex x ρ1 => rw [hm] at q; exact q
  | bad => rw [hm] at q; exact q.elim
theorem dss_one (h1 : DS X G XC Ol O O' W fr st ma) : DSs X G XC Ol O O' W fr [st] ma := pss_imp (pss_one h1) fun _ _ _ h => h
theorem eb {K : PySem.W.Frag} {α β : Type} {A : Addr → Prop} {ms : Nat → Option Addr} {σ : L2.St} {H : Hp} {D0 : Ends} {r : R α} {f : α → En → Out} {rel : Hp → β → α → Prop} {Q : β → Hp → Prop} (hx : XC O) (h : SPost K G XC Ol O' W fr A H D0 (obind r f))
    (w : ∀ a ρ1 v H1, r = .ok a ρ1 → RelS K G O A ms σ H1 ρ1 → Kp O ms H H1 → rel H1 v a → SPost K G XC Ol O' W fr A H1 D0 (f a ρ1) → Q v H1) : RPost K G O W A ms σ H rel Q r := by
  cases r with
  | ok a ρ1 => exact fun v H1 R k q => w a ρ1 v H1 rfl R k q (SPost.from (R.kt k) h)
  | ex x ρ1 => exact fun dx H1 R k xr => h dx σ H1 A ms O hx R (R.kt k) xr
  | bad => exact h
theorem ds_expr (hx : XC O) (he : DE X G O W e me) (hs : swapsWith e none pos.line X.env = pure false := by rfl) : DS X G XC Ol O O W fr (.Expr e pos) (msExpr me) := by
  refine ps_imp (ps_expr he hs) fun D0 σ H ⟨A, ms, ρ, R, q⟩ => ⟨A, ms, ρ, R, eb hx q ?_⟩
  exact fun a ρ1 v H1 _ R1 k r q1 => q1 σ H1 A ms R1 Tr.refl
theorem ds_doc {x j pos pos'} : DS X G XC Ol O O W fr (.Expr (.Constant (.str x) j pos) pos') msNil := ps_imp ps_doc fun D0 σ H ⟨A, ms, ρ, R, q⟩ => q σ H A ms R Tr.refl
theorem ds_pass : DS X G XC Ol O O W fr (.Pass pos) msNil := ps_imp ps_pass fun D0 σ H ⟨A, ms, ρ, R, q⟩ => q σ H A ms R Tr.refl
theorem ds_brk : DS X G XC O O O' W fr (.Break pos) msBrk := ps_imp ps_break fun D0 σ H ⟨A, ms, ρ, R, q⟩ => q σ H A ms R Tr.refl
theorem ds_cnt : DS X G XC O O O' W fr (.Continue pos) msCnt := ps_imp ps_continue fun D0 σ H ⟨A, ms, ρ, R, q⟩ => q σ H A ms R Tr.refl
theorem ds_asg {tg : Expr} {g : MG} {vs : List Nat} (hx : XC O) (he : DE X G O W e me) (hg : DG X G O vs tg g) (hs : swapsWithSole [tg] e pos.line X.env = pure false := by rfl) (hw : swappedStores [tg] e X.env = pure none := by rfl) (h1 : (assignEach [tg] X.env).map (·.2) = [assign tg X.env] := by rfl) : DS X G XC Ol O O W fr (.Assign [tg] e pos) (msAsg me g) := by
  refine ps_imp (ps_asg he hg hs hw h1) fun D0 σ H ⟨A, ms, ρ, R, q⟩ => ⟨A, ms, ρ, R, eb hx q ?_⟩
  intro d ρ1 v H1 _ R1 k r q1
  refine ⟨A, ms, ρ1, d, R1, r, ?_⟩
  cases hg' : g d ρ1 with
  | ok u ρ2 =>
    rw [hg'] at q1
    exact fun σ' H' _ R' k' => q1 σ' H' A ms R' (R'.kt k')
  | ex y ρ2 => rw [hg'] at q1; exact q1.elim
  | bad => rw [hg'] at q1; exact q1.elim
theorem RelS.own {K : PySem.W.Frag} {A : Addr → Prop} {ms : Nat → Option Addr} {σ : L2.St} {H : Hp} {ρ : En} {i : Nat} {p : Addr} {d : D} (R : RelS K G O (fun a => A a ∨ a = p) ms σ H ρ) (hi : i ∈ O) (h0 : i ≠ 0 ∨ G.io = none) (hlt : i < ρ.length)
    (nm : ∀ j ∈ O, ms j ≠ some p) (hpx : NPx G i) (hp0 : G.H0 p = none) (ow : Own K (fun a => A a ∨ a = p) H p d) : RelS K G O (fun a => A a ∨ a = p) (fun j => if j = i then some p else ms j) (σ.set i (some (.ref p))) H (ρ.set i (some d)) := by
  have gne : ∀ {j : Nat} {z : D}, j ≠ i → (ρ.set i (some d))[j]? = some (some z) → ρ[j]? = some (some z) := fun {j z} n e => by rw [set_get_ne n] at e; exact e
  exact {
    sub := R.sub
    trk0 := R.trk0
    trk := R.trk
    keep := R.keep
    len := by rw [List.length_set, List.length_set]; exact R.len
    fz := fun j z e n => by
      have h : j ≠ i := fun q => n (q ▸ hi)
      obtain ⟨w, e1, q⟩ := R.fz j z (gne h e) n
      exact ⟨w, by rw [List.getElem?_set_ne (Ne.symm h)]; exact e1, q⟩
    ow := fun j z e m => by
      by_cases h : j = i
      · subst h
        rw [List.getElem?_set_self hlt] at e
        cases e
        exact ⟨p, if_pos rfl, List.getElem?_set_self (by rw [R.len]; exact hlt), ow⟩
      · obtain ⟨q, e0, e1, w⟩ := R.ow j z (gne h e) m
        exact ⟨q, (if_neg h).trans e0, by rw [List.getElem?_set_ne (Ne.symm h)]; exact e1, w⟩
    inA := fun j q m e => by
      by_cases h : j = i
      · rw [if_pos h] at e
        exact .inr (Option.some.inj e).symm
      · rw [if_neg h] at e
        exact R.inA j q m e
    ok := fun j q m e => by
      by_cases h : j = i
      · rw [if_pos h] at e
        cases e
        exact .inr ⟨h ▸ h0, hp0⟩
      · rw [if_neg h] at e
        exact R.ok j q m e
    dist := fun j j' q m m' e e' => by
      by_cases h : j = i
      · by_cases h' : j' = i
        · exact h.trans h'.symm
        · rw [if_pos h] at e
          rw [if_neg h'] at e'
          cases e
          exact absurd e' (nm j' m')
      · by_cases h' : j' = i
        · rw [if_neg h] at e
          rw [if_pos h'] at e'
          cases e'
          exact absurd e (nm j m)
        · rw [if_neg h] at e
          rw [if_neg h'] at e'
          exact R.dist j j' q m m' e e'
    px := fun j a c e => let ⟨m, q⟩ := R.px j a c e; ⟨m, by rw [List.getElem?_set_ne fun z => hpx j a c e z.symm]; exact q⟩
    io := fun q e => by
      obtain ⟨h1, h2, h3, z, h4⟩ := R.io q e
      have hi0 : (0 : Nat) ≠ i := fun w => by
        rcases h0 with k | k
        · exact k w.symm
        · rw [k] at e; cases e
      exact ⟨h1, h2, by rw [if_neg hi0]; exact h3, z, by rw [set_get_ne hi0]; exact h4⟩ }
theorem h0_none {K : PySem.W.Frag} {A : Addr → Prop} {ms : Nat → Option Addr} {σ : L2.St} {H : Hp} {ρ : En} {p : Addr} (R : RelS K G O A ms σ H ρ) (hp : H p = none) : G.H0 p = none := by
  cases e : G.H0 p with
  | none => rfl
  | some o =>
    by_cases q : G.io = some p
    · obtain ⟨_, h2, _⟩ := R.io p q
      obtain ⟨o', e'⟩ := R.trk p (R.sub p h2)
      rw [hp] at e'; cases e'
    · have := R.keep p o e q
      rw [hp] at this; cases this
theorem ds_own {i : Nat} {x : Str} {p : Pos} (hx : XC O) (he : DF X G O W e me) (hi : O.contains i = true) (h0 : i ≠ 0 ∨ G.io = none) (hN : X.N.Nodup) (hn : X.N[i]? = some x) (hl : Loc X.env.scope x)
    (hf : X.fn x = true ∨ X.env.scope.names.lookup x = some .local := by first | exact .inl rfl | exact .inr rfl | assumption)
    (hs : swapsWithSole [.Name x p] e pos.line X.env = pure false := by rfl) (hw : swappedStores [.Name x p] e X.env = pure none := by rfl) (hpx : NPx G i := by first | exact NPx.no rfl | assumption) : DS X G XC Ol O O W fr (.Assign [.Name x p] e pos) (msOwn i me) := by
  refine ps_imp (ps_asg he (pg_name hN hn hl hf) hs hw) fun D0 σ H ⟨A, ms, ρ, R, q⟩ => ⟨A, ms, ρ, R, ?_⟩
  unfold msOwn at q
  cases hm : me ρ with
  | bad => rw [hm] at q; exact q.elim
  | ex y ρ1 => rw [hm] at q; exact fun dx H1 R1 k xr => q dx σ H1 A ms O hx R1 (R1.kt k) xr
  | ok d ρ1 =>
    rw [hm] at q
    intro r H1 R1 R2 k hr ow
    have q' : SPost X.K G XC Ol O W fr A H D0 (if i < ρ1.length then .nx (ρ1.set i (some d)) else .bad) := q
    split at q'
    · rename_i hlt
      refine q' _ H1 _ _ (R2.own (List.contains_iff_mem.mp hi) h0 hlt (R.msne hr) hpx (h0_none R hr) ow) fun a o e n => ⟨(R1.kt k a o e n).1, fun z => z.elim n fun z => ?_⟩
      rw [z, hr] at e
      cases e
    · exact q'.elim
theorem ret_of {K : PySem.W.Frag} {A : Addr → Prop} {ms : Nat → Option Addr} {σ : L2.St} {H : Hp} {ρ : En} {v : V} {d : D} (R : RelS K G O A ms σ H ρ) (r : Rp K A H v d) : RetG K G false v H d (io0 ρ) := ⟨R.ki, r.less R.sub, fun p e => (R.ioOwn e).less R.sub⟩
theorem ds_ret (hx : XC O) (he : DE X G O W e me) : DS X G XC Ol O O' W false (.Return (some e) pos) (msRet me) := by
  refine ps_imp (ps_ret he) fun D0 σ H ⟨A, ms, ρ, R, q⟩ => ⟨A, ms, ρ, R, eb hx q ?_⟩
  exact fun d ρ1 v H1 _ R1 k r q1 => q1 v H1 (ret_of R1 r)
theorem ds_retN : DS X G XC Ol O O' W false (.Return none pos) msRetN := by
  refine ps_imp ps_retN fun D0 σ H ⟨A, ms, ρ, R, q⟩ => ?_
  exact q .non H (ret_of R .non)
theorem ds_retF (hx : XC O) (he : DF X G O W e me) : DS X G XC Ol O O' W true (.Return (some e) pos) (msRet me) := by
  refine ps_imp (ps_ret he) fun D0 σ H ⟨A, ms, ρ, R, q⟩ => ⟨A, ms, ρ, R, ?_⟩
  unfold msRet at q
  cases hm : me ρ with
  | bad => rw [hm] at q; exact q.elim
  | ex y ρ1 => rw [hm] at q; exact fun dx H1 R1 k xr => q dx σ H1 A ms O hx R1 (R1.kt k) xr
  | ok d ρ1 =>
    rw [hm] at q
    intro r H1 R1 R2 k hr ow
    have less : ∀ a, (G.A0 a ∨ a = r) → (A a ∨ a = r) := fun a z => z.imp (R.sub a) id
    exact q (.ref r) H1 ⟨R1.ki, r, rfl, h0_none R hr, ow.less less, fun p e => (R2.ioOwn e).less less⟩
theorem ds_retO {j : Nat} {x : Str} {p : Pos} (hj : O.contains j = true) (h0 : j ≠ 0 ∨ G.io = none) (hy : PE X (.Name x p) (tVar j)) : DS X G XC Ol O O' W true (.Return (some (.Name x p)) pos) (msRetO j) := by
  refine ps_imp (ps_ret hy) fun D0 σ H ⟨A, ms, ρ, R, q⟩ => ?_
  unfold msRetO at q
  cases hc : getO ρ j with
  | none => rw [hc] at q; exact q.elim
  | some d =>
    rw [hc] at q
    have hj' := List.contains_iff_mem.mp hj
    have b := getO_some hc
    obtain ⟨p, e0, e1, oj⟩ := R.ow j d b hj'
    have aj := R.inA j p hj' e0
    have hp0 : G.H0 p = none := by
      rcases R.ok j p hj' e0 with ⟨z, w⟩ | ⟨_, w⟩
      · rcases h0 with k | k
        · exact absurd z k
        · rw [k] at w; cases w
      · exact w
    have less : ∀ a, (G.A0 a ∨ a = p) → A a := fun a z => z.elim (R.sub a) fun z => z ▸ aj
    exact ⟨_, e1, q (.ref p) H ⟨R.ki, p, rfl, hp0, oj.less less, fun p e => (R.ioOwn e).less less⟩⟩
theorem ds_retOv {j : Nat} {x : Str} {p : Pos} (hj : O.contains j = true) (h0 : j ≠ 0 ∨ G.io = none) (hy : PE X (.Name x p) (tVar j)) : DS X G XC Ol O O' W false (.Return (some (.Name x p)) pos) (msRetO j) := by
  refine ps_imp (ps_ret hy) fun D0 σ H ⟨A, ms, ρ, R, q⟩ => ?_
  unfold msRetO at q
  cases hc : getO ρ j with
  | none => rw [hc] at q; exact q.elim
  | some d =>
    rw [hc] at q
    have hj' := List.contains_iff_mem.mp hj
    have b := getO_some hc
    obtain ⟨p, e0, e1, oj⟩ := R.ow j d b hj'
    have aj := R.inA j p hj' e0
    have hp0 : G.H0 p = none := by
      rcases R.ok j p hj' e0 with ⟨z, w⟩ | ⟨_, w⟩
      · rcases h0 with k | k
        · exact absurd z k
        · rw [k] at w; cases w
      · exact w
    have n0 : ¬ G.A0 p := fun z => by
      obtain ⟨o, w⟩ := R.trk0 _ z
      rw [hp0] at w; cases w
    exact ⟨_, e1, q (.ref p) H ⟨R.ki, oj.freeze R.sub n0, fun p e => (R.ioOwn e).less R.sub⟩⟩
theorem ds_if {mt : MT} {a b : List Stmt} (hx : XC O) (hc : DT X G O W c mt) (ha : DSs X G XC Ol O O' W fr a ma) (hb : DSs X G XC Ol O O' W fr b mb) : DS X G XC Ol O O' W fr (.If c a b pos) (msIf mt ma mb) := by
  refine ps_imp (ps_if hc ha hb) fun D0 σ H ⟨A, ms, ρ, R, q⟩ => ⟨A, ms, ρ, R, eb hx q ?_⟩
  intro k ρ1 v H1 _ R1 k1 r q1
  cases r
  cases k with
  | true => exact ⟨A, ms, ρ1, R1, q1⟩
  | false => exact ⟨A, ms, ρ1, R1, q1⟩
def msAug (i : Nat) (g : D → D → Option D) (m : ME) : MS := fun ρ => match getO ρ i with
  | some a => obind (m ρ) fun b ρ1 => match g a b with
    | some d => if i < ρ1.length then .nx (ρ1.set i (some d)) else .bad
    | none => .bad
  | none => .bad
theorem ds_aug {i : Nat} {x : Str} {op : Operator} {g : D → D → Option D} {pos' : Pos} (hx : XC O) (hi : O.contains i = false) (hN : X.N.Nodup) (hn : X.N[i]? = some x) (hl : Loc X.env.scope x) (he : DE X G O W e me) (ho : OpR X (inplaceOp op) (rD2 X.K g))
    (hf : X.fn x = true ∨ X.env.scope.names.lookup x = some .local := by first | exact .inl rfl | exact .inr rfl | assumption) : DS X G XC Ol O O W fr (.AugAssign (.Name x pos') op e pos) (msAug i g me) := by
  refine ps_imp (ps_aug hN hn hl he (ti := rD2 X.K g) ho hf) fun D0 σ H ⟨A, ms, ρ, R, q⟩ => ?_
  have ni : i ∉ O := fun z => by rw [List.contains_iff_mem.mpr z] at hi; cases hi
  unfold msAug at q
  cases hc : getO ρ i with
  | none => rw [hc] at q; exact q.elim
  | some a =>
    rw [hc] at q
    obtain ⟨v, e1, ra⟩ := R.fz i a (getO_some hc) ni
    refine ⟨v, e1, A, ms, ρ, R, eb hx q ?_⟩
    intro b ρ1 w H1 _ R1 k r q1
    cases hg : g a b with
    | none => simp only [hg] at q1; exact q1.elim
    | some d =>
      simp only [hg] at q1
      refine ⟨A, a, b, d, R1.trk, .of (ra.tr (R.kt k)), .of r, hg, fun z H2 s rz => ?_⟩
      split at q1
      · rename_i hlt
        exact q1 _ H2 A ms ((R1.same s).put ni hlt rz) (Tr.same s)
      · exact q1.elim

def ItOk (K : PySem.W.Frag) (A : Addr → Prop) (H : Hp) (J : It) (ds : List D) : Prop := ∀ A' H', Tr A A' H H' → Trk A' H' → (∀ i d, ds[i]? = some d → J.go i H' ∧ ∀ x H'', J.yld i H' x H'' → Same H' H'' ∧ Rp K A' H'' x d) ∧ J.stop ds.length H'
def tI (K : PySem.W.Frag) (G : Gd) (O : List Nat) (W : WX) (m : En → R (List D)) : TI := fun σ H Q => ∃ A ms ρ, RelS K G O A ms σ H ρ ∧ RPost K G O W A ms σ H (fun H' J ds => ItOk K A H' J ds) Q (m ρ)
def DI (X : Cx) (G : Gd) (O : List Nat) (W : WX) (tg e : Expr) (m : En → R (List D)) : Prop := PI X tg e (tI X.K G O W m)
theorem pi_imp {tg e : Expr} {t t' : TI} (h : PI X tg e t) (w : ∀ σ H Q, t' σ H Q → t σ H Q) : PI X tg e t' := ⟨fun pins s σ H R I q => h.run pins s σ H R I (w σ H R q)⟩
theorem ItOk.tr {K : PySem.W.Frag} {A A1 : Addr → Prop} {H H1 : Hp} {J : It} {ds : List D} (h : ItOk K A H J ds) (t : Tr A A1 H H1) : ItOk K A1 H1 J ds := fun A' H' t' => h A' H' (t.trans t')
theorem ds_for {tg iter : Expr} {vs : List Nat} {body : List Stmt} {mi : En → R (List D)} {g : MG} (hx : XC O) (hp : PassesOwn (model X.prog X.w) X.A X.env X.xe) (hc : X.calm = true) (hi : DI X G O W tg iter mi) (hg : DG X G O vs tg g) (hb : DSs X G XC O O O W fr body mb)
    (hs : ∀ x, foldedSetIterable iter X.env x = pure x := by intro _; rfl) : DS X G XC Ol O O W fr (.For tg iter body [] pos) (msFor mi g mb) := by
  refine ps_imp (ps_for hp hc hi hg hb hs) fun D0 σ H ⟨A, ms, ρ, R, q⟩ => ⟨A, ms, ρ, R, eb hx q ?_⟩
  intro ds ρ1 J H1 _ R1 k1 itok q1
  refine ⟨fun i m σ' H' => i ≤ ds.length ∧ m = ds.length - i ∧ ∃ A' ms' ρ', RelS X.K G O A' ms' σ' H' ρ' ∧ Tr A A' H1 H' ∧ SPost X.K G XC Ol O W fr A' H' D0 (loopL g mb (ds.drop i) ρ'),
    ⟨ds.length, Nat.zero_le _, rfl, A, ms, ρ1, R1, Tr.refl, q1⟩, ?_⟩
  rintro i m σ2 H2 ⟨hi, rfl, A2, ms2, ρ2, R2, t2, q2⟩
  obtain ⟨goes, stops⟩ := itok A2 H2 t2 R2.trk
  by_cases hlt : i < ds.length
  · have hd : ds[i]? = some ds[i] := List.getElem?_eq_getElem hlt
    obtain ⟨go, yl⟩ := goes i _ hd
    have e : ds.drop i = ds[i] :: ds.drop (i + 1) := List.drop_eq_getElem_cons hlt
    rw [e] at q2
    refine .inr ⟨go, fun σ' H' => i + 1 ≤ ds.length ∧ ∃ A' ms' ρ', RelS X.K G O A' ms' σ' H' ρ' ∧ Tr A A' H1 H' ∧ SPost X.K G XC Ol O W fr A' H' D0 (loopL g mb (ds.drop (i + 1)) ρ'), fun σ' H' ⟨w1, w2⟩ => ⟨ds.length - (i + 1), by omega, w1, rfl, w2⟩, fun x H3 hy => ?_⟩
    obtain ⟨s3, rx⟩ := yl x H3 hy
    refine ⟨A2, ms2, ρ2, ds[i], R2.same s3, rx, ?_⟩
    have q3 : SPost X.K G XC Ol O W fr A2 H3 D0 (match g ds[i] ρ2 with
      | .ok _ ρ1 => match mb ρ1 with
        | .nx ρ2 => loopL g mb (ds.drop (i + 1)) ρ2
        | .ct ρ2 => loopL g mb (ds.drop (i + 1)) ρ2
        | .bk ρ2 => .nx ρ2
        | o => o
      | _ => .bad) := SPost.from (Tr.same s3) q2
    have t3 : Tr A A2 H1 H3 := t2.trans (Tr.same s3)
    cases hgd : g ds[i] ρ2 with
    | bad => rw [hgd] at q3; exact q3.elim
    | ex y ρ3 => rw [hgd] at q3; exact q3.elim
    | ok u ρ3 =>
      rw [hgd] at q3
      intro σ4 H4 _ R4 k4
      refine ⟨A2, ms2, ρ3, R4, ?_⟩
      have t4 : Tr A A2 H1 H4 := t3.trans (R4.kt k4)
      have q4 := SPost.from (R4.kt k4) q3
      cases hm : mb ρ3 with
      | nx ρ5 =>
        simp only [hm] at q4
        exact fun σ' H' A' ms' R' t => ⟨hlt, A', ms', ρ5, R', t4.trans t, SPost.from t q4⟩
      | ct ρ5 =>
        simp only [hm] at q4
        exact fun σ' H' A' ms' R' t => ⟨hlt, A', ms', ρ5, R', t4.trans t, SPost.from t q4⟩
      | bk ρ5 =>
        simp only [hm] at q4
        exact fun σ' H' A' ms' R' t => q4 σ' H' A' ms' R' t
      | rt d ρ5 => simp only [hm] at q4; exact q4
      | ex y ρ5 => simp only [hm] at q4; exact q4
      | bad => simp only [hm] at q4; exact q4.elim
  · have e : i = ds.length := by omega
    subst e
    refine .inl ⟨stops, ?_⟩
    have q3 : SPost X.K G XC Ol O W fr A2 H2 D0 (loopL g mb (ds.drop ds.length) ρ2) := q2
    rw [List.drop_length] at q3
    exact q3 σ2 H2 A2 ms2 R2 Tr.refl
theorem ds_while {mt : MT} {body : List Stmt} (n : Nat) (hx : XC O) (hp : PassesOwn (model X.prog X.w) X.A X.env X.xe) (hc : DT X G O W c mt) (hb : DSs X G XC O O O W fr body mb) : DS X G XC Ol O O W fr (.While c body [] pos) (msWhile n mt mb) := by
  refine ps_imp (ps_while hp hc hb) fun D0 σ H ⟨A, ms, ρ, R, q⟩ => ?_
  refine ⟨fun m σ' H' => ∃ A' ms' ρ', RelS X.K G O A' ms' σ' H' ρ' ∧ SPost X.K G XC Ol O W fr A' H' D0 (loopW mt mb m ρ'), ⟨n, A, ms, ρ, R, q⟩, ?_⟩
  rintro m σ1 H1 ⟨A1, ms1, ρ1, R1, q1⟩
  cases m with
  | zero => exact q1.elim
  | succ m =>
    refine ⟨A1, ms1, ρ1, R1, ?_⟩
    have q2 : SPost X.K G XC Ol O W fr A1 H1 D0 (match mt ρ1 with
      | .ok true ρ1 => match mb ρ1 with
        | .nx ρ2 => loopW mt mb m ρ2
        | .ct ρ2 => loopW mt mb m ρ2
        | .bk ρ2 => .nx ρ2
        | o => o
      | .ok false ρ1 => .nx ρ1
      | .ex x ρ1 => .ex x ρ1
      | .bad => .bad) := q1
    cases hm : mt ρ1 with
    | bad => rw [hm] at q2; exact q2.elim
    | ex y ρ2 => rw [hm] at q2; exact fun dx H' R' k xr => q2 dx σ1 H' A1 ms1 O hx R' (R'.kt k) xr
    | ok b ρ2 =>
      rw [hm] at q2
      intro v H2 R2 k2 rv
      cases rv
      have q3 := SPost.from (R2.kt k2) q2
      cases b with
      | false => exact q3 σ1 H2 A1 ms1 R2 Tr.refl
      | true =>
        rw [if_pos rfl]
        refine ⟨fun σ' H' => ∃ A' ms' ρ', RelS X.K G O A' ms' σ' H' ρ' ∧ SPost X.K G XC Ol O W fr A' H' D0 (loopW mt mb m ρ'), fun σ' H' w => ⟨m, Nat.lt_succ_self _, w⟩, A1, ms1, ρ2, R2, ?_⟩
        cases hb' : mb ρ2 with
        | nx ρ5 =>
          simp only [hb'] at q3
          exact fun σ' H' A' ms' R' t => ⟨A', ms', ρ5, R', SPost.from t q3⟩
        | ct ρ5 =>
          simp only [hb'] at q3
          exact fun σ' H' A' ms' R' t => ⟨A', ms', ρ5, R', SPost.from t q3⟩
        | bk ρ5 =>
          simp only [hb'] at q3
          exact fun σ' H' A' ms' R' t => q3 σ' H' A' ms' R' t
        | rt d ρ5 => simp only [hb'] at q3; exact q3
        | ex y ρ5 => simp only [hb'] at q3; exact q3
        | bad => simp only [hb'] at q3; exact q3.elim

theorem RelS.freezeSlot {K : PySem.W.Frag} {A : Addr → Prop} {ms : Nat → Option Addr} {σ : L2.St} {H : Hp} {ρ : En} {j : Nat} (R : RelS K G O A ms σ H ρ) (hpx : NPx G j) (h0 : j ≠ 0 ∨ G.io = none) (hO : ∀ i, i ∈ O1 ↔ i ∈ O ∧ i ≠ j) :
    ∃ A', RelS K G O1 A' ms σ H ρ ∧ Tr A A' H H := by
  have io1 : ∀ p, G.io = some p → 0 ∈ O1 ∧ G.A0 p ∧ ms 0 = some p ∧ ∃ d, ρ[0]? = some (some d) := fun p e => by
    obtain ⟨h1, h2, h3, z, h4⟩ := R.io p e
    refine ⟨(hO 0).mpr ⟨h1, fun w => ?_⟩, h2, h3, z, h4⟩
    rcases h0 with k | k
    · exact k w.symm
    · rw [k] at e; cases e
  by_cases hb : j ∈ O ∧ ∃ d, ρ[j]? = some (some d)
  · obtain ⟨hj, d, hd⟩ := hb
    obtain ⟨p, e0, e1, oj⟩ := R.ow j d hd hj
    have hp0 : G.H0 p = none := by
      rcases R.ok j p hj e0 with ⟨z, w⟩ | ⟨_, w⟩
      · rcases h0 with k | k
        · exact absurd z k
        · rw [k] at w; cases w
      · exact w
    have less : ∀ a, (A a ∧ a ≠ p) → A a := fun a z => z.1
    refine ⟨fun a => A a ∧ a ≠ p, ?_, fun a o e n => ⟨e, fun z => n z.1⟩⟩
    exact {
      sub := fun a z => ⟨R.sub a z, fun q => by
        obtain ⟨o, w⟩ := R.trk0 _ z
        rw [q, hp0] at w; cases w⟩
      trk0 := R.trk0
      trk := fun a z => R.trk a z.1
      keep := R.keep
      len := R.len
      fz := fun i z e n => by
        by_cases h : i = j
        · subst h
          rw [hd] at e
          cases e
          exact ⟨_, e1, oj.freeze less fun z => z.2 rfl⟩
        · obtain ⟨v, e2, q⟩ := R.fz i z e fun m => n ((hO i).mpr ⟨m, h⟩)
          exact ⟨v, e2, q.less less⟩
      ow := fun i z e m => by
        obtain ⟨q, w0, w1, w2⟩ := R.ow i z e ((hO i).mp m).1
        exact ⟨q, w0, w1, w2.less less⟩
      inA := fun i q m e => ⟨R.inA i q ((hO i).mp m).1 e, fun z => ((hO i).mp m).2 (R.dist i j p ((hO i).mp m).1 hj (z ▸ e) e0)⟩
      ok := fun i q m e => R.ok i q ((hO i).mp m).1 e
      dist := fun i i' q m m' e e' => R.dist i i' q ((hO i).mp m).1 ((hO i').mp m').1 e e'
      px := fun i a c e => let ⟨m, q⟩ := R.px i a c e; ⟨(hO i).mpr ⟨m, hpx i a c e⟩, q⟩
      io := io1 }
  · refine ⟨A, ?_, Tr.refl⟩
    exact {
      sub := R.sub
      trk0 := R.trk0
      trk := R.trk
      keep := R.keep
      len := R.len
      fz := fun i z e n => by
        by_cases h : i = j
        · subst h
          by_cases m : i ∈ O
          · exact absurd ⟨m, z, e⟩ hb
          · exact R.fz i z e m
        · exact R.fz i z e fun m => n ((hO i).mpr ⟨m, h⟩)
      ow := fun i z e m => R.ow i z e ((hO i).mp m).1
      inA := fun i q m e => R.inA i q ((hO i).mp m).1 e
      ok := fun i q m e => R.ok i q ((hO i).mp m).1 e
      dist := fun i i' q m m' e e' => R.dist i i' q ((hO i).mp m).1 ((hO i').mp m').1 e e'
      px := fun i a c e => let ⟨m, q⟩ := R.px i a c e; ⟨(hO i).mpr ⟨m, hpx i a c e⟩, q⟩
      io := io1 }
theorem dss_freeze (j : Nat) (h0 : j ≠ 0 ∨ G.io = none) (h : DSs X G XC Ol (O.filter (· != j)) O' W fr sts ma) (hpx : NPx G j := by first | exact NPx.no rfl | assumption) : DSs X G XC Ol O O' W fr sts ma := by
  refine pss_imp h fun D0 σ H ⟨A, ms, ρ, R, q⟩ => ?_
  obtain ⟨A', R', t⟩ := R.freezeSlot (O1 := O.filter (· != j)) hpx h0 fun i => by simp [List.mem_filter]
  exact ⟨A', ms, ρ, R', SPost.from t q⟩
theorem RelS.forget {K : PySem.W.Frag} {A : Addr → Prop} {ms : Nat → Option Addr} {σ : L2.St} {H : Hp} {ρ : En} {j : Nat} (R : RelS K G O A ms σ H ρ) (hpx : NPx G j) (h0 : j ≠ 0 ∨ G.io = none) (hO : ∀ i, i ≠ j → (i ∈ O1 ↔ i ∈ O)) :
    RelS K G O1 A (fun i => if i = j then none else ms i) σ H (ρ.set j none) := by
  have ne : ∀ {i : Nat} {z : D}, (ρ.set j none)[i]? = some (some z) → i ≠ j := fun {i z} e h => by
    subst h
    by_cases hl : i < ρ.length
    · rw [List.getElem?_set_self hl] at e; cases e
    · rw [List.getElem?_eq_none (by rw [List.length_set]; omega)] at e; cases e
  have g : ∀ {i : Nat} {z : D}, (ρ.set j none)[i]? = some (some z) → ρ[i]? = some (some z) := fun {i z} e => by
    have e' := e
    rw [set_get_ne (ne e)] at e'
    exact e'
  have sm : ∀ {i : Nat} {p : Addr}, (if i = j then none else ms i) = some p → i ≠ j ∧ ms i = some p := fun {i p} e => by
    by_cases h : i = j
    · rw [if_pos h] at e; cases e
    · rw [if_neg h] at e; exact ⟨h, e⟩
  exact {
    sub := R.sub
    trk0 := R.trk0
    trk := R.trk
    keep := R.keep
    len := by rw [List.length_set]; exact R.len
    fz := fun i z e n => R.fz i z (g e) fun m => n ((hO i (ne e)).mpr m)
    ow := fun i z e m => by
      obtain ⟨p, e0, e1, w⟩ := R.ow i z (g e) ((hO i (ne e)).mp m)
      exact ⟨p, (if_neg (ne e)).trans e0, e1, w⟩
    inA := fun i p m e => R.inA i p ((hO i (sm e).1).mp m) (sm e).2
    ok := fun i p m e => R.ok i p ((hO i (sm e).1).mp m) (sm e).2
    dist := fun i i' p m m' e e' => R.dist i i' p ((hO i (sm e).1).mp m) ((hO i' (sm e').1).mp m') (sm e).2 (sm e').2
    px := fun i a c e => let ⟨m, q⟩ := R.px i a c e; ⟨(hO i (hpx i a c e)).mpr m, q⟩
    io := fun p e => by
      obtain ⟨h1, h2, h3, z, h4⟩ := R.io p e
      have n0 : (0 : Nat) ≠ j := fun w => by
        rcases h0 with k | k
        · exact k w.symm
        · rw [k] at e; cases e
      exact ⟨(hO 0 n0).mpr h1, h2, (if_neg n0).trans h3, z, by rw [set_get_ne n0]; exact h4⟩ }
def msForget (j : Nat) (m : MS) : MS := fun ρ => m (ρ.set j none)
theorem dss_forgetO (j : Nat) (h0 : j ≠ 0 ∨ G.io = none) (h : DSs X G XC Ol (j :: O) O' W fr sts ma) (hpx : NPx G j := by first | exact NPx.no rfl | assumption) : DSs X G XC Ol O O' W fr sts (msForget j ma) := by
  refine pss_imp h fun D0 σ H ⟨A, ms, ρ, R, q⟩ => ?_
  exact ⟨A, _, _, R.forget hpx h0 fun i hi => by simp [hi], q⟩
end
end DL
namespace DL
open L2 PySem PySem.Spec PyProof.Rows

def chars (s : Str) : List D := s.cps.toList.map fun c => .str ⟨#[c]⟩
def gIter : D → Option (List D)
  | .lst l => some l
  | .scr l => some l
  | .tup l => some l
  | .str s => some (chars s)
  | _ => none
def mIter (m : ME) : En → R (List D) := fun ρ => (m ρ).bind fun d ρ1 => ret (gIter d) ρ1
def rangeL (lo : Int) (n : Nat) : List D := (List.range n).map fun i => .int (lo + (i : Nat))
def okR (i : Int) : Bool := decide (-(2 ^ 62) ≤ i) && decide (i < 2 ^ 62)
def gRange1 : List D → Option (List D)
  | [.int j] => if okR j = true then some (rangeL 0 j.toNat) else none
  | _ => none
def gRange2 : List D → Option (List D)
  | [.int i, .int j] => if okR i = true ∧ okR j = true then some (rangeL i (j - i).toNat) else none
  | _ => none
def mItN (g : List D → Option (List D)) (args : MA) : En → R (List D) := fun ρ => (args ρ).bind fun ds ρ1 => ret (g ds) ρ1
def enumL (l : List D) : List D := l.zipIdx.map fun p => .tup [.int (p.2 : Nat), p.1]
def gEnum : List D → Option (List D)
  | [.lst l] => some (enumL l)
  | _ => none
def gZip : List D → Option (List D)
  | [.lst l, .lst r] => some ((l.zip r).map fun p => .tup [p.1, p.2])
  | _ => none
section
variable {X : Cx} {G : Gd} {O : List Nat} {W : WX} {a b e : Expr} {es : List Expr} {me : ME} {mr : MA} {tg : Expr} {p pos tpos : Pos} {elts : List Expr} {kk : Nat}
theorem pi_or {t1 t2 : TI} (h1 : PI X tg e t1) (h2 : PI X tg e t2) : PI X tg e (fun σ H Q => t1 σ H Q ∨ t2 σ H Q) := ⟨fun pins s σ H Q I q => q.elim (h1.run pins s σ H Q I) (h2.run pins s σ H Q I)⟩
theorem sql_at {K : PySem.W.Frag} {A A' : Addr → Prop} {H H' : Hp} {a : Addr} {xs : List V} (h : SqLA K A H a xs) (t : Tr A A' H H') : SqL K H' a xs := (h.tr t).sq
theorem itok_list {K : PySem.W.Frag} {A : Addr → Prop} {H : Hp} {a : Addr} {xs : List V} {ds : List D} (h : SqLA K A H a xs) (r : RpA K A H xs ds) : ItOk K A H (Itl K a) ds := by
  intro A' H' t tk
  have h' := sql_at h t
  have hl := r.length
  refine ⟨fun i d e => ?_, ⟨xs, h', Nat.le_of_eq hl⟩⟩
  obtain ⟨v, e1, rv⟩ := r.get e
  refine ⟨⟨xs, v, h', e1⟩, fun x H'' ⟨eq, y⟩ => ?_⟩
  subst eq
  have := y xs h'
  rw [e1] at this
  cases this
  exact ⟨Same.refl _, rv.tr t⟩
theorem itok_tup {K : PySem.W.Frag} {A : Addr → Prop} {H : Hp} {a : Addr} {xs : List V} {ds : List D} (h : SqTA K A H a xs) (r : RpA K A H xs ds) : ItOk K A H (Itt K a) ds := by
  intro A' H' t tk
  have h' := (h.tr t).sq
  have hl := r.length
  refine ⟨fun i d e => ?_, ⟨xs, h', Nat.le_of_eq hl⟩⟩
  obtain ⟨v, e1, rv⟩ := r.get e
  refine ⟨⟨xs, v, h', e1⟩, fun x H'' ⟨eq, y⟩ => ?_⟩
  subst eq
  have := y xs h'
  rw [e1] at this
  cases this
  exact ⟨Same.refl _, rv.tr t⟩
theorem itok_str {K : PySem.W.Frag} {A : Addr → Prop} {H : Hp} (s : Str) : ItOk K A H (Its s) (chars s) := by
  intro A' H' t tk
  have hl : (chars s).length = s.cps.size := by unfold chars; rw [List.length_map, Array.length_toList]
  refine ⟨fun i d e => ?_, by show s.cps.size ≤ (chars s).length; omega⟩
  have hi := (List.getElem?_eq_some_iff.mp e).1
  refine ⟨by show i < s.cps.size; omega, fun x H'' ⟨eq, c, hc, hx⟩ => ?_⟩
  subst eq hx
  refine ⟨Same.refl _, ?_⟩
  unfold chars at e
  rw [List.getElem?_map, Array.getElem?_toList, hc] at e
  cases e
  exact .str _
theorem itok_rng {K : PySem.W.Frag} {A : Addr → Prop} {H : Hp} (lo : Int) (n : Nat) : ItOk K A H (Itr lo n) (rangeL lo n) := by
  intro A' H' t tk
  have hl : (rangeL lo n).length = n := by unfold rangeL; rw [List.length_map, List.length_range]
  refine ⟨fun i d e => ?_, by show n ≤ (rangeL lo n).length; omega⟩
  have hi := (List.getElem?_eq_some_iff.mp e).1
  refine ⟨by show i < n; omega, fun x H'' ⟨eq, hx⟩ => ?_⟩
  subst eq hx
  refine ⟨Same.refl _, ?_⟩
  unfold rangeL at e
  rw [List.getElem?_map, List.getElem?_range (by omega)] at e
  cases e
  exact .int _
theorem di_seq (he : DE X G O W e me) : DI X G O W tg e (mIter me) := by
  refine pi_imp (pi_or (pi_list he) (pi_or (pi_tup he) (pi_str he))) fun σ H Q ⟨A, ms, ρ, R, q⟩ => ?_
  unfold mIter at q
  cases hm : me ρ with
  | bad => rw [hm] at q; exact q.elim
  | ex x ρ1 =>
    rw [hm] at q
    exact .inl ⟨A, ms, ρ, R, by rw [hm]; exact q⟩
  | ok d ρ1 =>
    rw [hm] at q
    cases d with
    | lst l =>
      refine .inl ⟨A, ms, ρ, R, ?_⟩
      rw [hm]
      intro v H1 R1 k1 r1
      cases r1 with
      | lst h1 n1 rr => exact ⟨_, rfl, ⟨_, SqL.of h1⟩, q _ H1 R1 k1 (itok_list (.inl ⟨.inl h1, n1⟩) rr)⟩
    | scr l =>
      refine .inl ⟨A, ms, ρ, R, ?_⟩
      rw [hm]
      intro v H1 R1 k1 r1
      cases r1 with
      | scr h1 rr => exact ⟨_, rfl, ⟨_, h1.sq⟩, q _ H1 R1 k1 (itok_list h1 rr)⟩
    | tup l =>
      refine .inr (.inl ⟨A, ms, ρ, R, ?_⟩)
      rw [hm]
      intro v H1 R1 k1 r1
      cases r1 with
      | tup h1 rr => exact ⟨_, rfl, ⟨_, h1.sq⟩, q _ H1 R1 k1 (itok_tup h1 rr)⟩
    | str z =>
      refine .inr (.inr ⟨A, ms, ρ, R, ?_⟩)
      rw [hm]
      intro v H1 R1 k1 r1
      cases r1
      exact ⟨_, rfl, q _ H1 R1 k1 (itok_str z)⟩
    | _ => exact q.elim
theorem okR_ok {i : Int} (h : okR i = true) : -(2 ^ 62) ≤ i ∧ i < 2 ^ 62 := by
  unfold okR at h
  rw [Bool.and_eq_true] at h
  exact ⟨of_decide_eq_true h.1, of_decide_eq_true h.2⟩
theorem ite_l {α : Type} {c : Prop} [Decidable c] {x d : α} (h : (if c then some x else none) = some d) : c ∧ x = d := by
  by_cases q : c
  · rw [if_pos q] at h
    exact ⟨q, Option.some.inj h⟩
  · rw [if_neg q] at h
    cases h
theorem itn_go {t : TA} {g : List D → Option (List D)} {K : PySem.W.Frag} (ht : ∀ σ H Q, tA K G O W mr σ H Q → t σ H Q) {σ : L2.St} {H : Hp} {Q : It → Hp → Prop} {P : List V → Hp → Prop} (h : tI K G O W (mItN g mr) σ H Q)
    (w : ∀ A vs ds l H1, Trk A H1 → RpA K A H1 vs ds → g ds = some l → (∀ J, ItOk K A H1 J l → Q J H1) → P vs H1) : t σ H P := by
  obtain ⟨A, ms, ρ, R, q⟩ := h
  refine ht _ _ _ ⟨A, ms, ρ, R, q.bind.mono ?_⟩
  rintro vs H1 ⟨ds, ρ1, R1, k1, r1, q1⟩
  obtain ⟨l, hl, q2⟩ := rp_of (rel := fun H' J ds => ItOk K A H' J ds) R1 q1
  exact w A vs ds l H1 R1.trk r1 hl fun J it => q2 J H1 (Same.refl _) it
theorem di_range1 (hg : Gl X "range") (hm : X.mg "range" = none) (ha : DA X G O W [a] mr) (hs : starEach [a] X.env = [(false, eval a X.env)] := by rfl) : DI X G O W tg (.Call (.Name "range" p) [a] [] pos) (mItN gRange1 mr) := by
  refine pi_imp (pi_range1 hg hm ha hs) fun σ H Q h => itn_go (fun _ _ _ z => z) h fun A vs ds l H1 tk r hl q => ?_
  unfold gRange1 at hl
  split at hl
  · obtain ⟨hj, rfl⟩ := ite_l hl
    cases r with
    | cons r r' =>
      cases r'
      cases r
      exact ⟨_, rfl, (okR_ok hj).1, (okR_ok hj).2, q _ (itok_rng _ _)⟩
  · cases hl
theorem di_range2 (hg : Gl X "range") (hm : X.mg "range" = none) (ha : DA X G O W [a, b] mr) (hs : starEach [a, b] X.env = [(false, eval a X.env), (false, eval b X.env)] := by rfl) (hs2 : starEach [b] X.env = [(false, eval b X.env)] := by rfl) : DI X G O W tg (.Call (.Name "range" p) [a, b] [] pos) (mItN gRange2 mr) := by
  refine pi_imp (pi_range2 hg hm ha hs hs2) fun σ H Q h => itn_go (fun _ _ _ z => z) h fun A vs ds l H1 tk r hl q => ?_
  unfold gRange2 at hl
  split at hl
  · obtain ⟨hj, rfl⟩ := ite_l hl
    cases r with
    | cons r r' =>
      cases r' with
      | cons s s' =>
        cases s'
        cases r
        cases s
        exact ⟨_, _, rfl, ⟨(okR_ok hj.1).1, (okR_ok hj.1).2, (okR_ok hj.2).1, (okR_ok hj.2).2⟩, q _ (itok_rng _ _)⟩
  · cases hl
theorem di_enum (hg : Gl X "enumerate") (hm : X.mg "enumerate" = none) (ha : DA X G O W [e] mr) (hs : starEach [e] X.env = [(false, eval e X.env)] := by rfl) : DI X G O W (.Tuple elts kk tpos) (.Call (.Name "enumerate" p) [e] [] pos) (mItN gEnum mr) := by
  refine pi_imp (pi_enum hg hm ha hs) fun σ H Q h => itn_go (fun _ _ _ z => z) h fun A vs ds l H1 tk r hl q => ?_
  unfold gEnum at hl
  split at hl
  · rename_i zs
    cases hl
    cases r with
    | cons r r' =>
      cases r'
      cases r with
      | lst h1 n1 rr =>
        rename_i a xs
        refine ⟨a, xs, rfl, SqL.of h1, q _ fun A' H' t tk' => ?_⟩
        have sq : SqL X.K H' a xs := SqL.of (t _ _ h1 n1).1
        have hlen := rr.length
        have el : (enumL zs).length = zs.length := by unfold enumL; rw [List.length_map, List.length_zipIdx]
        refine ⟨fun i d e => ?_, ⟨xs, sq, by omega⟩⟩
        have hi := (List.getElem?_eq_some_iff.mp e).1
        rw [el] at hi
        have e2 : d = .tup [.int (i : Nat), zs[i]] := by
          unfold enumL at e
          rw [List.getElem?_map, List.getElem?_zipIdx, List.getElem?_eq_getElem hi] at e
          have := Option.some.inj e
          rw [← this]
          simp
        obtain ⟨v, ev, rv⟩ := rr.get (List.getElem?_eq_getElem hi)
        refine ⟨⟨xs, v, sq, ev⟩, ?_⟩
        rintro x H'' ⟨T, y, rfl, hT, rfl, hy⟩
        have := hy xs sq
        rw [ev] at this
        cases this
        rw [e2]
        exact ⟨same_upd hT, new_tup tk' (.cons (.int _) (.cons (rv.tr t) .nil)) hT⟩
  · cases hl
theorem di_zip {e2 : Expr} (hg : Gl X "zip") (hm : X.mg "zip" = none) (ha : DA X G O W [e, e2] mr) (hs : starEach [e, e2] X.env = (false, eval e X.env) :: starEach [e2] X.env := by rfl) (hpl : (backTo pos (starEach [e2] X.env)).any (·.1) = false := by rfl) :
    DI X G O W (.Tuple elts kk tpos) (.Call (.Name "zip" p) [e, e2] [] pos) (mItN gZip mr) := by
  refine pi_imp (pi_zip hg hm ha hs hpl) fun σ H Q h => itn_go (fun _ _ _ z => z) h fun A vs ds l H1 tk r hl q => ?_
  unfold gZip at hl
  split at hl
  · rename_i zs ws
    cases hl
    cases r with
    | cons r r' =>
      cases r' with
      | cons s s' =>
        cases s'
        cases r with
        | lst h1 n1 rr =>
          cases s with
          | lst h2 n2 ss =>
            rename_i a xs b ys
            refine ⟨a, b, xs, ys, rfl, SqL.of h1, SqL.of h2, q _ fun A' H' t tk' => ?_⟩
            have sx : SqL X.K H' a xs := SqL.of (t _ _ h1 n1).1
            have sy : SqL X.K H' b ys := SqL.of (t _ _ h2 n2).1
            have l1 := rr.length
            have l2 := ss.length
            refine ⟨fun i d e => ?_, ⟨xs, ys, sx, sy, by rw [List.length_map, List.length_zip]; omega⟩⟩
            have hi := (List.getElem?_eq_some_iff.mp e).1
            rw [List.length_map, List.length_zip] at hi
            have i1 : i < zs.length := by omega
            have i2 : i < ws.length := by omega
            have e2 : d = .tup [zs[i], ws[i]] := by
              rw [List.getElem?_map, List.getElem?_eq_getElem (by rw [List.length_zip]; omega), List.getElem_zip] at e
              have := Option.some.inj e
              rw [← this]
            obtain ⟨v, ev, rv⟩ := rr.get (List.getElem?_eq_getElem i1)
            obtain ⟨u, eu, ru⟩ := ss.get (List.getElem?_eq_getElem i2)
            refine ⟨⟨xs, ys, v, u, sx, sy, ev, eu⟩, ?_⟩
            rintro x H'' ⟨T, y, z, rfl, hT, rfl, hy, hz⟩
            have q1 := hy xs sx
            have q2 := hz ys sy
            rw [ev] at q1
            rw [eu] at q2
            cases q1
            cases q2
            rw [e2]
            exact ⟨same_upd hT, new_tup tk' (.cons (rv.tr t) (.cons (ru.tr t) .nil)) hT⟩
  · cases hl

def wipeE (ρ : En) : List Nat → En
  | [] => ρ
  | v :: vs => (wipeE ρ vs).set v none
def restE (ρ0 : En) : List Nat → En → En
  | [], ρ => ρ
  | v :: vs, ρ => (restE ρ0 vs ρ).set v (match ρ0[v]? with
    | some o => o
    | none => none)
def lcLoop (vs : List Nat) (g : MG) (mt : MT) (me : ME) : List D → En → R (List D)
  | [], ρ => .ok [] ρ
  | d :: r, ρ => match g d (wipeE ρ vs) with
    | .ok _ ρ1 => match mt ρ1 with
      | .ok true ρ2 => match me ρ2 with
        | .ok y ρ3 => match lcLoop vs g mt me r ρ3 with
          | .ok ys ρ4 => .ok (y :: ys) ρ4
          | _ => .bad
        | _ => .bad
      | .ok false ρ2 => lcLoop vs g mt me r ρ2
      | _ => .bad
    | _ => .bad
def mLc (vs : List Nat) (mi : En → R (List D)) (g : MG) (mt : MT) (me : ME) : ME := fun ρ => (mi ρ).bind fun ds ρ1 => match lcLoop vs g mt me ds ρ1 with
  | .ok ys ρ2 => if ys.length ≤ sizeLine then .ok (.lst ys) (restE ρ1 vs ρ2) else .bad
  | _ => .bad
def mYes : MT := fun ρ => .ok true ρ
theorem RelS.unset {K : PySem.W.Frag} {A : Addr → Prop} {ms : Nat → Option Addr} {σ : L2.St} {H : Hp} {ρ : En} {i : Nat} (R : RelS K G O A ms σ H ρ) (hi : i ∉ O) : RelS K G O A ms (σ.set i none) H (ρ.set i none) := by
  have ne : ∀ {j : Nat}, j ∈ O → j ≠ i := fun {j} m z => hi (z ▸ m)
  have g : ∀ {j : Nat} {z : D}, j ∈ O → (ρ.set i none)[j]? = some (some z) → ρ[j]? = some (some z) := fun {j z} m e => by rw [set_get_ne (ne m)] at e; exact e
  exact {
    sub := R.sub
    trk0 := R.trk0
    trk := R.trk
    keep := R.keep
    len := by rw [List.length_set, List.length_set]; exact R.len
    fz := fun j z e n => by
      by_cases h : j = i
      · subst h
        by_cases hl : j < ρ.length
        · rw [List.getElem?_set_self hl] at e; cases e
        · rw [List.getElem?_eq_none (by rw [List.length_set]; omega)] at e; cases e
      · rw [set_get_ne h] at e
        obtain ⟨w, e1, q⟩ := R.fz j z e n
        exact ⟨w, by rw [List.getElem?_set_ne (Ne.symm h)]; exact e1, q⟩
    ow := fun j z e m => by
      obtain ⟨p, e0, e1, q⟩ := R.ow j z (g m e) m
      exact ⟨p, e0, by rw [List.getElem?_set_ne (Ne.symm (ne m))]; exact e1, q⟩
    inA := R.inA
    ok := R.ok
    dist := R.dist
    px := fun j a c e => let ⟨m, q⟩ := R.px j a c e; ⟨m, by rw [List.getElem?_set_ne (Ne.symm (ne m))]; exact q⟩
    io := fun p e => by
      obtain ⟨h1, h2, h3, z, h4⟩ := R.io p e
      exact ⟨h1, h2, h3, z, by rw [set_get_ne (ne h1)]; exact h4⟩ }
theorem RelS.wipe {K : PySem.W.Frag} {A : Addr → Prop} {ms : Nat → Option Addr} {σ : L2.St} {H : Hp} {ρ : En} (R : RelS K G O A ms σ H ρ) : ∀ vs : List Nat, (∀ i ∈ vs, i ∉ O) → RelS K G O A ms (L2.wipe σ vs) H (wipeE ρ vs)
  | [], _ => R
  | v :: vs, h => (RelS.wipe R vs fun i m => h i (List.mem_cons_of_mem _ m)).unset (h v List.mem_cons_self)
theorem restE_len (ρ0 ρ : En) : ∀ vs, (restE ρ0 vs ρ).length = ρ.length
  | [] => rfl
  | v :: vs => by unfold restE; rw [List.length_set, restE_len ρ0 ρ vs]
theorem restE_out {ρ0 ρ : En} {i : Nat} : ∀ {vs : List Nat}, i ∉ vs → (restE ρ0 vs ρ)[i]? = ρ[i]?
  | [], _ => rfl
  | v :: vs, h => by
    unfold restE
    rw [set_get_ne fun e => h (by rw [e]; exact List.mem_cons_self)]
    exact restE_out fun m => h (List.mem_cons_of_mem _ m)
theorem restE_in {ρ0 ρ : En} (hl : ρ.length = ρ0.length) {i : Nat} : ∀ {vs : List Nat}, i ∈ vs → (restE ρ0 vs ρ)[i]? = ρ0[i]?
  | v :: vs, h => by
    unfold restE
    by_cases e : i = v
    · subst e
      by_cases hi : i < ρ0.length
      · rw [List.getElem?_set_self (by rw [restE_len, hl]; exact hi), List.getElem?_eq_getElem hi]
      · rw [List.getElem?_eq_none (by rw [List.length_set, restE_len, hl]; omega), List.getElem?_eq_none (by omega)]
    · rw [set_get_ne e]
      exact restE_in hl ((List.mem_cons.mp h).resolve_left e)
theorem wipe_get {σ : L2.St} {i : Nat} : ∀ {vs : List Nat}, i ∉ vs → (L2.wipe σ vs)[i]? = σ[i]?
  | [], _ => rfl
  | v :: vs, h => by
    show ((L2.wipe σ vs).set v none)[i]? = _
    rw [List.getElem?_set_ne fun e => h (by rw [← e]; exact List.mem_cons_self)]
    exact wipe_get fun m => h (List.mem_cons_of_mem _ m)
theorem wipe_at {σ : L2.St} {i : Nat} : ∀ {vs : List Nat}, i ∈ vs → i < σ.length → (L2.wipe σ vs)[i]? = some none
  | v :: vs, h, hl => by
    show ((L2.wipe σ vs).set v none)[i]? = _
    by_cases e : i = v
    · subst e
      exact List.getElem?_set_self (by rw [L2.wipe_length]; exact hl)
    · rw [List.getElem?_set_ne fun q => e q.symm]
      exact wipe_at ((List.mem_cons.mp h).resolve_left e) hl
theorem wipe_eq {σ σ2 : L2.St} {vs : List Nat} (h : SlEq vs (L2.wipe σ vs) σ2) : L2.wipe σ2 vs = L2.wipe σ vs := by
  apply List.ext_getElem?
  intro i
  have hl : σ2.length = σ.length := by rw [h.1, L2.wipe_length]
  by_cases m : i ∈ vs
  · by_cases hi : i < σ.length
    · rw [wipe_at m (by rw [hl]; exact hi), wipe_at m hi]
    · rw [List.getElem?_eq_none (by rw [L2.wipe_length, hl]; omega), List.getElem?_eq_none (by rw [L2.wipe_length]; omega)]
  · rw [wipe_get m, h.2 i m]
theorem RelS.rest {K : PySem.W.Frag} {A A' : Addr → Prop} {ms : Nat → Option Addr} {σ : L2.St} {H1 H : Hp} {ρ0 ρ : En} {vs : List Nat} (hv : ∀ i ∈ vs, i ∉ O) (R0 : RelS K G O A' ms σ H1 ρ0) (t : Tr A' A H1 H) (R : RelS K G O A ms (L2.wipe σ vs) H (wipeE ρ vs)) (hl : ρ.length = ρ0.length) :
    RelS K G O A ms σ H (restE ρ0 vs ρ) := by
  have wE : ∀ {i : Nat}, i ∉ vs → (wipeE ρ vs)[i]? = ρ[i]? := fun {i} => by
    induction vs with
    | nil => exact fun _ => rfl
    | cons v vs ih =>
      intro h
      show ((wipeE ρ vs).set v none)[i]? = _
      rw [set_get_ne fun e => h (by rw [e]; exact List.mem_cons_self)]
      have : ∀ vs : List Nat, i ∉ vs → (wipeE ρ vs)[i]? = ρ[i]? := fun vs => by
        induction vs with
        | nil => exact fun _ => rfl
        | cons v vs ih2 =>
          intro h
          show ((wipeE ρ vs).set v none)[i]? = _
          rw [set_get_ne fun e => h (by rw [e]; exact List.mem_cons_self)]
          exact ih2 fun m => h (List.mem_cons_of_mem _ m)
      exact this vs fun m => h (List.mem_cons_of_mem _ m)
  have g : ∀ {i : Nat}, i ∈ O → (restE ρ0 vs ρ)[i]? = (wipeE ρ vs)[i]? := fun {i} m => by
    have nv : i ∉ vs := fun z => hv i z m
    rw [restE_out nv, wE nv]
  exact {
    sub := R.sub
    trk0 := R.trk0
    trk := R.trk
    keep := R.keep
    len := by rw [restE_len, hl]; exact R0.len
    fz := fun i d e n => by
      by_cases m : i ∈ vs
      · rw [restE_in hl m] at e
        obtain ⟨v, e1, q⟩ := R0.fz i d e n
        exact ⟨v, e1, q.tr t⟩
      · rw [restE_out m, ← wE m] at e
        obtain ⟨v, e1, q⟩ := R.fz i d e n
        rw [wipe_get m] at e1
        exact ⟨v, e1, q⟩
    ow := fun i d e m => by
      rw [g m] at e
      obtain ⟨p, e0, e1, q⟩ := R.ow i d e m
      rw [wipe_get fun z => hv i z m] at e1
      exact ⟨p, e0, e1, q⟩
    inA := R.inA
    ok := R.ok
    dist := R.dist
    px := R0.px
    io := fun p e => by
      obtain ⟨h1, h2, h3, z, h4⟩ := R.io p e
      exact ⟨h1, h2, h3, z, by rw [g h1]; exact h4⟩ }
end
end DL
namespace DL
open L2 PySem PySem.Spec PyProof.Rows
section
variable {X : Cx} {G : Gd} {O : List Nat} {W : WX}
theorem wipeE_out {ρ : En} {i : Nat} : ∀ {vs : List Nat}, i ∉ vs → (wipeE ρ vs)[i]? = ρ[i]?
  | [], _ => rfl
  | v :: vs, h => by
    show ((wipeE ρ vs).set v none)[i]? = _
    rw [set_get_ne fun e => h (by rw [e]; exact List.mem_cons_self)]
    exact wipeE_out fun m => h (List.mem_cons_of_mem _ m)
theorem wipeE_len (ρ : En) : ∀ vs, (wipeE ρ vs).length = ρ.length
  | [] => rfl
  | v :: vs => by
    show ((wipeE ρ vs).set v none).length = _
    rw [List.length_set, wipeE_len ρ vs]
theorem RelS.rewipe {K : PySem.W.Frag} {A : Addr → Prop} {ms : Nat → Option Addr} {σ σ2 : L2.St} {H : Hp} {ρ : En} {vs : List Nat} (hv : ∀ i ∈ vs, i ∉ O) (e : SlEq vs (L2.wipe σ vs) σ2) (R : RelS K G O A ms σ2 H ρ) : RelS K G O A ms (L2.wipe σ vs) H (wipeE ρ vs) := by
  rw [← wipe_eq e]
  exact R.wipe vs hv
theorem lc_goes {K : PySem.W.Frag} {A : Addr → Prop} {ms : Nat → Option Addr} {σ : L2.St} {H1 : Hp} {ρ1 ρf : En} {vs : List Nat} {g : MG} {mt : MT} {me : ME} {tt : TT} {J : It} {ds ys : List D} {Q : VK} (hv : ∀ i ∈ vs, i ∉ O)
    (htt : ∀ σ H Q, tT K G O W0 mt σ H Q → tt σ H Q) (R1 : RelS K G O A ms σ H1 ρ1) (it : ItOk K A H1 J ds) (hl : lcLoop vs g mt me ds ρ1 = .ok ys ρf) (hz : ys.length ≤ sizeLine)
    (q : ∀ p H', RelS K G O A ms σ H' (restE ρ1 vs ρf) → RelS K G O (fun a => A a ∨ a = p) ms σ H' (restE ρ1 vs ρf) → Kp O ms H1 H' → H1 p = none → Own K (fun a => A a ∨ a = p) H' p (.lst ys) → Q (.ref p) H') :
    ∀ L, H1 L = none → ∃ Wv : Nat → Nat → Hp → Prop, (∃ m, Wv 0 m (upd H1 L (.lst []))) ∧ ∀ i m H, Wv i m H →
      (J.stop i H ∧ Q (.ref L) H) ∨ (J.go i H ∧ ∃ Nx : Hp → Prop, (∀ H', Nx H' → ∃ m', m' < m ∧ Wv (i + 1) m' H') ∧ ∀ x H', J.yld i H x H' → tG K G O vs g x (L2.wipe σ vs) H' fun σ2 H2 => L2.wipe σ2 vs = L2.wipe σ vs ∧ tt σ2 H2 fun b H3 =>
        if b = true then tE K G O W0 me σ2 H3 fun y H4 => ∃ acc, H4 L = some (.lst acc) ∧ acc.length < sizeLine ∧ Nx (upd H4 L (.lst (acc ++ [y]))) else Nx H3) := by
  intro L hL
  have s0 : Same H1 (upd H1 L (.lst [])) := same_upd hL
  have t0 : Tr A (fun a => A a ∨ a = L) H1 (upd H1 L (.lst [])) := fun a u e n => ⟨s0 _ _ e, fun z => z.elim n fun z => by rw [z, hL] at e; cases e⟩
  have R2 : RelS K G O (fun a => A a ∨ a = L) ms σ (upd H1 L (.lst [])) ρ1 := R1.grow hL s0 upd_same
  have nL : ∀ i ∈ O, ms i ≠ some L := R1.msne hL
  refine ⟨fun i m H => i ≤ ds.length ∧ m = ds.length - i ∧ (∃ ρi acc y0 rest, RelS K G O (fun a => A a ∨ a = L) ms (L2.wipe σ vs) H (wipeE ρi vs) ∧ (∀ a o, (upd H1 L (.lst [])) a = some o → a ≠ L → (∀ i ∈ O, ms i ≠ some a) → H a = some o) ∧ H L = some (.lst acc) ∧ RpA K (fun a => A a ∨ a = L) H acc y0 ∧
    lcLoop vs g mt me (ds.drop i) ρi = .ok rest ρf ∧ ys = y0 ++ rest ∧ ρi.length = ρ1.length), ⟨ds.length, Nat.zero_le _, rfl, ρ1, [], [], ys, R2.wipe vs hv, fun _ _ e _ _ => e, upd_same, .nil, hl, rfl, rfl⟩, ?_⟩
  rintro i m H ⟨hi, rfl, ρi, acc, y0, rest, R, k, hacc, racc, hrest, hys, hlen⟩
  have kA : Tr A (fun a => A a ∨ a = L) H1 H := fun a u e n => by
    have nl : a ≠ L := fun z => by rw [z, hL] at e; cases e
    exact ⟨k a u (s0 _ _ e) nl fun i m z => n (R1.inA i a m z), fun z => z.elim n nl⟩
  obtain ⟨goes, stops⟩ := it _ H kA R.trk
  by_cases hlt : i < ds.length
  · have hd : ds[i]? = some ds[i] := List.getElem?_eq_getElem hlt
    obtain ⟨go, yl⟩ := goes i _ hd
    have e : ds.drop i = ds[i] :: ds.drop (i + 1) := List.drop_eq_getElem_cons hlt
    rw [e] at hrest
    refine .inr ⟨go, fun H' => (∃ ρi acc y0 rest, RelS K G O (fun a => A a ∨ a = L) ms (L2.wipe σ vs) H' (wipeE ρi vs) ∧ (∀ a o, (upd H1 L (.lst [])) a = some o → a ≠ L → (∀ i ∈ O, ms i ≠ some a) → H' a = some o) ∧ H' L = some (.lst acc) ∧ RpA K (fun a => A a ∨ a = L) H' acc y0 ∧
      lcLoop vs g mt me (ds.drop (i + 1)) ρi = .ok rest ρf ∧ ys = y0 ++ rest ∧ ρi.length = ρ1.length), fun H' w => ⟨ds.length - (i + 1), by omega, hlt, rfl, w⟩, fun x H3 hy => ?_⟩
    obtain ⟨s3, rx⟩ := yl x H3 hy
    have R3 := R.same s3
    refine ⟨_, ms, wipeE ρi vs, ds[i], R3, rx, ?_⟩
    unfold lcLoop at hrest
    cases hg : g ds[i] (wipeE ρi vs) with
    | bad => rw [hg] at hrest; cases hrest
    | ex y ρ2 => rw [hg] at hrest; cases hrest
    | ok u ρ2 =>
      rw [hg] at hrest
      intro σ4 H4 e4 R4 k4
      refine ⟨wipe_eq e4, htt _ _ _ ⟨_, ms, ρ2, R4, ?_⟩⟩
      cases hmt : mt ρ2 with
      | bad => simp only [hmt] at hrest; cases hrest
      | ex y ρ3 => simp only [hmt] at hrest; cases hrest
      | ok b ρ3 =>
        simp only [hmt] at hrest
        intro b' H5 R5 k5 hb
        cases hb
        have len5 : ρ3.length = ρ1.length := by rw [← R5.len, e4.1, L2.wipe_length, R1.len]
        have k5' : ∀ a o, (upd H1 L (.lst [])) a = some o → a ≠ L → (∀ i ∈ O, ms i ≠ some a) → H5 a = some o := fun a o h1 h2 h3 => k5 a o (k4 a o (s3 _ _ (k a o h1 h2 h3)) h3) h3
        have acc5 : H5 L = some (.lst acc) := k5 _ _ (k4 _ _ (s3 _ _ hacc) nL) nL
        have tr5 : Tr (fun a => A a ∨ a = L) (fun a => A a ∨ a = L) H H5 := ((Tr.same s3).trans (R.kt k4)).trans (R.kt k5)
        cases b with
        | false =>
          rw [if_neg Bool.false_ne_true]
          exact ⟨ρ3, acc, y0, rest, R5.rewipe hv e4, k5', acc5, racc.tr tr5, hrest, hys, len5⟩
        | true =>
          rw [if_pos rfl]
          refine ⟨_, ms, ρ3, R5, ?_⟩
          cases hme : me ρ3 with
          | bad => simp only [hme] at hrest; cases hrest
          | ex y ρ4 => simp only [hme] at hrest; cases hrest
          | ok y ρ4 =>
            simp only [hme] at hrest
            cases hr : lcLoop vs g mt me (ds.drop (i + 1)) ρ4 with
            | bad => simp only [hr] at hrest; cases hrest
            | ex z ρ5 => simp only [hr] at hrest; cases hrest
            | ok ys' ρ5 =>
              simp only [hr] at hrest
              cases hrest
              intro w H6 R6 k6 rw6
              have acc6 : H6 L = some (.lst acc) := k6 _ _ acc5 nL
              have al : (fun a => A a ∨ a = L) L := .inr rfl
              have lenacc : acc.length < sizeLine := by
                have := racc.length
                rw [hys, List.length_append, List.length_cons] at hz
                omega
              refine ⟨acc, acc6, lenacc, ρ4, acc ++ [w], y0 ++ [y], ys', ?_, ?_, upd_same, ?_, hr, by rw [hys]; simp, by rw [← R6.len, e4.1, L2.wipe_length, R1.len]⟩
              · -- the new list grew: no slot's own
                have R7 := R6.rewipe hv e4
                have tr7 : Tr (fun a => A a ∨ a = L) (fun a => A a ∨ a = L) H6 (upd H6 L (.lst (acc ++ [w]))) := fun a o e n => ⟨upd_out a o e fun z => n (.inr z), n⟩
                exact {
                  sub := R7.sub
                  trk0 := R7.trk0
                  trk := fun a z => by
                    by_cases h : a = L
                    · rw [h]; exact ⟨_, upd_same⟩
                    · obtain ⟨o, e⟩ := R7.trk a z
                      exact ⟨o, upd_out a o e h⟩
                  keep := fun a o e n => by
                    have := R7.keep a o e n
                    refine upd_out a o this fun z => ?_
                    have h0 := R1.keep a o e n
                    rw [z, hL] at h0
                    cases h0
                  len := R7.len
                  fz := fun j d e n => let ⟨v, e1, q⟩ := R7.fz j d e n; ⟨v, e1, q.tr tr7⟩
                  ow := fun j d e n => let ⟨p, e0, e1, q⟩ := R7.ow j d e n; ⟨p, e0, e1, q.tr tr7 fun o z => upd_out _ _ z fun h => nL j n (h ▸ e0)⟩
                  inA := R7.inA
                  ok := R7.ok
                  dist := R7.dist
                  px := R7.px
                  io := R7.io }
              · exact fun a o h1 h2 h3 => upd_out a o (k6 a o (k5' a o h1 h2 h3) h3) h2
              · exact ((racc.tr (tr5.trans (R5.kt k6))).upd al).app (.cons (rw6.upd al) .nil)
  · have e : i = ds.length := by omega
    subst e
    rw [List.drop_length] at hrest
    cases hrest
    rw [List.append_nil] at hys
    subst hys
    refine .inl ⟨stops, ?_⟩
    have Rf : RelS K G O (fun a => A a ∨ a = L) ms σ H (restE ρ1 vs ρf) := RelS.rest hv R1 kA R hlen
    have kf : Kp O ms H1 H := fun a o e n => k a o (s0 _ _ e) (fun z => by rw [z, hL] at e; cases e) n
    exact q L H (Rf.less (fun a z => .inl z) R1.sub fun j p m z => R1.inA j p m z) Rf kf hL (.lst hacc racc)
abbrev ownS (own : List (Str × Nat)) : List Nat := own.map (·.2)
theorem lc_go {K : PySem.W.Frag} {own : List (Str × Nat)} {mi : En → R (List D)} {g : MG} {mt : MT} {me : ME} {tt : TT} (hv : (ownS own).all (fun i => !O.contains i) = true) (htt : ∀ σ H Q, tT K G O W0 mt σ H Q → tt σ H Q) {σ : L2.St} {H : Hp} {Q : VK} (h : tF K G O W (mLc (ownS own) mi g mt me) σ H Q) :
    tLc (tI K G O W mi) (tG K G O (ownS own) g) tt (tE K G O W0 me) (own.map (·.2)) σ H Q := by
  have hv' : ∀ i ∈ ownS own, i ∉ O := fun i m z => by
    have := List.all_eq_true.mp hv i m
    rw [List.contains_iff_mem.mpr z] at this
    cases this
  obtain ⟨A, ms, ρ, R, q⟩ := h
  refine ⟨A, ms, ρ, R, ?_⟩
  unfold mLc at q
  cases hm : mi ρ with
  | bad => rw [hm] at q; exact q.elim
  | ex x ρ1 => rw [hm] at q; exact q
  | ok ds ρ1 =>
    rw [hm] at q
    intro J H1 R1 k1 itok
    have q1 : FPost K G O W A ms σ H Q (match lcLoop (ownS own) g mt me ds ρ1 with
      | .ok ys ρ2 => if ys.length ≤ sizeLine then .ok (.lst ys) (restE ρ1 (ownS own) ρ2) else .bad
      | _ => .bad) := q
    cases hl : lcLoop (ownS own) g mt me ds ρ1 with
    | bad => rw [hl] at q1; exact q1.elim
    | ex x ρ2 => rw [hl] at q1; exact q1.elim
    | ok ys ρ2 =>
      rw [hl] at q1
      have q2 : FPost K G O W A ms σ H Q (if ys.length ≤ sizeLine then .ok (.lst ys) (restE ρ1 (ownS own) ρ2) else .bad) := q1
      split at q2
      · rename_i hz
        exact lc_goes hv' htt R1 itok hl hz fun p H' r1 r2 k hp ow => q2 p H' r1 r2 (k1.trans k) (Kp.none R1 k1 hp) ow
      · exact q2.elim
theorem df_lc {elt tg iter : Expr} {ifs : List Expr} {scope : Scope} {own : List (Str × Nat)} {pos : Pos} {mi : En → R (List D)} {g : MG} {mt : MT} {me : ME} {tt : TT} (hc : X.calm = true) (hN : X.N.Nodup) (hv : (ownS own).all (fun i => !O.contains i) = true)
    (hi : DI X G O W tg iter mi) (ok : BlkOk X.N X.env.scope scope own)
    (hg : ∀ (s : Shared) (H : Hp) (C : Addr) (cl : List (Str × Addr)) (fp : List Addr), DG (X.blk s H scope (compEnvC scope cl C X.env) fp) G O (ownS own) tg g)
    (ht : ∀ (s : Shared) (H : Hp) (C : Addr) (cl : List (Str × Addr)) (fp : List Addr), PTs (X.blk s H scope (compEnvC scope cl C X.env) fp) ifs tt) (htt : ∀ σ H Q, tT X.K G O W0 mt σ H Q → tt σ H Q)
    (he : ∀ (s : Shared) (H : Hp) (C : Addr) (cl : List (Str × Addr)) (fp : List Addr), DE (X.blk s H scope (compEnvC scope cl C X.env) fp) G O W0 elt me) (hs : ∀ x, foldedSetIterable iter X.env x = pure x := by intro _; rfl) :
    DF X G O W (.ListComp elt [⟨tg, iter, ifs, 0⟩] scope pos) (mLc (ownS own) mi g mt me) :=
  pe_imp (pe_lc (te := tE X.K G O W0 me) (tt := tt) (g := tG X.K G O (ownS own) g) hc hN hi ok hg ht he hs) fun _ _ _ h => lc_go hv htt h
theorem tYes_go {K : PySem.W.Frag} : ∀ σ H Q, tT K G O W0 mYes σ H Q → tYes σ H Q := fun σ H Q ⟨A, ms, ρ, R, q⟩ => q true H R Kp.refl rfl
end
end DL
namespace DL
open L2 PySem PySem.Spec PyProof.Rows

inductive Bx where
  | ex (m : ME)
  | ow (j : Nat)
def evB : Bx → ME
  | .ex m => m
  | .ow j => fun ρ => match getO ρ j with
    | some d => .ok d ρ
    | none => .bad
def rdB (b : Bx) (d : D) (ρ : En) : Option D := match b with
  | .ex _ => some d
  | .ow j => getO ρ j
def m1B (g : D → Option D) (b : Bx) : ME := fun ρ => (evB b ρ).bind fun x ρ1 => ret (g x) ρ1
def m2B (g : D → D → Option D) (a b : Bx) : ME := fun ρ => (evB a ρ).bind fun x ρ1 => (evB b ρ1).bind fun y ρ2 => ret ((rdB a x ρ2).bind fun x' => g x' y) ρ2
def DB (X : Cx) (G : Gd) (O : List Nat) (W : WX) (e : Expr) (b : Bx) : Prop := match b with
  | .ex m => DE X G O W e m
  | .ow j => O.contains j = true ∧ PE X e (tVar j)
section
variable {X : Cx} {G : Gd} {O : List Nat} {W : WX} {a b c e : Expr} {es : List Expr} {ma mb mc : ME} {ba bb : Bx} {mr : MA} {pos p : Pos} {x : Str}
theorem db_e (h : DE X G O W e ma) : DB X G O W e (.ex ma) := h
theorem db_o {j : Nat} (hj : O.contains j = true) (hy : PE X e (tVar j)) : DB X G O W e (.ow j) := ⟨hj, hy⟩
def tBx (K : PySem.W.Frag) (G : Gd) (O : List Nat) (W : WX) : Bx → TE
  | .ex m => tE K G O W m
  | .ow j => tVar j
theorem DB.pe (h : DB X G O W e ba) : PE X e (tBx X.K G O W ba) := by
  cases ba with
  | ex m => exact h
  | ow j => exact h.2
theorem own_at {K : PySem.W.Frag} {A : Addr → Prop} {ms : Nat → Option Addr} {σ : L2.St} {H : Hp} {ρ : En} {j : Nat} {d : D} (R : RelS K G O A ms σ H ρ) (hj : O.contains j = true) (h : getO ρ j = some d) : ∃ p, ms j = some p ∧ σ[j]? = some (some (.ref p)) ∧ Own K A H p d := R.ow j d (getO_some h) (List.contains_iff_mem.mp hj)
theorem own_b {K : PySem.W.Frag} {A : Addr → Prop} {H : Hp} {q : Addr} {l : List D} (h : Own K A H q (.lst l)) : RpB K A H (.ref q) (.lst l) := by
  cases h with
  | lst e r => exact .own e r
def LstOf (d : D) : Prop := ∀ c fs, d ≠ .obj c fs
theorem op2B_go {r : R2} {g : D → D → Option D} {K : PySem.W.Frag} (hA : ∀ j, ba = .ow j → O.contains j = true) (hB : ∀ j, bb = .ow j → O.contains j = true) (hl : ∀ c fs z, g (.obj c fs) z = none) (hr' : ∀ c fs z, g z (.obj c fs) = none)
    (hr : ∀ x y H Q, rD2 K g x y H Q → r x y H Q) {σ : L2.St} {H : Hp} {Q : VK} (h : tE K G O W (m2B g ba bb) σ H Q) : tOp r (tBx K G O W ba) (tBx K G O W bb) σ H Q := by
  obtain ⟨A, ms, ρ, R, q⟩ := h
  -- the second operand and the operation, the first one lying as x at the end
  have snd : ∀ (x : V) (d0 : D) (ρ1 : En) (H1 : Hp), RelS K G O A ms σ H1 ρ1 → Kp O ms H H1 →
      (∀ ρ2 H2 d', RelS K G O A ms σ H2 ρ2 → Kp O ms H1 H2 → rdB ba d0 ρ2 = some d' → (∀ c fs, d' ≠ .obj c fs) → RpB K A H2 x d') →
      RPost K G O W A ms σ H1 (Rp K A) Q ((evB bb ρ1).bind fun y ρ2 => ret ((rdB ba d0 ρ2).bind fun x' => g x' y) ρ2) → tBx K G O W bb σ H1 fun y H2 => r x y H2 Q := by
    intro x d0 ρ1 H1 R1 k1 hx q1
    have fin : ∀ (y : V) (d2 : D) (ρ2 : En) (H2 : Hp), RelS K G O A ms σ H2 ρ2 → Kp O ms H1 H2 → ((∀ c fs, d2 ≠ .obj c fs) → RpB K A H2 y d2) → RPost K G O W A ms σ H2 (Rp K A) Q (ret ((rdB ba d0 ρ2).bind fun x' => g x' d2) ρ2) → r x y H2 Q := by
      intro y d2 ρ2 H2 R2' k2 r2 q2
      obtain ⟨z, hz, q3⟩ := rp_of R2' q2
      cases hd : rdB ba d0 ρ2 with
      | none => rw [hd] at hz; cases hz
      | some d' =>
        rw [hd] at hz
        have hz' : g d' d2 = some z := hz
        have n1 : ∀ c fs, d' ≠ .obj c fs := fun c fs w => by rw [w, hl] at hz'; cases hz'
        have n2 : ∀ c fs, d2 ≠ .obj c fs := fun c fs w => by rw [w, hr'] at hz'; cases hz'
        exact hr _ _ _ _ ⟨A, d', d2, z, R2'.trk, hx ρ2 H2 d' R2' k2 hd n1, r2 n2, hz', q3⟩
    cases bb with
    | ex m =>
      refine ⟨A, ms, ρ1, R1, RPost.mono (RPost.bind q1) ?_⟩
      rintro y H2 ⟨d2, ρ2, R2', k2, r2, q2⟩
      exact fin y d2 ρ2 H2 R2' k2 (fun _ => .of r2) q2
    | ow j =>
      unfold evB at q1
      cases hj : getO ρ1 j with
      | none => simp only [hj] at q1; exact q1.elim
      | some d2 =>
        simp only [hj] at q1
        obtain ⟨pj, h1, h2, h3⟩ := own_at R1 (hB j rfl) hj
        refine ⟨_, h2, fin _ d2 ρ1 H1 R1 Kp.refl (fun n => ?_) q1⟩
        cases d2 with
        | lst l => exact own_b h3
        | obj c fs => exact absurd rfl (n c fs)
        | _ => cases h3
  cases ba with
  | ex m =>
    refine ⟨A, ms, ρ, R, RPost.mono (RPost.bind q) ?_⟩
    rintro x H1 ⟨d, ρ1, R1, k1, r1, q1⟩
    exact snd x d ρ1 H1 R1 k1 (fun ρ2 H2 d' R2' k2 e _ => by cases e; exact .of (r1.tr (R1.kt k2))) q1
  | ow j =>
    have q' : RPost K G O W A ms σ H (Rp K A) Q ((evB (.ow j) ρ).bind fun x ρ1 => (evB bb ρ1).bind fun y ρ2 => ret ((rdB (.ow j) x ρ2).bind fun x' => g x' y) ρ2) := q
    have e1 : evB (.ow j) ρ = (match getO ρ j with | some d => .ok d ρ | none => .bad) := rfl
    rw [e1] at q'
    cases hj : getO ρ j with
    | none => simp only [hj] at q'; exact q'.elim
    | some d =>
      simp only [hj] at q'
      obtain ⟨pj, h1, h2, h3⟩ := own_at R (hA j rfl) hj
      refine ⟨_, h2, snd _ d ρ H R Kp.refl (fun ρ2 H2 d' R2' k2 e n => ?_) q'⟩
      obtain ⟨pj', h1', h2', h3'⟩ := own_at R2' (hA j rfl) e
      rw [h1] at h1'
      cases h1'
      cases d' with
      | lst l => exact own_b h3'
      | obj c fs => exact absurd rfl (n c fs)
      | _ => cases h3'
theorem DB.own (h : DB X G O W e ba) : ∀ j, ba = .ow j → O.contains j = true := fun j w => by subst w; exact h.1
structure NoObj (g : D → D → Option D) : Prop where
  l : ∀ c fs z, g (.obj c fs) z = none
  r : ∀ c fs z, g z (.obj c fs) = none
theorem de_ixB {g : D → D → Option D} (hr : IxR X (rD2 X.K g)) (n : NoObj g) (ha : DB X G O W a ba) (hb : DB X G O W b bb) (hs : PlainIx b) : DE X G O W (.Subscript a b pos) (m2B g ba bb) :=
  pe_imp (pe_ix hr ha.pe hb.pe hs) fun _ _ _ h => op2B_go ha.own hb.own n.l n.r (fun _ _ _ _ z => z) h
theorem de_cmpB {op : CmpOp} {g : D → D → Option D} (ho : OpR X (compareOp op) (rD2 X.K g)) (n : NoObj g) (ha : DB X G O W a ba) (hb : DB X G O W b bb) (hm : behindInMarks op b = false) : DE X G O W (.Compare a [op] [b] pos) (m2B g ba bb) :=
  pe_imp (pe_cmpR ho ha.pe hb.pe hm) fun _ _ _ h => op2B_go ha.own hb.own n.l n.r (fun _ _ _ _ z => z) h
theorem dt_cmpB {op : CmpOp} {g : D → D → Option D} (ho : OpR X (compareOp op) (rD2 X.K g)) (n : NoObj g) (ha : DB X G O W a ba) (hb : DB X G O W b bb) (hm : behindInMarks op b = false) : DT X G O W (.Compare a [op] [b] pos) (mTest (m2B g ba bb)) :=
  pt_imp (pt_cmpR ho ha.pe hb.pe hm) fun _ _ _ h => test_go (fun _ _ _ z => op2B_go ha.own hb.own n.l n.r (fun _ _ _ _ z => z) z) h
theorem de_binB {op : Operator} {g : D → D → Option D} (ho : OpR X (binaryOp op) (rD2 X.K g)) (n : NoObj g) (ha : DB X G O W a ba) (hb : DB X G O W b bb) : DE X G O W (.BinOp a op b pos) (m2B g ba bb) :=
  pe_imp (pe_op ho ha.pe hb.pe) fun _ _ _ h => op2B_go ha.own hb.own n.l n.r (fun _ _ _ _ z => z) h
def mTruO (j : Nat) : MT := fun ρ => match getO ρ j with
  | some (.lst l) => .ok (!l.isEmpty) ρ
  | _ => .bad
theorem dt_truO {j : Nat} (hj : O.contains j = true) (ha : PE X a (tVar j)) (he : ∀ whole, isTrue a X.env whole = (do let v ← whole; standAt a.pos; holding [v] (truthy v)) := by intro _; rfl) : DT X G O W a (mTruO j) := by
  refine pt_imp (pt_truth ha he) fun σ H Q ⟨A, ms, ρ, R, q⟩ => ?_
  unfold mTruO at q
  split at q
  · rename_i l h
    obtain ⟨pj, h1, h2, h3⟩ := own_at R hj h
    refine ⟨_, h2, !l.isEmpty, ?_, q _ H R Kp.refl rfl⟩
    cases h3 with
    | lst e r =>
      refine .inl ⟨_, SqL.of e, ?_⟩
      cases r <;> rfl
  · exact q.elim

def gIx (a b : D) : Option D := match a, b with
  | .lst l, .int i => L2.atI l i
  | .scr l, .int i => L2.atI l i
  | .tup l, .int i => L2.atI l i
  | .str z, .int i => if z.length ≤ sizeLine then (L2.atI z.cps.toList i).map fun c => .str ⟨#[c]⟩ else none
  | _, _ => none
theorem gIx_no : NoObj gIx := ⟨fun _ _ z => by cases z <;> rfl, fun _ _ z => by cases z <;> rfl⟩
theorem at_rp {K : PySem.W.Frag} {A : Addr → Prop} {H : Hp} {xs : List V} {ds : List D} {i : Int} {d : D} (h : RpA K A H xs ds) (e : L2.atI ds i = some d) : ∃ v, L2.atI xs i = some v ∧ Rp K A H v d := by
  unfold L2.atI at e ⊢
  rw [h.length]
  cases hj : ixN ds.length i with
  | none => rw [hj] at e; cases e
  | some j =>
    rw [hj] at e
    exact h.get (show ds[j]? = some d from e)
theorem ix_d : IxR X (rD2 X.K gIx) := by
  intro value slice pins s σ H x y v u Q I rx ry ⟨A, a, b, d, t, pa, pb, e, q⟩ hs
  cases a with
  | lst l =>
    cases b with
    | int i =>
      obtain ⟨p, xs, rfl, h1, r1⟩ := pa.lst
      obtain ⟨w, hw, rw'⟩ := at_rp r1 (show L2.atI l i = some d from e)
      rw [pb.int] at ry
      exact ix_list value slice pins s σ H _ _ v u Q I rx ry ⟨p, xs, i, w, rfl, rfl, SqL.of h1, hw, q w H (Same.refl _) rw'⟩ hs
    | _ => cases e
  | scr l =>
    cases b with
    | int i =>
      obtain ⟨p, xs, rfl, h1, r1⟩ := pa.scr
      obtain ⟨w, hw, rw'⟩ := at_rp r1 (show L2.atI l i = some d from e)
      rw [pb.int] at ry
      exact ix_list value slice pins s σ H _ _ v u Q I rx ry ⟨p, xs, i, w, rfl, rfl, h1.sq, hw, q w H (Same.refl _) rw'⟩ hs
    | _ => cases e
  | tup l =>
    cases b with
    | int i =>
      obtain ⟨p, xs, rfl, h1, r1⟩ := pa.tup
      obtain ⟨w, hw, rw'⟩ := at_rp r1 (show L2.atI l i = some d from e)
      rw [pb.int] at ry
      exact ix_tup value slice pins s σ H _ _ v u Q I rx ry ⟨p, xs, i, w, rfl, rfl, h1.sq, hw, q w H (Same.refl _) rw'⟩ hs
    | _ => cases e
  | str z =>
    cases b with
    | int i =>
      have e' : (if z.length ≤ sizeLine then (L2.atI z.cps.toList i).map (fun c => D.str ⟨#[c]⟩) else none) = some d := e
      split at e'
      · rename_i hz
        obtain ⟨c, hc, rfl⟩ := map_some e'
        rw [pa.str] at rx
        rw [pb.int] at ry
        exact ix_str value slice pins s σ H _ _ v u Q I rx ry ⟨z, i, c, rfl, rfl, hz, hc, q _ H (Same.refl _) (.str _)⟩ hs
      · cases e'
    | _ => cases e
  | _ => cases b <;> cases e

def cutD (xs : List D) (lo hi : Option Int) : List D := (xs.drop (HT.sIx xs.length 0 lo)).take (HT.sIx xs.length xs.length hi - HT.sIx xs.length 0 lo)
def gSl (d : D) (lo hi : Option Int) : Option D := match d with
  | .lst l => some (.lst (cutD l lo hi))
  | .tup l => some (.tup (cutD l lo hi))
  | .str z => if z.length ≤ sizeLine then some (.str (L2.cutS z lo hi)) else none
  | _ => none
theorem cut_rp {K : PySem.W.Frag} {A : Addr → Prop} {H : Hp} {xs : List V} {ds : List D} (h : RpA K A H xs ds) (lo hi : Option Int) : RpA K A H (L2.cutV xs lo hi) (cutD ds lo hi) := by
  unfold L2.cutV cutD
  rw [h.length]
  exact (h.drop _).take _
def rSlD (K : PySem.W.Frag) : V → Option Int → Option Int → Hp → VK → Prop := fun x lo hi H Q => ∃ A a d, Trk A H ∧ RpB K A H x a ∧ gSl a lo hi = some d ∧ ∀ v H', Same H H' → Rp K A H' v d → Fr K A H H' v d → Q v H'
theorem cutD_whole {l : List D} {lo hi : Option Int} (h : HT.sIx l.length 0 lo = 0 ∧ HT.sIx l.length l.length hi = l.length) : cutD l lo hi = l := by
  unfold cutD
  rw [h.1, h.2, List.drop_zero, Nat.sub_zero, List.take_length]
theorem sl_d : SlR X (rSlD X.K) := by
  intro pins s σ H x v vl vu lo hi sl Q I rx hs pl pu ⟨A, a, d, t, pa, e, q⟩
  cases a with
  | lst l =>
    cases e
    obtain ⟨p, xs, rfl, h1, r1⟩ := pa.lst
    exact sl_list pins s σ H _ v vl vu lo hi sl Q I rx hs pl pu ⟨p, xs, rfl, SqL.of h1, fun r hr => q _ _ (same_upd hr) (new_lst t (cut_rp r1 lo hi) hr) (new_fr t (cut_rp r1 lo hi) hr)⟩
  | tup l =>
    cases e
    obtain ⟨p, xs, rfl, h1, r1⟩ := pa.tup
    have hl := r1.length
    refine sl_tupA pins s σ H _ v vl vu lo hi sl Q I rx hs pl pu ⟨p, xs, rfl, h1.sq, fun w => ?_, fun _ r hr => q _ _ (same_upd hr) (new_tup t (cut_rp r1 lo hi) hr) (no_fr fun _ => nofun)⟩
    rw [hl] at w
    rw [cutD_whole w] at q
    exact q _ _ (Same.refl _) (.tup h1 r1) (no_fr fun _ => nofun)
  | str z =>
    obtain ⟨hz, rfl⟩ := ite_d (x := .str (L2.cutS z lo hi)) e
    rw [pa.str] at rx
    exact sl_str pins s σ H _ v vl vu lo hi sl Q I rx hs pl pu ⟨z, rfl, hz, q _ H (Same.refl _) (.str _) (no_fr fun _ => nofun)⟩
  | _ => cases e
abbrev MP := En → R (Option Int)
def mNoP : MP := fun ρ => .ok none ρ
def asI : D → Option (Option Int)
  | .int i => some (some i)
  | _ => none
def mPart (m : ME) : MP := fun ρ => (m ρ).bind fun d ρ1 => ret (asI d) ρ1
def tP (K : PySem.W.Frag) (G : Gd) (O : List Nat) (W : WX) (m : MP) : TO := fun σ H Q => ∃ A ms ρ, RelS K G O A ms σ H ρ ∧ RPost K G O W A ms σ H (fun _ => Eq) Q (m ρ)
def DP (X : Cx) (G : Gd) (O : List Nat) (W : WX) (e : Option Expr) (m : MP) : Prop := PO X e (tP X.K G O W m)
theorem po_imp {e : Option Expr} {t t' : TO} (h : PO X e t) (w : ∀ σ H Q, t' σ H Q → t σ H Q) : PO X e t' := ⟨fun pins s σ H Q I q => h.run pins s σ H Q I (w σ H Q q)⟩
theorem dp_no : DP X G O W none mNoP := po_imp po_none fun σ H Q ⟨A, ms, ρ, R, q⟩ => q none H R Kp.refl rfl
theorem dp_e (h : DE X G O W e ma) : DP X G O W (some e) (mPart ma) := by
  refine po_imp (po_some h) fun σ H Q ⟨A, ms, ρ, R, q⟩ => ⟨A, ms, ρ, R, RPost.mono (RPost.bind q) ?_⟩
  rintro x H1 ⟨d, ρ1, R1, k1, r1, q1⟩
  obtain ⟨z, hz, q2⟩ := rp_of (rel := fun _ => @Eq (Option Int)) R1 q1
  cases d with
  | int i =>
    cases hz
    cases r1
    exact ⟨i, rfl, q2 _ H1 (Same.refl _) rfl⟩
  | _ => cases hz
def mSl (b : Bx) (l h : MP) : ME := fun ρ => (evB b ρ).bind fun x ρ1 => (l ρ1).bind fun lo ρ2 => (h ρ2).bind fun hi ρ3 => ret ((rdB b x ρ3).bind fun x' => gSl x' lo hi) ρ3
theorem fpost_of {K : PySem.W.Frag} {A : Addr → Prop} {ms : Nat → Option Addr} {σ : L2.St} {H H1 : Hp} {Q : VK} {ρ1 : En} {d : D} {v : V} {H2 : Hp} (h : FPost K G O W A ms σ H Q (.ok d ρ1)) (R : RelS K G O A ms σ H1 ρ1) (k : Kp O ms H H1) (s : Same H1 H2) (hl : ∃ l, d = .lst l) (f : Fr K A H1 H2 v d) : Q v H2 := by
  obtain ⟨l, rfl⟩ := hl
  obtain ⟨p, rfl, hp, ow⟩ := f l rfl
  obtain ⟨o, e⟩ := ow.there
  exact h p H2 (R.same s) (R.grow hp s e) (k.trans (Kp.same s)) (Kp.none R k hp) ow

theorem FPost.from {K : PySem.W.Frag} {A : Addr → Prop} {ms : Nat → Option Addr} {σ : L2.St} {H H1 : Hp} {ρ1 : En} {Q : VK} {r : R D} (R : RelS K G O A ms σ H1 ρ1) (k : Kp O ms H H1) (h : FPost K G O W A ms σ H Q r) : FPost K G O W A ms σ H1 Q r := by
  cases r with
  | ok d ρ => exact fun p H' R1 R2 k' hp ow => h p H' R1 R2 (k.trans k') (Kp.none R k hp) ow
  | ex x ρ => exact fun dx H' R1 k' q => h dx H' R1 (k.trans k') q
  | bad => exact h
theorem FPost.bind {α β : Type} {K : PySem.W.Frag} {A : Addr → Prop} {ms : Nat → Option Addr} {σ : L2.St} {H : Hp} {Q : VK} {rel : Hp → β → α → Prop} {r : R α} {f : α → En → R D} (h : FPost K G O W A ms σ H Q (r.bind f)) :
    RPost K G O W A ms σ H rel (fun v H1 => ∃ d ρ1, RelS K G O A ms σ H1 ρ1 ∧ Kp O ms H H1 ∧ rel H1 v d ∧ FPost K G O W A ms σ H1 Q (f d ρ1)) r := by
  cases r with
  | ok d ρ => exact fun v H' R k' q => ⟨d, ρ, R, k', q, FPost.from R k' h⟩
  | ex x ρ => exact h
  | bad => exact h
def isL (d : D) : Option D := match d with
  | .lst l => some (.lst l)
  | _ => none
theorem isL_some {d z : D} (h : isL d = some z) : d = z ∧ ∃ l, d = .lst l := by
  cases d with
  | lst l => cases h; exact ⟨rfl, l, rfl⟩
  | _ => cases h
theorem fp_fin {K : PySem.W.Frag} {A : Addr → Prop} {ms : Nat → Option Addr} {σ : L2.St} {H1 H2 : Hp} {Q : VK} {ρ1 : En} {g : Option D} {d : D} {v : V} (h : FPost K G O W A ms σ H1 Q (ret (g.bind isL) ρ1)) (hg : g = some d) (R : RelS K G O A ms σ H1 ρ1) (s : Same H1 H2) (f : Fr K A H1 H2 v d) : Q v H2 := by
  subst hg
  cases d with
  | lst l => exact fpost_of (d := .lst l) h R Kp.refl s ⟨l, rfl⟩ f
  | _ => exact h.elim
theorem fp_some {K : PySem.W.Frag} {A : Addr → Prop} {ms : Nat → Option Addr} {σ : L2.St} {H1 : Hp} {Q : VK} {ρ1 : En} {g : Option D} (h : FPost K G O W A ms σ H1 Q (ret (g.bind isL) ρ1)) : ∃ l, g = some (.lst l) := by
  cases g with
  | none => exact h.elim
  | some d => cases d with
    | lst l => exact ⟨l, rfl⟩
    | _ => exact h.elim
def mL (m : ME) : ME := fun ρ => (m ρ).bind fun d ρ1 => ret (isL d) ρ1
def mSlF (b : Bx) (l h : MP) : ME := fun ρ => (evB b ρ).bind fun x ρ1 => (l ρ1).bind fun lo ρ2 => (h ρ2).bind fun hi ρ3 => ret (((rdB b x ρ3).bind fun x' => gSl x' lo hi).bind isL) ρ3
variable {lo hi : Option Expr} {ml mh : MP} {p2 : Pos}
theorem sl_go {K : PySem.W.Frag} (hA : ∀ j, ba = .ow j → O.contains j = true) {σ : L2.St} {H : Hp} {Q : VK} (h : tE K G O W (mSl ba ml mh) σ H Q) : tSl (rSlD K) (tBx K G O W ba) (tP K G O W ml) (tP K G O W mh) σ H Q := by
  obtain ⟨A, ms, ρ, R, q⟩ := h
  have snd : ∀ (x : V) (d0 : D) (ρ1 : En) (H1 : Hp), RelS K G O A ms σ H1 ρ1 → (∀ ρ2 H2 d', RelS K G O A ms σ H2 ρ2 → Kp O ms H1 H2 → rdB ba d0 ρ2 = some d' → (∀ c fs, d' ≠ .obj c fs) → RpB K A H2 x d') →
      RPost K G O W A ms σ H1 (Rp K A) Q ((ml ρ1).bind fun lo ρ2 => (mh ρ2).bind fun hi ρ3 => ret ((rdB ba d0 ρ3).bind fun x' => gSl x' lo hi) ρ3) → tP K G O W ml σ H1 fun l H2 => tP K G O W mh σ H2 fun u H3 => rSlD K x l u H3 Q := by
    intro x d0 ρ1 H1 R1 hx q1
    refine ⟨A, ms, ρ1, R1, RPost.mono (RPost.bind q1) ?_⟩
    rintro l H2 ⟨lo, ρ2, R2', k2, rfl, q2⟩
    refine ⟨A, ms, ρ2, R2', RPost.mono (RPost.bind q2) ?_⟩
    rintro u H3 ⟨hi, ρ3, R3, k3, rfl, q3⟩
    obtain ⟨z, hz, q4⟩ := rp_of R3 q3
    cases hd : rdB ba d0 ρ3 with
    | none => rw [hd] at hz; cases hz
    | some d' =>
      rw [hd] at hz
      exact ⟨A, d', z, R3.trk, hx ρ3 H3 d' R3 (k2.trans k3) hd (fun c fs w => by subst w; cases hz), hz, fun v H' s r _ => q4 v H' s r⟩
  cases ba with
  | ex m =>
    refine ⟨A, ms, ρ, R, RPost.mono (RPost.bind q) ?_⟩
    rintro x H1 ⟨d, ρ1, R1, k1, r1, q1⟩
    exact snd x d ρ1 H1 R1 (fun ρ2 H2 d' R2' k2 e _ => by cases e; exact .of (r1.tr (R1.kt k2))) q1
  | ow j =>
    have q' : RPost K G O W A ms σ H (Rp K A) Q ((evB (.ow j) ρ).bind fun x ρ1 => (ml ρ1).bind fun lo ρ2 => (mh ρ2).bind fun hi ρ3 => ret ((rdB (.ow j) x ρ3).bind fun x' => gSl x' lo hi) ρ3) := q
    have e1 : evB (.ow j) ρ = (match getO ρ j with | some d => .ok d ρ | none => .bad) := rfl
    rw [e1] at q'
    cases hj : getO ρ j with
    | none => simp only [hj] at q'; exact q'.elim
    | some d =>
      simp only [hj] at q'
      obtain ⟨pj, h1, h2, h3⟩ := own_at R (hA j rfl) hj
      refine ⟨_, h2, snd _ d ρ H R (fun ρ2 H2 d' R2' k2 e n => ?_) q'⟩
      obtain ⟨pj', h1', h2', h3'⟩ := own_at R2' (hA j rfl) e
      rw [h1] at h1'
      cases h1'
      cases d' with
      | lst l => exact own_b h3'
      | obj c fs => exact absurd rfl (n c fs)
      | _ => cases h3'
theorem slF_go {K : PySem.W.Frag} (hA : ∀ j, ba = .ow j → O.contains j = true) {σ : L2.St} {H : Hp} {Q : VK} (h : tF K G O W (mSlF ba ml mh) σ H Q) : tSl (rSlD K) (tBx K G O W ba) (tP K G O W ml) (tP K G O W mh) σ H Q := by
  obtain ⟨A, ms, ρ, R, q⟩ := h
  have snd : ∀ (x : V) (d0 : D) (ρ1 : En) (H1 : Hp), RelS K G O A ms σ H1 ρ1 → (∀ ρ2 H2 d', RelS K G O A ms σ H2 ρ2 → Kp O ms H1 H2 → rdB ba d0 ρ2 = some d' → (∀ c fs, d' ≠ .obj c fs) → RpB K A H2 x d') →
      FPost K G O W A ms σ H1 Q ((ml ρ1).bind fun lo ρ2 => (mh ρ2).bind fun hi ρ3 => ret (((rdB ba d0 ρ3).bind fun x' => gSl x' lo hi).bind isL) ρ3) → tP K G O W ml σ H1 fun l H2 => tP K G O W mh σ H2 fun u H3 => rSlD K x l u H3 Q := by
    intro x d0 ρ1 H1 R1 hx q1
    refine ⟨A, ms, ρ1, R1, RPost.mono (FPost.bind q1) ?_⟩
    rintro l H2 ⟨lo, ρ2, R2', k2, rfl, q2⟩
    refine ⟨A, ms, ρ2, R2', RPost.mono (FPost.bind q2) ?_⟩
    rintro u H3 ⟨hi, ρ3, R3, k3, rfl, q3⟩
    obtain ⟨z, hz⟩ := fp_some q3
    cases hd : rdB ba d0 ρ3 with
    | none => rw [hd] at hz; cases hz
    | some d' =>
      have hz' := hz
      rw [hd] at hz'
      exact ⟨A, d', _, R3.trk, hx ρ3 H3 d' R3 (k2.trans k3) hd (fun c fs w => by subst w; cases hz'), hz', fun v H' s r f => fp_fin q3 hz R3 s f⟩
  cases ba with
  | ex m =>
    refine ⟨A, ms, ρ, R, RPost.mono (FPost.bind q) ?_⟩
    rintro x H1 ⟨d, ρ1, R1, k1, r1, q1⟩
    exact snd x d ρ1 H1 R1 (fun ρ2 H2 d' R2' k2 e _ => by cases e; exact .of (r1.tr (R1.kt k2))) q1
  | ow j =>
    have q' : FPost K G O W A ms σ H Q ((evB (.ow j) ρ).bind fun x ρ1 => (ml ρ1).bind fun lo ρ2 => (mh ρ2).bind fun hi ρ3 => ret (((rdB (.ow j) x ρ3).bind fun x' => gSl x' lo hi).bind isL) ρ3) := q
    have e1 : evB (.ow j) ρ = (match getO ρ j with | some d => .ok d ρ | none => .bad) := rfl
    rw [e1] at q'
    cases hj : getO ρ j with
    | none => simp only [hj] at q'; exact q'.elim
    | some d =>
      simp only [hj] at q'
      obtain ⟨pj, h1, h2, h3⟩ := own_at R (hA j rfl) hj
      refine ⟨_, h2, snd _ d ρ H R (fun ρ2 H2 d' R2' k2 e n => ?_) q'⟩
      obtain ⟨pj', h1', h2', h3'⟩ := own_at R2' (hA j rfl) e
      rw [h1] at h1'
      cases h1'
      cases d' with
      | lst l => exact own_b h3'
      | obj c fs => exact absurd rfl (n c fs)
      | _ => cases h3'
theorem de_sl (ha : DB X G O W a ba) (hl : DP X G O W lo ml) (hh : DP X G O W hi mh) : DE X G O W (.Subscript a (.Slice lo hi none p2) pos) (mSl ba ml mh) := pe_imp (pe_slice sl_d ha.pe hl hh) fun _ _ _ h => sl_go ha.own h
theorem df_sl (ha : DB X G O W a ba) (hl : DP X G O W lo ml) (hh : DP X G O W hi mh) : DF X G O W (.Subscript a (.Slice lo hi none p2) pos) (mSlF ba ml mh) := pe_imp (pe_slice sl_d ha.pe hl hh) fun _ _ _ h => slF_go ha.own h
def m2F (g : D → D → Option D) (a b : ME) : ME := fun ρ => (a ρ).bind fun x ρ1 => (b ρ1).bind fun y ρ2 => ret ((g x y).bind isL) ρ2
theorem df_bin {op : Operator} {g : D → D → Option D} (ho : OpR X (binaryOp op) (rF2 X.K g)) (ha : DE X G O W a ma) (hb : DE X G O W b mb) : DF X G O W (.BinOp a op b pos) (m2F g ma mb) := by
  refine pe_imp (pe_op ho ha hb) fun σ H Q ⟨A, ms, ρ, R, q⟩ => ⟨A, ms, ρ, R, RPost.mono (FPost.bind q) ?_⟩
  rintro x H1 ⟨d, ρ1, R1, k1, r1, q1⟩
  refine ⟨A, ms, ρ1, R1, RPost.mono (FPost.bind q1) ?_⟩
  rintro y H2 ⟨d2, ρ2, R2', k2, r2, q2⟩
  obtain ⟨z, hz⟩ := fp_some q2
  exact ⟨A, d, d2, _, R2'.trk, .of (r1.tr (R1.kt k2)), .of r2, hz, fun v H' s r f => fp_fin q2 hz R2' s f⟩

theorem cN_go {g : List D → Option D} {K : PySem.W.Frag} {σ : L2.St} {H : Hp} {Q : VK} (h : tE K G O W (mN g mr) σ H Q) : tCB (rDN K g) (tA K G O W mr) σ H Q := by
  obtain ⟨A, ms, ρ, R, q⟩ := h
  refine ⟨A, ms, ρ, R, RPost.mono (RPost.bind q) ?_⟩
  rintro vs H1 ⟨ds, ρ1, R1, k1, r1, q1⟩
  obtain ⟨z, hz, q2⟩ := rp_of R1 q1
  exact ⟨A, ds, z, R1.trk, .inl r1, hz, q2⟩
def mNF (g : List D → Option D) (a : MA) : ME := fun ρ => (a ρ).bind fun xs ρ1 => ret ((g xs).bind isL) ρ1
theorem cF_go {g : List D → Option D} {K : PySem.W.Frag} {σ : L2.St} {H : Hp} {Q : VK} (h : tF K G O W (mNF g mr) σ H Q) : tCB (rFN K g) (tA K G O W mr) σ H Q := by
  obtain ⟨A, ms, ρ, R, q⟩ := h
  refine ⟨A, ms, ρ, R, RPost.mono (FPost.bind q) ?_⟩
  rintro vs H1 ⟨ds, ρ1, R1, k1, r1, q1⟩
  obtain ⟨z, hz⟩ := fp_some q1
  exact ⟨A, ds, _, R1.trk, .inl r1, hz, fun v H' s r f => fp_fin q1 hz R1 s f⟩
theorem rFN.weak {f : Value} {g : List D → Option D} (h : CallR X f (rFN X.K g)) : CallR X f (rDN X.K g) := fun pins s σ H xs us Q I r ⟨A, ds, d, t, p, e, q⟩ => h pins s σ H xs us Q I r ⟨A, ds, d, t, p, e, fun v H' s r _ => q v H' s r⟩
def mNO (g : List D → Option D) (j : Nat) : ME := fun ρ => match getO ρ j with
  | some (.lst l) => ret (g [.lst l]) ρ
  | _ => .bad
def mNOF (g : List D → Option D) (j : Nat) : ME := fun ρ => match getO ρ j with
  | some (.lst l) => ret ((g [.lst l]).bind isL) ρ
  | _ => .bad
def tOwn1 (j : Nat) : TA := tCons (tVar j) tNil
theorem cNO_go {g : List D → Option D} {K : PySem.W.Frag} {j : Nat} (hj : O.contains j = true) {σ : L2.St} {H : Hp} {Q : VK} (h : tE K G O W (mNO g j) σ H Q) : tCB (rDN K g) (tOwn1 j) σ H Q := by
  obtain ⟨A, ms, ρ, R, q⟩ := h
  unfold mNO at q
  split at q
  · rename_i l hl
    obtain ⟨pj, h1, h2, h3⟩ := own_at R hj hl
    obtain ⟨z, hz, q2⟩ := rp_of R q
    exact ⟨_, h2, A, _, z, R.trk, .inr ⟨_, _, rfl, rfl, own_b h3⟩, hz, q2⟩
  · exact q.elim
theorem cNOF_go {g : List D → Option D} {K : PySem.W.Frag} {j : Nat} (hj : O.contains j = true) {σ : L2.St} {H : Hp} {Q : VK} (h : tF K G O W (mNOF g j) σ H Q) : tCB (rFN K g) (tOwn1 j) σ H Q := by
  obtain ⟨A, ms, ρ, R, q⟩ := h
  unfold mNOF at q
  split at q
  · rename_i l hl
    obtain ⟨pj, h1, h2, h3⟩ := own_at R hj hl
    obtain ⟨z, hz⟩ := fp_some q
    exact ⟨_, h2, A, _, _, R.trk, .inr ⟨_, _, rfl, rfl, own_b h3⟩, hz, fun v H' s r f => fp_fin q hz R s f⟩
  · exact q.elim
section
variable {id T : String} {g : List D → Option D} {j : Nat}
theorem de_b (hv : bootBuiltins x = some (.builtin id)) (hc : CallR X (.builtin id) (rDN X.K g)) (hg : Gl X x) (hm : X.mg x = none) (ha : DA X G O W (e :: es) mr) (hn : x ≠ "__name__" := by decide) (hdb : (x == ("__debug__" : Str)) = false := by decide)
    (he : starEach (e :: es) X.env = (false, eval e X.env) :: starEach es X.env := by rfl) (hpl : (backTo pos (starEach es X.env)).any (·.1) = false := by rfl) : DE X G O W (.Call (.Name x p) (e :: es) [] pos) (mN g mr) :=
  pe_imp (pe_callB hc hg hm hv ha hn hdb he hpl) fun _ _ _ h => cN_go h
theorem de_ty (hv : bootBuiltins x = some (.type T)) (hc : CallR X (.type T) (rDN X.K g)) (hg : Gl X x) (hm : X.mg x = none) (ha : DA X G O W (e :: es) mr) (hn : x ≠ "__name__" := by decide) (hdb : (x == ("__debug__" : Str)) = false := by decide)
    (he : starEach (e :: es) X.env = (false, eval e X.env) :: starEach es X.env := by rfl) (hpl : (backTo pos (starEach es X.env)).any (·.1) = false := by rfl) : DE X G O W (.Call (.Name x p) (e :: es) [] pos) (mN g mr) :=
  pe_imp (pe_callTy hc hg hm hv ha hn hdb he hpl) fun _ _ _ h => cN_go h
theorem df_b (hv : bootBuiltins x = some (.builtin id)) (hc : CallR X (.builtin id) (rFN X.K g)) (hg : Gl X x) (hm : X.mg x = none) (ha : DA X G O W (e :: es) mr) (hn : x ≠ "__name__" := by decide) (hdb : (x == ("__debug__" : Str)) = false := by decide)
    (he : starEach (e :: es) X.env = (false, eval e X.env) :: starEach es X.env := by rfl) (hpl : (backTo pos (starEach es X.env)).any (·.1) = false := by rfl) : DF X G O W (.Call (.Name x p) (e :: es) [] pos) (mNF g mr) :=
  pe_imp (pe_callB hc hg hm hv ha hn hdb he hpl) fun _ _ _ h => cF_go h
theorem df_ty (hv : bootBuiltins x = some (.type T)) (hc : CallR X (.type T) (rFN X.K g)) (hg : Gl X x) (hm : X.mg x = none) (ha : DA X G O W (e :: es) mr) (hn : x ≠ "__name__" := by decide) (hdb : (x == ("__debug__" : Str)) = false := by decide)
    (he : starEach (e :: es) X.env = (false, eval e X.env) :: starEach es X.env := by rfl) (hpl : (backTo pos (starEach es X.env)).any (·.1) = false := by rfl) : DF X G O W (.Call (.Name x p) (e :: es) [] pos) (mNF g mr) :=
  pe_imp (pe_callTy hc hg hm hv ha hn hdb he hpl) fun _ _ _ h => cF_go h
theorem pa_own (hy : PE X e (tVar j)) (hs : starEach [e] X.env = (false, eval e X.env) :: starEach [] X.env := by rfl) : PA X [e] (tOwn1 j) := pa_cons hy pa_nil hs
theorem de_bO (hj : O.contains j = true) (hv : bootBuiltins x = some (.builtin id)) (hc : CallR X (.builtin id) (rDN X.K g)) (hg : Gl X x) (hm : X.mg x = none) (hy : PE X e (tVar j)) (hn : x ≠ "__name__" := by decide) (hdb : (x == ("__debug__" : Str)) = false := by decide)
    (he : starEach [e] X.env = (false, eval e X.env) :: starEach [] X.env := by rfl) (hpl : (backTo pos (starEach [] X.env)).any (·.1) = false := by rfl) : DE X G O W (.Call (.Name x p) [e] [] pos) (mNO g j) :=
  pe_imp (pe_callB hc hg hm hv (pa_own hy he) hn hdb he hpl) fun _ _ _ h => cNO_go hj h
theorem de_tyO (hj : O.contains j = true) (hv : bootBuiltins x = some (.type T)) (hc : CallR X (.type T) (rDN X.K g)) (hg : Gl X x) (hm : X.mg x = none) (hy : PE X e (tVar j)) (hn : x ≠ "__name__" := by decide) (hdb : (x == ("__debug__" : Str)) = false := by decide)
    (he : starEach [e] X.env = (false, eval e X.env) :: starEach [] X.env := by rfl) (hpl : (backTo pos (starEach [] X.env)).any (·.1) = false := by rfl) : DE X G O W (.Call (.Name x p) [e] [] pos) (mNO g j) :=
  pe_imp (pe_callTy hc hg hm hv (pa_own hy he) hn hdb he hpl) fun _ _ _ h => cNO_go hj h
theorem df_bO (hj : O.contains j = true) (hv : bootBuiltins x = some (.builtin id)) (hc : CallR X (.builtin id) (rFN X.K g)) (hg : Gl X x) (hm : X.mg x = none) (hy : PE X e (tVar j)) (hn : x ≠ "__name__" := by decide) (hdb : (x == ("__debug__" : Str)) = false := by decide)
    (he : starEach [e] X.env = (false, eval e X.env) :: starEach [] X.env := by rfl) (hpl : (backTo pos (starEach [] X.env)).any (·.1) = false := by rfl) : DF X G O W (.Call (.Name x p) [e] [] pos) (mNOF g j) :=
  pe_imp (pe_callB hc hg hm hv (pa_own hy he) hn hdb he hpl) fun _ _ _ h => cNOF_go hj h
theorem df_tyO (hj : O.contains j = true) (hv : bootBuiltins x = some (.type T)) (hc : CallR X (.type T) (rFN X.K g)) (hg : Gl X x) (hm : X.mg x = none) (hy : PE X e (tVar j)) (hn : x ≠ "__name__" := by decide) (hdb : (x == ("__debug__" : Str)) = false := by decide)
    (he : starEach [e] X.env = (false, eval e X.env) :: starEach [] X.env := by rfl) (hpl : (backTo pos (starEach [] X.env)).any (·.1) = false := by rfl) : DF X G O W (.Call (.Name x p) [e] [] pos) (mNOF g j) :=
  pe_imp (pe_callTy hc hg hm hv (pa_own hy he) hn hdb he hpl) fun _ _ _ h => cNOF_go hj h
end
end
end DL
namespace DL
open L2 PySem PySem.Spec PyProof.Rows

def asInts : List D → Option (List Int)
  | [] => some []
  | .int i :: r => (asInts r).map (i :: ·)
  | _ :: _ => none
def asBls : List D → Option (List Bool)
  | [] => some []
  | .bl i :: r => (asBls r).map (i :: ·)
  | _ :: _ => none
def asStrs : List D → Option (List Str)
  | [] => some []
  | .str i :: r => (asStrs r).map (i :: ·)
  | _ :: _ => none
theorem asInts_eq : ∀ {l : List D} {ns : List Int}, asInts l = some ns → l = ns.map D.int
  | [], _, e => by cases e; rfl
  | .int i :: r, _, e => by
    obtain ⟨k, hk, rfl⟩ := map_some (show (asInts r).map (i :: ·) = some _ from e)
    rw [asInts_eq hk]; rfl
  | .non :: _, _, e => by cases e
  | .bl _ :: _, _, e => by cases e
  | .str _ :: _, _, e => by cases e
  | .tup _ :: _, _, e => by cases e
  | .lst _ :: _, _, e => by cases e
  | .scr _ :: _, _, e => by cases e
  | .fn _ :: _, _, e => by cases e
  | .obj _ _ :: _, _, e => by cases e
  | .exn _ _ :: _, _, e => by cases e
theorem asBls_eq : ∀ {l : List D} {ns : List Bool}, asBls l = some ns → l = ns.map D.bl
  | [], _, e => by cases e; rfl
  | .bl i :: r, _, e => by
    obtain ⟨k, hk, rfl⟩ := map_some (show (asBls r).map (i :: ·) = some _ from e)
    rw [asBls_eq hk]; rfl
  | .non :: _, _, e => by cases e
  | .int _ :: _, _, e => by cases e
  | .str _ :: _, _, e => by cases e
  | .tup _ :: _, _, e => by cases e
  | .lst _ :: _, _, e => by cases e
  | .scr _ :: _, _, e => by cases e
  | .fn _ :: _, _, e => by cases e
  | .obj _ _ :: _, _, e => by cases e
  | .exn _ _ :: _, _, e => by cases e
theorem asStrs_eq : ∀ {l : List D} {ns : List Str}, asStrs l = some ns → l = ns.map D.str
  | [], _, e => by cases e; rfl
  | .str i :: r, _, e => by
    obtain ⟨k, hk, rfl⟩ := map_some (show (asStrs r).map (i :: ·) = some _ from e)
    rw [asStrs_eq hk]; rfl
  | .non :: _, _, e => by cases e
  | .int _ :: _, _, e => by cases e
  | .bl _ :: _, _, e => by cases e
  | .tup _ :: _, _, e => by cases e
  | .lst _ :: _, _, e => by cases e
  | .scr _ :: _, _, e => by cases e
  | .fn _ :: _, _, e => by cases e
  | .obj _ _ :: _, _, e => by cases e
  | .exn _ _ :: _, _, e => by cases e
theorem asInts_map (ns : List Int) : asInts (ns.map D.int) = some ns := by
  induction ns with
  | nil => rfl
  | cons n ns ih => rw [List.map_cons]; unfold asInts; rw [ih]; rfl
theorem asBls_map (ns : List Bool) : asBls (ns.map D.bl) = some ns := by
  induction ns with
  | nil => rfl
  | cons n ns ih => rw [List.map_cons]; unfold asBls; rw [ih]; rfl
theorem asStrs_map (ns : List Str) : asStrs (ns.map D.str) = some ns := by
  induction ns with
  | nil => rfl
  | cons n ns ih => rw [List.map_cons]; unfold asStrs; rw [ih]; rfl
def gLen : List D → Option D
  | [.lst l] => some (.int l.length)
  | [.tup l] => some (.int l.length)
  | [.scr l] => some (.int l.length)
  | [.str z] => if z.length ≤ sizeLine then some (.int z.length) else none
  | _ => none
def gAbs : List D → Option D
  | [.int i] => some (.int (if i < 0 then -i else i))
  | _ => none
def gInt : List D → Option D
  | [.int i] => some (.int i)
  | [.bl k] => some (.int (if k then 1 else 0))
  | [.str a] => if a.length ≤ 640 then (PySem.intText? a).map D.int else none
  | _ => none
def shownD (d : D) : Option Str := match d.py with
  | some x => if x.showable = true ∧ x.shown.length ≤ sizeLine ∧ x.depth ≤ 60 then some x.shown else none
  | none => none
def gRepr : List D → Option D
  | [d] => (shownD d).map D.str
  | _ => none
def gStr : List D → Option D
  | [.str a] => some (.str a)
  | [.int i] => if i.natAbs.log2 < 1920 then some (.str (toString i)) else none
  | [.lst l] => (shownD (.lst l)).map D.str
  | [.tup l] => (shownD (.tup l)).map D.str
  | _ => none
def gAll : List D → Option D
  | [.lst l] => (asBls l).map fun bs => .bl (bs.all id)
  | _ => none
def gAny : List D → Option D
  | [.lst l] => (asBls l).map fun bs => .bl (bs.any id)
  | _ => none
def gSum : List D → Option D
  | [.lst l] => (asInts l).map fun ns => .int ns.sum
  | _ => none
def maxL : List Int → Option Int
  | [] => none
  | n :: r => some (r.foldl max n)
def minL : List Int → Option Int
  | [] => none
  | n :: r => some (r.foldl min n)
def gMax : List D → Option D
  | [.lst l] => ((asInts l).bind maxL).map D.int
  | [.int i, .int j] => some (.int (if j > i then j else i))
  | _ => none
def gMin : List D → Option D
  | [.lst l] => ((asInts l).bind minL).map D.int
  | [.int i, .int j] => some (.int (if j < i then j else i))
  | _ => none
def gList : List D → Option D
  | [.lst l] => some (.lst l)
  | [.tup l] => some (.lst l)
  | [.scr l] => some (.lst l)
  | _ => none
def gTuple : List D → Option D
  | [.lst l] => some (.tup l)
  | [.scr l] => some (.tup l)
  | [.tup l] => some (.tup l)
  | _ => none
theorem one_arg {K : PySem.W.Frag} {A : Addr → Prop} {H : Hp} {xs : List V} {a : D} (h : RpA K A H xs [a] ∨ ∃ v c, xs = [v] ∧ [a] = [c] ∧ RpB K A H v c) : ∃ v, xs = [v] ∧ RpB K A H v a := by
  rcases h with h | ⟨v, c, rfl, e, h⟩
  · cases h with
    | cons h t => cases t; exact ⟨_, rfl, .of h⟩
  · cases e; exact ⟨_, rfl, h⟩
theorem two_args {K : PySem.W.Frag} {A : Addr → Prop} {H : Hp} {xs : List V} {a b : D} (h : RpA K A H xs [a, b] ∨ ∃ v c, xs = [v] ∧ [a, b] = [c] ∧ RpB K A H v c) : ∃ v w, xs = [v, w] ∧ Rp K A H v a ∧ Rp K A H w b := by
  rcases h with h | ⟨v, c, rfl, e, h⟩
  · cases h with
    | cons h t => cases t with
      | cons h' t => cases t; exact ⟨_, _, rfl, h, h'⟩
  · cases e
section
variable {X : Cx}
theorem b_len : CallR X (.builtin "len") (rDN X.K gLen) := by
  intro pins s σ H xs us Q I r ⟨A, ds, d, t, p, e, q⟩
  unfold gLen at e
  split at e
  · rename_i l
    cases e
    obtain ⟨v, rfl, hv⟩ := one_arg p
    obtain ⟨a, ys, rfl, h, rr⟩ := hv.lst
    exact call_len_seq pins s σ H _ us Q I r ⟨a, ys, rfl, .inl (SqL.of h), by rw [rr.length]; exact q _ _ (Same.refl _) (.int _)⟩
  · rename_i l
    cases e
    obtain ⟨v, rfl, hv⟩ := one_arg p
    obtain ⟨a, ys, rfl, h, rr⟩ := hv.tup
    exact call_len_seq pins s σ H _ us Q I r ⟨a, ys, rfl, .inr h.sq, by rw [rr.length]; exact q _ _ (Same.refl _) (.int _)⟩
  · rename_i l
    cases e
    obtain ⟨v, rfl, hv⟩ := one_arg p
    obtain ⟨a, ys, rfl, h, rr⟩ := hv.scr
    exact call_len_seq pins s σ H _ us Q I r ⟨a, ys, rfl, .inl h.sq, by rw [rr.length]; exact q _ _ (Same.refl _) (.int _)⟩
  · rename_i z
    obtain ⟨hz, rfl⟩ := ite_d (x := .int z.length) e
    obtain ⟨v, rfl, hv⟩ := one_arg p
    rw [hv.str] at r
    exact call_len_str pins s σ H _ us Q I r ⟨z, rfl, hz, q _ _ (Same.refl _) (.int _)⟩
  · cases e
theorem b_abs : CallR X (.builtin "abs") (rDN X.K gAbs) := by
  intro pins s σ H xs us Q I r ⟨A, ds, d, t, p, e, q⟩
  unfold gAbs at e
  split at e
  · rename_i i
    cases e
    obtain ⟨v, rfl, hv⟩ := one_arg p
    rw [hv.int] at r
    exact call_abs pins s σ H _ us Q I r ⟨i, rfl, q _ _ (Same.refl _) (.int _)⟩
  · cases e
theorem b_int : CallR X (.type "int") (rDN X.K gInt) := by
  intro pins s σ H xs us Q I r ⟨A, ds, d, t, p, e, q⟩
  unfold gInt at e
  split at e
  · rename_i i
    cases e
    obtain ⟨v, rfl, hv⟩ := one_arg p
    rw [hv.int] at r
    exact call_int1 pins s σ H _ us Q I r (.inl ⟨i, rfl, q _ _ (Same.refl _) (.int _)⟩)
  · rename_i i
    cases e
    obtain ⟨v, rfl, hv⟩ := one_arg p
    rw [hv.bl] at r
    exact call_int1 pins s σ H _ us Q I r (.inr ⟨i, rfl, q _ _ (Same.refl _) (.int _)⟩)
  · rename_i a
    split at e
    · rename_i hz
      obtain ⟨n, hn, rfl⟩ := map_some e
      obtain ⟨v, rfl, hv⟩ := one_arg p
      rw [hv.str] at r
      exact call_int_str pins s σ H _ us Q I r ⟨a, n, rfl, hn, hz, q _ _ (Same.refl _) (.int _)⟩
    · cases e
  · cases e
mutual
theorem py_noDict : ∀ {d : D} {x : PyData}, d.py = some x → x.hasDict = false
  | .non, _, e => by cases e; simp only [PyData.hasDict]
  | .bl _, _, e => by cases e; simp only [PyData.hasDict]
  | .int _, _, e => by cases e; simp only [PyData.hasDict]
  | .str _, _, e => by cases e; simp only [PyData.hasDict]
  | .tup ds, _, e => by
    unfold D.py at e
    cases hp : pyAll ds with
    | none => rw [hp] at e; cases e
    | some ys => rw [hp] at e; cases e; simp only [PyData.hasDict]; exact pyAll_noDict hp
  | .lst ds, _, e => by
    unfold D.py at e
    cases hp : pyAll ds with
    | none => rw [hp] at e; cases e
    | some ys => rw [hp] at e; cases e; simp only [PyData.hasDict]; exact pyAll_noDict hp
  | .scr _, _, e => by unfold D.py at e; cases e
  | .fn _, _, e => by unfold D.py at e; cases e
  | .obj _ _, _, e => by unfold D.py at e; cases e
  | .exn _ _, _, e => by unfold D.py at e; cases e
theorem pyAll_noDict : ∀ {d : List D} {x : List PyData}, pyAll d = some x → PyData.hasDictAll x = false
  | [], _, e => by cases e; simp only [PyData.hasDictAll]
  | d :: ds, _, e => by
    unfold pyAll at e
    cases h1 : d.py with
    | none => rw [h1] at e; cases e
    | some y =>
      rw [h1] at e
      cases h2 : pyAll ds with
      | none => rw [h2] at e; cases e
      | some ys => rw [h2] at e; cases e; simp only [PyData.hasDictAll, py_noDict h1, pyAll_noDict h2, Bool.or_self]
end
theorem shownD_some {d : D} {z : Str} (e : shownD d = some z) : ∃ x, d.py = some x ∧ x.showable = true ∧ x.shown.length ≤ sizeLine ∧ x.depth ≤ 60 ∧ z = x.shown := by
  unfold shownD at e
  split at e
  · rename_i x hx
    split at e
    · rename_i h
      cases e
      exact ⟨x, hx, h.1, h.2.1, h.2.2, rfl⟩
    · cases e
  · cases e
theorem b_repr (hg : X.A.guards = some []) (hu : X.A.units + 64 < cLine) : CallR X (.builtin "repr") (rDN X.K gRepr) := by
  intro pins s σ H xs us Q I r ⟨A, ds, d, t, p, e, q⟩
  unfold gRepr at e
  split at e
  · rename_i c
    obtain ⟨z, hz, rfl⟩ := map_some e
    obtain ⟨v, rfl, hv⟩ := one_arg p
    obtain ⟨x, hx, h1, h2, h3, rfl⟩ := shownD_some hz
    have dp := hv.dp hx
    obtain ⟨u, rfl, ru⟩ := vals1 r
    have fin : ∀ h' tk u', (∀ b o, s.heap.get? b = some o → h'.get? b = some o) → EP X pins σ Q (.str x.shown u') { s with heap := h', toks := tk } := fun h' tk u' hk => ⟨.str x.shown, H, I.kept hk, ⟨_, rfl⟩, q _ _ (Same.refl _) (.str _)⟩
    have nd := py_noDict hx
    obtain ⟨as, rd⟩ := Dp.reads I x v u dp ru
    cases rd with
    | none =>
      refine PySem.P.repr_of_none ?_
      exact ⟨.str _, H, I.tok _, ⟨_, rfl⟩, q _ _ (Same.refl _) (.str _)⟩
    | bool b =>
      refine PySem.P.repr_of_bool ?_
      refine ⟨.str _, H, I.tok _, ⟨_, rfl⟩, ?_⟩
      have := q _ H (Same.refl _) (.str _)
      simpa [PyData.shown] using this
    | int i t =>
      refine PySem.P.repr_of_int (by simpa [PyData.showable] using h1) ?_
      refine ⟨.str _, H, I.tok _, ⟨_, rfl⟩, ?_⟩
      have := q _ H (Same.refl _) (.str _)
      simpa [PyData.shown] using this
    | str y t =>
      refine PySem.P.repr_of_str (Q := EP X pins σ Q) ?_ (by simpa [PyData.shown] using h2)
      refine ⟨.str _, H, I.tok _, ⟨_, rfl⟩, ?_⟩
      have := q _ H (Same.refl _) (.str _)
      simpa [PyData.shown] using this
    | list a1 a2 a3 a4 =>
      refine repr_of_reads' (h₀ := s.heap) (Reads.list a1 a2 a3 a4) h1 (PyData.noDict_hsm nd) hg (by omega) (fun _ _ z => z) (fun h' u' tk hk => fin h' tk u' hk) h2
    | tuple a1 a2 a3 a4 =>
      refine repr_of_reads' (h₀ := s.heap) (Reads.tuple a1 a2 a3 a4) h1 (PyData.noDict_hsm nd) hg (by omega) (fun _ _ z => z) (fun h' u' tk hk => fin h' tk u' hk) h2
    | dict => simp [PyData.hasDict] at nd
  · cases e
theorem str_seq (hg : X.A.guards = some []) (hu : X.A.units + 64 < cLine) {pins : List (Addr × Obj)} {s : Shared} {σ : L2.St} {H : Hp} {us : List Value} {Q : VK} {A : Addr → Prop} {v : V} {c : D} {z : Str} (I : Inv X pins σ H s) (r : Vals [v] us) (hv : RpB X.K A H v c) (hc : (∃ l, c = .lst l) ∨ ∃ l, c = .tup l)
    (hz : shownD c = some z) (q : ∀ v H', Same H H' → Rp X.K A H' v (.str z) → Q v H') : wpAny (model X.prog X.w) X.A (call (.type "str") us) (EP X pins σ Q) X.xe s := by
  obtain ⟨x, hx, h1, h2, h3, rfl⟩ := shownD_some hz
  have dp := hv.dp hx
  obtain ⟨u, rfl, ru⟩ := vals1 r
  have fin : ∀ h' tk u', (∀ b o, s.heap.get? b = some o → h'.get? b = some o) → EP X pins σ Q (.str x.shown u') { s with heap := h', toks := tk } := fun h' tk u' hk => ⟨.str x.shown, H, I.kept hk, ⟨_, rfl⟩, q _ _ (Same.refl _) (.str _)⟩
  have nd := py_noDict hx
  obtain ⟨as, rd⟩ := Dp.reads I x v u dp ru
  have ok : (∃ l, x = .list l) ∨ ∃ l, x = .tuple l := by
    rcases hc with ⟨l, rfl⟩ | ⟨l, rfl⟩
    · unfold D.py at hx
      obtain ⟨k, _, rfl⟩ := map_some hx
      exact .inl ⟨_, rfl⟩
    · unfold D.py at hx
      obtain ⟨k, _, rfl⟩ := map_some hx
      exact .inr ⟨_, rfl⟩
  cases rd with
  | list a1 a2 a3 a4 => exact str_of_reads (h₀ := s.heap) (Reads.list a1 a2 a3 a4) h1 (PyData.noDict_hsm nd) hg (by omega) (fun _ _ z => z) (fun h' u' tk hk => fin h' tk u' hk) h2
  | tuple a1 a2 a3 a4 => exact str_of_reads (h₀ := s.heap) (Reads.tuple a1 a2 a3 a4) h1 (PyData.noDict_hsm nd) hg (by omega) (fun _ _ z => z) (fun h' u' tk hk => fin h' tk u' hk) h2
  | _ =>
    rcases ok with ⟨l, ok⟩ | ⟨l, ok⟩ <;> cases ok
theorem b_str (hg : X.A.guards = some []) (hu : X.A.units + 64 < cLine) : CallR X (.type "str") (rDN X.K gStr) := by
  intro pins s σ H xs us Q I r ⟨A, ds, d, t, p, e, q⟩
  unfold gStr at e
  split at e
  · rename_i a
    cases e
    obtain ⟨v, rfl, hv⟩ := one_arg p
    rw [hv.str] at r
    exact SkE.call_str_str pins s σ H _ us Q I r ⟨a, rfl, q _ _ (Same.refl _) (.str _)⟩
  · rename_i i
    obtain ⟨hz, rfl⟩ := ite_d (x := .str (toString i)) e
    obtain ⟨v, rfl, hv⟩ := one_arg p
    rw [hv.int] at r
    exact call_str_int pins s σ H _ us Q I r ⟨i, rfl, hz, q _ _ (Same.refl _) (.str _)⟩
  · rename_i l
    obtain ⟨z, hz, rfl⟩ := map_some e
    obtain ⟨v, rfl, hv⟩ := one_arg p
    exact str_seq hg hu I r hv (.inl ⟨l, rfl⟩) hz q
  · rename_i l
    obtain ⟨z, hz, rfl⟩ := map_some e
    obtain ⟨v, rfl, hv⟩ := one_arg p
    exact str_seq hg hu I r hv (.inr ⟨l, rfl⟩) hz q
  · cases e
theorem b_all (hc : X.calm = true) : CallR X (.builtin "all") (rDN X.K gAll) := by
  intro pins s σ H xs us Q I r ⟨A, ds, d, t, p, e, q⟩
  unfold gAll at e
  split at e
  · rename_i l
    obtain ⟨bs, hb, rfl⟩ := map_some e
    obtain ⟨v, rfl, hv⟩ := one_arg p
    obtain ⟨a, ys, rfl, h, rr⟩ := hv.lst
    rw [asBls_eq hb] at rr
    rw [rr.bls] at h
    exact cr_all hc pins s σ H _ us Q I r ⟨a, bs, rfl, SqL.of h, q _ _ (Same.refl _) (.bl _)⟩
  · cases e
theorem b_any (hc : X.calm = true) : CallR X (.builtin "any") (rDN X.K gAny) := by
  intro pins s σ H xs us Q I r ⟨A, ds, d, t, p, e, q⟩
  unfold gAny at e
  split at e
  · rename_i l
    obtain ⟨bs, hb, rfl⟩ := map_some e
    obtain ⟨v, rfl, hv⟩ := one_arg p
    obtain ⟨a, ys, rfl, h, rr⟩ := hv.lst
    rw [asBls_eq hb] at rr
    rw [rr.bls] at h
    exact cr_any hc pins s σ H _ us Q I r ⟨a, bs, rfl, SqL.of h, q _ _ (Same.refl _) (.bl _)⟩
  · cases e
theorem b_sum (hc : X.calm = true) : CallR X (.builtin "sum") (rDN X.K gSum) := by
  intro pins s σ H xs us Q I r ⟨A, ds, d, t, p, e, q⟩
  unfold gSum at e
  split at e
  · rename_i l
    obtain ⟨bs, hb, rfl⟩ := map_some e
    obtain ⟨v, rfl, hv⟩ := one_arg p
    obtain ⟨a, ys, rfl, h, rr⟩ := hv.lst
    rw [asInts_eq hb] at rr
    rw [rr.ints] at h
    exact cr_sum hc pins s σ H _ us Q I r ⟨a, bs, rfl, SqL.of h, q _ _ (Same.refl _) (.int _)⟩
  · cases e
theorem foldl_max {r : List Int} : ∀ {n : Int}, n ≤ r.foldl max n ∧ (∀ y ∈ r, y ≤ r.foldl max n) ∧ (r.foldl max n = n ∨ r.foldl max n ∈ r) := by
  induction r with
  | nil => intro n; exact ⟨Int.le_refl _, nofun, .inl rfl⟩
  | cons m r ih =>
    intro n
    rw [List.foldl_cons]
    obtain ⟨h1, h2, h3⟩ := ih (n := max n m)
    refine ⟨by omega, fun y hy => ?_, ?_⟩
    · rcases List.mem_cons.mp hy with z | z
      · omega
      · exact h2 y z
    · rcases h3 with z | z
      · rw [z]
        by_cases w : m ≤ n
        · exact .inl (by omega)
        · exact .inr (List.mem_cons.mpr (.inl (by omega)))
      · exact .inr (List.mem_cons_of_mem _ z)
theorem foldl_min {r : List Int} : ∀ {n : Int}, r.foldl min n ≤ n ∧ (∀ y ∈ r, r.foldl min n ≤ y) ∧ (r.foldl min n = n ∨ r.foldl min n ∈ r) := by
  induction r with
  | nil => intro n; exact ⟨Int.le_refl _, nofun, .inl rfl⟩
  | cons m r ih =>
    intro n
    rw [List.foldl_cons]
    obtain ⟨h1, h2, h3⟩ := ih (n := min n m)
    refine ⟨by omega, fun y hy => ?_, ?_⟩
    · rcases List.mem_cons.mp hy with z | z
      · omega
      · exact h2 y z
    · rcases h3 with z | z
      · rw [z]
        by_cases w : n ≤ m
        · exact .inl (by omega)
        · exact .inr (List.mem_cons.mpr (.inl (by omega)))
      · exact .inr (List.mem_cons_of_mem _ z)
theorem b_max (hc : X.calm = true) : CallR X (.builtin "max") (rDN X.K gMax) := by
  intro pins s σ H xs us Q I r ⟨A, ds, d, t, p, e, q⟩
  unfold gMax at e
  split at e
  · rename_i l
    obtain ⟨m, hb, rfl⟩ := map_some e
    cases hi : asInts l with
    | none => rw [hi] at hb; cases hb
    | some ns =>
      rw [hi] at hb
      have hb' : maxL ns = some m := hb
      obtain ⟨v, rfl, hv⟩ := one_arg p
      obtain ⟨a, ys, rfl, h, rr⟩ := hv.lst
      rw [asInts_eq hi] at rr
      rw [rr.ints] at h
      cases ns with
      | nil => cases hb'
      | cons n r' =>
        cases hb'
        obtain ⟨h1, h2, h3⟩ := foldl_max (r := r') (n := n)
        refine cr_max hc pins s σ H _ us Q I r ⟨a, n :: r', rfl, SqL.of h, Nat.succ_pos _, fun m hm hle => ?_⟩
        have e1 : m = r'.foldl max n := by
          refine Int.le_antisymm ?_ ?_
          · rcases List.mem_cons.mp hm with z | z
            · rw [z]; exact h1
            · exact h2 m z
          · rcases h3 with z | z
            · rw [z]; exact hle n List.mem_cons_self
            · exact hle _ (List.mem_cons_of_mem _ z)
        rw [e1]
        exact q _ _ (Same.refl _) (.int _)
  · rename_i i j
    cases e
    obtain ⟨v, w, rfl, hv, hw⟩ := two_args p
    cases hv
    cases hw
    exact call_max2 hc pins s σ H _ us Q I r ⟨i, j, rfl, q _ _ (Same.refl _) (.int _)⟩
  · cases e
theorem b_min (hc : X.calm = true) : CallR X (.builtin "min") (rDN X.K gMin) := by
  intro pins s σ H xs us Q I r ⟨A, ds, d, t, p, e, q⟩
  unfold gMin at e
  split at e
  · rename_i l
    obtain ⟨m, hb, rfl⟩ := map_some e
    cases hi : asInts l with
    | none => rw [hi] at hb; cases hb
    | some ns =>
      rw [hi] at hb
      have hb' : minL ns = some m := hb
      obtain ⟨v, rfl, hv⟩ := one_arg p
      obtain ⟨a, ys, rfl, h, rr⟩ := hv.lst
      rw [asInts_eq hi] at rr
      rw [rr.ints] at h
      cases ns with
      | nil => cases hb'
      | cons n r' =>
        cases hb'
        obtain ⟨h1, h2, h3⟩ := foldl_min (r := r') (n := n)
        refine cr_min hc pins s σ H _ us Q I r ⟨a, n :: r', rfl, SqL.of h, Nat.succ_pos _, fun m hm hle => ?_⟩
        have e1 : m = r'.foldl min n := by
          refine Int.le_antisymm ?_ ?_
          · rcases h3 with z | z
            · rw [z]; exact hle n List.mem_cons_self
            · exact hle _ (List.mem_cons_of_mem _ z)
          · rcases List.mem_cons.mp hm with z | z
            · rw [z]; exact h1
            · exact h2 m z
        rw [e1]
        exact q _ _ (Same.refl _) (.int _)
  · rename_i i j
    cases e
    obtain ⟨v, w, rfl, hv, hw⟩ := two_args p
    cases hv
    cases hw
    exact call_min2 hc pins s σ H _ us Q I r ⟨i, j, rfl, q _ _ (Same.refl _) (.int _)⟩
  · cases e
theorem b_listF : CallR X (.type "list") (rFN X.K gList) := by
  intro pins s σ H xs us Q I r ⟨A, ds, d, t, p, e, q⟩
  unfold gList at e
  split at e
  · cases e
    obtain ⟨v, rfl, hv⟩ := one_arg p
    obtain ⟨a, ys, rfl, h, rr⟩ := hv.lst
    exact call_list_of pins s σ H _ us Q I r ⟨a, ys, rfl, .inl (SqL.of h), fun l hl => q _ _ (same_upd hl) (new_lst t rr hl) (new_fr t rr hl)⟩
  · cases e
    obtain ⟨v, rfl, hv⟩ := one_arg p
    obtain ⟨a, ys, rfl, h, rr⟩ := hv.tup
    exact call_list_of pins s σ H _ us Q I r ⟨a, ys, rfl, .inr h.sq, fun l hl => q _ _ (same_upd hl) (new_lst t rr hl) (new_fr t rr hl)⟩
  · cases e
    obtain ⟨v, rfl, hv⟩ := one_arg p
    obtain ⟨a, ys, rfl, h, rr⟩ := hv.scr
    exact call_list_of pins s σ H _ us Q I r ⟨a, ys, rfl, .inl h.sq, fun l hl => q _ _ (same_upd hl) (new_lst t rr hl) (new_fr t rr hl)⟩
  · cases e
theorem b_list : CallR X (.type "list") (rDN X.K gList) := rFN.weak b_listF
theorem b_tuple : CallR X (.type "tuple") (rDN X.K gTuple) := by
  intro pins s σ H xs us Q I r ⟨A, ds, d, t, p, e, q⟩
  unfold gTuple at e
  split at e
  · cases e
    obtain ⟨v, rfl, hv⟩ := one_arg p
    obtain ⟨a, ys, rfl, h, rr⟩ := hv.lst
    exact call_tuple_of pins s σ H _ us Q I r ⟨a, ys, rfl, .inl ⟨SqL.of h, fun l hl => q _ _ (same_upd hl) (new_tup t rr hl)⟩⟩
  · cases e
    obtain ⟨v, rfl, hv⟩ := one_arg p
    obtain ⟨a, ys, rfl, h, rr⟩ := hv.scr
    exact call_tuple_of pins s σ H _ us Q I r ⟨a, ys, rfl, .inl ⟨h.sq, fun l hl => q _ _ (same_upd hl) (new_tup t rr hl)⟩⟩
  · cases e
    obtain ⟨v, rfl, hv⟩ := one_arg p
    obtain ⟨a, ys, rfl, h, rr⟩ := hv.tup
    exact call_tuple_of pins s σ H _ us Q I r ⟨a, ys, rfl, .inr ⟨h.sq, q _ _ (Same.refl _) (.tup h rr)⟩⟩
  · cases e
end
theorem bt_len : bootBuiltins "len" = some (.builtin "len") := by decide +kernel
theorem bt_int : bootBuiltins "int" = some (.type "int") := by decide +kernel
theorem bt_str : bootBuiltins "str" = some (.type "str") := by decide +kernel
theorem bt_list : bootBuiltins "list" = some (.type "list") := by decide +kernel
theorem bt_tuple : bootBuiltins "tuple" = some (.type "tuple") := by decide +kernel
theorem bt_repr : bootBuiltins "repr" = some (.builtin "repr") := by decide +kernel
theorem bt_abs : bootBuiltins "abs" = some (.builtin "abs") := by decide +kernel
theorem bt_all : bootBuiltins "all" = some (.builtin "all") := by decide +kernel
theorem bt_any : bootBuiltins "any" = some (.builtin "any") := by decide +kernel
theorem bt_sum : bootBuiltins "sum" = some (.builtin "sum") := by decide +kernel
theorem bt_max : bootBuiltins "max" = some (.builtin "max") := by decide +kernel
theorem bt_min : bootBuiltins "min" = some (.builtin "min") := by decide +kernel
theorem bt_sorted : bootBuiltins "sorted" = some (.builtin "sorted") := by decide +kernel
theorem bt_isinstance : bootBuiltins "isinstance" = some (.builtin "isinstance") := by decide +kernel
end DL
namespace DL
open L2 PySem PySem.Spec PyProof.Rows

section
variable {X : Cx} {G : Gd} {XC : List Nat → Prop} {Ol O O' O1 : List Nat} {W : WX} {fr : Bool} {a b c e : Expr} {es : List Expr} {ma mb mc me : ME} {mr : MA} {pos p : Pos} {x y : Str}

def putP : List Nat → List D → En → Out
  | [], [], ρ => .nx ρ
  | i :: is, d :: ds, ρ => if i < ρ.length then putP is ds (ρ.set i (some d)) else .bad
  | _, _, _ => .bad
def msPar (is : List Nat) (m : MA) : MS := fun ρ => obind (m ρ) fun ds ρ1 => putP is ds ρ1
theorem ds_par {i j : Nat} {px py pt : Pos} {kt k2 pt2} (hx : XC O) (hc : X.calm = true) (hN : X.N.Nodup) (hi : X.N[i]? = some x) (hj : X.N[j]? = some y) (hij : i ≠ j) (oi : O.contains i = false) (oj : O.contains j = false)
    (hlx : X.env.scope.names.lookup x = some .local) (hly : X.env.scope.names.lookup y = some .local) (ha : DA X G O W [a, b] mr)
    (hw : swappedStores [.Tuple [.Name x px, .Name y py] kt pt] (.Tuple [a, b] k2 pt2) X.env = pure (some [x, y]) := by rfl)
    (hs : swapsWithSole [.Tuple [.Name x px, .Name y py] kt pt] (.Tuple [a, b] k2 pt2) pos.line X.env = pure false := by rfl) :
    DS X G XC Ol O O W fr (.Assign [.Tuple [.Name x px, .Name y py] kt pt] (.Tuple [a, b] k2 pt2) pos) (msPar [i, j] mr) := by
  have ni : i ∉ O := fun z => by rw [List.contains_iff_mem.mpr z] at oi; cases oi
  have nj : j ∉ O := fun z => by rw [List.contains_iff_mem.mpr z] at oj; cases oj
  refine ps_imp (ps_par hc hN hi hj hij hlx hly ha hw hs) fun D0 σ H ⟨A, ms, ρ, R, q⟩ => ⟨A, ms, ρ, R, eb hx q ?_⟩
  intro ds ρ1 vs H1 _ R1 k1 r q1
  cases r with
  | nil => exact q1.elim
  | cons r1 r =>
    cases r with
    | nil =>
      simp only [putP] at q1
      split at q1 <;> exact q1.elim
    | cons r2 r =>
      cases r with
      | cons _ _ =>
        simp only [putP] at q1
        split at q1
        · split at q1 <;> exact q1.elim
        · exact q1.elim
      | nil =>
        simp only [putP] at q1
        split at q1
        · rename_i h1
          split at q1
          · rename_i h2
            exact ⟨_, _, rfl, q1 _ H1 A ms ((R1.put ni h1 r1).put nj h2 r2) Tr.refl⟩
          · exact q1.elim
        · exact q1.elim
theorem ds_par3 {i j l : Nat} {z : Str} {px py pz pt : Pos} {kt k2 pt2} (hx : XC O) (hc : X.calm = true) (hN : X.N.Nodup) (hi : X.N[i]? = some x) (hj : X.N[j]? = some y) (hl : X.N[l]? = some z) (hij : i ≠ j) (hil : i ≠ l) (hjl : j ≠ l) (oi : O.contains i = false) (oj : O.contains j = false) (ol : O.contains l = false)
    (hlx : X.env.scope.names.lookup x = some .local) (hly : X.env.scope.names.lookup y = some .local) (hlz : X.env.scope.names.lookup z = some .local) (ha : DA X G O W [a, b, c] mr)
    (hw : swappedStores [.Tuple [.Name x px, .Name y py, .Name z pz] kt pt] (.Tuple [a, b, c] k2 pt2) X.env = pure (some [x, y, z]) := by rfl)
    (hs : swapsWithSole [.Tuple [.Name x px, .Name y py, .Name z pz] kt pt] (.Tuple [a, b, c] k2 pt2) pos.line X.env = pure false := by rfl) :
    DS X G XC Ol O O W fr (.Assign [.Tuple [.Name x px, .Name y py, .Name z pz] kt pt] (.Tuple [a, b, c] k2 pt2) pos) (msPar [i, j, l] mr) := by
  have ni : i ∉ O := fun z => by rw [List.contains_iff_mem.mpr z] at oi; cases oi
  have nj : j ∉ O := fun z => by rw [List.contains_iff_mem.mpr z] at oj; cases oj
  have nl : l ∉ O := fun z => by rw [List.contains_iff_mem.mpr z] at ol; cases ol
  refine ps_imp (ps_par3 hc hN hi hj hl hij hil hjl hlx hly hlz ha hw hs) fun D0 σ H ⟨A, ms, ρ, R, q⟩ => ⟨A, ms, ρ, R, eb hx q ?_⟩
  intro ds ρ1 vs H1 _ R1 k1 r q1
  cases r with
  | nil => exact q1.elim
  | cons r1 r =>
    cases r with
    | nil =>
      simp only [putP] at q1
      split at q1 <;> exact q1.elim
    | cons r2 r =>
      cases r with
      | nil =>
        simp only [putP] at q1
        split at q1
        · split at q1 <;> exact q1.elim
        · exact q1.elim
      | cons r3 r =>
        cases r with
        | cons _ _ =>
          simp only [putP] at q1
          split at q1
          · split at q1
            · split at q1 <;> exact q1.elim
            · exact q1.elim
          · exact q1.elim
        | nil =>
          simp only [putP] at q1
          split at q1
          · rename_i h1
            split at q1
            · rename_i h2
              split at q1
              · rename_i h3
                exact ⟨_, _, _, rfl, q1 _ H1 A ms (((R1.put ni h1 r1).put nj h2 r2).put nl h3 r3) Tr.refl⟩
              · exact q1.elim
            · exact q1.elim
          · exact q1.elim

def gFmt : D → Option D
  | .str y => if y.length ≤ sizeLine then some (.str y) else none
  | .int i => if i.natAbs.log2 < 1920 then some (.str (toString i)) else none
  | _ => none
theorem de_fmt (ha : DE X G O W e ma) : DE X G O W (.FormattedValue e (-1) none pos) (m1 gFmt ma) := by
  refine pe_imp (pe_fmt ha) fun σ H Q ⟨A, ms, ρ, R, q⟩ => ⟨A, ms, ρ, R, RPost.mono (RPost.bind q) ?_⟩
  rintro v H1 ⟨d, ρ1, R1, k1, r1, q1⟩
  obtain ⟨z, hz, q2⟩ := rp_of R1 q1
  cases d with
  | str y =>
    obtain ⟨hl, rfl⟩ := ite_d (x := .str y) hz
    cases r1
    exact .inl ⟨y, rfl, hl, q2 _ H1 (Same.refl _) (.str _)⟩
  | int i =>
    obtain ⟨hl, rfl⟩ := ite_d (x := .str (toString i)) hz
    cases r1
    exact .inr ⟨i, rfl, hl, q2 _ H1 (Same.refl _) (.str _)⟩
  | _ => cases hz
inductive DJ (X : Cx) (G : Gd) (O : List Nat) (W : WX) : List Expr → List ME → Prop where
  | nil : DJ X G O W [] []
  | cons {e : Expr} {m : ME} {es : List Expr} {ms : List ME} (h : DE X G O W e m) (r : DJ X G O W es ms) : DJ X G O W (e :: es) (m :: ms)
def mJs : List ME → Str → ME
  | [], acc, ρ => .ok (.str acc) ρ
  | m :: ms, acc, ρ => (m ρ).bind fun d ρ1 => match d with
    | .str y => if (acc ++ y).length ≤ sizeLine then mJs ms (acc ++ y) ρ1 else .bad
    | _ => .bad
theorem DJ.pj {es : List Expr} {ms : List ME} (h : DJ X G O W es ms) : PJ X es (ms.map (tE X.K G O W)) := by
  induction h with
  | nil => exact .nil
  | cons h r ih => exact .cons h ih
theorem js_go {K : PySem.W.Frag} {σ : L2.St} {Q : VK} : ∀ {ms : List ME} {acc : Str} {H : Hp}, tE K G O W (mJs ms acc) σ H Q → tJs (ms.map (tE K G O W)) acc σ H fun out H1 => Q (.str out) H1
  | [], acc, H, ⟨A, ms, ρ, R, q⟩ => q _ H R Kp.refl (.str _)
  | m :: r, acc, H, ⟨A, ms, ρ, R, q⟩ => by
    refine ⟨A, ms, ρ, R, RPost.mono (RPost.bind q) ?_⟩
    rintro v H1 ⟨d, ρ1, R1, k1, r1, q1⟩
    cases d with
    | str y =>
      cases r1
      have q2 : RPost K G O W A ms σ H1 (Rp K A) Q (if (acc ++ y).length ≤ sizeLine then mJs r (acc ++ y) ρ1 else .bad) := q1
      split at q2
      · rename_i hz
        exact ⟨y, rfl, hz, js_go ⟨A, ms, ρ1, R1, q2⟩⟩
      · exact q2.elim
    | _ => exact q1.elim
theorem de_joined {v1 v2 : Expr} {rest : List Expr} {ms : List ME} (h : DJ X G O W (v1 :: v2 :: rest) ms) : DE X G O W (.JoinedStr (v1 :: v2 :: rest) pos) (mJs ms Str.empty) := pe_imp (pe_joined h.pj) fun _ _ _ h => js_go h

def msRaise (c : Str) : MS := fun ρ => .ex ⟨c, []⟩ ρ
theorem ds_raise {C : Str} (hx : XC O) (hc : X.calm = true) (tk : Takes X W) (he : PMk X e (fun _ H Q => Q (.ref (He.ga X.K C)) none H)) : DS X G XC Ol O O' W fr (.Raise (some e) none pos) (msRaise C) := by
  refine ps_imp (ps_raise hc tk he) fun D0 σ H ⟨A, ms, ρ, R, q⟩ => ?_
  exact q none σ H A ms O hx R Tr.refl (.inl ⟨rfl, rfl⟩)

theorem pss_ex {ι : Type} {sts : List Stmt} {P : ι → Prop} {t : ι → TS} (h : ∀ i, P i → PSs X sts (t i)) : PSs X sts (fun D σ H => ∃ i, P i ∧ t i D σ H) := ⟨fun pins s σ H D I ⟨i, p, q⟩ => (h i p).run pins s σ H D I q⟩
def fgt (i : Nat) : Out → Out
  | .nx ρ => .nx (ρ.set i none)
  | .rt d ρ => .rt d ρ
  | .bk ρ => .bk (ρ.set i none)
  | .ct ρ => .ct (ρ.set i none)
  | .ex _ _ => .bad
  | .bad => .bad
def msTryAs (mt : Str → Option Bool) (i : Nat) (mb : MS) (ms : Str → MS) : MS := fun ρ => match mb ρ with
  | .ex y ρ1 => match mt y.c with
    | some true => match y.fs with
      | [] => if i < ρ1.length then fgt i (ms y.c (ρ1.set i none)) else .bad
      | _ => .bad
    | some false => .ex y ρ1
    | none => .bad
  | o => o
def Mt (X : Cx) (c : Value) (mt : Str → Option Bool) : Prop := ∀ y b, mt y = some b → PySem.W.exmOne X.K (.ref (He.ga X.K y)) c = some b
def Gd.at (G : Gd) (i : Nat) (a : Addr) (c : Str) : Gd := { G with px := some (i, a, c) }
theorem RelS.named {K : PySem.W.Frag} {A : Addr → Prop} {ms : Nat → Option Addr} {σ : L2.St} {H : Hp} {ρ : En} {i : Nat} {a : Addr} {c : Str} (R : RelS K G O A ms σ H ρ) (hi : i ∉ O) (hlt : i < ρ.length) (hn : G.px = none) (h0 : i ≠ 0 ∨ G.io = none) :
    RelS K (G.at i a c) (i :: O) A (fun j => if j = i then none else ms j) (σ.set i (some (.ref a))) H (ρ.set i none) := by
  have R1 := R.forget (O1 := i :: O) (NPx.no hn) h0 fun j hj => by simp [hj]
  have ne : ∀ {j : Nat} {z : D}, (ρ.set i none)[j]? = some (some z) → j ≠ i := fun {j z} e h => by
    subst h
    rw [List.getElem?_set_self hlt] at e; cases e
  exact {
    sub := R1.sub
    trk0 := R1.trk0
    trk := R1.trk
    keep := R1.keep
    len := by rw [List.length_set]; exact R1.len
    fz := fun j d e n => let ⟨v, e1, q⟩ := R1.fz j d e n; ⟨v, by rw [List.getElem?_set_ne (Ne.symm (ne e))]; exact e1, q⟩
    ow := fun j d e m => let ⟨p, e0, e1, q⟩ := R1.ow j d e m; ⟨p, e0, by rw [List.getElem?_set_ne (Ne.symm (ne e))]; exact e1, q⟩
    inA := R1.inA
    ok := R1.ok
    dist := R1.dist
    px := fun j a' c' e => by
      cases e
      exact ⟨List.mem_cons_self, List.getElem?_set_self (by rw [R.len]; exact hlt)⟩
    io := R1.io }
theorem RelS.unnamed {K : PySem.W.Frag} {A : Addr → Prop} {ms : Nat → Option Addr} {σ : L2.St} {H : Hp} {ρ : En} {i : Nat} {a : Addr} {c : Str} (R : RelS K (G.at i a c) (i :: O) A ms σ H ρ) (hi : i ∉ O) (hn : G.px = none) (h0 : i ≠ 0 ∨ G.io = none) :
    RelS K G O A (fun j => if j = i then none else ms j) (σ.set i none) H (ρ.set i none) := by
  have ne : ∀ {j : Nat} {z : D}, (ρ.set i none)[j]? = some (some z) → j ≠ i := fun {j z} e h => by
    subst h
    by_cases hl : j < ρ.length
    · rw [List.getElem?_set_self hl] at e; cases e
    · rw [List.getElem?_eq_none (by rw [List.length_set]; omega)] at e; cases e
  have g : ∀ {j : Nat} {z : D}, (ρ.set i none)[j]? = some (some z) → ρ[j]? = some (some z) := fun {j z} e => by
    have e' := e
    rw [set_get_ne (ne e)] at e'
    exact e'
  have sm : ∀ {j : Nat} {p : Addr}, (if j = i then none else ms j) = some p → j ≠ i ∧ ms j = some p := fun {j p} e => by
    by_cases h : j = i
    · rw [if_pos h] at e; cases e
    · rw [if_neg h] at e; exact ⟨h, e⟩
  exact {
    sub := R.sub
    trk0 := R.trk0
    trk := R.trk
    keep := R.keep
    len := by rw [List.length_set, List.length_set]; exact R.len
    fz := fun j d e n => by
      have nj := ne e
      obtain ⟨v, e1, q⟩ := R.fz j d (g e) fun m => (List.mem_cons.mp m).elim nj n
      exact ⟨v, by rw [List.getElem?_set_ne (Ne.symm nj)]; exact e1, q⟩
    ow := fun j d e m => by
      have nj := ne e
      obtain ⟨p, e0, e1, q⟩ := R.ow j d (g e) (List.mem_cons_of_mem _ m)
      exact ⟨p, (if_neg nj).trans e0, by rw [List.getElem?_set_ne (Ne.symm nj)]; exact e1, q⟩
    inA := fun j p m e => R.inA j p (List.mem_cons_of_mem _ m) (sm e).2
    ok := fun j p m e => R.ok j p (List.mem_cons_of_mem _ m) (sm e).2
    dist := fun j j' p m m' e e' => R.dist j j' p (List.mem_cons_of_mem _ m) (List.mem_cons_of_mem _ m') (sm e).2 (sm e').2
    px := fun j a' c' e => by rw [hn] at e; cases e
    io := fun p e => by
      obtain ⟨h1, h2, h3, z, h4⟩ := R.io p e
      have n0 : (0 : Nat) ≠ i := fun w => by
        rcases h0 with k | k
        · exact k w.symm
        · rw [k] at e; cases e
      exact ⟨(List.mem_cons.mp h1).resolve_left n0, h2, (if_neg n0).trans h3, z, by rw [set_get_ne n0]; exact h4⟩ }
theorem ds_tryAs {n : Str} {c : Value} {i : Nat} {body suite : List Stmt} {b₀ : Stmt} {np pos' : Pos} {mt : Str → Option Bool} {mb : MS} {ms : Str → MS} (hx : XC O) (hs : X.stack = X.env :: X.outer) (hf : X.env.frame = some X.env.locals) (hN : X.N.Nodup) (hi : X.N[i]? = some n) (hln : X.env.kindOf n = some .local) (hc : Names X x c) (tk : Takes X W)
    (hmt : Mt X c mt) (oi : O.contains i = false) (h0 : i ≠ 0 ∨ G.io = none) (hn : G.px = none)
    (hb : ∀ (W : WX) (pn : List (Addr × Obj)) (xe : Value → Shared → Prop), Takes (X.tr pn xe) W → PassesOwn (model X.prog X.w) X.A X.env xe → DSs (X.tr pn xe) G (fun o => o = O) Ol O O W fr body mb)
    (hsu : ∀ (a : Addr) (oe : Obj) (k : Str) (pn : List (Addr × Obj)), Zc (.ref (He.ga X.K k)) none oe → (∃ vs, oe.data = .fields vs) → mt k = some true → DSs (X.suite a ((a, oe) :: pn)) (G.at i a k) (fun o => o = i :: O) (i :: Ol) (i :: O) (i :: O) W0 fr (b₀ :: suite) (ms k))
    (nol : Ol.contains i = false) :
    DS X G XC Ol O O W fr (.Try body [.ExceptHandler (some (.Name x np)) (some n) (b₀ :: suite) pos'] [] [] pos) (msTryAs mt i mb ms) := by
  have ni : i ∉ O := fun z => by rw [List.contains_iff_mem.mpr z] at oi; cases oi
  have nl : i ∉ Ol := fun z => by rw [List.contains_iff_mem.mpr z] at nol; cases nol
  let ts : Addr → Value → Option Addr → TS := fun a cls d D σ H => ∃ k : Str, (cls = .ref (He.ga X.K k) ∧ d = none ∧ mt k = some true) ∧ tS X.K (G.at i a k) (fun o => o = i :: O) (i :: Ol) (i :: O) (i :: O) W0 fr (ms k) D σ H
  refine ps_imp (ps_try_as (ts := ts) (Wout := W) (tb := fun W => tS X.K G (fun o => o = O) Ol O O W fr mb) hs hf hN hi hln hc tk (fun W pn xe t p => hb W pn xe t p) (fun a oe cls d pn hz hd => ?_)) fun D0 σ H ⟨A, ms', ρ, R, q⟩ => ?_
  · refine pss_ex fun k ⟨e1, e2, e3⟩ => ?_
    subst e1 e2
    exact hsu a oe k pn hz hd e3
  · refine ⟨A, ms', ρ, R, ?_⟩
    unfold msTryAs at q
    cases hm : mb ρ with
    | nx ρ1 => rw [hm] at q; exact q
    | rt d ρ1 => rw [hm] at q; exact q
    | bk ρ1 => rw [hm] at q; exact q
    | ct ρ1 => rw [hm] at q; exact q
    | bad => rw [hm] at q; exact q.elim
    | ex y ρ1 =>
      rw [hm] at q
      intro dx σ1 H1 A1 ms1 O'' hO R1 t1 xr
      have hO' : O'' = O := hO
      subst hO'
      have q1 := SPost.from t1 q
      have q1 : SPost X.K G XC Ol O'' W fr A1 H1 D0 (match mt y.c with
        | some true => match y.fs with
          | [] => if i < ρ1.length then fgt i (ms y.c (ρ1.set i none)) else .bad
          | _ => .bad
        | some false => .ex y ρ1
        | none => .bad) := q1
      cases hb1 : mt y.c with
      | none => simp only [hb1] at q1; exact q1.elim
      | some b =>
        simp only [hb1] at q1
        refine ⟨b, hmt _ _ hb1, fun e1 a na => ?_, fun e1 => ?_⟩
        · subst e1
          obtain ⟨yc, yf⟩ := y
          cases yf with
          | cons _ _ => exact q1.elim
          | nil =>
            have q2 : SPost X.K G XC Ol O'' W fr A1 H1 D0 (if i < ρ1.length then fgt i (ms yc (ρ1.set i none)) else .bad) := q1
            have dn : dx = none := by
              rcases xr with ⟨_, z⟩ | ⟨z, _⟩
              · exact z
              · exact absurd rfl z
            subst dn
            split at q2
            · rename_i hlt
              refine ⟨yc, ⟨rfl, rfl, hb1⟩, A1, _, _, R1.named ni hlt hn h0, ?_⟩
              cases hr : ms yc (ρ1.set i none) with
              | nx ρ2 => rw [hr] at q2; exact fun σ' H' A' ms' R' t => q2 _ H' A' _ (R'.unnamed ni hn h0) t
              | bk ρ2 => rw [hr] at q2; exact fun σ' H' A' ms' R' t => q2 _ H' A' _ (R'.unnamed nl hn h0) t
              | ct ρ2 => rw [hr] at q2; exact fun σ' H' A' ms' R' t => q2 _ H' A' _ (R'.unnamed nl hn h0) t
              | rt d ρ2 => rw [hr] at q2; exact q2
              | ex z ρ2 => rw [hr] at q2; exact q2.elim
              | bad => rw [hr] at q2; exact q2.elim
            · exact q2.elim
        · subst e1
          have q2 : SPost X.K G XC Ol O'' W fr A1 H1 D0 (.ex y ρ1) := q1
          exact q2 dx σ1 H1 A1 ms1 O'' hx R1 Tr.refl xr
end
end DL
namespace DL
open L2 PySem PySem.Spec PyProof.Rows
section
variable {X : Cx} {G : Gd} {XC : List Nat → Prop} {Ol O O' O1 : List Nat} {W : WX} {fr : Bool} {a b c e o : Expr} {es : List Expr} {ma mb mc me mo : ME} {mr : MA} {pos p apos : Pos} {x y : Str}

theorem de_isE {i : Nat} {n C k : Str} {v : Bool} {ad : Addr} {np cp : Pos} (hpx : G.px = some (i, ad, k)) (hC : CallR X (.builtin "isinstance") (rIsE X.K (He.ga X.K k) ad)) (ht : PySem.W.kitOne X.K (.ref (He.ga X.K k)) (.ref (He.ga X.K C)) = some v)
    (hg : Gl X "isinstance") (hm : X.mg "isinstance" = none) (hN : X.N[i]? = some n) (hv : Vis X.env.scope n) (hcg : Gl X C) (hcm : X.mg C = some (.ref (He.ga X.K C)))
    (hd1 : (n == ("__debug__" : Str)) = false := by decide) (hd2 : (n == ("__classdict__" : Str)) = false := by decide) (hd3 : (C == ("__debug__" : Str)) = false := by decide)
    (he : starEach [.Name n np, .Name C cp] X.env = (false, eval (.Name n np) X.env) :: starEach [.Name C cp] X.env := by rfl) (he2 : starEach [.Name C cp] X.env = (false, eval (.Name C cp) X.env) :: starEach [] X.env := by rfl) (hpl : (backTo pos (starEach [.Name C cp] X.env)).any (·.1) = false := by rfl) :
    DE X G O W (.Call (.Name "isinstance" p) [.Name n np, .Name C cp] [] pos) (mK (.bl v)) := by
  refine pe_imp (pe_callB hC hg hm bt_isinstance (pa_cons (pe_var hN hv hd1 hd2) (pa_cons (pe_glob (v := .ref (He.ga X.K C)) hcg hcm rfl hd3) pa_nil he2) he) (by decide) (by decide) he hpl) fun σ H Q ⟨A, ms, ρ, R, q⟩ => ?_
  obtain ⟨_, h1⟩ := R.px i ad k hpx
  exact ⟨_, h1, .ref (He.ga X.K C), .ref (He.ga X.K C), v, rfl, fun u r => r, ht, q _ H R Kp.refl (.bl v)⟩

theorem FnG.weak {P : Program} {w : World} {K : PySem.W.Frag} {mg : Str → Option Value} {base : Heap} {k : Nat} {f : Addr} {F : FN} (h : FnG P w K mg base k f false true F) : FnG P w K mg base k f false false F := by
  refine ⟨fun A outer s H us vs Q E hr hg e0 rv ⟨A0, q, ds, t, hq, ar, post⟩ => h.run A outer s H us vs Q E hr hg e0 rv ⟨A0, q, ds, t, hq, ar, ?_⟩, h.kp⟩
  cases hF : F ds with
  | bad => rw [hF] at post; exact post.elim
  | ex x o => rw [hF] at post; exact post
  | rt d o =>
    rw [hF] at post
    intro v H' ki rr
    obtain ⟨r, rfl, hr, ow, oo⟩ := (show ∃ r, v = .ref r ∧ H r = none ∧ Own K (fun a => A0 a ∨ a = r) H' r d ∧ ∀ p, q = some p → Own K (fun a => A0 a ∨ a = r) H' p o from rr)
    have nr : ¬ A0 r := t.no hr
    exact post _ H' ki ⟨ow.freeze (fun a z => .inl z) nr, fun p e => (oo p e).less fun a z => .inl z⟩
def Tab (X : Cx) (k : Nat) (tab : Str → Option FN) : Prop := ∀ x F, tab x = some F → FnG X.prog X.w X.K X.mg X.base k (He.ga X.K x) false false F
def mCallV (tab : Str → Option FN) (f : ME) (args : MA) : ME := fun ρ => (f ρ).bind fun d ρ1 => match d with
  | .fn x => match tab x with
    | some F => mCall F args ρ1
    | none => .bad
  | _ => .bad
theorem de_callV {k : Nat} {tab : Str → Option FN} {f : Expr} {mf : ME} (T : Tab X k tab) (hr : Room k X.A) (hg : X.A.guards = some []) (tk : Takes X W) (hf : DE X G O W f mf) (ha : DA X G O W (e :: es) mr)
    (ht : eval (.Call f (e :: es) [] pos) X.env = (do callWith pos (← eval f X.env) [] (backTo pos (starEach (e :: es) X.env)) (backToKw pos (keywordEach [] X.env))) := by rfl)
    (he : starEach (e :: es) X.env = (false, eval e X.env) :: starEach es X.env := by rfl) (hpl : (backTo pos (starEach es X.env)).any (·.1) = false := by rfl) : DE X G O W (.Call f (e :: es) [] pos) (mCallV tab mf mr) := by
  refine ⟨fun pins s σ H Q I ⟨A, ms, ρ, R, q⟩ => ?_⟩
  refine Call_ (thn (PE.run hf pins s σ H (fun y H1 => ∃ d ρ1, RelS X.K G O A ms σ H1 ρ1 ∧ Kp O ms H H1 ∧ Rp X.K A H1 y d ∧ RPost X.K G O W A ms σ H1 (Rp X.K A) Q (match d with
    | .fn x => match tab x with
      | some F => mCall F mr ρ1
      | none => .bad
    | _ => .bad)) I ⟨A, ms, ρ, R, RPost.bind q⟩) fun u s1 ⟨y, H1, I1, ry, d, ρ1, R1, k1, r1, q1⟩ => ?_) ht
  cases d with
  | fn x =>
    cases hT : tab x with
    | none => simp only [hT] at q1; exact q1.elim
    | some F =>
      simp only [hT] at q1
      cases r1
      obtain rfl : u = Value.ref (He.ga X.K x) := ry
      have C := T x F hT
      have q2 : tCallG X.K false false F W (tA X.K G O W mr) σ H1 Q := call_goE ⟨A, ms, ρ1, R1, q1⟩
      exact PySem.W.callWith_K (h₀ := X.base) I1.ok.mod.kin C.kp (thn (ha.run pos pins s1 σ H1 _ I1 q2) fun us s2 ⟨vs, H2, I2, r, q3⟩ => ⟨I2.kIn, run_fnG C hr hg tk I2 r q3⟩) he hpl
  | _ => exact q1.elim

def rMD (K : PySem.W.Frag) (g : D → List D → Option D) : V → List V → Hp → VK → Prop := fun x xs H Q => ∃ A c ds d, Trk A H ∧ RpB K A H x c ∧ (RpA K A H xs ds ∨ ∃ v c, xs = [v] ∧ ds = [c] ∧ RpB K A H v c) ∧ g c ds = some d ∧ ∀ v H', Same H H' → Rp K A H' v d → Fr K A H H' v d → Q v H'
def isStr : D → Bool
  | .str _ => true
  | _ => false
def mM (g : D → List D → Option D) (o : ME) (args : MA) : ME := fun ρ => (o ρ).bind fun x ρ1 => if isStr x = true then (args ρ1).bind fun xs ρ2 => ret (g x xs) ρ2 else .bad
def mMF (g : D → List D → Option D) (o : ME) (args : MA) : ME := fun ρ => (o ρ).bind fun x ρ1 => if isStr x = true then (args ρ1).bind fun xs ρ2 => ret ((g x xs).bind isL) ρ2 else .bad
theorem strm_go {K : PySem.W.Frag} {g : D → List D → Option D} {σ : L2.St} {H : Hp} {Q : VK} (h : tE K G O W (mM g mo mr) σ H Q) : tBM K "str" (rMD K g) (tE K G O W mo) (tA K G O W mr) σ H Q := by
  obtain ⟨A, ms, ρ, R, q⟩ := h
  refine ⟨A, ms, ρ, R, RPost.mono (RPost.bind q) ?_⟩
  rintro v H1 ⟨d, ρ1, R1, k1, r1, q1⟩
  split at q1
  · cases d with
    | str z =>
      cases r1
      refine ⟨rfl, A, ms, ρ1, R1, RPost.mono (RPost.bind q1) ?_⟩
      rintro vs H2 ⟨ds, ρ2, R2', k2, r2, q2⟩
      obtain ⟨z', hz, q3⟩ := rp_of R2' q2
      exact ⟨A, _, ds, z', R2'.trk, .of (.str z), .inl r2, hz, fun v H' s r _ => q3 v H' s r⟩
    | _ => rename_i h; cases h
  · exact q1.elim
theorem strmF_go {K : PySem.W.Frag} {g : D → List D → Option D} {σ : L2.St} {H : Hp} {Q : VK} (h : tF K G O W (mMF g mo mr) σ H Q) : tBM K "str" (rMD K g) (tE K G O W mo) (tA K G O W mr) σ H Q := by
  obtain ⟨A, ms, ρ, R, q⟩ := h
  refine ⟨A, ms, ρ, R, RPost.mono (FPost.bind q) ?_⟩
  rintro v H1 ⟨d, ρ1, R1, k1, r1, q1⟩
  split at q1
  · cases d with
    | str z =>
      cases r1
      refine ⟨rfl, A, ms, ρ1, R1, RPost.mono (FPost.bind q1) ?_⟩
      rintro vs H2 ⟨ds, ρ2, R2', k2, r2, q2⟩
      obtain ⟨z', hz⟩ := fp_some q2
      exact ⟨A, _, ds, _, R2'.trk, .of (.str z), .inl r2, hz, fun v H' s r f => fp_fin q2 hz R2' s f⟩
    | _ => rename_i h; cases h
  · exact q1.elim
section
variable {name : Str} {id : String} {g : D → List D → Option D}
theorem de_sm (slot : Slot "str" name id) (hty : typeOf (.builtin id) = pure (.type "method_descriptor")) (hm : MtR X id (rMD X.K g)) (ho : DE X G O W o mo) (ha : DA X G O W (e :: es) mr)
    (hbase : attributeBase o name X.env (eval o X.env) = eval o X.env := by rfl)
    (hfew : ((backTo pos (starEach (e :: es) X.env)).all (fun x => !x.1) && (backToKw pos (keywordEach [] X.env)).all (fun x => x.1.isSome)
      && decide ((e :: es).length + ([] : List Keyword).length + (if ([] : List Keyword).isEmpty then 0 else 1) < 30)) = true := by rfl)
    (hline : (apos.endLine == pos.line) = true := by rfl) (hs : starEach (e :: es) X.env = (false, eval e X.env) :: starEach es X.env := by rfl) (hplain : (backTo pos (starEach es X.env)).any (·.1) = false := by rfl) :
    DE X G O W (.Call (.Attribute o name apos) (e :: es) [] pos) (mM g mo mr) := pe_imp (pe_bm PySem.F.plainAttrs_str slot hty hm ho ha hbase hfew hline hs hplain) fun _ _ _ h => strm_go h
theorem df_sm (slot : Slot "str" name id) (hty : typeOf (.builtin id) = pure (.type "method_descriptor")) (hm : MtR X id (rMD X.K g)) (ho : DE X G O W o mo) (ha : DA X G O W (e :: es) mr)
    (hbase : attributeBase o name X.env (eval o X.env) = eval o X.env := by rfl)
    (hfew : ((backTo pos (starEach (e :: es) X.env)).all (fun x => !x.1) && (backToKw pos (keywordEach [] X.env)).all (fun x => x.1.isSome)
      && decide ((e :: es).length + ([] : List Keyword).length + (if ([] : List Keyword).isEmpty then 0 else 1) < 30)) = true := by rfl)
    (hline : (apos.endLine == pos.line) = true := by rfl) (hs : starEach (e :: es) X.env = (false, eval e X.env) :: starEach es X.env := by rfl) (hplain : (backTo pos (starEach es X.env)).any (·.1) = false := by rfl) :
    DF X G O W (.Call (.Attribute o name apos) (e :: es) [] pos) (mMF g mo mr) := pe_imp (pe_bm PySem.F.plainAttrs_str slot hty hm ho ha hbase hfew hline hs hplain) fun _ _ _ h => strmF_go h
end
def gSplit (x : D) (xs : List D) : Option D := match x, xs with
  | .str a, [.str b] => if (b.length == 0) = false ∧ a.length + 2 ≤ sizeLine then some (.lst ((Txt.split a b).map D.str)) else none
  | _, _ => none
def gJoin (x : D) (xs : List D) : Option D := match x, xs with
  | .str a, [.lst l] => match asStrs l with
    | some ys => if (ys.map (·.length)).sum + ys.length * a.length ≤ 16777216 then some (.str (Txt.join a ys)) else none
    | none => none
  | _, _ => none
theorem mt_splitD : MtR X "str.split" (rMD X.K gSplit) := by
  rintro pins s σ H v xs u us Q I rx rs ⟨A, c, ds, d, t, rc, ra, hg, q⟩
  unfold gSplit at hg
  split at hg
  · rename_i a b
    obtain ⟨hz, rfl⟩ := ite_d (x := .lst ((Txt.split a b).map D.str)) hg
    rw [rc.str] at rx
    obtain ⟨w, rfl, hw⟩ := one_arg ra
    rw [hw.str] at rs
    refine mt_split pins s σ H _ _ u us Q I rx rs ⟨a, b, rfl, rfl, hz.1, hz.2, fun r hr => ?_⟩
    exact q _ _ (same_upd hr) (new_lst t (RpA.of_strs _) hr) (new_fr t (RpA.of_strs _) hr)
  · cases hg
theorem mt_joinD : MtR X "str.join" (rMD X.K gJoin) := by
  rintro pins s σ H v xs u us Q I rx rs ⟨A, c, ds, d, t, rc, ra, hg, q⟩
  unfold gJoin at hg
  split at hg
  · rename_i a l
    split at hg
    · rename_i ys hy
      obtain ⟨hz, rfl⟩ := ite_d (x := .str (Txt.join a ys)) hg
      rw [rc.str] at rx
      obtain ⟨w, rfl, hw⟩ := one_arg ra
      obtain ⟨p, zs, rfl, h1, r1⟩ := hw.lst
      rw [asStrs_eq hy] at r1
      rw [r1.strs] at h1
      exact mt_join pins s σ H _ _ u us Q I rx rs ⟨a, p, ys, rfl, rfl, .inl (SqL.of h1), hz, q _ _ (Same.refl _) (.str _) (no_fr fun _ => nofun)⟩
    · cases hg
  · cases hg
def mJoinO (o : ME) (j : Nat) : ME := fun ρ => (o ρ).bind fun x ρ1 => if isStr x = true then match getO ρ1 j with
  | some (.lst l) => ret (gJoin x [.lst l]) ρ1
  | _ => .bad
  else .bad
theorem de_joinO {j : Nat} (hj : O.contains j = true) (ho : DE X G O W o mo) (hy : PE X e (tVar j))
    (hbase : attributeBase o "join" X.env (eval o X.env) = eval o X.env := by rfl)
    (hfew : ((backTo pos (starEach [e] X.env)).all (fun x => !x.1) && (backToKw pos (keywordEach [] X.env)).all (fun x => x.1.isSome)
      && decide (([e] : List Expr).length + ([] : List Keyword).length + (if ([] : List Keyword).isEmpty then 0 else 1) < 30)) = true := by rfl)
    (hline : (apos.endLine == pos.line) = true := by rfl) (hs : starEach [e] X.env = (false, eval e X.env) :: starEach [] X.env := by rfl) (hplain : (backTo pos (starEach [] X.env)).any (·.1) = false := by rfl) :
    DE X G O W (.Call (.Attribute o "join" apos) [e] [] pos) (mJoinO mo j) := by
  refine pe_imp (pe_bm PySem.F.plainAttrs_str PySem.F.slot_str_join PySem.F.type_str_join mt_joinD ho (pa_own hy hs) hbase hfew hline hs hplain) fun σ H Q ⟨A, ms, ρ, R, q⟩ => ?_
  refine ⟨A, ms, ρ, R, RPost.mono (RPost.bind q) ?_⟩
  rintro v H1 ⟨d, ρ1, R1, k1, r1, q1⟩
  split at q1
  · cases d with
    | str z =>
      cases r1
      refine ⟨rfl, ?_⟩
      split at q1
      · rename_i l hl
        obtain ⟨pj, h1, h2, h3⟩ := own_at R1 hj hl
        obtain ⟨z', hz, q3⟩ := rp_of R1 q1
        exact ⟨_, h2, A, _, _, z', R1.trk, .of (.str z), .inr ⟨_, _, rfl, rfl, own_b h3⟩, hz, fun v H' s r _ => q3 v H' s r⟩
      · exact q1.elim
    | _ => rename_i h; cases h
  · exact q1.elim
end
end DL
namespace DL
open L2 PySem PySem.Spec PyProof.Rows

theorem lawG {P : Program} {w : World} {K : PySem.W.Frag} {mg mB : Str → Option Value} {k : Nat} {fL sc : Addr} {F : FN} {t0 : Shared} {ws : List Value} {zs : List Int} {o : D} (kin : K.In t0.heap) (nsG : t0.heap.Ns mainGlobals mg) (nsB : t0.heap.Ns builtinsNs mB)
    (bB : ∀ y : Str, y ≠ "__name__" → mB y = bootBuiltins y) (noL : t0.heap.NoLimit) (noG : t0.gens = #[]) (hsc : t0.heap.get? sc = some { cls := .type "list", data := .seq ws.toArray }) (itg : IntsAre ws zs) (few : zs.length ≤ sizeLine) (room : Room k callerA)
    (C : ∀ base : Heap, K.In base → base.Ns mainGlobals mg → FnG P w K mg base k fL false false F) (hF : F [.scr (zs.map D.int)] = .rt (.bl true) o) :
    codeAny (model P w) callerA (.call (.ref fL) ⟨[.ref sc], []⟩) (fun r t => r = .ok (.ret (.bool true)) ∧ OldK t0.heap t.heap ∧ t.os = t0.os ∧ AllBare t.gens) t0 := by
  have rz := vals_ints itg
  have lz := itg.length
  have main : ∀ J : Hp, Only J → SqL K J sc (zs.map V.int) → HOk P w J t0.heap → (∀ b, J b ≠ none → b = sc) → (J sc ≠ none → K.lookup sc = none) →
      codeAny (model P w) callerA (.call (.ref fL) ⟨[.ref sc], []⟩) (fun r t => r = .ok (.ret (.bool true)) ∧ OldK t0.heap t.heap ∧ t.os = t0.os ∧ AllBare t.gens) t0 := by
    intro J only sq ok1 at1 no1
    have keepB : ∀ {b : Addr} {ob : Obj}, t0.heap.get? b = some ob → J b = none → (hidT t0.heap J).get? b = some ob := fun x y => hidT_get x y
    have noDict : ∀ {b : Addr} {ob : Obj} {es : Array DictEntry} {ep : Nat}, t0.heap.get? b = some ob → ob.data = .dict es ep → J b = none := fun {b ob es ep} x y => by
      cases z : J b with
      | none => rfl
      | some u =>
        obtain rfl : b = sc := at1 b (by rw [z]; simp)
        rw [hsc] at x
        cases x
        cases (show Data.seq ws.toArray _ = Data.dict es ep from y)
    have nsT : ∀ {b : Addr} {m : Str → Option Value}, t0.heap.Ns b m → (hidT t0.heap J).Ns b m := fun {b m} ⟨ob, es, ep, x, y, r⟩ => ⟨ob, es, ep, keepB x (noDict x y), y, r⟩
    have kinB : K.In (hidT t0.heap J) := fun b ob x => keepB (kin b ob x) (by
      cases z : J b with
      | none => rfl
      | some u =>
        obtain rfl : b = sc := at1 b (by rw [z]; simp)
        rw [no1 (by rw [z]; simp)] at x
        cases x)
    have modB : Mod K mg (hidT t0.heap J) := ⟨kinB, nsT nsG, ⟨mB, nsT nsB, bB⟩, let ⟨m1, x, y⟩ := noL; ⟨m1, nsT x, y⟩⟩
    have env0 : Env0 P w K mg (hidT t0.heap J) callerA [] t0 J := ⟨rfl, modB, fun b ob x => of_hidT x, Nat.le_of_eq (hidT_size _ _), trivial, fun b hb => absurd (show b ∈ ([] : List Addr) from hb) List.not_mem_nil, ok1, .of_eq noG⟩
    have sp1 : spD K false false F [.ref sc] J (fun v _ => v = .bl true) (fun _ _ _ => False) := by
      refine ⟨fun _ => False, none, [.scr (zs.map D.int)], fun _ z => z.elim, rfl, ?_, ?_⟩
      · exact .cons (.scr (sq.imp (fun z => ⟨z, fun z => z⟩) id) (RpA.of_ints zs)) .nil
      · rw [hF]
        intro v J' _ rr
        have rr' : Rp K (fun _ => False) J' v (.bl true) := rr.1
        cases rr'
        rfl
    refine codeAny_mono ((C _ kinB (nsT nsG)).run callerA [] t0 J [.ref sc] [.ref sc] _ _ room rfl env0 (.cons rfl .nil) sp1) fun r t hr => ?_
    cases r with
    | error e =>
      obtain ⟨_, _, _, _, _, _, _, _, _, _, _, _, z⟩ := (show L2.CX P w [] J t0 (fun _ _ _ => False) e t from hr)
      exact z.elim
    | ok fl =>
      cases fl with
      | next => exact hr.elim
      | brk => exact hr.elim
      | cont => exact hr.elim
      | ret u =>
        obtain ⟨v, J', os1, bare1, un1, ok2, rv, qv⟩ := hr
        obtain rfl : v = .bl true := qv
        obtain rfl : u = Value.bool true := rv
        refine ⟨rfl, OldK.of_keep fun b ob x => ?_, os1, bare1⟩
        cases z : J b with
        | none => exact un1.keep b ob x z (fun y => absurd (show b ∈ ([] : List Addr) from y) List.not_mem_nil) List.not_mem_nil
        | some u =>
          rcases only b with y | ⟨o1, xs, y⟩
          · rw [z] at y; cases y
          · obtain ⟨g1, _⟩ := ok1 b _ y
            obtain ⟨g2, _⟩ := ok2 b _ (un1.frzs b o1 _ y)
            rw [x] at g1
            cases g1
            exact g2
  cases lk : K.lookup sc with
  | some ob =>
    have x := kin sc ob lk
    rw [hsc] at x
    cases x
    exact main (fun _ => none) (fun _ => .inl rfl) (.inr ⟨_, ws.toArray, _, lk, rfl, rfl, rfl, by rw [List.size_toArray, lz]; exact few, by simpa using rz⟩) (fun b u z => by cases (show (none : Option HO) = some u from z)) (fun b z => absurd rfl z) fun z => absurd rfl z
  | none =>
    let ob : Obj := { cls := .type "list", data := .seq ws.toArray }
    refine main (fun b => if b = sc then some (.frz ob (.lst (zs.map V.int))) else none) (fun b => ?_) (.inl (.inr ⟨ob, if_pos rfl⟩)) (fun b u z => ?_) (fun b z => ?_) fun _ => lk
    · by_cases hb : b = sc
      · exact .inr ⟨_, _, if_pos hb⟩
      · exact .inl (if_neg hb)
    · by_cases hb : b = sc
      · cases (if_pos hb).symm.trans z
        subst hb
        exact ⟨hsc, by rw [List.length_map]; exact few, ws, _, rz, hsc⟩
      · cases (if_neg hb).symm.trans z
    · by_cases hb : b = sc
      · exact hb
      · exact absurd (if_neg hb) z
theorem walkG {l : PySem.W.OpenLaw} {n k : Nat} {q : Program} {loose : List Str} {XP : (Str → Option Value) → Heap → Prop} {YP : World → Heap → Prop} {d : DefRec} {F : FN} (hn : l.most = some n) (hn2 : n ≤ sizeLine) (hdf : d.params.defaults = []) (room : Room k callerA)
    (C : ∀ (w : World) (mg : Str → Option Value) (fL : Addr) (h : Heap), YP w h → h.Ns mainGlobals mg → mg d.name = some (.ref fL) → ∃ K : PySem.W.Frag, K.In h ∧ ∀ base : Heap, K.In base → base.Ns mainGlobals mg → FnG l.prog w K mg base k fL false false F)
    (hF : ∀ zs : List Int, zs.length ≤ n → ∃ o, F [.scr (zs.map D.int)] = .rt (.bl true) o) : PySem.W.WalkO q loose XP YP l.row.toRowW d [] (fun f vs => PySem.call f vs) := by
  refine Att.attach_call hn hdf fun w t1 t0 mg mB fL o pm cd doc sc ws zs G Y ho hd hcd hmg hobj hints hlen hg => ?_
  obtain ⟨K, kin, hC⟩ := C w mg fL _ Y G.T.g hmg
  obtain ⟨o', e⟩ := hF zs hlen
  exact lawG kin G.T.g G.T.b G.T.builtins G.T.nolimit hg hobj hints (Nat.le_trans hlen hn2) room hC e
abbrev Ok (P : Program) (w : World) (K : PySem.W.Frag) (mg : Str → Option Value) (k : Nat) (x : Str) (io fr : Bool) (F : FN) : Prop := ∀ base : Heap, FnG P w K mg base k (He.ga K x) io fr F

theorem guards_deeper {A : Around} {e : Env} (h : A.guards = some []) : (A.deeper e).guards = some [] := h
theorem Room.u64 {k : Nat} {A : Around} (r : Room k A) : A.units + 64 < cLine := by have := r.un; omega
theorem Room.u65 {k : Nat} {A : Around} (r : Room k A) : A.units + 65 < cLine := by have := r.un; omega
section
variable {X : Cx} {G : Gd} {XC : List Nat → Prop} {Ol O O' O1 : List Nat} {W : WX} {fr : Bool} {a b c e o : Expr} {es : List Expr} {ma mb mc me mo : ME} {mr : MA} {pos p apos : Pos} {x y : Str}
theorem v_ (i : Nat) {x : Str} {pos : Pos} (hO : O.contains i = false := by rfl) (hN : X.N[i]? = some x := by rfl) (hv : Vis X.env.scope x := by first | exact Or.inl rfl | exact Or.inr (Or.inl rfl) | exact Or.inr (Or.inr rfl))
    (hd : (x == ("__debug__" : Str)) = false := by decide) (hcd : (x == ("__classdict__" : Str)) = false := by decide) : DE X G O W (.Name x pos) (mVar i) := de_var i hO hN hv hd hcd
theorem gv_ {x : Str} {d : D} {v : V} {u : Value} (hm : X.mg x = some u) (ru : RelV v u) (hr : ∀ A H, Rp X.K A H v d) (hg : Gl X x := by rfl) (hd : (x == ("__debug__" : Str)) = false := by decide) : DE X G O W (.Name x pos) (mK d) := de_c (pe_glob hg hm ru hd) hr
theorem pm (op : CmpOp) (b : Expr) (h : behindInMarks op b = false := by rfl) : behindInMarks op b = false := h
end
end DL
namespace DL
open L2 PySem PySem.Spec PyProof.Rows
section
variable {X : Cx} {G : Gd} {XC : List Nat → Prop} {Ol O O' O1 : List Nat} {W : WX} {fr : Bool} {a b c e o : Expr} {es : List Expr} {ma mb mc me mo : ME} {mr : MA} {pos p apos : Pos} {x y : Str}
theorem tE_tF {K : PySem.W.Frag} {m : ME} {σ : L2.St} {H : Hp} {Q : VK} (h : tE K G O W m σ H Q) : tF K G O W m σ H Q := by
  obtain ⟨A, ms, ρ, R, q⟩ := h
  refine ⟨A, ms, ρ, R, ?_⟩
  cases hm : m ρ with
  | bad => rw [hm] at q; exact q.elim
  | ex x ρ1 => rw [hm] at q; exact q
  | ok d ρ1 =>
    rw [hm] at q
    intro p H' R' _ k hp ow
    have np : ¬ A p := Trk.no (fun a z => R.trk a z) hp
    exact q (.ref p) H' R' k (ow.freeze (fun a z => .inl z) np)
theorem put_post {K : PySem.W.Frag} {i : Nat} {D0 : Ends} {σ : L2.St} {H : Hp} (hx : XC O) (oi : O.contains i = false) (h : tS K G XC Ol O O W fr (msAsg me (mgName i)) D0 σ H) : tAsg (tE K G O W me) (gName i) D0 σ H := by
  obtain ⟨A, ms, ρ, R, q⟩ := h
  have ni : i ∉ O := fun z => by rw [List.contains_iff_mem.mpr z] at oi; cases oi
  refine ⟨A, ms, ρ, R, eb hx q ?_⟩
  intro d ρ1 v H1 _ R1 k r q1
  unfold mgName at q1
  split at q1
  · rename_i ρ2 he
    split at he
    · rename_i hlt
      cases he
      exact q1 _ H1 A ms (R1.put ni hlt r) Tr.refl
    · cases he
  · exact q1.elim
theorem own_post {K : PySem.W.Frag} {i : Nat} {D0 : Ends} {σ : L2.St} {H : Hp} (hx : XC O) (hi : O.contains i = true) (h0 : i ≠ 0 ∨ G.io = none) (hpx : NPx G i) (h : tS K G XC Ol O O W fr (msOwn i me) D0 σ H) : tAsg (tF K G O W me) (gName i) D0 σ H := by
  obtain ⟨A, ms, ρ, R, q⟩ := h
  refine ⟨A, ms, ρ, R, ?_⟩
  unfold msOwn at q
  cases hm : me ρ with
  | bad => rw [hm] at q; exact q.elim
  | ex y ρ1 => rw [hm] at q; exact fun dx H1 R1 k xr => q dx σ H1 A ms O hx R1 (R1.kt k) xr
  | ok d ρ1 =>
    rw [hm] at q
    intro r H1 R1 R2 k hr ow
    have q' : SPost K G XC Ol O W fr A H D0 (if i < ρ1.length then .nx (ρ1.set i (some d)) else .bad) := q
    split at q'
    · rename_i hlt
      refine q' _ H1 _ _ (R2.own (List.contains_iff_mem.mp hi) h0 hlt (R.msne hr) hpx (h0_none R hr) ow) fun a o e n => ⟨(R1.kt k a o e n).1, fun z => z.elim n fun z => ?_⟩
      rw [z, hr] at e
      cases e
    · exact q'.elim
section
variable {i : Nat} {py spos : Pos} {elt tg iter : Expr} {ifs : List Expr} {scope : Scope} {own : List (Str × Nat)} {mi : En → R (List D)} {g : MG} {mt : MT} {tt : TT}
theorem ds_setLc (hx : XC O) (oi : O.contains i = false) (hc : X.calm = true) (hN : X.N.Nodup) (hy : X.N[i]? = some y) (hyl : X.env.scope.names.lookup y = some .local) (hsw : swapsWith (.ListComp elt [⟨tg, iter, ifs, 0⟩] scope pos) (some (.Name y py)) spos.line X.env = pure true) (hv : (ownS own).all (fun i => !O.contains i) = true)
    (hi : DI X G O W tg iter mi) (ok : BlkOk X.N X.env.scope scope own)
    (hg : ∀ (s : Shared) (H : Hp) (C : Addr) (cl : List (Str × Addr)) (fp : List Addr), DG (X.blk s H scope (compEnvC scope cl C X.env) fp) G O (ownS own) tg g)
    (ht : ∀ (s : Shared) (H : Hp) (C : Addr) (cl : List (Str × Addr)) (fp : List Addr), PTs (X.blk s H scope (compEnvC scope cl C X.env) fp) ifs tt) (htt : ∀ σ H Q, tT X.K G O W0 mt σ H Q → tt σ H Q)
    (he : ∀ (s : Shared) (H : Hp) (C : Addr) (cl : List (Str × Addr)) (fp : List Addr), DE (X.blk s H scope (compEnvC scope cl C X.env) fp) G O W0 elt me) (hs : ∀ x, foldedSetIterable iter X.env x = pure x := by intro _; rfl) :
    DS X G XC Ol O O W fr (.Assign [.Name y py] (.ListComp elt [⟨tg, iter, ifs, 0⟩] scope pos) spos) (msAsg (mLc (ownS own) mi g mt me) (mgName i)) :=
  ps_imp (ps_setLc (te := tE X.K G O W0 me) (tt := tt) (g := tG X.K G O (ownS own) g) hc hN hy hyl hsw hi ok hg ht he hs) fun D0 σ H h => lc_go (W := W) hv htt (tE_tF (put_post hx oi h))
theorem ds_ownLc (hx : XC O) (oi : O.contains i = true) (h0 : i ≠ 0 ∨ G.io = none) (hc : X.calm = true) (hN : X.N.Nodup) (hy : X.N[i]? = some y) (hyl : X.env.scope.names.lookup y = some .local) (hsw : swapsWith (.ListComp elt [⟨tg, iter, ifs, 0⟩] scope pos) (some (.Name y py)) spos.line X.env = pure true) (hv : (ownS own).all (fun i => !O.contains i) = true)
    (hi : DI X G O W tg iter mi) (ok : BlkOk X.N X.env.scope scope own)
    (hg : ∀ (s : Shared) (H : Hp) (C : Addr) (cl : List (Str × Addr)) (fp : List Addr), DG (X.blk s H scope (compEnvC scope cl C X.env) fp) G O (ownS own) tg g)
    (ht : ∀ (s : Shared) (H : Hp) (C : Addr) (cl : List (Str × Addr)) (fp : List Addr), PTs (X.blk s H scope (compEnvC scope cl C X.env) fp) ifs tt) (htt : ∀ σ H Q, tT X.K G O W0 mt σ H Q → tt σ H Q)
    (he : ∀ (s : Shared) (H : Hp) (C : Addr) (cl : List (Str × Addr)) (fp : List Addr), DE (X.blk s H scope (compEnvC scope cl C X.env) fp) G O W0 elt me) (hs : ∀ x, foldedSetIterable iter X.env x = pure x := by intro _; rfl)
    (hpx : NPx G i := by first | exact NPx.no rfl | assumption) :
    DS X G XC Ol O O W fr (.Assign [.Name y py] (.ListComp elt [⟨tg, iter, ifs, 0⟩] scope pos) spos) (msOwn i (mLc (ownS own) mi g mt me)) :=
  ps_imp (ps_setLc (te := tE X.K G O W0 me) (tt := tt) (g := tG X.K G O (ownS own) g) hc hN hy hyl hsw hi ok hg ht he hs) fun D0 σ H h => lc_go (W := W) hv htt (own_post hx oi h0 hpx h)
end
theorem takes0 (h : X.xe = fun _ _ => False) : Takes X W0 := fun u s' ⟨_, _, _, _, _, _, _, _, _, _, _, _, _, _, _, _, z⟩ => z.elim
end
end DL
namespace DL
open L2 PySem PySem.Spec PyProof.Rows

abbrev XF := PySem.W.Frag → Bool
def obX (fa : List He.Fa) (xf : XF) (fn : List He.DefD) (K : PySem.W.Frag) : He.AlD := (xf K && ((fa.all fun f => f.ok K) && fn.all fun d => d.ok K), fn.map fun d => He.fnW K d.at_)
def SaysX (fa : List He.Fa) (xf : XF) (fn : List He.DefD) (K : PySem.W.Frag) : Prop := obX fa xf fn K = He.valD fn
def obXG (n : Nat) (fa : List He.Fa) (xf : XF) (fn : List He.DefD) (g : Addr → Option Obj) : He.AlD := obX fa xf fn (He.frG g (He.asD g n))
def hookX (n : Nat) (fa : List He.Fa) (xf : XF) (fn : List He.DefD) : PySem.W.Hook where
  α := He.AlD
  obs := fun t => obXG n fa xf fn t.heap.get?
  val := fun _ => He.valD fn
  says := fun _ hp => ∃ K : PySem.W.Frag, K.In hp ∧ SaysX fa xf fn K
  of := fun _ _ z => ⟨_, He.frG_in, z⟩
  keeps := fun _ _ _ ⟨K, z, c⟩ k => ⟨K, PySem.W.Frag.In.keeps z k, c⟩
theorem obXG_eq {n : Nat} {fa : List He.Fa} {xf : XF} {fn : List He.DefD} {g : Addr → Option Obj} {t : Shared} (h : ∀ a, g a = t.heap.get? a) : obXG n fa xf fn g = (hookX n fa xf fn).obs t := by
  have z : g = t.heap.get? := funext h
  rw [z] <;> rfl
section
variable {fa : List He.Fa} {xf : XF} {fn : List He.DefD} {K : PySem.W.Frag}
theorem SaysX.x1 (c : SaysX fa xf fn K) : xf K = true := (He.ba (show (xf K && ((fa.all fun f => f.ok K) && fn.all fun d => d.ok K)) = true from congrArg (fun z : He.AlD => z.1) c)).1
theorem SaysX.d (c : SaysX fa xf fn K) : He.SaysD fa fn K := by
  have c1 : (xf K && ((fa.all fun f => f.ok K) && fn.all fun d => d.ok K)) = true := congrArg (fun z : He.AlD => z.1) c
  have c2 : (fn.map fun d => He.fnW K d.at_) = fn.map He.DefD.val := congrArg (fun z : He.AlD => z.2) c
  exact Prod.ext (He.ba c1).2 c2
end
def excB (K : PySem.W.Frag) (x : Str) : Bool :=
  decide (PySem.W.findIn K (.ref (He.ga K x)) "__getattribute__" = some (some (.builtin "BaseException.__getattribute__"))) && (decide (PySem.W.findIn K (.ref (He.ga K x)) "__getattr__" = some none) && (decide (PySem.W.subIn K (.ref (He.ga K x)) (.type "BaseException") = some true) &&
    (PySem.W.hasDictIn K (He.ga K x) && (decide (PySem.W.findIn K (.ref (He.ga K x)) "__class__" = some (some (.builtin "object.__class__"))) && (decide (PySem.W.specialIn K (.builtin "object.__class__") "__get__" = some (some (.builtin "getset_descriptor.__get__"))) &&
      (decide (PySem.W.takesIn K (.builtin "object.__class__") = some true) && decide (PySem.W.mroIn K (He.ga K x) (.type "object") = some true)))))))
theorem excB_ok {K : PySem.W.Frag} {x : Str} (h : excB K x = true) : ExcC K (He.ga K x) := by
  unfold excB at h
  obtain ⟨h1, h⟩ := He.ba h
  obtain ⟨h2, h⟩ := He.ba h
  obtain ⟨h3, h⟩ := He.ba h
  obtain ⟨h4, h⟩ := He.ba h
  obtain ⟨h5, h⟩ := He.ba h
  obtain ⟨h6, h⟩ := He.ba h
  obtain ⟨h7, h8⟩ := He.ba h
  exact ⟨of_decide_eq_true h1, of_decide_eq_true h2, of_decide_eq_true h3, h4, of_decide_eq_true h5, of_decide_eq_true h6, of_decide_eq_true h7, of_decide_eq_true h8⟩
def kitB (K : PySem.W.Frag) (x y : Str) (b : Bool) : Bool := decide (PySem.W.kitOne K (.ref (He.ga K x)) (.ref (He.ga K y)) = some b)
theorem kitB_ok {K : PySem.W.Frag} {x y : Str} {b : Bool} (h : kitB K x y b = true) : PySem.W.kitOne K (.ref (He.ga K x)) (.ref (He.ga K y)) = some b := of_decide_eq_true h
theorem supB_ok {K : PySem.W.Frag} {x : Str} {vs : List He.Dv} (h : He.tupB K x vs = true) (A : Addr → Prop) (H : Hp) : SqTA K A H (He.ga K x) (vs.map (He.Dv.v K)) := by
  have h0 := He.tupB_ok h (fun _ => none)
  rcases h0 with h0 | h0
  · rcases h0 with z | ⟨o, z⟩ <;> cases z
  · exact .inr h0
section
variable {X : Cx} {G : Gd} {XC : List Nat → Prop} {Ol O O' O1 : List Nat} {W : WX} {fr : Bool} {a b c e o : Expr} {es : List Expr} {ma mb mc me mo : ME} {mr : MA} {pos p apos : Pos} {x y : Str}
theorem gi_ {x : Str} {i : Int} (hm : ∃ t, X.mg x = some (.int i t)) (hg : Gl X x := by rfl) (hd : (x == ("__debug__" : Str)) = false := by decide) : DE X G O W (.Name x pos) (mK (.int i)) := by
  obtain ⟨t, e⟩ := hm
  exact gv_ (v := .int i) e ⟨t, rfl⟩ (fun _ _ => .int i) hg hd
theorem gs_ {x z : Str} (hm : ∃ t, X.mg x = some (.str z t)) (hg : Gl X x := by rfl) (hd : (x == ("__debug__" : Str)) = false := by decide) : DE X G O W (.Name x pos) (mK (.str z)) := by
  obtain ⟨t, e⟩ := hm
  exact gv_ (v := .str z) e ⟨t, rfl⟩ (fun _ _ => .str z) hg hd
theorem gt_ {x : Str} {vs : List He.Dv} {ds : List D} (hm : X.mg x = some (.ref (He.ga X.K x))) (hS : He.tupB X.K x vs = true) (hR : ∀ A H, RpA X.K A H (vs.map (He.Dv.v X.K)) ds) (hg : Gl X x := by rfl) (hd : (x == ("__debug__" : Str)) = false := by decide) : DE X G O W (.Name x pos) (mK (.tup ds)) :=
  gv_ (v := .ref (He.ga X.K x)) hm rfl (fun A H => .tup (supB_ok hS A H) (hR A H)) hg hd
theorem gf_ {x : Str} (hm : X.mg x = some (.ref (He.ga X.K x))) (hg : Gl X x := by rfl) (hd : (x == ("__debug__" : Str)) = false := by decide) : DE X G O W (.Name x pos) (mK (.fn x)) := de_fn hg hm hd
structure ExcOk (K : PySem.W.Frag) (mg : Str → Option Value) (C : Str) : Prop where
  ex : PySem.W.excIn K (He.ga K C) He.veBase "ValueError.__new__" = true
  kp : PySem.W.keepIn K (.ref (He.ga K C)) = true
  bs : PySem.W.subIn K (.ref (He.ga K C)) (.type "BaseException") = some true
  ty : PySem.W.typeIn K (.ref (He.ga K C)) = some (.type "type")
  gl : mg C = some (.ref (He.ga K C))
theorem ds_raiseC {C m : Str} {j : Nat} {p2 pos2 : Pos} (ec : ExcOk X.K X.mg C) (hx : XC O) (tk : Takes X W) (hc : X.calm = true := by rfl) (hg : Gl X C := by rfl) (hdb : (C == ("__debug__" : Str)) = false := by decide) : DS X G XC Ol O O' W fr (.Raise (some (.Call (.Name C p) [.Constant (.str m) j p2] [] pos2)) none pos) (msRaise C) :=
  ds_raise hx hc tk (pmk_own PySem.F.excBase_ValueError ec.ex ec.gl ec.kp (raises_own ec.bs ec.ty) hg hdb)
theorem callIsE {k : Str} {a : Addr} {oe : Obj} {pn : List (Addr × Obj)} (C : ExcC X.K (He.ga X.K k)) (hz : Zc (.ref (He.ga X.K k)) none oe) (hf : ∃ vs, oe.data = .fields vs) : CallR (X.suite a ((a, oe) :: pn)) (.builtin "isinstance") (rIsE X.K (He.ga X.K k) a) := call_isE C hz hf
end

theorem no_gEq : NoObj gEq := ⟨fun c fs z => by cases z <;> rfl, fun c fs z => by
  cases z with
  | tup l => show (match (D.tup l).py, (D.obj c fs).py with | some x, some y => if SeqAt.shaped x = true ∧ SeqAt.shaped y = true then some (PyData.eqv x y) else none | _, _ => none).map D.bl = none; cases (D.tup l).py <;> rfl
  | lst l => show (match (D.lst l).py, (D.obj c fs).py with | some x, some y => if SeqAt.shaped x = true ∧ SeqAt.shaped y = true then some (PyData.eqv x y) else none | _, _ => none).map D.bl = none; cases (D.lst l).py <;> rfl
  | _ => rfl⟩
theorem no_gNe : NoObj gNe := ⟨fun c fs z => by cases z <;> rfl, fun c fs z => by
  cases z with
  | tup l => show (match (D.tup l).py, (D.obj c fs).py with | some x, some y => if SeqAt.shaped x = true ∧ SeqAt.shaped y = true then some (PyData.eqv x y) else none | _, _ => none).map (fun k => D.bl (!k)) = none; cases (D.tup l).py <;> rfl
  | lst l => show (match (D.lst l).py, (D.obj c fs).py with | some x, some y => if SeqAt.shaped x = true ∧ SeqAt.shaped y = true then some (PyData.eqv x y) else none | _, _ => none).map (fun k => D.bl (!k)) = none; cases (D.lst l).py <;> rfl
  | _ => rfl⟩
theorem no_gIn : NoObj gIn := ⟨fun c fs z => by cases z <;> rfl, fun c fs z => by cases z <;> rfl⟩
theorem no_gNotIn : NoObj gNotIn := ⟨fun c fs z => by cases z <;> rfl, fun c fs z => by cases z <;> rfl⟩
theorem no_gAdd : NoObj gAdd := ⟨fun c fs z => by cases z <;> rfl, fun c fs z => by cases z <;> rfl⟩
theorem no_gMul : NoObj gMul := ⟨fun c fs z => by cases z <;> rfl, fun c fs z => by cases z <;> rfl⟩
def gIAdd (a b : D) : Option D := match a, b with
  | .int i, .int j => some (.int (i + j))
  | .str x, .str y => if x.length + y.length ≤ sizeLine then some (.str (x ++ y)) else none
  | _, _ => none
theorem oi_add {X : Cx} : OpR X (inplaceOp .Add) (rD2 X.K gIAdd) := by
  intro pins s σ H x y v u Q I rx ry ⟨A, a, b, d, t, pa, pb, e, q⟩
  cases a with
  | int i =>
    cases b with
    | int j =>
      cases e
      rw [pa.int] at rx
      rw [pb.int] at ry
      exact iop_add pins s σ H _ _ v u Q I rx ry ⟨i, j, rfl, rfl, q _ _ (Same.refl _) (.int _)⟩
    | _ => cases e
  | str i =>
    cases b with
    | str j =>
      obtain ⟨hz, rfl⟩ := ite_d (x := .str (i ++ j)) e
      rw [pa.str] at rx
      rw [pb.str] at ry
      exact iop_add_str pins s σ H _ _ v u Q I rx ry ⟨i, j, rfl, rfl, hz, q _ _ (Same.refl _) (.str _)⟩
    | _ => cases e
  | _ => cases b <;> cases e
section
variable {P : Program} {w : World} {K : PySem.W.Frag} {mg : Str → Option Value} {base : Heap} {N : List Str} {qual : Str} {scope : Scope} {f : Addr} {cdv : Value} {A : Around} {outer : List Env} {s : Shared} {H : Hp} {E : XK}
theorem cx_tk : Takes (cxOf (L2.CX P w) P w K mg base N qual scope f cdv A outer s H E) (fun cls d _ H' => E cls d H') := takes_of rfl rfl rfl rfl
theorem cx_pw : PassesOwn (model (cxOf (L2.CX P w) P w K mg base N qual scope f cdv A outer s H E).prog (cxOf (L2.CX P w) P w K mg base N qual scope f cdv A outer s H E).w) (cxOf (L2.CX P w) P w K mg base N qual scope f cdv A outer s H E).A (cxOf (L2.CX P w) P w K mg base N qual scope f cdv A outer s H E).env (cxOf (L2.CX P w) P w K mg base N qual scope f cdv A outer s H E).xe := passes_of rfl
end
end DL
namespace DL
open L2 PySem PySem.Spec PyProof.Rows

def Ret.R (r : Ret) (ρ : En) : R D := match r with
  | .rt d _ => .ok d ρ
  | .ex x _ => .ex x ρ
  | .bad => .bad
theorem mCall_R (F : FN) (args : MA) (ρ : En) : mCall F args ρ = (args ρ).bind fun ds ρ1 => (F ds).R ρ1 := rfl
section
variable {ρ ρ1 : En} {d : D} {α β : Type} {x : Xn}
@[simp] theorem bind_ok (a : α) (r : En) (f : α → En → R β) : R.bind (.ok a r) f = f a r := rfl
@[simp] theorem bind_ex (x : Xn) (r : En) (f : α → En → R β) : R.bind (.ex x r : R α) f = .ex x r := rfl
@[simp] theorem obind_ok (a : α) (r : En) (f : α → En → Out) : obind (.ok a r) f = f a r := rfl
@[simp] theorem obind_ex (x : Xn) (r : En) (f : α → En → Out) : obind (.ex x r : R α) f = .ex x r := rfl
@[simp] theorem ret_some (a : α) : ret (some a) ρ = .ok a ρ := rfl
@[simp] theorem ret_none : ret (none : Option α) ρ = .bad := rfl
@[simp] theorem mK_ap : mK d ρ = .ok d ρ := rfl
@[simp] theorem mVar_ap (i : Nat) : mVar i ρ = match ρ[i]? with | some (some d) => .ok d ρ | _ => .bad := by unfold mVar; rfl
@[simp] theorem m1_ap (g : D → Option D) (a : ME) : m1 g a ρ = (a ρ).bind fun x ρ1 => ret (g x) ρ1 := rfl
@[simp] theorem m2_ap (g : D → D → Option D) (a b : ME) : m2 g a b ρ = (a ρ).bind fun x ρ1 => (b ρ1).bind fun y ρ2 => ret (g x y) ρ2 := rfl
@[simp] theorem mIf_ap (c : MT) (a b : ME) : mIf c a b ρ = (c ρ).bind fun k ρ1 => if k = true then a ρ1 else b ρ1 := by
  unfold mIf; cases c ρ with
  | ok k r => cases k <;> rfl
  | ex _ _ => rfl
  | bad => rfl
@[simp] theorem mTest_ap (m : ME) : mTest m ρ = (m ρ).bind fun x ρ1 => ret (asB x) ρ1 := rfl
@[simp] theorem asB_bl (b : Bool) : asB (.bl b) = some b := rfl
@[simp] theorem mTru_ap (m : ME) : mTru m ρ = (m ρ).bind fun x ρ1 => ret (tru x) ρ1 := rfl
@[simp] theorem mNotT_ap (m : MT) : mNotT m ρ = (m ρ).bind fun x ρ1 => .ok (!x) ρ1 := rfl
@[simp] theorem mAndT_ap (a b : MT) : mAndT a b ρ = (a ρ).bind fun k ρ1 => if k = true then b ρ1 else .ok false ρ1 := by
  unfold mAndT; cases a ρ with
  | ok k r => cases k <;> rfl
  | ex _ _ => rfl
  | bad => rfl
@[simp] theorem mOrT_ap (a b : MT) : mOrT a b ρ = (a ρ).bind fun k ρ1 => if k = true then .ok true ρ1 else b ρ1 := by
  unfold mOrT; cases a ρ with
  | ok k r => cases k <;> rfl
  | ex _ _ => rfl
  | bad => rfl
@[simp] theorem mNil_ap : mNil ρ = .ok [] ρ := rfl
@[simp] theorem mCons_ap (a : ME) (b : MA) : mCons a b ρ = (a ρ).bind fun x ρ1 => (b ρ1).bind fun xs ρ2 => .ok (x :: xs) ρ2 := rfl
@[simp] theorem mN_ap (g : List D → Option D) (a : MA) : mN g a ρ = (a ρ).bind fun xs ρ1 => ret (g xs) ρ1 := rfl
@[simp] theorem msNil_ap : msNil ρ = .nx ρ := rfl
@[simp] theorem msSeq_ap (a b : MS) : msSeq a b ρ = match a ρ with | .nx ρ1 => b ρ1 | o => o := rfl
@[simp] theorem msExpr_ap (m : ME) : msExpr m ρ = obind (m ρ) fun _ ρ1 => .nx ρ1 := rfl
@[simp] theorem msAsg_ap (m : ME) (g : MG) : msAsg m g ρ = obind (m ρ) fun d ρ1 => match g d ρ1 with | .ok _ ρ2 => .nx ρ2 | _ => .bad := rfl
@[simp] theorem msOwn_ap (i : Nat) (m : ME) : msOwn i m ρ = obind (m ρ) fun d ρ1 => if i < ρ1.length then .nx (ρ1.set i (some d)) else .bad := rfl
@[simp] theorem msRet_ap (m : ME) : msRet m ρ = obind (m ρ) fun d ρ1 => .rt d ρ1 := rfl
@[simp] theorem msRetN_ap : msRetN ρ = .rt .non ρ := rfl
@[simp] theorem msRetO_ap (j : Nat) : msRetO j ρ = match getO ρ j with | some d => .rt d ρ | none => .bad := rfl
@[simp] theorem msIf_ap (c : MT) (a b : MS) : msIf c a b ρ = obind (c ρ) fun k ρ1 => if k = true then a ρ1 else b ρ1 := rfl
@[simp] theorem msBrk_ap : msBrk ρ = .bk ρ := rfl
@[simp] theorem msCnt_ap : msCnt ρ = .ct ρ := rfl
@[simp] theorem msFor_ap (mi : En → R (List D)) (g : MG) (mb : MS) : msFor mi g mb ρ = obind (mi ρ) fun ds ρ1 => loopL g mb ds ρ1 := rfl
@[simp] theorem msWhile_ap (n : Nat) (c : MT) (mb : MS) : msWhile n c mb ρ = loopW c mb n ρ := rfl
@[simp] theorem msForget_ap (j : Nat) (m : MS) : msForget j m ρ = m (ρ.set j none) := rfl
@[simp] theorem msPar_ap (is : List Nat) (m : MA) : msPar is m ρ = obind (m ρ) fun ds ρ1 => putP is ds ρ1 := rfl
@[simp] theorem msRaise_ap (c : Str) : msRaise c ρ = .ex ⟨c, []⟩ ρ := rfl
@[simp] theorem mgName_ap (i : Nat) : mgName i d ρ = if i < ρ.length then .ok () (ρ.set i (some d)) else .bad := rfl
@[simp] theorem mgNil_ap : mgNil [] ρ = .ok () ρ := rfl
@[simp] theorem mgCons_ap (g : MG) (gs : List D → En → R Unit) (r : List D) : mgCons g gs (d :: r) ρ = (g d ρ).bind fun _ ρ1 => gs r ρ1 := rfl
@[simp] theorem mgTup_ap (n : Nat) (gs : List D → En → R Unit) (ds : List D) : mgTup n gs (.tup ds) ρ = if ds.length = n then gs ds ρ else .bad := rfl
@[simp] theorem putP_nil : putP [] [] ρ = .nx ρ := rfl
@[simp] theorem putP_cons (i : Nat) (is : List Nat) (ds : List D) : putP (i :: is) (d :: ds) ρ = if i < ρ.length then putP is ds (ρ.set i (some d)) else .bad := rfl
@[simp] theorem mItN_ap (g : List D → Option (List D)) (a : MA) : mItN g a ρ = (a ρ).bind fun ds ρ1 => ret (g ds) ρ1 := rfl
@[simp] theorem mIter_ap (m : ME) : mIter m ρ = (m ρ).bind fun d ρ1 => ret (gIter d) ρ1 := rfl
theorem getO_ap (j : Nat) : getO ρ j = match ρ[j]? with | some (some d) => some d | _ => none := by unfold getO; rfl
@[simp] theorem mOM_ap (g : List D → List D → Option (D × List D)) (j : Nat) (args : MA) : mOM g j args ρ = match getO ρ j with
  | some (.lst _) => (args ρ).bind fun ds ρ1 => match getO ρ1 j with
    | some (.lst cs) => match g cs ds with
      | some (z, cs') => .ok z (ρ1.set j (some (.lst cs')))
      | none => .bad
    | _ => .bad
  | _ => .bad := rfl
@[simp] theorem mTruO_ap (j : Nat) : mTruO j ρ = match getO ρ j with | some (.lst l) => .ok (!l.isEmpty) ρ | _ => .bad := rfl
theorem mCallIo_ap (F : FN) (j : Nat) (args : MA) : mCallIo F j args ρ = match getO ρ j with
  | none => .bad
  | some _ => (args ρ).bind fun ds ρ1 => match getO ρ1 j with
    | none => .bad
    | some c => match F (c :: ds) with
      | .rt d o => .ok d (ρ1.set j (some o))
      | .ex x o => .ex x (ρ1.set j (some o))
      | .bad => .bad := rfl
@[simp] theorem mCallV_ap (tab : Str → Option FN) (f : ME) (args : MA) : mCallV tab f args ρ = (f ρ).bind fun d ρ1 => match d with
  | .fn x => match tab x with
    | some F => mCall F args ρ1
    | none => .bad
  | _ => .bad := rfl
@[simp] theorem gTup_ap (xs : List D) : gTup xs = if xs.length ≤ sizeLine then some (.tup xs) else none := rfl
@[simp] theorem gLst_ap (xs : List D) : gLst xs = if xs.length ≤ sizeLine then some (.lst xs) else none := rfl
@[simp] theorem gAdd_ii (i j : Int) : gAdd (.int i) (.int j) = some (.int (i + j)) := rfl
@[simp] theorem gSub_ii (i j : Int) : gSub (.int i) (.int j) = some (.int (i - j)) := rfl
theorem gMul_ii (i j : Int) : gMul (.int i) (.int j) = if okMul i j = true then some (.int (i * j)) else none := rfl
theorem gDiv_ii (i j : Int) : gDiv (.int i) (.int j) = if j ≠ 0 ∧ j.natAbs.log2 < 9000 then some (.int (i.fdiv j)) else none := rfl
theorem gMod_ii (i j : Int) : gMod (.int i) (.int j) = if j ≠ 0 then some (.int (i.fmod j)) else none := rfl
@[simp] theorem gNeg_i (i : Int) : gNeg (.int i) = some (.int (-i)) := rfl
@[simp] theorem gLt_ii (i j : Int) : gLt (.int i) (.int j) = some (.bl (decide (i < j))) := rfl
@[simp] theorem gGt_ii (i j : Int) : gGt (.int i) (.int j) = some (.bl (decide (j < i))) := rfl
@[simp] theorem gLe_ii (i j : Int) : gLe (.int i) (.int j) = some (.bl (decide (i ≤ j))) := rfl
@[simp] theorem gGe_ii (i j : Int) : gGe (.int i) (.int j) = some (.bl (decide (j ≤ i))) := rfl
@[simp] theorem gEq_ii (i j : Int) : gEq (.int i) (.int j) = some (.bl (decide (i = j))) := rfl
@[simp] theorem gNe_ii (i j : Int) : gNe (.int i) (.int j) = some (.bl (!decide (i = j))) := rfl
@[simp] theorem gEq_ss (i j : Str) : gEq (.str i) (.str j) = some (.bl (decide (i = j))) := rfl
@[simp] theorem gNe_ss (i j : Str) : gNe (.str i) (.str j) = some (.bl (!decide (i = j))) := rfl
@[simp] theorem gIs_n (d : D) : gIs d .non = some (.bl (isNon d)) := by cases d <;> rfl
@[simp] theorem gIsNot_n (d : D) : gIsNot d .non = some (.bl (!isNon d)) := by cases d <;> rfl
@[simp] theorem gIs_b (a b : Bool) : gIs (.bl a) (.bl b) = some (.bl (decide (a = b))) := rfl
@[simp] theorem gIsNot_b (a b : Bool) : gIsNot (.bl a) (.bl b) = some (.bl (!decide (a = b))) := rfl
@[simp] theorem gInt_i (i : Int) : gInt [.int i] = some (.int i) := rfl
@[simp] theorem gInt_b (k : Bool) : gInt [.bl k] = some (.int (if k then 1 else 0)) := rfl
@[simp] theorem gAbs_i (i : Int) : gAbs [.int i] = some (.int (if i < 0 then -i else i)) := rfl
@[simp] theorem mAnd_ap (a b : ME) : mAnd a b ρ = (a ρ).bind fun x ρ1 => (ret (tru x) ρ1).bind fun k ρ2 => if k = true then b ρ2 else .ok x ρ2 := by
  unfold mAnd
  cases a ρ with
  | ok x r =>
    simp only [bind_ok]
    try (cases tru x with
    | none => rfl
    | some k => cases k <;> rfl)
  | ex _ _ => rfl
  | bad => rfl
@[simp] theorem tru_bl (b : Bool) : tru (.bl b) = some b := rfl
@[simp] theorem gIx_t (l : List D) (i : Int) : gIx (.tup l) (.int i) = L2.atI l i := rfl
@[simp] theorem gIx_l (l : List D) (i : Int) : gIx (.lst l) (.int i) = L2.atI l i := rfl
@[simp] theorem gRange1_i (j : Int) : gRange1 [.int j] = if okR j = true then some (rangeL 0 j.toNat) else none := rfl
@[simp] theorem Ret.R_rt (d o : D) : Ret.R (.rt d o) ρ = .ok d ρ := rfl
@[simp] theorem Ret.R_ex (x : Xn) (o : D) : Ret.R (.ex x o) ρ = .ex x ρ := rfl
theorem mLc_ap (vs : List Nat) (mi : En → R (List D)) (g : MG) (mt : MT) (me : ME) : mLc vs mi g mt me ρ = (mi ρ).bind fun ds ρ1 => match lcLoop vs g mt me ds ρ1 with
  | .ok ys ρ2 => if ys.length ≤ sizeLine then .ok (.lst ys) (restE ρ1 vs ρ2) else .bad
  | _ => .bad := rfl
theorem mTryAs_ap (mt : Str → Option Bool) (i : Nat) (mb : MS) (ms : Str → MS) : msTryAs mt i mb ms ρ = match mb ρ with
  | .ex y ρ1 => match mt y.c with
    | some true => match y.fs with
      | [] => if i < ρ1.length then fgt i (ms y.c (ρ1.set i none)) else .bad
      | _ => .bad
    | some false => .ex y ρ1
    | none => .bad
  | o => o := rfl
end

theorem lg {n k : Nat} (h : n < 2 ^ k) (hk : 0 < k) : n.log2 < k := by
  by_cases z : n = 0
  · subst z; simpa using hk
  · exact (Nat.log2_lt z).mpr h
theorem sm_mul {a b : Int} {i j : Nat} (h1 : a.natAbs < 2 ^ i) (h2 : b.natAbs < 2 ^ j) : (a * b).natAbs < 2 ^ (i + j) := by
  rw [Int.natAbs_mul, Nat.pow_add]
  exact Nat.mul_lt_mul'' h1 h2
theorem sm_add {a b : Int} {i : Nat} (h1 : a.natAbs < 2 ^ i) (h2 : b.natAbs < 2 ^ i) : (a + b).natAbs < 2 ^ (i + 1) := by
  have := Int.natAbs_add_le a b
  rw [Nat.pow_succ]
  omega
theorem sm_sub {a b : Int} {i : Nat} (h1 : a.natAbs < 2 ^ i) (h2 : b.natAbs < 2 ^ i) : (a - b).natAbs < 2 ^ (i + 1) := by
  rw [Nat.pow_succ]
  omega
theorem sm_up {a : Int} {i j : Nat} (h : a.natAbs < 2 ^ i) (l : i ≤ j) : a.natAbs < 2 ^ j := Nat.lt_of_lt_of_le h (Nat.pow_le_pow_right (by decide) l)
theorem okMul_of {a b : Int} {i j : Nat} (h1 : a.natAbs < 2 ^ i) (h2 : b.natAbs < 2 ^ j) (hi : 0 < i) (hj : 0 < j) (h : i + j < 100000000) : okMul a b = true := by
  unfold okMul
  have := lg h1 hi
  have := lg h2 hj
  exact decide_eq_true (by omega)
theorem gMul_sm {a b : Int} {i j : Nat} (h1 : a.natAbs < 2 ^ i) (h2 : b.natAbs < 2 ^ j) (hi : 0 < i) (hj : 0 < j) (h : i + j < 100000000) : gMul (.int a) (.int b) = some (.int (a * b)) := by rw [gMul_ii, if_pos (okMul_of h1 h2 hi hj h)]
theorem gDiv_sm {a b : Int} {j : Nat} (h0 : b ≠ 0) (h2 : b.natAbs < 2 ^ j) (hj : 0 < j) (h : j ≤ 9000) : gDiv (.int a) (.int b) = some (.int (a.fdiv b)) := by
  rw [gDiv_ii, if_pos ⟨h0, Nat.lt_of_lt_of_le (lg h2 hj) h⟩]
theorem gMod_nz {a b : Int} (h0 : b ≠ 0) : gMod (.int a) (.int b) = some (.int (a.fmod b)) := by rw [gMod_ii, if_pos h0]
end DL
namespace DL
open L2 PySem PySem.Spec PyProof.Rows

def mqNumber : MS := (msSeq (msIf (mTest (m2 gLt (mVar 0) (mK (.int 0)))) (msRet (m2 gSub (mK (.int 0)) (mVar 0))) msNil) (msRet (mVar 0)))
def qNumber : FN := runM 1 1 [] false mqNumber
def mqInner : MS := (msSeq (msIf (mTest (m2 gEq (mVar 3) (mK (.int 0)))) msBrk msNil) (msSeq (msExpr (mOM gAppend 1 (mCons (m2 gMod (mN gInt (mCons (mVar 3) mNil)) (mK (.int 1000))) mNil))) (msAsg (m2 gDiv (mVar 3) (mK (.int 1000))) (mgName 3))))
def mqBody : MS := (msSeq (msAsg (mCall qNumber (mCons (mVar 2) mNil)) (mgName 3)) (msIf (mTest (m2 gGe (mVar 3) (mK (.int 1000000000000000000)))) (msFor (mItN gRange1 (mCons (mK (.int 60)) mNil)) (mgName 4) mqInner) (msSeq (msAsg (m2 gMod (mN gInt (mCons (m2 gAdd (m2 gMul (mVar 3) (mK (.int 48271))) (mK (.int 11))) mNil)) (mK (.int 2147483647))) (mgName 5)) (msSeq (msAsg (m2 gMod (mN gInt (mCons (m2 gAdd (m2 gMul (mVar 5) (mK (.int 69621))) (mVar 3)) mNil)) (mK (.int 2147483629))) (mgName 6)) (msExpr (mOM gExtend 1 (mCons (mN gLst (mCons (m2 gMod (mN gInt (mCons (mVar 3) mNil)) (mK (.int 1000))) (mCons (m2 gMod (mN gInt (mCons (mVar 5) mNil)) (mK (.int 1000))) (mCons (m2 gMod (mN gInt (mCons (mVar 6) mNil)) (mK (.int 1000))) mNil)))) mNil)))))))
def mqDraws : MS := (msForget 1 (msSeq (msOwn 1 (mN gLst mNil)) (msSeq (msFor (mIter (mVar 0)) (mgName 2) mqBody) (msRetO 1))))
def qDraws : FN := runM 7 1 [] true mqDraws
def mqNext : MS := (msSeq (msIf (mTruO 0) (msRet (mOM gPop 0 mNil)) msNil) (msRet (mK (.int 0))))
def qNext : FN := runM 1 1 [] false mqNext
theorem qNumber_v (n : Int) (ρ : En) : (qNumber [.int n]).R ρ = .ok (.int (if n < 0 then -n else n)) ρ := by
  by_cases h : n < 0
  · simp [qNumber, runM, mqNumber, pad, h]
  · simp [qNumber, runM, mqNumber, pad, h]
theorem getO_1 (a : Option D) (d : D) (r : En) : getO (a :: some d :: r) 1 = some d := rfl
theorem getO_0 (d : D) (r : En) : getO (some d :: r) 0 = some d := rfl
def drawI (l : List Int) : Int := l.getLastD 0
theorem qNext_v (l : List Int) : qNext [.lst (l.map .int)] = .rt (.int (drawI l)) (.lst (l.dropLast.map .int)) := by
  rcases List.eq_nil_or_concat l with h | ⟨r, z, h⟩
  · subst h; rfl
  · subst h
    simp [qNext, runM, mqNext, pad, getO_0, gPop, drawI, io0]
theorem inner_v (s : Option D) (o2 o4 o5 o6 : Option D) : ∀ (ds : List D) (acc : List Int) (n : Int), acc.length + ds.length < sizeLine →
    ∃ (acc' : List Int) (n' : Int) (o4' : Option D), loopL (mgName 4) mqInner ds [s, some (.lst (acc.map .int)), o2, some (.int n), o4, o5, o6] = .nx [s, some (.lst (acc'.map .int)), o2, some (.int n'), o4', o5, o6] ∧ acc'.length ≤ acc.length + ds.length := by
  intro ds
  induction ds generalizing o4 with
  | nil => exact fun acc n _ => ⟨acc, n, o4, rfl, Nat.le_refl _⟩
  | cons d r ih =>
    intro acc n h
    rw [List.length_cons] at h
    by_cases hn : n = 0
    · subst hn
      refine ⟨acc, 0, some d, ?_, by omega⟩
      simp [loopL, mqInner]
    · obtain ⟨acc', n', o4', e, l⟩ := ih (some d) (acc ++ [n.fmod 1000]) (n.fdiv 1000) (by rw [List.length_append, List.length_singleton]; omega)
      refine ⟨acc', n', o4', ?_, by rw [List.length_append, List.length_singleton] at l; rw [List.length_cons]; omega⟩
      rw [← e]
      have h1 : acc.length < sizeLine := by omega
      have h2 : ∀ x : Int, gDiv (.int x) (.int 1000) = some (.int (x.fdiv 1000)) := fun x => gDiv_sm (j := 10) (by decide) (by decide) (by decide) (by decide)
      simp [loopL, mqInner, hn, getO_1, gAppend, gMod_ii, h1, h2]
theorem body_v (s : Option D) : ∀ (cells acc : List Int) (o2 o3 o4 o5 o6 : Option D), acc.length + 60 * cells.length < sizeLine →
    ∃ (acc' : List Int) (o2' o3' o4' o5' o6' : Option D), loopL (mgName 2) mqBody (cells.map .int) [s, some (.lst (acc.map .int)), o2, o3, o4, o5, o6] = .nx [s, some (.lst (acc'.map .int)), o2', o3', o4', o5', o6'] ∧ acc'.length ≤ acc.length + 60 * cells.length := by
  intro cells
  induction cells with
  | nil => exact fun acc o2 o3 o4 o5 o6 _ => ⟨acc, o2, o3, o4, o5, o6, rfl, Nat.le_refl _⟩
  | cons c r ih =>
    intro acc o2 o3 o4 o5 o6 h
    rw [List.length_cons] at h
    rw [List.map_cons]
    by_cases hc : (1000000000000000000 : Int) ≤ (if c < 0 then -c else c)
    · obtain ⟨acc1, n1, o41, e1, l1⟩ := inner_v s (some (.int c)) o4 o5 o6 (rangeL 0 60) acc (if c < 0 then -c else c) (by
        have : (rangeL 0 60).length = 60 := by simp [rangeL]
        omega)
      have hl : (rangeL 0 60).length = 60 := by simp [rangeL]
      obtain ⟨acc', o2', o3', o4', o5', o6', e, l⟩ := ih acc1 (some (.int c)) (some (.int n1)) o41 o5 o6 (by omega)
      refine ⟨acc', o2', o3', o4', o5', o6', ?_, by rw [List.length_cons]; omega⟩
      rw [← e]
      have ok60 : okR 60 = true := by decide
      have e1' : loopL (mgName 4) mqInner (rangeL 0 60) [s, some (.lst (acc.map .int)), some (.int c), some (.int (if c < 0 then -c else c)), o4, o5, o6] = _ := e1
      have t60 : Int.toNat 60 = 60 := rfl
      simp only [loopL]
      simp [mqBody, mCall_R, qNumber_v, hc, ok60, e1']
    · have hs : (if c < 0 then -c else c).natAbs < 2 ^ 60 := by
        split <;> split at hc <;> omega
      have m1 := gMul_sm (a := if c < 0 then -c else c) (b := 48271) (i := 60) (j := 20) hs (by decide) (by decide) (by decide) (by decide)
      have p1 : ∀ x : Int, (x.fmod 2147483647).natAbs < 2 ^ 60 := fun x => by
        rw [Int.fmod_eq_emod_of_nonneg _ (by decide)]
        omega
      have m2' := fun x : Int => gMul_sm (a := x.fmod 2147483647) (b := 69621) (i := 60) (j := 20) (p1 x) (by decide) (by decide) (by decide) (by decide)
      obtain ⟨acc', o2', o3', o4', o5', o6', e, l⟩ := ih (acc ++ [(if c < 0 then -c else c).fmod 1000, ((((if c < 0 then -c else c) * 48271 + 11).fmod 2147483647)).fmod 1000, ((((((if c < 0 then -c else c) * 48271 + 11).fmod 2147483647) * 69621 + (if c < 0 then -c else c)).fmod 2147483629)).fmod 1000])
        (some (.int c)) (some (.int (if c < 0 then -c else c))) o4 (some (.int (((if c < 0 then -c else c) * 48271 + 11).fmod 2147483647))) (some (.int (((((if c < 0 then -c else c) * 48271 + 11).fmod 2147483647) * 69621 + (if c < 0 then -c else c)).fmod 2147483629))) (by simp; omega)
      refine ⟨acc', o2', o3', o4', o5', o6', ?_, by simp at l; rw [List.length_cons]; omega⟩
      rw [← e]
      have h3 : 3 ≤ sizeLine := by decide
      have h4 : acc.length + 3 ≤ sizeLine := by omega
      simp only [loopL]
      simp [mqBody, mCall_R, qNumber_v, hc, m1, m2', gMod_ii, getO_1, gExtend, h3, h4]
theorem qDraws_v (zs : List Int) (h : zs.length ≤ 63) : ∃ l : List Int, ∀ ρ, (qDraws [.scr (zs.map .int)]).R ρ = .ok (.lst (l.map .int)) ρ := by
  have hz : sizeLine = 16777216 := by decide
  obtain ⟨acc', o2', o3', o4', o5', o6', e, l⟩ := body_v (some (.scr (zs.map .int))) zs [] none none none none none (by simp; omega)
  refine ⟨acc', fun ρ => ?_⟩
  have e' : loopL (mgName 2) mqBody (zs.map .int) [some (.scr (zs.map .int)), some (.lst []), none, none, none, none, none] = _ := e
  have h0 : 0 ≤ sizeLine := by decide
  simp [qDraws, runM, mqDraws, pad, gIter, h0, e', getO_1]
end DL
namespace DL
open L2 PySem PySem.Spec PyProof.Rows

theorem eu_step {b r k : Nat} (hb : b < 2 ^ (k + 1)) (hr : 0 < r) (hrb : r < b) : b % r < 2 ^ k := by
  have h1 := Nat.mod_lt b hr
  rw [Nat.pow_succ] at hb
  by_cases h : 2 * r ≤ b
  · omega
  · have e : b % r = b - r := by rw [Nat.mod_eq_sub_mod (by omega), Nat.mod_eq_of_lt (by omega)]
    omega
theorem fmod_nat (a b : Nat) : (a : Int).fmod (b : Int) = ((a % b : Nat) : Int) := by
  rw [Int.fmod_eq_emod_of_nonneg _ (Int.natCast_nonneg b)]
  exact (Int.natCast_emod a b).symm
def mEuC : MT := mTest (m2 gNe (mVar 1) (mK (.int 0)))
def mEuB : MS := msPar [0, 1] (mCons (mVar 1) (mCons (m2 gMod (mVar 0) (mVar 1)) mNil))
theorem eu_zero (a n : Nat) : loopW mEuC mEuB (n + 1) [some (.int (a : Int)), some (.int ((0 : Nat) : Int))] = .nx [some (.int (a : Int)), some (.int 0)] := by
  simp [loopW, mEuC]
theorem eu_one {a b n : Nat} (hb : b ≠ 0) : loopW mEuC mEuB (n + 1) [some (.int (a : Int)), some (.int (b : Int))] = loopW mEuC mEuB n [some (.int (b : Int)), some (.int ((a % b : Nat) : Int))] := by
  have h : (b : Int) ≠ 0 := by omega
  rw [← fmod_nat]
  simp [loopW, mEuC, mEuB, h, gMod_nz h, hb]
theorem eu_loop : ∀ (k a b n : Nat), b < 2 ^ k → 2 * k + 1 ≤ n → loopW mEuC mEuB n [some (.int (a : Int)), some (.int (b : Int))] = .nx [some (.int (Nat.gcd a b : Nat)), some (.int 0)]
  | k, a, b, 0, _, h => by omega
  | 0, a, b, n + 1, hb, h => by
    obtain rfl : b = 0 := by simpa using hb
    rw [Nat.gcd_zero_right]
    exact eu_zero a n
  | k + 1, a, b, n + 1, hb, h => by
    by_cases b0 : b = 0
    · subst b0
      rw [Nat.gcd_zero_right]
      exact eu_zero a n
    · rw [eu_one b0]
      have g1 : Nat.gcd a b = Nat.gcd b (a % b) := by rw [Nat.gcd_comm a b, Nat.gcd_rec b a, Nat.gcd_comm]
      by_cases r0 : a % b = 0
      · rw [g1, r0, Nat.gcd_zero_right]
        obtain ⟨m, rfl⟩ : ∃ m, n = m + 1 := ⟨n - 1, by omega⟩
        exact eu_zero b m
      · have hrb := Nat.mod_lt a (Nat.pos_of_ne_zero b0)
        obtain ⟨m, rfl⟩ : ∃ m, n = m + 1 := ⟨n - 1, by omega⟩
        rw [eu_one r0]
        have g2 : Nat.gcd b (a % b) = Nat.gcd (a % b) (b % (a % b)) := by rw [Nat.gcd_comm b, Nat.gcd_rec (a % b) b, Nat.gcd_comm]
        rw [g1, g2]
        exact eu_loop k (a % b) (b % (a % b)) m (eu_step hb (Nat.pos_of_ne_zero r0) hrb) (by omega)
def mqDivisor : MS := (msSeq (msPar [0, 1] (mCons (mN gAbs (mCons (mVar 0) mNil)) (mCons (mN gAbs (mCons (mVar 1) mNil)) mNil))) (msSeq (msWhile 1000000 mEuC mEuB) (msRet (mVar 0))))
def qDivisor : FN := runM 2 2 [] false mqDivisor
theorem abs_cast (a : Int) : (if a < 0 then -a else a) = ((a.natAbs : Nat) : Int) := by split <;> omega
theorem qDivisor_v (a b : Int) (hb : b.natAbs < 2 ^ 8000) (ρ : En) : (qDivisor [.int a, .int b]).R ρ = .ok (.int (Int.gcd a b : Nat)) ρ := by
  have e := eu_loop 8000 a.natAbs b.natAbs 1000000 hb (by decide)
  rw [Int.gcd_eq_natAbs_gcd_natAbs]
  simp [qDivisor, runM, mqDivisor, pad, abs_cast, e]
def mEv : MS := (msSeq (msIf (mTest (m2 gEq (mVar 3) (mK (.int 0)))) msBrk msNil) (msPar [2, 3] (mCons (mVar 3) (mCons (m2 gMod (mN gInt (mCons (mVar 2) mNil)) (mVar 3)) mNil))))
theorem ev_zero (x y : Option D) (a : Nat) (o : Option D) : ∀ ds : List D, ∃ o', loopL (mgName 4) mEv ds [x, y, some (.int (a : Int)), some (.int ((0 : Nat) : Int)), o] = .nx [x, y, some (.int (a : Int)), some (.int 0), o']
  | [] => ⟨o, rfl⟩
  | d :: r => ⟨some d, by simp [loopL, mEv]⟩
theorem ev_one (x y : Option D) {a b : Nat} (o : Option D) (hb : b ≠ 0) (d : D) (ds : List D) : loopL (mgName 4) mEv (d :: ds) [x, y, some (.int (a : Int)), some (.int (b : Int)), o] = loopL (mgName 4) mEv ds [x, y, some (.int (b : Int)), some (.int ((a % b : Nat) : Int)), some d] := by
  have h : (b : Int) ≠ 0 := by omega
  rw [← fmod_nat]
  simp [loopL, mEv, h, gMod_nz h, hb]
theorem ev_loop (x y : Option D) : ∀ (k a b : Nat) (o : Option D) (ds : List D), b < 2 ^ k → 2 * k ≤ ds.length → ∃ o', loopL (mgName 4) mEv ds [x, y, some (.int (a : Int)), some (.int (b : Int)), o] = .nx [x, y, some (.int (Nat.gcd a b : Nat)), some (.int 0), o']
  | 0, a, b, o, ds, hb, h => by
    obtain rfl : b = 0 := by simpa using hb
    rw [Nat.gcd_zero_right]
    exact ev_zero x y a o ds
  | k + 1, a, b, o, [], hb, h => by simp at h
  | k + 1, a, b, o, [_], hb, h => by simp at h; omega
  | k + 1, a, b, o, d :: d2 :: ds, hb, h => by
    by_cases b0 : b = 0
    · subst b0
      rw [Nat.gcd_zero_right]
      exact ev_zero x y a o _
    · rw [ev_one x y o b0]
      have g1 : Nat.gcd a b = Nat.gcd b (a % b) := by rw [Nat.gcd_comm a b, Nat.gcd_rec b a, Nat.gcd_comm]
      by_cases r0 : a % b = 0
      · rw [g1, r0, Nat.gcd_zero_right]
        exact ev_zero x y b _ _
      · have hrb := Nat.mod_lt a (Nat.pos_of_ne_zero b0)
        rw [ev_one x y _ r0]
        have g2 : Nat.gcd b (a % b) = Nat.gcd (a % b) (b % (a % b)) := by rw [Nat.gcd_comm b, Nat.gcd_rec (a % b) b, Nat.gcd_comm]
        rw [g1, g2]
        exact ev_loop x y k (a % b) (b % (a % b)) _ ds (eu_step hb (Nat.pos_of_ne_zero r0) hrb) (by simp at h; omega)
def mqLD (mi : En → R (List D)) : MS := (msSeq (msAsg (mN gAbs (mCons (mVar 0) mNil)) (mgName 2)) (msSeq (msAsg (mN gAbs (mCons (mVar 1) mNil)) (mgName 3)) (msSeq (msFor mi (mgName 4) mEv) (msRet (mVar 2)))))
def qLDivisor : FN := runM 5 2 [] false (mqLD (mItN gRange1 (mCons (m2 gPow (mK (.int 10)) (mK (.int 9))) mNil)))
theorem rangeL_length (i : Int) (n : Nat) : (rangeL i n).length = n := by simp [rangeL]
theorem mqLD_v {mi : En → R (List D)} {ds : List D} (hmi : ∀ ρ, mi ρ = .ok ds ρ) (hl : 16000 ≤ ds.length) (a b : Int) (hb : b.natAbs < 2 ^ 8000) (ρ : En) : (runM 5 2 [] false (mqLD mi) [.int a, .int b]).R ρ = .ok (.int (Int.gcd a b : Nat)) ρ := by
  obtain ⟨o', e⟩ := ev_loop (some (.int a)) (some (.int b)) 8000 a.natAbs b.natAbs none ds hb hl
  rw [Int.gcd_eq_natAbs_gcd_natAbs]
  simp [runM, mqLD, pad, abs_cast, hmi, e]
theorem p9 : gPow (.int 10) (.int 9) = some (.int 1000000000) := by
  have c : CPow 10 9 := by decide
  show (if CPow 10 9 then some (D.int (10 ^ (9 : Int).toNat)) else none) = _
  rw [if_pos c] <;> rfl
theorem r9 : ∃ ds, gRange1 [.int 1000000000] = some ds ∧ 16000 ≤ ds.length := by
  have ok9 : okR 1000000000 = true := by decide
  exact ⟨rangeL 0 (Int.toNat 1000000000), by rw [gRange1_i, if_pos ok9], by rw [rangeL_length]; decide⟩
theorem qLDivisor_v (a b : Int) (hb : b.natAbs < 2 ^ 8000) (ρ : En) : (qLDivisor [.int a, .int b]).R ρ = .ok (.int (Int.gcd a b : Nat)) ρ := by
  obtain ⟨ds, hds, hl⟩ := r9
  refine mqLD_v (fun ρ => ?_) hl a b hb ρ
  rw [mItN_ap, mCons_ap, m2_ap, mK_ap, bind_ok, mK_ap, bind_ok, p9, ret_some, bind_ok, mNil_ap, bind_ok, bind_ok, hds, ret_some]

def sgcd (a b : Int) : Int := if b < 0 then -(Int.gcd a b : Int) else (Int.gcd a b : Int)
def low (a b : Int) : Int × Int := (a.fdiv (sgcd a b), b.fdiv (sgcd a b))
def tupI (p : Int × Int) : D := .tup [.int p.1, .int p.2]
theorem sgcd_ne {a b : Int} (h : b ≠ 0) : sgcd a b ≠ 0 := by
  have : 0 < Int.gcd a b := Int.gcd_pos_of_ne_zero_right a h
  unfold sgcd
  split <;> omega
theorem gcd_le {a b : Int} (h : b ≠ 0) : Int.gcd a b ≤ b.natAbs := by
  rw [Int.gcd_eq_natAbs_gcd_natAbs]
  exact Nat.gcd_le_right _ (by omega)
theorem sgcd_sm {a b : Int} {k : Nat} (h : b ≠ 0) (hb : b.natAbs < 2 ^ k) : (sgcd a b).natAbs < 2 ^ k := by
  have := gcd_le (a := a) h
  unfold sgcd
  split <;> omega
def mqLowest (F : FN) (neg : ME) : MS := (msSeq (msAsg (mCall F (mCons (mVar 0) (mCons (mVar 1) mNil))) (mgName 2)) (msSeq (msIf (mTest (m2 gLt (mVar 1) (mK (.int 0)))) (msAsg neg (mgName 2)) msNil) (msRet (mN gTup (mCons (m2 gDiv (mVar 0) (mVar 2)) (mCons (m2 gDiv (mVar 1) (mVar 2)) mNil))))))
def qLowest : FN := runM 3 2 [] false (mqLowest qDivisor (m1 gNeg (mVar 2)))
def qLLowest : FN := runM 3 2 [] false (mqLowest qLDivisor (m2 gSub (mK (.int 0)) (mVar 2)))
theorem two_le : 2 ≤ sizeLine := by decide
theorem lowest_gen {F : FN} {neg : ME} {a b : Int} (h : b ≠ 0) (hb : b.natAbs < 2 ^ 8000) (hF : ∀ ρ, (F [.int a, .int b]).R ρ = .ok (.int (Int.gcd a b : Nat)) ρ) (hn : ∀ (x y : Option D) (z : Int), neg [x, y, some (.int z)] = .ok (.int (-z)) [x, y, some (.int z)]) (ρ : En) :
    (runM 3 2 [] false (mqLowest F neg) [.int a, .int b]).R ρ = .ok (tupI (low a b)) ρ := by
  have d1 := fun x : Int => gDiv_sm (a := x) (sgcd_ne (a := a) h) (sgcd_sm (a := a) h hb) (by decide) (by decide)
  by_cases n : b < 0
  · have e : sgcd a b = -(Int.gcd a b : Int) := if_pos n
    rw [e] at d1
    simp [runM, mqLowest, pad, mCall_R, hF, n, d1, two_le, tupI, low, e, hn]
  · have e : sgcd a b = (Int.gcd a b : Int) := if_neg n
    rw [e] at d1
    simp [runM, mqLowest, pad, mCall_R, hF, n, d1, two_le, tupI, low, e]
theorem qLowest_v {a b : Int} (h : b ≠ 0) (hb : b.natAbs < 2 ^ 8000) (ρ : En) : (qLowest [.int a, .int b]).R ρ = .ok (tupI (low a b)) ρ := lowest_gen h hb (qDivisor_v a b hb) (fun x y z => by simp) ρ
theorem qLLowest_v {a b : Int} (h : b ≠ 0) (hb : b.natAbs < 2 ^ 8000) (ρ : En) : (qLLowest [.int a, .int b]).R ρ = .ok (tupI (low a b)) ρ := lowest_gen h hb (qLDivisor_v a b hb) (fun x y z => by simp) ρ
def isNum (a b : Int) : Bool := decide (1 ≤ b) && decide (Int.gcd a b = 1)
theorem low_sm {a b : Int} {i j : Nat} (h1 : a.natAbs < 2 ^ i) (h2 : b.natAbs < 2 ^ j) : (low a b).1.natAbs < 2 ^ i ∧ (low a b).2.natAbs < 2 ^ j :=
  ⟨Nat.lt_of_le_of_lt (Int.natAbs_fdiv_le_natAbs _ _) h1, Nat.lt_of_le_of_lt (Int.natAbs_fdiv_le_natAbs _ _) h2⟩
theorem low_num {a b : Int} (h : b ≠ 0) : isNum (low a b).1 (low a b).2 = true := by
  have g0 : 0 < Int.gcd a b := Int.gcd_pos_of_ne_zero_right a h
  have da : (Int.gcd a b : Int) ∣ a := Int.gcd_dvd_left a b
  have db : (Int.gcd a b : Int) ∣ b := Int.gcd_dvd_right a b
  obtain ⟨x, hx⟩ := da
  obtain ⟨y, hy⟩ := db
  generalize hg : Int.gcd a b = g at *
  have gi : (g : Int) ≠ 0 := by omega
  have cop : Int.gcd x y = 1 := by
    have e : Int.gcd a b = g * Int.gcd x y := by
      rw [hx, hy, Int.gcd_mul_left]
      simp
    rw [hg] at e
    exact Nat.eq_of_mul_eq_mul_left g0 (by omega)
  unfold low sgcd isNum
  rw [hg]
  by_cases n : b < 0
  · rw [if_pos n]
    have e1 : a.fdiv (-(g : Int)) = -x := by
      have : a = (-x) * (-(g : Int)) := by rw [hx, Int.neg_mul_neg, Int.mul_comm]
      rw [this, Int.mul_fdiv_cancel _ (by omega)]
    have e2 : b.fdiv (-(g : Int)) = -y := by
      have : b = (-y) * (-(g : Int)) := by rw [hy, Int.neg_mul_neg, Int.mul_comm]
      rw [this, Int.mul_fdiv_cancel _ (by omega)]
    rw [e1, e2]
    have y0 : y < 0 := by
      by_cases q : 0 ≤ y
      · have : 0 ≤ (g : Int) * y := Int.mul_nonneg (by omega) q
        omega
      · omega
    simp [cop]
    omega
  · rw [if_neg n]
    have e1 : a.fdiv (g : Int) = x := by rw [hx, Int.mul_comm, Int.mul_fdiv_cancel _ gi]
    have e2 : b.fdiv (g : Int) = y := by rw [hy, Int.mul_comm, Int.mul_fdiv_cancel _ gi]
    rw [e1, e2]
    have y0 : 0 < y := by
      by_cases q : y ≤ 0
      · have : (g : Int) * y ≤ 0 := Int.mul_nonpos_of_nonneg_of_nonpos (by omega) q
        omega
      · omega
    simp [cop]
    omega
def mqIsNumber : MS := (msSeq (msAsg (mVar 0) (mgTup 2 (mgCons (mgName 1) (mgCons (mgName 2) mgNil)))) (msRet (mAnd (m2 gGe (mVar 2) (mK (.int 1))) (m2 gEq (mCall qDivisor (mCons (mVar 1) (mCons (mVar 2) mNil))) (mK (.int 1))))))
def qIsNumber : FN := runM 3 1 [] false mqIsNumber
theorem qIsNumber_v {a b : Int} (hb : b.natAbs < 2 ^ 8000) (ρ : En) : (qIsNumber [tupI (a, b)]).R ρ = .ok (.bl (isNum a b)) ρ := by
  have e : decide (((Int.gcd a b : Nat) : Int) = 1) = decide (Int.gcd a b = 1) := by rw [decide_eq_decide]; omega
  by_cases h : 1 ≤ b
  · simp [qIsNumber, runM, mqIsNumber, pad, tupI, mCall_R, qDivisor_v a b hb, isNum, h, e]
  · simp [qIsNumber, runM, mqIsNumber, pad, tupI, mCall_R, qDivisor_v a b hb, isNum, h]

theorem int_len {a : Int} (h : a.natAbs < 2 ^ 1900) : (Str.ofString (toString a)).length ≤ 2000 := by
  have e := int_text_length_le (k := 1900) (by decide) (lg h (by decide))
  rw [PySem.ofString_length]; omega
theorem shown_tup {p : Int × Int} (h1 : p.1.natAbs < 2 ^ 1900) (h2 : p.2.natAbs < 2 ^ 1900) : ∃ z, shownD (tupI p) = some z := by
  have l1 := lg h1 (by decide)
  have l2 := lg h2 (by decide)
  have e : (PyData.tuple [.int p.1, .int p.2]).shown = tupleText [Str.ofString (toString p.1), Str.ofString (toString p.2)] := by simp only [PyData.shown, PyData.shownAll] <;> rfl
  have e1 := int_len h1
  have e2 := int_len h2
  have n1 : (PyData.tuple [.int p.1, .int p.2]).showable = true := by simp only [PyData.showable, PyData.showableAll, Bool.and_true, Bool.and_eq_true, decide_eq_true_eq]; omega
  have n2 : (PyData.tuple [.int p.1, .int p.2]).shown.length ≤ sizeLine := by
    rw [e]
    have : tupleText [Str.ofString (toString p.1), Str.ofString (toString p.2)] = ("(" : Str) ++ (Str.ofString (toString p.1) ++ ", " ++ Str.ofString (toString p.2)) ++ (")" : String) := rfl
    rw [this, strLen_append, strLen_append, strLen_append, strLen_append, PySem.ofString_length "(", PySem.ofString_length ", ", PySem.ofString_length ")", sizeLine_eq]
    have a1 : "(".length = 1 := rfl
    have a2 : ", ".length = 2 := rfl
    have a3 : ")".length = 1 := rfl
    omega
  have n3 : (PyData.tuple [.int p.1, .int p.2]).depth ≤ 60 := by simp [PyData.depth, PyData.depthAll]
  refine ⟨(PyData.tuple [.int p.1, .int p.2]).shown, ?_⟩
  · unfold shownD
    show (match D.py (.tup [.int p.1, .int p.2]) with
      | some x => if x.showable = true ∧ x.shown.length ≤ sizeLine ∧ x.depth ≤ 60 then some x.shown else none
      | none => none) = _
    have ep : D.py (.tup [.int p.1, .int p.2]) = some (.tuple [.int p.1, .int p.2]) := rfl
    rw [ep]
    exact if_pos ⟨n1, n2, n3⟩
theorem shown_bl (b : Bool) : ∃ z, shownD (.bl b) = some z := by cases b <;> exact ⟨_, rfl⟩
theorem shown_non : ∃ z, shownD .non = some z := ⟨_, rfl⟩
end DL
namespace DL
open L2 PySem PySem.Spec PyProof.Rows

def DAT (X : Cx) (G : Gd) (O : List Nat) (W : WX) (es : List Expr) (m : MA) : Prop := PAT X es (tA X.K G O W m)
def DET (X : Cx) (G : Gd) (O : List Nat) (W : WX) (e : Expr) (m : ME) : Prop := PET X e (tE X.K G O W m)
def PE1 (X : Cx) (e : Expr) (t : TE) : Prop := ∀ (pins : List (Addr × Obj)) (s : Shared) (σ : L2.St) (H : Hp) (Q : VK), Inv X pins σ H s → t σ H Q → wpAny (model X.prog X.w) X.A (eval e X.env) (fun v s' => 1 ≤ s'.toks ∧ EP X pins σ Q v s') X.xe s
def DE1 (X : Cx) (G : Gd) (O : List Nat) (W : WX) (e : Expr) (m : ME) : Prop := PE1 X e (tE X.K G O W m)
section
variable {X : Cx} {G : Gd} {O : List Nat} {W : WX} {a b e o : Expr} {es : List Expr} {ma me mo : ME} {mr : MA} {pos p apos : Pos} {c : Str} {j : Nat}
theorem pa_consT {te : TE} {ta : TA} (ha : PE1 X e te) (hr : PAT X es ta) (hs : starEach (e :: es) X.env = (false, eval e X.env) :: starEach es X.env := by rfl) : PA X (e :: es) (tCons te ta) := by
  refine ⟨fun pos pins s σ H Q I h => ?_⟩
  rw [hs]
  show wpAny _ _ (spliced ((false, eval e X.env) :: backTo pos (starEach es X.env))) _ _ s
  refine Calls.spliced_cons (wpAny_mono (ha pins s σ H _ I h) (fun v s1 q => ?_) fun _ _ z => z)
  obtain ⟨hk, x, H1, I1, r1, q1⟩ := q
  exact thn (hr pos pins s1 σ H1 _ hk I1 q1) fun us s2 ⟨xs, H2, I2, r2, q2⟩ => ⟨x :: xs, H2, I2, .cons r1 r2, q2⟩
theorem cons_go {K : PySem.W.Frag} {σ : L2.St} {H : Hp} {Q : List V → Hp → Prop} (h : tA K G O W (mCons me mr) σ H Q) : tCons (tE K G O W me) (tA K G O W mr) σ H Q := by
  obtain ⟨A, ms, ρ, R, q⟩ := h
  refine ⟨A, ms, ρ, R, q.bind.mono ?_⟩
  rintro x H1 ⟨d, ρ1, R1, k1, r1, q1⟩
  refine ⟨A, ms, ρ1, R1, RPost.mono (RPost.bind q1) ?_⟩
  rintro xs H2 ⟨ds, ρ2, R2', k2, r2, q2⟩
  exact q2 _ H2 R2' Kp.refl (.cons (r1.tr (R1.kt k2)) r2)
theorem da_consT (he : DE1 X G O W e me) (hr : DAT X G O W es mr) (hs : starEach (e :: es) X.env = (false, eval e X.env) :: starEach es X.env := by rfl) : DA X G O W (e :: es) (mCons me mr) := pa_imp (pa_consT he hr hs) fun _ _ _ h => cons_go h
theorem dat_of (h : DA X G O W es mr) : DAT X G O W es mr := fun pos pins s σ H Q _ I q => h.run pos pins s σ H Q I q
theorem det_of (h : DE X G O W e me) : DET X G O W e me := fun pins s σ H Q _ I q => PE.run h pins s σ H Q I q
theorem dat_cons (he : DET X G O W e me) (hr : DAT X G O W es mr) (hs : starEach (e :: es) X.env = (false, eval e X.env) :: starEach es X.env := by rfl) : DAT X G O W (e :: es) (mCons me mr) := fun pos pins s σ H Q h0 I q => pat_cons he hr hs pos pins s σ H Q h0 I (cons_go q)
theorem de1_bin {op : Operator} {g : D → D → Option D} (ho : OpR X (binaryOp op) (rD2 X.K g)) (ha : DE X G O W a ma) : DE1 X G O W (.BinOp a op (.Constant (.str c) j p) pos) (m2 g ma (mK (.str c))) := by
  intro pins s σ H Q I h
  have h2 := op2_go (r := rD2 X.K g) (fun _ _ _ _ z => z) h
  refine wpAny_BinOp (thn (PE.run ha pins s σ H _ I h2) fun v s1 ⟨x, H1, I1, r1, q1⟩ => Calls.Constant_str ?_)
  have q2 : tE X.K G O W (mK (.str c)) σ H1 fun y H2 => rD2 X.K g x y H2 Q := q1
  obtain ⟨A, ms, ρ, R, q3⟩ := q2
  have q4 : rD2 X.K g x (.str c) H1 Q := q3 (.str c) H1 R Kp.refl (.str c)
  refine wpAny_mono (PySem.wpAny_toks (ho pins _ σ H1 x (.str c) v (.str c s1.toks) Q (I1.tok _) r1 ⟨_, rfl⟩ q4)) (fun u s2 z => ⟨?_, z.2⟩) fun _ _ z => z.2
  have : s1.toks + 1 ≤ s2.toks := z.1
  omega
def gRepl (y z : Str) (d : D) : Option D := match d with
  | .str x => if x.length + (x.length + 1) * z.length ≤ 16777216 then some (.str (Txt.replace x y z)) else none
  | _ => none
theorem det_repl {y z : Str} {j0 j1 : Nat} {c0 c1 : Pos} (hyz : (y == z) = false) (ho : DE X G O W o mo)
    (hst : starEach [.Constant (.str y) j0 c0, .Constant (.str z) j1 c1] X.env = [(false, eval (.Constant (.str y) j0 c0) X.env), (false, eval (.Constant (.str z) j1 c1) X.env)] := by rfl)
    (hbase : attributeBase o "replace" X.env (eval o X.env) = eval o X.env := by rfl) (hline : (apos.endLine == pos.line) = true := by rfl) :
    DET X G O W (.Call (.Attribute o "replace" apos) [.Constant (.str y) j0 c0, .Constant (.str z) j1 c1] [] pos) (m1 (gRepl y z) mo) := by
  intro pins s σ H Q h0 I ⟨A, ms, ρ, R, q⟩
  refine PySem.Call_method2 hbase hst hline (wpAny_mono (PySem.wpAny_toks (PE.run ho pins s σ H _ I ⟨A, ms, ρ, R, RPost.bind q⟩)) (fun v s1 hv => ?_) fun _ _ z => z.2)
  obtain ⟨hk, x, H1, I1, rx, d, ρ1, R1, k1, r1, q1⟩ := hv
  have hk' : s.toks ≤ s1.toks := hk
  obtain ⟨w, hw, q2⟩ := rp_of R1 q1
  cases d with
  | str zx =>
    obtain ⟨hb, rfl⟩ := ite_d (x := .str (Txt.replace zx y z)) hw
    cases r1
    obtain ⟨tx, rfl⟩ := rx
    refine ⟨"str", _, PySem.F.plainAttrs_str, PySem.F.slot_str_replace, PySem.F.type_str_replace, typeIs_str _ _ _, (fun _ e => nomatch e), Calls.callWith_builtin rfl (Calls.evalArgs_plain (Calls.spliced_cons (Calls.Constant_str (Calls.spliced_cons (Calls.Constant_str (Calls.spliced_nil ?_))))))⟩
    refine PySem.SC.replace (show s1.toks ≠ 0 by omega) (show s1.toks + 1 ≠ 0 by omega) (show s1.toks ≠ s1.toks + 1 by omega) hyz hb fun t' k => ⟨.str (Txt.replace zx y z), H1, ?_, ⟨t', rfl⟩, q2 _ H1 (Same.refl _) (.str _)⟩
    exact (I1.tok (s1.toks + 1 + 1)).tok k
  | _ => cases hw
variable {XC : List Nat → Prop} {Ol O' : List Nat} {fr : Bool} {y : Str} {i : Nat} {py spos : Pos} {elt tg iter cnd : Expr} {scope : Scope} {own : List (Str × Nat)} {mi : En → R (List D)} {g : MG} {mt : MT}
theorem df_lc1 (hc : X.calm = true) (hN : X.N.Nodup) (hv : (ownS own).all (fun i => !O.contains i) = true) (hi : DI X G O W tg iter mi) (ok : BlkOk X.N X.env.scope scope own)
    (hg : ∀ (s : Shared) (H : Hp) (C : Addr) (cl : List (Str × Addr)) (fp : List Addr), DG (X.blk s H scope (compEnvC scope cl C X.env) fp) G O (ownS own) tg g)
    (ht : ∀ (s : Shared) (H : Hp) (C : Addr) (cl : List (Str × Addr)) (fp : List Addr), DT (X.blk s H scope (compEnvC scope cl C X.env) fp) G O W0 cnd mt)
    (he : ∀ (s : Shared) (H : Hp) (C : Addr) (cl : List (Str × Addr)) (fp : List Addr), DE (X.blk s H scope (compEnvC scope cl C X.env) fp) G O W0 elt me) (hs : ∀ x, foldedSetIterable iter X.env x = pure x := by intro _; rfl) :
    DF X G O W (.ListComp elt [⟨tg, iter, [cnd], 0⟩] scope pos) (mLc (ownS own) mi g mt me) := df_lc (tt := tT X.K G O W0 mt) hc hN hv hi ok hg (fun s H C cl fp => pts_one (ht s H C cl fp)) (fun _ _ _ z => z) he hs
theorem ds_setLc1 (hx : XC O) (oi : O.contains i = false) (hc : X.calm = true) (hN : X.N.Nodup) (hy : X.N[i]? = some y) (hyl : X.env.scope.names.lookup y = some .local) (hsw : swapsWith (.ListComp elt [⟨tg, iter, [cnd], 0⟩] scope pos) (some (.Name y py)) spos.line X.env = pure true) (hv : (ownS own).all (fun i => !O.contains i) = true)
    (hi : DI X G O W tg iter mi) (ok : BlkOk X.N X.env.scope scope own)
    (hg : ∀ (s : Shared) (H : Hp) (C : Addr) (cl : List (Str × Addr)) (fp : List Addr), DG (X.blk s H scope (compEnvC scope cl C X.env) fp) G O (ownS own) tg g)
    (ht : ∀ (s : Shared) (H : Hp) (C : Addr) (cl : List (Str × Addr)) (fp : List Addr), DT (X.blk s H scope (compEnvC scope cl C X.env) fp) G O W0 cnd mt)
    (he : ∀ (s : Shared) (H : Hp) (C : Addr) (cl : List (Str × Addr)) (fp : List Addr), DE (X.blk s H scope (compEnvC scope cl C X.env) fp) G O W0 elt me) (hs : ∀ x, foldedSetIterable iter X.env x = pure x := by intro _; rfl) :
    DS X G XC Ol O O W fr (.Assign [.Name y py] (.ListComp elt [⟨tg, iter, [cnd], 0⟩] scope pos) spos) (msAsg (mLc (ownS own) mi g mt me) (mgName i)) := ds_setLc (tt := tT X.K G O W0 mt) hx oi hc hN hy hyl hsw hv hi ok hg (fun s H C cl fp => pts_one (ht s H C cl fp)) (fun _ _ _ z => z) he hs
theorem ds_ownLc1 (hx : XC O) (oi : O.contains i = true) (h0 : i ≠ 0 ∨ G.io = none) (hc : X.calm = true) (hN : X.N.Nodup) (hy : X.N[i]? = some y) (hyl : X.env.scope.names.lookup y = some .local) (hsw : swapsWith (.ListComp elt [⟨tg, iter, [cnd], 0⟩] scope pos) (some (.Name y py)) spos.line X.env = pure true) (hv : (ownS own).all (fun i => !O.contains i) = true)
    (hi : DI X G O W tg iter mi) (ok : BlkOk X.N X.env.scope scope own)
    (hg : ∀ (s : Shared) (H : Hp) (C : Addr) (cl : List (Str × Addr)) (fp : List Addr), DG (X.blk s H scope (compEnvC scope cl C X.env) fp) G O (ownS own) tg g)
    (ht : ∀ (s : Shared) (H : Hp) (C : Addr) (cl : List (Str × Addr)) (fp : List Addr), DT (X.blk s H scope (compEnvC scope cl C X.env) fp) G O W0 cnd mt)
    (he : ∀ (s : Shared) (H : Hp) (C : Addr) (cl : List (Str × Addr)) (fp : List Addr), DE (X.blk s H scope (compEnvC scope cl C X.env) fp) G O W0 elt me) (hs : ∀ x, foldedSetIterable iter X.env x = pure x := by intro _; rfl)
    (hpx : NPx G i := by first | exact NPx.no rfl | assumption) :
    DS X G XC Ol O O W fr (.Assign [.Name y py] (.ListComp elt [⟨tg, iter, [cnd], 0⟩] scope pos) spos) (msOwn i (mLc (ownS own) mi g mt me)) := ds_ownLc (tt := tT X.K G O W0 mt) hx oi h0 hc hN hy hyl hsw hv hi ok hg (fun s H C cl fp => pts_one (ht s H C cl fp)) (fun _ _ _ z => z) he hs hpx
end
end DL
namespace DL
open L2 PySem PySem.Spec PyProof.Rows
variable {X : Cx}
def gMulS : D → D → Option D
  | .str s, .int k => if 0 ≤ k ∧ k.toNat ≤ 16777216 ∧ s.length * k.toNat ≤ 16777216 then some (.str (Txt.mul s k)) else none
  | _, _ => none
theorem no_gMulS : NoObj gMulS := ⟨fun c fs z => by cases z <;> rfl, fun c fs z => by cases z <;> rfl⟩
theorem od_mulS : OpR X (binaryOp .Mult) (rD2 X.K gMulS) := by
  intro pins s σ H x y v u Q I rx ry ⟨A, a, b, d, t, pa, pb, e, q⟩
  cases a with
  | str i =>
    cases b with
    | int j =>
      obtain ⟨hz, rfl⟩ := ite_d (x := .str (Txt.mul i j)) e
      rw [pa.str] at rx
      rw [pb.int] at ry
      obtain ⟨t1, rfl⟩ := rx
      obtain ⟨t2, rfl⟩ := ry
      exact SB.mul (mulOk_of i.length j.toNat (Nat.le_refl _) (by omega) (by omega) hz.2.1 hz.2.2) fun t' k => ⟨.str (Txt.mul i j), H, I.tok _, ⟨_, rfl⟩, q _ _ (Same.refl _) (.str _)⟩
    | _ => cases e
  | _ => cases b <;> cases e
end DL
namespace K93
open DL L2 PySem PySem.Spec PyProof.Rows
abbrev prog : Program := PySem.Challenge.pw_planeworth_k93_lines_and_words
def top (i : Nat) : Stmt := prog.main.body.getD i (.Pass ⟨0, 0, 0, 0⟩)
abbrev s_law_number : Stmt := top 11
abbrev s_law_draws : Stmt := top 12
abbrev s_law_next : Stmt := top 13
abbrev s_law_line : Stmt := top 14
abbrev s_law_row_word : Stmt := top 20
abbrev s_law_spoilt : Stmt := top 21
abbrev swords_of : Stmt := top 6
abbrev s_law_words : Stmt := top 15
abbrev sis_name : Stmt := top 7
abbrev s_law_is_name : Stmt := top 16
abbrev snumber_in : Stmt := top 8
abbrev s_law_number_in : Stmt := top 17
abbrev sinteger_in : Stmt := top 3
abbrev sintegers_in : Stmt := top 9
abbrev s_law_integer_in : Stmt := top 18
abbrev s_law_integers_in : Stmt := top 19
abbrev slaw : Stmt := top 22
abbrev cFIGURES : Str := "0123456789"
abbrev cMOST_FIGURES : Int := 400
abbrev cSMALL : Str := "abcdefghijklmnopqrstuvwxyz"
structure Fc (K : PySem.W.Frag) (mg : Str → Option Value) : Prop where
  g__law_draws : mg "_law_draws" = some (.ref (He.ga K "_law_draws"))
  g__law_integer_in : mg "_law_integer_in" = some (.ref (He.ga K "_law_integer_in"))
  g__law_integers_in : mg "_law_integers_in" = some (.ref (He.ga K "_law_integers_in"))
  g__law_is_name : mg "_law_is_name" = some (.ref (He.ga K "_law_is_name"))
  g__law_line : mg "_law_line" = some (.ref (He.ga K "_law_line"))
  g__law_next : mg "_law_next" = some (.ref (He.ga K "_law_next"))
  g__law_number : mg "_law_number" = some (.ref (He.ga K "_law_number"))
  g__law_number_in : mg "_law_number_in" = some (.ref (He.ga K "_law_number_in"))
  g__law_row_word : mg "_law_row_word" = some (.ref (He.ga K "_law_row_word"))
  g__law_spoilt : mg "_law_spoilt" = some (.ref (He.ga K "_law_spoilt"))
  g__law_words : mg "_law_words" = some (.ref (He.ga K "_law_words"))
  g_integer_in : mg "integer_in" = some (.ref (He.ga K "integer_in"))
  g_integers_in : mg "integers_in" = some (.ref (He.ga K "integers_in"))
  g_is_name : mg "is_name" = some (.ref (He.ga K "is_name"))
  g_law : mg "law" = some (.ref (He.ga K "law"))
  g_number_in : mg "number_in" = some (.ref (He.ga K "number_in"))
  g_words_of : mg "words_of" = some (.ref (He.ga K "words_of"))
  f_all : mg "all" = none
  f_any : mg "any" = none
  f_int : mg "int" = none
  f_len : mg "len" = none
  f_range : mg "range" = none
  f_repr : mg "repr" = none
  f_str : mg "str" = none
  c_FIGURES : ∃ t, mg "FIGURES" = some (.str cFIGURES t)
  c_MOST_FIGURES : ∃ t, mg "MOST_FIGURES" = some (.int cMOST_FIGURES t)
  c_SMALL : ∃ t, mg "SMALL" = some (.str cSMALL t)
  d__law_number : ∃ fd, FunD K "_law_number" "_law_number" (defArgs s_law_number) (defBody s_law_number) (defScope s_law_number) [] [] (He.ga K "_law_number") fd
  d__law_draws : ∃ fd, FunD K "_law_draws" "_law_draws" (defArgs s_law_draws) (defBody s_law_draws) (defScope s_law_draws) [] [] (He.ga K "_law_draws") fd
  d__law_next : ∃ fd, FunD K "_law_next" "_law_next" (defArgs s_law_next) (defBody s_law_next) (defScope s_law_next) [] [] (He.ga K "_law_next") fd
  d__law_line : ∃ fd, FunD K "_law_line" "_law_line" (defArgs s_law_line) (defBody s_law_line) (defScope s_law_line) [] [] (He.ga K "_law_line") fd
  d__law_row_word : ∃ fd, FunD K "_law_row_word" "_law_row_word" (defArgs s_law_row_word) (defBody s_law_row_word) (defScope s_law_row_word) [] [] (He.ga K "_law_row_word") fd
  d__law_spoilt : ∃ fd, FunD K "_law_spoilt" "_law_spoilt" (defArgs s_law_spoilt) (defBody s_law_spoilt) (defScope s_law_spoilt) [] [] (He.ga K "_law_spoilt") fd
  d_words_of : ∃ fd, FunD K "words_of" "words_of" (defArgs swords_of) (defBody swords_of) (defScope swords_of) [] [] (He.ga K "words_of") fd
  d__law_words : ∃ fd, FunD K "_law_words" "_law_words" (defArgs s_law_words) (defBody s_law_words) (defScope s_law_words) [] [] (He.ga K "_law_words") fd
  d_is_name : ∃ fd, FunD K "is_name" "is_name" (defArgs sis_name) (defBody sis_name) (defScope sis_name) [] [] (He.ga K "is_name") fd
  d__law_is_name : ∃ fd, FunD K "_law_is_name" "_law_is_name" (defArgs s_law_is_name) (defBody s_law_is_name) (defScope s_law_is_name) [] [] (He.ga K "_law_is_name") fd
  d_number_in : ∃ fd, FunD K "number_in" "number_in" (defArgs snumber_in) (defBody snumber_in) (defScope snumber_in) [] [] (He.ga K "number_in") fd
  d__law_number_in : ∃ fd, FunD K "_law_number_in" "_law_number_in" (defArgs s_law_number_in) (defBody s_law_number_in) (defScope s_law_number_in) [] [] (He.ga K "_law_number_in") fd
  d_integer_in : ∃ fd, FunD K "integer_in" "integer_in" (defArgs sinteger_in) (defBody sinteger_in) (defScope sinteger_in) [] [] (He.ga K "integer_in") fd
  d_integers_in : ∃ fd, FunD K "integers_in" "integers_in" (defArgs sintegers_in) (defBody sintegers_in) (defScope sintegers_in) [] [] (He.ga K "integers_in") fd
  d__law_integer_in : ∃ fd, FunD K "_law_integer_in" "_law_integer_in" (defArgs s_law_integer_in) (defBody s_law_integer_in) (defScope s_law_integer_in) [] [] (He.ga K "_law_integer_in") fd
  d__law_integers_in : ∃ fd, FunD K "_law_integers_in" "_law_integers_in" (defArgs s_law_integers_in) (defBody s_law_integers_in) (defScope s_law_integers_in) [] [] (He.ga K "_law_integers_in") fd
  d_law : ∃ fd, FunD K "law" "law" (defArgs slaw) (defBody slaw) (defScope slaw) [] [] (He.ga K "law") fd
def m_law_number : MS := (msSeq (msIf (mTest (m2 gLt (mVar 0) (mK (.int 0)))) (msRet (m2 gSub (mK (.int 0)) (mVar 0))) msNil) (msRet (mVar 0)))
def F_law_number : FN := runM 1 1 [] false m_law_number
def m_law_draws : MS := (msForget 1 (msSeq (msOwn 1 (mN gLst mNil)) (msSeq (msFor (mIter (mVar 0)) (mgName 2) (msSeq (msAsg (mCall F_law_number (mCons (mVar 2) mNil)) (mgName 3)) (msIf (mTest (m2 gGe (mVar 3) (mK (.int 1000000000000000000)))) (msFor (mItN gRange1 (mCons (mK (.int 60)) mNil)) (mgName 4) (msSeq (msIf (mTest (m2 gEq (mVar 3) (mK (.int 0)))) msBrk msNil) (msSeq (msExpr (mOM gAppend 1 (mCons (m2 gMod (mN gInt (mCons (mVar 3) mNil)) (mK (.int 1000))) mNil))) (msAsg (m2 gDiv (mVar 3) (mK (.int 1000))) (mgName 3))))) (msSeq (msAsg (m2 gMod (mN gInt (mCons (m2 gAdd (m2 gMul (mVar 3) (mK (.int 48271))) (mK (.int 11))) mNil)) (mK (.int 2147483647))) (mgName 5)) (msSeq (msAsg (m2 gMod (mN gInt (mCons (m2 gAdd (m2 gMul (mVar 5) (mK (.int 69621))) (mVar 3)) mNil)) (mK (.int 2147483629))) (mgName 6)) (msExpr (mOM gExtend 1 (mCons (mN gLst (mCons (m2 gMod (mN gInt (mCons (mVar 3) mNil)) (mK (.int 1000))) (mCons (m2 gMod (mN gInt (mCons (mVar 5) mNil)) (mK (.int 1000))) (mCons (m2 gMod (mN gInt (mCons (mVar 6) mNil)) (mK (.int 1000))) mNil)))) mNil)))))))) (msRetO 1))))
def F_law_draws : FN := runM 7 1 [] true m_law_draws
def m_law_next : MS := (msSeq (msIf (mTruO 0) (msRet (mOM gPop 0 mNil)) msNil) (msRet (mK (.int 0))))
def F_law_next : FN := runM 1 1 [] false m_law_next
def m_law_line : MS := (msSeq (msAsg (mK (.str "abcxyz  0123456789,-+/.~!A \n")) (mgName 1)) (msSeq (msAsg (m2 gMod (mN gInt (mCons (mCallIo F_law_next 0 mNil) mNil)) (mK (.int 24))) (mgName 2)) (msRet (mM gJoin (mK (.str "")) (mCons (mLc [3] (mItN gRange1 (mCons (mVar 2) mNil)) (mgName 3) mYes (m2 gIx (mVar 1) (m2 gMod (mN gInt (mCons (mCallIo F_law_next 0 mNil) mNil)) (mN gLen (mCons (mVar 1) mNil))))) mNil)))))
def F_law_line : FN := runM 4 1 [] false m_law_line
def m_law_row_word : MS := (msForget 1 (msSeq (msOwn 1 (mN gLst mNil)) (msSeq (msFor (mItN gRange1 (mCons (m2 gAdd (mK (.int 1)) (m2 gMod (mN gInt (mCons (mCallIo F_law_next 0 mNil) mNil)) (mK (.int 5)))) mNil)) (mgName 2) (msSeq (msAsg (m2 gSub (m2 gMod (mN gInt (mCons (mCallIo F_law_next 0 mNil) mNil)) (mK (.int 21))) (mK (.int 10))) (mgName 3)) (msExpr (mOM gAppend 1 (mCons (mN gStr (mCons (m2 gMul (mVar 3) (m2 gIx (mN gLst (mCons (mK (.int 1)) (mCons (mK (.int 1)) (mCons (mK (.int 1000)) (mCons (m2 gPow (mK (.int 10)) (mK (.int 30))) mNil))))) (m2 gMod (mN gInt (mCons (mCallIo F_law_next 0 mNil) mNil)) (mK (.int 4))))) mNil)) mNil))))) (msRet (mJoinO (mK (.str ",")) 1)))))
def F_law_row_word : FN := runM 4 1 [] false m_law_row_word
def m_law_spoilt : MS := (msSeq (msAsg (m2 gMod (mN gInt (mCons (mCallIo F_law_next 0 mNil) mNil)) (m2 gAdd (mN gLen (mCons (mVar 1) mNil)) (mK (.int 1)))) (mgName 2)) (msSeq (msAsg (m2 gIx (mK (.str "0123456789-+, a")) (m2 gMod (mN gInt (mCons (mCallIo F_law_next 0 mNil) mNil)) (mK (.int 15)))) (mgName 3)) (msSeq (msAsg (m2 gMod (mN gInt (mCons (mCallIo F_law_next 0 mNil) mNil)) (mK (.int 3))) (mgName 4)) (msSeq (msIf (mTest (m2 gEq (mVar 4) (mK (.int 0)))) (msRet (m2 gAdd (m2 gAdd (mSl (.ex (mVar 1)) mNoP (mPart (mVar 2))) (mVar 3)) (mSl (.ex (mVar 1)) (mPart (mVar 2)) mNoP))) msNil) (msSeq (msIf (mTest (m2 gEq (mVar 4) (mK (.int 1)))) (msRet (m2 gAdd (m2 gAdd (mSl (.ex (mVar 1)) mNoP (mPart (mVar 2))) (mVar 3)) (mSl (.ex (mVar 1)) (mPart (m2 gAdd (mVar 2) (mK (.int 1)))) mNoP))) msNil) (msRet (m2 gAdd (mSl (.ex (mVar 1)) mNoP (mPart (mVar 2))) (mSl (.ex (mVar 1)) (mPart (m2 gAdd (mVar 2) (mK (.int 1)))) mNoP))))))))
def F_law_spoilt : FN := runM 5 2 [] false m_law_spoilt
def mwords_of : MS := (msSeq (msAsg (mM gSplit (mVar 0) (mCons (mK (.str " ")) mNil)) (mgName 1)) (msSeq (msFor (mIter (mVar 1)) (mgName 2) (msIf (mOrT (mTest (m2 gEq (mVar 2) (mK (.str "")))) (mNotT (mTru (mN gAll (mCons (mLc [3] (mIter (mVar 2)) (mgName 3) mYes (mChain gLe gLe (mK (.str "!")) (mVar 3) (mK (.str "~")))) mNil))))) (msRet (mK .non)) msNil)) (msRet (mVar 1))))
def Fwords_of : FN := runM 4 1 [] false mwords_of
def m_law_words : MS := (msForget 1 (msSeq (msOwn 1 (mN gLst mNil)) (msSeq (msAsg (mK (.str "")) (mgName 2)) (msSeq (msFor (mIter (m2 gAdd (mVar 0) (mK (.str " ")))) (mgName 3) (msIf (mTest (m2 gEq (mVar 3) (mK (.str " ")))) (msSeq (msIf (mTest (m2 gEq (mVar 2) (mK (.str "")))) (msRet (mK .non)) msNil) (msSeq (msExpr (mOM gAppend 1 (mCons (mVar 2) mNil))) (msAsg (mK (.str "")) (mgName 2)))) (msIf (mTest (mChain gLe gLe (mK (.str "!")) (mVar 3) (mK (.str "~")))) (msAsg (m2 gAdd (mVar 2) (mVar 3)) (mgName 2)) (msRet (mK .non))))) (msRetO 1)))))
def F_law_words : FN := runM 4 1 [] false m_law_words
def mis_name : MS := (msRet (mAnd (mChain gLe gLe (mK (.int 1)) (mN gLen (mCons (mVar 0) mNil)) (mK (.int 12))) (mN gAll (mCons (mLc [1] (mIter (mVar 0)) (mgName 1) mYes (m2 gIn (mVar 1) (mK (.str cSMALL)))) mNil))))
def Fis_name : FN := runM 2 1 [] false mis_name
def m_law_is_name : MS := (msRet (mAnd (mChain gLt gLt (mK (.int 0)) (mN gLen (mCons (mVar 0) mNil)) (mK (.int 13))) (mN gAll (mCons (mLc [1] (mIter (mVar 0)) (mgName 1) mYes (m2 gIn (mVar 1) (mK (.str "abcdefghijklmnopqrstuvwxyz")))) mNil))))
def F_law_is_name : FN := runM 2 1 [] false m_law_is_name
def mnumber_in : MS := (msSeq (msIf (mOrT (mNotT (mTest (mChain gLe gLe (mK (.int 1)) (mN gLen (mCons (mVar 0) mNil)) (mK (.int 2))))) (mNotT (mTru (mN gAll (mCons (mLc [1] (mIter (mVar 0)) (mgName 1) mYes (m2 gIn (mVar 1) (mK (.str cFIGURES)))) mNil))))) (msRet (mK .non)) msNil) (msSeq (msIf (mAndT (mTest (m2 gEq (mN gLen (mCons (mVar 0) mNil)) (mK (.int 2)))) (mTest (m2 gEq (m2 gIx (mVar 0) (mK (.int 0))) (mK (.str "0"))))) (msRet (mK .non)) msNil) (msRet (mN gInt (mCons (mVar 0) mNil)))))
def Fnumber_in : FN := runM 2 1 [] false mnumber_in
def m_law_number_in : MS := (msRet (mIf (mTest (m2 gIn (mVar 0) (mLc [1] (mItN gRange1 (mCons (mK (.int 100)) mNil)) (mgName 1) mYes (mN gStr (mCons (mVar 1) mNil))))) (mN gInt (mCons (mVar 0) mNil)) (mK .non)))
def F_law_number_in : FN := runM 2 1 [] false m_law_number_in
def minteger_in : MS := (msSeq (msAsg (mIf (mTest (m2 gEq (mSl (.ex (mVar 0)) mNoP (mPart (mK (.int 1)))) (mK (.str "-")))) (mSl (.ex (mVar 0)) (mPart (mK (.int 1))) mNoP) (mVar 0)) (mgName 1)) (msSeq (msIf (mOrT (mNotT (mTest (mChain gLe gLe (mK (.int 1)) (mN gLen (mCons (mVar 1) mNil)) (mK (.int cMOST_FIGURES))))) (mNotT (mTru (mN gAll (mCons (mLc [2] (mIter (mVar 1)) (mgName 2) mYes (m2 gIn (mVar 2) (mK (.str cFIGURES)))) mNil))))) (msRet (mK .non)) msNil) (msSeq (msIf (mTest (m2 gNe (mN gStr (mCons (mN gInt (mCons (mVar 0) mNil)) mNil)) (mVar 0))) (msRet (mK .non)) msNil) (msRet (mN gInt (mCons (mVar 0) mNil))))))
def Finteger_in : FN := runM 3 1 [] false minteger_in
def mintegers_in : MS := (msSeq (msAsg (mLc [2] (mIter (mM gSplit (mVar 0) (mCons (mK (.str ",")) mNil))) (mgName 2) mYes (mCall Finteger_in (mCons (mVar 2) mNil))) (mgName 1)) (msSeq (msIf (mTru (mN gAny (mCons (mLc [3] (mIter (mVar 1)) (mgName 3) mYes (m2 gIs (mVar 3) (mK .non))) mNil))) (msRet (mK .non)) msNil) (msRet (mVar 1))))
def Fintegers_in : FN := runM 4 1 [] false mintegers_in
def m_law_integer_in : MS := (msSeq (msAsg (mIf (mTest (m2 gEq (mSl (.ex (mVar 0)) mNoP (mPart (mK (.int 1)))) (mK (.str "-")))) (mSl (.ex (mVar 0)) (mPart (mK (.int 1))) mNoP) (mVar 0)) (mgName 1)) (msSeq (msIf (mOrT (mTest (m2 gEq (mVar 1) (mK (.str "")))) (mOrT (mTest (m2 gGt (mN gLen (mCons (mVar 1) mNil)) (mK (.int 400)))) (mNotT (mTru (mN gAll (mCons (mLc [2] (mIter (mVar 1)) (mgName 2) mYes (m2 gIn (mVar 2) (mK (.str "0123456789")))) mNil)))))) (msRet (mK .non)) msNil) (msSeq (msIf (mAndT (mTest (m2 gEq (m2 gIx (mVar 1) (mK (.int 0))) (mK (.str "0")))) (mTest (m2 gNe (mVar 0) (mK (.str "0"))))) (msRet (mK .non)) msNil) (msRet (mN gInt (mCons (mVar 0) mNil))))))
def F_law_integer_in : FN := runM 3 1 [] false m_law_integer_in
def m_law_integers_in : MS := (msSeq (msAsg (mLc [2] (mIter (mM gSplit (mVar 0) (mCons (mK (.str ",")) mNil))) (mgName 2) mYes (mCall F_law_integer_in (mCons (mVar 2) mNil))) (mgName 1)) (msRet (mIf (mTest (m2 gIn (mK .non) (mVar 1))) (mK .non) (mVar 1))))
def F_law_integers_in : FN := runM 3 1 [] false m_law_integers_in
def mlaw : MS := (msForget 1 (msSeq (msOwn 1 (mCall F_law_draws (mCons (mVar 0) mNil))) (msSeq (msExpr (mOM gReverse 1 mNil)) (msSeq (msAsg (mCallIo F_law_line 1 mNil) (mgName 2)) (msSeq (msAsg (mLc [4] (mIter (mM gSplit (mVar 2) (mCons (mK (.str " ")) mNil))) (mgName 4) (mTest (m2 gNe (mVar 4) (mK (.str "")))) (mVar 4)) (mgName 3)) (msSeq (msAsg (mM gJoin (mK (.str " ")) (mCons (mVar 3) mNil)) (mgName 5)) (msSeq (msFor (mIter (mN gLst (mCons (mVar 2) (mCons (mVar 5) (mCons (m2 gAdd (mVar 5) (mK (.str " "))) (mCons (m2 gAdd (mK (.str " ")) (mVar 5)) (mCons (m1 (gRepl " " "  ") (mVar 5)) (mCons (mK (.str "")) (mCons (mK (.str " ")) (mCons (mK (.str "a\nb")) (mCons (m2 gAdd (mVar 5) (mK (.str "\n"))) mNil))))))))))) (mgName 6) (msIf (mTest (m2 gNe (mN gRepr (mCons (mCall Fwords_of (mCons (mVar 6) mNil)) mNil)) (mN gRepr (mCons (mCall F_law_words (mCons (mVar 6) mNil)) mNil)))) (msRet (mK (.bl false))) msNil)) (msSeq (msAsg (mM gJoin (mK (.str "")) (mCons (mLc [8] (mItN gRange1 (mCons (m2 gMod (mN gInt (mCons (mCallIo F_law_next 1 mNil) mNil)) (mK (.int 14))) mNil)) (mgName 8) mYes (m2 gIx (mK (.str "abcdefghijklmnopqrstuvwxyz")) (m2 gMod (mN gInt (mCons (mCallIo F_law_next 1 mNil) mNil)) (mK (.int 26))))) mNil)) (mgName 7)) (msSeq (msFor (mIter (m2 gAdd (mVar 3) (mN gLst (mCons (mVar 7) (mCons (m2 gAdd (mVar 7) (mK (.str "A"))) (mCons (m2 gMulS (mK (.str "a")) (mK (.int 12))) (mCons (m2 gMulS (mK (.str "a")) (mK (.int 13))) (mCons (mK (.str "")) (mCons (mK (.str "a1")) (mCons (mK (.str "a b")) mNil)))))))))) (mgName 4) (msIf (mTest (m2 gNe (mN gRepr (mCons (mCall Fis_name (mCons (mVar 4) mNil)) mNil)) (mN gRepr (mCons (mCall F_law_is_name (mCons (mVar 4) mNil)) mNil)))) (msRet (mK (.bl false))) msNil)) (msSeq (msAsg (mN gStr (mCons (m2 gMod (mN gInt (mCons (mCallIo F_law_next 1 mNil) mNil)) (mK (.int 120))) mNil)) (mgName 9)) (msSeq (msFor (mIter (m2 gAdd (mVar 3) (mN gLst (mCons (mVar 9) (mCons (m2 gAdd (mK (.str "0")) (mVar 9)) (mCons (m2 gAdd (mK (.str "-")) (mVar 9)) (mCons (mK (.str "")) (mCons (mK (.str "00")) (mCons (mK (.str "0")) (mCons (mK (.str "99")) (mCons (mK (.str "100")) (mCons (mK (.str "+1")) (mCons (mK (.str " 1")) mNil))))))))))))) (mgName 4) (msIf (mTest (m2 gNe (mN gRepr (mCons (mCall Fnumber_in (mCons (mVar 4) mNil)) mNil)) (mN gRepr (mCons (mCall F_law_number_in (mCons (mVar 4) mNil)) mNil)))) (msRet (mK (.bl false))) msNil)) (msSeq (msAsg (mCallIo F_law_row_word 1 mNil) (mgName 10)) (msSeq (msAsg (mCallIo F_law_spoilt 1 (mCons (mVar 10) mNil)) (mgName 11)) (msSeq (msAsg (m2 gMulS (mK (.str "9")) (mK (.int 400))) (mgName 12)) (msSeq (msFor (mIter (m2 gAdd (mVar 3) (mN gLst (mCons (mVar 10) (mCons (mVar 11) (mCons (mCallIo F_law_spoilt 1 (mCons (mVar 11) mNil)) (mCons (m2 gAdd (mVar 10) (mK (.str ","))) (mCons (m2 gAdd (mK (.str ",")) (mVar 10)) (mCons (mK (.str "")) (mCons (mK (.str "-")) (mCons (mK (.str "-0")) (mCons (mK (.str "1,,2")) (mCons (mVar 12) (mCons (m2 gAdd (mK (.str "-")) (mVar 12)) (mCons (m2 gAdd (mK (.str "1")) (mVar 12)) mNil))))))))))))))) (mgName 4) (msIf (mTest (m2 gNe (mN gRepr (mCons (mCall Fintegers_in (mCons (mVar 4) mNil)) mNil)) (mN gRepr (mCons (mCall F_law_integers_in (mCons (mVar 4) mNil)) mNil)))) (msRet (mK (.bl false))) msNil)) (msRet (mK (.bl true))))))))))))))))))
def Flaw : FN := runM 13 1 [] false mlaw
section
variable {w : World} {K : PySem.W.Frag} {mg : Str → Option Value}
abbrev N_law_number : List Str := ["cell"]
theorem c_law_number : FnScope N_law_number ["cell"] (defScope s_law_number) := ⟨rfl, rfl, rfl, by decide +kernel, rfl, by decide +kernel, by decide +kernel⟩
theorem g_law_number (fc : Fc K mg) : Ok prog w K mg 1 "_law_number" false false F_law_number := by
  intro base
  obtain ⟨fd, F⟩ := fc.d__law_number
  refine fnG_of (ps := ["cell"]) (N := N_law_number) (O := []) (O' := []) F c_law_number (F.bindsN fun _ _ _ _ _ _ us hl => match us, hl with | [_], _ => rfl) .nil (fun _ _ => .nil) (by decide) (by decide) (by decide) fun cdv A outer s H E A0 q hio hr hg => ?_
  obtain rfl : q = none := by cases q with
    | none => rfl
    | some _ => cases hio
  have hu := Room.u64 hr
  have hv := Room.u65 hr
  exact (dss_cons (ds_if trivial (dt_cmp od_lt (v_ 0) de_int (pm _ _)) (dss_one (ds_ret trivial (de_bin od_sub de_int (v_ 0)))) dss_nil) (dss_one (ds_ret trivial (v_ 0))))
abbrev N_law_draws : List Str := ["script", "draws", "cell", "rest", "k", "once", "twice"]
theorem c_law_draws : FnScope N_law_draws ["script"] (defScope s_law_draws) := ⟨rfl, rfl, rfl, by decide +kernel, rfl, by decide +kernel, by decide +kernel⟩
theorem g_law_draws (fc : Fc K mg) : Ok prog w K mg 2 "_law_draws" false true F_law_draws := by
  intro base
  obtain ⟨fd, F⟩ := fc.d__law_draws
  refine fnG_of (ps := ["script"]) (N := N_law_draws) (O := []) (O' := []) F c_law_draws (F.bindsN fun _ _ _ _ _ _ us hl => match us, hl with | [_], _ => rfl) .nil (fun _ _ => .nil) (by decide) (by decide) (by decide) fun cdv A outer s H E A0 q hio hr hg => ?_
  obtain rfl : q = none := by cases q with
    | none => rfl
    | some _ => cases hio
  have hu := Room.u64 hr
  have hv := Room.u65 hr
  exact (dss_forgetO 1 (.inl (by decide)) (dss_cons (ds_own trivial (df_lst da_nil) rfl (.inl (by decide)) c_law_draws.nd rfl (Or.inl rfl)) (dss_cons (ds_for (vs := [2]) trivial cx_pw rfl (di_seq (v_ 0)) (dg_name rfl rfl c_law_draws.nd rfl (Or.inl rfl)) (dss_cons (ds_asg (vs := [3]) trivial (de_call (g_law_number fc _) (hr.mono (by decide)) hg cx_tk (by rfl) fc.g__law_number (da_cons (v_ 2) da_nil)) (dg_name rfl rfl c_law_draws.nd rfl (Or.inl rfl))) (dss_one (ds_if trivial (dt_cmp od_ge (v_ 3) de_int (pm _ _)) (dss_one (ds_for (vs := [4]) trivial cx_pw rfl (di_range1 (by rfl) fc.f_range (da_cons de_int da_nil)) (dg_name rfl rfl c_law_draws.nd rfl (Or.inl rfl)) (dss_cons (ds_if trivial (dt_cmp (od_eq hu) (v_ 3) de_int (pm _ _)) (dss_one ds_brk) dss_nil) (dss_cons (ds_expr trivial (de_om om_append PySem.F.slot_list_append PySem.F.type_list_append (by rfl) (pv 1) (da_cons (de_bin od_mod (de_ty bt_int b_int (by rfl) fc.f_int (da_cons (v_ 3) da_nil)) de_int) da_nil))) (dss_one (ds_asg (vs := [3]) trivial (de_bin od_div (v_ 3) de_int) (dg_name rfl rfl c_law_draws.nd rfl (Or.inl rfl)))))))) (dss_cons (ds_asg (vs := [5]) trivial (de_bin od_mod (de_ty bt_int b_int (by rfl) fc.f_int (da_cons (de_bin od_add (de_bin od_mul (v_ 3) de_int) de_int) da_nil)) de_int) (dg_name rfl rfl c_law_draws.nd rfl (Or.inl rfl))) (dss_cons (ds_asg (vs := [6]) trivial (de_bin od_mod (de_ty bt_int b_int (by rfl) fc.f_int (da_cons (de_bin od_add (de_bin od_mul (v_ 5) de_int) (v_ 3)) da_nil)) de_int) (dg_name rfl rfl c_law_draws.nd rfl (Or.inl rfl))) (dss_one (ds_expr trivial (de_om om_extend PySem.F.slot_list_extend PySem.F.type_list_extend (by rfl) (pv 1) (da_cons (DF.toE (df_lst (da_cons (de_bin od_mod (de_ty bt_int b_int (by rfl) fc.f_int (da_cons (v_ 3) da_nil)) de_int) (da_cons (de_bin od_mod (de_ty bt_int b_int (by rfl) fc.f_int (da_cons (v_ 5) da_nil)) de_int) (da_cons (de_bin od_mod (de_ty bt_int b_int (by rfl) fc.f_int (da_cons (v_ 6) da_nil)) de_int) da_nil))))) da_nil)))))))))) (dss_one (ds_retO rfl (.inl (by decide)) (pv 1))))))
abbrev N_law_next : List Str := ["draws"]
theorem c_law_next : FnScope N_law_next ["draws"] (defScope s_law_next) := ⟨rfl, rfl, rfl, by decide +kernel, rfl, by decide +kernel, by decide +kernel⟩
theorem g_law_next (fc : Fc K mg) : Ok prog w K mg 1 "_law_next" true false F_law_next := by
  intro base
  obtain ⟨fd, F⟩ := fc.d__law_next
  refine fnG_of (ps := ["draws"]) (N := N_law_next) (O := [0]) (O' := []) F c_law_next (F.bindsN fun _ _ _ _ _ _ us hl => match us, hl with | [_], _ => rfl) .nil (fun _ _ => .nil) (by decide) (by decide) (by decide) fun cdv A outer s H E A0 q hio hr hg => ?_
  have hu := Room.u64 hr
  have hv := Room.u65 hr
  exact (dss_cons (ds_if trivial (dt_truO (by rfl) (pv 0)) (dss_one (ds_ret trivial (de_om0 om_pop PySem.F.slot_list_pop PySem.F.type_list_pop (by rfl) (pv 0)))) dss_nil) (dss_one (ds_ret trivial de_int)))
abbrev N_law_line : List Str := ["draws", "signs", "length", "k"]
theorem c_law_line : FnScope N_law_line ["draws"] (defScope s_law_line) := ⟨rfl, rfl, rfl, by decide +kernel, rfl, by decide +kernel, by decide +kernel⟩
theorem g_law_line (fc : Fc K mg) : Ok prog w K mg 2 "_law_line" true false F_law_line := by
  intro base
  obtain ⟨fd, F⟩ := fc.d__law_line
  refine fnG_of (ps := ["draws"]) (N := N_law_line) (O := [0]) (O' := []) F c_law_line (F.bindsN fun _ _ _ _ _ _ us hl => match us, hl with | [_], _ => rfl) .nil (fun _ _ => .nil) (by decide) (by decide) (by decide) fun cdv A outer s H E A0 q hio hr hg => ?_
  have hu := Room.u64 hr
  have hv := Room.u65 hr
  exact (dss_cons (ds_asg (vs := [1]) trivial de_str (dg_name rfl rfl c_law_line.nd rfl (Or.inr rfl))) (dss_cons (ds_asg (vs := [2]) trivial (de_bin od_mod (de_ty bt_int b_int (by rfl) fc.f_int (da_cons (de_callio (g_law_next fc _) (hr.mono (by decide)) hg cx_tk (by rfl) fc.g__law_next (by rfl) (pv 0) da_nil) da_nil)) de_int) (dg_name rfl rfl c_law_line.nd rfl (Or.inl rfl))) (dss_one (ds_ret trivial (de_sm PySem.F.slot_str_join PySem.F.type_str_join mt_joinD de_str (da_cons (DF.toE (df_lc (by rfl) c_law_line.nd (by rfl) (di_range1 (by rfl) fc.f_range (da_cons (v_ 2) da_nil)) (blkOk_by (own := [("k", 3)]) (by kernel_rfl)) (fun _ _ _ _ _ => (dg_name rfl rfl c_law_line.nd rfl (Or.inl rfl))) (fun _ _ _ _ _ => pts_nil) tYes_go (fun _ _ _ _ _ => (de_ix ix_d (v_ 1) (de_bin od_mod (de_ty bt_int b_int (by rfl) fc.f_int (da_cons (de_callio (g_law_next fc _) (hr.mono (by decide)) hg (takes0 (by rfl)) (by rfl) fc.g__law_next (by rfl) (pv 0) da_nil) da_nil)) (de_b bt_len b_len (by rfl) fc.f_len (da_cons (v_ 1) da_nil))) (fun _ _ => rfl))))) da_nil))))))
abbrev N_law_row_word : List Str := ["draws", "row", "k", "a"]
theorem c_law_row_word : FnScope N_law_row_word ["draws"] (defScope s_law_row_word) := ⟨rfl, rfl, rfl, by decide +kernel, rfl, by decide +kernel, by decide +kernel⟩
theorem g_law_row_word (fc : Fc K mg) : Ok prog w K mg 2 "_law_row_word" true false F_law_row_word := by
  intro base
  obtain ⟨fd, F⟩ := fc.d__law_row_word
  refine fnG_of (ps := ["draws"]) (N := N_law_row_word) (O := [0]) (O' := []) F c_law_row_word (F.bindsN fun _ _ _ _ _ _ us hl => match us, hl with | [_], _ => rfl) .nil (fun _ _ => .nil) (by decide) (by decide) (by decide) fun cdv A outer s H E A0 q hio hr hg => ?_
  have hu := Room.u64 hr
  have hv := Room.u65 hr
  exact (dss_forgetO 1 (.inl (by decide)) (dss_cons (ds_own trivial (df_lst da_nil) rfl (.inl (by decide)) c_law_row_word.nd rfl (Or.inl rfl)) (dss_cons (ds_for (vs := [2]) trivial cx_pw rfl (di_range1 (by rfl) fc.f_range (da_cons (de_bin od_add de_int (de_bin od_mod (de_ty bt_int b_int (by rfl) fc.f_int (da_cons (de_callio (g_law_next fc _) (hr.mono (by decide)) hg cx_tk (by rfl) fc.g__law_next (by rfl) (pv 0) da_nil) da_nil)) de_int)) da_nil)) (dg_name rfl rfl c_law_row_word.nd rfl (Or.inl rfl)) (dss_cons (ds_asg (vs := [3]) trivial (de_bin od_sub (de_bin od_mod (de_ty bt_int b_int (by rfl) fc.f_int (da_cons (de_callio (g_law_next fc _) (hr.mono (by decide)) hg cx_tk (by rfl) fc.g__law_next (by rfl) (pv 0) da_nil) da_nil)) de_int) de_int) (dg_name rfl rfl c_law_row_word.nd rfl (Or.inl rfl))) (dss_one (ds_expr trivial (de_om om_append PySem.F.slot_list_append PySem.F.type_list_append (by rfl) (pv 1) (da_cons (de_ty bt_str (b_str hg hu) (by rfl) fc.f_str (da_cons (de_bin od_mul (v_ 3) (de_ix ix_d (DF.toE (df_lst (da_cons de_int (da_cons de_int (da_cons de_int (da_cons (de_bin od_pow de_int de_int) da_nil)))))) (de_bin od_mod (de_ty bt_int b_int (by rfl) fc.f_int (da_cons (de_callio (g_law_next fc _) (hr.mono (by decide)) hg cx_tk (by rfl) fc.g__law_next (by rfl) (pv 0) da_nil) da_nil)) de_int) (fun _ _ => rfl))) da_nil)) da_nil)))))) (dss_one (ds_ret trivial (de_joinO (by rfl) de_str (pv 1)))))))
abbrev N_law_spoilt : List Str := ["draws", "text", "at", "sign", "kind"]
theorem c_law_spoilt : FnScope N_law_spoilt ["draws", "text"] (defScope s_law_spoilt) := ⟨rfl, rfl, rfl, by decide +kernel, rfl, by decide +kernel, by decide +kernel⟩
theorem g_law_spoilt (fc : Fc K mg) : Ok prog w K mg 2 "_law_spoilt" true false F_law_spoilt := by
  intro base
  obtain ⟨fd, F⟩ := fc.d__law_spoilt
  refine fnG_of (ps := ["draws", "text"]) (N := N_law_spoilt) (O := [0]) (O' := []) F c_law_spoilt (F.bindsN fun _ _ _ _ _ _ us hl => match us, hl with | [_, _], _ => rfl) .nil (fun _ _ => .nil) (by decide) (by decide) (by decide) fun cdv A outer s H E A0 q hio hr hg => ?_
  have hu := Room.u64 hr
  have hv := Room.u65 hr
  exact (dss_cons (ds_asg (vs := [2]) trivial (de_bin od_mod (de_ty bt_int b_int (by rfl) fc.f_int (da_cons (de_callio (g_law_next fc _) (hr.mono (by decide)) hg cx_tk (by rfl) fc.g__law_next (by rfl) (pv 0) da_nil) da_nil)) (de_bin od_add (de_b bt_len b_len (by rfl) fc.f_len (da_cons (v_ 1) da_nil)) de_int)) (dg_name rfl rfl c_law_spoilt.nd rfl (Or.inl rfl))) (dss_cons (ds_asg (vs := [3]) trivial (de_ix ix_d de_str (de_bin od_mod (de_ty bt_int b_int (by rfl) fc.f_int (da_cons (de_callio (g_law_next fc _) (hr.mono (by decide)) hg cx_tk (by rfl) fc.g__law_next (by rfl) (pv 0) da_nil) da_nil)) de_int) (fun _ _ => rfl)) (dg_name rfl rfl c_law_spoilt.nd rfl (Or.inl rfl))) (dss_cons (ds_asg (vs := [4]) trivial (de_bin od_mod (de_ty bt_int b_int (by rfl) fc.f_int (da_cons (de_callio (g_law_next fc _) (hr.mono (by decide)) hg cx_tk (by rfl) fc.g__law_next (by rfl) (pv 0) da_nil) da_nil)) de_int) (dg_name rfl rfl c_law_spoilt.nd rfl (Or.inl rfl))) (dss_cons (ds_if trivial (dt_cmp (od_eq hu) (v_ 4) de_int (pm _ _)) (dss_one (ds_ret trivial (de_bin od_add (de_bin od_add (de_sl (db_e (v_ 1)) dp_no (dp_e (v_ 2))) (v_ 3)) (de_sl (db_e (v_ 1)) (dp_e (v_ 2)) dp_no)))) dss_nil) (dss_cons (ds_if trivial (dt_cmp (od_eq hu) (v_ 4) de_int (pm _ _)) (dss_one (ds_ret trivial (de_bin od_add (de_bin od_add (de_sl (db_e (v_ 1)) dp_no (dp_e (v_ 2))) (v_ 3)) (de_sl (db_e (v_ 1)) (dp_e (de_bin od_add (v_ 2) de_int)) dp_no)))) dss_nil) (dss_one (ds_ret trivial (de_bin od_add (de_sl (db_e (v_ 1)) dp_no (dp_e (v_ 2))) (de_sl (db_e (v_ 1)) (dp_e (de_bin od_add (v_ 2) de_int)) dp_no)))))))))
abbrev Nwords_of : List Str := ["line", "words", "word", "char"]
theorem cwords_of : FnScope Nwords_of ["line"] (defScope swords_of) := ⟨rfl, rfl, rfl, by decide +kernel, rfl, by decide +kernel, by decide +kernel⟩
theorem gwords_of (fc : Fc K mg) : Ok prog w K mg 1 "words_of" false false Fwords_of := by
  intro base
  obtain ⟨fd, F⟩ := fc.d_words_of
  refine fnG_of (ps := ["line"]) (N := Nwords_of) (O := []) (O' := []) F cwords_of (F.bindsN fun _ _ _ _ _ _ us hl => match us, hl with | [_], _ => rfl) .nil (fun _ _ => .nil) (by decide) (by decide) (by decide) fun cdv A outer s H E A0 q hio hr hg => ?_
  obtain rfl : q = none := by cases q with
    | none => rfl
    | some _ => cases hio
  have hu := Room.u64 hr
  have hv := Room.u65 hr
  exact (dss_cons (ds_asg (vs := [1]) trivial (de_sm PySem.F.slot_str_split PySem.F.type_str_split mt_splitD (v_ 0) (da_cons de_str da_nil)) (dg_name rfl rfl cwords_of.nd rfl (Or.inl rfl))) (dss_cons (ds_for (vs := [2]) trivial cx_pw rfl (di_seq (v_ 1)) (dg_name rfl rfl cwords_of.nd rfl (Or.inl rfl)) (dss_one (ds_if trivial (DW.t (dw_or (dt_cmp (od_eq hu) (v_ 2) de_str (pm _ _)) (dw_or1 (dt_not (dt_tru (de_b bt_all (b_all (by rfl)) (by rfl) fc.f_all (da_cons (DF.toE (df_lc (by rfl) cwords_of.nd (by rfl) (di_seq (v_ 2)) (blkOk_by (own := [("char", 3)]) (by kernel_rfl)) (fun _ _ _ _ _ => (dg_name rfl rfl cwords_of.nd rfl (Or.inl rfl))) (fun _ _ _ _ _ => pts_nil) tYes_go (fun _ _ _ _ _ => (de_chain od_le od_le de_str (v_ 3) de_str)))) da_nil))))))) (dss_one (ds_ret trivial de_non)) dss_nil))) (dss_one (ds_ret trivial (v_ 1)))))
abbrev N_law_words : List Str := ["line", "words", "word", "sign"]
theorem c_law_words : FnScope N_law_words ["line"] (defScope s_law_words) := ⟨rfl, rfl, rfl, by decide +kernel, rfl, by decide +kernel, by decide +kernel⟩
theorem g_law_words (fc : Fc K mg) : Ok prog w K mg 1 "_law_words" false false F_law_words := by
  intro base
  obtain ⟨fd, F⟩ := fc.d__law_words
  refine fnG_of (ps := ["line"]) (N := N_law_words) (O := []) (O' := []) F c_law_words (F.bindsN fun _ _ _ _ _ _ us hl => match us, hl with | [_], _ => rfl) .nil (fun _ _ => .nil) (by decide) (by decide) (by decide) fun cdv A outer s H E A0 q hio hr hg => ?_
  obtain rfl : q = none := by cases q with
    | none => rfl
    | some _ => cases hio
  have hu := Room.u64 hr
  have hv := Room.u65 hr
  exact (dss_forgetO 1 (.inl (by decide)) (dss_cons (ds_own trivial (df_lst da_nil) rfl (.inl (by decide)) c_law_words.nd rfl (Or.inl rfl)) (dss_cons (ds_asg (vs := [2]) trivial de_str (dg_name rfl rfl c_law_words.nd rfl (Or.inl rfl))) (dss_cons (ds_for (vs := [3]) trivial cx_pw rfl (di_seq (de_bin od_add (v_ 0) de_str)) (dg_name rfl rfl c_law_words.nd rfl (Or.inl rfl)) (dss_one (ds_if trivial (dt_cmp (od_eq hu) (v_ 3) de_str (pm _ _)) (dss_cons (ds_if trivial (dt_cmp (od_eq hu) (v_ 2) de_str (pm _ _)) (dss_one (ds_ret trivial de_non)) dss_nil) (dss_cons (ds_expr trivial (de_om om_append PySem.F.slot_list_append PySem.F.type_list_append (by rfl) (pv 1) (da_cons (v_ 2) da_nil))) (dss_one (ds_asg (vs := [2]) trivial de_str (dg_name rfl rfl c_law_words.nd rfl (Or.inl rfl)))))) (dss_one (ds_if trivial (dt_chain od_le od_le de_str (v_ 3) de_str) (dss_one (ds_asg (vs := [2]) trivial (de_bin od_add (v_ 2) (v_ 3)) (dg_name rfl rfl c_law_words.nd rfl (Or.inl rfl)))) (dss_one (ds_ret trivial de_non))))))) (dss_one (ds_retOv rfl (.inl (by decide)) (pv 1)))))))
abbrev Nis_name : List Str := ["word", "char"]
theorem cis_name : FnScope Nis_name ["word"] (defScope sis_name) := ⟨rfl, rfl, rfl, by decide +kernel, rfl, by decide +kernel, by decide +kernel⟩
theorem gis_name (fc : Fc K mg) : Ok prog w K mg 1 "is_name" false false Fis_name := by
  intro base
  obtain ⟨fd, F⟩ := fc.d_is_name
  refine fnG_of (ps := ["word"]) (N := Nis_name) (O := []) (O' := []) F cis_name (F.bindsN fun _ _ _ _ _ _ us hl => match us, hl with | [_], _ => rfl) .nil (fun _ _ => .nil) (by decide) (by decide) (by decide) fun cdv A outer s H E A0 q hio hr hg => ?_
  obtain rfl : q = none := by cases q with
    | none => rfl
    | some _ => cases hio
  have hu := Room.u64 hr
  have hv := Room.u65 hr
  exact (dss_one (ds_ret trivial (de_and (de_chain od_le od_le de_int (de_b bt_len b_len (by rfl) fc.f_len (da_cons (v_ 0) da_nil)) de_int) (de_one (de_b bt_all (b_all (by rfl)) (by rfl) fc.f_all (da_cons (DF.toE (df_lc (by rfl) cis_name.nd (by rfl) (di_seq (v_ 0)) (blkOk_by (own := [("char", 1)]) (by kernel_rfl)) (fun _ _ _ _ _ => (dg_name rfl rfl cis_name.nd rfl (Or.inl rfl))) (fun _ _ _ _ _ => pts_nil) tYes_go (fun _ _ _ _ _ => (de_cmp (od_in hv) (v_ 1) (gs_ fc.c_SMALL) (pm _ _))))) da_nil))))))
abbrev N_law_is_name : List Str := ["word", "sign"]
theorem c_law_is_name : FnScope N_law_is_name ["word"] (defScope s_law_is_name) := ⟨rfl, rfl, rfl, by decide +kernel, rfl, by decide +kernel, by decide +kernel⟩
theorem g_law_is_name (fc : Fc K mg) : Ok prog w K mg 1 "_law_is_name" false false F_law_is_name := by
  intro base
  obtain ⟨fd, F⟩ := fc.d__law_is_name
  refine fnG_of (ps := ["word"]) (N := N_law_is_name) (O := []) (O' := []) F c_law_is_name (F.bindsN fun _ _ _ _ _ _ us hl => match us, hl with | [_], _ => rfl) .nil (fun _ _ => .nil) (by decide) (by decide) (by decide) fun cdv A outer s H E A0 q hio hr hg => ?_
  obtain rfl : q = none := by cases q with
    | none => rfl
    | some _ => cases hio
  have hu := Room.u64 hr
  have hv := Room.u65 hr
  exact (dss_one (ds_ret trivial (de_and (de_chain od_lt od_lt de_int (de_b bt_len b_len (by rfl) fc.f_len (da_cons (v_ 0) da_nil)) de_int) (de_one (de_b bt_all (b_all (by rfl)) (by rfl) fc.f_all (da_cons (DF.toE (df_lc (by rfl) c_law_is_name.nd (by rfl) (di_seq (v_ 0)) (blkOk_by (own := [("sign", 1)]) (by kernel_rfl)) (fun _ _ _ _ _ => (dg_name rfl rfl c_law_is_name.nd rfl (Or.inl rfl))) (fun _ _ _ _ _ => pts_nil) tYes_go (fun _ _ _ _ _ => (de_cmp (od_in hv) (v_ 1) de_str (pm _ _))))) da_nil))))))
abbrev Nnumber_in : List Str := ["word", "char"]
theorem cnumber_in : FnScope Nnumber_in ["word"] (defScope snumber_in) := ⟨rfl, rfl, rfl, by decide +kernel, rfl, by decide +kernel, by decide +kernel⟩
theorem gnumber_in (fc : Fc K mg) : Ok prog w K mg 1 "number_in" false false Fnumber_in := by
  intro base
  obtain ⟨fd, F⟩ := fc.d_number_in
  refine fnG_of (ps := ["word"]) (N := Nnumber_in) (O := []) (O' := []) F cnumber_in (F.bindsN fun _ _ _ _ _ _ us hl => match us, hl with | [_], _ => rfl) .nil (fun _ _ => .nil) (by decide) (by decide) (by decide) fun cdv A outer s H E A0 q hio hr hg => ?_
  obtain rfl : q = none := by cases q with
    | none => rfl
    | some _ => cases hio
  have hu := Room.u64 hr
  have hv := Room.u65 hr
  exact (dss_cons (ds_if trivial (DW.t (dw_or (dt_not (dt_chain od_le od_le de_int (de_b bt_len b_len (by rfl) fc.f_len (da_cons (v_ 0) da_nil)) de_int)) (dw_or1 (dt_not (dt_tru (de_b bt_all (b_all (by rfl)) (by rfl) fc.f_all (da_cons (DF.toE (df_lc (by rfl) cnumber_in.nd (by rfl) (di_seq (v_ 0)) (blkOk_by (own := [("char", 1)]) (by kernel_rfl)) (fun _ _ _ _ _ => (dg_name rfl rfl cnumber_in.nd rfl (Or.inl rfl))) (fun _ _ _ _ _ => pts_nil) tYes_go (fun _ _ _ _ _ => (de_cmp (od_in hv) (v_ 1) (gs_ fc.c_FIGURES) (pm _ _))))) da_nil))))))) (dss_one (ds_ret trivial de_non)) dss_nil) (dss_cons (ds_if trivial (DW.t (dw_and (dt_cmp (od_eq hu) (de_b bt_len b_len (by rfl) fc.f_len (da_cons (v_ 0) da_nil)) de_int (pm _ _)) (dw_and1 (dt_cmp (od_eq hu) (de_ix ix_d (v_ 0) de_int (fun _ _ => rfl)) de_str (pm _ _))))) (dss_one (ds_ret trivial de_non)) dss_nil) (dss_one (ds_ret trivial (de_ty bt_int b_int (by rfl) fc.f_int (da_cons (v_ 0) da_nil))))))
abbrev N_law_number_in : List Str := ["word", "k"]
theorem c_law_number_in : FnScope N_law_number_in ["word"] (defScope s_law_number_in) := ⟨rfl, rfl, rfl, by decide +kernel, rfl, by decide +kernel, by decide +kernel⟩
theorem g_law_number_in (fc : Fc K mg) : Ok prog w K mg 1 "_law_number_in" false false F_law_number_in := by
  intro base
  obtain ⟨fd, F⟩ := fc.d__law_number_in
  refine fnG_of (ps := ["word"]) (N := N_law_number_in) (O := []) (O' := []) F c_law_number_in (F.bindsN fun _ _ _ _ _ _ us hl => match us, hl with | [_], _ => rfl) .nil (fun _ _ => .nil) (by decide) (by decide) (by decide) fun cdv A outer s H E A0 q hio hr hg => ?_
  obtain rfl : q = none := by cases q with
    | none => rfl
    | some _ => cases hio
  have hu := Room.u64 hr
  have hv := Room.u65 hr
  exact (dss_one (ds_ret trivial (de_if (dt_cmp (od_in hv) (v_ 0) (DF.toE (df_lc (by rfl) c_law_number_in.nd (by rfl) (di_range1 (by rfl) fc.f_range (da_cons de_int da_nil)) (blkOk_by (own := [("k", 1)]) (by kernel_rfl)) (fun _ _ _ _ _ => (dg_name rfl rfl c_law_number_in.nd rfl (Or.inl rfl))) (fun _ _ _ _ _ => pts_nil) tYes_go (fun _ _ _ _ _ => (de_ty bt_str (b_str hg hu) (by rfl) fc.f_str (da_cons (v_ 1) da_nil))))) (pm _ _)) (de_ty bt_int b_int (by rfl) fc.f_int (da_cons (v_ 0) da_nil)) de_non)))
abbrev Ninteger_in : List Str := ["text", "figures", "figure"]
theorem cinteger_in : FnScope Ninteger_in ["text"] (defScope sinteger_in) := ⟨rfl, rfl, rfl, by decide +kernel, rfl, by decide +kernel, by decide +kernel⟩
theorem ginteger_in (fc : Fc K mg) : Ok prog w K mg 1 "integer_in" false false Finteger_in := by
  intro base
  obtain ⟨fd, F⟩ := fc.d_integer_in
  refine fnG_of (ps := ["text"]) (N := Ninteger_in) (O := []) (O' := []) F cinteger_in (F.bindsN fun _ _ _ _ _ _ us hl => match us, hl with | [_], _ => rfl) .nil (fun _ _ => .nil) (by decide) (by decide) (by decide) fun cdv A outer s H E A0 q hio hr hg => ?_
  obtain rfl : q = none := by cases q with
    | none => rfl
    | some _ => cases hio
  have hu := Room.u64 hr
  have hv := Room.u65 hr
  exact (dss_cons (ds_asg (vs := [1]) trivial (de_if (dt_cmp (od_eq hu) (de_sl (db_e (v_ 0)) dp_no (dp_e de_int)) de_str (pm _ _)) (de_sl (db_e (v_ 0)) (dp_e de_int) dp_no) (v_ 0)) (dg_name rfl rfl cinteger_in.nd rfl (Or.inl rfl))) (dss_cons (ds_if trivial (DW.t (dw_or (dt_not (dt_chain od_le od_le de_int (de_b bt_len b_len (by rfl) fc.f_len (da_cons (v_ 1) da_nil)) (gi_ fc.c_MOST_FIGURES))) (dw_or1 (dt_not (dt_tru (de_b bt_all (b_all (by rfl)) (by rfl) fc.f_all (da_cons (DF.toE (df_lc (by rfl) cinteger_in.nd (by rfl) (di_seq (v_ 1)) (blkOk_by (own := [("figure", 2)]) (by kernel_rfl)) (fun _ _ _ _ _ => (dg_name rfl rfl cinteger_in.nd rfl (Or.inl rfl))) (fun _ _ _ _ _ => pts_nil) tYes_go (fun _ _ _ _ _ => (de_cmp (od_in hv) (v_ 2) (gs_ fc.c_FIGURES) (pm _ _))))) da_nil))))))) (dss_one (ds_ret trivial de_non)) dss_nil) (dss_cons (ds_if trivial (dt_cmp (od_ne hu) (de_ty bt_str (b_str hg hu) (by rfl) fc.f_str (da_cons (de_ty bt_int b_int (by rfl) fc.f_int (da_cons (v_ 0) da_nil)) da_nil)) (v_ 0) (pm _ _)) (dss_one (ds_ret trivial de_non)) dss_nil) (dss_one (ds_ret trivial (de_ty bt_int b_int (by rfl) fc.f_int (da_cons (v_ 0) da_nil)))))))
abbrev Nintegers_in : List Str := ["word", "found", "piece", "a"]
theorem cintegers_in : FnScope Nintegers_in ["word"] (defScope sintegers_in) := ⟨rfl, rfl, rfl, by decide +kernel, rfl, by decide +kernel, by decide +kernel⟩
theorem gintegers_in (fc : Fc K mg) : Ok prog w K mg 2 "integers_in" false false Fintegers_in := by
  intro base
  obtain ⟨fd, F⟩ := fc.d_integers_in
  refine fnG_of (ps := ["word"]) (N := Nintegers_in) (O := []) (O' := []) F cintegers_in (F.bindsN fun _ _ _ _ _ _ us hl => match us, hl with | [_], _ => rfl) .nil (fun _ _ => .nil) (by decide) (by decide) (by decide) fun cdv A outer s H E A0 q hio hr hg => ?_
  obtain rfl : q = none := by cases q with
    | none => rfl
    | some _ => cases hio
  have hu := Room.u64 hr
  have hv := Room.u65 hr
  exact (dss_cons (ds_setLc trivial rfl rfl cintegers_in.nd rfl rfl (sw_true rfl rfl rfl (by kernel_rfl)) (by rfl) (di_seq (de_sm PySem.F.slot_str_split PySem.F.type_str_split mt_splitD (v_ 0) (da_cons de_str da_nil))) (blkOk_by (own := [("piece", 2)]) (by kernel_rfl)) (fun _ _ _ _ _ => (dg_name rfl rfl cintegers_in.nd rfl (Or.inl rfl))) (fun _ _ _ _ _ => pts_nil) tYes_go (fun _ _ _ _ _ => (de_call (ginteger_in fc _) (hr.mono (by decide)) hg (takes0 (by rfl)) (by rfl) fc.g_integer_in (da_cons (v_ 2) da_nil)))) (dss_cons (ds_if trivial (dt_tru (de_b bt_any (b_any (by rfl)) (by rfl) fc.f_any (da_cons (DF.toE (df_lc (by rfl) cintegers_in.nd (by rfl) (di_seq (v_ 1)) (blkOk_by (own := [("a", 3)]) (by kernel_rfl)) (fun _ _ _ _ _ => (dg_name rfl rfl cintegers_in.nd rfl (Or.inl rfl))) (fun _ _ _ _ _ => pts_nil) tYes_go (fun _ _ _ _ _ => (de_cmp od_is (v_ 3) de_non (pm _ _))))) da_nil))) (dss_one (ds_ret trivial de_non)) dss_nil) (dss_one (ds_ret trivial (v_ 1)))))
abbrev N_law_integer_in : List Str := ["text", "figures", "figure"]
theorem c_law_integer_in : FnScope N_law_integer_in ["text"] (defScope s_law_integer_in) := ⟨rfl, rfl, rfl, by decide +kernel, rfl, by decide +kernel, by decide +kernel⟩
theorem g_law_integer_in (fc : Fc K mg) : Ok prog w K mg 1 "_law_integer_in" false false F_law_integer_in := by
  intro base
  obtain ⟨fd, F⟩ := fc.d__law_integer_in
  refine fnG_of (ps := ["text"]) (N := N_law_integer_in) (O := []) (O' := []) F c_law_integer_in (F.bindsN fun _ _ _ _ _ _ us hl => match us, hl with | [_], _ => rfl) .nil (fun _ _ => .nil) (by decide) (by decide) (by decide) fun cdv A outer s H E A0 q hio hr hg => ?_
  obtain rfl : q = none := by cases q with
    | none => rfl
    | some _ => cases hio
  have hu := Room.u64 hr
  have hv := Room.u65 hr
  exact (dss_cons (ds_asg (vs := [1]) trivial (de_if (dt_cmp (od_eq hu) (de_sl (db_e (v_ 0)) dp_no (dp_e de_int)) de_str (pm _ _)) (de_sl (db_e (v_ 0)) (dp_e de_int) dp_no) (v_ 0)) (dg_name rfl rfl c_law_integer_in.nd rfl (Or.inl rfl))) (dss_cons (ds_if trivial (DW.t (dw_or (dt_cmp (od_eq hu) (v_ 1) de_str (pm _ _)) (dw_or (dt_cmp od_gt (de_b bt_len b_len (by rfl) fc.f_len (da_cons (v_ 1) da_nil)) de_int (pm _ _)) (dw_or1 (dt_not (dt_tru (de_b bt_all (b_all (by rfl)) (by rfl) fc.f_all (da_cons (DF.toE (df_lc (by rfl) c_law_integer_in.nd (by rfl) (di_seq (v_ 1)) (blkOk_by (own := [("figure", 2)]) (by kernel_rfl)) (fun _ _ _ _ _ => (dg_name rfl rfl c_law_integer_in.nd rfl (Or.inl rfl))) (fun _ _ _ _ _ => pts_nil) tYes_go (fun _ _ _ _ _ => (de_cmp (od_in hv) (v_ 2) de_str (pm _ _))))) da_nil)))))))) (dss_one (ds_ret trivial de_non)) dss_nil) (dss_cons (ds_if trivial (DW.t (dw_and (dt_cmp (od_eq hu) (de_ix ix_d (v_ 1) de_int (fun _ _ => rfl)) de_str (pm _ _)) (dw_and1 (dt_cmp (od_ne hu) (v_ 0) de_str (pm _ _))))) (dss_one (ds_ret trivial de_non)) dss_nil) (dss_one (ds_ret trivial (de_ty bt_int b_int (by rfl) fc.f_int (da_cons (v_ 0) da_nil)))))))
abbrev N_law_integers_in : List Str := ["word", "found", "piece"]
theorem c_law_integers_in : FnScope N_law_integers_in ["word"] (defScope s_law_integers_in) := ⟨rfl, rfl, rfl, by decide +kernel, rfl, by decide +kernel, by decide +kernel⟩
theorem g_law_integers_in (fc : Fc K mg) : Ok prog w K mg 2 "_law_integers_in" false false F_law_integers_in := by
  intro base
  obtain ⟨fd, F⟩ := fc.d__law_integers_in
  refine fnG_of (ps := ["word"]) (N := N_law_integers_in) (O := []) (O' := []) F c_law_integers_in (F.bindsN fun _ _ _ _ _ _ us hl => match us, hl with | [_], _ => rfl) .nil (fun _ _ => .nil) (by decide) (by decide) (by decide) fun cdv A outer s H E A0 q hio hr hg => ?_
  obtain rfl : q = none := by cases q with
    | none => rfl
    | some _ => cases hio
  have hu := Room.u64 hr
  have hv := Room.u65 hr
  exact (dss_cons (ds_setLc trivial rfl rfl c_law_integers_in.nd rfl rfl (sw_true rfl rfl rfl (by kernel_rfl)) (by rfl) (di_seq (de_sm PySem.F.slot_str_split PySem.F.type_str_split mt_splitD (v_ 0) (da_cons de_str da_nil))) (blkOk_by (own := [("piece", 2)]) (by kernel_rfl)) (fun _ _ _ _ _ => (dg_name rfl rfl c_law_integers_in.nd rfl (Or.inl rfl))) (fun _ _ _ _ _ => pts_nil) tYes_go (fun _ _ _ _ _ => (de_call (g_law_integer_in fc _) (hr.mono (by decide)) hg (takes0 (by rfl)) (by rfl) fc.g__law_integer_in (da_cons (v_ 2) da_nil)))) (dss_one (ds_ret trivial (de_if (dt_cmp (od_in hv) de_non (v_ 1) (pm _ _)) de_non (v_ 1)))))
abbrev Nlaw : List Str := ["script", "draws", "line", "words", "word", "plain", "text", "letters", "k", "figure", "row", "spoilt", "long"]
theorem claw : FnScope Nlaw ["script"] (defScope slaw) := ⟨rfl, rfl, rfl, by decide +kernel, rfl, by decide +kernel, by decide +kernel⟩
theorem glaw (fc : Fc K mg) : Ok prog w K mg 3 "law" false false Flaw := by
  intro base
  obtain ⟨fd, F⟩ := fc.d_law
  refine fnG_of (ps := ["script"]) (N := Nlaw) (O := []) (O' := []) F claw (F.bindsN fun _ _ _ _ _ _ us hl => match us, hl with | [_], _ => rfl) .nil (fun _ _ => .nil) (by decide) (by decide) (by decide) fun cdv A outer s H E A0 q hio hr hg => ?_
  obtain rfl : q = none := by cases q with
    | none => rfl
    | some _ => cases hio
  have hu := Room.u64 hr
  have hv := Room.u65 hr
  exact (dss_forgetO 1 (.inl (by decide)) (dss_cons (ds_own trivial (df_call (g_law_draws fc _) (hr.mono (by decide)) hg cx_tk (by rfl) fc.g__law_draws (da_cons (v_ 0) da_nil)) rfl (.inl (by decide)) claw.nd rfl (Or.inr rfl)) (dss_cons (ds_expr trivial (de_om0 om_reverse PySem.F.slot_list_reverse PySem.F.type_list_reverse (by rfl) (pv 1))) (dss_cons (ds_asg (vs := [2]) trivial (de_callio (g_law_line fc _) (hr.mono (by decide)) hg cx_tk (by rfl) fc.g__law_line (by rfl) (pv 1) da_nil) (dg_name rfl rfl claw.nd rfl (Or.inl rfl))) (dss_cons (ds_setLc1 trivial rfl rfl claw.nd rfl rfl (sw_true rfl rfl rfl (by kernel_rfl)) (by rfl) (di_seq (de_sm PySem.F.slot_str_split PySem.F.type_str_split mt_splitD (v_ 2) (da_cons de_str da_nil))) (blkOk_by (own := [("word", 4)]) (by kernel_rfl)) (fun _ _ _ _ _ => (dg_name rfl rfl claw.nd rfl (Or.inl rfl))) (fun _ _ _ _ _ => (dt_cmp (od_ne hu) (v_ 4) de_str (pm _ _)))  (fun _ _ _ _ _ => (v_ 4))) (dss_cons (ds_asg (vs := [5]) trivial (de_sm PySem.F.slot_str_join PySem.F.type_str_join mt_joinD de_str (da_cons (v_ 3) da_nil)) (dg_name rfl rfl claw.nd rfl (Or.inl rfl))) (dss_cons (ds_for (vs := [6]) trivial cx_pw rfl (di_seq (DF.toE (df_lst (da_cons (v_ 2) (da_cons (v_ 5) (da_consT (de1_bin od_add (v_ 5)) (dat_cons (det_of (de_bin od_add de_str (v_ 5))) (dat_cons (det_repl (by decide) (v_ 5)) (dat_cons (det_of de_str) (dat_cons (det_of de_str) (dat_cons (det_of de_str) (dat_cons (det_of (de_bin od_add (v_ 5) de_str)) (dat_of da_nil))))))))))))) (dg_name rfl rfl claw.nd rfl (Or.inl rfl)) (dss_one (ds_if trivial (dt_cmp (od_ne hu) (de_b bt_repr (b_repr hg hu) (by rfl) fc.f_repr (da_cons (de_call (gwords_of fc _) (hr.mono (by decide)) hg cx_tk (by rfl) fc.g_words_of (da_cons (v_ 6) da_nil)) da_nil)) (de_b bt_repr (b_repr hg hu) (by rfl) fc.f_repr (da_cons (de_call (g_law_words fc _) (hr.mono (by decide)) hg cx_tk (by rfl) fc.g__law_words (da_cons (v_ 6) da_nil)) da_nil)) (pm _ _)) (dss_one (ds_ret trivial de_bl)) dss_nil))) (dss_cons (ds_asg (vs := [7]) trivial (de_sm PySem.F.slot_str_join PySem.F.type_str_join mt_joinD de_str (da_cons (DF.toE (df_lc (by rfl) claw.nd (by rfl) (di_range1 (by rfl) fc.f_range (da_cons (de_bin od_mod (de_ty bt_int b_int (by rfl) fc.f_int (da_cons (de_callio (g_law_next fc _) (hr.mono (by decide)) hg cx_tk (by rfl) fc.g__law_next (by rfl) (pv 1) da_nil) da_nil)) de_int) da_nil)) (blkOk_by (own := [("k", 8)]) (by kernel_rfl)) (fun _ _ _ _ _ => (dg_name rfl rfl claw.nd rfl (Or.inl rfl))) (fun _ _ _ _ _ => pts_nil) tYes_go (fun _ _ _ _ _ => (de_ix ix_d de_str (de_bin od_mod (de_ty bt_int b_int (by rfl) fc.f_int (da_cons (de_callio (g_law_next fc _) (hr.mono (by decide)) hg (takes0 (by rfl)) (by rfl) fc.g__law_next (by rfl) (pv 1) da_nil) da_nil)) de_int) (fun _ _ => rfl))))) da_nil)) (dg_name rfl rfl claw.nd rfl (Or.inl rfl))) (dss_cons (ds_for (vs := [4]) trivial cx_pw rfl (di_seq (de_bin od_add (v_ 3) (DF.toE (df_lst (da_cons (v_ 7) (da_cons (de_bin od_add (v_ 7) de_str) (da_cons (de_bin od_mulS de_str de_int) (da_cons (de_bin od_mulS de_str de_int) (da_cons de_str (da_cons de_str (da_cons de_str da_nil))))))))))) (dg_name rfl rfl claw.nd rfl (Or.inl rfl)) (dss_one (ds_if trivial (dt_cmp (od_ne hu) (de_b bt_repr (b_repr hg hu) (by rfl) fc.f_repr (da_cons (de_call (gis_name fc _) (hr.mono (by decide)) hg cx_tk (by rfl) fc.g_is_name (da_cons (v_ 4) da_nil)) da_nil)) (de_b bt_repr (b_repr hg hu) (by rfl) fc.f_repr (da_cons (de_call (g_law_is_name fc _) (hr.mono (by decide)) hg cx_tk (by rfl) fc.g__law_is_name (da_cons (v_ 4) da_nil)) da_nil)) (pm _ _)) (dss_one (ds_ret trivial de_bl)) dss_nil))) (dss_cons (ds_asg (vs := [9]) trivial (de_ty bt_str (b_str hg hu) (by rfl) fc.f_str (da_cons (de_bin od_mod (de_ty bt_int b_int (by rfl) fc.f_int (da_cons (de_callio (g_law_next fc _) (hr.mono (by decide)) hg cx_tk (by rfl) fc.g__law_next (by rfl) (pv 1) da_nil) da_nil)) de_int) da_nil)) (dg_name rfl rfl claw.nd rfl (Or.inl rfl))) (dss_cons (ds_for (vs := [4]) trivial cx_pw rfl (di_seq (de_bin od_add (v_ 3) (DF.toE (df_lst (da_cons (v_ 9) (da_cons (de_bin od_add de_str (v_ 9)) (da_cons (de_bin od_add de_str (v_ 9)) (da_cons de_str (da_cons de_str (da_cons de_str (da_cons de_str (da_cons de_str (da_cons de_str (da_cons de_str da_nil)))))))))))))) (dg_name rfl rfl claw.nd rfl (Or.inl rfl)) (dss_one (ds_if trivial (dt_cmp (od_ne hu) (de_b bt_repr (b_repr hg hu) (by rfl) fc.f_repr (da_cons (de_call (gnumber_in fc _) (hr.mono (by decide)) hg cx_tk (by rfl) fc.g_number_in (da_cons (v_ 4) da_nil)) da_nil)) (de_b bt_repr (b_repr hg hu) (by rfl) fc.f_repr (da_cons (de_call (g_law_number_in fc _) (hr.mono (by decide)) hg cx_tk (by rfl) fc.g__law_number_in (da_cons (v_ 4) da_nil)) da_nil)) (pm _ _)) (dss_one (ds_ret trivial de_bl)) dss_nil))) (dss_cons (ds_asg (vs := [10]) trivial (de_callio (g_law_row_word fc _) (hr.mono (by decide)) hg cx_tk (by rfl) fc.g__law_row_word (by rfl) (pv 1) da_nil) (dg_name rfl rfl claw.nd rfl (Or.inl rfl))) (dss_cons (ds_asg (vs := [11]) trivial (de_callio (g_law_spoilt fc _) (hr.mono (by decide)) hg cx_tk (by rfl) fc.g__law_spoilt (by rfl) (pv 1) (da_cons (v_ 10) da_nil)) (dg_name rfl rfl claw.nd rfl (Or.inl rfl))) (dss_cons (ds_asg (vs := [12]) trivial (de_bin od_mulS de_str de_int) (dg_name rfl rfl claw.nd rfl (Or.inl rfl))) (dss_cons (ds_for (vs := [4]) trivial cx_pw rfl (di_seq (de_bin od_add (v_ 3) (DF.toE (df_lst (da_cons (v_ 10) (da_cons (v_ 11) (da_cons (de_callio (g_law_spoilt fc _) (hr.mono (by decide)) hg cx_tk (by rfl) fc.g__law_spoilt (by rfl) (pv 1) (da_cons (v_ 11) da_nil)) (da_cons (de_bin od_add (v_ 10) de_str) (da_cons (de_bin od_add de_str (v_ 10)) (da_cons de_str (da_cons de_str (da_cons de_str (da_cons de_str (da_cons (v_ 12) (da_cons (de_bin od_add de_str (v_ 12)) (da_cons (de_bin od_add de_str (v_ 12)) da_nil)))))))))))))))) (dg_name rfl rfl claw.nd rfl (Or.inl rfl)) (dss_one (ds_if trivial (dt_cmp (od_ne hu) (de_b bt_repr (b_repr hg hu) (by rfl) fc.f_repr (da_cons (de_call (gintegers_in fc _) (hr.mono (by decide)) hg cx_tk (by rfl) fc.g_integers_in (da_cons (v_ 4) da_nil)) da_nil)) (de_b bt_repr (b_repr hg hu) (by rfl) fc.f_repr (da_cons (de_call (g_law_integers_in fc _) (hr.mono (by decide)) hg cx_tk (by rfl) fc.g__law_integers_in (da_cons (v_ 4) da_nil)) da_nil)) (pm _ _)) (dss_one (ds_ret trivial de_bl)) dss_nil))) (dss_one (ds_ret trivial de_bl)))))))))))))))))
end
end K93
namespace DL
open L2 PySem PySem.Spec PyProof.Rows
theorem lc_map {i : Nat} {me : ME} {f : D → D} {ρ0 : En} (hi : i < ρ0.length) : ∀ (ds : List D) (ρ : En), (∀ d ∈ ds, me (ρ0.set i (some d)) = .ok (f d) (ρ0.set i (some d))) → ρ.set i none = ρ0.set i none →
    ∃ ρ', lcLoop [i] (mgName i) mYes me ds ρ = .ok (ds.map f) ρ' ∧ ρ'.set i none = ρ0.set i none
  | [], ρ, _, e => ⟨ρ, rfl, e⟩
  | d :: r, ρ, h, e => by
    have hl : (ρ.set i none).length = ρ0.length := by rw [e, List.length_set]
    have g1 : mgName i d (ρ.set i none) = .ok () (ρ0.set i (some d)) := by
      rw [mgName_ap, if_pos (by rw [hl]; exact hi), e, List.set_set]
    obtain ⟨ρ', e1, e2⟩ := lc_map hi r (ρ0.set i (some d)) (fun z hz => h z (List.mem_cons_of_mem _ hz)) (by rw [List.set_set])
    refine ⟨ρ', ?_, e2⟩
    have w : wipeE ρ [i] = ρ.set i none := rfl
    have hY : mYes (ρ0.set i (some d)) = .ok true (ρ0.set i (some d)) := rfl
    simp only [lcLoop, w, g1, hY, h d List.mem_cons_self, e1, List.map_cons]
theorem mLc_map {i : Nat} {mi : En → R (List D)} {me : ME} {f : D → D} {ρ0 : En} {ds : List D} (hi : i < ρ0.length) (hm : mi ρ0 = .ok ds ρ0) (hz : ds.length ≤ sizeLine) (h : ∀ d ∈ ds, me (ρ0.set i (some d)) = .ok (f d) (ρ0.set i (some d))) :
    mLc [i] mi (mgName i) mYes me ρ0 = .ok (.lst (ds.map f)) ρ0 := by
  obtain ⟨ρ', e1, e2⟩ := lc_map hi ds ρ0 h rfl
  have r : restE ρ0 [i] ρ' = ρ0 := by
    show ρ'.set i (match ρ0[i]? with | some o => o | none => none) = ρ0
    rw [List.getElem?_eq_getElem hi]
    show ρ'.set i ρ0[i] = ρ0
    have : ρ'.set i ρ0[i] = (ρ'.set i none).set i ρ0[i] := by rw [List.set_set]
    rw [this, e2, List.set_set, List.set_getElem_self]
  rw [mLc_ap, hm, bind_ok, e1]
  show (if (ds.map f).length ≤ sizeLine then R.ok (D.lst (ds.map f)) (restE ρ0 [i] ρ') else R.bad) = _
  rw [if_pos (by rw [List.length_map]; exact hz), r]
abbrev S := SX.S
abbrev sD (l : List Nat) : D := .str (S l)
theorem S_inj {a b : List Nat} (h : S a = S b) : a = b := by
  have := congrArg (fun x : Str => x.cps.toList) h
  simpa [S, SX.S] using this
theorem S_of (x : Str) : x = S x.cps.toList := by
  cases x with
  | mk c => rfl
theorem chars_S (l : List Nat) : chars (S l) = l.map fun c => sD [c] := rfl
theorem S_len (l : List Nat) : (S l).length = l.length := by simp [S, SX.S, Str.length]
theorem S_app (a b : List Nat) : S a ++ S b = S (a ++ b) := by
  refine TL.ext_tl ?_
  rw [TL.tl_append]
theorem lt1 (c d : Nat) : decide ((S [c]).cps.toList < (S [d]).cps.toList) = decide (c < d) := by
  rw [decide_eq_decide]
  show [c] < [d] ↔ c < d
  constructor
  · intro h
    rcases List.cons_lt_cons_iff.mp h with h | ⟨_, h⟩
    · exact h
    · exact absurd h (by simp)
  · intro h
    exact List.cons_lt_cons_iff.mpr (.inl h)
theorem gLe_1 (c d : Nat) : gLe (sD [c]) (sD [d]) = some (.bl (decide (c ≤ d))) := by
  show some (D.bl (!decide ((S [d]).cps.toList < (S [c]).cps.toList))) = _
  rw [lt1]
  by_cases h : d < c
  · rw [decide_eq_true h, decide_eq_false (by omega)]; rfl
  · rw [decide_eq_false h, decide_eq_true (by omega)]; rfl
theorem gEq_S (a b : List Nat) : gEq (sD a) (sD b) = some (.bl (decide (a = b))) := by
  show some (D.bl (decide (S a = S b))) = _
  congr 2
  rw [decide_eq_decide]
  exact ⟨S_inj, fun h => by rw [h]⟩
theorem gNe_S (a b : List Nat) : gNe (sD a) (sD b) = some (.bl (!decide (a = b))) := by
  show some (D.bl (!decide (S a = S b))) = _
  congr 3
  rw [decide_eq_decide]
  exact ⟨S_inj, fun h => by rw [h]⟩
theorem in_one (c : Nat) (a : List Nat) : gIn (sD [c]) (sD a) = some (.bl (decide (c ∈ a))) := by
  show some (D.bl (inStr (S [c]) (S a))) = _
  have := SX.in_one a c
  unfold inStr
  rw [show (!(Builtin.Str.occurrences (S a) (S [c]) 0 (S a).length 1).isEmpty) = decide (c ∈ a) from this]
abbrev digs (l : List Nat) : Bool := l.all fun c => decide (48 ≤ c) && decide (c ≤ 57)
theorem snoc_ind {P : List Nat → Prop} (nil : P []) (append_singleton : ∀ l c, P l → P (l ++ [c])) (l : List Nat) : P l := by
  have z : ∀ n (l : List Nat), l.length = n → P l := by
    intro n
    induction n with
    | zero =>
      intro l h
      rw [List.length_eq_zero_iff.mp h]
      exact nil
    | succ n ih =>
      intro l h
      rcases List.eq_nil_or_concat l with e | ⟨r, c, e⟩
      · rw [e]; exact nil
      · rw [e, List.concat_eq_append] at h ⊢
        exact append_singleton r c (ih r (by simpa using h))
  exact z _ l rfl
theorem digs_all {l : List Nat} (h : digs l = true) : NumText.AllDigits l := fun c hc => by
  have z := List.all_eq_true.mp h c hc
  simpa using z
theorem val_snoc (l : List Nat) (c : Nat) : NumText.digitsVal (l ++ [c]) = NumText.digitsVal l * 10 + (c - 48) := by
  unfold NumText.digitsVal
  rw [List.foldl_append]
  rfl
theorem val_lt : ∀ {l : List Nat}, NumText.AllDigits l → NumText.digitsVal l < 10 ^ l.length := by
  intro l
  induction l using snoc_ind with
  | nil => intro _; decide
  | append_singleton l c ih =>
    intro h
    have h1 := ih fun d hd => h d (List.mem_append_left _ hd)
    have h2 := h c (List.mem_append_right _ List.mem_cons_self)
    rw [val_snoc, List.length_append, List.length_singleton, Nat.pow_succ]
    omega
theorem val_pos : ∀ {l : List Nat}, NumText.AllDigits l → l ≠ [] → l.head? ≠ some 48 → 0 < NumText.digitsVal l := by
  intro l
  induction l using snoc_ind with
  | nil => intro _ h; exact absurd rfl h
  | append_singleton l c ih =>
    intro h _ hd
    rw [val_snoc]
    by_cases e : l = []
    · subst e
      have h2 := h c (List.mem_append_right _ List.mem_cons_self)
      have : c ≠ 48 := fun z => hd (by rw [z]; rfl)
      omega
    · have := ih (fun d hd => h d (List.mem_append_left _ hd)) e (fun z => hd (by
        cases l with
        | nil => exact absurd rfl e
        | cons a r => simpa using z))
      omega
theorem num_back : ∀ {l : List Nat}, NumText.AllDigits l → l ≠ [] → l.head? ≠ some 48 → TL.numL (NumText.digitsVal l) = l := by
  intro l
  induction l using snoc_ind with
  | nil => intro _ h; exact absurd rfl h
  | append_singleton l c ih =>
    intro h _ hd
    have h2 := h c (List.mem_append_right _ List.mem_cons_self)
    rw [val_snoc]
    by_cases e : l = []
    · subst e
      have : NumText.digitsVal [] = 0 := rfl
      rw [this, TL.numL_lt (by omega)]
      have : 48 + (0 * 10 + (c - 48)) = c := by omega
      rw [this]
      rfl
    · have hd' : l.head? ≠ some 48 := fun z => hd (by
        cases l with
        | nil => exact absurd rfl e
        | cons a r => simpa using z)
      have hA : NumText.AllDigits l := fun d hd => h d (List.mem_append_left _ hd)
      have p := val_pos hA e hd'
      rw [TL.numL_step (by omega)]
      have e1 : (NumText.digitsVal l * 10 + (c - 48)) / 10 = NumText.digitsVal l := by omega
      have e2 : 48 + (NumText.digitsVal l * 10 + (c - 48)) % 10 = c := by omega
      rw [e1, e2, ih hA e hd']
theorem num_head (n : Nat) (h : 0 < n) : (TL.numL n).head? ≠ some 48 := by
  induction n using Nat.strongRecOn with
  | _ n ih =>
    by_cases c : n < 10
    · rw [TL.numL_lt c]
      simp
      omega
    · rw [TL.numL_step (by omega)]
      have := ih (n / 10) (by omega) (by omega)
      have ne := TL.numL_ne (n / 10)
      cases e : TL.numL (n / 10) with
      | nil => exact absurd e ne
      | cons a r => rw [e] at this; simpa using this
theorem num_canon {l : List Nat} (h : NumText.AllDigits l) (hne : l ≠ []) : TL.numL (NumText.digitsVal l) = l ↔ (l.head? ≠ some 48 ∨ l = [48]) := by
  constructor
  · intro e
    by_cases z : NumText.digitsVal l = 0
    · rw [z, TL.numL_lt (by decide)] at e
      exact .inr e.symm
    · exact .inl (by rw [← e]; exact num_head _ (by omega))
  · rintro (z | z)
    · exact num_back h hne z
    · subst z; rfl
theorem neg_text {n : Nat} (h : 0 < n) : Str.ofString (toString (-(n : Int))) = S (45 :: TL.numL n) := by
  obtain ⟨m, rfl⟩ : ∃ m, n = m + 1 := ⟨n - 1, by omega⟩
  have e : toString (-((m + 1 : Nat) : Int)) = "-" ++ toString ((m + 1 : Nat) : Int) := by
    show toString (Int.negSucc m) = _
    rfl
  refine TL.ext_tl ?_
  rw [e, TL.tl_ofString]
  have e2 := TL.tl_num (m + 1)
  rw [TL.tl_ofString] at e2
  rw [String.toList_append, List.map_append, e2]
  rfl
end DL
namespace DL
open L2 PySem PySem.Spec PyProof.Rows
@[simp] theorem mChain_ap (g g' : D → D → Option D) (a b c : ME) (ρ : En) : mChain g g' a b c ρ = (a ρ).bind fun x ρ1 => (b ρ1).bind fun y ρ2 => (ret (g x y) ρ2).bind fun k ρ3 => match k with
  | .bl true => (c ρ3).bind fun z ρ4 => ret (g' y z) ρ4
  | .bl false => .ok (.bl false) ρ3
  | _ => .bad := rfl
@[simp] theorem mM_ap (g : D → List D → Option D) (o : ME) (args : MA) (ρ : En) : mM g o args ρ = (o ρ).bind fun x ρ1 => if isStr x = true then (args ρ1).bind fun xs ρ2 => ret (g x xs) ρ2 else .bad := rfl
theorem allc {i : Nat} {mi : En → R (List D)} {me : ME} {p : Nat → Bool} {ρ0 : En} {w : List Nat} (hi : i < ρ0.length) (hm : mi ρ0 = .ok (chars (S w)) ρ0) (hz : w.length ≤ sizeLine) (h : ∀ c, me (ρ0.set i (some (sD [c]))) = .ok (.bl (p c)) (ρ0.set i (some (sD [c])))) :
    mN gAll (mCons (mLc [i] mi (mgName i) mYes me) mNil) ρ0 = .ok (.bl (w.all p)) ρ0 := by
  let f : D → D := fun d => match d with
    | .str z => .bl (p (z.cps.toList.headD 0))
    | _ => .non
  have e : (chars (S w)).map f = (w.map p).map D.bl := by
    rw [chars_S, List.map_map, List.map_map]
    rfl
  have l := mLc_map (f := f) hi hm (by rw [chars_S, List.length_map]; exact hz) (fun d hd => by
    rw [chars_S] at hd
    obtain ⟨c, _, rfl⟩ := List.mem_map.mp hd
    exact h c)
  rw [mN_ap, mCons_ap, l, bind_ok, mNil_ap, bind_ok, bind_ok]
  have g : gAll [.lst ((chars (S w)).map f)] = some (.bl (w.all p)) := by
    rw [e]
    show (asBls ((w.map p).map D.bl)).map (fun bs => D.bl (bs.all id)) = _
    rw [asBls_map]
    show some (D.bl ((w.map p).all id)) = _
    rw [List.all_map]
    rfl
  rw [g, ret_some]
end DL
namespace K93
open DL L2 PySem PySem.Spec PyProof.Rows
theorem l_sp : D.str " " = sD [32] := rfl
theorem l_em : D.str "" = sD [] := rfl
theorem l_lo : D.str "!" = sD [33] := rfl
theorem l_hi : D.str "~" = sD [126] := rfl
theorem e_draws : F_law_draws = qDraws := rfl
theorem e_next : F_law_next = qNext := rfl
def okC (c : Nat) : Bool := decide (33 ≤ c) && decide (c ≤ 126)
def okW (w : List Nat) : Bool := !w.isEmpty && w.all okC
theorem chain_okC {a b x : ME} {ρ : En} {c : Nat} (ha : a ρ = .ok (sD [33]) ρ) (hb : b ρ = .ok (sD [c]) ρ) (hx : x ρ = .ok (sD [126]) ρ) : mChain gLe gLe a b x ρ = .ok (.bl (okC c)) ρ := by
  rw [mChain_ap, ha, bind_ok, hb, bind_ok, gLe_1, ret_some, bind_ok]
  by_cases h : 33 ≤ c
  · rw [decide_eq_true h]
    show (x ρ).bind _ = _
    rw [hx, bind_ok, gLe_1, ret_some]
    unfold okC
    rw [decide_eq_true h, Bool.true_and]
  · rw [decide_eq_false h]
    unfold okC
    rw [decide_eq_false h, Bool.false_and]
def wBody : MS := (msIf (mOrT (mTest (m2 gEq (mVar 2) (mK (.str "")))) (mNotT (mTru (mN gAll (mCons (mLc [3] (mIter (mVar 2)) (mgName 3) mYes (mChain gLe gLe (mK (.str "!")) (mVar 3) (mK (.str "~")))) mNil))))) (msRet (mK .non)) msNil)
theorem wBody_v (L W : D) (w : List Nat) (o3 : Option D) (hz : w.length ≤ sizeLine) : wBody [some L, some W, some (sD w), o3] = if okW w = true then .nx [some L, some W, some (sD w), o3] else .rt .non [some L, some W, some (sD w), o3] := by
  have ha := allc (i := 3) (ρ0 := [some L, some W, some (sD w), o3]) (w := w) (p := okC) (mi := mIter (mVar 2)) (me := mChain gLe gLe (mK (.str "!")) (mVar 3) (mK (.str "~"))) (by simp) rfl hz fun c => chain_okC rfl rfl rfl
  have he := gEq_S w []
  have hn : decide (w = []) = w.isEmpty := by cases w <;> rfl
  rw [hn] at he
  unfold okW
  cases h1 : w.isEmpty with
  | true =>
    rw [h1] at he
    simp -implicitDefEqProofs [wBody, l_em, he, -mN_ap, -gEq_ss]
  | false =>
    rw [h1] at he
    cases h2 : w.all okC with
    | true =>
      rw [h2] at ha
      simp -implicitDefEqProofs [wBody, l_em, he, ha, -mN_ap, -gEq_ss]
    | false =>
      rw [h2] at ha
      simp -implicitDefEqProofs [wBody, l_em, he, ha, -mN_ap, -gEq_ss]
theorem wLoop (L W : D) (o3 : Option D) : ∀ (ws : List (List Nat)) (o2 : Option D), (∀ w ∈ ws, w.length ≤ sizeLine) → ∃ o2', loopL (mgName 2) wBody (ws.map sD) [some L, some W, o2, o3] = if ws.all okW = true then .nx [some L, some W, o2', o3] else .rt .non [some L, some W, o2', o3]
  | [], o2, _ => ⟨o2, rfl⟩
  | w :: r, o2, h => by
    have hb := wBody_v L W w o3 (h w List.mem_cons_self)
    by_cases k : okW w = true
    · rw [if_pos k] at hb
      obtain ⟨o2', e⟩ := wLoop L W o3 r (some (sD w)) fun z hz => h z (List.mem_cons_of_mem _ hz)
      refine ⟨o2', ?_⟩
      rw [List.all_cons, k, Bool.true_and, ← e, List.map_cons]
      simp -implicitDefEqProofs [loopL, hb]
    · rw [if_neg k] at hb
      refine ⟨some (sD w), ?_⟩
      have k' : okW w = false := by simpa using k
      rw [List.all_cons, k', Bool.false_and, List.map_cons]
      simp -implicitDefEqProofs [loopL, hb]
abbrev spl (l : List Nat) : List (List Nat) := TL.spl [32] 0 [] l
def wordsV (l : List Nat) : D := if (spl l).all okW = true then .lst ((spl l).map sD) else .non
theorem spl_len : ∀ (l cur : List Nat), ∀ w ∈ TL.spl [32] 0 cur l, w.length ≤ cur.length + l.length
  | [], cur, w, h => by
    rw [TL.spl_nil] at h
    rw [List.mem_singleton.mp h]
    simp
  | c :: r, cur, w, h => by
    unfold TL.spl at h
    split at h
    · rcases List.mem_cons.mp h with h | h
      · rw [h]; simp
      · have := spl_len r [] w h
        rw [List.length_nil] at this
        rw [List.length_cons]
        omega
    · have := spl_len r (cur ++ [c]) w h
      rw [List.length_append, List.length_singleton] at this
      rw [List.length_cons]
      omega
theorem split_sp (l : List Nat) (h : l.length + 2 ≤ sizeLine) : gSplit (sD l) [sD [32]] = some (.lst ((spl l).map sD)) := by
  show (if (((S [32] : Str).length == 0) = false ∧ (S l).length + 2 ≤ sizeLine) then some (D.lst ((Txt.split (S l) (S [32])).map D.str)) else none) = _
  rw [if_pos ⟨rfl, by rw [S_len]; exact h⟩, SX.split_S (by decide) (by decide), List.map_map]
  rfl
theorem v_words_of (l : List Nat) (h : l.length + 2 ≤ sizeLine) (ρ : En) : (Fwords_of [sD l]).R ρ = .ok (wordsV l) ρ := by
  obtain ⟨o2', e⟩ := wLoop (sD l) (.lst ((spl l).map sD)) none (spl l) none fun w hw => by
    have := spl_len l [] w hw
    rw [List.length_nil] at this
    omega
  have e' : loopL (mgName 2) (msIf (mOrT (mTest (m2 gEq (mVar 2) (mK (.str "")))) (mNotT (mTru (mN gAll (mCons (mLc [3] (mIter (mVar 2)) (mgName 3) mYes (mChain gLe gLe (mK (.str "!")) (mVar 3) (mK (.str "~")))) mNil))))) (msRet (mK .non)) msNil) ((spl l).map sD) [some (sD l), some (.lst ((spl l).map sD)), none, none] = _ := e
  unfold wordsV
  by_cases k : (spl l).all okW = true
  · rw [if_pos k] at e' ⊢
    simp -implicitDefEqProofs [Fwords_of, runM, mwords_of, pad, l_sp, isStr, split_sp l h, gIter, e', -mN_ap]
  · rw [if_neg k] at e' ⊢
    simp -implicitDefEqProofs [Fwords_of, runM, mwords_of, pad, l_sp, isStr, split_sp l h, gIter, e', -mN_ap]
end K93
namespace K93
open DL L2 PySem PySem.Spec PyProof.Rows
def lw : List (List Nat) → List Nat → List Nat → Option (List (List Nat))
  | ws, _, [] => some ws
  | ws, cur, c :: r => if c = 32 then (if cur = [] then none else lw (ws ++ [cur]) [] r) else if okC c = true then lw ws (cur ++ [c]) r else none
theorem pre32 (c : Nat) (r : List Nat) : TL.pre [32] (c :: r) = decide (c = 32) := by
  show ([c] == [32]) = _
  by_cases h : c = 32
  · subst h; rfl
  · rw [decide_eq_false h]
    simp [h]
theorem spl_bad : ∀ (l cur : List Nat), cur.all okC = false → (TL.spl [32] 0 cur l).all okW = false
  | [], cur, h => by
    rw [TL.spl_nil]
    simp [okW, h]
  | c :: r, cur, h => by
    unfold TL.spl
    rw [pre32]
    by_cases k : c = 32
    · rw [if_pos (decide_eq_true k), List.all_cons]
      have : okW cur = false := by unfold okW; rw [h, Bool.and_false]
      rw [this, Bool.false_and]
    · rw [if_neg (by simp [k])]
      exact spl_bad r (cur ++ [c]) (by rw [List.all_append, h, Bool.false_and])
theorem lw_spl : ∀ (l cur : List Nat) (ws : List (List Nat)), cur.all okC = true → lw ws cur (l ++ [32]) = if (TL.spl [32] 0 cur l).all okW = true then some (ws ++ TL.spl [32] 0 cur l) else none
  | [], cur, ws, h => by
    rw [TL.spl_nil]
    by_cases k : cur = []
    · subst k
      simp [lw, okW]
    · have : okW cur = true := by
        unfold okW
        cases cur with
        | nil => exact absurd rfl k
        | cons a b => rw [h]; rfl
      simp [lw, k, this]
  | c :: r, cur, ws, h => by
    unfold TL.spl
    rw [pre32]
    by_cases k : c = 32
    · subst k
      rw [if_pos (decide_eq_true rfl), List.cons_append]
      unfold lw
      rw [if_pos rfl]
      by_cases e : cur = []
      · subst e
        have : okW [] = false := rfl
        rw [if_pos rfl, List.all_cons, this, Bool.false_and]
        rfl
      · have : okW cur = true := by
          unfold okW
          cases cur with
          | nil => exact absurd rfl e
          | cons a b => rw [h]; rfl
        rw [if_neg e, lw_spl r [] (ws ++ [cur]) rfl, List.all_cons, this, Bool.true_and, List.append_assoc]
        rfl
    · rw [if_neg (show ¬ (decide (c = 32) = true) by simp [k]), List.cons_append]
      unfold lw
      rw [if_neg k]
      by_cases o : okC c = true
      · rw [if_pos o]
        exact lw_spl r (cur ++ [c]) ws (by rw [List.all_append, h, Bool.true_and]; simp [o])
      · have o' : okC c = false := by simpa using o
        rw [if_neg o, spl_bad r (cur ++ [c]) (by rw [List.all_append]; simp [o'])]
        rfl
def vBody : MS := (msIf (mTest (m2 gEq (mVar 3) (mK (.str " ")))) (msSeq (msIf (mTest (m2 gEq (mVar 2) (mK (.str "")))) (msRet (mK .non)) msNil) (msSeq (msExpr (mOM gAppend 1 (mCons (mVar 2) mNil))) (msAsg (mK (.str "")) (mgName 2)))) (msIf (mTest (mChain gLe gLe (mK (.str "!")) (mVar 3) (mK (.str "~")))) (msAsg (m2 gAdd (mVar 2) (mVar 3)) (mgName 2)) (msRet (mK .non))))
theorem gAdd_S (a b : List Nat) (h : a.length + b.length ≤ sizeLine) : gAdd (sD a) (sD b) = some (sD (a ++ b)) := by
  show (if (S a).length + (S b).length ≤ sizeLine then some (D.str (S a ++ S b)) else none) = _
  rw [S_len, S_len, if_pos h, S_app]
theorem vLoop (L : D) : ∀ (cs cur : List Nat) (ws : List (List Nat)) (o3 : Option D), cur.length + cs.length ≤ sizeLine → ws.length + cs.length < sizeLine →
    ∃ (cur' : List Nat) (o3' : Option D) (ρ' : En), loopL (mgName 3) vBody (cs.map fun c => sD [c]) [some L, some (.lst (ws.map sD)), some (sD cur), o3] = match lw ws cur cs with
      | some ws' => .nx [some L, some (.lst (ws'.map sD)), some (sD cur'), o3']
      | none => .rt .non ρ'
  | [], cur, ws, o3, _, _ => ⟨cur, o3, [], rfl⟩
  | c :: r, cur, ws, o3, h, h2 => by
    rw [List.length_cons] at h h2
    have e1 := gEq_S [c] [32]
    have e2 := gEq_S cur []
    have d1 : decide ([c] = [32]) = decide (c = 32) := by rw [decide_eq_decide]; simp
    rw [d1] at e1
    by_cases k : c = 32
    · subst k
      by_cases e : cur = []
      · subst e
        refine ⟨[], none, [some L, some (.lst (ws.map sD)), some (sD []), some (sD [32])], ?_⟩
        have hl : lw ws [] (32 :: r) = none := rfl
        rw [hl, List.map_cons]
        simp -implicitDefEqProofs [loopL, vBody, l_sp, l_em, e1, e2, -gEq_ss]
      · rw [decide_eq_false e] at e2
        obtain ⟨cur', o3', ρ', e0⟩ := vLoop L r [] (ws ++ [cur]) (some (sD [32])) (by rw [List.length_nil]; omega) (by rw [List.length_append, List.length_singleton]; omega)
        refine ⟨cur', o3', ρ', ?_⟩
        have hl : lw ws cur (32 :: r) = lw (ws ++ [cur]) [] r := by
          show (if (32 : Nat) = 32 then (if cur = [] then none else lw (ws ++ [cur]) [] r) else _) = _
          rw [if_pos rfl, if_neg e]
        rw [hl, ← e0, List.map_cons]
        have hz : ws.length < sizeLine := by omega
        simp -implicitDefEqProofs [loopL, vBody, l_sp, l_em, e1, e2, getO_1, gAppend, hz, -gEq_ss]
    · rw [decide_eq_false k] at e1
      have ch := chain_okC (a := mK (.str "!")) (b := mVar 3) (x := mK (.str "~")) (ρ := [some L, some (.lst (ws.map sD)), some (sD cur), some (sD [c])]) (c := c) rfl rfl rfl
      by_cases o : okC c = true
      · rw [o] at ch
        have ga := gAdd_S cur [c] (by rw [List.length_singleton]; omega)
        obtain ⟨cur', o3', ρ', e0⟩ := vLoop L r (cur ++ [c]) ws (some (sD [c])) (by rw [List.length_append, List.length_singleton]; omega) (by omega)
        refine ⟨cur', o3', ρ', ?_⟩
        have hl : lw ws cur (c :: r) = lw ws (cur ++ [c]) r := by
          show (if c = 32 then (if cur = [] then none else lw (ws ++ [cur]) [] r) else if okC c = true then lw ws (cur ++ [c]) r else none) = _
          rw [if_neg k, if_pos o]
        rw [hl, ← e0, List.map_cons]
        simp -implicitDefEqProofs [loopL, vBody, l_sp, e1, ch, ga, -gEq_ss, -mChain_ap]
      · have o' : okC c = false := by simpa using o
        rw [o'] at ch
        refine ⟨cur, none, [some L, some (.lst (ws.map sD)), some (sD cur), some (sD [c])], ?_⟩
        have hl : lw ws cur (c :: r) = none := by
          show (if c = 32 then (if cur = [] then none else lw (ws ++ [cur]) [] r) else if okC c = true then lw ws (cur ++ [c]) r else none) = _
          rw [if_neg k, if_neg o]
        rw [hl, List.map_cons]
        simp -implicitDefEqProofs [loopL, vBody, l_sp, e1, ch, -gEq_ss, -mChain_ap]
theorem v_law_words (l : List Nat) (h : l.length + 2 ≤ sizeLine) (ρ : En) : (F_law_words [sD l]).R ρ = .ok (wordsV l) ρ := by
  obtain ⟨cur', o3', ρ', e⟩ := vLoop (sD l) (l ++ [32]) [] [] none (by simp; omega) (by simp; omega)
  rw [lw_spl l [] [] rfl, List.nil_append] at e
  have ga := gAdd_S l [32] (by rw [List.length_singleton]; omega)
  have hg : gIter (sD (l ++ [32])) = some ((l ++ [32]).map fun c => sD [c]) := rfl
  have hm : m_law_words = msForget 1 (msSeq (msOwn 1 (mN gLst mNil)) (msSeq (msAsg (mK (.str "")) (mgName 2)) (msSeq (msFor (mIter (m2 gAdd (mVar 0) (mK (.str " ")))) (mgName 3) vBody) (msRetO 1)))) := rfl
  have z0 : 0 ≤ sizeLine := by decide
  rw [List.map_nil] at e
  unfold wordsV
  generalize ((l ++ [32]).map fun c => sD [c]) = cs at e hg
  by_cases k : (spl l).all okW = true
  · rw [if_pos k] at e ⊢
    simp -implicitDefEqProofs [F_law_words, runM, hm, pad, l_sp, l_em, z0, ga, hg, e, getO_1]
  · rw [if_neg k] at e ⊢
    simp -implicitDefEqProofs [F_law_words, runM, hm, pad, l_sp, l_em, z0, ga, hg, e, getO_1]
end K93
namespace DL
open L2 PySem PySem.Spec PyProof.Rows
def Asc (w : List Nat) : Prop := w.length ≤ 600 ∧ ∀ c ∈ w, c < 128
theorem gLen_S {w : List Nat} (h : w.length ≤ sizeLine) : gLen [sD w] = some (.int (w.length : Nat)) := by
  show (if (S w).length ≤ sizeLine then some (D.int (S w).length) else none) = _
  rw [if_pos (by rw [S_len]; exact h), S_len]
theorem strOk_S {w : List Nat} (h : Asc w) : PyData.strOk (S w) = true := by
  have h2 := h.2
  unfold PyData.strOk
  simp [S, SX.S]
  intro c hc
  have := h2 c hc
  omega
theorem py_strs : ∀ ws : List (List Nat), pyAll (ws.map sD) = some (ws.map fun w => PyData.str (S w))
  | [] => rfl
  | w :: r => by
    rw [List.map_cons]
    unfold pyAll
    rw [py_strs r]
    rfl
theorem lay_strs : ∀ ws : List (List Nat), (∀ w ∈ ws, Asc w) → PyData.canLayAll0 (ws.map fun w => PyData.str (S w)) = true
  | [], _ => rfl
  | w :: r, h => by
    rw [List.map_cons]
    unfold PyData.canLayAll0
    rw [lay_strs r fun z hz => h z (List.mem_cons_of_mem _ hz), Bool.and_true]
    unfold PyData.canLay0
    exact strOk_S (h w List.mem_cons_self)
theorem dep_strs : ∀ ws : List (List Nat), PyData.depthAll (ws.map fun w => PyData.str (S w)) = 0
  | [] => rfl
  | w :: r => by
    rw [List.map_cons]
    unfold PyData.depthAll
    rw [dep_strs r]
    simp [PyData.depth]
theorem in_strs {w : List Nat} {ws : List (List Nat)} (hw : Asc w) (h : ∀ u ∈ ws, Asc u) : gIn (sD w) (.lst (ws.map sD)) = some (.bl (decide (w ∈ ws))) := by
  show (inD (sD w) (.lst (ws.map sD))).map D.bl = _
  have e : inD (sD w) (.lst (ws.map sD)) = (match (sD w).py, pyAll (ws.map sD) with
    | some x, some ys => if SeqAt.shaped x = true ∧ SeqAt.shaped (.list ys) = true then some (ys.any fun z => PyData.eqv z x) else none
    | _, _ => none) := rfl
  have s1 : SeqAt.shaped (.str (S w)) = true := by
    unfold SeqAt.shaped PyData.canLay0
    rw [strOk_S hw]
    rfl
  have s2 : SeqAt.shaped (.list (ws.map fun w => PyData.str (S w))) = true := by
    unfold SeqAt.shaped PyData.canLay0
    rw [lay_strs ws h, Bool.true_and]
    unfold PyData.depth
    rw [dep_strs]
    rfl
  have e2 : (sD w).py = some (.str (S w)) := rfl
  rw [e, e2, py_strs]
  show (if _ then some _ else none : Option Bool).map D.bl = _
  rw [if_pos ⟨s1, s2⟩]
  show some (D.bl _) = _
  congr 2
  clear e e2 s1 s2 h
  induction ws with
  | nil => rfl
  | cons u r ih =>
    rw [List.map_cons, List.any_cons, ih]
    have : PyData.eqv (.str (S u)) (.str (S w)) = decide (w = u) := by
      unfold PyData.eqv
      by_cases h : w = u
      · subst h; simp
      · rw [decide_eq_false h]
        exact beq_false_of_ne fun z => h (S_inj z).symm
    rw [this]
    by_cases h1 : w = u
    · subst h1; simp
    · rw [decide_eq_false h1, Bool.false_or, decide_eq_decide]
      simp [h1]
theorem int_digs {w : List Nat} (h : digs w = true) (hne : w ≠ []) (hl : w.length ≤ 640) : gInt [sD w] = some (.int (NumText.digitsVal w : Nat)) := by
  show (if (S w).length ≤ 640 then (PySem.intText? (S w)).map D.int else none) = _
  rw [if_pos (by rw [S_len]; exact hl), SX.int_S h hne (by omega)]
  rfl
theorem int_neg {w : List Nat} (h : digs w = true) (hne : w ≠ []) (hl : w.length + 1 ≤ 640) : gInt [sD (45 :: w)] = some (.int (-(NumText.digitsVal w : Nat))) := by
  show (if (S (45 :: w)).length ≤ 640 then (PySem.intText? (S (45 :: w))).map D.int else none) = _
  rw [if_pos (by rw [S_len, List.length_cons]; exact hl), PySem.intText_neg (x := S (45 :: w)) (cs := w) rfl (digs_all h) hne (by rw [S_len, List.length_cons]; omega)]
  rfl
theorem str_nat {n : Nat} (h : n.log2 < 1920) : gStr [.int (n : Int)] = some (sD (TL.numL n)) := by
  show (if (n : Int).natAbs.log2 < 1920 then some (D.str (toString (n : Int))) else none) = _
  rw [if_pos (by simpa using h)]
  congr 2
  exact SX.num_S n
theorem str_negn {n : Nat} (h : n.log2 < 1920) (h0 : 0 < n) : gStr [.int (-(n : Int))] = some (sD (45 :: TL.numL n)) := by
  show (if (-(n : Int)).natAbs.log2 < 1920 then some (D.str (toString (-(n : Int)))) else none) = _
  rw [if_pos (by simpa using h)]
  congr 2
  exact neg_text h0
end DL
namespace K93
open DL L2 PySem PySem.Spec PyProof.Rows
def smL : List Nat := (List.range 26).map (97 + ·)
def fgL : List Nat := (List.range 10).map (48 + ·)
theorem l_sm : D.str cSMALL = sD smL := rfl
theorem l_sm2 : D.str "abcdefghijklmnopqrstuvwxyz" = sD smL := rfl
theorem l_fg : D.str cFIGURES = sD fgL := rfl
theorem l_fg2 : D.str "0123456789" = sD fgL := rfl
theorem l_0 : D.str "0" = sD [48] := rfl
theorem l_mi : D.str "-" = sD [45] := rfl
theorem l_co : D.str "," = sD [44] := rfl
theorem fg_mem (c : Nat) : decide (c ∈ fgL) = (decide (48 ≤ c) && decide (c ≤ 57)) := by
  rw [← Bool.decide_and, decide_eq_decide]
  unfold fgL
  rw [List.mem_map]
  constructor
  · rintro ⟨a, ha, rfl⟩
    have := List.mem_range.mp ha
    omega
  · intro z
    exact ⟨c - 48, List.mem_range.mpr (by omega), by omega⟩
theorem lenS {w : List Nat} (h : Asc w) : w.length ≤ sizeLine := by
  have : sizeLine = 16777216 := by decide
  have := h.1
  omega
def nameV (w : List Nat) : D := .bl (decide (1 ≤ w.length) && decide (w.length ≤ 12) && w.all fun c => decide (c ∈ smL))
theorem v_is_name {w : List Nat} (h : Asc w) (ρ : En) : (Fis_name [sD w]).R ρ = .ok (nameV w) ρ := by
  have ha := allc (i := 1) (ρ0 := [some (sD w), none]) (w := w) (p := fun c => decide (c ∈ smL)) (mi := mIter (mVar 0)) (me := m2 gIn (mVar 1) (mK (sD smL))) (by simp) rfl (lenS h) fun c => by
    show (R.ok (sD [c]) _).bind _ = _
    rw [bind_ok, mK_ap, bind_ok, in_one, ret_some]
  have hl := gLen_S (lenS h)
  unfold nameV
  by_cases h1 : 1 ≤ w.length
  · have i1 : (1 : Int) ≤ (w.length : Int) := by omega
    by_cases h2 : w.length ≤ 12
    · have i2 : (w.length : Int) ≤ 12 := by omega
      simp -implicitDefEqProofs [Fis_name, runM, mis_name, pad, l_sm, ha, hl, h1, h2, i1, i2, -mN_ap, mN_ap gLen]
    · have i2 : ¬ (w.length : Int) ≤ 12 := by omega
      simp -implicitDefEqProofs [Fis_name, runM, mis_name, pad, l_sm, ha, hl, h1, h2, i1, i2, -mN_ap, mN_ap gLen]
  · have i1 : ¬ (1 : Int) ≤ (w.length : Int) := by omega
    simp -implicitDefEqProofs [Fis_name, runM, mis_name, pad, l_sm, ha, hl, h1, i1, -mN_ap, mN_ap gLen]
theorem v_law_is_name {w : List Nat} (h : Asc w) (ρ : En) : (F_law_is_name [sD w]).R ρ = .ok (nameV w) ρ := by
  have ha := allc (i := 1) (ρ0 := [some (sD w), none]) (w := w) (p := fun c => decide (c ∈ smL)) (mi := mIter (mVar 0)) (me := m2 gIn (mVar 1) (mK (sD smL))) (by simp) rfl (lenS h) fun c => by
    show (R.ok (sD [c]) _).bind _ = _
    rw [bind_ok, mK_ap, bind_ok, in_one, ret_some]
  have hl := gLen_S (lenS h)
  unfold nameV
  by_cases h1 : 1 ≤ w.length
  · have i1 : 0 < w.length := by omega
    by_cases h2 : w.length ≤ 12
    · have i2 : (w.length : Int) < 13 := by omega
      simp -implicitDefEqProofs [F_law_is_name, runM, m_law_is_name, pad, l_sm2, ha, hl, h1, h2, i1, i2, -mN_ap, mN_ap gLen]
    · have i2 : ¬ (w.length : Int) < 13 := by omega
      simp -implicitDefEqProofs [F_law_is_name, runM, m_law_is_name, pad, l_sm2, ha, hl, h1, h2, i1, i2, -mN_ap, mN_ap gLen]
  · have i1 : ¬ 0 < w.length := by omega
    simp -implicitDefEqProofs [F_law_is_name, runM, m_law_is_name, pad, l_sm2, ha, hl, h1, i1, -mN_ap, mN_ap gLen]
end K93
namespace K93
open DL L2 PySem PySem.Spec PyProof.Rows
theorem ix0 {c : Nat} {r : List Nat} (h : (c :: r).length ≤ sizeLine) : gIx (sD (c :: r)) (.int 0) = some (sD [c]) := by
  show (if (S (c :: r)).length ≤ sizeLine then (L2.atI (S (c :: r)).cps.toList 0).map (fun c => D.str ⟨#[c]⟩) else none) = _
  rw [if_pos (by rw [S_len]; exact h)]
  have : L2.atI (S (c :: r)).cps.toList 0 = some c := by
    show L2.atI (c :: r) 0 = some c
    simp [L2.atI, L2.ixN]
  rw [this]
  rfl
def numOk (w : List Nat) : Bool := decide (1 ≤ w.length) && (decide (w.length ≤ 2) && (digs w && !(decide (w.length = 2) && decide (w.head? = some 48))))
def numV (w : List Nat) : D := if numOk w = true then .int (NumText.digitsVal w : Nat) else .non
theorem head48 (c : Nat) (r : List Nat) : decide ((c :: r).head? = some 48) = decide (c = 48) := by rw [decide_eq_decide]; simp
theorem v_number_in {w : List Nat} (h : Asc w) (ρ : En) : (Fnumber_in [sD w]).R ρ = .ok (numV w) ρ := by
  have ha := allc (i := 1) (ρ0 := [some (sD w), none]) (w := w) (p := fun c => decide (48 ≤ c) && decide (c ≤ 57)) (mi := mIter (mVar 0)) (me := m2 gIn (mVar 1) (mK (sD fgL))) (by simp) rfl (lenS h) fun c => by
    show (R.ok (sD [c]) _).bind _ = _
    rw [bind_ok, mK_ap, bind_ok, in_one, ret_some, fg_mem]
  have hl := gLen_S (lenS h)
  unfold numV numOk
  by_cases h1 : 1 ≤ w.length
  · have i1 : (1 : Int) ≤ (w.length : Int) := by omega
    by_cases h2 : w.length ≤ 2
    · have i2 : (w.length : Int) ≤ 2 := by omega
      cases hd : digs w with
      | false =>
        rw [show (w.all fun c => decide (48 ≤ c) && decide (c ≤ 57)) = false from hd] at ha
        simp -implicitDefEqProofs [Fnumber_in, runM, mnumber_in, pad, l_fg, ha, hl, h1, h2, i1, i2, -mN_ap, mN_ap gLen]
      | true =>
        rw [show (w.all fun c => decide (48 ≤ c) && decide (c ≤ 57)) = true from hd] at ha
        have gi := int_digs hd (by intro z; rw [z] at h1; simp at h1) (by omega)
        obtain ⟨c, x0, hh⟩ : ∃ c, gIx (sD w) (.int 0) = some (sD [c]) ∧ decide (w.head? = some 48) = decide (c = 48) := by
          cases w with
          | nil => simp at h1
          | cons c r => exact ⟨c, ix0 (lenS h), head48 c r⟩
        have e0 := gEq_S [c] [48]
        have d0 : decide ([c] = [48]) = decide (c = 48) := by rw [decide_eq_decide]; simp
        rw [d0, ← hh] at e0
        by_cases l2 : w.length = 2
        · have il : (w.length : Int) = 2 := by omega
          cases hb : decide (w.head? = some 48) with
          | true =>
            rw [hb] at e0
            have hb' := of_decide_eq_true hb
            simp -implicitDefEqProofs [Fnumber_in, runM, mnumber_in, pad, l_fg, l_0, ha, hl, h1, h2, i1, i2, il, l2, x0, e0, hb', -mN_ap, mN_ap gLen, -gEq_ss]
          | false =>
            rw [hb] at e0
            have hb' := of_decide_eq_false hb
            simp -implicitDefEqProofs [Fnumber_in, runM, mnumber_in, pad, l_fg, l_0, ha, hl, h1, h2, i1, i2, il, l2, x0, e0, hb', gi, -mN_ap, mN_ap gLen, mN_ap gInt, -gEq_ss]
        · have il : ¬ (w.length : Int) = 2 := by omega
          simp -implicitDefEqProofs [Fnumber_in, runM, mnumber_in, pad, l_fg, l_0, ha, hl, h1, h2, i1, i2, il, l2, gi, -mN_ap, mN_ap gLen, mN_ap gInt, -gEq_ss]
    · have i2 : ¬ (w.length : Int) ≤ 2 := by omega
      simp -implicitDefEqProofs [Fnumber_in, runM, mnumber_in, pad, l_fg, ha, hl, h1, h2, i1, i2, -mN_ap, mN_ap gLen]
  · have i1 : ¬ (1 : Int) ≤ (w.length : Int) := by omega
    simp -implicitDefEqProofs [Fnumber_in, runM, mnumber_in, pad, l_fg, ha, hl, h1, i1, -mN_ap, mN_ap gLen]
def hundred : List (List Nat) := (List.range 100).map TL.numL
theorem num_big {k : Nat} (h : 10 ≤ k) (h2 : k < 100) : TL.numL k = [48 + k / 10, 48 + k % 10] := by
  rw [TL.numL_step h, TL.numL_lt (by omega)]
  rfl
theorem digs2 (c d : Nat) : digs [c, d] = ((decide (48 ≤ c) && decide (c ≤ 57)) && (decide (48 ≤ d) && decide (d ≤ 57))) := by simp [digs]
theorem mem100 (w : List Nat) : decide (w ∈ hundred) = numOk w := by
  unfold hundred
  rw [show numOk w = decide (numOk w = true) by simp, decide_eq_decide, List.mem_map]
  constructor
  · rintro ⟨k, hk, rfl⟩
    have hk := List.mem_range.mp hk
    by_cases h : k < 10
    · rw [TL.numL_lt h]
      simp [numOk, digs]
      omega
    · rw [num_big (by omega) hk]
      simp [numOk, digs]
      omega
  · intro h
    unfold numOk at h
    match w, h with
    | [], h => simp at h
    | [c], h =>
      simp [digs] at h
      refine ⟨c - 48, List.mem_range.mpr (by omega), ?_⟩
      rw [TL.numL_lt (by omega)]
      congr 1
      omega
    | [c, d], h =>
      simp [digs] at h
      refine ⟨10 * (c - 48) + (d - 48), List.mem_range.mpr (by omega), ?_⟩
      rw [num_big (by omega) (by omega)]
      congr 1
      · omega
      · congr 1
        omega
    | c :: d :: e :: r, h => simp at h
theorem asc100 : ∀ u ∈ hundred, Asc u := by
  intro u hu
  have hn : numOk u = true := by rw [← mem100]; exact decide_eq_true hu
  unfold numOk at hn
  simp at hn
  refine ⟨by omega, fun c hc => ?_⟩
  have := hn.2.2.1 c hc
  omega
theorem lc100 (w : D) : mLc [1] (mItN gRange1 (mCons (mK (.int 100)) mNil)) (mgName 1) mYes (mN gStr (mCons (mVar 1) mNil)) [some w, none] = .ok (.lst (hundred.map sD)) [some w, none] := by
  let f : D → D := fun d => match d with
    | .int k => sD (TL.numL k.toNat)
    | _ => .non
  have e : (rangeL 0 100).map f = hundred.map sD := by
    unfold rangeL hundred
    rw [List.map_map, List.map_map]
    refine List.map_congr_left fun i _ => ?_
    show sD (TL.numL (0 + (i : Int)).toNat) = sD (TL.numL i)
    congr 2
    omega
  have ok : okR 100 = true := by decide
  have t : Int.toNat 100 = 100 := rfl
  rw [← e]
  refine mLc_map (f := f) (by simp) ?_ (by rw [rangeL_length]; decide) (fun d hd => ?_)
  · simp -implicitDefEqProofs [ok, t]
  · unfold rangeL at hd
    obtain ⟨i, hi, rfl⟩ := List.mem_map.mp hd
    have hi := List.mem_range.mp hi
    have e2 : (.int (0 + (i : Int)) : D) = .int (i : Int) := by rw [Int.zero_add]
    have hs := str_nat (n := i) (Nat.lt_of_lt_of_le (lg (k := 10) (by omega) (by decide)) (by decide))
    have t2 : f (.int (i : Int)) = sD (TL.numL i) := rfl
    rw [e2, t2]
    simp -implicitDefEqProofs [hs]
theorem v_law_number_in {w : List Nat} (h : Asc w) (ρ : En) : (F_law_number_in [sD w]).R ρ = .ok (numV w) ρ := by
  have hi := in_strs h asc100
  rw [mem100] at hi
  have hc := lc100 (sD w)
  unfold numV
  cases k : numOk w with
  | true =>
    rw [k] at hi
    have k2 := k
    unfold numOk at k2
    rw [Bool.and_eq_true, Bool.and_eq_true, Bool.and_eq_true] at k2
    have gi := int_digs k2.2.2.1 (by intro z; rw [z] at k2; simp at k2) (by have := of_decide_eq_true k2.2.1; omega)
    simp -implicitDefEqProofs [F_law_number_in, runM, m_law_number_in, pad, hc, hi, gi]
  | false =>
    rw [k] at hi
    simp -implicitDefEqProofs [F_law_number_in, runM, m_law_number_in, pad, hc, hi]
end K93
namespace K93
open DL L2 PySem PySem.Spec PyProof.Rows
theorem sl_take {w : List Nat} (h : w.length ≤ sizeLine) : gSl (sD w) none (some 1) = some (sD (w.take 1)) := by
  show (if (S w).length ≤ sizeLine then some (D.str (L2.cutS (S w) none (some 1))) else none) = _
  rw [if_pos (by rw [S_len]; exact h)]
  cases w with
  | nil => rfl
  | cons c r =>
    congr 2
theorem sl_drop {w : List Nat} (h : w.length ≤ sizeLine) : gSl (sD w) (some 1) none = some (sD (w.drop 1)) := by
  show (if (S w).length ≤ sizeLine then some (D.str (L2.cutS (S w) (some 1) none)) else none) = _
  rw [if_pos (by rw [S_len]; exact h)]
  cases w with
  | nil => rfl
  | cons c r =>
    congr 2
    refine TL.ext_tl ?_
    show ((c :: r).drop (HT.sIx (S (c :: r)).length 0 (some 1))).take (HT.sIx (S (c :: r)).length (S (c :: r)).length none - HT.sIx (S (c :: r)).length 0 (some 1)) = r
    rw [S_len]
    have e1 : HT.sIx (c :: r).length 0 (some 1) = 1 := by
      simp [HT.sIx]
      try omega
    have e2 : HT.sIx (c :: r).length (c :: r).length none = (c :: r).length := rfl
    rw [e1, e2]
    simp
theorem ten_two (n : Nat) : 10 ^ n ≤ 2 ^ (4 * n) := by
  rw [Nat.pow_mul]
  exact Nat.pow_le_pow_left (by decide) n
def fig (w : List Nat) : List Nat := if w.take 1 = [45] then w.drop 1 else w
def neg (w : List Nat) : Bool := decide (w.take 1 = [45])
def intOk (w : List Nat) : Bool := decide (1 ≤ (fig w).length) && (decide ((fig w).length ≤ 400) && (digs (fig w) && (!decide ((fig w).head? = some 48) || decide (w = [48]))))
def intI (w : List Nat) : Int := if neg w = true then -(NumText.digitsVal (fig w) : Nat) else (NumText.digitsVal (fig w) : Nat)
def intV (w : List Nat) : D := if intOk w = true then .int (intI w) else .non
theorem neg_eq {w : List Nat} (h : w.take 1 = [45]) : w = 45 :: w.drop 1 := by
  cases w with
  | nil => simp at h
  | cons c r => simp at h; rw [h]; rfl
theorem int_str {w : List Nat} (h1 : 1 ≤ (fig w).length) (h2 : (fig w).length ≤ 400) (hd : digs (fig w) = true) :
    gInt [sD w] = some (.int (intI w)) ∧ ∃ z, gStr [.int (intI w)] = some (sD z) ∧ decide (z = w) = (!decide ((fig w).head? = some 48) || decide (w = [48])) := by
  have hne : fig w ≠ [] := by intro z; rw [z] at h1; simp at h1
  have hA := digs_all hd
  have vl := val_lt hA
  have lg2 : (NumText.digitsVal (fig w)).log2 < 1920 := by
    refine Nat.lt_of_lt_of_le (lg (k := 4 * 400) (Nat.lt_of_lt_of_le vl (Nat.le_trans (Nat.pow_le_pow_right (by decide) h2) (ten_two 400))) (by decide)) (by decide)
  have can := num_canon hA hne
  by_cases n : w.take 1 = [45]
  · have ef : fig w = w.drop 1 := if_pos n
    have ei : intI w = -(NumText.digitsVal (fig w) : Nat) := if_pos (decide_eq_true n)
    have ew := neg_eq n
    have nw : decide (w = [48]) = false := decide_eq_false fun z => by rw [z] at n; simp at n
    refine ⟨?_, ?_⟩
    · have := int_neg hd hne (by omega)
      rw [ef] at this
      rw [ei, ef]
      rw [← ew] at this
      exact this
    · rw [ei, nw, Bool.or_false]
      by_cases z : NumText.digitsVal (fig w) = 0
      · refine ⟨[48], ?_, ?_⟩
        · rw [z]
          exact str_nat (n := 0) (by decide)
        · have hh : (fig w).head? = some 48 := by
            by_cases q : (fig w).head? = some 48
            · exact q
            · have := val_pos hA hne q
              omega
          rw [decide_eq_true hh]
          exact decide_eq_false fun q => by rw [← q] at n; simp at n
      · refine ⟨45 :: TL.numL (NumText.digitsVal (fig w)), str_negn lg2 (by omega), ?_⟩
        rw [← decide_not, decide_eq_decide]
        constructor
        · intro q
          have q2 : TL.numL (NumText.digitsVal (fig w)) = fig w := by
            rw [ew] at q
            have := (List.cons.injEq _ _ _ _ ▸ q : (45 : Nat) = 45 ∧ _).2
            rw [← ew, ← ef] at this
            exact this
          rcases can.mp q2 with c | c
          · exact c
          · exfalso
            rw [c] at z
            exact z rfl
        · intro q
          rw [can.mpr (.inl q), ef, ← ew]
  · have ef : fig w = w := if_neg n
    have ei : intI w = (NumText.digitsVal (fig w) : Nat) := if_neg (by simp [neg, n])
    rw [ef] at hne hA hd lg2 can h1 h2
    rw [ei, ef]
    refine ⟨int_digs hd hne (by omega), TL.numL (NumText.digitsVal w), str_nat lg2, ?_⟩
    rw [← decide_not, ← Bool.decide_or, decide_eq_decide]
    exact can
end K93
namespace K93
open DL L2 PySem PySem.Spec PyProof.Rows
def IA0 : MS := (msAsg (mIf (mTest (m2 gEq (mSl (.ex (mVar 0)) mNoP (mPart (mK (.int 1)))) (mK (.str "-")))) (mSl (.ex (mVar 0)) (mPart (mK (.int 1))) mNoP) (mVar 0)) (mgName 1))
def IA1 : MS := (msIf (mOrT (mNotT (mTest (mChain gLe gLe (mK (.int 1)) (mN gLen (mCons (mVar 1) mNil)) (mK (.int cMOST_FIGURES))))) (mNotT (mTru (mN gAll (mCons (mLc [2] (mIter (mVar 1)) (mgName 2) mYes (m2 gIn (mVar 2) (mK (.str cFIGURES)))) mNil))))) (msRet (mK .non)) msNil)
def IA2 : MS := (msIf (mTest (m2 gNe (mN gStr (mCons (mN gInt (mCons (mVar 0) mNil)) mNil)) (mVar 0))) (msRet (mK .non)) msNil)
def IA3 : MS := (msRet (mN gInt (mCons (mVar 0) mNil)))
theorem minteger_in_eq : minteger_in = (msSeq IA0 (msSeq IA1 (msSeq IA2 IA3))) := rfl
def IB0 : MS := (msAsg (mIf (mTest (m2 gEq (mSl (.ex (mVar 0)) mNoP (mPart (mK (.int 1)))) (mK (.str "-")))) (mSl (.ex (mVar 0)) (mPart (mK (.int 1))) mNoP) (mVar 0)) (mgName 1))
def IB1 : MS := (msIf (mOrT (mTest (m2 gEq (mVar 1) (mK (.str "")))) (mOrT (mTest (m2 gGt (mN gLen (mCons (mVar 1) mNil)) (mK (.int 400)))) (mNotT (mTru (mN gAll (mCons (mLc [2] (mIter (mVar 1)) (mgName 2) mYes (m2 gIn (mVar 2) (mK (.str "0123456789")))) mNil)))))) (msRet (mK .non)) msNil)
def IB2 : MS := (msIf (mAndT (mTest (m2 gEq (m2 gIx (mVar 1) (mK (.int 0))) (mK (.str "0")))) (mTest (m2 gNe (mVar 0) (mK (.str "0"))))) (msRet (mK .non)) msNil)
def IB3 : MS := (msRet (mN gInt (mCons (mVar 0) mNil)))
theorem m_law_integer_in_eq : m_law_integer_in = (msSeq IB0 (msSeq IB1 (msSeq IB2 IB3))) := rfl
theorem seq_nx {a b : MS} {ρ ρ1 : En} {o : Out} (h : a ρ = .nx ρ1) (h2 : b ρ1 = o) : msSeq a b ρ = o := by
  rw [msSeq_ap, h]
  exact h2
theorem seq_rt {a b : MS} {ρ ρ1 : En} {d : D} (h : a ρ = .rt d ρ1) : msSeq a b ρ = .rt d ρ1 := by rw [msSeq_ap, h]
theorem mSl_e (m : ME) (l h : MP) (ρ : En) : mSl (.ex m) l h ρ = (m ρ).bind fun x ρ1 => (l ρ1).bind fun lo ρ2 => (h ρ2).bind fun hi ρ3 => ret (gSl x lo hi) ρ3 := rfl
theorem mNoP_e (ρ : En) : mNoP ρ = .ok none ρ := rfl
theorem mPart_e (m : ME) (ρ : En) : mPart m ρ = (m ρ).bind fun d ρ1 => ret (asI d) ρ1 := rfl
theorem asI_i (i : Int) : asI (.int i) = some (some i) := rfl
theorem ia0 {w : List Nat} (h : Asc w) : IA0 [some (sD w), none, none] = .nx [some (sD w), some (sD (fig w)), none] := by
  have t := sl_take (lenS h)
  have dr := sl_drop (lenS h)
  have e := gEq_S (w.take 1) [45]
  by_cases n : w.take 1 = [45]
  · have ef : fig w = w.drop 1 := if_pos n
    rw [ef]
    rw [decide_eq_true n] at e
    rw [n] at t e
    generalize w.drop 1 = r at dr ⊢
    simp -implicitDefEqProofs [IA0, mSl_e, mNoP_e, mPart_e, asI_i, t, dr, l_mi, e, -gEq_ss]
  · have ef : fig w = w := if_neg n
    rw [ef]
    rw [decide_eq_false n] at e
    simp -implicitDefEqProofs [IA0, mSl_e, mNoP_e, mPart_e, asI_i, t, l_mi, e, -gEq_ss]
theorem ib0 : IB0 = IA0 := rfl
theorem fin_of {m : MS} {d : D} {ρ ρ1 : En} {w : D} (h : m [some w, none, none] = .rt d ρ1) : (runM 3 1 [] false m [w]).R ρ = .ok d ρ := by
  unfold runM
  rw [List.append_nil, if_pos (show [w].length = 1 from rfl)]
  have : pad 3 [w] = [some w, none, none] := rfl
  rw [this, h]
  rfl
theorem all_fig {w : List Nat} (h : Asc w) : mN gAll (mCons (mLc [2] (mIter (mVar 1)) (mgName 2) mYes (m2 gIn (mVar 2) (mK (sD fgL)))) mNil) [some (sD w), some (sD (fig w)), none] = .ok (.bl (digs (fig w))) [some (sD w), some (sD (fig w)), none] :=
  allc (i := 2) (ρ0 := [some (sD w), some (sD (fig w)), none]) (w := fig w) (p := fun c => decide (48 ≤ c) && decide (c ≤ 57)) (mi := mIter (mVar 1)) (me := m2 gIn (mVar 2) (mK (sD fgL))) (by simp) rfl (by
    have := lenS h
    unfold fig
    split
    · rw [List.length_drop]; omega
    · exact this) fun c => by
    show (R.ok (sD [c]) _).bind _ = _
    rw [bind_ok, mK_ap, bind_ok, in_one, ret_some, fg_mem]
theorem fig_len {w : List Nat} (h : Asc w) : (fig w).length ≤ sizeLine := by
  have := lenS h
  unfold fig
  split
  · rw [List.length_drop]; omega
  · exact this
abbrev st (w : List Nat) : En := [some (sD w), some (sD (fig w)), none]
def figOk (w : List Nat) : Bool := decide (1 ≤ (fig w).length) && (decide ((fig w).length ≤ 400) && digs (fig w))
theorem ia1 {w : List Nat} (h : Asc w) : IA1 (st w) = if figOk w = true then .nx (st w) else .rt .non (st w) := by
  have ha := all_fig h
  have hl := gLen_S (fig_len h)
  unfold figOk
  by_cases h1 : 1 ≤ (fig w).length
  · have i1 : (1 : Int) ≤ ((fig w).length : Int) := by omega
    by_cases h2 : (fig w).length ≤ 400
    · have i2 : ((fig w).length : Int) ≤ 400 := by omega
      cases hd : digs (fig w) with
      | true =>
        rw [hd] at ha
        simp -implicitDefEqProofs [IA1, l_fg, ha, hl, h1, h2, i1, i2, -mN_ap, mN_ap gLen]
      | false =>
        rw [hd] at ha
        simp -implicitDefEqProofs [IA1, l_fg, ha, hl, h1, h2, i1, i2, -mN_ap, mN_ap gLen]
    · have i2 : ¬ ((fig w).length : Int) ≤ 400 := by omega
      simp -implicitDefEqProofs [IA1, l_fg, ha, hl, h1, h2, i1, i2, -mN_ap, mN_ap gLen]
  · have i1 : ¬ (1 : Int) ≤ ((fig w).length : Int) := by omega
    simp -implicitDefEqProofs [IA1, l_fg, ha, hl, h1, i1, -mN_ap, mN_ap gLen]
theorem ib1 {w : List Nat} (h : Asc w) : IB1 (st w) = if figOk w = true then .nx (st w) else .rt .non (st w) := by
  have ha := all_fig h
  have hl := gLen_S (fig_len h)
  have he := gEq_S (fig w) []
  have e0 : decide (fig w = []) = !decide (1 ≤ (fig w).length) := by
    cases fig w with
    | nil => rfl
    | cons a b => simp
  rw [e0] at he
  unfold figOk
  by_cases h1 : 1 ≤ (fig w).length
  · rw [decide_eq_true h1] at he
    by_cases h2 : (fig w).length ≤ 400
    · have i2 : ¬ (400 : Int) < ((fig w).length : Int) := by omega
      cases hd : digs (fig w) with
      | true =>
        rw [hd] at ha
        simp -implicitDefEqProofs [IB1, l_fg2, l_em, he, ha, hl, h1, h2, i2, -mN_ap, mN_ap gLen, -gEq_ss]
      | false =>
        rw [hd] at ha
        simp -implicitDefEqProofs [IB1, l_fg2, l_em, he, ha, hl, h1, h2, i2, -mN_ap, mN_ap gLen, -gEq_ss]
    · have i2 : (400 : Int) < ((fig w).length : Int) := by omega
      simp -implicitDefEqProofs [IB1, l_fg2, l_em, he, ha, hl, h1, h2, i2, -mN_ap, mN_ap gLen, -gEq_ss]
  · rw [decide_eq_false h1] at he
    simp -implicitDefEqProofs [IB1, l_fg2, l_em, he, h1, -mN_ap, mN_ap gLen, -gEq_ss]
theorem intOk_fig (w : List Nat) : intOk w = (figOk w && (!decide ((fig w).head? = some 48) || decide (w = [48]))) := by
  unfold intOk figOk
  simp only [Bool.and_assoc]
theorem v_integer_in {w : List Nat} (h : Asc w) (ρ : En) : (Finteger_in [sD w]).R ρ = .ok (intV w) ρ := by
  have s1 := ia1 h
  unfold intV
  rw [intOk_fig]
  cases k : figOk w with
  | false =>
    rw [k] at s1
    refine fin_of (ρ1 := st w) ?_
    rw [minteger_in_eq]
    exact seq_nx (ia0 h) (seq_rt s1)
  | true =>
    rw [k] at s1
    unfold figOk at k
    rw [Bool.and_eq_true, Bool.and_eq_true] at k
    obtain ⟨gi, z, gs, hz⟩ := int_str (of_decide_eq_true k.1) (of_decide_eq_true k.2.1) k.2.2
    have ne := gNe_S z w
    rw [hz] at ne
    rw [Bool.true_and]
    cases c : (!decide ((fig w).head? = some 48) || decide (w = [48])) with
    | true =>
      rw [c] at ne
      refine fin_of (ρ1 := st w) ?_
      rw [minteger_in_eq]
      refine seq_nx (ia0 h) (seq_nx s1 (seq_nx (ρ1 := st w) ?_ ?_))
      · simp -implicitDefEqProofs [IA2, gi, gs, ne, -gNe_ss]
      · simp -implicitDefEqProofs [IA3, gi]
    | false =>
      rw [c] at ne
      refine fin_of (ρ1 := st w) ?_
      rw [minteger_in_eq]
      refine seq_nx (ia0 h) (seq_nx s1 (seq_rt ?_))
      simp -implicitDefEqProofs [IA2, gi, gs, ne, -gNe_ss]
theorem v_law_integer_in {w : List Nat} (h : Asc w) (ρ : En) : (F_law_integer_in [sD w]).R ρ = .ok (intV w) ρ := by
  have s1 := ib1 h
  have s0 : IB0 [some (sD w), none, none] = .nx (st w) := ia0 h
  unfold intV
  rw [intOk_fig]
  cases k : figOk w with
  | false =>
    rw [k] at s1
    refine fin_of (ρ1 := st w) ?_
    rw [m_law_integer_in_eq]
    exact seq_nx s0 (seq_rt s1)
  | true =>
    rw [k] at s1
    unfold figOk at k
    rw [Bool.and_eq_true, Bool.and_eq_true] at k
    obtain ⟨gi, _⟩ := int_str (of_decide_eq_true k.1) (of_decide_eq_true k.2.1) k.2.2
    obtain ⟨c, x0, hh⟩ : ∃ c, gIx (sD (fig w)) (.int 0) = some (sD [c]) ∧ decide ((fig w).head? = some 48) = decide (c = 48) := by
      have k1 := of_decide_eq_true k.1
      have kl := fig_len h
      cases e : fig w with
      | nil => rw [e] at k1; simp at k1
      | cons c r => rw [e] at kl; exact ⟨c, ix0 kl, head48 c r⟩
    have e0 := gEq_S [c] [48]
    have d0 : decide ([c] = [48]) = decide (c = 48) := by rw [decide_eq_decide]; simp
    rw [d0, ← hh] at e0
    have n0 := gNe_S w [48]
    rw [Bool.true_and]
    cases a : decide ((fig w).head? = some 48) with
    | false =>
      rw [a] at e0
      refine fin_of (ρ1 := st w) ?_
      rw [m_law_integer_in_eq]
      refine seq_nx s0 (seq_nx s1 (seq_nx (ρ1 := st w) ?_ ?_))
      · simp -implicitDefEqProofs [IB2, l_0, x0, e0, -gEq_ss]
      · simp -implicitDefEqProofs [IB3, gi]
    | true =>
      rw [a] at e0
      cases b : decide (w = [48]) with
      | true =>
        rw [b] at n0
        refine fin_of (ρ1 := st w) ?_
        rw [m_law_integer_in_eq]
        refine seq_nx s0 (seq_nx s1 (seq_nx (ρ1 := st w) ?_ ?_))
        · simp -implicitDefEqProofs [IB2, l_0, x0, e0, n0, -gEq_ss, -gNe_ss]
        · simp -implicitDefEqProofs [IB3, gi]
      | false =>
        rw [b] at n0
        refine fin_of (ρ1 := st w) ?_
        rw [m_law_integer_in_eq]
        refine seq_nx s0 (seq_nx s1 (seq_rt ?_))
        simp -implicitDefEqProofs [IB2, l_0, x0, e0, n0, -gEq_ss, -gNe_ss]
end K93
namespace K93
open DL L2 PySem PySem.Spec PyProof.Rows
theorem sp_len (s : Nat) : ∀ (l cur : List Nat), (∀ w ∈ TL.spl [s] 0 cur l, w.length ≤ cur.length + l.length ∧ ∀ c ∈ w, c ∈ cur ∨ c ∈ l) ∧ (TL.spl [s] 0 cur l).length ≤ l.length + 1
  | [], cur => by
    rw [TL.spl_nil]
    refine ⟨fun w h => ?_, Nat.le_refl _⟩
    rw [List.mem_singleton.mp h]
    exact ⟨by simp, fun c hc => .inl hc⟩
  | c :: r, cur => by
    unfold TL.spl
    split
    · obtain ⟨h1, h2⟩ := sp_len s r []
      have h1' : ∀ w ∈ TL.spl [s] ([s].length - 1) [] r, w.length ≤ ([] : List Nat).length + r.length ∧ ∀ c ∈ w, c ∈ ([] : List Nat) ∨ c ∈ r := h1
      have h2' : (TL.spl [s] ([s].length - 1) [] r).length ≤ r.length + 1 := h2
      refine ⟨fun w h => ?_, by show (TL.spl [s] ([s].length - 1) [] r).length + 1 ≤ (r.length + 1) + 1; omega⟩
      rcases List.mem_cons.mp h with h | h
      · rw [h]; exact ⟨by simp, fun d hd => .inl hd⟩
      · obtain ⟨a, b⟩ := h1' w h
        rw [List.length_nil] at a
        refine ⟨by rw [List.length_cons]; omega, fun d hd => ?_⟩
        rcases b d hd with z | z
        · cases z
        · exact .inr (List.mem_cons_of_mem _ z)
    · obtain ⟨h1, h2⟩ := sp_len s r (cur ++ [c])
      refine ⟨fun w h => ?_, by rw [List.length_cons]; omega⟩
      obtain ⟨a, b⟩ := h1 w h
      rw [List.length_append, List.length_singleton] at a
      refine ⟨by rw [List.length_cons]; omega, fun d hd => ?_⟩
      rcases b d hd with z | z
      · rcases List.mem_append.mp z with z | z
        · exact .inl z
        · rw [List.mem_singleton.mp z]; exact .inr List.mem_cons_self
      · exact .inr (List.mem_cons_of_mem _ z)
theorem sp_asc {s : Nat} {w : List Nat} (h : Asc w) : (∀ p ∈ TL.spl [s] 0 [] w, Asc p) ∧ (TL.spl [s] 0 [] w).length ≤ 601 := by
  obtain ⟨h1, h2⟩ := sp_len s w []
  refine ⟨fun p hp => ?_, by have := h.1; omega⟩
  obtain ⟨a, b⟩ := h1 p hp
  refine ⟨by have := h.1; rw [List.length_nil] at a; omega, fun c hc => ?_⟩
  rcases b c hc with z | z
  · cases z
  · exact h.2 c z
abbrev cuts (w : List Nat) : List (List Nat) := TL.spl [44] 0 [] w
theorem split_co {w : List Nat} (h : Asc w) : gSplit (sD w) [sD [44]] = some (.lst ((cuts w).map sD)) := by
  have hz : w.length + 2 ≤ sizeLine := by
    have : sizeLine = 16777216 := by decide
    have := h.1
    omega
  show (if (((S [44] : Str).length == 0) = false ∧ (S w).length + 2 ≤ sizeLine) then some (D.lst ((Txt.split (S w) (S [44])).map D.str)) else none) = _
  rw [if_pos ⟨rfl, by rw [S_len]; exact hz⟩, SX.split_S (by decide) (by decide), List.map_map]
  rfl
def anyBad (w : List Nat) : Bool := (cuts w).any fun p => !intOk p
def intsV (w : List Nat) : D := if anyBad w = true then .non else .lst ((cuts w).map intV)
theorem isNon_intV (p : List Nat) : isNon (intV p) = !intOk p := by
  unfold intV
  cases intOk p <;> rfl
theorem cuts_le {w : List Nat} (h : Asc w) : (cuts w).length ≤ sizeLine := by
  have : sizeLine = 16777216 := by decide
  have := (sp_asc (s := 44) h).2
  show (TL.spl [44] 0 [] w).length ≤ _
  omega
theorem lc_ints {F : FN} {w : List Nat} {ρ0 : En} (h : Asc w) (hF : ∀ p, Asc p → ∀ ρ, (F [sD p]).R ρ = .ok (intV p) ρ) (h0 : ρ0[0]? = some (some (sD w))) (hi : 2 < ρ0.length) :
    mLc [2] (mIter (mM gSplit (mVar 0) (mCons (mK (.str ",")) mNil))) (mgName 2) mYes (mCall F (mCons (mVar 2) mNil)) ρ0 = .ok (.lst ((cuts w).map intV)) ρ0 := by
  let f : D → D := fun d => match d with
    | .str z => intV z.cps.toList
    | _ => .non
  have e : ((cuts w).map sD).map f = (cuts w).map intV := by
    rw [List.map_map]
    rfl
  rw [← e]
  refine mLc_map (f := f) hi ?_ (by rw [List.length_map]; exact cuts_le h) fun d hd => ?_
  · simp -implicitDefEqProofs [h0, l_co, isStr, split_co h, gIter]
  · obtain ⟨p, hp, rfl⟩ := List.mem_map.mp hd
    have := hF p ((sp_asc h).1 p hp)
    have t : f (sD p) = intV p := rfl
    have s2 : (ρ0.set 2 (some (sD p)))[2]? = some (some (sD p)) := List.getElem?_set_self hi
    rw [t]
    simp -implicitDefEqProofs only [mCall_R, mCons_ap, mVar_ap, s2, bind_ok, mNil_ap, this]
def JA0 : MS := (msAsg (mLc [2] (mIter (mM gSplit (mVar 0) (mCons (mK (.str ",")) mNil))) (mgName 2) mYes (mCall Finteger_in (mCons (mVar 2) mNil))) (mgName 1))
def JA1 : MS := (msIf (mTru (mN gAny (mCons (mLc [3] (mIter (mVar 1)) (mgName 3) mYes (m2 gIs (mVar 3) (mK .non))) mNil))) (msRet (mK .non)) msNil)
def JA2 : MS := (msRet (mVar 1))
theorem mintegers_in_eq : mintegers_in = (msSeq JA0 (msSeq JA1 JA2)) := rfl
def JB0 : MS := (msAsg (mLc [2] (mIter (mM gSplit (mVar 0) (mCons (mK (.str ",")) mNil))) (mgName 2) mYes (mCall F_law_integer_in (mCons (mVar 2) mNil))) (mgName 1))
def JB1 : MS := (msRet (mIf (mTest (m2 gIn (mK .non) (mVar 1))) (mK .non) (mVar 1)))
theorem m_law_integers_in_eq : m_law_integers_in = (msSeq JB0 JB1) := rfl
theorem fin4 {m : MS} {n : Nat} {d : D} {ρ ρ1 : En} {w : D} (h : m (pad n [w]) = .rt d ρ1) : (runM n 1 [] false m [w]).R ρ = .ok d ρ := by
  unfold runM
  rw [List.append_nil, if_pos (show [w].length = 1 from rfl), h]
  rfl
theorem v_integers_in {w : List Nat} (h : Asc w) (ρ : En) : (Fintegers_in [sD w]).R ρ = .ok (intsV w) ρ := by
  have lc := lc_ints (F := Finteger_in) (ρ0 := [some (sD w), none, none, none]) h (fun p hp ρ => v_integer_in hp ρ) rfl (by simp)
  have an : mN gAny (mCons (mLc [3] (mIter (mVar 1)) (mgName 3) mYes (m2 gIs (mVar 3) (mK .non))) mNil) [some (sD w), some (.lst ((cuts w).map intV)), none, none] = .ok (.bl (anyBad w)) [some (sD w), some (.lst ((cuts w).map intV)), none, none] := by
    have l := mLc_map (i := 3) (ρ0 := [some (sD w), some (.lst ((cuts w).map intV)), none, none]) (mi := mIter (mVar 1)) (me := m2 gIs (mVar 3) (mK .non)) (f := fun d => .bl (isNon d)) (ds := (cuts w).map intV) (by simp) (by simp -implicitDefEqProofs [gIter]) (by rw [List.length_map]; exact cuts_le h) (fun d hd => by simp -implicitDefEqProofs)
    rw [mN_ap, mCons_ap, l, bind_ok, mNil_ap, bind_ok, bind_ok]
    have e : ((cuts w).map intV).map (fun d => D.bl (isNon d)) = ((cuts w).map fun p => !intOk p).map D.bl := by
      rw [List.map_map, List.map_map]
      refine List.map_congr_left fun p _ => ?_
      show D.bl (isNon (intV p)) = D.bl (!intOk p)
      rw [isNon_intV]
    have g : gAny [.lst (((cuts w).map intV).map (fun d => D.bl (isNon d)))] = some (.bl (anyBad w)) := by
      rw [e]
      show (asBls (((cuts w).map fun p => !intOk p).map D.bl)).map (fun bs => D.bl (bs.any id)) = _
      rw [asBls_map]
      show some (D.bl (((cuts w).map fun p => !intOk p).any id)) = _
      rw [List.any_map]
      rfl
    rw [g, ret_some]
  unfold intsV
  refine fin4 (ρ1 := [some (sD w), some (.lst ((cuts w).map intV)), none, none]) ?_
  rw [mintegers_in_eq]
  refine seq_nx (ρ1 := [some (sD w), some (.lst ((cuts w).map intV)), none, none]) ?_ ?_
  · show JA0 [some (sD w), none, none, none] = _
    simp -implicitDefEqProofs [JA0, lc]
  cases k : anyBad w with
  | true =>
    rw [k] at an
    refine seq_rt ?_
    simp -implicitDefEqProofs [JA1, an, -mN_ap]
  | false =>
    rw [k] at an
    refine seq_nx (ρ1 := [some (sD w), some (.lst ((cuts w).map intV)), none, none]) ?_ ?_
    · simp -implicitDefEqProofs [JA1, an, -mN_ap]
    · simp -implicitDefEqProofs [JA2]
def intP (p : List Nat) : PyData := if intOk p = true then .int (intI p) else .none
theorem py_ints : ∀ ps : List (List Nat), pyAll (ps.map intV) = some (ps.map intP)
  | [] => rfl
  | p :: r => by
    rw [List.map_cons]
    unfold pyAll
    rw [py_ints r]
    have : (intV p).py = some (intP p) := by unfold intV intP; cases intOk p <;> rfl
    rw [this]
    rfl
theorem lay_ints : ∀ ps : List (List Nat), PyData.canLayAll0 (ps.map intP) = true ∧ PyData.depthAll (ps.map intP) = 0
  | [] => ⟨rfl, rfl⟩
  | p :: r => by
    rw [List.map_cons]
    unfold PyData.canLayAll0 PyData.depthAll
    rw [(lay_ints r).1, (lay_ints r).2]
    unfold intP
    cases intOk p <;> exact ⟨rfl, rfl⟩
theorem none_in (ps : List (List Nat)) : gIn .non (.lst (ps.map intV)) = some (.bl (ps.any fun p => !intOk p)) := by
  show (inD .non (.lst (ps.map intV))).map D.bl = _
  have e : inD .non (.lst (ps.map intV)) = (match D.py .non, pyAll (ps.map intV) with
    | some x, some ys => if SeqAt.shaped x = true ∧ SeqAt.shaped (.list ys) = true then some (ys.any fun z => PyData.eqv z x) else none
    | _, _ => none) := rfl
  have s1 : SeqAt.shaped .none = true := by decide
  have s2 : SeqAt.shaped (.list (ps.map intP)) = true := by
    unfold SeqAt.shaped PyData.canLay0
    rw [(lay_ints ps).1, Bool.true_and]
    unfold PyData.depth
    rw [(lay_ints ps).2]
    rfl
  have e2 : D.py .non = some .none := rfl
  rw [e, e2, py_ints]
  show (if _ then some _ else none : Option Bool).map D.bl = _
  rw [if_pos ⟨s1, s2⟩]
  show some (D.bl _) = _
  congr 2
  rw [List.any_map]
  congr 1
  funext p
  show PyData.eqv (intP p) .none = _
  unfold intP
  cases intOk p <;> rfl
theorem v_law_integers_in {w : List Nat} (h : Asc w) (ρ : En) : (F_law_integers_in [sD w]).R ρ = .ok (intsV w) ρ := by
  have lc := lc_ints (F := F_law_integer_in) (ρ0 := [some (sD w), none, none]) h (fun p hp ρ => v_law_integer_in hp ρ) rfl (by simp)
  have ni := none_in (cuts w)
  unfold intsV
  refine fin4 (ρ1 := [some (sD w), some (.lst ((cuts w).map intV)), none]) ?_
  rw [m_law_integers_in_eq]
  refine seq_nx (ρ1 := [some (sD w), some (.lst ((cuts w).map intV)), none]) ?_ ?_
  · show JB0 [some (sD w), none, none] = _
    simp -implicitDefEqProofs [JB0, lc]
  have e : ((cuts w).any fun p => !intOk p) = anyBad w := rfl
  rw [e] at ni
  cases k : anyBad w with
  | true =>
    rw [k] at ni
    simp -implicitDefEqProofs [JB1, ni]
  | false =>
    rw [k] at ni
    simp -implicitDefEqProofs [JB1, ni]
end K93
namespace K93
open DL L2 PySem PySem.Spec PyProof.Rows
theorem shown_of {d : D} {x : PyData} (hp : d.py = some x) (hs : x.showable = true) (hl : x.shown.length ≤ sizeLine) (hd : x.depth ≤ 60) : ∃ z, shownD d = some z := by
  refine ⟨x.shown, ?_⟩
  unfold shownD
  rw [hp]
  exact if_pos ⟨hs, hl, hd⟩
theorem py_lst {ds : List D} {ps : List PyData} (h : pyAll ds = some ps) : (D.lst ds).py = some (.list ps) := by
  unfold D.py
  rw [h]
  rfl
theorem strs_short : ∀ ws : List (List Nat), (∀ w ∈ ws, Asc w) → PyData.leavesShortAll 8 (ws.map fun w => PyData.str (S w)) = true ∧ PyData.weightAll (ws.map fun w => PyData.str (S w)) ≤ 601 * ws.length ∧ PyData.showableAll (ws.map fun w => PyData.str (S w)) = true
  | [], _ => ⟨rfl, Nat.le_refl _, rfl⟩
  | w :: r, h => by
    obtain ⟨h1, h2, h3⟩ := strs_short r fun z hz => h z (List.mem_cons_of_mem _ hz)
    have hw := h w List.mem_cons_self
    rw [List.map_cons]
    unfold PyData.leavesShortAll PyData.weightAll PyData.showableAll
    rw [h1, h3, Bool.and_true, Bool.and_true]
    refine ⟨?_, ?_, ?_⟩
    · unfold PyData.leavesShort
      rw [List.all_eq_true]
      intro c hc
      have := hw.2 c hc
      exact decide_eq_true (by omega)
    · have e : (PyData.str (S w)).weight = w.length := by
        unfold PyData.weight
        simp [S, SX.S]
      rw [e, List.length_cons]
      have := hw.1
      omega
    · unfold PyData.showable
      rfl
theorem shown_words {l : List Nat} (h : Asc l) : ∃ z, shownD (wordsV l) = some z := by
  unfold wordsV
  split
  · obtain ⟨h1, h2⟩ := sp_asc (s := 32) h
    obtain ⟨a, b, c⟩ := strs_short (spl l) h1
    refine shown_of (py_lst (py_strs _)) ?_ ?_ ?_
    · unfold PyData.showable
      exact c
    · have k := PyData.shown_le 8 (by decide) (.list ((spl l).map fun w => PyData.str (S w))) (by unfold PyData.leavesShort; exact a)
      have w1 : (PyData.list ((spl l).map fun w => PyData.str (S w))).weight = PyData.weightAll ((spl l).map fun w => PyData.str (S w)) := by unfold PyData.weight; rfl
      rw [w1] at k
      have z : sizeLine = 16777216 := by decide
      have h2' : (spl l).length ≤ 601 := h2
      omega
    · unfold PyData.depth
      rw [dep_strs]
      decide
  · exact shown_non
theorem shown_name (w : List Nat) : ∃ z, shownD (nameV w) = some z := shown_bl _
theorem int_len2 {a : Int} (h : a.natAbs < 2 ^ 1900) : (PyData.shown (.int a)).length ≤ 2000 := by
  have : PyData.shown (.int a) = Str.ofString (toString a) := by simp only [PyData.shown] <;> rfl
  rw [this]
  exact int_len h
theorem shown_int {a : Int} (h : a.natAbs < 2 ^ 1900) : ∃ z, shownD (.int a) = some z := by
  have l1 := lg h (by decide)
  refine shown_of (x := .int a) rfl ?_ ?_ ?_
  · simp only [PyData.showable, decide_eq_true_eq]; omega
  · have := int_len2 h
    have z : sizeLine = 16777216 := by decide
    omega
  · simp [PyData.depth]
theorem shown_num {w : List Nat} (h : Asc w) : ∃ z, shownD (numV w) = some z := by
  unfold numV
  cases k : numOk w with
  | true =>
    unfold numOk at k
    rw [Bool.and_eq_true, Bool.and_eq_true, Bool.and_eq_true] at k
    have v := val_lt (digs_all k.2.2.1)
    have l2 := of_decide_eq_true k.2.1
    have p : 10 ^ w.length ≤ 10 ^ 2 := Nat.pow_le_pow_right (by decide) l2
    refine shown_int ?_
    have : ((NumText.digitsVal w : Nat) : Int).natAbs < 2 ^ 7 := by omega
    exact Nat.lt_of_lt_of_le this (Nat.pow_le_pow_right (by decide) (by decide))
  | false => exact shown_non
theorem intI_lt {p : List Nat} (h : intOk p = true) : (intI p).natAbs < 2 ^ 1900 := by
  rw [intOk_fig] at h
  rw [Bool.and_eq_true] at h
  have k := h.1
  unfold figOk at k
  rw [Bool.and_eq_true, Bool.and_eq_true] at k
  have v := val_lt (digs_all k.2.2)
  have l2 := of_decide_eq_true k.2.1
  have b : NumText.digitsVal (fig p) < 2 ^ 1900 := Nat.lt_of_lt_of_le v (Nat.le_trans (Nat.pow_le_pow_right (by decide) l2) (Nat.le_trans (ten_two 400) (Nat.pow_le_pow_right (by decide) (by decide))))
  unfold intI
  split
  · rw [Int.natAbs_neg]; exact b
  · exact b
theorem ints_short : ∀ ps : List (List Nat), PyData.showableAll (ps.map intP) = true ∧ ((PyData.shownAll (ps.map intP)).map (·.length)).sum ≤ 2000 * ps.length ∧ (PyData.shownAll (ps.map intP)).length = ps.length
  | [] => ⟨rfl, Nat.le_refl _, rfl⟩
  | p :: r => by
    obtain ⟨h1, h2, h3⟩ := ints_short r
    rw [List.map_cons]
    unfold PyData.showableAll PyData.shownAll
    rw [h1, Bool.and_true, List.map_cons, List.sum_cons, List.length_cons, List.length_cons, h3]
    cases k : intOk p with
    | true =>
      have e : intP p = .int (intI p) := if_pos k
      rw [e]
      have b := intI_lt k
      have l1 := lg b (by decide)
      have l2 := int_len2 b
      refine ⟨?_, ?_, rfl⟩
      · show PyData.showable (.int (intI p)) = true
        simp only [PyData.showable, decide_eq_true_eq]; omega
      · show (PyData.shown (.int (intI p))).length + _ ≤ _
        omega
    | false =>
      have e : intP p = .none := if_neg (by rw [k]; decide)
      rw [e]
      have l2 : (PyData.shown .none).length = 4 := rfl
      refine ⟨by show PyData.showable .none = true; simp [PyData.showable], ?_, rfl⟩
      show (PyData.shown .none).length + _ ≤ _
      omega
theorem shown_ints {w : List Nat} (h : Asc w) : ∃ z, shownD (intsV w) = some z := by
  unfold intsV
  split
  · exact shown_non
  · obtain ⟨a, b, c⟩ := ints_short (cuts w)
    have n : (cuts w).length ≤ 601 := (sp_asc (s := 44) h).2
    refine shown_of (py_lst (py_ints _)) ?_ ?_ ?_
    · unfold PyData.showable
      exact a
    · have e : (PyData.list ((cuts w).map intP)).shown = listText (PyData.shownAll ((cuts w).map intP)) := by unfold PyData.shown; rfl
      rw [e]
      have k := listText_len_le (PyData.shownAll ((cuts w).map intP))
      have z : sizeLine = 16777216 := by decide
      omega
    · unfold PyData.depth
      rw [(lay_ints _).2]
      decide
end K93
namespace K93
open DL L2 PySem PySem.Spec PyProof.Rows
def Tx (n : Nat) (d : D) : Prop := ∃ w : List Nat, d = sD w ∧ w.length ≤ n ∧ ∀ c ∈ w, c < 128
theorem Tx.up {n m : Nat} {d : D} (h : Tx n d) (k : n ≤ m) : Tx m d := by
  obtain ⟨w, e, l, a⟩ := h
  exact ⟨w, e, Nat.le_trans l k, a⟩
theorem Tx.asc {n : Nat} {d : D} (h : Tx n d) (k : n ≤ 600) : ∃ w, d = sD w ∧ Asc w := by
  obtain ⟨w, e, l, a⟩ := h
  exact ⟨w, e, Nat.le_trans l k, a⟩
theorem tx_lit {n : Nat} (w : List Nat) (h : decide (w.length ≤ n) = true) (h2 : w.all (fun c => decide (c < 128)) = true) : Tx n (sD w) :=
  ⟨w, rfl, of_decide_eq_true h, fun c hc => of_decide_eq_true (List.all_eq_true.mp h2 c hc)⟩
theorem tx_add {n m : Nat} {a b : D} (ha : Tx n a) (hb : Tx m b) (h : n + m ≤ 10000) : ∃ z, gAdd a b = some z ∧ Tx (n + m) z := by
  obtain ⟨u, rfl, l1, a1⟩ := ha
  obtain ⟨v, rfl, l2, a2⟩ := hb
  have z : sizeLine = 16777216 := by decide
  refine ⟨_, gAdd_S u v (by omega), u ++ v, rfl, by rw [List.length_append]; omega, fun c hc => ?_⟩
  rcases List.mem_append.mp hc with k | k
  · exact a1 c k
  · exact a2 c k
theorem tx_sl {n : Nat} {a : D} (ha : Tx n a) (h : n ≤ 10000) (lo hi : Option Int) : ∃ z, gSl a lo hi = some z ∧ Tx n z := by
  obtain ⟨u, rfl, l1, a1⟩ := ha
  have z : sizeLine = 16777216 := by decide
  refine ⟨.str (L2.cutS (S u) lo hi), ?_, ((u.drop (HT.sIx (S u).length 0 lo)).take (HT.sIx (S u).length (S u).length hi - HT.sIx (S u).length 0 lo)), rfl, ?_, fun c hc => a1 c (List.mem_of_mem_drop (List.mem_of_mem_take hc))⟩
  · show (if (S u).length ≤ sizeLine then some (D.str (L2.cutS (S u) lo hi)) else none) = _
    rw [if_pos (by rw [S_len]; omega)]
  · rw [List.length_take, List.length_drop]
    omega
theorem dbl_tx : ∀ (w : List Nat), (StrLaws.dbl 32 w).length ≤ 2 * w.length ∧ ∀ c ∈ StrLaws.dbl 32 w, c ∈ w
  | [] => ⟨Nat.le_refl _, fun c h => h⟩
  | k :: r => by
    obtain ⟨h1, h2⟩ := dbl_tx r
    unfold StrLaws.dbl
    split
    · refine ⟨by rw [List.length_cons, List.length_cons, List.length_cons]; omega, fun c hc => ?_⟩
      rcases List.mem_cons.mp hc with z | z
      · rw [z]; exact List.mem_cons_self
      · rcases List.mem_cons.mp z with z | z
        · rw [z]; exact List.mem_cons_self
        · exact List.mem_cons_of_mem _ (h2 c z)
    · refine ⟨by rw [List.length_cons, List.length_cons]; omega, fun c hc => ?_⟩
      rcases List.mem_cons.mp hc with z | z
      · rw [z]; exact List.mem_cons_self
      · exact List.mem_cons_of_mem _ (h2 c z)
theorem tx_dbl {n : Nat} {a : D} (ha : Tx n a) (h : n ≤ 10000) : ∃ z, gRepl " " "  " a = some z ∧ Tx (2 * n) z := by
  obtain ⟨u, rfl, l1, a1⟩ := ha
  refine ⟨.str (Txt.replace (S u) " " "  "), ?_, StrLaws.dbl 32 u, ?_, ?_, ?_⟩
  · show (if (S u).length + ((S u).length + 1) * ("  " : Str).length ≤ 16777216 then some (D.str (Txt.replace (S u) " " "  ")) else none) = _
    rw [if_pos (by
      rw [S_len]
      have : ("  " : Str).length = 2 := rfl
      rw [this]
      omega)]
  · congr 1
    exact replace_dbl (S u) " " "  " 32 rfl rfl
  · have := (dbl_tx u).1
    omega
  · intro c hc
    exact a1 c ((dbl_tx u).2 c hc)
theorem tx_str {a : Int} {k : Nat} (hk : 0 < k) (h : a.natAbs < 10 ^ k) (hl : k ≤ 400) : ∃ z, gStr [.int a] = some z ∧ Tx (k + 1) z := by
  have lg2 : a.natAbs.log2 < 1920 := by
    by_cases z : a.natAbs = 0
    · rw [z]; decide
    · refine (Nat.log2_lt z).mpr (Nat.lt_of_lt_of_le h (Nat.le_trans (Nat.pow_le_pow_right (by decide) hl) (Nat.le_trans (ten_two 400) (Nat.pow_le_pow_right (by decide) (by decide)))))
  have len := TL.numL_len hk h
  have dg : ∀ c ∈ TL.numL a.natAbs, c < 128 := fun c hc => by
    have := TL.numL_digits a.natAbs c hc
    omega
  rcases Int.natAbs_eq a with e | e
  · rw [e]
    exact ⟨_, str_nat lg2, _, rfl, by omega, dg⟩
  · by_cases z : a.natAbs = 0
    · rw [e, z]
      exact ⟨_, str_nat (n := 0) (by decide), _, rfl, by
        rw [TL.numL_lt (by decide)]
        simp, fun c hc => by
        rw [TL.numL_lt (by decide)] at hc
        rw [List.mem_singleton.mp hc]
        decide⟩
    · rw [e]
      refine ⟨_, str_negn lg2 (by omega), _, rfl, by rw [List.length_cons]; omega, fun c hc => ?_⟩
      rcases List.mem_cons.mp hc with z | z
      · rw [z]; decide
      · exact dg c z
theorem asStrs_S : ∀ ws : List (List Nat), asStrs (ws.map sD) = some (ws.map S)
  | [] => rfl
  | w :: r => by
    have := asStrs_S r
    rw [List.map_cons, List.map_cons]
    unfold asStrs
    rw [this]
    rfl
theorem joinL_le (s : List Nat) : ∀ ws : List (List Nat), (TL.joinL s ws).length ≤ (ws.map (·.length)).sum + ws.length * s.length ∧ ∀ c ∈ TL.joinL s ws, c ∈ s ∨ ∃ w ∈ ws, c ∈ w
  | [] => ⟨Nat.zero_le _, fun c h => nomatch h⟩
  | [p] => by
    refine ⟨by simp [TL.joinL], fun c hc => .inr ⟨p, List.mem_cons_self, hc⟩⟩
  | p :: q :: r => by
    obtain ⟨h1, h2⟩ := joinL_le s (q :: r)
    have e : TL.joinL s (p :: q :: r) = p ++ (s ++ TL.joinL s (q :: r)) := rfl
    rw [e]
    refine ⟨?_, fun c hc => ?_⟩
    · rw [List.length_append, List.length_append, List.map_cons, List.sum_cons, List.length_cons, Nat.succ_mul]
      omega
    · rcases List.mem_append.mp hc with z | z
      · exact .inr ⟨p, List.mem_cons_self, z⟩
      · rcases List.mem_append.mp z with z | z
        · exact .inl z
        · rcases h2 c z with z | ⟨w, hw, z⟩
          · exact .inl z
          · exact .inr ⟨w, List.mem_cons_of_mem _ hw, z⟩
theorem sum_le {k : Nat} : ∀ {ws : List (List Nat)}, (∀ w ∈ ws, w.length ≤ k) → (ws.map (·.length)).sum ≤ ws.length * k
  | [], _ => by simp
  | w :: r, h => by
    have h1 := sum_le (ws := r) fun z hz => h z (List.mem_cons_of_mem _ hz)
    have h2 := h w List.mem_cons_self
    rw [List.map_cons, List.sum_cons, List.length_cons, Nat.succ_mul]
    omega
theorem join_S' (s : List Nat) (ws : List (List Nat)) (h : (ws.map (·.length)).sum + ws.length * s.length ≤ 16777216) : gJoin (sD s) [.lst (ws.map sD)] = some (sD (TL.joinL s ws)) := by
  unfold gJoin
  show (match asStrs (ws.map sD) with | some ys => if (List.map Str.length ys).sum + ys.length * (S s).length ≤ 16777216 then some (D.str (Txt.join (S s) ys)) else none | none => none) = _
  rw [asStrs_S]
  show (if ((ws.map S).map (·.length)).sum + (ws.map S).length * (S s).length ≤ 16777216 then some (D.str (Txt.join (S s) (ws.map S))) else none) = _
  have e : (ws.map S).map (·.length) = ws.map (·.length) := SX.lens ws
  rw [e, List.length_map, S_len, if_pos h, SX.join_S]
theorem join_sgl : ∀ cs : List Nat, TL.joinL [] (cs.map fun c => [c]) = cs
  | [] => rfl
  | [c] => rfl
  | c :: d :: r => by
    have := join_sgl (d :: r)
    show [c] ++ ([] ++ TL.joinL [] ((d :: r).map fun c => [c])) = _
    rw [this]
    rfl
end K93
namespace K93
open DL L2 PySem PySem.Spec PyProof.Rows
abbrev dl (l : List Int) : D := .lst (l.map D.int)
theorem fm_rng (x : Int) {m : Int} (h : 0 < m) : 0 ≤ x.fmod m ∧ x.fmod m < m := by
  rw [Int.fmod_eq_emod_of_nonneg _ (by omega)]
  exact ⟨Int.emod_nonneg _ (by omega), Int.emod_lt_of_pos _ h⟩
theorem io_next (l : List Int) (r : En) : mCallIo F_law_next 0 mNil (some (dl l) :: r) = .ok (.int (drawI l)) (some (dl l.dropLast) :: r) := by
  rw [mCallIo_ap, getO_0]
  simp -implicitDefEqProofs [getO_0, e_next, qNext_v]
theorem io_next1 (x : Option D) (l : List Int) (r : En) : mCallIo F_law_next 1 mNil (x :: some (dl l) :: r) = .ok (.int (drawI l)) (x :: some (dl l.dropLast) :: r) := by
  rw [mCallIo_ap, getO_1]
  simp -implicitDefEqProofs [getO_1, e_next, qNext_v]
theorem lc_drawL {i : Nat} {me : ME} {P : Nat → Prop} {E : List Int → Option D → En} (hs : ∀ l o o', (E l o).set i o' = E l o') (hl : ∀ l o, i < (E l o).length)
    (hm : ∀ l d, ∃ c l', P c ∧ me (E l (some d)) = .ok (sD [c]) (E l' (some d))) : ∀ (ds : List D) (l : List Int) (o : Option D),
    ∃ (cs : List Nat) (l' : List Int) (o' : Option D), lcLoop [i] (mgName i) mYes me ds (E l o) = .ok (cs.map fun c => sD [c]) (E l' o') ∧ cs.length = ds.length ∧ ∀ c ∈ cs, P c
  | [], l, o => ⟨[], l, o, rfl, rfl, fun c h => nomatch h⟩
  | d :: r, l, o => by
    obtain ⟨c, l1, hc, e1⟩ := hm l d
    obtain ⟨cs, l2, o2, e2, n2, p2⟩ := lc_drawL hs hl hm r l1 (some d)
    have w : wipeE (E l o) [i] = E l none := hs l o none
    have g1 : mgName i d (E l none) = .ok () (E l (some d)) := by
      rw [mgName_ap, if_pos (hl l none), hs]
    have hY : mYes (E l (some d)) = .ok true (E l (some d)) := rfl
    refine ⟨c :: cs, l2, o2, ?_, by rw [List.length_cons, List.length_cons, n2], fun x hx => ?_⟩
    · simp only [lcLoop, w, g1, hY, e1, e2, List.map_cons]
    · rcases List.mem_cons.mp hx with z | z
      · rw [z]; exact hc
      · exact p2 x z
theorem mLc_draw {i : Nat} {me : ME} {P : Nat → Prop} {mi : En → R (List D)} {E : List Int → Option D → En} {ρ : En} {l : List Int} {o : Option D} {ds : List D} (hs : ∀ l o o', (E l o).set i o' = E l o') (hl : ∀ l o, i < (E l o).length) (hg : (E l o)[i]? = some o)
    (hm : ∀ l d, ∃ c l', P c ∧ me (E l (some d)) = .ok (sD [c]) (E l' (some d))) (hi : mi ρ = .ok ds (E l o)) (hz : ds.length ≤ sizeLine) :
    ∃ (cs : List Nat) (l' : List Int), mLc [i] mi (mgName i) mYes me ρ = .ok (.lst (cs.map fun c => sD [c])) (E l' o) ∧ cs.length = ds.length ∧ ∀ c ∈ cs, P c := by
  obtain ⟨cs, l', o', e, n, p⟩ := lc_drawL hs hl hm ds l o
  refine ⟨cs, l', ?_, n, p⟩
  have r : restE (E l o) [i] (E l' o') = E l' o := by
    show (E l' o').set i (match (E l o)[i]? with | some o => o | none => none) = _
    rw [hg]
    exact hs _ _ _
  rw [mLc_ap, hi, bind_ok, e]
  show (if (cs.map fun c => sD [c]).length ≤ sizeLine then R.ok (D.lst (cs.map fun c => sD [c])) (restE (E l o) [i] (E l' o')) else R.bad) = _
  rw [if_pos (by rw [List.length_map, n]; exact hz), r]
theorem ix_S {T : List Nat} {k : Int} (h0 : 0 ≤ k) (h1 : k < T.length) (hT : T.length ≤ sizeLine) : ∃ c, c ∈ T ∧ gIx (sD T) (.int k) = some (sD [c]) := by
  obtain ⟨n, rfl⟩ : ∃ n : Nat, k = n := ⟨k.toNat, by omega⟩
  have hn : n < T.length := by omega
  refine ⟨T[n], List.getElem_mem hn, ?_⟩
  show (if (S T).length ≤ sizeLine then (L2.atI T (n : Int)).map (fun c => D.str ⟨#[c]⟩) else none) = _
  rw [if_pos (by rw [S_len]; exact hT)]
  have e : L2.atI T (n : Int) = some T[n] := by
    unfold L2.atI L2.ixN
    simp [hn]
  rw [e]
  rfl
theorem join_cs (cs : List Nat) (h : cs.length ≤ 10000) : gJoin (sD []) [.lst (cs.map fun c => sD [c])] = some (sD cs) := by
  have e : (cs.map fun c => sD [c]) = (cs.map fun c => [c]).map sD := by rw [List.map_map]; rfl
  have s1 := sum_le (k := 1) (ws := cs.map fun c => [c]) fun w hw => by
    obtain ⟨c, _, rfl⟩ := List.mem_map.mp hw
    exact Nat.le_refl _
  rw [List.length_map] at s1
  rw [e, join_S' [] _ (by
    rw [List.length_map]
    simp only [List.length_nil]
    omega), join_sgl]
end K93
namespace K93
open DL L2 PySem PySem.Spec PyProof.Rows
def LT : List Nat := [97, 98, 99, 120, 121, 122, 32, 32, 48, 49, 50, 51, 52, 53, 54, 55, 56, 57, 44, 45, 43, 47, 46, 126, 33, 65, 32, 10]
theorem l_LT : D.str "abcxyz  0123456789,-+/.~!A \n" = sD LT := rfl
theorem LT_lt : ∀ c ∈ LT, c < 128 := by decide
def EL (k : Option D) (l : List Int) (o : Option D) : En := [some (dl l), some (sD LT), k, o]
def lnMe : ME := (m2 gIx (mVar 1) (m2 gMod (mN gInt (mCons (mCallIo F_law_next 0 mNil) mNil)) (mN gLen (mCons (mVar 1) mNil))))
theorem lnMe_v (k : Option D) (l : List Int) (d : D) : ∃ c l', c < 128 ∧ lnMe (EL k l (some d)) = .ok (sD [c]) (EL k l' (some d)) := by
  obtain ⟨r0, r1⟩ := fm_rng (drawI l) (m := 28) (by decide)
  obtain ⟨c, hc, e⟩ := ix_S (T := LT) (k := (drawI l).fmod 28) r0 r1 (by decide)
  refine ⟨c, l.dropLast, LT_lt c hc, ?_⟩
  have g := gLen_S (w := LT) (by decide)
  have n : ((LT.length : Nat) : Int) = 28 := rfl
  rw [n] at g
  simp -implicitDefEqProofs [lnMe, EL, io_next, gMod_ii, g, e]
theorem m_law_line_eq : m_law_line = (msSeq (msAsg (mK (.str "abcxyz  0123456789,-+/.~!A \n")) (mgName 1)) (msSeq (msAsg (m2 gMod (mN gInt (mCons (mCallIo F_law_next 0 mNil) mNil)) (mK (.int 24))) (mgName 2)) (msRet (mM gJoin (mK (.str "")) (mCons (mLc [3] (mItN gRange1 (mCons (mVar 2) mNil)) (mgName 3) mYes lnMe) mNil))))) := rfl
theorem run_rt {n np : Nat} {m : MS} {ds : List D} {d : D} {ρ : En} (h : m (pad n ds) = .rt d ρ) (hn : ds.length = np) : runM n np [] false m ds = .rt d (io0 ρ) := by
  unfold runM
  rw [List.append_nil, if_pos hn, h]
theorem v_line (l : List Int) : ∃ d l', F_law_line [dl l] = .rt d (dl l') ∧ Tx 23 d := by
  obtain ⟨r0, r1⟩ := fm_rng (drawI l) (m := 24) (by decide)
  generalize hk : (drawI l).fmod 24 = k at r0 r1
  have ok : okR k = true := by
    unfold okR
    simp
    omega
  have hi : mItN gRange1 (mCons (mVar 2) mNil) (EL (some (.int k)) l.dropLast none) = .ok (rangeL 0 k.toNat) (EL (some (.int k)) l.dropLast none) := by
    simp -implicitDefEqProofs [EL, ok]
  obtain ⟨cs, l', e, n, p⟩ := mLc_draw (i := 3) (me := lnMe) (P := fun c => c < 128) (mi := mItN gRange1 (mCons (mVar 2) mNil)) (E := EL (some (.int k))) (ρ := EL (some (.int k)) l.dropLast none) (l := l.dropLast) (o := none) (fun l o o' => rfl) (fun l o => (by decide : 3 < 4)) rfl (lnMe_v _) hi (by
    rw [rangeL_length]
    have : sizeLine = 16777216 := by decide
    omega)
  rw [rangeL_length] at n
  have hc : cs.length ≤ 23 := by omega
  refine ⟨sD cs, l', ?_, cs, rfl, hc, p⟩
  have j := join_cs cs (by omega)
  have e' : mLc [3] (mItN gRange1 (mCons (mVar 2) mNil)) (mgName 3) mYes lnMe [some (dl l.dropLast), some (sD LT), some (D.int k), none] = _ := e
  have h0 : pad 4 [dl l] = [some (dl l), none, none, none] := rfl
  refine run_rt (ρ := [some (dl l'), some (sD LT), some (D.int k), none]) ?_ rfl
  rw [h0, m_law_line_eq, l_LT, l_em]
  have is : isStr (sD []) = true := rfl
  simp -implicitDefEqProofs [io_next, gMod_ii, hk, e', j, EL, is, -mLc_ap]
end K93
namespace K93
open DL L2 PySem PySem.Spec PyProof.Rows
def rwB : MS := (msSeq (msAsg (m2 gSub (m2 gMod (mN gInt (mCons (mCallIo F_law_next 0 mNil) mNil)) (mK (.int 21))) (mK (.int 10))) (mgName 3)) (msExpr (mOM gAppend 1 (mCons (mN gStr (mCons (m2 gMul (mVar 3) (m2 gIx (mN gLst (mCons (mK (.int 1)) (mCons (mK (.int 1)) (mCons (mK (.int 1000)) (mCons (m2 gPow (mK (.int 10)) (mK (.int 30))) mNil))))) (m2 gMod (mN gInt (mCons (mCallIo F_law_next 0 mNil) mNil)) (mK (.int 4))))) mNil)) mNil))))
theorem m_law_row_word_eq : m_law_row_word = (msForget 1 (msSeq (msOwn 1 (mN gLst mNil)) (msSeq (msFor (mItN gRange1 (mCons (m2 gAdd (mK (.int 1)) (m2 gMod (mN gInt (mCons (mCallIo F_law_next 0 mNil) mNil)) (mK (.int 5)))) mNil)) (mgName 2) rwB) (msRet (mJoinO (mK (.str ",")) 1))))) := rfl
theorem pw : gPow (.int 10) (.int 30) = some (.int (10 ^ 30)) := by
  show (if CPow 10 30 then some (D.int (10 ^ (30 : Int).toNat)) else none) = _
  rw [if_pos ⟨by decide, by decide, by decide⟩]
  rfl
theorem four_le : 4 ≤ sizeLine := by decide
theorem four {x : Int} (h0 : 0 ≤ x) (h1 : x < 4) : x = 0 ∨ x = 1 ∨ x = 2 ∨ x = 3 := by omega
theorem ix4 {x : Int} (h0 : 0 ≤ x) (h1 : x < 4) : ∃ t : Int, gIx (.lst [.int 1, .int 1, .int 1000, .int (10 ^ 30)]) (.int x) = some (.int t) ∧ 0 ≤ t ∧ t ≤ 10 ^ 30 := by
  rcases four h0 h1 with h | h | h | h
  · exact ⟨1, by rw [h]; rfl, by decide, by decide⟩
  · exact ⟨1, by rw [h]; rfl, by decide, by decide⟩
  · exact ⟨1000, by rw [h]; rfl, by decide, by decide⟩
  · exact ⟨10 ^ 30, by rw [h]; rfl, by decide, by decide⟩
def RE (l : List Int) (ws : List (List Nat)) (o2 o3 : Option D) : En := [some (dl l), some (.lst (ws.map sD)), o2, o3]
theorem rw_step (l : List Int) (ws : List (List Nat)) (o2 o3 : Option D) (hz : ws.length < 100) : ∃ (l' : List Int) (w : List Nat) (o3' : Option D), w.length ≤ 41 ∧ (∀ c ∈ w, c < 128) ∧ rwB (RE l ws o2 o3) = .nx (RE l' (ws ++ [w]) o2 o3') := by
  obtain ⟨r0, r1⟩ := fm_rng (drawI l) (m := 21) (by decide)
  obtain ⟨q0, q1⟩ := fm_rng (drawI l.dropLast) (m := 4) (by decide)
  obtain ⟨t, et, t0, t1⟩ := ix4 q0 q1
  generalize hn : (drawI l).fmod 21 - 10 = n
  have hn1 : n.natAbs ≤ 10 := by omega
  have hm : (n * t).natAbs < 10 ^ 40 := by
    rw [Int.natAbs_mul]
    have a1 : t.natAbs ≤ 10 ^ 30 := by omega
    have := Nat.mul_le_mul hn1 a1
    omega
  obtain ⟨z, ez, w, rfl, w1, w2⟩ := tx_str (k := 40) (by decide) hm (by decide)
  have gm := gMul_sm (a := n) (b := t) (i := 10) (j := 110) (by omega) (by omega) (by decide) (by decide) (by decide)
  have gl : DL.gLst [.int 1, .int 1, .int 1000, .int (10 ^ 30)] = some (.lst [.int 1, .int 1, .int 1000, .int (10 ^ 30)]) := rfl
  have sz : ws.length < sizeLine := by
    have : sizeLine = 16777216 := by decide
    omega
  refine ⟨l.dropLast.dropLast, w, some (.int n), w1, w2, ?_⟩
  simp -implicitDefEqProofs [rwB, RE, io_next, gMod_ii, hn, pw, gl, et, gm, ez, getO_1, gAppend, sz, four_le, -Int.reducePow]
theorem rw_loop : ∀ (ds : List D) (l : List Int) (ws : List (List Nat)) (o2 o3 : Option D), ws.length + ds.length ≤ 100 → (∀ w ∈ ws, w.length ≤ 41 ∧ ∀ c ∈ w, c < 128) →
    ∃ (l' : List Int) (ws' : List (List Nat)) (o2' o3' : Option D), loopL (mgName 2) rwB ds (RE l ws o2 o3) = .nx (RE l' ws' o2' o3') ∧ ws'.length = ws.length + ds.length ∧ ∀ w ∈ ws', w.length ≤ 41 ∧ ∀ c ∈ w, c < 128
  | [], l, ws, o2, o3, _, h => ⟨l, ws, o2, o3, rfl, rfl, h⟩
  | d :: r, l, ws, o2, o3, hz, h => by
    rw [List.length_cons] at hz
    obtain ⟨l1, w, o4, w1, w2, e1⟩ := rw_step l ws (some d) o3 (by omega)
    obtain ⟨l', ws', o2', o3', e, n, p⟩ := rw_loop r l1 (ws ++ [w]) (some d) o4 (by rw [List.length_append, List.length_singleton]; omega) (fun x hx => by
      rcases List.mem_append.mp hx with k | k
      · exact h x k
      · rw [List.mem_singleton.mp k]; exact ⟨w1, w2⟩)
    refine ⟨l', ws', o2', o3', ?_, by rw [n, List.length_append, List.length_singleton, List.length_cons]; omega, p⟩
    have s : mgName 2 d (RE l ws o2 o3) = .ok () (RE l ws (some d) o3) := rfl
    rw [← e]
    simp only [loopL, s, e1]
theorem v_row_word (l : List Int) : ∃ d l', F_law_row_word [dl l] = .rt d (dl l') ∧ Tx 210 d := by
  obtain ⟨r0, r1⟩ := fm_rng (drawI l) (m := 5) (by decide)
  generalize hk : 1 + (drawI l).fmod 5 = k
  have ok : okR k = true := by
    unfold okR
    simp
    omega
  obtain ⟨l', ws, o2, o3, e, n, p⟩ := rw_loop (rangeL 0 k.toNat) l.dropLast [] none none (by rw [rangeL_length, List.length_nil]; omega) (fun w h => nomatch h)
  rw [rangeL_length, List.length_nil] at n
  have s1 := sum_le (k := 41) fun w hw => (p w hw).1
  obtain ⟨j1, j2⟩ := joinL_le [44] ws
  have n5 : ws.length ≤ 5 := by omega
  have b1 : ws.length * 41 ≤ 5 * 41 := Nat.mul_le_mul_right _ n5
  have b2 : ws.length * [44].length ≤ 5 * 1 := Nat.mul_le_mul_right _ n5
  have j := join_S' [44] ws (by omega)
  refine ⟨_, l', ?_, TL.joinL [44] ws, rfl, by omega, fun c hc => ?_⟩
  · have e' : loopL (mgName 2) rwB (rangeL 0 k.toNat) [some (dl l.dropLast), some (.lst []), none, none] = _ := e
    refine run_rt (ρ := [some (dl l'), some (.lst (ws.map sD)), o2, o3]) ?_ rfl
    have h0 : pad 4 [dl l] = [some (dl l), none, none, none] := rfl
    rw [h0, m_law_row_word_eq, l_co]
    have is : isStr (sD [44]) = true := rfl
    simp -implicitDefEqProofs [io_next, gMod_ii, hk, ok, e', RE, mJoinO, getO_1, j, is]
  · rcases j2 c hc with z | ⟨w, hw, z⟩
    · rw [List.mem_singleton.mp z]; decide
    · exact (p w hw).2 c z
end K93
namespace K93
open DL L2 PySem PySem.Spec PyProof.Rows
theorem gl_to {w : List Nat} {i : Int} (h : w.length ≤ sizeLine) (h0 : 0 ≤ i) : gSl (sD w) none (some i) = some (sD (w.take i.toNat)) := by
  show (if (S w).length ≤ sizeLine then some (D.str (L2.cutS (S w) none (some i))) else none) = _
  rw [if_pos (by rw [S_len]; exact h), C8.cutS_slice, SX.slice_to h0]
theorem gl_from {w : List Nat} {i : Int} (h : w.length ≤ sizeLine) (h0 : 0 ≤ i) : gSl (sD w) (some i) none = some (sD (w.drop i.toNat)) := by
  show (if (S w).length ≤ sizeLine then some (D.str (L2.cutS (S w) (some i) none)) else none) = _
  rw [if_pos (by rw [S_len]; exact h), C8.cutS_slice, SX.slice_from h0]
def SPT : List Nat := [48, 49, 50, 51, 52, 53, 54, 55, 56, 57, 45, 43, 44, 32, 97]
theorem l_SPT : D.str "0123456789-+, a" = sD SPT := rfl
theorem SPT_lt : ∀ c ∈ SPT, c < 128 := by decide
theorem three3 {x : Int} (h0 : 0 ≤ x) (h1 : x < 3) : x = 0 ∨ x = 1 ∨ x = 2 := by omega
theorem tk_mem {w : List Nat} {k : Nat} {c : Nat} (h : c ∈ w.take k) : c ∈ w := List.mem_of_mem_take h
theorem v_spoilt (l : List Int) {n : Nat} {d : D} (h : Tx n d) (hn : n ≤ 500) : ∃ d' l', F_law_spoilt [dl l, d] = .rt d' (dl l') ∧ Tx (n + 1) d' := by
  obtain ⟨w, rfl, wl, wa⟩ := h
  have sz : sizeLine = 16777216 := by decide
  have ws : w.length ≤ sizeLine := by omega
  have gl := gLen_S ws
  have np : (0 : Int) < (w.length : Nat) + 1 := by omega
  obtain ⟨a0, a1⟩ := fm_rng (drawI l) np
  obtain ⟨b0, b1⟩ := fm_rng (drawI l.dropLast) (m := 15) (by decide)
  obtain ⟨c0, c1⟩ := fm_rng (drawI l.dropLast.dropLast) (m := 3) (by decide)
  obtain ⟨c, hc, ec⟩ := ix_S (T := SPT) b0 b1 (by decide)
  have hne : ((w.length : Nat) : Int) + 1 ≠ 0 := by omega
  generalize hk : (drawI l).fmod ((w.length : Nat) + 1) = k at a0 a1
  have gm : gMod (.int (drawI l)) (.int ((w.length : Nat) + 1)) = some (.int k) := by
    rw [← hk]
    exact gMod_nz hne
  have g1 := gl_to (i := k) ws a0
  have g2 := gl_from (i := k) ws a0
  have g3 := gl_from (i := k + 1) ws (by omega)
  have l1 : (w.take k.toNat).length ≤ k.toNat := by rw [List.length_take]; omega
  have e1 : (w.take k.toNat).length + (w.drop k.toNat).length = w.length := by rw [List.length_take, List.length_drop]; omega
  have e3 : (w.drop (k + 1).toNat).length ≤ (w.drop k.toNat).length := by rw [List.length_drop, List.length_drop]; omega
  have s1 := gAdd_S (w.take k.toNat) [c] (by rw [List.length_singleton]; omega)
  have s2 := gAdd_S (w.take k.toNat ++ [c]) (w.drop k.toNat) (by rw [List.length_append, List.length_singleton]; omega)
  have s3 := gAdd_S (w.take k.toNat ++ [c]) (w.drop (k + 1).toNat) (by rw [List.length_append, List.length_singleton]; omega)
  have s4 := gAdd_S (w.take k.toNat) (w.drop (k + 1).toNat) (by omega)
  have h0 : pad 5 [dl l, sD w] = [some (dl l), some (sD w), none, none, none] := rfl
  have A : ∀ x : List Nat, (∀ z ∈ x, z ∈ w ∨ z = c) → ∀ z ∈ x, z < 128 := fun x hx z hz => by
    rcases hx z hz with q | q
    · exact wa z q
    · rw [q]; exact SPT_lt c hc
  rcases three3 c0 c1 with q | q | q
  · refine ⟨_, l.dropLast.dropLast.dropLast, run_rt (ρ := [some (dl l.dropLast.dropLast.dropLast), some (sD w), some (.int k), some (sD [c]), some (.int 0)]) (d := sD (w.take k.toNat ++ [c] ++ w.drop k.toNat)) ?_ rfl, _, rfl, by rw [List.length_append, List.length_append, List.length_singleton]; omega, A _ fun z hz => ?_⟩
    · rw [h0]
      simp -implicitDefEqProofs [m_law_spoilt, io_next, gMod_ii, gl, gm, l_SPT, ec, q, mSl_e, mNoP_e, mPart_e, asI_i, g1, g2, s1, s2]
    · rcases List.mem_append.mp hz with z1 | z1
      · rcases List.mem_append.mp z1 with z1 | z1
        · exact .inl (List.mem_of_mem_take z1)
        · exact .inr (List.mem_singleton.mp z1)
      · exact .inl (List.mem_of_mem_drop z1)
  · refine ⟨_, l.dropLast.dropLast.dropLast, run_rt (ρ := [some (dl l.dropLast.dropLast.dropLast), some (sD w), some (.int k), some (sD [c]), some (.int 1)]) (d := sD (w.take k.toNat ++ [c] ++ w.drop (k + 1).toNat)) ?_ rfl, _, rfl, by rw [List.length_append, List.length_append, List.length_singleton]; omega, A _ fun z hz => ?_⟩
    · rw [h0]
      simp -implicitDefEqProofs [m_law_spoilt, io_next, gMod_ii, gl, gm, l_SPT, ec, q, mSl_e, mNoP_e, mPart_e, asI_i, g1, g3, s1, s3]
    · rcases List.mem_append.mp hz with z1 | z1
      · rcases List.mem_append.mp z1 with z1 | z1
        · exact .inl (List.mem_of_mem_take z1)
        · exact .inr (List.mem_singleton.mp z1)
      · exact .inl (List.mem_of_mem_drop z1)
  · refine ⟨_, l.dropLast.dropLast.dropLast, run_rt (ρ := [some (dl l.dropLast.dropLast.dropLast), some (sD w), some (.int k), some (sD [c]), some (.int 2)]) (d := sD (w.take k.toNat ++ w.drop (k + 1).toNat)) ?_ rfl, _, rfl, by rw [List.length_append]; omega, A _ fun z hz => ?_⟩
    · rw [h0]
      simp -implicitDefEqProofs [m_law_spoilt, io_next, gMod_ii, gl, gm, l_SPT, ec, q, mSl_e, mNoP_e, mPart_e, asI_i, g1, g3, s4]
    · rcases List.mem_append.mp hz with z1 | z1
      · exact .inl (List.mem_of_mem_take z1)
      · exact .inl (List.mem_of_mem_drop z1)
end K93
namespace K93
open DL L2 PySem PySem.Spec PyProof.Rows
theorem sp_sum (s : Nat) : ∀ (l cur : List Nat), ((TL.spl [s] 0 cur l).map (·.length)).sum + (TL.spl [s] 0 cur l).length ≤ cur.length + l.length + 1
  | [], cur => by
    rw [TL.spl_nil]
    simp
  | c :: r, cur => by
    unfold TL.spl
    split
    · have h : ((TL.spl [s] ([s].length - 1) [] r).map (·.length)).sum + (TL.spl [s] ([s].length - 1) [] r).length ≤ ([] : List Nat).length + r.length + 1 := sp_sum s r []
      generalize TL.spl [s] ([s].length - 1) [] r = X at h ⊢
      rw [List.map_cons, List.sum_cons, List.length_cons, List.length_cons]
      rw [List.length_nil] at h
      omega
    · have h := sp_sum s r (cur ++ [c])
      rw [List.length_append, List.length_singleton] at h
      rw [List.length_cons]
      omega
theorem filt_sum (p : List Nat → Bool) : ∀ ws : List (List Nat), ((ws.filter p).map (·.length)).sum + (ws.filter p).length ≤ (ws.map (·.length)).sum + ws.length
  | [] => Nat.le_refl _
  | w :: r => by
    have h := filt_sum p r
    rw [List.filter_cons]
    split
    · rw [List.map_cons, List.sum_cons, List.map_cons, List.sum_cons, List.length_cons, List.length_cons]
      omega
    · rw [List.map_cons, List.sum_cons, List.length_cons]
      omega
theorem lc_keep {i : Nat} {mt : MT} {p : D → Bool} {ρ0 : En} (hi : i < ρ0.length) : ∀ (ds : List D) (ρ : En), (∀ d ∈ ds, mt (ρ0.set i (some d)) = .ok (p d) (ρ0.set i (some d))) → ρ.set i none = ρ0.set i none →
    ∃ ρ', lcLoop [i] (mgName i) mt (mVar i) ds ρ = .ok (ds.filter p) ρ' ∧ ρ'.set i none = ρ0.set i none
  | [], ρ, _, e => ⟨ρ, rfl, e⟩
  | d :: r, ρ, h, e => by
    have hl : (ρ.set i none).length = ρ0.length := by rw [e, List.length_set]
    have g1 : mgName i d (ρ.set i none) = .ok () (ρ0.set i (some d)) := by
      rw [mgName_ap, if_pos (by rw [hl]; exact hi), e, List.set_set]
    obtain ⟨ρ', e1, e2⟩ := lc_keep hi r (ρ0.set i (some d)) (fun z hz => h z (List.mem_cons_of_mem _ hz)) (by rw [List.set_set])
    refine ⟨ρ', ?_, e2⟩
    have w : wipeE ρ [i] = ρ.set i none := rfl
    have hv : mVar i (ρ0.set i (some d)) = .ok d (ρ0.set i (some d)) := by
      rw [mVar_ap, List.getElem?_set_self hi]
    have ht := h d List.mem_cons_self
    rw [List.filter_cons]
    cases k : p d with
    | true =>
      rw [k] at ht
      rw [if_pos rfl]
      simp only [lcLoop, w, g1, ht, hv, e1]
    | false =>
      rw [k] at ht
      rw [if_neg (by decide)]
      simp only [lcLoop, w, g1, ht, e1]
theorem mLc_keep {i : Nat} {mi : En → R (List D)} {mt : MT} {p : D → Bool} {ρ0 : En} {ds : List D} (hi : i < ρ0.length) (hm : mi ρ0 = .ok ds ρ0) (hz : ds.length ≤ sizeLine) (h : ∀ d ∈ ds, mt (ρ0.set i (some d)) = .ok (p d) (ρ0.set i (some d))) :
    mLc [i] mi (mgName i) mt (mVar i) ρ0 = .ok (.lst (ds.filter p)) ρ0 := by
  obtain ⟨ρ', e1, e2⟩ := lc_keep hi ds ρ0 h rfl
  have r : restE ρ0 [i] ρ' = ρ0 := by
    show ρ'.set i (match ρ0[i]? with | some o => o | none => none) = ρ0
    rw [List.getElem?_eq_getElem hi]
    show ρ'.set i ρ0[i] = ρ0
    have : ρ'.set i ρ0[i] = (ρ'.set i none).set i ρ0[i] := by rw [List.set_set]
    rw [this, e2, List.set_set, List.set_getElem_self]
  rw [mLc_ap, hm, bind_ok, e1]
  show (if (ds.filter p).length ≤ sizeLine then R.ok (D.lst (ds.filter p)) (restE ρ0 [i] ρ') else R.bad) = _
  rw [if_pos (Nat.le_trans (List.length_filter_le _ _) hz), r]
theorem rep_toL (c : Array Nat) : ∀ (k : Nat) (acc : Array Nat), ((List.replicate k c).foldl (· ++ ·) acc).toList = acc.toList ++ (List.replicate k c.toList).flatten
  | 0, acc => by simp
  | k + 1, acc => by
    rw [List.replicate_succ, List.foldl_cons, rep_toL c k, List.replicate_succ, List.flatten_cons, Array.toList_append, List.append_assoc]
theorem mulS_1 (c : Nat) (k : Nat) (h : k ≤ 10000) (h2 : 2 ≤ k) : gMulS (sD [c]) (.int k) = some (sD (List.replicate k c)) := by
  have l : (S [c]).length = 1 := rfl
  show (if 0 ≤ (k : Int) ∧ (k : Int).toNat ≤ 16777216 ∧ (S [c]).length * (k : Int).toNat ≤ 16777216 then some (D.str (Txt.mul (S [c]) k)) else none) = _
  rw [if_pos ⟨by omega, by omega, by rw [l]; omega⟩]
  congr 2
  unfold Txt.mul
  rw [if_neg (by omega), if_neg (by
    rw [l, Bool.or_eq_true, beq_iff_eq, beq_iff_eq]
    omega)]
  refine TL.ext_tl ?_
  show ((List.replicate (k : Int).toNat (S [c]).cps).foldl (· ++ ·) #[]).toList = List.replicate k c
  rw [rep_toL]
  have e : (k : Int).toNat = k := by omega
  rw [e]
  show (List.replicate k [c]).flatten = _
  clear h h2 l e
  induction k with
  | zero => rfl
  | succ k ih => rw [List.replicate_succ, List.flatten_cons, ih, List.replicate_succ]; rfl
theorem tx_rep {c k : Nat} (h : c < 128) : Tx k (sD (List.replicate k c)) := ⟨_, rfl, Nat.le_of_eq List.length_replicate, fun x hx => by rw [List.eq_of_mem_replicate hx]; exact h⟩
theorem ne_same {d : D} {z : Str} (h : shownD d = some z) : gRepr [d] = some (.str z) := by
  show (shownD d).map D.str = _
  rw [h]
  rfl
theorem loop_same {i : Nat} {mb : MS} {E : Option D → En} (hs : ∀ o o', (E o).set i o' = E o') (hl : ∀ o, i < (E o).length) : ∀ (ds : List D) (o : Option D), (∀ d ∈ ds, mb (E (some d)) = .nx (E (some d))) → ∃ o', loopL (mgName i) mb ds (E o) = .nx (E o')
  | [], o, _ => ⟨o, rfl⟩
  | d :: r, o, h => by
    obtain ⟨o', e⟩ := loop_same hs hl r (some d) fun z hz => h z (List.mem_cons_of_mem _ hz)
    refine ⟨o', ?_⟩
    have g : mgName i d (E o) = .ok () (E (some d)) := by rw [mgName_ap, if_pos (hl o), hs]
    rw [← e]
    simp only [loopL, g, h d List.mem_cons_self]
end K93
namespace K93
open DL L2 PySem PySem.Spec PyProof.Rows
def L0 : MS := (msOwn 1 (mCall F_law_draws (mCons (mVar 0) mNil)))
def L1 : MS := (msExpr (mOM gReverse 1 mNil))
def L2 : MS := (msAsg (mCallIo F_law_line 1 mNil) (mgName 2))
def L3 : MS := (msAsg (mLc [4] (mIter (mM gSplit (mVar 2) (mCons (mK (.str " ")) mNil))) (mgName 4) (mTest (m2 gNe (mVar 4) (mK (.str "")))) (mVar 4)) (mgName 3))
def L4 : MS := (msAsg (mM gJoin (mK (.str " ")) (mCons (mVar 3) mNil)) (mgName 5))
def L5 : MS := (msFor (mIter (mN gLst (mCons (mVar 2) (mCons (mVar 5) (mCons (m2 gAdd (mVar 5) (mK (.str " "))) (mCons (m2 gAdd (mK (.str " ")) (mVar 5)) (mCons (m1 (gRepl " " "  ") (mVar 5)) (mCons (mK (.str "")) (mCons (mK (.str " ")) (mCons (mK (.str "a\nb")) (mCons (m2 gAdd (mVar 5) (mK (.str "\n"))) mNil))))))))))) (mgName 6) (msIf (mTest (m2 gNe (mN gRepr (mCons (mCall Fwords_of (mCons (mVar 6) mNil)) mNil)) (mN gRepr (mCons (mCall F_law_words (mCons (mVar 6) mNil)) mNil)))) (msRet (mK (.bl false))) msNil))
def L6 : MS := (msAsg (mM gJoin (mK (.str "")) (mCons (mLc [8] (mItN gRange1 (mCons (m2 gMod (mN gInt (mCons (mCallIo F_law_next 1 mNil) mNil)) (mK (.int 14))) mNil)) (mgName 8) mYes (m2 gIx (mK (.str "abcdefghijklmnopqrstuvwxyz")) (m2 gMod (mN gInt (mCons (mCallIo F_law_next 1 mNil) mNil)) (mK (.int 26))))) mNil)) (mgName 7))
def L7 : MS := (msFor (mIter (m2 gAdd (mVar 3) (mN gLst (mCons (mVar 7) (mCons (m2 gAdd (mVar 7) (mK (.str "A"))) (mCons (m2 gMulS (mK (.str "a")) (mK (.int 12))) (mCons (m2 gMulS (mK (.str "a")) (mK (.int 13))) (mCons (mK (.str "")) (mCons (mK (.str "a1")) (mCons (mK (.str "a b")) mNil)))))))))) (mgName 4) (msIf (mTest (m2 gNe (mN gRepr (mCons (mCall Fis_name (mCons (mVar 4) mNil)) mNil)) (mN gRepr (mCons (mCall F_law_is_name (mCons (mVar 4) mNil)) mNil)))) (msRet (mK (.bl false))) msNil))
def L8 : MS := (msAsg (mN gStr (mCons (m2 gMod (mN gInt (mCons (mCallIo F_law_next 1 mNil) mNil)) (mK (.int 120))) mNil)) (mgName 9))
def L9 : MS := (msFor (mIter (m2 gAdd (mVar 3) (mN gLst (mCons (mVar 9) (mCons (m2 gAdd (mK (.str "0")) (mVar 9)) (mCons (m2 gAdd (mK (.str "-")) (mVar 9)) (mCons (mK (.str "")) (mCons (mK (.str "00")) (mCons (mK (.str "0")) (mCons (mK (.str "99")) (mCons (mK (.str "100")) (mCons (mK (.str "+1")) (mCons (mK (.str " 1")) mNil))))))))))))) (mgName 4) (msIf (mTest (m2 gNe (mN gRepr (mCons (mCall Fnumber_in (mCons (mVar 4) mNil)) mNil)) (mN gRepr (mCons (mCall F_law_number_in (mCons (mVar 4) mNil)) mNil)))) (msRet (mK (.bl false))) msNil))
def L10 : MS := (msAsg (mCallIo F_law_row_word 1 mNil) (mgName 10))
def L11 : MS := (msAsg (mCallIo F_law_spoilt 1 (mCons (mVar 10) mNil)) (mgName 11))
def L12 : MS := (msAsg (m2 gMulS (mK (.str "9")) (mK (.int 400))) (mgName 12))
def L13 : MS := (msFor (mIter (m2 gAdd (mVar 3) (mN gLst (mCons (mVar 10) (mCons (mVar 11) (mCons (mCallIo F_law_spoilt 1 (mCons (mVar 11) mNil)) (mCons (m2 gAdd (mVar 10) (mK (.str ","))) (mCons (m2 gAdd (mK (.str ",")) (mVar 10)) (mCons (mK (.str "")) (mCons (mK (.str "-")) (mCons (mK (.str "-0")) (mCons (mK (.str "1,,2")) (mCons (mVar 12) (mCons (m2 gAdd (mK (.str "-")) (mVar 12)) (mCons (m2 gAdd (mK (.str "1")) (mVar 12)) mNil))))))))))))))) (mgName 4) (msIf (mTest (m2 gNe (mN gRepr (mCons (mCall Fintegers_in (mCons (mVar 4) mNil)) mNil)) (mN gRepr (mCons (mCall F_law_integers_in (mCons (mVar 4) mNil)) mNil)))) (msRet (mK (.bl false))) msNil))
def L14 : MS := (msRet (mK (.bl true)))
theorem mlaw_eq : mlaw = (msForget 1 (msSeq L0 (msSeq L1 (msSeq L2 (msSeq L3 (msSeq L4 (msSeq L5 (msSeq L6 (msSeq L7 (msSeq L8 (msSeq L9 (msSeq L10 (msSeq L11 (msSeq L12 (msSeq L13 L14))))))))))))))) := rfl
def W5 : MS := (msIf (mTest (m2 gNe (mN gRepr (mCons (mCall Fwords_of (mCons (mVar 6) mNil)) mNil)) (mN gRepr (mCons (mCall F_law_words (mCons (mVar 6) mNil)) mNil)))) (msRet (mK (.bl false))) msNil)
def W7 : MS := (msIf (mTest (m2 gNe (mN gRepr (mCons (mCall Fis_name (mCons (mVar 4) mNil)) mNil)) (mN gRepr (mCons (mCall F_law_is_name (mCons (mVar 4) mNil)) mNil)))) (msRet (mK (.bl false))) msNil)
def W9 : MS := (msIf (mTest (m2 gNe (mN gRepr (mCons (mCall Fnumber_in (mCons (mVar 4) mNil)) mNil)) (mN gRepr (mCons (mCall F_law_number_in (mCons (mVar 4) mNil)) mNil)))) (msRet (mK (.bl false))) msNil)
def W13 : MS := (msIf (mTest (m2 gNe (mN gRepr (mCons (mCall Fintegers_in (mCons (mVar 4) mNil)) mNil)) (mN gRepr (mCons (mCall F_law_integers_in (mCons (mVar 4) mNil)) mNil)))) (msRet (mK (.bl false))) msNil)
def St (X : D) (l : List Int) (o2 o3 o4 o5 o6 o7 o9 o10 o11 o12 : Option D) : En := [some X, some (dl l), o2, o3, o4, o5, o6, o7, none, o9, o10, o11, o12]
section
variable {X : D} {l : List Int} {o2 o3 o4 o5 o6 o7 o9 o10 o11 o12 : Option D}
theorem b5 {d : D} (h : Tx 60 d) : W5 (St X l o2 o3 o4 o5 (some d) o7 o9 o10 o11 o12) = .nx (St X l o2 o3 o4 o5 (some d) o7 o9 o10 o11 o12) := by
  obtain ⟨w, rfl, a⟩ := h.asc (by decide)
  have sz : sizeLine = 16777216 := by decide
  have hw : w.length + 2 ≤ sizeLine := by have := a.1; omega
  obtain ⟨z, hz⟩ := shown_words a
  have hz' := ne_same hz
  simp -implicitDefEqProofs [W5, St, mCall_R, v_words_of w hw, v_law_words w hw, hz']
theorem b7 {d : D} (h : Tx 60 d) : W7 (St X l o2 o3 (some d) o5 o6 o7 o9 o10 o11 o12) = .nx (St X l o2 o3 (some d) o5 o6 o7 o9 o10 o11 o12) := by
  obtain ⟨w, rfl, a⟩ := h.asc (by decide)
  obtain ⟨z, hz⟩ := shown_name w
  have hz' := ne_same hz
  simp -implicitDefEqProofs [W7, St, mCall_R, v_is_name a, v_law_is_name a, hz']
theorem b9 {d : D} (h : Tx 60 d) : W9 (St X l o2 o3 (some d) o5 o6 o7 o9 o10 o11 o12) = .nx (St X l o2 o3 (some d) o5 o6 o7 o9 o10 o11 o12) := by
  obtain ⟨w, rfl, a⟩ := h.asc (by decide)
  obtain ⟨z, hz⟩ := shown_num a
  have hz' := ne_same hz
  simp -implicitDefEqProofs [W9, St, mCall_R, v_number_in a, v_law_number_in a, hz']
theorem b13 {d : D} (h : Tx 600 d) : W13 (St X l o2 o3 (some d) o5 o6 o7 o9 o10 o11 o12) = .nx (St X l o2 o3 (some d) o5 o6 o7 o9 o10 o11 o12) := by
  obtain ⟨w, rfl, a⟩ := h.asc (by decide)
  obtain ⟨z, hz⟩ := shown_ints a
  have hz' := ne_same hz
  simp -implicitDefEqProofs [W13, St, mCall_R, v_integers_in a, v_law_integers_in a, hz']
end
end K93
namespace K93
open DL L2 PySem PySem.Spec PyProof.Rows
def I5 : En → R (List D) := (mIter (mN gLst (mCons (mVar 2) (mCons (mVar 5) (mCons (m2 gAdd (mVar 5) (mK (.str " "))) (mCons (m2 gAdd (mK (.str " ")) (mVar 5)) (mCons (m1 (gRepl " " "  ") (mVar 5)) (mCons (mK (.str "")) (mCons (mK (.str " ")) (mCons (mK (.str "a\nb")) (mCons (m2 gAdd (mVar 5) (mK (.str "\n"))) mNil)))))))))))
theorem L5_eq : L5 = msFor I5 (mgName 6) W5 := rfl
def I7 : En → R (List D) := (mIter (m2 gAdd (mVar 3) (mN gLst (mCons (mVar 7) (mCons (m2 gAdd (mVar 7) (mK (.str "A"))) (mCons (m2 gMulS (mK (.str "a")) (mK (.int 12))) (mCons (m2 gMulS (mK (.str "a")) (mK (.int 13))) (mCons (mK (.str "")) (mCons (mK (.str "a1")) (mCons (mK (.str "a b")) mNil))))))))))
theorem L7_eq : L7 = msFor I7 (mgName 4) W7 := rfl
def I9 : En → R (List D) := (mIter (m2 gAdd (mVar 3) (mN gLst (mCons (mVar 9) (mCons (m2 gAdd (mK (.str "0")) (mVar 9)) (mCons (m2 gAdd (mK (.str "-")) (mVar 9)) (mCons (mK (.str "")) (mCons (mK (.str "00")) (mCons (mK (.str "0")) (mCons (mK (.str "99")) (mCons (mK (.str "100")) (mCons (mK (.str "+1")) (mCons (mK (.str " 1")) mNil)))))))))))))
theorem L9_eq : L9 = msFor I9 (mgName 4) W9 := rfl
def I13 : En → R (List D) := (mIter (m2 gAdd (mVar 3) (mN gLst (mCons (mVar 10) (mCons (mVar 11) (mCons (mCallIo F_law_spoilt 1 (mCons (mVar 11) mNil)) (mCons (m2 gAdd (mVar 10) (mK (.str ","))) (mCons (m2 gAdd (mK (.str ",")) (mVar 10)) (mCons (mK (.str "")) (mCons (mK (.str "-")) (mCons (mK (.str "-0")) (mCons (mK (.str "1,,2")) (mCons (mVar 12) (mCons (m2 gAdd (mK (.str "-")) (mVar 12)) (mCons (m2 gAdd (mK (.str "1")) (mVar 12)) mNil)))))))))))))))
theorem L13_eq : L13 = msFor I13 (mgName 4) W13 := rfl
theorem for_same {i : Nat} {mi : En → R (List D)} {mb : MS} {E : Option D → En} {ρ : En} {ds : List D} {o : Option D} (hi : mi ρ = .ok ds (E o)) (hs : ∀ o o', (E o).set i o' = E o') (hl : ∀ o, i < (E o).length) (h : ∀ d ∈ ds, mb (E (some d)) = .nx (E (some d))) : ∃ o', msFor mi (mgName i) mb ρ = .nx (E o') := by
  obtain ⟨o', e⟩ := loop_same hs hl ds o h
  refine ⟨o', ?_⟩
  rw [msFor_ap, hi]
  exact e
theorem l_anb : D.str "a\nb" = sD [97, 10, 98] := rfl
theorem l_nl : D.str "\n" = sD [10] := rfl
theorem l_A : D.str "A" = sD [65] := rfl
theorem l_a : D.str "a" = sD [97] := rfl
theorem l_a1 : D.str "a1" = sD [97, 49] := rfl
theorem l_ab : D.str "a b" = sD [97, 32, 98] := rfl
theorem l_00 : D.str "00" = sD [48, 48] := rfl
theorem l_99 : D.str "99" = sD [57, 57] := rfl
theorem l_100 : D.str "100" = sD [49, 48, 48] := rfl
theorem l_p1 : D.str "+1" = sD [43, 49] := rfl
theorem l_s1 : D.str " 1" = sD [32, 49] := rfl
theorem l_m0 : D.str "-0" = sD [45, 48] := rfl
theorem l_112 : D.str "1,,2" = sD [49, 44, 44, 50] := rfl
theorem l_9 : D.str "9" = sD [57] := rfl
theorem l_1 : D.str "1" = sD [49] := rfl
theorem le9 : 9 ≤ sizeLine := by decide
theorem le7 : 7 ≤ sizeLine := by decide
theorem le10 : 10 ≤ sizeLine := by decide
theorem le12 : 12 ≤ sizeLine := by decide
section
variable {X : D} {l : List Int} {o2 o3 o4 o5 o6 o7 o9 o10 o11 o12 : Option D}
theorem t5 {t j : D} (ht : Tx 23 t) (hj : Tx 24 j) : ∃ o6', L5 (St X l (some t) o3 o4 (some j) o6 o7 o9 o10 o11 o12) = .nx (St X l (some t) o3 o4 (some j) o6' o7 o9 o10 o11 o12) := by
  have h32 : Tx 1 (sD [32]) := tx_lit _ (by decide) (by decide)
  have h10 : Tx 1 (sD [10]) := tx_lit _ (by decide) (by decide)
  obtain ⟨z1, e1, t1⟩ := tx_add hj h32 (by decide)
  obtain ⟨z2, e2, t2⟩ := tx_add h32 hj (by decide)
  obtain ⟨z3, e3, t3⟩ := tx_dbl hj (by decide)
  obtain ⟨z4, e4, t4⟩ := tx_add hj h10 (by decide)
  have hi : I5 (St X l (some t) o3 o4 (some j) o6 o7 o9 o10 o11 o12) = .ok [t, j, z1, z2, z3, sD [], sD [32], sD [97, 10, 98], z4] (St X l (some t) o3 o4 (some j) o6 o7 o9 o10 o11 o12) := by
    simp -implicitDefEqProofs [I5, St, l_sp, l_em, l_anb, l_nl, e1, e2, e3, e4, le9, gIter]
  rw [L5_eq]
  refine for_same (E := fun o => St X l (some t) o3 o4 (some j) o o7 o9 o10 o11 o12) hi (fun _ _ => rfl) (fun _ => (by decide : 6 < 13)) fun d hd => b5 ?_
  simp only [List.mem_cons, List.not_mem_nil, or_false] at hd
  rcases hd with h | h | h | h | h | h | h | h | h <;> rw [h]
  · exact ht.up (by decide)
  · exact hj.up (by decide)
  · exact t1.up (by decide)
  · exact t2.up (by decide)
  · exact t3.up (by decide)
  · exact tx_lit _ (by decide) (by decide)
  · exact tx_lit _ (by decide) (by decide)
  · exact tx_lit _ (by decide) (by decide)
  · exact t4.up (by decide)
theorem lst_app {ws : List D} {ds : List D} (h : ws.length ≤ 1000) (h2 : ds.length ≤ 1000) : gAdd (.lst ws) (.lst ds) = some (.lst (ws ++ ds)) := by
  have sz : sizeLine = 16777216 := by decide
  show (if ws.length + ds.length ≤ sizeLine then some (D.lst (ws ++ ds)) else none) = _
  rw [if_pos (by omega)]
theorem t7 {ws : List D} {nm : D} (hw : ∀ d ∈ ws, Tx 23 d) (hl : ws.length ≤ 1000) (hn : Tx 13 nm) : ∃ o4', L7 (St X l o2 (some (.lst ws)) o4 o5 o6 (some nm) o9 o10 o11 o12) = .nx (St X l o2 (some (.lst ws)) o4' o5 o6 (some nm) o9 o10 o11 o12) := by
  have h65 : Tx 1 (sD [65]) := tx_lit _ (by decide) (by decide)
  obtain ⟨z1, e1, t1⟩ := tx_add hn h65 (by decide)
  have r1 := mulS_1 97 12 (by decide) (by decide)
  have r2 := mulS_1 97 13 (by decide) (by decide)
  have la := lst_app (ws := ws) (ds := [nm, z1, sD (List.replicate 12 97), sD (List.replicate 13 97), sD [], sD [97, 49], sD [97, 32, 98]]) hl (by simp)
  have hi : I7 (St X l o2 (some (.lst ws)) o4 o5 o6 (some nm) o9 o10 o11 o12) = .ok (ws ++ [nm, z1, sD (List.replicate 12 97), sD (List.replicate 13 97), sD [], sD [97, 49], sD [97, 32, 98]]) (St X l o2 (some (.lst ws)) o4 o5 o6 (some nm) o9 o10 o11 o12) := by
    have r1' : gMulS (sD [97]) (.int 12) = _ := r1
    have r2' : gMulS (sD [97]) (.int 13) = _ := r2
    simp -implicitDefEqProofs [I7, St, l_A, l_em, l_a, l_a1, l_ab, e1, r1', r2', le7, gIter, la, -List.replicate_succ, -List.reduceReplicate]
  rw [L7_eq]
  refine for_same (E := fun o => St X l o2 (some (.lst ws)) o o5 o6 (some nm) o9 o10 o11 o12) hi (fun _ _ => rfl) (fun _ => (by decide : 4 < 13)) fun d hd => b7 ?_
  rcases List.mem_append.mp hd with h | h
  · exact (hw d h).up (by decide)
  simp only [List.mem_cons, List.not_mem_nil, or_false] at h
  rcases h with h | h | h | h | h | h | h <;> rw [h]
  · exact hn.up (by decide)
  · exact t1.up (by decide)
  · exact (tx_rep (by decide)).up (by decide)
  · exact (tx_rep (by decide)).up (by decide)
  · exact tx_lit _ (by decide) (by decide)
  · exact tx_lit _ (by decide) (by decide)
  · exact tx_lit _ (by decide) (by decide)
theorem t9 {ws : List D} {nt : D} (hw : ∀ d ∈ ws, Tx 23 d) (hl : ws.length ≤ 1000) (hn : Tx 4 nt) : ∃ o4', L9 (St X l o2 (some (.lst ws)) o4 o5 o6 o7 (some nt) o10 o11 o12) = .nx (St X l o2 (some (.lst ws)) o4' o5 o6 o7 (some nt) o10 o11 o12) := by
  have h48 : Tx 1 (sD [48]) := tx_lit _ (by decide) (by decide)
  have h45 : Tx 1 (sD [45]) := tx_lit _ (by decide) (by decide)
  obtain ⟨z1, e1, t1⟩ := tx_add h48 hn (by decide)
  obtain ⟨z2, e2, t2⟩ := tx_add h45 hn (by decide)
  have la := lst_app (ws := ws) (ds := [nt, z1, z2, sD [], sD [48, 48], sD [48], sD [57, 57], sD [49, 48, 48], sD [43, 49], sD [32, 49]]) hl (by simp)
  have hi : I9 (St X l o2 (some (.lst ws)) o4 o5 o6 o7 (some nt) o10 o11 o12) = .ok (ws ++ [nt, z1, z2, sD [], sD [48, 48], sD [48], sD [57, 57], sD [49, 48, 48], sD [43, 49], sD [32, 49]]) (St X l o2 (some (.lst ws)) o4 o5 o6 o7 (some nt) o10 o11 o12) := by
    simp -implicitDefEqProofs [I9, St, l_0, l_em, l_mi, l_00, l_99, l_100, l_p1, l_s1, e1, e2, le10, gIter, la]
  rw [L9_eq]
  refine for_same (E := fun o => St X l o2 (some (.lst ws)) o o5 o6 o7 (some nt) o10 o11 o12) hi (fun _ _ => rfl) (fun _ => (by decide : 4 < 13)) fun d hd => b9 ?_
  rcases List.mem_append.mp hd with h | h
  · exact (hw d h).up (by decide)
  simp only [List.mem_cons, List.not_mem_nil, or_false] at h
  rcases h with h | h | h | h | h | h | h | h | h | h <;> rw [h]
  · exact hn.up (by decide)
  · exact t1.up (by decide)
  · exact t2.up (by decide)
  all_goals exact tx_lit _ (by decide) (by decide)
theorem io_sp {k : Nat} {d d' : D} {l' : List Int} {x : Option D} {r : En} (e : F_law_spoilt [dl l, d] = .rt d' (dl l')) (hk : (x :: some (dl l) :: r)[k]? = some (some d)) : mCallIo F_law_spoilt 1 (mCons (mVar k) mNil) (x :: some (dl l) :: r) = .ok d' (x :: some (dl l') :: r) := by
  have ha : mCons (mVar k) mNil (x :: some (dl l) :: r) = .ok [d] (x :: some (dl l) :: r) := by
    rw [mCons_ap, mVar_ap, hk]
    rfl
  rw [mCallIo_ap, getO_1]
  simp -implicitDefEqProofs [getO_1, e, ha, -mCons_ap]
theorem io_0 {F : FN} {d' : D} {l' : List Int} {x : Option D} {r : En} (e : F [dl l] = .rt d' (dl l')) : mCallIo F 1 mNil (x :: some (dl l) :: r) = .ok d' (x :: some (dl l') :: r) := by
  rw [mCallIo_ap, getO_1]
  simp -implicitDefEqProofs [getO_1, e]
theorem t13 {ws : List D} {a b : D} (hw : ∀ d ∈ ws, Tx 23 d) (hl : ws.length ≤ 1000) (ha : Tx 210 a) (hb : Tx 211 b) : ∃ l' o4', L13 (St X l o2 (some (.lst ws)) o4 o5 o6 o7 o9 (some a) (some b) (some (sD (List.replicate 400 57)))) = .nx (St X l' o2 (some (.lst ws)) o4' o5 o6 o7 o9 (some a) (some b) (some (sD (List.replicate 400 57)))) := by
  have hN : Tx 400 (sD (List.replicate 400 57)) := tx_rep (by decide)
  generalize sD (List.replicate 400 57) = N at *
  obtain ⟨c, l', ec, hc⟩ := v_spoilt l hb (by decide)
  have h44 : Tx 1 (sD [44]) := tx_lit _ (by decide) (by decide)
  have h45 : Tx 1 (sD [45]) := tx_lit _ (by decide) (by decide)
  have h49 : Tx 1 (sD [49]) := tx_lit _ (by decide) (by decide)
  obtain ⟨z1, e1, t1⟩ := tx_add ha h44 (by decide)
  obtain ⟨z2, e2, t2⟩ := tx_add h44 ha (by decide)
  obtain ⟨z3, e3, t3⟩ := tx_add h45 hN (by decide)
  obtain ⟨z4, e4, t4⟩ := tx_add h49 hN (by decide)
  have la := lst_app (ws := ws) (ds := [a, b, c, z1, z2, sD [], sD [45], sD [45, 48], sD [49, 44, 44, 50], N, z3, z4]) hl (by simp)
  have is := io_sp (k := 11) (x := some X) (r := [o2, some (.lst ws), o4, o5, o6, o7, none, o9, some a, some b, some N]) ec rfl
  have hi : I13 (St X l o2 (some (.lst ws)) o4 o5 o6 o7 o9 (some a) (some b) (some N)) = .ok (ws ++ [a, b, c, z1, z2, sD [], sD [45], sD [45, 48], sD [49, 44, 44, 50], N, z3, z4]) (St X l' o2 (some (.lst ws)) o4 o5 o6 o7 o9 (some a) (some b) (some N)) := by
    simp -implicitDefEqProofs [I13, St, l_co, l_em, l_mi, l_m0, l_112, l_1, e1, e2, e3, e4, le12, gIter, la, is]
  obtain ⟨o4', e⟩ := for_same (E := fun o => St X l' o2 (some (.lst ws)) o o5 o6 o7 o9 (some a) (some b) (some N)) hi (i := 4) (mb := W13) (fun _ _ => rfl) (fun _ => (by decide : 4 < 13)) fun d hd => b13 (by
    rcases List.mem_append.mp hd with h | h
    · exact (hw d h).up (by decide)
    simp only [List.mem_cons, List.not_mem_nil, or_false] at h
    rcases h with h | h | h | h | h | h | h | h | h | h | h | h <;> rw [h]
    · exact ha.up (by decide)
    · exact hb.up (by decide)
    · exact hc.up (by decide)
    · exact t1.up (by decide)
    · exact t2.up (by decide)
    · exact tx_lit _ (by decide) (by decide)
    · exact tx_lit _ (by decide) (by decide)
    · exact tx_lit _ (by decide) (by decide)
    · exact tx_lit _ (by decide) (by decide)
    · exact hN.up (by decide)
    · exact t3.up (by decide)
    · exact t4.up (by decide))
  exact ⟨l', o4', by rw [L13_eq]; exact e⟩
end
end K93
namespace K93
open DL L2 PySem PySem.Spec PyProof.Rows
def neE (w : List Nat) : Bool := !decide (w = [])
def neD (d : D) : Bool := match d with
  | .str z => !decide (z.cps.toList = [])
  | _ => false
theorem filt_map : ∀ ws : List (List Nat), (ws.map sD).filter neD = (ws.filter neE).map sD
  | [] => rfl
  | w :: r => by
    have h := filt_map r
    have e : neD (sD w) = neE w := rfl
    rw [List.map_cons, List.filter_cons, List.filter_cons, e, h]
    split
    · rw [List.map_cons]
    · rfl
def I3 : En → R (List D) := (mIter (mM gSplit (mVar 2) (mCons (mK (.str " ")) mNil)))
def T3 : MT := (mTest (m2 gNe (mVar 4) (mK (.str ""))))
theorem L3_eq : L3 = (msAsg (mLc [4] I3 (mgName 4) T3 (mVar 4)) (mgName 3)) := rfl
section
variable {X : D} {l : List Int} {o2 o3 o4 o5 o6 o7 o9 o10 o11 o12 : Option D}
theorem t3 {t : D} (ht : Tx 23 t) : ∃ ws : List (List Nat), L3 (St X l (some t) o3 none o5 o6 o7 o9 o10 o11 o12) = .nx (St X l (some t) (some (.lst (ws.map sD))) none o5 o6 o7 o9 o10 o11 o12) ∧ (∀ d ∈ ws.map sD, Tx 23 d) ∧ ((ws.map (·.length)).sum + ws.length ≤ 24) ∧ ∀ w ∈ ws, ∀ c ∈ w, c < 128 := by
  obtain ⟨w, rfl, wl, wa⟩ := ht
  have sz : sizeLine = 16777216 := by decide
  have sm : ((spl w).map (·.length)).sum + (spl w).length ≤ 0 + w.length + 1 := sp_sum 32 w []
  have hA : Asc w := ⟨by omega, wa⟩
  obtain ⟨s1, s2⟩ := sp_asc (s := 32) hA
  have e1 := split_sp w (by omega)
  have sn := (sp_len 32 w []).1
  have hm : I3 (St X l (some (sD w)) o3 none o5 o6 o7 o9 o10 o11 o12) = .ok ((spl w).map sD) (St X l (some (sD w)) o3 none o5 o6 o7 o9 o10 o11 o12) := by
    have is : isStr (sD w) = true := rfl
    simp -implicitDefEqProofs [I3, St, l_sp, e1, gIter, is]
  have k := mLc_keep (i := 4) (mi := I3) (mt := T3) (p := neD) (ρ0 := St X l (some (sD w)) o3 none o5 o6 o7 o9 o10 o11 o12) (by decide : 4 < 13) hm (by rw [List.length_map]; omega) fun d hd => by
    obtain ⟨u, _, rfl⟩ := List.mem_map.mp hd
    have g := gNe_S u []
    have e : neD (sD u) = !decide (u = []) := rfl
    rw [e]
    simp -implicitDefEqProofs [T3, St, l_em, g, -gNe_ss]
  rw [filt_map] at k
  refine ⟨(spl w).filter neE, ?_, fun d hd => ?_, ?_, fun u hu c hc => ?_⟩
  · rw [L3_eq, msAsg_ap, k]
    rfl
  · obtain ⟨u, hu, rfl⟩ := List.mem_map.mp hd
    have hu' := (List.mem_filter.mp hu).1
    have := (sn u hu').1
    rw [List.length_nil] at this
    exact ⟨u, rfl, by omega, (s1 u hu').2⟩
  · have f := filt_sum neE (spl w)
    omega
  · exact (s1 u (List.mem_filter.mp hu).1).2 c hc
theorem t4 {ws : List (List Nat)} (h1 : (ws.map (·.length)).sum + ws.length ≤ 24) (h2 : ∀ w ∈ ws, ∀ c ∈ w, c < 128) : ∃ j, Tx 24 j ∧ L4 (St X l o2 (some (.lst (ws.map sD))) o4 o5 o6 o7 o9 o10 o11 o12) = .nx (St X l o2 (some (.lst (ws.map sD))) o4 (some j) o6 o7 o9 o10 o11 o12) := by
  obtain ⟨j1, j2⟩ := joinL_le [32] ws
  have n1 : ws.length * [32].length = ws.length := Nat.mul_one _
  have j := join_S' [32] ws (by omega)
  refine ⟨sD (TL.joinL [32] ws), ⟨_, rfl, by omega, fun c hc => ?_⟩, ?_⟩
  · rcases j2 c hc with z | ⟨w, hw, z⟩
    · rw [List.mem_singleton.mp z]; decide
    · exact h2 w hw c z
  · have is : isStr (sD [32]) = true := rfl
    simp -implicitDefEqProofs [L4, St, l_sp, j, is]
def nmMe : ME := (m2 gIx (mK (.str "abcdefghijklmnopqrstuvwxyz")) (m2 gMod (mN gInt (mCons (mCallIo F_law_next 1 mNil) mNil)) (mK (.int 26))))
def nmI : En → R (List D) := (mItN gRange1 (mCons (m2 gMod (mN gInt (mCons (mCallIo F_law_next 1 mNil) mNil)) (mK (.int 14))) mNil))
theorem L6_eq : L6 = (msAsg (mM gJoin (mK (.str "")) (mCons (mLc [8] nmI (mgName 8) mYes nmMe) mNil)) (mgName 7)) := rfl
theorem smL_lt : ∀ c ∈ smL, c < 128 := by decide
theorem t6 : ∃ nm l', Tx 13 nm ∧ L6 (St X l o2 o3 o4 o5 o6 o7 o9 o10 o11 o12) = .nx (St X l' o2 o3 o4 o5 o6 (some nm) o9 o10 o11 o12) := by
  obtain ⟨r0, r1⟩ := fm_rng (drawI l) (m := 14) (by decide)
  generalize hk : (drawI l).fmod 14 = k at r0 r1
  have ok : okR k = true := by
    unfold okR
    simp
    omega
  have hi : nmI (St X l o2 o3 o4 o5 o6 o7 o9 o10 o11 o12) = .ok (rangeL 0 k.toNat) (St X l.dropLast o2 o3 o4 o5 o6 o7 o9 o10 o11 o12) := by
    simp -implicitDefEqProofs [nmI, St, io_next1, gMod_ii, hk, ok]
  obtain ⟨cs, l', e, n, p⟩ := mLc_draw (i := 8) (me := nmMe) (P := fun c => c < 128) (mi := nmI) (E := fun l o => [some X, some (dl l), o2, o3, o4, o5, o6, o7, o, o9, o10, o11, o12]) (ρ := St X l o2 o3 o4 o5 o6 o7 o9 o10 o11 o12) (l := l.dropLast) (o := none) (fun l o o' => rfl) (fun l o => (by decide : 8 < 13)) rfl (fun l d => by
    obtain ⟨q0, q1⟩ := fm_rng (drawI l) (m := 26) (by decide)
    obtain ⟨c, hc, e⟩ := ix_S (T := smL) (k := (drawI l).fmod 26) q0 q1 (by decide)
    refine ⟨c, l.dropLast, smL_lt c hc, ?_⟩
    simp -implicitDefEqProofs [nmMe, io_next1, gMod_ii, l_sm2, e]) hi (by
    rw [rangeL_length]
    have : sizeLine = 16777216 := by decide
    omega)
  rw [rangeL_length] at n
  have j := join_cs cs (by omega)
  refine ⟨sD cs, l', ⟨cs, rfl, by omega, p⟩, ?_⟩
  have is : isStr (sD []) = true := rfl
  rw [L6_eq, l_em]
  simp -implicitDefEqProofs [St, is, -mLc_ap]
  have e' : mLc [8] nmI (mgName 8) mYes nmMe [some X, some (dl l), o2, o3, o4, o5, o6, o7, none, o9, o10, o11, o12] = _ := e
  rw [e']
  simp -implicitDefEqProofs [j]
theorem t8 : ∃ nt, Tx 4 nt ∧ L8 (St X l o2 o3 o4 o5 o6 o7 o9 o10 o11 o12) = .nx (St X l.dropLast o2 o3 o4 o5 o6 o7 (some nt) o10 o11 o12) := by
  obtain ⟨r0, r1⟩ := fm_rng (drawI l) (m := 120) (by decide)
  obtain ⟨z, e, h⟩ := tx_str (a := (drawI l).fmod 120) (k := 3) (by decide) (by omega) (by decide)
  refine ⟨z, h, ?_⟩
  simp -implicitDefEqProofs [L8, St, io_next1, gMod_ii, e]
end
theorem law_true : ∀ zs : List Int, zs.length ≤ 63 → ∃ o, Flaw [.scr (zs.map D.int)] = .rt (.bl true) o := by
  intro zs hz
  obtain ⟨l0, e0⟩ := qDraws_v zs hz
  obtain ⟨t, l2, e2, h2⟩ := v_line l0.reverse
  suffices h : ∃ ρ', mlaw (pad 13 [.scr (zs.map D.int)]) = .rt (.bl true) ρ' by
    obtain ⟨ρ', h⟩ := h
    exact ⟨_, run_rt h rfl⟩
  generalize hS : D.scr (zs.map D.int) = X at *
  have s0 : pad 13 [X] = [some X, none, none, none, none, none, none, none, none, none, none, none, none] := rfl
  obtain ⟨ws, e3, w1, w2, w3⟩ := t3 (X := X) (l := l2) (o3 := none) (o5 := none) (o6 := none) (o7 := none) (o9 := none) (o10 := none) (o11 := none) (o12 := none) h2
  have wn : (ws.map sD).length ≤ 1000 := by rw [List.length_map]; omega
  obtain ⟨j, hj, e4⟩ := t4 (X := X) (l := l2) (o2 := some t) (o4 := none) (o5 := none) (o6 := none) (o7 := none) (o9 := none) (o10 := none) (o11 := none) (o12 := none) w2 w3
  obtain ⟨o6, e5⟩ := t5 (X := X) (l := l2) (o3 := some (.lst (ws.map sD))) (o4 := none) (o6 := none) (o7 := none) (o9 := none) (o10 := none) (o11 := none) (o12 := none) h2 hj
  obtain ⟨nm, l6, hn, e6⟩ := t6 (X := X) (l := l2) (o2 := some t) (o3 := some (.lst (ws.map sD))) (o4 := none) (o5 := some j) (o6 := o6) (o7 := none) (o9 := none) (o10 := none) (o11 := none) (o12 := none)
  obtain ⟨o7, e7⟩ := t7 (X := X) (l := l6) (o2 := some t) (o4 := none) (o5 := some j) (o6 := o6) (o9 := none) (o10 := none) (o11 := none) (o12 := none) w1 wn hn
  obtain ⟨nt, ht, e8⟩ := t8 (X := X) (l := l6) (o2 := some t) (o3 := some (.lst (ws.map sD))) (o4 := o7) (o5 := some j) (o6 := o6) (o7 := some nm) (o9 := none) (o10 := none) (o11 := none) (o12 := none)
  obtain ⟨o9, e9⟩ := t9 (X := X) (l := l6.dropLast) (o2 := some t) (o4 := o7) (o5 := some j) (o6 := o6) (o7 := some nm) (o10 := none) (o11 := none) (o12 := none) w1 wn ht
  obtain ⟨a, l10, e10, ha⟩ := v_row_word l6.dropLast
  obtain ⟨b, l11, e11, hb⟩ := v_spoilt l10 ha (by decide)
  obtain ⟨l13, o13, e13⟩ := t13 (X := X) (l := l11) (o2 := some t) (o4 := o9) (o5 := some j) (o6 := o6) (o7 := some nm) (o9 := some nt) w1 wn ha hb
  refine ⟨St X l13 (some t) (some (.lst (ws.map sD))) o13 (some j) o6 (some nm) (some nt) (some a) (some b) (some (sD (List.replicate 400 57))), ?_⟩
  rw [mlaw_eq, msForget_ap, s0]
  refine seq_nx (ρ1 := St X l0 none none none none none none none none none none) ?_ ?_
  · simp -implicitDefEqProofs [L0, St, mCall_R, e_draws, e0]
  refine seq_nx (ρ1 := St X l0.reverse none none none none none none none none none none) ?_ ?_
  · simp -implicitDefEqProofs [L1, St, getO_1, gReverse]
  refine seq_nx (ρ1 := St X l2 (some t) none none none none none none none none none) ?_ ?_
  · simp -implicitDefEqProofs [L2, St, io_0 e2]
  refine seq_nx e3 ?_
  refine seq_nx e4 ?_
  refine seq_nx e5 ?_
  refine seq_nx e6 ?_
  refine seq_nx e7 ?_
  refine seq_nx e8 ?_
  refine seq_nx e9 ?_
  refine seq_nx (ρ1 := St X l10 (some t) (some (.lst (ws.map sD))) o9 (some j) o6 (some nm) (some nt) (some a) none none) ?_ ?_
  · simp -implicitDefEqProofs [L10, St, io_0 e10]
  refine seq_nx (ρ1 := St X l11 (some t) (some (.lst (ws.map sD))) o9 (some j) o6 (some nm) (some nt) (some a) (some b) none) ?_ ?_
  · have is := io_sp (k := 10) (x := some X) (r := [some t, some (.lst (ws.map sD)), o9, some j, o6, some nm, none, some nt, some a, none, none]) e11 rfl
    simp -implicitDefEqProofs [L11, St, is]
  refine seq_nx (ρ1 := St X l11 (some t) (some (.lst (ws.map sD))) o9 (some j) o6 (some nm) (some nt) (some a) (some b) (some (sD (List.replicate 400 57)))) ?_ ?_
  · have r1 : gMulS (sD [57]) (.int 400) = _ := mulS_1 57 400 (by decide) (by decide)
    simp -implicitDefEqProofs [L12, St, l_9, r1, -List.replicate_succ, -List.reduceReplicate]
  refine seq_nx e13 ?_
  rfl
end K93
namespace K93
open DL L2 PySem PySem.Spec PyProof.Rows
def D_law_number : He.DefD := ⟨("_law_number", none), "_law_number", "_law_number", defArgs s_law_number, defBody s_law_number, defScope s_law_number, [], []⟩
def D_law_draws : He.DefD := ⟨("_law_draws", none), "_law_draws", "_law_draws", defArgs s_law_draws, defBody s_law_draws, defScope s_law_draws, [], []⟩
def D_law_next : He.DefD := ⟨("_law_next", none), "_law_next", "_law_next", defArgs s_law_next, defBody s_law_next, defScope s_law_next, [], []⟩
def D_law_line : He.DefD := ⟨("_law_line", none), "_law_line", "_law_line", defArgs s_law_line, defBody s_law_line, defScope s_law_line, [], []⟩
def D_law_row_word : He.DefD := ⟨("_law_row_word", none), "_law_row_word", "_law_row_word", defArgs s_law_row_word, defBody s_law_row_word, defScope s_law_row_word, [], []⟩
def D_law_spoilt : He.DefD := ⟨("_law_spoilt", none), "_law_spoilt", "_law_spoilt", defArgs s_law_spoilt, defBody s_law_spoilt, defScope s_law_spoilt, [], []⟩
def Dwords_of : He.DefD := ⟨("words_of", none), "words_of", "words_of", defArgs swords_of, defBody swords_of, defScope swords_of, [], []⟩
def D_law_words : He.DefD := ⟨("_law_words", none), "_law_words", "_law_words", defArgs s_law_words, defBody s_law_words, defScope s_law_words, [], []⟩
def Dis_name : He.DefD := ⟨("is_name", none), "is_name", "is_name", defArgs sis_name, defBody sis_name, defScope sis_name, [], []⟩
def D_law_is_name : He.DefD := ⟨("_law_is_name", none), "_law_is_name", "_law_is_name", defArgs s_law_is_name, defBody s_law_is_name, defScope s_law_is_name, [], []⟩
def Dnumber_in : He.DefD := ⟨("number_in", none), "number_in", "number_in", defArgs snumber_in, defBody snumber_in, defScope snumber_in, [], []⟩
def D_law_number_in : He.DefD := ⟨("_law_number_in", none), "_law_number_in", "_law_number_in", defArgs s_law_number_in, defBody s_law_number_in, defScope s_law_number_in, [], []⟩
def Dinteger_in : He.DefD := ⟨("integer_in", none), "integer_in", "integer_in", defArgs sinteger_in, defBody sinteger_in, defScope sinteger_in, [], []⟩
def Dintegers_in : He.DefD := ⟨("integers_in", none), "integers_in", "integers_in", defArgs sintegers_in, defBody sintegers_in, defScope sintegers_in, [], []⟩
def D_law_integer_in : He.DefD := ⟨("_law_integer_in", none), "_law_integer_in", "_law_integer_in", defArgs s_law_integer_in, defBody s_law_integer_in, defScope s_law_integer_in, [], []⟩
def D_law_integers_in : He.DefD := ⟨("_law_integers_in", none), "_law_integers_in", "_law_integers_in", defArgs s_law_integers_in, defBody s_law_integers_in, defScope s_law_integers_in, [], []⟩
def Dlaw : He.DefD := ⟨("law", none), "law", "law", defArgs slaw, defBody slaw, defScope slaw, [], []⟩
def fns : List He.DefD := [D_law_number, D_law_draws, D_law_next, D_law_line, D_law_row_word, D_law_spoilt, Dwords_of, D_law_words, Dis_name, D_law_is_name, Dnumber_in, D_law_number_in, Dinteger_in, Dintegers_in, D_law_integer_in, D_law_integers_in, Dlaw]
def fas : List He.Fa := [.glo "_law_draws", .glo "_law_integer_in", .glo "_law_integers_in", .glo "_law_is_name", .glo "_law_line", .glo "_law_next", .glo "_law_number", .glo "_law_number_in", .glo "_law_row_word", .glo "_law_spoilt", .glo "_law_words", .glo "integer_in", .glo "integers_in", .glo "is_name", .glo "law", .glo "number_in", .glo "words_of", .free "all", .free "any", .free "int", .free "len", .free "range", .free "repr", .free "str", .str "FIGURES" cFIGURES, .int "MOST_FIGURES" cMOST_FIGURES, .str "SMALL" cSMALL]
def xfs (K : PySem.W.Frag) : Bool := true
def loose0 : List Str := ["MOST_FIGURES", "FIGURES", "integer_in", "SMALL", "words_of", "is_name", "number_in", "integers_in", "_law_number", "_law_draws", "_law_next", "_law_line", "_law_words", "_law_is_name", "_law_number_in", "_law_integer_in", "_law_integers_in", "_law_row_word", "_law_spoilt"]
def loose : List Str := loose0
abbrev R : PySem.W.OpenRow := PySem.W.OpenLaw.row PySem.Challenge.rw_planeworth_k93_lines_and_words
abbrev hk : PySem.W.Hook := hookX 4 fas xfs fns
def ob (s : PySem.W.SharedT) : He.AlD := obXG 4 fas xfs fns (HandSHeadRun.getT s)
theorem ob_eq (s : PySem.W.SharedT) : ob s = hk.obs s.abs := obXG_eq (HandSHeadRun.getT_eq s)
theorem run (w : World) : HandSHeadRun.RunEq R (PySem.W.view R.prog [22]) hk ob 4000 loose w := by
  intro os
  kernel_rfl
theorem fcOk {K : PySem.W.Frag} {h : Heap} {mg : Str → Option Value} (X : K.In h) (G : h.Ns mainGlobals mg) (c : SaysX fas xfs fns K) : Fc K mg := by
  have x0 : xfs K = true := c.x1
  exact {
    g__law_draws := He.glo_ok X G (c.d.fact 0 rfl)
    g__law_integer_in := He.glo_ok X G (c.d.fact 1 rfl)
    g__law_integers_in := He.glo_ok X G (c.d.fact 2 rfl)
    g__law_is_name := He.glo_ok X G (c.d.fact 3 rfl)
    g__law_line := He.glo_ok X G (c.d.fact 4 rfl)
    g__law_next := He.glo_ok X G (c.d.fact 5 rfl)
    g__law_number := He.glo_ok X G (c.d.fact 6 rfl)
    g__law_number_in := He.glo_ok X G (c.d.fact 7 rfl)
    g__law_row_word := He.glo_ok X G (c.d.fact 8 rfl)
    g__law_spoilt := He.glo_ok X G (c.d.fact 9 rfl)
    g__law_words := He.glo_ok X G (c.d.fact 10 rfl)
    g_integer_in := He.glo_ok X G (c.d.fact 11 rfl)
    g_integers_in := He.glo_ok X G (c.d.fact 12 rfl)
    g_is_name := He.glo_ok X G (c.d.fact 13 rfl)
    g_law := He.glo_ok X G (c.d.fact 14 rfl)
    g_number_in := He.glo_ok X G (c.d.fact 15 rfl)
    g_words_of := He.glo_ok X G (c.d.fact 16 rfl)
    f_all := He.free_ok X G (c.d.fact 17 rfl)
    f_any := He.free_ok X G (c.d.fact 18 rfl)
    f_int := He.free_ok X G (c.d.fact 19 rfl)
    f_len := He.free_ok X G (c.d.fact 20 rfl)
    f_range := He.free_ok X G (c.d.fact 21 rfl)
    f_repr := He.free_ok X G (c.d.fact 22 rfl)
    f_str := He.free_ok X G (c.d.fact 23 rfl)
    c_FIGURES := He.str_ok X G (c.d.fact 24 rfl)
    c_MOST_FIGURES := He.int_ok X G (c.d.fact 25 rfl)
    c_SMALL := He.str_ok X G (c.d.fact 26 rfl)
    d__law_number := c.d.def_ 0 (d := D_law_number) rfl
    d__law_draws := c.d.def_ 1 (d := D_law_draws) rfl
    d__law_next := c.d.def_ 2 (d := D_law_next) rfl
    d__law_line := c.d.def_ 3 (d := D_law_line) rfl
    d__law_row_word := c.d.def_ 4 (d := D_law_row_word) rfl
    d__law_spoilt := c.d.def_ 5 (d := D_law_spoilt) rfl
    d_words_of := c.d.def_ 6 (d := Dwords_of) rfl
    d__law_words := c.d.def_ 7 (d := D_law_words) rfl
    d_is_name := c.d.def_ 8 (d := Dis_name) rfl
    d__law_is_name := c.d.def_ 9 (d := D_law_is_name) rfl
    d_number_in := c.d.def_ 10 (d := Dnumber_in) rfl
    d__law_number_in := c.d.def_ 11 (d := D_law_number_in) rfl
    d_integer_in := c.d.def_ 12 (d := Dinteger_in) rfl
    d_integers_in := c.d.def_ 13 (d := Dintegers_in) rfl
    d__law_integer_in := c.d.def_ 14 (d := D_law_integer_in) rfl
    d__law_integers_in := c.d.def_ 15 (d := D_law_integers_in) rfl
    d_law := c.d.def_ 16 (d := Dlaw) rfl }
end K93
open PySem PySem.W PySem.Calls PyProof.Rows
theorem PySem.Challenge.cw_planeworth_k93_lines_and_words_holds : PySem.Challenge.rw_planeworth_k93_lines_and_words.Holds := by
  w_on; o_law
  refine HandSHeadRun.head_any (r := OpenLaw.row PySem.Challenge.rw_planeworth_k93_lines_and_words) (q := view (OpenLaw.row PySem.Challenge.rw_planeworth_k93_lines_and_words).prog [22]) (H := K93.hk) (ob := K93.ob)
    (M := 4000) (loose := K93.loose) (d := HandSHeadRun.topDef (OpenLaw.row PySem.Challenge.rw_planeworth_k93_lines_and_words).prog 22) (kwd := []) K93.ob_eq
    (by kernel_rfl) (fun s => by kernel_rfl) K93.run (by kernel_rfl)
    (by kernel_rfl) (by kernel_rfl) (by rfl) (by first | assumption | decide +kernel) (by decide +kernel) ⟨rfl, rfl, rfl, rfl, rfl, by decide +kernel⟩ ?hw ?hc
  case hw => w_witness2
  case hc =>
    refine DL.walkG (l := PySem.Challenge.rw_planeworth_k93_lines_and_words) (n := 63) (k := 3) (F := K93.Flaw) rfl (by decide) (by kernel_rfl) ⟨rfl, by decide, by decide⟩ ?C K93.law_true
    intro w mg fL h Y G hmg0
    obtain ⟨K, kin, c⟩ := Y
    have hmg : mg ("law" : PySem.Str) = some (.ref fL) := by
      have e : (HandSHeadRun.topDef (OpenLaw.row PySem.Challenge.rw_planeworth_k93_lines_and_words).prog 22).name = ("law" : PySem.Str) := by kernel_rfl
      rw [← e]
      exact hmg0
    have fc := K93.fcOk kin G c
    have e := hmg.symm.trans fc.g_law
    cases e
    exact ⟨K, kin, fun base _ _ => K93.glaw fc base⟩
