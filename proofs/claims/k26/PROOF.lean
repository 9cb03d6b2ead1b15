import PyProof.Rows.All
import Wide.All
import OpenK.AllK
import Wide.FinOn
import KE.KStateDown
import HandS.ForMost
import HandS.ForExc
import HandS.Flow
import HandS.Wide
import HandS.HeadHook2
import HandS.TupAny
import HandS.TupMul
import HandS.Deep
import HandS.Style
import HandS.ExcCtx
import HandS.Defaults
import HandS.SortInts
import HandS.RaiseMore
import HandS.StrMore
import HandS.Conv
import PyProof.ListStr
import HandS.ExcIs
import HandS.ExcOwn
import HandS.FStr
import HandS.Ends
import HandS.HeadEnd
import HandS.Replace
import PyProof.Rows.StrMul
import HandS.IsInst
import HandS.More
import OpenK.KOps
import HandS.Zip
import KE.GoesZip
import KE.GoesMore
import KE.KItemsList
import HandS.ExcValue
import HandS.HotCalls
import HandS.TryOnly
import HandS.HeadHook3
import HandS.Codes
import HandS.Head0
import HandS.Head1
import HandS.Head2
import PySem.Challenge.RW_planeworth_k26_families
set_option Elab.async false
set_option linter.all false
set_option maxRecDepth 100000
set_option maxHeartbeats 0
namespace DL
open L2 PySem PySem.Spec PyProof.Rows

inductive D where
  | non | bl (b : Bool) | int (i : Int) | str (x : Str)
  | tup (l : List D) | lst (l : List D)
  | scr (l : List D)
  | fn (x : Str)
  | obj (c : Str) (fs : List (Str × D))
  | exn (c : Str) (fs : List (Str × D))
structure Xn where
  c : Str
  fs : List (Str × D) := []
abbrev En := List (Option D)
inductive R (α : Type) where
  | ok (a : α) (r : En)
  | ex (x : Xn) (r : En)
  | bad
def R.bind {α β : Type} : R α → (α → En → R β) → R β
  | .ok a r, f => f a r
  | .ex x r, _ => .ex x r
  | .bad, _ => .bad
abbrev ME := En → R D
abbrev MT := En → R Bool
abbrev MA := En → R (List D)

def SqTA (K : PySem.W.Frag) (A : Addr → Prop) (H : Hp) (a : Addr) (xs : List V) : Prop :=
  (Rd H a (.tup xs) ∧ ¬ A a) ∨
    ∃ (o : Obj) (its : Array Value) (n : Nat), K.lookup a = some o ∧ o.cls = .type "tuple" ∧ o.data = .seq its n ∧ its.size ≤ sizeLine ∧ Vals xs its.toList
def SqLA (K : PySem.W.Frag) (A : Addr → Prop) (H : Hp) (a : Addr) (xs : List V) : Prop :=
  (Rd H a (.lst xs) ∧ ¬ A a) ∨
    ∃ (o : Obj) (its : Array Value) (n : Nat), K.lookup a = some o ∧ o.cls = .type "list" ∧ o.dict = none ∧ o.data = .seq its n ∧ its.size ≤ sizeLine ∧ Vals xs its.toList
theorem SqTA.sq {K : PySem.W.Frag} {A : Addr → Prop} {H : Hp} {a : Addr} {xs : List V} (h : SqTA K A H a xs) : SqT K H a xs := h.imp (fun z => z.1) id
theorem SqLA.sq {K : PySem.W.Frag} {A : Addr → Prop} {H : Hp} {a : Addr} {xs : List V} (h : SqLA K A H a xs) : SqL K H a xs := h.imp (fun z => z.1) id

mutual
inductive Rp (K : PySem.W.Frag) (A : Addr → Prop) (H : Hp) : V → D → Prop where
  | non : Rp K A H .non .non
  | bl (b : Bool) : Rp K A H (.bl b) (.bl b)
  | int (i : Int) : Rp K A H (.int i) (.int i)
  | str (x : Str) : Rp K A H (.str x) (.str x)
  | tup {a : Addr} {xs : List V} {ds : List D} : SqTA K A H a xs → RpA K A H xs ds → Rp K A H (.ref a) (.tup ds)
  | lst {a : Addr} {xs : List V} {ds : List D} : H a = some (.lst xs) → ¬ A a → RpA K A H xs ds → Rp K A H (.ref a) (.lst ds)
  | scr {a : Addr} {xs : List V} {ds : List D} : SqLA K A H a xs → RpA K A H xs ds → Rp K A H (.ref a) (.scr ds)
  | fn (x : Str) : Rp K A H (.ref (He.ga K x)) (.fn x)
  | obj {a dx : Addr} {c : Str} {fs : List (Str × V)} {ds : List (Str × D)} : H a = some (.ins (He.ga K c) dx fs) → ¬ A a → RpF K A H fs ds → Rp K A H (.ref a) (.obj c ds)
inductive RpA (K : PySem.W.Frag) (A : Addr → Prop) (H : Hp) : List V → List D → Prop where
  | nil : RpA K A H [] []
  | cons {v : V} {vs : List V} {d : D} {ds : List D} : Rp K A H v d → RpA K A H vs ds → RpA K A H (v :: vs) (d :: ds)
inductive RpF (K : PySem.W.Frag) (A : Addr → Prop) (H : Hp) : List (Str × V) → List (Str × D) → Prop where
  | nil : RpF K A H [] []
  | cons {f : Str} {v : V} {vs : List (Str × V)} {d : D} {ds : List (Str × D)} : Rp K A H v d → RpF K A H vs ds → RpF K A H ((f, v) :: vs) ((f, d) :: ds)
end

section
variable {K : PySem.W.Frag} {A A' : Addr → Prop} {H H' : Hp}
def Tr (A A' : Addr → Prop) (H H' : Hp) : Prop := ∀ a o, H a = some o → ¬ A a → H' a = some o ∧ ¬ A' a
theorem Tr.rd (t : Tr A A' H H') {a : Addr} {u : HO} (h : Rd H a u) (n : ¬ A a) : Rd H' a u ∧ ¬ A' a := by
  rcases h with h | ⟨o, h⟩
  · exact ⟨.inl (t a _ h n).1, (t a _ h n).2⟩
  · exact ⟨.inr ⟨o, (t a _ h n).1⟩, (t a _ h n).2⟩
theorem SqTA.tr (t : Tr A A' H H') {a : Addr} {xs : List V} (h : SqTA K A H a xs) : SqTA K A' H' a xs := h.imp (fun z => t.rd z.1 z.2) id
theorem SqLA.tr (t : Tr A A' H H') {a : Addr} {xs : List V} (h : SqLA K A H a xs) : SqLA K A' H' a xs := h.imp (fun z => t.rd z.1 z.2) id
mutual
theorem Rp.tr (t : Tr A A' H H') : ∀ {v : V} {d : D}, Rp K A H v d → Rp K A' H' v d
  | _, _, .non => .non
  | _, _, .bl b => .bl b
  | _, _, .int i => .int i
  | _, _, .str x => .str x
  | _, _, .tup h q => .tup (h.tr t) (RpA.tr t q)
  | _, _, .lst h n q => .lst (t _ _ h n).1 (t _ _ h n).2 (RpA.tr t q)
  | _, _, .scr h q => .scr (h.tr t) (RpA.tr t q)
  | _, _, .fn x => .fn x
  | _, _, .obj h n q => .obj (t _ _ h n).1 (t _ _ h n).2 (RpF.tr t q)
theorem RpA.tr (t : Tr A A' H H') : ∀ {v : List V} {d : List D}, RpA K A H v d → RpA K A' H' v d
  | _, _, .nil => .nil
  | _, _, .cons h q => .cons (Rp.tr t h) (RpA.tr t q)
theorem RpF.tr (t : Tr A A' H H') : ∀ {v : List (Str × V)} {d : List (Str × D)}, RpF K A H v d → RpF K A' H' v d
  | _, _, .nil => .nil
  | _, _, .cons h q => .cons (Rp.tr t h) (RpF.tr t q)
end
theorem RpA.length : ∀ {vs : List V} {ds : List D}, RpA K A H vs ds → vs.length = ds.length
  | _, _, .nil => rfl
  | _, _, .cons _ q => by rw [List.length_cons, List.length_cons, RpA.length q]
theorem RpA.get : ∀ {vs : List V} {ds : List D} {i : Nat} {d : D}, RpA K A H vs ds → ds[i]? = some d → ∃ v, vs[i]? = some v ∧ Rp K A H v d
  | _, _, _, _, .nil, e => by simp at e
  | _, _, 0, _, .cons h _, e => by simp at e; subst e; exact ⟨_, rfl, h⟩
  | _, _, i + 1, _, .cons _ q, e => by
    obtain ⟨v, h1, h2⟩ := RpA.get (i := i) q (by simpa using e)
    exact ⟨v, by simpa using h1, h2⟩
theorem RpA.getV : ∀ {vs : List V} {ds : List D} {i : Nat} {v : V}, RpA K A H vs ds → vs[i]? = some v → ∃ d, ds[i]? = some d ∧ Rp K A H v d
  | _, _, _, _, .nil, e => by simp at e
  | _, _, 0, _, .cons h _, e => by simp at e; subst e; exact ⟨_, rfl, h⟩
  | _, _, i + 1, _, .cons _ q, e => by
    obtain ⟨v, h1, h2⟩ := RpA.getV (i := i) q (by simpa using e)
    exact ⟨v, by simpa using h1, h2⟩
theorem RpA.app : ∀ {vs ws : List V} {ds es : List D}, RpA K A H vs ds → RpA K A H ws es → RpA K A H (vs ++ ws) (ds ++ es)
  | _, _, _, _, .nil, q => q
  | _, _, _, _, .cons h t, q => .cons h (RpA.app t q)
theorem RpA.take : ∀ {vs : List V} {ds : List D} (n : Nat), RpA K A H vs ds → RpA K A H (vs.take n) (ds.take n)
  | _, _, 0, _ => .nil
  | _, _, _ + 1, .nil => .nil
  | _, _, n + 1, .cons h t => .cons h (RpA.take n t)
theorem RpA.drop : ∀ {vs : List V} {ds : List D} (n : Nat), RpA K A H vs ds → RpA K A H (vs.drop n) (ds.drop n)
  | _, _, 0, h => h
  | _, _, _ + 1, .nil => .nil
  | _, _, n + 1, .cons _ t => RpA.drop n t
theorem RpA.set : ∀ {vs : List V} {ds : List D} {v : V} {d : D} (n : Nat), RpA K A H vs ds → Rp K A H v d → RpA K A H (vs.set n v) (ds.set n d)
  | _, _, _, _, _, .nil, _ => .nil
  | _, _, _, _, 0, .cons _ t, q => .cons q t
  | _, _, _, _, n + 1, .cons h t, q => .cons h (RpA.set n t q)
theorem RpA.rev : ∀ {vs : List V} {ds : List D}, RpA K A H vs ds → RpA K A H vs.reverse ds.reverse
  | _, _, .nil => .nil
  | _, _, .cons h t => by
    rw [List.reverse_cons, List.reverse_cons]
    exact (RpA.rev t).app (.cons h .nil)
theorem RpA.dropLast {vs : List V} {ds : List D} (h : RpA K A H vs ds) : RpA K A H vs.dropLast ds.dropLast := by
  rw [List.dropLast_eq_take, List.dropLast_eq_take, h.length]
  exact h.take _
theorem RpA.ints : ∀ {vs : List V} {ns : List Int}, RpA K A H vs (ns.map D.int) → vs = ns.map V.int
  | vs, [], h => by cases h; rfl
  | vs, n :: ns, h => by
    rw [List.map_cons] at h
    cases h with
    | cons h t =>
      cases h
      rw [RpA.ints t, List.map_cons]
theorem RpA.of_ints : ∀ (ns : List Int), RpA K A H (ns.map V.int) (ns.map D.int)
  | [] => .nil
  | n :: ns => .cons (.int n) (RpA.of_ints ns)
theorem RpA.strs : ∀ {vs : List V} {ns : List Str}, RpA K A H vs (ns.map D.str) → vs = ns.map V.str
  | vs, [], h => by cases h; rfl
  | vs, n :: ns, h => by
    rw [List.map_cons] at h
    cases h with
    | cons h t =>
      cases h
      rw [RpA.strs t, List.map_cons]
theorem RpA.of_strs : ∀ (ns : List Str), RpA K A H (ns.map V.str) (ns.map D.str)
  | [] => .nil
  | n :: ns => .cons (.str n) (RpA.of_strs ns)
theorem RpA.bls : ∀ {vs : List V} {ns : List Bool}, RpA K A H vs (ns.map D.bl) → vs = ns.map V.bl
  | vs, [], h => by cases h; rfl
  | vs, n :: ns, h => by
    rw [List.map_cons] at h
    cases h with
    | cons h t =>
      cases h
      rw [RpA.bls t, List.map_cons]
end

inductive Own (K : PySem.W.Frag) (A : Addr → Prop) (H : Hp) (p : Addr) : D → Prop where
  | lst {vs : List V} {ds : List D} : H p = some (.lst vs) → RpA K A H vs ds → Own K A H p (.lst ds)
  | obj {dx : Addr} {c : Str} {fs : List (Str × V)} {ds : List (Str × D)} : H p = some (.ins (He.ga K c) dx fs) → RpF K A H fs ds → Own K A H p (.obj c ds)
theorem Own.there {K : PySem.W.Frag} {A : Addr → Prop} {H : Hp} {p : Addr} {d : D} (h : Own K A H p d) : ∃ o, H p = some o := by
  cases h with
  | lst e _ => exact ⟨_, e⟩
  | obj e _ => exact ⟨_, e⟩
theorem Own.tr {K : PySem.W.Frag} {A A' : Addr → Prop} {H H' : Hp} {p : Addr} {d : D} (h : Own K A H p d) (t : Tr A A' H H') (hp : ∀ o, H p = some o → H' p = some o) : Own K A' H' p d := by
  cases h with
  | lst e q => exact .lst (hp _ e) (q.tr t)
  | obj e q => exact .obj (hp _ e) (q.tr t)
theorem Own.freeze {K : PySem.W.Frag} {A A' : Addr → Prop} {H : Hp} {p : Addr} {d : D} (h : Own K A H p d) (s : ∀ a, A' a → A a) (n : ¬ A' p) : Rp K A' H (.ref p) d := by
  have t : Tr A A' H H := fun a o e q => ⟨e, fun z => q (s a z)⟩
  cases h with
  | lst e q => exact .lst e n (q.tr t)
  | obj e q => exact .obj e n (q.tr t)

structure Gd where
  A0 : Addr → Prop
  H0 : Hp
  io : Option Addr
  px : Option (Nat × Addr × Str)
structure RelS (K : PySem.W.Frag) (G : Gd) (O : List Nat) (A : Addr → Prop) (ms : Nat → Option Addr) (σ : L2.St) (H : Hp) (ρ : En) : Prop where
  sub : ∀ a, G.A0 a → A a
  trk0 : ∀ a, G.A0 a → ∃ o, G.H0 a = some o
  trk : ∀ a, A a → ∃ o, H a = some o
  keep : ∀ a o, G.H0 a = some o → G.io ≠ some a → H a = some o
  len : σ.length = ρ.length
  fz : ∀ i d, ρ[i]? = some (some d) → i ∉ O → ∃ v, σ[i]? = some (some v) ∧ Rp K A H v d
  ow : ∀ i d, ρ[i]? = some (some d) → i ∈ O → ∃ p, ms i = some p ∧ σ[i]? = some (some (.ref p)) ∧ Own K A H p d
  inA : ∀ i p, i ∈ O → ms i = some p → A p
  ok : ∀ i p, i ∈ O → ms i = some p → (i = 0 ∧ G.io = some p) ∨ ((i ≠ 0 ∨ G.io = none) ∧ G.H0 p = none)
  dist : ∀ i j p, i ∈ O → j ∈ O → ms i = some p → ms j = some p → i = j
  px : ∀ i a c, G.px = some (i, a, c) → i ∈ O ∧ σ[i]? = some (some (.ref a))
  io : ∀ p, G.io = some p → 0 ∈ O ∧ G.A0 p ∧ ms 0 = some p ∧ ∃ d, ρ[0]? = some (some d)
def Kp (O : List Nat) (ms : Nat → Option Addr) (H H' : Hp) : Prop := ∀ a o, H a = some o → (∀ i ∈ O, ms i ≠ some a) → H' a = some o
section
variable {O : List Nat} {ms : Nat → Option Addr}
theorem Kp.refl {H : Hp} : Kp O ms H H := fun _ _ e _ => e
theorem Kp.trans {H H1 H2 : Hp} (a : Kp O ms H H1) (b : Kp O ms H1 H2) : Kp O ms H H2 := fun x o e n => b x o (a x o e n) n
theorem Kp.same {H H' : Hp} (k : Same H H') : Kp O ms H H' := fun a o e _ => k a o e
theorem Tr.same {A : Addr → Prop} {H H' : Hp} (k : Same H H') : Tr A A H H' := fun a o e n => ⟨k a o e, n⟩
theorem RelS.kt {K : PySem.W.Frag} {G : Gd} {A : Addr → Prop} {σ : L2.St} {H0 H H' : Hp} {ρ : En} (R : RelS K G O A ms σ H0 ρ) (k : Kp O ms H H') : Tr A A H H' := fun a o e n => ⟨k a o e fun i m z => n (R.inA i a m z), n⟩
theorem RelS.same {K : PySem.W.Frag} {G : Gd} {A : Addr → Prop} {σ : L2.St} {H H' : Hp} {ρ : En} (h : RelS K G O A ms σ H ρ) (k : Same H H') : RelS K G O A ms σ H' ρ where
  sub := h.sub
  trk0 := h.trk0
  trk := fun a q => let ⟨o, e⟩ := h.trk a q; ⟨o, k _ _ e⟩
  keep := fun a o e n => k _ _ (h.keep a o e n)
  len := h.len
  fz := fun i d e n => let ⟨v, e1, q⟩ := h.fz i d e n; ⟨v, e1, q.tr (Tr.same k)⟩
  ow := fun i d e n => let ⟨p, e0, e1, q⟩ := h.ow i d e n; ⟨p, e0, e1, q.tr (Tr.same k) fun o z => k _ _ z⟩
  inA := h.inA
  ok := h.ok
  dist := h.dist
  px := h.px
  io := h.io
end

def XRel (K : PySem.W.Frag) (A : Addr → Prop) (H : Hp) (x : Xn) (dx : Option Addr) : Prop :=
  (x.fs = [] ∧ dx = none) ∨ (x.fs ≠ [] ∧ ∃ d fs, dx = some d ∧ H d = some (.xd fs) ∧ RpF K A H fs x.fs)
section
variable (K : PySem.W.Frag) (G : Gd) (O : List Nat) (W : WX) (A : Addr → Prop) (ms : Nat → Option Addr) (σ : L2.St)
def RPost {α β : Type} (H : Hp) (rel : Hp → β → α → Prop) (Q : β → Hp → Prop) : R α → Prop
  | .ok d ρ' => ∀ v H', RelS K G O A ms σ H' ρ' → Kp O ms H H' → rel H' v d → Q v H'
  | .ex x ρ' => ∀ dx H', RelS K G O A ms σ H' ρ' → Kp O ms H H' → XRel K A H' x dx → W (.ref (He.ga K x.c)) dx σ H'
  | .bad => False
end
section
variable {K : PySem.W.Frag} {G : Gd} {O : List Nat} {W : WX} {A : Addr → Prop} {ms : Nat → Option Addr} {σ : L2.St} {H H1 : Hp}
theorem RPost.from {α β : Type} {rel : Hp → β → α → Prop} {Q : β → Hp → Prop} {r : R α} (k : Kp O ms H H1) (h : RPost K G O W A ms σ H rel Q r) : RPost K G O W A ms σ H1 rel Q r := by
  cases r with
  | ok d ρ => exact fun v H' R k' q => h v H' R (k.trans k') q
  | ex x ρ => exact fun dx H' R k' q => h dx H' R (k.trans k') q
  | bad => exact h
theorem RPost.mono {α β : Type} {rel : Hp → β → α → Prop} {Q Q' : β → Hp → Prop} {r : R α} (h : RPost K G O W A ms σ H rel Q r) (w : ∀ v H', Q v H' → Q' v H') : RPost K G O W A ms σ H rel Q' r := by
  cases r with
  | ok d ρ => exact fun v H' R k' q => w _ _ (h v H' R k' q)
  | ex x ρ => exact h
  | bad => exact h
theorem RPost.bind {α β γ δ : Type} {rel : Hp → β → α → Prop} {rel' : Hp → δ → γ → Prop} {Q : δ → Hp → Prop} {r : R α} {f : α → En → R γ} (h : RPost K G O W A ms σ H rel' Q (r.bind f)) :
    RPost K G O W A ms σ H rel (fun v H1 => ∃ d ρ1, RelS K G O A ms σ H1 ρ1 ∧ Kp O ms H H1 ∧ rel H1 v d ∧ RPost K G O W A ms σ H1 rel' Q (f d ρ1)) r := by
  cases r with
  | ok d ρ => exact fun v H' R k' q => ⟨d, ρ, R, k', q, RPost.from k' h⟩
  | ex x ρ => exact h
  | bad => exact h
end

def tE (K : PySem.W.Frag) (G : Gd) (O : List Nat) (W : WX) (m : ME) : TE := fun σ H Q => ∃ A ms ρ, RelS K G O A ms σ H ρ ∧ RPost K G O W A ms σ H (Rp K A) Q (m ρ)
def tT (K : PySem.W.Frag) (G : Gd) (O : List Nat) (W : WX) (m : MT) : TT := fun σ H Q => ∃ A ms ρ, RelS K G O A ms σ H ρ ∧ RPost K G O W A ms σ H (fun _ => Eq) Q (m ρ)
def tA (K : PySem.W.Frag) (G : Gd) (O : List Nat) (W : WX) (m : MA) : TA := fun σ H Q => ∃ A ms ρ, RelS K G O A ms σ H ρ ∧ RPost K G O W A ms σ H (RpA K A) Q (m ρ)
def DE (X : Cx) (G : Gd) (O : List Nat) (W : WX) (e : Expr) (m : ME) : Prop := PE X e (tE X.K G O W m)
def DT (X : Cx) (G : Gd) (O : List Nat) (W : WX) (e : Expr) (m : MT) : Prop := PT X e (tT X.K G O W m)
def DA (X : Cx) (G : Gd) (O : List Nat) (W : WX) (es : List Expr) (m : MA) : Prop := PA X es (tA X.K G O W m)
theorem pe_imp {X : Cx} {e : Expr} {t t' : TE} (h : PE X e t) (w : ∀ σ H Q, t' σ H Q → t σ H Q) : PE X e t' := ⟨fun pins s σ H Q I q => h.run pins s σ H Q I (w σ H Q q)⟩
theorem pt_imp {X : Cx} {e : Expr} {t t' : TT} (h : PT X e t) (w : ∀ σ H Q, t' σ H Q → t σ H Q) : PT X e t' := ⟨fun pins s σ H Q I q => h.run pins s σ H Q I (w σ H Q q)⟩
theorem pw_imp {X : Cx} {e : Expr} {t t' : TT} (h : PW X e t) (w : ∀ σ H Q, t' σ H Q → t σ H Q) : PW X e t' := ⟨fun wh pins s σ H Q I q => h.run wh pins s σ H Q I (w σ H Q q)⟩
theorem pa_imp {X : Cx} {es : List Expr} {t t' : TA} (h : PA X es t) (w : ∀ σ H Q, t' σ H Q → t σ H Q) : PA X es t' := ⟨fun pos pins s σ H Q I q => h.run pos pins s σ H Q I (w σ H Q q)⟩
theorem ps_imp {X : Cx} {st : Stmt} {t t' : TS} (h : PS X st t) (w : ∀ D σ H, t' D σ H → t D σ H) : PS X st t' := ⟨fun pins s σ H D I q => h.run pins s σ H D I (w D σ H q)⟩
theorem pss_imp {X : Cx} {st : List Stmt} {t t' : TS} (h : PSs X st t) (w : ∀ D σ H, t' D σ H → t D σ H) : PSs X st t' := ⟨fun pins s σ H D I q => h.run pins s σ H D I (w D σ H q)⟩
end DL
namespace DL
open L2 PySem PySem.Spec PyProof.Rows

def ret {α : Type} (d : Option α) (ρ : En) : R α := match d with
  | some d => .ok d ρ
  | none => .bad
def mVar (i : Nat) : ME := fun ρ => match ρ[i]? with
  | some (some d) => .ok d ρ
  | _ => .bad
def mK (d : D) : ME := fun ρ => .ok d ρ
def m1 (g : D → Option D) (a : ME) : ME := fun ρ => (a ρ).bind fun x ρ1 => ret (g x) ρ1
def m2 (g : D → D → Option D) (a b : ME) : ME := fun ρ => (a ρ).bind fun x ρ1 => (b ρ1).bind fun y ρ2 => ret (g x y) ρ2
def mIf (c : MT) (a b : ME) : ME := fun ρ => (c ρ).bind fun k ρ1 => if k = true then a ρ1 else b ρ1
def tru : D → Option Bool
  | .non => some false
  | .bl b => some b
  | .int i => some (i != 0)
  | .str y => if y.length ≤ sizeLine then some ((y.length : Int) != 0) else none
  | .tup l => some (!l.isEmpty)
  | .lst l => some (!l.isEmpty)
  | .scr l => some (!l.isEmpty)
  | _ => none
def mTru (a : ME) : MT := fun ρ => (a ρ).bind fun x ρ1 => ret (tru x) ρ1
def mAndT (a b : MT) : MT := fun ρ => (a ρ).bind fun k ρ1 => if k = true then b ρ1 else .ok false ρ1
def mOrT (a b : MT) : MT := fun ρ => (a ρ).bind fun k ρ1 => if k = true then .ok true ρ1 else b ρ1
def mNotT (a : MT) : MT := fun ρ => (a ρ).bind fun k ρ1 => .ok (!k) ρ1
def mBl (a : MT) : ME := fun ρ => (a ρ).bind fun k ρ1 => .ok (.bl k) ρ1
def mAnd (a b : ME) : ME := fun ρ => (a ρ).bind fun x ρ1 => (ret (tru x) ρ1).bind fun k ρ2 => if k = true then b ρ2 else .ok x ρ2
def mOr (a b : ME) : ME := fun ρ => (a ρ).bind fun x ρ1 => (ret (tru x) ρ1).bind fun k ρ2 => if k = true then .ok x ρ2 else b ρ2
def mNil : MA := fun ρ => .ok [] ρ
def mCons (a : ME) (b : MA) : MA := fun ρ => (a ρ).bind fun x ρ1 => (b ρ1).bind fun xs ρ2 => .ok (x :: xs) ρ2
def mN (g : List D → Option D) (a : MA) : ME := fun ρ => (a ρ).bind fun xs ρ1 => ret (g xs) ρ1
def gTup (xs : List D) : Option D := if xs.length ≤ sizeLine then some (.tup xs) else none
def gLst (xs : List D) : Option D := if xs.length ≤ sizeLine then some (.lst xs) else none
def mChain (g g' : D → D → Option D) (a b c : ME) : ME := fun ρ => (a ρ).bind fun x ρ1 => (b ρ1).bind fun y ρ2 => (ret (g x y) ρ2).bind fun k ρ3 => match k with
  | .bl true => (c ρ3).bind fun z ρ4 => ret (g' y z) ρ4
  | .bl false => .ok (.bl false) ρ3
  | _ => .bad

def gAdd : D → D → Option D
  | .int i, .int j => some (.int (i + j))
  | .str x, .str y => if x.length + y.length ≤ sizeLine then some (.str (x ++ y)) else none
  | .tup xs, .tup ys => if xs.length + ys.length ≤ sizeLine then some (.tup (xs ++ ys)) else none
  | .lst xs, .lst ys => if xs.length + ys.length ≤ sizeLine then some (.lst (xs ++ ys)) else none
  | _, _ => none
def gSub : D → D → Option D
  | .int i, .int j => some (.int (i - j))
  | _, _ => none
def okMul (i j : Int) : Bool := decide (i.natAbs.log2 + j.natAbs.log2 < 100000000)
def gMul : D → D → Option D
  | .int i, .int j => if okMul i j = true then some (.int (i * j)) else none
  | .lst xs, .int k => if -(2 ^ 63) ≤ k ∧ k < 2 ^ 63 ∧ xs.length * k.toNat ≤ sizeLine then some (.lst (List.replicate k.toNat xs).flatten) else none
  | _, _ => none
def gDiv : D → D → Option D
  | .int i, .int j => if j ≠ 0 ∧ j.natAbs.log2 < 9000 then some (.int (i.fdiv j)) else none
  | _, _ => none
instance {i j : Int} : Decidable (CPow i j) := by unfold CPow; infer_instance
def gPow : D → D → Option D
  | .int i, .int j => if CPow i j then some (.int (i ^ j.toNat)) else none
  | _, _ => none
def gMod : D → D → Option D
  | .int i, .int j => if j ≠ 0 then some (.int (i.fmod j)) else none
  | _, _ => none
def gNeg : D → Option D
  | .int i => some (.int (-i))
  | _ => none
def gLt : D → D → Option D
  | .int i, .int j => some (.bl (decide (i < j)))
  | .str i, .str j => some (.bl (decide (i.cps.toList < j.cps.toList)))
  | _, _ => none
def gGt : D → D → Option D
  | .int i, .int j => some (.bl (decide (j < i)))
  | .str i, .str j => some (.bl (decide (j.cps.toList < i.cps.toList)))
  | _, _ => none
def gLe : D → D → Option D
  | .int i, .int j => some (.bl (decide (i ≤ j)))
  | .str i, .str j => some (.bl (!decide (j.cps.toList < i.cps.toList)))
  | _, _ => none
def gGe : D → D → Option D
  | .int i, .int j => some (.bl (decide (j ≤ i)))
  | .str i, .str j => some (.bl (!decide (i.cps.toList < j.cps.toList)))
  | _, _ => none
mutual
def D.py : D → Option PyData
  | .non => some .none
  | .bl b => some (.bool b)
  | .int i => some (.int i)
  | .str x => some (.str x)
  | .tup l => (pyAll l).map .tuple
  | .lst l => (pyAll l).map .list
  | _ => none
def pyAll : List D → Option (List PyData)
  | [] => some []
  | d :: ds => (D.py d).bind fun x => (pyAll ds).map fun xs => x :: xs
end
def eqD (a b : D) : Option Bool := match a, b with
  | .int i, .int j => some (decide (i = j))
  | .str i, .str j => some (decide (i = j))
  | .bl i, .bl j => some (decide (i = j))
  | .non, .non => some true
  | a, b => match a.py, b.py with
    | some x, some y => if SeqAt.shaped x = true ∧ SeqAt.shaped y = true then some (PyData.eqv x y) else none
    | _, _ => none
def gEq (a b : D) : Option D := (eqD a b).map D.bl
def gNe (a b : D) : Option D := (eqD a b).map fun k => D.bl (!k)
def isNon : D → Bool
  | .non => true
  | _ => false
def gIs : D → D → Option D
  | a, .non => some (.bl (isNon a))
  | .bl a, .bl b => some (.bl (decide (a = b)))
  | _, _ => none
def gIsNot : D → D → Option D
  | a, .non => some (.bl (!isNon a))
  | .bl a, .bl b => some (.bl (!decide (a = b)))
  | _, _ => none
def inStr (x y : Str) : Bool := !(Builtin.Str.occurrences y x 0 y.length 1).isEmpty
def inD (a : D) (l : D) : Option Bool := match a, l with
  | .str x, .str y => some (inStr x y)
  | a, .lst ds => match a.py, pyAll ds with
    | some x, some ys => if SeqAt.shaped x = true ∧ SeqAt.shaped (.list ys) = true then some (ys.any fun z => PyData.eqv z x) else none
    | _, _ => none
  | a, .tup ds => match a.py, pyAll ds with
    | some x, some ys => if SeqAt.shaped x = true ∧ SeqAt.shaped (.list ys) = true then some (ys.any fun z => PyData.eqv z x) else none
    | _, _ => none
  | _, _ => none
def gIn (a l : D) : Option D := (inD a l).map D.bl
def gNotIn (a l : D) : Option D := (inD a l).map fun k => D.bl (!k)

def Trk (A : Addr → Prop) (H : Hp) : Prop := ∀ p, A p → ∃ o, H p = some o
theorem Trk.no {A : Addr → Prop} {H : Hp} (t : Trk A H) {p : Addr} (h : H p = none) : ¬ A p := fun q => by
  obtain ⟨o, e⟩ := t p q
  rw [h] at e
  cases e
theorem same_upd {H : Hp} {p : Addr} {o : HO} (h : H p = none) : Same H (upd H p o) := fun b x e => by
  rw [upd_ne (ne_of_none e h)]
  exact e
inductive RpB (K : PySem.W.Frag) (A : Addr → Prop) (H : Hp) : V → D → Prop where
  | of {v : V} {d : D} : Rp K A H v d → RpB K A H v d
  | own {p : Addr} {ws : List V} {cs : List D} : H p = some (.lst ws) → RpA K A H ws cs → RpB K A H (.ref p) (.lst cs)
section
variable {K : PySem.W.Frag} {A : Addr → Prop} {H : Hp} {v : V}
theorem RpB.non (h : RpB K A H v .non) : v = .non := by cases h with | of h => cases h; rfl
theorem RpB.bl {b : Bool} (h : RpB K A H v (.bl b)) : v = .bl b := by cases h with | of h => cases h; rfl
theorem RpB.int {i : Int} (h : RpB K A H v (.int i)) : v = .int i := by cases h with | of h => cases h; rfl
theorem RpB.str {x : Str} (h : RpB K A H v (.str x)) : v = .str x := by cases h with | of h => cases h; rfl
theorem RpB.tup {ds : List D} (h : RpB K A H v (.tup ds)) : ∃ a xs, v = .ref a ∧ SqTA K A H a xs ∧ RpA K A H xs ds := by cases h with | of h => cases h with | tup h q => exact ⟨_, _, rfl, h, q⟩
theorem RpB.lst {ds : List D} (h : RpB K A H v (.lst ds)) : ∃ a xs, v = .ref a ∧ H a = some (.lst xs) ∧ RpA K A H xs ds := by
  cases h with
  | of h => cases h with | lst h n q => exact ⟨_, _, rfl, h, q⟩
  | own h q => exact ⟨_, _, rfl, h, q⟩
theorem RpB.scr {ds : List D} (h : RpB K A H v (.scr ds)) : ∃ a xs, v = .ref a ∧ SqLA K A H a xs ∧ RpA K A H xs ds := by cases h with | of h => cases h with | scr h q => exact ⟨_, _, rfl, h, q⟩
end
def rD1 (K : PySem.W.Frag) (g : D → Option D) : V → Hp → VK → Prop := fun x H Q => ∃ A a d, Trk A H ∧ RpB K A H x a ∧ g a = some d ∧ ∀ v H', Same H H' → Rp K A H' v d → Q v H'
def rD2 (K : PySem.W.Frag) (g : D → D → Option D) : R2 := fun x y H Q => ∃ A a b d, Trk A H ∧ RpB K A H x a ∧ RpB K A H y b ∧ g a b = some d ∧ ∀ v H', Same H H' → Rp K A H' v d → Q v H'
def Fr (K : PySem.W.Frag) (A : Addr → Prop) (H H' : Hp) (v : V) (d : D) : Prop := ∀ l, d = .lst l → ∃ p, v = .ref p ∧ H p = none ∧ Own K (fun a => A a ∨ a = p) H' p (.lst l)
def rF2 (K : PySem.W.Frag) (g : D → D → Option D) : R2 := fun x y H Q => ∃ A a b d, Trk A H ∧ RpB K A H x a ∧ RpB K A H y b ∧ g a b = some d ∧ ∀ v H', Same H H' → Rp K A H' v d → Fr K A H H' v d → Q v H'
def rDN (K : PySem.W.Frag) (g : List D → Option D) : List V → Hp → VK → Prop := fun xs H Q => ∃ A ds d, Trk A H ∧ (RpA K A H xs ds ∨ ∃ v c, xs = [v] ∧ ds = [c] ∧ RpB K A H v c) ∧ g ds = some d ∧ ∀ v H', Same H H' → Rp K A H' v d → Q v H'
def rFN (K : PySem.W.Frag) (g : List D → Option D) : List V → Hp → VK → Prop := fun xs H Q => ∃ A ds d, Trk A H ∧ (RpA K A H xs ds ∨ ∃ v c, xs = [v] ∧ ds = [c] ∧ RpB K A H v c) ∧ g ds = some d ∧ ∀ v H', Same H H' → Rp K A H' v d → Fr K A H H' v d → Q v H'
section
variable {K : PySem.W.Frag} {A : Addr → Prop} {H : Hp}
theorem new_tup {p : Addr} {xs : List V} {ds : List D} (t : Trk A H) (h : RpA K A H xs ds) (hp : H p = none) : Rp K A (upd H p (.tup xs)) (.ref p) (.tup ds) :=
  .tup (.inl ⟨.inl upd_same, t.no hp⟩) (h.tr (Tr.same (same_upd hp)))
theorem new_lst {p : Addr} {xs : List V} {ds : List D} (t : Trk A H) (h : RpA K A H xs ds) (hp : H p = none) : Rp K A (upd H p (.lst xs)) (.ref p) (.lst ds) :=
  .lst upd_same (t.no hp) (h.tr (Tr.same (same_upd hp)))
theorem RpA.nil_iff {xs : List V} {ds : List D} (h : RpA K A H xs ds) : xs = [] ↔ ds = [] := by
  cases h with
  | nil => simp
  | cons _ _ => simp
end

theorem ite_d {c : Prop} [Decidable c] {x d : D} (h : (if c then some x else none) = some d) : c ∧ x = d := by
  by_cases q : c
  · rw [if_pos q] at h
    exact ⟨q, Option.some.inj h⟩
  · rw [if_neg q] at h
    cases h
section
variable {X : Cx}
theorem new_own' {K : PySem.W.Frag} {A : Addr → Prop} {H : Hp} {p : Addr} {xs : List V} {ds : List D} (t : Trk A H) (h : RpA K A H xs ds) (hp : H p = none) : Own K (fun a => A a ∨ a = p) (upd H p (.lst xs)) p (.lst ds) :=
  .lst upd_same (h.tr fun a u e n => ⟨same_upd hp _ _ e, fun z => z.elim n fun z => by rw [z, hp] at e; cases e⟩)
theorem new_fr {K : PySem.W.Frag} {A : Addr → Prop} {H : Hp} {p : Addr} {xs : List V} {ds : List D} (t : Trk A H) (h : RpA K A H xs ds) (hp : H p = none) : Fr K A H (upd H p (.lst xs)) (.ref p) (.lst ds) := fun l e => by
  cases e
  exact ⟨p, rfl, hp, new_own' t h hp⟩
theorem no_fr {K : PySem.W.Frag} {A : Addr → Prop} {H H' : Hp} {v : V} {d : D} (h : ∀ l, d ≠ .lst l) : Fr K A H H' v d := fun l e => absurd e (h l)
theorem od_addF : OpR X (binaryOp .Add) (rF2 X.K gAdd) := by
  intro pins s σ H x y v u Q I rx ry ⟨A, a, b, d, t, pa, pb, e, q⟩
  cases a with
  | int i =>
    cases b with
    | int j =>
      cases e
      rw [pa.int] at rx
      rw [pb.int] at ry
      exact op_add pins s σ H _ _ v u Q I rx ry ⟨i, j, rfl, rfl, q _ _ (Same.refl _) (.int _) (no_fr fun _ => nofun)⟩
    | _ => cases e
  | str i =>
    cases b with
    | str j =>
      obtain ⟨hz, rfl⟩ := ite_d (x := .str (i ++ j)) e
      rw [pa.str] at rx
      rw [pb.str] at ry
      exact op_add_str pins s σ H _ _ v u Q I rx ry ⟨i, j, rfl, rfl, hz, q _ _ (Same.refl _) (.str _) (no_fr fun _ => nofun)⟩
    | _ => cases e
  | tup xs =>
    cases b with
    | tup ys =>
      obtain ⟨hz, rfl⟩ := ite_d (x := .tup (xs ++ ys)) e
      obtain ⟨a1, x1, rfl, ha, da⟩ := pa.tup
      obtain ⟨a2, x2, rfl, hb, db⟩ := pb.tup
      refine op_catA pins s σ H _ _ v u Q I rx ry ⟨_, _, _, _, rfl, rfl, ha.sq, hb.sq, by rw [da.length, db.length]; exact hz, fun z => ?_, fun _ z => ?_, fun _ _ p hp => ?_⟩
      · rw [da.nil_iff.mp z, List.nil_append] at q
        exact q _ _ (Same.refl _) (.tup hb db) (no_fr fun _ => nofun)
      · rw [db.nil_iff.mp z, List.append_nil] at q
        exact q _ _ (Same.refl _) (.tup ha da) (no_fr fun _ => nofun)
      · exact q _ _ (same_upd hp) (new_tup t (da.app db) hp) (no_fr fun _ => nofun)
    | _ => cases e
  | lst xs =>
    cases b with
    | lst ys =>
      obtain ⟨hz, rfl⟩ := ite_d (x := .lst (xs ++ ys)) e
      obtain ⟨a1, x1, rfl, ha, da⟩ := pa.lst
      obtain ⟨a2, x2, rfl, hb, db⟩ := pb.lst
      refine op_cat pins s σ H _ _ v u Q I rx ry ⟨_, _, _, _, rfl, rfl, ha, hb, by rw [da.length, db.length]; exact hz, fun p hp => ?_⟩
      exact q _ _ (same_upd hp) (new_lst t (da.app db) hp) (new_fr t (da.app db) hp)
    | _ => cases e
  | _ => cases b <;> cases e
theorem OpR.weak {f : Value → Value → Sem Value} {g : D → D → Option D} (h : OpR X f (rF2 X.K g)) : OpR X f (rD2 X.K g) := fun pins s σ H x y v u Q I rx ry ⟨A, a, b, d, t, pa, pb, e, q⟩ => h pins s σ H x y v u Q I rx ry ⟨A, a, b, d, t, pa, pb, e, fun v H' s r _ => q v H' s r⟩
theorem od_add : OpR X (binaryOp .Add) (rD2 X.K gAdd) := OpR.weak od_addF
theorem od_sub : OpR X (binaryOp .Sub) (rD2 X.K gSub) := by
  intro pins s σ H x y v u Q I rx ry ⟨A, a, b, d, t, pa, pb, e, q⟩
  cases a with
  | int i =>
    cases b with
    | int j =>
      cases e
      rw [pa.int] at rx
      rw [pb.int] at ry
      exact op_sub pins s σ H _ _ v u Q I rx ry ⟨i, j, rfl, rfl, q _ _ (Same.refl _) (.int _)⟩
    | _ => cases e
  | _ => cases b <;> cases e
theorem okMul_ok {i j : Int} (h : okMul i j = true) : IntMulOk i j := by
  have b : ∀ x : Int, Builtin.Int.intBits x ≤ x.natAbs.log2 + 1 := fun x => by
    unfold Builtin.Int.intBits
    split <;> omega
  have h1 := b i
  have h2 := b j
  have h3 : i.natAbs.log2 + j.natAbs.log2 < 100000000 := of_decide_eq_true h
  have e : bitsLine = 134217728 := by decide
  unfold IntMulOk
  intro z
  rw [Bool.and_eq_true] at z
  have z2 := z.2
  unfold Builtin.Int.intTooBig at z2
  have z3 := of_decide_eq_true z2
  rw [e] at z3
  omega
theorem RpA.rep {K : PySem.W.Frag} {A : Addr → Prop} {H : Hp} {xs : List V} {ds : List D} (h : RpA K A H xs ds) : ∀ n : Nat, RpA K A H (List.replicate n xs).flatten (List.replicate n ds).flatten
  | 0 => .nil
  | n + 1 => by
    rw [List.replicate_succ, List.replicate_succ, List.flatten_cons, List.flatten_cons]
    exact h.app (RpA.rep h n)
theorem od_mulF : OpR X (binaryOp .Mult) (rF2 X.K gMul) := by
  intro pins s σ H x y v u Q I rx ry ⟨A, a, b, d, t, pa, pb, e, q⟩
  cases a with
  | int i =>
    cases b with
    | int j =>
      obtain ⟨hz, rfl⟩ := ite_d (x := .int (i * j)) e
      rw [pa.int] at rx
      rw [pb.int] at ry
      obtain ⟨t1, rfl⟩ := rx
      obtain ⟨t2, rfl⟩ := ry
      exact mul_int ⟨.int (i * j), H, I.tok _, ⟨_, rfl⟩, q _ _ (Same.refl _) (.int _) (no_fr fun _ => nofun)⟩ (okMul_ok hz)
    | _ => cases e
  | lst xs =>
    cases b with
    | int k =>
      obtain ⟨hz, rfl⟩ := ite_d (x := .lst (List.replicate k.toNat xs).flatten) e
      obtain ⟨a1, x1, rfl, ha, da⟩ := pa.lst
      rw [pb.int] at ry
      refine op_rep pins s σ H _ _ v u Q I rx ry ⟨_, k, _, rfl, rfl, ha, hz.1, hz.2.1, by rw [da.length]; exact hz.2.2, fun p hp => ?_⟩
      exact q _ _ (same_upd hp) (new_lst t (da.rep _) hp) (new_fr t (da.rep _) hp)
    | _ => cases e
  | _ => cases b <;> cases e
theorem od_mul : OpR X (binaryOp .Mult) (rD2 X.K gMul) := OpR.weak od_mulF
theorem od_div : OpR X (binaryOp .FloorDiv) (rD2 X.K gDiv) := by
  intro pins s σ H x y v u Q I rx ry ⟨A, a, b, d, t, pa, pb, e, q⟩
  cases a with
  | int i =>
    cases b with
    | int j =>
      obtain ⟨hz, rfl⟩ := ite_d (x := .int (i.fdiv j)) e
      rw [pa.int] at rx
      rw [pb.int] at ry
      obtain ⟨t1, rfl⟩ := rx
      obtain ⟨t2, rfl⟩ := ry
      exact floordiv_int hz.1 ⟨.int (i.fdiv j), H, I.tok _, ⟨_, rfl⟩, q _ _ (Same.refl _) (.int _)⟩ (.inl (PyProof.noPylong_of_log2 hz.2))
    | _ => cases e
  | _ => cases b <;> cases e
theorem od_mod : OpR X (binaryOp .Mod) (rD2 X.K gMod) := by
  intro pins s σ H x y v u Q I rx ry ⟨A, a, b, d, t, pa, pb, e, q⟩
  cases a with
  | int i =>
    cases b with
    | int j =>
      obtain ⟨hz, rfl⟩ := ite_d (x := .int (i.fmod j)) e
      rw [pa.int] at rx
      rw [pb.int] at ry
      exact op_modN pins s σ H _ _ v u Q I rx ry ⟨i, j, rfl, rfl, hz, q _ _ (Same.refl _) (.int _)⟩
    | _ => cases e
  | _ => cases b <;> cases e
theorem od_pow : OpR X (binaryOp .Pow) (rD2 X.K gPow) := by
  intro pins s σ H x y v u Q I rx ry ⟨A, a, b, d, t, pa, pb, e, q⟩
  cases a with
  | int i =>
    cases b with
    | int j =>
      obtain ⟨hz, rfl⟩ := ite_d (x := .int (i ^ j.toNat)) e
      rw [pa.int] at rx
      rw [pb.int] at ry
      exact op_pow pins s σ H _ _ v u Q I rx ry ⟨i, j, rfl, rfl, hz, q _ _ (Same.refl _) (.int _)⟩
    | _ => cases e
  | _ => cases b <;> cases e
theorem ud_neg : UnR X (unaryOp .USub) (rD1 X.K gNeg) := by
  intro pins s σ H x v Q I rx ⟨A, a, d, t, pa, e, q⟩
  cases a with
  | int i =>
    cases e
    rw [pa.int] at rx
    exact un_neg pins s σ H _ v Q I rx ⟨i, rfl, q _ _ (Same.refl _) (.int _)⟩
  | _ => cases e
theorem od_lt : OpR X (compareOp .Lt) (rD2 X.K gLt) := by
  intro pins s σ H x y v u Q I rx ry ⟨A, a, b, d, t, pa, pb, e, q⟩
  cases a with
  | int i =>
    cases b with
    | int j =>
      cases e
      rw [pa.int] at rx
      rw [pb.int] at ry
      exact op_lt pins s σ H _ _ v u Q I rx ry ⟨i, j, rfl, rfl, q _ _ (Same.refl _) (.bl _)⟩
    | _ => cases e
  | str i =>
    cases b with
    | str j =>
      cases e
      rw [pa.str] at rx
      rw [pb.str] at ry
      exact op_lt_str pins s σ H _ _ v u Q I rx ry ⟨i, j, rfl, rfl, q _ _ (Same.refl _) (.bl _)⟩
    | _ => cases e
  | _ => cases b <;> cases e
theorem od_gt : OpR X (compareOp .Gt) (rD2 X.K gGt) := by
  intro pins s σ H x y v u Q I rx ry ⟨A, a, b, d, t, pa, pb, e, q⟩
  cases a with
  | int i =>
    cases b with
    | int j =>
      cases e
      rw [pa.int] at rx
      rw [pb.int] at ry
      exact op_gt pins s σ H _ _ v u Q I rx ry ⟨i, j, rfl, rfl, q _ _ (Same.refl _) (.bl _)⟩
    | _ => cases e
  | str i =>
    cases b with
    | str j =>
      cases e
      rw [pa.str] at rx
      rw [pb.str] at ry
      exact op_gt_str pins s σ H _ _ v u Q I rx ry ⟨i, j, rfl, rfl, q _ _ (Same.refl _) (.bl _)⟩
    | _ => cases e
  | _ => cases b <;> cases e
theorem od_le : OpR X (compareOp .LtE) (rD2 X.K gLe) := by
  intro pins s σ H x y v u Q I rx ry ⟨A, a, b, d, t, pa, pb, e, q⟩
  cases a with
  | int i =>
    cases b with
    | int j =>
      cases e
      rw [pa.int] at rx
      rw [pb.int] at ry
      exact op_le pins s σ H _ _ v u Q I rx ry ⟨i, j, rfl, rfl, q _ _ (Same.refl _) (.bl _)⟩
    | _ => cases e
  | str i =>
    cases b with
    | str j =>
      cases e
      rw [pa.str] at rx
      rw [pb.str] at ry
      exact op_le_str pins s σ H _ _ v u Q I rx ry ⟨i, j, rfl, rfl, q _ _ (Same.refl _) (.bl _)⟩
    | _ => cases e
  | _ => cases b <;> cases e
theorem od_ge : OpR X (compareOp .GtE) (rD2 X.K gGe) := by
  intro pins s σ H x y v u Q I rx ry ⟨A, a, b, d, t, pa, pb, e, q⟩
  cases a with
  | int i =>
    cases b with
    | int j =>
      cases e
      rw [pa.int] at rx
      rw [pb.int] at ry
      exact op_ge pins s σ H _ _ v u Q I rx ry ⟨i, j, rfl, rfl, q _ _ (Same.refl _) (.bl _)⟩
    | _ => cases e
  | str i =>
    cases b with
    | str j =>
      cases e
      rw [pa.str] at rx
      rw [pb.str] at ry
      exact op_ge_str pins s σ H _ _ v u Q I rx ry ⟨i, j, rfl, rfl, q _ _ (Same.refl _) (.bl _)⟩
    | _ => cases e
  | _ => cases b <;> cases e

mutual
theorem Rp.dp {K : PySem.W.Frag} {A : Addr → Prop} {H : Hp} : ∀ {v : V} {d : D} {x : PyData}, Rp K A H v d → d.py = some x → Dp K H v x
  | _, _, _, .non, e => by cases e; exact .non
  | _, _, _, .bl b, e => by cases e; exact .bl b
  | _, _, _, .int i, e => by cases e; exact .int i
  | _, _, _, .str i, e => by cases e; exact .str i
  | _, .tup ds, _, .tup h q, e => by
    unfold D.py at e
    cases hp : pyAll ds with
    | none => rw [hp] at e; cases e
    | some ys => rw [hp] at e; cases e; exact .tup h.sq (RpA.dp q hp)
  | _, .lst ds, _, .lst h n q, e => by
    unfold D.py at e
    cases hp : pyAll ds with
    | none => rw [hp] at e; cases e
    | some ys => rw [hp] at e; cases e; exact .lst (SqL.of h) (RpA.dp q hp)
  | _, _, _, .scr _ _, e => by unfold D.py at e; cases e
  | _, _, _, .fn _, e => by unfold D.py at e; cases e
  | _, _, _, .obj _ _ _, e => by unfold D.py at e; cases e
theorem RpA.dp {K : PySem.W.Frag} {A : Addr → Prop} {H : Hp} : ∀ {v : List V} {d : List D} {x : List PyData}, RpA K A H v d → pyAll d = some x → DpAll K H v x
  | _, _, _, .nil, e => by cases e; exact .nil
  | _, d :: ds, _, .cons h q, e => by
    unfold pyAll at e
    cases h1 : d.py with
    | none => rw [h1] at e; cases e
    | some y =>
      rw [h1] at e
      cases h2 : pyAll ds with
      | none => rw [h2] at e; cases e
      | some ys => rw [h2] at e; cases e; exact .cons (Rp.dp h h1) (RpA.dp q h2)
end
theorem RpB.dp {K : PySem.W.Frag} {A : Addr → Prop} {H : Hp} {v : V} {d : D} {x : PyData} (h : RpB K A H v d) (e : d.py = some x) : Dp K H v x := by
  cases h with
  | of h => exact h.dp e
  | @own p ws cs h q =>
    unfold D.py at e
    cases hp : pyAll cs with
    | none => rw [hp] at e; cases e
    | some ys => rw [hp] at e; cases e; exact .lst (SqL.of h) (RpA.dp q hp)
theorem eqD_some {a b : D} {k : Bool} (e : eqD a b = some k) : (∃ i j, a = .int i ∧ b = .int j ∧ k = decide (i = j)) ∨ (∃ i j, a = .str i ∧ b = .str j ∧ k = decide (i = j)) ∨ (∃ i j, a = .bl i ∧ b = .bl j ∧ k = decide (i = j)) ∨ (a = .non ∧ b = .non ∧ k = true) ∨
    ∃ x y, a.py = some x ∧ b.py = some y ∧ SeqAt.shaped x = true ∧ SeqAt.shaped y = true ∧ k = PyData.eqv x y := by
  unfold eqD at e
  split at e
  · cases e; exact .inl ⟨_, _, rfl, rfl, rfl⟩
  · cases e; exact .inr (.inl ⟨_, _, rfl, rfl, rfl⟩)
  · cases e; exact .inr (.inr (.inl ⟨_, _, rfl, rfl, rfl⟩))
  · cases e; exact .inr (.inr (.inr (.inl ⟨rfl, rfl, rfl⟩)))
  · split at e
    · rename_i x y hx hy
      split at e
      · rename_i hs
        cases e
        exact .inr (.inr (.inr (.inr ⟨x, y, hx, hy, hs.1, hs.2, rfl⟩)))
      · cases e
    · cases e
theorem map_some {α β : Type} {o : Option α} {f : α → β} {z : β} (e : o.map f = some z) : ∃ k, o = some k ∧ z = f k := by
  cases o with
  | none => cases e
  | some k => cases e; exact ⟨k, rfl, rfl⟩
theorem decI {i j : Int} : decide (V.int i = V.int j) = decide (i = j) := by rw [decide_eq_decide]; simp
theorem decS {i j : Str} : decide (V.str i = V.str j) = decide (i = j) := by rw [decide_eq_decide]; simp
theorem decB {i j : Bool} : decide (V.bl i = V.bl j) = decide (i = j) := by rw [decide_eq_decide]; simp
theorem od_eq (hu : X.A.units + 64 < cLine) : OpR X (compareOp .Eq) (rD2 X.K gEq) := by
  intro pins s σ H x y v u Q I rx ry ⟨A, a, b, d, t, pa, pb, e, q⟩
  obtain ⟨k, e2, rfl⟩ := map_some e
  rcases eqD_some e2 with ⟨i, j, rfl, rfl, rfl⟩ | ⟨i, j, rfl, rfl, rfl⟩ | ⟨i, j, rfl, rfl, rfl⟩ | ⟨rfl, rfl, rfl⟩ | ⟨x', y', hx, hy, sx, sy, rfl⟩
  · rw [pa.int] at rx; rw [pb.int] at ry
    exact op_eq pins s σ H _ _ v u Q I rx ry ⟨rfl, by rw [decI]; exact q _ _ (Same.refl _) (.bl _)⟩
  · rw [pa.str] at rx; rw [pb.str] at ry
    exact op_eq pins s σ H _ _ v u Q I rx ry ⟨rfl, by rw [decS]; exact q _ _ (Same.refl _) (.bl _)⟩
  · rw [pa.bl] at rx; rw [pb.bl] at ry
    exact op_eq pins s σ H _ _ v u Q I rx ry ⟨rfl, by rw [decB]; exact q _ _ (Same.refl _) (.bl _)⟩
  · rw [pa.non] at rx; rw [pb.non] at ry
    exact op_eq pins s σ H _ _ v u Q I rx ry ⟨rfl, q _ _ (Same.refl _) (.bl _)⟩
  · exact op_eqD hu pins s σ H _ _ v u Q I rx ry ⟨x', y', pa.dp hx, pb.dp hy, sx, sy, q _ _ (Same.refl _) (.bl _)⟩
theorem od_ne (hu : X.A.units + 64 < cLine) : OpR X (compareOp .NotEq) (rD2 X.K gNe) := by
  intro pins s σ H x y v u Q I rx ry ⟨A, a, b, d, t, pa, pb, e, q⟩
  obtain ⟨k, e2, rfl⟩ := map_some e
  rcases eqD_some e2 with ⟨i, j, rfl, rfl, rfl⟩ | ⟨i, j, rfl, rfl, rfl⟩ | ⟨i, j, rfl, rfl, rfl⟩ | ⟨rfl, rfl, rfl⟩ | ⟨x', y', hx, hy, sx, sy, rfl⟩
  · rw [pa.int] at rx; rw [pb.int] at ry
    exact op_ne pins s σ H _ _ v u Q I rx ry ⟨rfl, by rw [decI]; exact q _ _ (Same.refl _) (.bl _)⟩
  · rw [pa.str] at rx; rw [pb.str] at ry
    exact op_ne pins s σ H _ _ v u Q I rx ry ⟨rfl, by rw [decS]; exact q _ _ (Same.refl _) (.bl _)⟩
  · rw [pa.bl] at rx; rw [pb.bl] at ry
    exact op_ne pins s σ H _ _ v u Q I rx ry ⟨rfl, by rw [decB]; exact q _ _ (Same.refl _) (.bl _)⟩
  · rw [pa.non] at rx; rw [pb.non] at ry
    exact op_ne pins s σ H _ _ v u Q I rx ry ⟨rfl, q _ _ (Same.refl _) (.bl _)⟩
  · exact op_neD hu pins s σ H _ _ v u Q I rx ry ⟨x', y', pa.dp hx, pb.dp hy, sx, sy, q _ _ (Same.refl _) (.bl _)⟩
theorem isNon_dec {K : PySem.W.Frag} {A : Addr → Prop} {H : Hp} {x : V} {a : D} (h : RpB K A H x a) : decide (x = V.non) = isNon a := by
  cases h with
  | of h => cases h <;> simp [isNon]
  | own _ _ => simp [isNon]
theorem od_is : OpR X (compareOp .Is) (rD2 X.K gIs) := by
  intro pins s σ H x y v u Q I rx ry ⟨A, a, b, d, t, pa, pb, e, q⟩
  cases b with
  | non =>
    have e' : some (D.bl (isNon a)) = some d := by
      rw [← e]
      cases a <;> rfl
    cases e'
    rw [pb.non] at ry
    exact op_isN pins s σ H _ _ v u Q I rx ry ⟨rfl, by rw [isNon_dec pa]; exact q _ _ (Same.refl _) (.bl _)⟩
  | bl k =>
    cases a with
    | bl j =>
      cases e
      rw [pa.bl] at rx
      rw [pb.bl] at ry
      exact op_isBl pins s σ H _ _ v u Q I rx ry ⟨j, k, rfl, rfl, q _ _ (Same.refl _) (.bl _)⟩
    | _ => cases e
  | _ => cases a <;> cases e
theorem od_isnot : OpR X (compareOp .IsNot) (rD2 X.K gIsNot) := by
  intro pins s σ H x y v u Q I rx ry ⟨A, a, b, d, t, pa, pb, e, q⟩
  cases b with
  | non =>
    have e' : some (D.bl (!isNon a)) = some d := by
      rw [← e]
      cases a <;> rfl
    cases e'
    rw [pb.non] at ry
    exact op_notN pins s σ H _ _ v u Q I rx ry ⟨rfl, by rw [isNon_dec pa]; exact q _ _ (Same.refl _) (.bl _)⟩
  | bl k =>
    cases a with
    | bl j =>
      cases e
      rw [pa.bl] at rx
      rw [pb.bl] at ry
      exact op_notBl pins s σ H _ _ v u Q I rx ry ⟨j, k, rfl, rfl, q _ _ (Same.refl _) (.bl _)⟩
    | _ => cases e
  | _ => cases a <;> cases e
theorem inD_some {a l : D} {k : Bool} (e : inD a l = some k) : (∃ x y, a = .str x ∧ l = .str y ∧ k = inStr x y) ∨
    ∃ ds x ys, (l = .lst ds ∨ l = .tup ds) ∧ a.py = some x ∧ pyAll ds = some ys ∧ SeqAt.shaped x = true ∧ SeqAt.shaped (.list ys) = true ∧ k = ys.any fun z => PyData.eqv z x := by
  unfold inD at e
  split at e
  · cases e; exact .inl ⟨_, _, rfl, rfl, rfl⟩
  · split at e
    · rename_i x y hx hy
      split at e
      · rename_i hs
        cases e
        exact .inr ⟨_, x, y, .inl rfl, hx, hy, hs.1, hs.2, rfl⟩
      · cases e
    · cases e
  · split at e
    · rename_i x y hx hy
      split at e
      · rename_i hs
        cases e
        exact .inr ⟨_, x, y, .inr rfl, hx, hy, hs.1, hs.2, rfl⟩
      · cases e
    · cases e
  · cases e
def rInT (K : PySem.W.Frag) : R2 := fun x y H Q => ∃ d ds, Dp K H x d ∧ Dp K H y (.tuple ds) ∧ SeqAt.shaped d = true ∧ SeqAt.shaped (.list ds) = true ∧ Q (.bl (ds.any fun z => PyData.eqv z d)) H
def rNotInT (K : PySem.W.Frag) : R2 := fun x y H Q => ∃ d ds, Dp K H x d ∧ Dp K H y (.tuple ds) ∧ SeqAt.shaped d = true ∧ SeqAt.shaped (.list ds) = true ∧ Q (.bl (!ds.any fun z => PyData.eqv z d)) H
theorem op_inT (hu : X.A.units + 65 < cLine) : OpR X (compareOp .In) (rInT X.K) := by
  intro pins s σ H x y v u Q I rx ry h
  obtain ⟨d, ds, hd, he, sd, se, q⟩ := h
  obtain ⟨as, r1⟩ := Dp.reads I d x v hd rx
  obtain ⟨bs, r2⟩ := Dp.reads I (.tuple ds) y u he ry
  exact SeqAt.in_tuple_reads r2 r1 (SeqAt.canLay_of_shaped se) (SeqAt.canLay_of_shaped sd) (room_in_shaped sd hu) ⟨.bl _, H, I, rfl, q⟩
theorem op_notInT (hu : X.A.units + 65 < cLine) : OpR X (compareOp .NotIn) (rNotInT X.K) := by
  intro pins s σ H x y v u Q I rx ry h
  obtain ⟨d, ds, hd, he, sd, se, q⟩ := h
  obtain ⟨as, r1⟩ := Dp.reads I d x v hd rx
  obtain ⟨bs, r2⟩ := Dp.reads I (.tuple ds) y u he ry
  exact SeqAt.notIn_tuple_reads r2 r1 (SeqAt.canLay_of_shaped se) (SeqAt.canLay_of_shaped sd) (room_in_shaped sd hu) ⟨.bl _, H, I, rfl, q⟩
theorem od_in (hu : X.A.units + 65 < cLine) : OpR X (compareOp .In) (rD2 X.K gIn) := by
  intro pins s σ H x y v u Q I rx ry ⟨A, a, b, d, t, pa, pb, e, q⟩
  obtain ⟨k, e2, rfl⟩ := map_some e
  rcases inD_some e2 with ⟨i, j, rfl, rfl, rfl⟩ | ⟨ds, x', ys, hl, hx, hy, sx, sy, rfl⟩
  · rw [pa.str] at rx; rw [pb.str] at ry
    exact op_in_str pins s σ H _ _ v u Q I rx ry ⟨i, j, rfl, rfl, q _ _ (Same.refl _) (.bl _)⟩
  · rcases hl with rfl | rfl
    · exact op_inD hu pins s σ H _ _ v u Q I rx ry ⟨x', ys, pa.dp hx, pb.dp (by unfold D.py; rw [hy]; rfl), sx, sy, q _ _ (Same.refl _) (.bl _)⟩
    · exact op_inT hu pins s σ H _ _ v u Q I rx ry ⟨x', ys, pa.dp hx, pb.dp (by unfold D.py; rw [hy]; rfl), sx, sy, q _ _ (Same.refl _) (.bl _)⟩
theorem od_notin (hu : X.A.units + 65 < cLine) : OpR X (compareOp .NotIn) (rD2 X.K gNotIn) := by
  intro pins s σ H x y v u Q I rx ry ⟨A, a, b, d, t, pa, pb, e, q⟩
  obtain ⟨k, e2, rfl⟩ := map_some e
  rcases inD_some e2 with ⟨i, j, rfl, rfl, rfl⟩ | ⟨ds, x', ys, hl, hx, hy, sx, sy, rfl⟩
  · rw [pa.str] at rx; rw [pb.str] at ry
    exact op_notIn_str pins s σ H _ _ v u Q I rx ry ⟨i, j, rfl, rfl, q _ _ (Same.refl _) (.bl _)⟩
  · rcases hl with rfl | rfl
    · exact op_notInD hu pins s σ H _ _ v u Q I rx ry ⟨x', ys, pa.dp hx, pb.dp (by unfold D.py; rw [hy]; rfl), sx, sy, q _ _ (Same.refl _) (.bl _)⟩
    · exact op_notInT hu pins s σ H _ _ v u Q I rx ry ⟨x', ys, pa.dp hx, pb.dp (by unfold D.py; rw [hy]; rfl), sx, sy, q _ _ (Same.refl _) (.bl _)⟩
end
end DL
namespace DL
open L2 PySem PySem.Spec PyProof.Rows

theorem ite2' {c : Bool} {P Q : Prop} (h1 : c = true → P) (h2 : c = false → Q) : if c = true then P else Q := by
  cases c
  · exact h2 rfl
  · exact h1 rfl
section
variable {X : Cx} {G : Gd} {O : List Nat} {W : WX} {a b c e : Expr} {es : List Expr} {ma mb mc : ME} {pos : Pos}
theorem de_var (i : Nat) {x : Str} {pos : Pos} (hO : O.contains i = false) (hN : X.N[i]? = some x) (hv : Vis X.env.scope x) (hd : (x == ("__debug__" : Str)) = false := by decide)
    (hcd : (x == ("__classdict__" : Str)) = false := by decide) : DE X G O W (.Name x pos) (mVar i) := by
  refine pe_imp (pe_var hN hv hd hcd) fun σ H Q ⟨A, ms, ρ, R, q⟩ => ?_
  unfold mVar at q
  split at q
  · rename_i d h
    obtain ⟨v, h1, h2⟩ := R.fz i d h fun z => by rw [List.contains_iff_mem.mpr z] at hO; cases hO
    exact ⟨v, h1, q v H R Kp.refl h2⟩
  · exact q.elim
theorem de_c {e : Expr} {v : V} {d : D} (h : PE X e (tC v)) (r : ∀ A H, Rp X.K A H v d) : DE X G O W e (mK d) :=
  pe_imp h fun σ H Q ⟨A, ms, ρ, R, q⟩ => q v H R Kp.refl (r A H)
theorem de_int {i j pos} : DE X G O W (.Constant (.int i) j pos) (mK (.int i)) := de_c pe_int fun _ _ => .int i
theorem de_bl {b j pos} : DE X G O W (.Constant (.bool b) j pos) (mK (.bl b)) := de_c pe_bl fun _ _ => .bl b
theorem de_non {j pos} : DE X G O W (.Constant .none j pos) (mK .non) := de_c pe_non fun _ _ => .non
theorem de_str {x j pos} : DE X G O W (.Constant (.str x) j pos) (mK (.str x)) := de_c pe_str fun _ _ => .str x
theorem de_fn {x : Str} (hg : Gl X x) (hm : X.mg x = some (.ref (He.ga X.K x))) (hd : (x == ("__debug__" : Str)) = false := by decide) : DE X G O W (.Name x pos) (mK (.fn x)) := de_c (v := .ref (He.ga X.K x)) (pe_glob hg hm rfl hd) fun _ _ => .fn x

theorem rp_of {α : Type} {g : Option α} {ρ : En} {K : PySem.W.Frag} {A : Addr → Prop} {ms : Nat → Option Addr} {σ : L2.St} {H : Hp} {β : Type} {rel : Hp → β → α → Prop} {Q : β → Hp → Prop} (R : RelS K G O A ms σ H ρ)
    (h : RPost K G O W A ms σ H rel Q (ret g ρ)) : ∃ d, g = some d ∧ ∀ v H', Same H H' → rel H' v d → Q v H' := by
  cases g with
  | none => exact h.elim
  | some d => exact ⟨d, rfl, fun v H' s r => h v H' (R.same s) (Kp.same s) r⟩
theorem de_un {op : UnaryOp} {g : D → Option D} (ho : UnR X (unaryOp op) (rD1 X.K g)) (ha : DE X G O W a ma) : DE X G O W (.UnaryOp op a pos) (m1 g ma) := by
  refine pe_imp (pe_un ho ha) fun σ H Q ⟨A, ms, ρ, R, q⟩ => ?_
  refine ⟨A, ms, ρ, R, q.bind.mono ?_⟩
  rintro x H1 ⟨d, ρ1, R1, k1, r1, q1⟩
  obtain ⟨z, hz, q2⟩ := rp_of R1 q1
  exact ⟨A, d, z, R1.trk, .of r1, hz, q2⟩
theorem op2_go {r : R2} {g : D → D → Option D} {K : PySem.W.Frag} (hr : ∀ x y H Q, rD2 K g x y H Q → r x y H Q) {σ : L2.St} {H : Hp} {Q : VK} (h : tE K G O W (m2 g ma mb) σ H Q) : tOp r (tE K G O W ma) (tE K G O W mb) σ H Q := by
  obtain ⟨A, ms, ρ, R, q⟩ := h
  refine ⟨A, ms, ρ, R, q.bind.mono ?_⟩
  rintro x H1 ⟨d, ρ1, R1, k1, r1, q1⟩
  refine ⟨A, ms, ρ1, R1, q1.bind.mono ?_⟩
  rintro y H2 ⟨d2, ρ2, R2', k2, r2, q2⟩
  obtain ⟨z, hz, q3⟩ := rp_of R2' q2
  exact hr _ _ _ _ ⟨A, d, d2, z, R2'.trk, .of (r1.tr (R1.kt k2)), .of r2, hz, q3⟩
theorem de_bin {op : Operator} {g : D → D → Option D} (ho : OpR X (binaryOp op) (rD2 X.K g)) (ha : DE X G O W a ma) (hb : DE X G O W b mb) : DE X G O W (.BinOp a op b pos) (m2 g ma mb) :=
  pe_imp (pe_op ho ha hb) fun _ _ _ h => op2_go (fun _ _ _ _ z => z) h
theorem de_cmp {op : CmpOp} {g : D → D → Option D} (ho : OpR X (compareOp op) (rD2 X.K g)) (ha : DE X G O W a ma) (hb : DE X G O W b mb) (hm : behindInMarks op b = false) : DE X G O W (.Compare a [op] [b] pos) (m2 g ma mb) :=
  pe_imp (pe_cmpR ho ha hb hm) fun _ _ _ h => op2_go (fun _ _ _ _ z => z) h
theorem de_ix {g : D → D → Option D} (hr : IxR X (rD2 X.K g)) (ha : DE X G O W a ma) (hb : DE X G O W b mb) (hs : PlainIx b) : DE X G O W (.Subscript a b pos) (m2 g ma mb) :=
  pe_imp (pe_ix hr ha hb hs) fun _ _ _ h => op2_go (fun _ _ _ _ z => z) h
theorem tru_ok' {K : PySem.W.Frag} {A : Addr → Prop} {H : Hp} {x : V} {d : D} {k : Bool} (h : Rp K A H x d) (e : tru d = some k) : TruV K x H k := by
  cases h with
  | non => cases e; rfl
  | bl b => cases e; rfl
  | int i => cases e; rfl
  | str y =>
    have e' : (if y.length ≤ sizeLine then some ((y.length : Int) != 0) else none) = some k := e
    split at e'
    · rename_i hz
      cases e'
      exact ⟨hz, rfl⟩
    · cases e'
  | tup h q =>
    cases e
    refine .inr (.inl ⟨_, h.sq, ?_⟩)
    have := q.nil_iff
    cases q <;> rfl
  | lst h n q =>
    cases e
    refine .inl ⟨_, SqL.of h, ?_⟩
    cases q <;> rfl
  | scr h q =>
    cases e
    refine .inl ⟨_, h.sq, ?_⟩
    cases q <;> rfl
  | fn _ => cases e
  | obj _ _ _ => cases e
theorem dt_tru (ha : DE X G O W a ma) (he : ∀ whole, isTrue a X.env whole = (do let v ← whole; standAt a.pos; holding [v] (truthy v)) := by intro _; rfl) : DT X G O W a (mTru ma) := by
  refine pt_imp (pt_truth ha he) fun σ H Q ⟨A, ms, ρ, R, q⟩ => ?_
  refine ⟨A, ms, ρ, R, q.bind.mono ?_⟩
  rintro x H1 ⟨d, ρ1, R1, k1, r1, q1⟩
  obtain ⟨z, hz, q2⟩ := rp_of R1 q1
  exact ⟨z, tru_ok' r1 hz, q2 z H1 (Same.refl _) rfl⟩
def asB : D → Option Bool
  | .bl b => some b
  | _ => none
def mTest (m : ME) : MT := fun ρ => (m ρ).bind fun x ρ1 => ret (asB x) ρ1
theorem test_go {t : TE} {m : ME} {K : PySem.W.Frag} (ht : ∀ σ H Q, tE K G O W m σ H Q → t σ H Q) {σ : L2.St} {H : Hp} {Q : Bool → Hp → Prop} (h : tT K G O W (mTest m) σ H Q) : tTest t σ H Q := by
  obtain ⟨A, ms, ρ, R, q⟩ := h
  refine ht _ _ _ ⟨A, ms, ρ, R, q.bind.mono ?_⟩
  rintro x H1 ⟨d, ρ1, R1, k1, r1, q1⟩
  obtain ⟨z, hz, q2⟩ := rp_of R1 q1
  cases d with
  | bl k =>
    cases hz
    cases r1
    exact ⟨_, rfl, q2 _ H1 (Same.refl _) rfl⟩
  | _ => cases hz
theorem dt_cmp {op : CmpOp} {g : D → D → Option D} (ho : OpR X (compareOp op) (rD2 X.K g)) (ha : DE X G O W a ma) (hb : DE X G O W b mb) (hm : behindInMarks op b = false) : DT X G O W (.Compare a [op] [b] pos) (mTest (m2 g ma mb)) :=
  pt_imp (pt_cmpR ho ha hb hm) fun _ _ _ h => test_go (fun _ _ _ z => op2_go (fun _ _ _ _ z => z) z) h
theorem chain_go {g g' : D → D → Option D} {K : PySem.W.Frag} {σ : L2.St} {H : Hp} {Q : VK} (h : tE K G O W (mChain g g' ma mb mc) σ H Q) : tChain (rD2 K g) (rD2 K g') (tE K G O W ma) (tE K G O W mb) (tE K G O W mc) σ H Q := by
  obtain ⟨A, ms, ρ, R, q⟩ := h
  refine ⟨A, ms, ρ, R, q.bind.mono ?_⟩
  rintro x H1 ⟨d, ρ1, R1, k1, r1, q1⟩
  refine ⟨A, ms, ρ1, R1, q1.bind.mono ?_⟩
  rintro y H2 ⟨d2, ρ2, R2', k2, r2, q2⟩
  obtain ⟨z, hz, q3⟩ := rp_of (rel := Rp K A) R2' q2.bind
  refine ⟨A, d, d2, z, R2'.trk, .of (r1.tr (R1.kt k2)), .of r2, hz, fun v H3 s r => ?_⟩
  obtain ⟨d3, ρ3, R3, k3, r3, q4⟩ := q3 v H3 s r
  cases d3 with
  | bl k =>
    cases r3
    refine ⟨_, rfl, ?_⟩
    cases k with
    | true =>
      rw [if_pos rfl]
      refine ⟨A, ms, ρ3, R3, RPost.mono (RPost.bind q4) ?_⟩
      rintro w H4 ⟨d4, ρ4, R4, k4, r4, q5⟩
      obtain ⟨z2, hz2, q6⟩ := rp_of R4 q5
      exact ⟨A, d2, d4, z2, R4.trk, .of ((r2.tr (R2'.kt k3)).tr (R3.kt k4)), .of r4, hz2, q6⟩
    | false =>
      rw [if_neg Bool.false_ne_true]
      exact q4 _ H3 R3 Kp.refl (.bl false)
  | _ => exact q4.elim
theorem de_chain {op op' : CmpOp} {g g' : D → D → Option D} (ho : OpR X (compareOp op) (rD2 X.K g)) (ho' : OpR X (compareOp op') (rD2 X.K g')) (ha : DE X G O W a ma) (hb : DE X G O W b mb) (hc : DE X G O W c mc)
    (hm : lastMarks [op, op'] [b, c] = false := by with_unfolding_all rfl) : DE X G O W (.Compare a [op, op'] [b, c] pos) (mChain g g' ma mb mc) :=
  pe_imp (pe_chain ho ho' ha hb hc hm) fun _ _ _ h => chain_go h
theorem dt_chain {op op' : CmpOp} {g g' : D → D → Option D} (ho : OpR X (compareOp op) (rD2 X.K g)) (ho' : OpR X (compareOp op') (rD2 X.K g')) (ha : DE X G O W a ma) (hb : DE X G O W b mb) (hc : DE X G O W c mc)
    (hm : lastMarks [op, op'] [b, c] = false := by with_unfolding_all rfl) : DT X G O W (.Compare a [op, op'] [b, c] pos) (mTest (mChain g g' ma mb mc)) :=
  pt_imp (pt_chain ho ho' ha hb hc hm) fun _ _ _ h => test_go (fun _ _ _ z => chain_go z) h

def DW (X : Cx) (G : Gd) (O : List Nat) (W : WX) (e : Expr) (m : MT) : Prop := PW X e (tT X.K G O W m)
variable {ta tb tc : MT} {rest : List Expr}
theorem DW.t (h : DW X G O W e ta) : DT X G O W e ta := PW.pt h
theorem dw_and1 (ha : DT X G O W a ta) : DW X G O W (.BoolOp .And [a] pos) ta := pw_and1 ha
theorem dw_or1 (ha : DT X G O W a ta) : DW X G O W (.BoolOp .Or [a] pos) ta := pw_or1 ha
theorem dw_and (ha : DT X G O W a ta) (hb : DW X G O W (.BoolOp .And (b :: rest) pos) tb) : DW X G O W (.BoolOp .And (a :: b :: rest) pos) (mAndT ta tb) := by
  refine pw_imp (pw_and ha hb) fun σ H Q ⟨A, ms, ρ, R, q⟩ => ?_
  refine ⟨A, ms, ρ, R, q.bind.mono ?_⟩
  rintro k H1 ⟨d, ρ1, R1, k1, rfl, q1⟩
  cases k with
  | true => exact ⟨A, ms, ρ1, R1, q1⟩
  | false => exact q1 _ H1 R1 Kp.refl rfl
theorem dw_or (ha : DT X G O W a ta) (hb : DW X G O W (.BoolOp .Or (b :: rest) pos) tb) : DW X G O W (.BoolOp .Or (a :: b :: rest) pos) (mOrT ta tb) := by
  refine pw_imp (pw_or ha hb) fun σ H Q ⟨A, ms, ρ, R, q⟩ => ?_
  refine ⟨A, ms, ρ, R, q.bind.mono ?_⟩
  rintro k H1 ⟨d, ρ1, R1, k1, rfl, q1⟩
  cases k with
  | true => exact q1 _ H1 R1 Kp.refl rfl
  | false => exact ⟨A, ms, ρ1, R1, q1⟩
theorem dt_not (ha : DT X G O W a ta) : DT X G O W (.UnaryOp .Not a pos) (mNotT ta) := by
  refine pt_imp (pt_not ha) fun σ H Q ⟨A, ms, ρ, R, q⟩ => ?_
  refine ⟨A, ms, ρ, R, q.bind.mono ?_⟩
  rintro k H1 ⟨d, ρ1, R1, k1, rfl, q1⟩
  exact q1 _ H1 R1 Kp.refl rfl
theorem de_if (hc : DT X G O W c tc) (ha : DE X G O W a ma) (hb : DE X G O W b mb) : DE X G O W (.IfExp c a b pos) (mIf tc ma mb) := by
  refine pe_imp (pe_ifExp hc ha hb) fun σ H Q ⟨A, ms, ρ, R, q⟩ => ?_
  refine ⟨A, ms, ρ, R, q.bind.mono ?_⟩
  rintro k H1 ⟨d, ρ1, R1, k1, rfl, q1⟩
  cases k with
  | true => exact ⟨A, ms, ρ1, R1, q1⟩
  | false => exact ⟨A, ms, ρ1, R1, q1⟩
theorem de_one {op} (ha : DE X G O W a ma) : DE X G O W (.BoolOp op [a] pos) ma := pe_one ha
theorem de_and (ha : DE X G O W a ma) (hb : DE X G O W (.BoolOp .And (b :: rest) pos) mb) : DE X G O W (.BoolOp .And (a :: b :: rest) pos) (mAnd ma mb) := by
  refine pe_imp (pe_andT ha hb) fun σ H Q ⟨A, ms, ρ, R, q⟩ => ?_
  refine ⟨A, ms, ρ, R, q.bind.mono ?_⟩
  rintro x H1 ⟨d, ρ1, R1, k1, r1, q1⟩
  obtain ⟨k, hk, q2⟩ := rp_of (rel := fun _ => @Eq Bool) R1 q1.bind
  obtain ⟨_, ρ2, R2', k2, rfl, q3⟩ := q2 k H1 (Same.refl _) rfl
  refine ⟨k, tru_ok' r1 hk, ?_⟩
  cases k with
  | true => exact ⟨A, ms, ρ2, R2', q3⟩
  | false => exact q3 _ H1 R2' Kp.refl r1
theorem de_or (ha : DE X G O W a ma) (hb : DE X G O W (.BoolOp .Or (b :: rest) pos) mb) : DE X G O W (.BoolOp .Or (a :: b :: rest) pos) (mOr ma mb) := by
  refine pe_imp (pe_orT ha hb) fun σ H Q ⟨A, ms, ρ, R, q⟩ => ?_
  refine ⟨A, ms, ρ, R, q.bind.mono ?_⟩
  rintro x H1 ⟨d, ρ1, R1, k1, r1, q1⟩
  obtain ⟨k, hk, q2⟩ := rp_of (rel := fun _ => @Eq Bool) R1 q1.bind
  obtain ⟨_, ρ2, R2', k2, rfl, q3⟩ := q2 k H1 (Same.refl _) rfl
  refine ⟨k, tru_ok' r1 hk, ?_⟩
  cases k with
  | true => exact q3 _ H1 R2' Kp.refl r1
  | false => exact ⟨A, ms, ρ2, R2', q3⟩
def gNot (d : D) : Option D := (tru d).map fun k => .bl (!k)
theorem de_not (ha : DE X G O W a ma) : DE X G O W (.UnaryOp .Not a pos) (m1 gNot ma) := by
  refine pe_imp (pe_notT ha) fun σ H Q ⟨A, ms, ρ, R, q⟩ => ?_
  refine ⟨A, ms, ρ, R, q.bind.mono ?_⟩
  rintro x H1 ⟨d, ρ1, R1, k1, r1, q1⟩
  obtain ⟨z, hz, q2⟩ := rp_of R1 q1
  obtain ⟨k, hk, rfl⟩ := map_some hz
  exact ⟨k, tru_ok' r1 hk, q2 _ H1 (Same.refl _) (.bl _)⟩

variable {mr : MA}
theorem da_nil : DA X G O W [] mNil := pa_imp pa_nil fun σ H Q ⟨A, ms, ρ, R, q⟩ => q [] H R Kp.refl .nil
theorem da_cons (ha : DE X G O W e ma) (hr : DA X G O W es mr) (hs : starEach (e :: es) X.env = (false, eval e X.env) :: starEach es X.env := by rfl) : DA X G O W (e :: es) (mCons ma mr) := by
  refine pa_imp (pa_cons ha hr hs) fun σ H Q ⟨A, ms, ρ, R, q⟩ => ?_
  refine ⟨A, ms, ρ, R, q.bind.mono ?_⟩
  rintro x H1 ⟨d, ρ1, R1, k1, r1, q1⟩
  refine ⟨A, ms, ρ1, R1, RPost.mono (RPost.bind q1) ?_⟩
  rintro xs H2 ⟨ds, ρ2, R2', k2, r2, q2⟩
  exact q2 _ H2 R2' Kp.refl (.cons (r1.tr (R1.kt k2)) r2)
theorem de_tup {x1} (h : DA X G O W es mr) : DE X G O W (.Tuple es x1 pos) (mN gTup mr) := by
  refine pe_imp (pe_tup h) fun σ H Q ⟨A, ms, ρ, R, q⟩ => ?_
  refine ⟨A, ms, ρ, R, q.bind.mono ?_⟩
  rintro xs H1 ⟨ds, ρ1, R1, k1, r1, q1⟩
  obtain ⟨z, hz, q2⟩ := rp_of R1 q1
  obtain ⟨hl, rfl⟩ := ite_d (x := .tup ds) hz
  exact ⟨by rw [r1.length]; exact hl, fun p hp => q2 _ _ (same_upd hp) (new_tup R1.trk r1 hp)⟩

def FPost (K : PySem.W.Frag) (G : Gd) (O : List Nat) (W : WX) (A : Addr → Prop) (ms : Nat → Option Addr) (σ : L2.St) (H : Hp) (Q : VK) : R D → Prop
  | .ok d ρ' => ∀ p H', RelS K G O A ms σ H' ρ' → RelS K G O (fun a => A a ∨ a = p) ms σ H' ρ' → Kp O ms H H' → H p = none → Own K (fun a => A a ∨ a = p) H' p d → Q (.ref p) H'
  | .ex x ρ' => ∀ dx H', RelS K G O A ms σ H' ρ' → Kp O ms H H' → XRel K A H' x dx → W (.ref (He.ga K x.c)) dx σ H'
  | .bad => False
def tF (K : PySem.W.Frag) (G : Gd) (O : List Nat) (W : WX) (m : ME) : TE := fun σ H Q => ∃ A ms ρ, RelS K G O A ms σ H ρ ∧ FPost K G O W A ms σ H Q (m ρ)
def DF (X : Cx) (G : Gd) (O : List Nat) (W : WX) (e : Expr) (m : ME) : Prop := PE X e (tF X.K G O W m)
theorem RelS.less {K : PySem.W.Frag} {A A' : Addr → Prop} {ms : Nat → Option Addr} {σ : L2.St} {H : Hp} {ρ : En} (R : RelS K G O A ms σ H ρ) (hs : ∀ a, A' a → A a) (h0 : ∀ a, G.A0 a → A' a) (ho : ∀ i p, i ∈ O → ms i = some p → A' p) : RelS K G O A' ms σ H ρ where
  sub := h0
  trk0 := R.trk0
  trk := fun a q => R.trk a (hs a q)
  keep := R.keep
  len := R.len
  fz := fun i d e n => let ⟨v, e1, q⟩ := R.fz i d e n; ⟨v, e1, q.tr fun a o z n => ⟨z, fun k => n (hs a k)⟩⟩
  ow := fun i d e n => let ⟨p, e0, e1, q⟩ := R.ow i d e n; ⟨p, e0, e1, q.tr (fun a o z n => ⟨z, fun k => n (hs a k)⟩) fun o z => z⟩
  inA := ho
  ok := R.ok
  dist := R.dist
  px := R.px
  io := R.io
theorem RelS.grow {K : PySem.W.Frag} {A : Addr → Prop} {ms : Nat → Option Addr} {σ : L2.St} {H H' : Hp} {ρ : En} {p : Addr} {o : HO} (R : RelS K G O A ms σ H ρ) (hp : H p = none) (s : Same H H') (hp' : H' p = some o) : RelS K G O (fun a => A a ∨ a = p) ms σ H' ρ := by
  have t : Tr A (fun a => A a ∨ a = p) H H' := fun a u e n => ⟨s _ _ e, fun z => z.elim n fun z => by rw [z, hp] at e; cases e⟩
  have R' := R.same s
  exact {
    sub := fun a q => .inl (R.sub a q)
    trk0 := R.trk0
    trk := fun a q => q.elim (R'.trk a) fun z => ⟨o, z ▸ hp'⟩
    keep := R'.keep
    len := R.len
    fz := fun i d e n => let ⟨v, e1, q⟩ := R.fz i d e n; ⟨v, e1, q.tr t⟩
    ow := fun i d e n => let ⟨q, e0, e1, w⟩ := R.ow i d e n; ⟨q, e0, e1, w.tr t fun o z => s _ _ z⟩
    inA := fun i q m e => .inl (R.inA i q m e)
    ok := R.ok
    dist := R.dist
    px := R.px
    io := R.io }
theorem RelS.msne {K : PySem.W.Frag} {A : Addr → Prop} {ms : Nat → Option Addr} {σ : L2.St} {H : Hp} {ρ : En} {p : Addr} (R : RelS K G O A ms σ H ρ) (hp : H p = none) : ∀ i ∈ O, ms i ≠ some p := fun i m z => by
  obtain ⟨o, e⟩ := R.trk p (R.inA i p m z)
  rw [hp] at e
  cases e
theorem Kp.none {K : PySem.W.Frag} {A : Addr → Prop} {ms : Nat → Option Addr} {σ : L2.St} {H H1 : Hp} {ρ : En} {p : Addr} (R : RelS K G O A ms σ H1 ρ) (k : Kp O ms H H1) (hp : H1 p = none) : H p = none := by
  cases e : H p with
  | none => rfl
  | some o =>
    have := k p o e (R.msne hp)
    rw [hp] at this
    cases this
theorem new_own {K : PySem.W.Frag} {A : Addr → Prop} {H : Hp} {p : Addr} {xs : List V} {ds : List D} (t : Trk A H) (h : RpA K A H xs ds) (hp : H p = none) : Own K (fun a => A a ∨ a = p) (upd H p (.lst xs)) p (.lst ds) :=
  .lst upd_same (h.tr fun a u e n => ⟨same_upd hp _ _ e, fun z => z.elim n fun z => by rw [z, hp] at e; cases e⟩)
theorem DF.toE {e : Expr} {m : ME} (h : DF X G O W e m) : DE X G O W e m := by
  refine pe_imp h fun σ H Q ⟨A, ms, ρ, R, q⟩ => ⟨A, ms, ρ, R, ?_⟩
  cases hm : m ρ with
  | bad => rw [hm] at q; exact q.elim
  | ex x ρ1 => rw [hm] at q; exact q
  | ok d ρ1 =>
    rw [hm] at q
    intro p H' R' _ k hp ow
    have np : ¬ A p := Trk.no (fun a z => R.trk a z) hp
    exact q (.ref p) H' R' k (ow.freeze (fun a z => .inl z) np)
theorem df_lst {es : List Expr} {mr : MA} (h : DA X G O W es mr) : DF X G O W (.List es pos) (mN gLst mr) := by
  refine pe_imp (pe_lst h) fun σ H Q ⟨A, ms, ρ, R, q⟩ => ⟨A, ms, ρ, R, ?_⟩
  unfold mN at q
  cases hm : mr ρ with
  | bad => rw [hm] at q; exact q.elim
  | ex x ρ1 => rw [hm] at q; exact q
  | ok ds ρ1 =>
    rw [hm] at q
    intro xs H1 R1 k1 r1
    have q' : FPost X.K G O W A ms σ H Q (ret (gLst ds) ρ1) := q
    unfold gLst at q'
    split at q'
    · rename_i hz
      refine ⟨by rw [r1.length]; exact hz, fun p hp => ?_⟩
      refine q' p _ (R1.same (same_upd hp)) (R1.grow hp (same_upd hp) upd_same) (k1.trans (Kp.same (same_upd hp))) ?_ (new_own R1.trk r1 hp)
      exact Kp.none R1 k1 hp
    · exact q'.elim
end
end DL
namespace DL
open L2 PySem PySem.Spec PyProof.Rows

inductive Out where
  | nx (r : En) | rt (d : D) (r : En) | bk (r : En) | ct (r : En) | ex (x : Xn) (r : En) | bad
abbrev MS := En → Out
inductive Ret where
  | rt (d o : D) | ex (x : Xn) (o : D) | bad
abbrev FN := List D → Ret

def RetR (K : PySem.W.Frag) (A : Addr → Prop) (fr : Bool) (H H' : Hp) (q : Option Addr) (v : V) (d o : D) : Prop :=
  if fr = true then ∃ r, v = .ref r ∧ H r = none ∧ Own K (fun a => A a ∨ a = r) H' r d ∧ ∀ p, q = some p → Own K (fun a => A a ∨ a = r) H' p o
  else Rp K A H' v d ∧ ∀ p, q = some p → Own K A H' p o
def KI (q : Option Addr) (H H' : Hp) : Prop := ∀ a o, H a = some o → q ≠ some a → H' a = some o
def ArgR (K : PySem.W.Frag) (A : Addr → Prop) (H : Hp) (q : Option Addr) (vs : List V) (ds : List D) : Prop :=
  match q with
  | none => RpA K A H vs ds
  | some p => ∃ vs' d ds', vs = .ref p :: vs' ∧ ds = d :: ds' ∧ A p ∧ Own K A H p d ∧ RpA K A H vs' ds'
def spD (K : PySem.W.Frag) (io fr : Bool) (F : FN) : Sp := fun vs H Q E => ∃ (A : Addr → Prop) (q : Option Addr) (ds : List D), Trk A H ∧ q.isSome = io ∧ ArgR K A H q vs ds ∧
  match F ds with
  | .rt d o => ∀ v H', KI q H H' → RetR K A fr H H' q v d o → Q v H'
  | .ex x o => ∀ dx H', KI q H H' → (∀ p, q = some p → Own K A H' p o) → XRel K A H' x dx → E (.ref (He.ga K x.c)) dx H'
  | .bad => False
structure FnG (P : Program) (w : World) (K : PySem.W.Frag) (mg : Str → Option Value) (base : Heap) (k : Nat) (f : Addr) (io fr : Bool) (F : FN) : Prop where
  run : ∀ (A : Around) (outer : List Env) (s : Shared) (H : Hp) (us : List Value) (vs : List V) (Q : VK) (E : XK), Room k A → A.guards = some [] → Env0 P w K mg base A outer s H → Vals vs us →
    spD K io fr F vs H Q E → codeAny (model P w) A (.call (.ref f) ⟨us, []⟩) (CR (L2N.CX P w) outer P w H s Q E) s
  kp : PySem.W.keepIn K (.ref f) = true
theorem FnG.mono {P : Program} {w : World} {K : PySem.W.Frag} {mg : Str → Option Value} {base : Heap} {j k : Nat} {f : Addr} {io fr : Bool} {F : FN} (h : FnG P w K mg base j f io fr F) (l : j ≤ k) : FnG P w K mg base k f io fr F :=
  ⟨fun A outer s H us vs Q E hr => h.run A outer s H us vs Q E (hr.mono l), h.kp⟩

section
variable (K : PySem.W.Frag) (G : Gd)
def RetG (fr : Bool) (v : V) (H' : Hp) (d o : D) : Prop := KI G.io G.H0 H' ∧ RetR K G.A0 fr G.H0 H' G.io v d o
def io0 (ρ : En) : D := match ρ[0]? with
  | some (some d) => d
  | _ => .non
variable (XC : List Nat → Prop) (Ol O O' : List Nat) (W : WX) (fr : Bool) (A : Addr → Prop) (H : Hp)
def SPost (D0 : Ends) : Out → Prop
  | .nx ρ' => ∀ σ' H' A' ms', RelS K G O' A' ms' σ' H' ρ' → Tr A A' H H' → D0.nx σ' H'
  | .rt d ρ' => ∀ v H', RetG K G fr v H' d (io0 ρ') → D0.rt v H'
  | .bk ρ' => ∀ σ' H' A' ms', RelS K G Ol A' ms' σ' H' ρ' → Tr A A' H H' → D0.bk σ' H'
  | .ct ρ' => ∀ σ' H' A' ms', RelS K G Ol A' ms' σ' H' ρ' → Tr A A' H H' → D0.ct σ' H'
  | .ex x ρ' => ∀ dx σ' H' A' ms' O'', XC O'' → RelS K G O'' A' ms' σ' H' ρ' → Tr A A' H H' → XRel K A' H' x dx → W (.ref (He.ga K x.c)) dx σ' H'
  | .bad => False
def tS (m : MS) : TS := fun D0 σ H => ∃ A ms ρ, RelS K G O A ms σ H ρ ∧ SPost K G XC Ol O' W fr A H D0 (m ρ)
end
def DS (X : Cx) (G : Gd) (XC : List Nat → Prop) (Ol O O' : List Nat) (W : WX) (fr : Bool) (st : Stmt) (m : MS) : Prop := PS X st (tS X.K G XC Ol O O' W fr m)
def DSs (X : Cx) (G : Gd) (XC : List Nat → Prop) (Ol O O' : List Nat) (W : WX) (fr : Bool) (sts : List Stmt) (m : MS) : Prop := PSs X sts (tS X.K G XC Ol O O' W fr m)

theorem Tr.trans {A A1 A2 : Addr → Prop} {H H1 H2 : Hp} (a : Tr A A1 H H1) (b : Tr A1 A2 H1 H2) : Tr A A2 H H2 := fun x o e n => let ⟨e1, n1⟩ := a x o e n; b x o e1 n1
theorem Tr.refl {A : Addr → Prop} {H : Hp} : Tr A A H H := fun _ _ e n => ⟨e, n⟩
theorem SPost.from {K : PySem.W.Frag} {G : Gd} {XC : List Nat → Prop} {Ol O' : List Nat} {W : WX} {fr : Bool} {A A1 : Addr → Prop} {H H1 : Hp} {D0 : Ends} {r : Out} (t : Tr A A1 H H1) (h : SPost K G XC Ol O' W fr A H D0 r) : SPost K G XC Ol O' W fr A1 H1 D0 r := by
  cases r with
  | nx ρ => exact fun σ' H' A' ms' R k => h σ' H' A' ms' R (t.trans k)
  | rt d ρ => exact h
  | bk ρ => exact fun σ' H' A' ms' R k => h σ' H' A' ms' R (t.trans k)
  | ct ρ => exact fun σ' H' A' ms' R k => h σ' H' A' ms' R (t.trans k)
  | ex x ρ => exact fun dx σ' H' A' ms' O'' c R k => h dx σ' H' A' ms' O'' c R (t.trans k)
  | bad => exact h

def pad (n : Nat) (ds : List D) : En := ds.map some ++ List.replicate (n - ds.length) none
def runM (n np : Nat) (dd : List D) (fr : Bool) (m : MS) : FN := fun ds => if (ds ++ dd).length = np then match m (pad n (ds ++ dd)) with
  | .nx ρ => if fr = true then .bad else .rt .non (io0 ρ)
  | .rt d ρ => .rt d (io0 ρ)
  | .ex x ρ => .ex x (io0 ρ)
  | _ => .bad
  else .bad
theorem pad_get {n : Nat} {ds : List D} {i : Nat} {d : D} (h : (pad n ds)[i]? = some (some d)) : ds[i]? = some d := by
  unfold pad at h
  by_cases hi : i < ds.length
  · rw [List.getElem?_append_left (by rw [List.length_map]; exact hi), List.getElem?_map] at h
    cases e : ds[i]? with
    | none => rw [e] at h; cases h
    | some x => rw [e] at h; cases h; rfl
  · rw [List.getElem?_append_right (by rw [List.length_map]; omega), List.getElem?_replicate] at h
    split at h
    · cases h
    · cases h
theorem start_get {N : List Str} {vs : List V} {i : Nat} {v : V} (h : vs[i]? = some v) : (L2.start N vs)[i]? = some (some v) := by
  unfold L2.start
  have hi := (List.getElem?_eq_some_iff.mp h).1
  rw [List.getElem?_append_left (by rw [List.length_map]; exact hi), List.getElem?_map, h]
  rfl
theorem start_rel {K : PySem.W.Frag} {A : Addr → Prop} {H : Hp} {q : Option Addr} {N : List Str} {vs : List V} {ds : List D} {O : List Nat} {np : Nat} (t : Trk A H) (h : ArgR K A H q vs ds) (hn : ds.length = np) (hN : np ≤ N.length)
    (hO : ∀ i, i < np → i ∈ O → i = 0 ∧ q.isSome = true) (hq : q.isSome = true → 0 ∈ O) : RelS K ⟨A, H, q, none⟩ O A (fun i => if i = 0 then q else none) (L2.start N vs) H (pad N.length ds) := by
  have hl : vs.length = ds.length := by
    cases q with
    | none => exact RpA.length h
    | some p =>
      obtain ⟨vs', d, ds', rfl, rfl, _, _, r⟩ := h
      rw [List.length_cons, List.length_cons, r.length]
  have lt : ∀ {i : Nat} {d : D}, (pad N.length ds)[i]? = some (some d) → i < np := fun {i d} e => by
    have := (List.getElem?_eq_some_iff.mp (pad_get e)).1
    omega
  have at0 : ∀ {i : Nat} {p : Addr}, (if i = 0 then q else none) = some p → i = 0 ∧ q = some p := fun {i p} e => by
    by_cases h : i = 0
    · rw [if_pos h] at e; exact ⟨h, e⟩
    · rw [if_neg h] at e; cases e
  refine ⟨fun _ z => z, t, t, fun _ _ e _ => e, ?_, fun i d e n => ?_, fun i d e m => ?_, fun i p m e => ?_, fun i p m e => .inl (at0 e), fun i j p m m' e e' => (at0 e).1.trans (at0 e').1.symm, fun i a c e => ?_, fun p e => ?_⟩
  all_goals try (cases (show (none : Option (Nat × Addr × Str)) = some (_, _, _) from e); done)
  · unfold L2.start pad
    rw [List.length_append, List.length_append, List.length_map, List.length_map, List.length_replicate, List.length_replicate, hl]
  · have e1 := pad_get e
    cases q with
    | none =>
      obtain ⟨v, h1, h2⟩ := RpA.get h e1
      exact ⟨v, start_get h1, h2⟩
    | some p =>
      obtain ⟨vs', d0, ds', rfl, rfl, _, _, r⟩ := h
      cases i with
      | zero => exact absurd (hq rfl) n
      | succ i =>
        obtain ⟨v, h1, h2⟩ := r.get (i := i) (by simpa using e1)
        exact ⟨v, start_get (by simpa using h1), h2⟩
  · obtain ⟨rfl, z⟩ := hO i (lt e) m
    have e1 := pad_get e
    cases q with
    | none => cases z
    | some p =>
      obtain ⟨vs', d0, ds', rfl, rfl, ap, ow, r⟩ := h
      cases (show some d0 = some d from e1)
      exact ⟨p, rfl, start_get rfl, ow⟩
  · obtain ⟨_, z⟩ := at0 e
    cases q with
    | none => cases z
    | some p' =>
      cases z
      obtain ⟨vs', d0, ds', rfl, rfl, ap, ow, r⟩ := h
      exact ap
  · have e' : q = some p := e
    subst e'
    obtain ⟨vs', d0, ds', rfl, rfl, ap, ow, r⟩ := h
    refine ⟨hq rfl, ap, rfl, d0, ?_⟩
    unfold pad
    rfl
theorem RelS.ki {K : PySem.W.Frag} {G : Gd} {O : List Nat} {A : Addr → Prop} {ms : Nat → Option Addr} {σ : L2.St} {H : Hp} {ρ : En} (R : RelS K G O A ms σ H ρ) : KI G.io G.H0 H := R.keep
theorem RelS.ioOwn {K : PySem.W.Frag} {G : Gd} {O : List Nat} {A : Addr → Prop} {ms : Nat → Option Addr} {σ : L2.St} {H : Hp} {ρ : En} (R : RelS K G O A ms σ H ρ) {p : Addr} (e : G.io = some p) : Own K A H p (io0 ρ) := by
  obtain ⟨h1, h2, h3, d, h4⟩ := R.io p e
  obtain ⟨p', e0, _, w⟩ := R.ow 0 d h4 h1
  rw [h3] at e0
  cases e0
  unfold io0
  rw [h4]
  exact w
theorem Own.less {K : PySem.W.Frag} {A A' : Addr → Prop} {H : Hp} {p : Addr} {d : D} (h : Own K A H p d) (s : ∀ a, A' a → A a) : Own K A' H p d := h.tr (fun a o e n => ⟨e, fun z => n (s a z)⟩) fun _ z => z
theorem Rp.less {K : PySem.W.Frag} {A A' : Addr → Prop} {H : Hp} {v : V} {d : D} (h : Rp K A H v d) (s : ∀ a, A' a → A a) : Rp K A' H v d := h.tr fun a o e n => ⟨e, fun z => n (s a z)⟩

section
variable {P : Program} {w : World} {K : PySem.W.Frag} {mg : Str → Option Value} {base : Heap} {x qual : Str} {params : Arguments} {body : List Stmt} {scope : Scope} {dvs : List V} {kws : List (Str × V)} {f : Addr} {fd : FuncData}
theorem fnG_of {N ps : List Str} {k : Nat} {io fr : Bool} {ds : List Value} {dw : List V} {dd : List D} {O O' : List Nat} {m : MS} (F : FunD K x qual params body scope dvs kws f fd) (S : FnScope N ps scope) (hb : Binds K fd ps ds) (hd : Vals dw ds)
    (rd : ∀ A H, RpA K A H dw dd) (hN : ps.length ≤ N.length) (hO : ∀ i, i < ps.length → i ∈ O → i = 0 ∧ io = true) (hq : io = true → 0 ∈ O)
    (hbody : ∀ (cdv : Value) (A : Around) (outer : List Env) (s : Shared) (H : Hp) (E : XK) (A0 : Addr → Prop) (q : Option Addr), q.isSome = io → Room k (A.deeper (envOfC qual scope s.heap.objs.size f cdv)) → A.guards = some [] →
      DSs (cxOf (L2N.CX P w) P w K mg base N qual scope f cdv A outer s H E) ⟨A0, H, q, none⟩ (fun _ => True) [] O O' (fun cls d _ H' => E cls d H') fr body m) :
    FnG P w K mg base (k + 1) f io fr (runM N.length ps.length dd fr m) := by
  refine ⟨fun A outer s H us vs Q E hr hg e0 rv hsp => ?_, F.kp⟩
  obtain ⟨oc, od, dV, kV, doc, pm, an, cdv, ct, osl, rfl, lk, hcd, _, _⟩ := F.ex
  obtain ⟨A0, q, args, trk, hio, ar, post⟩ := hsp
  have KXh : K.In s.heap := e0.mod.kin.keeps fun b o e => (e0.bs b o e).1
  have limit : s.heap.NoLimit := e0.mod.nolimit.keeps fun b o e => (e0.bs b o e).1
  have ar2 : ArgR K A0 H q (vs ++ dw) (args ++ dd) := by
    cases q with
    | none => exact RpA.app ar (rd _ _)
    | some p =>
      obtain ⟨vs', d0, ds', rfl, rfl, ap, ow, r⟩ := ar
      exact ⟨_, _, _, rfl, rfl, ap, ow, r.app (rd _ _)⟩
  have alen : (vs ++ dw).length = (args ++ dd).length := by
    cases q with
    | none => exact RpA.length ar2
    | some p =>
      obtain ⟨vs', d0, ds', e1, e2, _, _, r⟩ := ar2
      rw [e1, e2, List.length_cons, List.length_cons, r.length]
  unfold runM at post
  by_cases hnp : (args ++ dd).length = ps.length
  · rw [if_pos hnp] at post
    have rv2 : Vals (vs ++ dw) (us ++ ds) := rv.append hd
    have hul : (us ++ ds).length = ps.length := by rw [← rv2.length, alen]; exact hnp
    have hvl : (vs ++ dw).length = ps.length := by rw [alen]; exact hnp
    have kinds : ∀ y ∈ ps.zip (us ++ ds), scope.names.lookup y.1 = some .local ∨ (scope.names.lookup y.1 = some .cell ∧ ((cellsFrom (s.heap.objs.size + 1) scope.names []).lookup y.1).isSome = true) := fun ⟨n, v⟩ hy => by
      rcases S.par n (List.of_mem_zip hy).1 with z | z
      · exact .inl z
      · exact .inr ⟨z, PySem.W.cellsFrom_some _ _ _ (.inl z)⟩
    refine codeAny_call_function hr.depth (KXh _ _ lk) rfl S.co S.gen rfl (PySem.W.codeRec_of KXh hcd) (hb s us KXh hul _ _ _ _ ?_)
    refine wpAny_newFunctionEnv_cells S.kind kinds fun env henv s1 made => ?_
    subst henv
    refine ⟨limit.keeps made.toInCall.keep, codeAny_func ?_⟩
    have I : Inv (cxOf (L2N.CX P w) P w K mg base N qual scope f cdv A outer s H E) [] (L2.start N (vs ++ dw)) H s1 := inv_start S hr.hd e0 hvl rv2 made
    have R := start_rel (N := N) (O := O) (np := ps.length) trk ar2 hnp hN (fun i h1 h2 => by rw [hio]; exact hO i h1 h2) (fun z => hq (by rw [← hio]; exact z))
    have body := hbody cdv A outer s H E A0 q hio (hr.deeper _) hg
    have goal : tS K ⟨A0, H, q, none⟩ (fun _ => True) [] O O' (fun cls d _ H' => E cls d H') fr m { nx := fun _ H' => Q .non H', rt := Q } (L2.start N (vs ++ dw)) H := by
      refine ⟨A0, _, _, R, ?_⟩
      cases hm : m (pad N.length (args ++ dd)) with
      | bad => rw [hm] at post; exact post.elim
      | bk ρ => rw [hm] at post; exact post.elim
      | ct ρ => rw [hm] at post; exact post.elim
      | rt d ρ =>
        rw [hm] at post
        exact fun v H' rg => post v H' rg.1 rg.2
      | nx ρ =>
        rw [hm] at post
        cases fr with
        | true => exact post.elim
        | false => exact fun σ' H' A' ms' R' _ => post .non H' R'.ki ⟨.non, fun p e => (R'.ioOwn e).less R'.sub⟩
      | ex y ρ =>
        rw [hm] at post
        refine fun dx σ' H' A' ms' O'' _ R' _ xr => post dx H' R'.ki (fun p e => (R'.ioOwn e).less R'.sub) ?_
        rcases xr with z | ⟨ne, d, fs, e1, e2, r⟩
        · exact .inl z
        · exact .inr ⟨ne, d, fs, e1, e2, r.tr fun a o e n => ⟨e, fun z => n (R'.sub a z)⟩⟩
    refine wpAny_mono (body.run [] s1 (L2.start N (vs ++ dw)) H _ I goal) (fun fl s' hs => ?_) fun e s' hs => hs
    have done : ∀ {σ' : L2.St} {H' : Hp} {v : V} {u : Value}, Inv (cxOf (L2N.CX P w) P w K mg base N qual scope f cdv A outer s H E) [] σ' H' s' → RelV v u → Q v H' → CE outer P w H s Q u s' :=
      fun {σ' H' v u} J rv q => ⟨v, H', J.os, J.bare, J.base, J.hok, rv, q⟩
    cases fl with
    | ret u =>
      obtain ⟨v, σ', H', J, rv, qq⟩ := hs
      exact done J rv qq
    | next =>
      obtain ⟨σ', H', J, qq⟩ := hs
      exact done (v := V.non) (u := Value.none) J rfl qq
    | brk =>
      obtain ⟨_, _, _, qq⟩ := hs
      exact qq.elim
    | cont =>
      obtain ⟨_, _, _, qq⟩ := hs
      exact qq.elim
  · rw [if_neg hnp] at post
    exact post.elim
end

section
variable {X : Cx} {G : Gd} {O : List Nat} {W : WX} {k : Nat} {f : Addr} {io fr : Bool} {F : FN} {x : Str} {p pos : Pos} {e : Expr} {es : List Expr} {mr : MA}
theorem run_fnG {pins : List (Addr × Obj)} {σ : L2.St} {H : Hp} {s : Shared} {Q : VK} {us : List Value} {vs : List V} (C : FnG X.prog X.w X.K X.mg X.base k f io fr F) (hr : Room k X.A) (hg : X.A.guards = some []) (tk : L2N.Takes X W)
    (I : Inv X pins σ H s) (r : Vals vs us) (h : spD X.K io fr F vs H Q (WE W σ)) : wpAny (model X.prog X.w) X.A (call (.ref f) us) (EP X pins σ Q) X.xe s := by
  refine wpAny_call (codeAny_mono (C.run X.A X.stack s H us vs Q (WE W σ) hr hg I.env0 r h) fun res s' hres => ?_)
  cases res with
  | error e => exact L2N.passAt tk σ pins H s e s' I hres
  | ok fl =>
    cases fl with
    | ret u => exact I.after hres
    | next => exact hres.elim
    | brk => exact hres.elim
    | cont => exact hres.elim
def tCallG (K : PySem.W.Frag) (io fr : Bool) (F : FN) (W : WX) (t : TA) : TE := fun σ H Q => t σ H fun vs H1 => spD K io fr F vs H1 Q (WE W σ)
theorem pe_callG {t : TA} (C : FnG X.prog X.w X.K X.mg X.base k f io fr F) (hr : Room k X.A) (hg : X.A.guards = some []) (tk : L2N.Takes X W) (hn : Gl X x) (hm : X.mg x = some (.ref f)) (ha : PA X (e :: es) t)
    (hdb : (x == ("__debug__" : Str)) = false := by decide) (he : starEach (e :: es) X.env = (false, eval e X.env) :: starEach es X.env := by rfl) (hpl : (backTo pos (starEach es X.env)).any (·.1) = false := by rfl) :
    PE X (.Call (.Name x p) (e :: es) [] pos) (tCallG X.K io fr F W t) := by
  refine ⟨fun pins s σ H Q I h => wpAny_Call_Name_kw (ld_glob I hn hm ?_ hdb)⟩
  exact PySem.W.callWith_K (h₀ := X.base) I.ok.mod.kin C.kp (thn (ha.run pos pins s σ H _ I h) fun us s1 ⟨vs, H1, I1, r, q⟩ => ⟨I1.kIn, run_fnG C hr hg tk I1 r q⟩) he hpl
theorem pe_callG0 (C : FnG X.prog X.w X.K X.mg X.base k f io fr F) (hr : Room k X.A) (hg : X.A.guards = some []) (tk : L2N.Takes X W) (hn : Gl X x) (hm : X.mg x = some (.ref f)) (hdb : (x == ("__debug__" : Str)) = false := by decide) :
    PE X (.Call (.Name x p) [] [] pos) (tCallG X.K io fr F W tNil) := by
  refine ⟨fun pins s σ H Q I h => wpAny_Call_Name_kw (ld_glob I hn hm ?_ hdb)⟩
  exact PySem.W.callWith_K0 I.kIn C.kp (run_fnG (us := []) C hr hg tk I .nil h)
def mCall (F : FN) (args : MA) : ME := fun ρ => (args ρ).bind fun ds ρ1 => match F ds with
  | .rt d _ => .ok d ρ1
  | .ex x _ => .ex x ρ1
  | .bad => .bad
theorem call_goE {K : PySem.W.Frag} {σ : L2.St} {H : Hp} {Q : VK} (h : tE K G O W (mCall F mr) σ H Q) : tCallG K false false F W (tA K G O W mr) σ H Q := by
  obtain ⟨A, ms, ρ, R, q⟩ := h
  refine ⟨A, ms, ρ, R, q.bind.mono ?_⟩
  rintro vs H1 ⟨ds, ρ1, R1, k1, r1, q1⟩
  refine ⟨A, none, ds, R1.trk, rfl, r1, ?_⟩
  cases hF : F ds with
  | bad => rw [hF] at q1; exact q1.elim
  | rt d o =>
    rw [hF] at q1
    intro v H' ki ⟨rr, _⟩
    have s : Same H1 H' := fun a o e => ki a o e (by simp)
    exact q1 v H' (R1.same s) (Kp.same s) rr
  | ex y o =>
    rw [hF] at q1
    intro dx H' ki _ xr
    have s : Same H1 H' := fun a o e => ki a o e (by simp)
    exact q1 dx H' (R1.same s) (Kp.same s) xr
theorem call_goF {K : PySem.W.Frag} {σ : L2.St} {H : Hp} {Q : VK} (h : tF K G O W (mCall F mr) σ H Q) : tCallG K false true F W (tA K G O W mr) σ H Q := by
  obtain ⟨A, ms, ρ, R, q⟩ := h
  refine ⟨A, ms, ρ, R, ?_⟩
  unfold mCall at q
  cases hm : mr ρ with
  | bad => rw [hm] at q; exact q.elim
  | ex x ρ1 => rw [hm] at q; exact q
  | ok ds ρ1 =>
    rw [hm] at q
    intro vs H1 R1 k1 r1
    refine ⟨A, none, ds, R1.trk, rfl, r1, ?_⟩
    have q1 : FPost K G O W A ms σ H Q (match F ds with
      | .rt d _ => .ok d ρ1
      | .ex x _ => .ex x ρ1
      | .bad => .bad) := q
    cases hF : F ds with
    | bad => rw [hF] at q1; exact q1.elim
    | rt d o =>
      rw [hF] at q1
      intro v H' ki rr
      have s : Same H1 H' := fun a o e => ki a o e (by simp)
      obtain ⟨r, rfl, hr, ow, _⟩ := (show ∃ r, v = .ref r ∧ H1 r = none ∧ Own K (fun a => A a ∨ a = r) H' r d ∧ _ from rr)
      obtain ⟨o', ho'⟩ := ow.there
      refine q1 r H' (R1.same s) (R1.grow hr s ho') (k1.trans (Kp.same s)) ?_ ow
      exact Kp.none R1 k1 hr
    | ex y o =>
      rw [hF] at q1
      intro dx H' ki _ xr
      have s : Same H1 H' := fun a o e => ki a o e (by simp)
      exact q1 dx H' (R1.same s) (k1.trans (Kp.same s)) xr
theorem de_call (C : FnG X.prog X.w X.K X.mg X.base k f false false F) (hr : Room k X.A) (hg : X.A.guards = some []) (tk : L2N.Takes X W) (hn : Gl X x) (hm : X.mg x = some (.ref f)) (ha : DA X G O W (e :: es) mr)
    (hdb : (x == ("__debug__" : Str)) = false := by decide) (he : starEach (e :: es) X.env = (false, eval e X.env) :: starEach es X.env := by rfl) (hpl : (backTo pos (starEach es X.env)).any (·.1) = false := by rfl) :
    DE X G O W (.Call (.Name x p) (e :: es) [] pos) (mCall F mr) := pe_imp (pe_callG C hr hg tk hn hm ha hdb he hpl) fun _ _ _ h => call_goE h
theorem df_call (C : FnG X.prog X.w X.K X.mg X.base k f false true F) (hr : Room k X.A) (hg : X.A.guards = some []) (tk : L2N.Takes X W) (hn : Gl X x) (hm : X.mg x = some (.ref f)) (ha : DA X G O W (e :: es) mr)
    (hdb : (x == ("__debug__" : Str)) = false := by decide) (he : starEach (e :: es) X.env = (false, eval e X.env) :: starEach es X.env := by rfl) (hpl : (backTo pos (starEach es X.env)).any (·.1) = false := by rfl) :
    DF X G O W (.Call (.Name x p) (e :: es) [] pos) (mCall F mr) := pe_imp (pe_callG C hr hg tk hn hm ha hdb he hpl) fun _ _ _ h => call_goF h
theorem tNil_go {K : PySem.W.Frag} {σ : L2.St} {H : Hp} {Q : List V → Hp → Prop} (h : tA K G O W mNil σ H Q) : tNil σ H Q := by
  obtain ⟨A, ms, ρ, R, q⟩ := h
  exact q [] H R Kp.refl .nil
end
end DL
namespace DL
open L2 PySem PySem.Spec PyProof.Rows

theorem set_get_ne {ρ : En} {i j : Nat} {o : Option D} (h : i ≠ j) : (ρ.set j o)[i]? = ρ[i]? := List.getElem?_set_ne (Ne.symm h)
theorem RelS.setOwn {K : PySem.W.Frag} {G : Gd} {O : List Nat} {A : Addr → Prop} {ms : Nat → Option Addr} {σ : L2.St} {H H' : Hp} {ρ : En} {j : Nat} {p : Addr} {c d : D} (R : RelS K G O A ms σ H ρ) (hj : j ∈ O) (hc : ρ[j]? = some (some c)) (hp : ms j = some p)
    (k : ∀ a o, H a = some o → a ≠ p → H' a = some o) (ow : Own K A H' p d) : RelS K G O A ms σ H' (ρ.set j (some d)) := by
  have hlt : j < ρ.length := (List.getElem?_eq_some_iff.mp hc).1
  have aj : A p := R.inA j p hj hp
  have t : Tr A A H H' := fun a o e n => ⟨k a o e fun z => n (z ▸ aj), n⟩
  exact {
    sub := R.sub
    trk0 := R.trk0
    trk := fun a z => by
      by_cases h : a = p
      · rw [h]; exact ow.there
      · obtain ⟨o, e⟩ := R.trk a z
        exact ⟨o, k a o e h⟩
    keep := fun a o e n => by
      refine k a o (R.keep a o e n) fun z => ?_
      rcases R.ok j p hj hp with ⟨_, w⟩ | ⟨_, w⟩
      · exact n (z ▸ w)
      · rw [z, w] at e; cases e
    len := by rw [List.length_set]; exact R.len
    fz := fun i z e n => by
      have h : i ≠ j := fun q => n (q ▸ hj)
      rw [set_get_ne h] at e
      obtain ⟨v, e1, q⟩ := R.fz i z e n
      exact ⟨v, e1, q.tr t⟩
    ow := fun i z e m => by
      by_cases h : i = j
      · subst h
        rw [List.getElem?_set_self hlt] at e
        cases e
        obtain ⟨p', e0, e1, _⟩ := R.ow i c hc hj
        rw [hp] at e0
        cases e0
        exact ⟨p, hp, e1, ow⟩
      · rw [set_get_ne h] at e
        obtain ⟨q, e0, e1, w⟩ := R.ow i z e m
        exact ⟨q, e0, e1, w.tr t fun o u => k _ _ u fun z => h (R.dist i j p m hj (z ▸ e0) hp)⟩
    inA := R.inA
    ok := R.ok
    dist := R.dist
    px := R.px
    io := fun q e => by
      obtain ⟨h1, h2, h3, z, h4⟩ := R.io q e
      by_cases h : j = 0
      · subst h
        exact ⟨h1, h2, h3, d, List.getElem?_set_self hlt⟩
      · exact ⟨h1, h2, h3, z, by rw [set_get_ne (Ne.symm h)]; exact h4⟩ }
theorem Kp.own {O : List Nat} {ms : Nat → Option Addr} {j : Nat} {p : Addr} {H H' : Hp} (m : j ∈ O) (e : ms j = some p) (k : ∀ b o, H b = some o → b ≠ p → H' b = some o) : Kp O ms H H' := fun b o h n => k b o h fun z => n j m (z ▸ e)

section
variable {X : Cx} {G : Gd} {O : List Nat} {W : WX} {k : Nat} {f : Addr} {fr : Bool} {F : FN} {x y : Str} {p py pos : Pos} {e : Expr} {es : List Expr} {mr : MA}
def getO (ρ : En) (j : Nat) : Option D := match ρ[j]? with
  | some (some d) => some d
  | _ => none
theorem getO_some {ρ : En} {j : Nat} {d : D} (h : getO ρ j = some d) : ρ[j]? = some (some d) := by
  unfold getO at h
  split at h
  · rename_i z hz
    cases h
    exact hz
  · cases h
def mCallIo (F : FN) (j : Nat) (args : MA) : ME := fun ρ => match getO ρ j with
  | none => .bad
  | some _ => (args ρ).bind fun ds ρ1 => match getO ρ1 j with
    | none => .bad
    | some c => match F (c :: ds) with
      | .rt d o => .ok d (ρ1.set j (some o))
      | .ex x o => .ex x (ρ1.set j (some o))
      | .bad => .bad
theorem callio_go {K : PySem.W.Frag} {j : Nat} (hj : j ∈ O) {σ : L2.St} {H : Hp} {Q : VK} (h : tE K G O W (mCallIo F j mr) σ H Q) : tCallG K true false F W (tCons (tVar j) (tA K G O W mr)) σ H Q := by
  obtain ⟨A, ms, ρ, R, q⟩ := h
  unfold mCallIo at q
  cases hc : getO ρ j with
  | none => rw [hc] at q; exact q.elim
  | some c =>
    rw [hc] at q
    have q' : RPost K G O W A ms σ H (Rp K A) Q ((mr ρ).bind fun ds ρ1 => match getO ρ1 j with
      | none => .bad
      | some c => match F (c :: ds) with
        | .rt d o => .ok d (ρ1.set j (some o))
        | .ex x o => .ex x (ρ1.set j (some o))
        | .bad => .bad) := q
    obtain ⟨p, hp, hv, _⟩ := R.ow j c (getO_some hc) hj
    refine ⟨.ref p, hv, A, ms, ρ, R, q'.bind.mono ?_⟩
    rintro vs H1 ⟨ds, ρ1, R1, k1, r1, q1⟩
    cases hc1 : getO ρ1 j with
    | none => rw [hc1] at q1; exact q1.elim
    | some c1 =>
      rw [hc1] at q1
      have b1 := getO_some hc1
      obtain ⟨p', hp', _, oj⟩ := R1.ow j c1 b1 hj
      rw [hp] at hp'
      cases hp'
      refine ⟨A, some p, c1 :: ds, R1.trk, rfl, ⟨vs, c1, ds, rfl, rfl, R.inA j p hj hp, oj, r1⟩, ?_⟩
      have q2 : RPost K G O W A ms σ H1 (Rp K A) Q (match F (c1 :: ds) with
        | .rt d o => .ok d (ρ1.set j (some o))
        | .ex x o => .ex x (ρ1.set j (some o))
        | .bad => .bad) := q1
      cases hF : F (c1 :: ds) with
      | bad => rw [hF] at q2; exact q2.elim
      | rt d o =>
        rw [hF] at q2
        intro v H' ki ⟨rr, oo⟩
        have kk : ∀ a u, H1 a = some u → a ≠ p → H' a = some u := fun a u e n => ki a u e fun z => n (Option.some.inj z).symm
        exact q2 v H' (R1.setOwn hj b1 hp kk (oo _ rfl)) (Kp.own hj hp kk) rr
      | ex z o =>
        rw [hF] at q2
        intro dx H' ki oo xr
        have kk : ∀ a u, H1 a = some u → a ≠ p → H' a = some u := fun a u e n => ki a u e fun z => n (Option.some.inj z).symm
        exact q2 dx H' (R1.setOwn hj b1 hp kk (oo _ rfl)) (Kp.own hj hp kk) xr
theorem de_callio {j : Nat} (C : FnG X.prog X.w X.K X.mg X.base k f true false F) (hr : Room k X.A) (hg : X.A.guards = some []) (tk : L2N.Takes X W) (hn : Gl X x) (hm : X.mg x = some (.ref f)) (hj : O.contains j = true) (hy : PE X (.Name y py) (tVar j)) (ha : DA X G O W es mr)
    (hs : starEach (.Name y py :: es) X.env = (false, eval (.Name y py) X.env) :: starEach es X.env := by rfl)
    (hdb : (x == ("__debug__" : Str)) = false := by decide) (hpl : (backTo pos (starEach es X.env)).any (·.1) = false := by rfl) :
    DE X G O W (.Call (.Name x p) (.Name y py :: es) [] pos) (mCallIo F j mr) :=
  pe_imp (pe_callG C hr hg tk hn hm (pa_cons hy ha hs) hdb hs hpl) fun _ _ _ h => callio_go (List.contains_iff_mem.mp hj) h

def rOM (K : PySem.W.Frag) (g : List D → List D → Option (D × List D)) : V → List V → Hp → VK → Prop := fun x vs H Q => ∃ (A : Addr → Prop) (p : Addr) (cs ds : List D) (ws : List V) (z : D) (cs' : List D), x = .ref p ∧ A p ∧ Trk A H ∧ H p = some (.lst ws) ∧ RpA K A H ws cs ∧ RpA K A H vs ds ∧
  g cs ds = some (z, cs') ∧ ∀ v H', (∀ a o, H a = some o → a ≠ p → H' a = some o) → (∃ ws', H' p = some (.lst ws') ∧ RpA K A H' ws' cs') → Rp K A H' v z → Q v H'
def mOM (g : List D → List D → Option (D × List D)) (j : Nat) (args : MA) : ME := fun ρ => match getO ρ j with
  | some (.lst _) => (args ρ).bind fun ds ρ1 => match getO ρ1 j with
    | some (.lst cs) => match g cs ds with
      | some (z, cs') => .ok z (ρ1.set j (some (.lst cs')))
      | none => .bad
    | _ => .bad
  | _ => .bad
theorem own_lst {K : PySem.W.Frag} {A : Addr → Prop} {H : Hp} {p : Addr} {cs : List D} (h : Own K A H p (.lst cs)) : ∃ ws, H p = some (.lst ws) ∧ RpA K A H ws cs := by
  cases h with
  | lst e q => exact ⟨_, e, q⟩
theorem om_go {g : List D → List D → Option (D × List D)} {r : V → List V → Hp → VK → Prop} {K : PySem.W.Frag} (hr : ∀ x vs H Q, rOM K g x vs H Q → r x vs H Q) {j : Nat} (hj : j ∈ O) {σ : L2.St} {H : Hp} {Q : VK} (h : tE K G O W (mOM g j mr) σ H Q) :
    ∃ v, σ[j]? = some (some v) ∧ tyV K "list" v H ∧ tA K G O W mr σ H fun xs H2 => r v xs H2 Q := by
  obtain ⟨A, ms, ρ, R, q⟩ := h
  unfold mOM at q
  split at q
  · rename_i c hc
    obtain ⟨p, hp, e1, oj⟩ := R.ow j _ (getO_some hc) hj
    obtain ⟨ws, hw, _⟩ := own_lst oj
    refine ⟨_, e1, .inl ⟨rfl, _, SqL.of hw⟩, A, ms, ρ, R, RPost.mono (RPost.bind q) ?_⟩
    rintro vs H1 ⟨ds, ρ1, R1, k1, r1, q1⟩
    split at q1
    · rename_i cs hc1
      have b1 := getO_some hc1
      obtain ⟨p', hp', _, oj1⟩ := R1.ow j _ b1 hj
      rw [hp] at hp'
      cases hp'
      obtain ⟨ws1, hw1, rw1⟩ := own_lst oj1
      split at q1
      · rename_i z cs' hg
        refine hr _ _ _ _ ⟨A, p, cs, ds, ws1, z, cs', rfl, R.inA j p hj hp, R1.trk, hw1, rw1, r1, hg, fun v H' kk ⟨ws', hw', rw'⟩ rv => ?_⟩
        exact q1 v H' (R1.setOwn hj b1 hp kk (.lst hw' rw')) (Kp.own hj hp kk) rv
      · exact q1.elim
    · exact q1.elim
  · exact q.elim
theorem de_om {j : Nat} {name : Str} {id : String} {apos cpos : Pos} {g : List D → List D → Option (D × List D)} (hm : MtR X id (rOM X.K g)) (slot : Slot "list" name id) (hty : typeOf (.builtin id) = pure (.type "method_descriptor")) (hj : O.contains j = true) (hy : PE X (.Name y py) (tVar j)) (ha : DA X G O W (e :: es) mr)
    (hbase : attributeBase (.Name y py) name X.env (eval (.Name y py) X.env) = eval (.Name y py) X.env := by rfl)
    (hfew : ((backTo cpos (starEach (e :: es) X.env)).all (fun x => !x.1) && (backToKw cpos (keywordEach [] X.env)).all (fun x => x.1.isSome)
      && decide ((e :: es).length + ([] : List Keyword).length + (if ([] : List Keyword).isEmpty then 0 else 1) < 30)) = true := by rfl)
    (hline : (apos.endLine == cpos.line) = true := by rfl) (hs : starEach (e :: es) X.env = (false, eval e X.env) :: starEach es X.env := by rfl) (hplain : (backTo cpos (starEach es X.env)).any (·.1) = false := by rfl) :
    DE X G O W (.Call (.Attribute (.Name y py) name apos) (e :: es) [] cpos) (mOM g j mr) :=
  pe_imp (pe_bm PySem.F.plainAttrs_list slot hty hm hy ha hbase hfew hline hs hplain) fun _ _ _ h => om_go (fun _ _ _ _ z => z) (List.contains_iff_mem.mp hj) h
theorem de_om0 {j : Nat} {name : Str} {id : String} {apos cpos : Pos} {g : List D → List D → Option (D × List D)} (hm : MtR X id (rOM X.K g)) (slot : Slot "list" name id) (hty : typeOf (.builtin id) = pure (.type "method_descriptor")) (hj : O.contains j = true) (hy : PE X (.Name y py) (tVar j))
    (hbase : attributeBase (.Name y py) name X.env (eval (.Name y py) X.env) = eval (.Name y py) X.env := by rfl) (hline : (apos.endLine == cpos.line) = true := by rfl) :
    DE X G O W (.Call (.Attribute (.Name y py) name apos) [] [] cpos) (mOM g j mNil) := by
  refine pe_imp (pe_bm0 PySem.F.plainAttrs_list slot hty hm hy hbase hline) fun σ H Q h => ?_
  obtain ⟨v, h1, h2, h3⟩ := om_go (fun _ _ _ _ z => z) (List.contains_iff_mem.mp hj) h
  exact ⟨v, h1, h2, tNil_go h3⟩
def gAppend (cs ds : List D) : Option (D × List D) := match ds with
  | [d] => if cs.length < sizeLine then some (.non, cs ++ [d]) else none
  | _ => none
def gExtend (cs ds : List D) : Option (D × List D) := match ds with
  | [.lst es] => if cs.length + es.length ≤ sizeLine then some (.non, cs ++ es) else none
  | _ => none
def gPop (cs ds : List D) : Option (D × List D) := match ds with
  | [] => (cs[cs.length - 1]?).map fun z => (z, cs.dropLast)
  | [.int i] => if -(2 ^ 63) ≤ i ∧ i < 2 ^ 63 then (seqIndex? i cs.length).bind fun k => (cs[k]?).map fun z => (z, cs.eraseIdx k) else none
  | _ => none
def gReverse (cs ds : List D) : Option (D × List D) := match ds with
  | [] => some (.non, cs.reverse)
  | _ => none
theorem upd_out {H : Hp} {p : Addr} {o : HO} : ∀ a u, H a = some u → a ≠ p → (upd H p o) a = some u := fun a u e n => by rw [upd_ne n]; exact e
theorem RpA.upd {K : PySem.W.Frag} {A : Addr → Prop} {H : Hp} {p : Addr} {o : HO} {vs : List V} {ds : List D} (h : RpA K A H vs ds) (a : A p) : RpA K A (L2.upd H p o) vs ds := h.tr fun b o e n => ⟨upd_out b o e fun z => n (z ▸ a), n⟩
theorem Rp.upd {K : PySem.W.Frag} {A : Addr → Prop} {H : Hp} {p : Addr} {o : HO} {v : V} {d : D} (h : Rp K A H v d) (a : A p) : Rp K A (L2.upd H p o) v d := h.tr fun b o e n => ⟨upd_out b o e fun z => n (z ▸ a), n⟩
theorem om_append : MtR X "list.append" (rOM X.K gAppend) := by
  rintro pins s σ H x vs v us Q I rx rv ⟨A, p, cs, ds, ws, z, cs', rfl, ap, t, hp, rc, rd, hg, q⟩
  unfold gAppend at hg
  split at hg
  · rename_i d
    split at hg
    · rename_i hz
      cases hg
      cases rd with
      | cons r1 r2 =>
        cases r2
        refine mt_append pins s σ H _ _ v us Q I rx rv ⟨p, ws, _, rfl, rfl, hp, by rw [rc.length]; exact hz, ?_⟩
        exact q _ _ upd_out ⟨_, upd_same, (rc.upd ap).app (.cons (r1.upd ap) .nil)⟩ .non
    · cases hg
  · cases hg
theorem om_extend : MtR X "list.extend" (rOM X.K gExtend) := by
  rintro pins s σ H x vs v us Q I rx rv ⟨A, p, cs, ds, ws, z, cs', rfl, ap, t, hp, rc, rd, hg, q⟩
  unfold gExtend at hg
  split at hg
  · split at hg
    · rename_i hz
      cases hg
      cases rd with
      | cons r1 r2 =>
        cases r2
        cases r1 with
        | lst hb nb rb =>
          refine mt_extend pins s σ H _ _ v us Q I rx rv ⟨p, _, ws, _, rfl, rfl, hp, hb, by rw [rc.length, rb.length]; exact hz, ?_⟩
          exact q _ _ upd_out ⟨_, upd_same, (rc.upd ap).app (rb.upd ap)⟩ .non
    · cases hg
  · cases hg
theorem RpA.eraseIdx {K : PySem.W.Frag} {A : Addr → Prop} {H : Hp} : ∀ {vs : List V} {ds : List D} (n : Nat), RpA K A H vs ds → RpA K A H (vs.eraseIdx n) (ds.eraseIdx n)
  | _, _, _, .nil => .nil
  | _, _, 0, .cons _ t => t
  | _, _, n + 1, .cons h t => .cons h (RpA.eraseIdx n t)
theorem om_pop : MtR X "list.pop" (rOM X.K gPop) := by
  rintro pins s σ H x vs v us Q I rx rv ⟨A, p, cs, ds, ws, z, cs', rfl, ap, t, hp, rc, rd, hg, q⟩
  unfold gPop at hg
  split at hg
  · cases rd
    obtain ⟨y, hy, e⟩ := map_some hg
    cases e
    have hl := rc.length
    obtain ⟨w, hw, rw⟩ := rc.get hy
    refine mt_pop pins s σ H _ _ v us Q I rx rv ⟨p, ws, w, rfl, rfl, hp, by rw [hl]; exact hw, ?_⟩
    exact q _ _ upd_out ⟨_, upd_same, rc.dropLast.upd ap⟩ (rw.upd ap)
  · rename_i i
    split at hg
    · rename_i hz
      cases hk : seqIndex? i cs.length with
      | none => rw [hk] at hg; cases hg
      | some k =>
        rw [hk] at hg
        obtain ⟨y, hy, e⟩ := map_some (show (cs[k]?).map (fun z => (z, cs.eraseIdx k)) = some (z, cs') from hg)
        cases e
        cases rd with
        | cons r1 r2 =>
          cases r2
          cases r1
          obtain ⟨w, hw, rw⟩ := rc.get hy
          refine mt_popAt pins s σ H _ _ v us Q I rx rv ⟨p, ws, i, k, w, rfl, rfl, hp, hz.1, hz.2, by rw [rc.length]; exact hk, hw, ?_⟩
          exact q _ _ upd_out ⟨_, upd_same, (rc.eraseIdx k).upd ap⟩ (rw.upd ap)
    · cases hg
  · cases hg
theorem om_reverse : MtR X "list.reverse" (rOM X.K gReverse) := by
  rintro pins s σ H x vs v us Q I rx rv ⟨A, p, cs, ds, ws, z, cs', rfl, ap, t, hp, rc, rd, hg, q⟩
  unfold gReverse at hg
  split at hg
  · cases hg
    cases rd
    refine mt_reverse pins s σ H _ _ v us Q I rx rv ⟨p, ws, rfl, rfl, hp, ?_⟩
    exact q _ _ upd_out ⟨_, upd_same, rc.rev.upd ap⟩ .non
  · cases hg

def mOwn (j : Nat) (g : D → Option D) : ME := fun ρ => match getO ρ j with
  | some d => ret (g d) ρ
  | none => .bad
end

abbrev MG := D → En → R Unit
def SlEq (vs : List Nat) (σ σ' : L2.St) : Prop := σ'.length = σ.length ∧ ∀ i, i ∉ vs → σ'[i]? = σ[i]?
theorem SlEq.refl {vs : List Nat} {σ : L2.St} : SlEq vs σ σ := ⟨rfl, fun _ _ => rfl⟩
theorem SlEq.trans {vs : List Nat} {σ σ1 σ2 : L2.St} (a : SlEq vs σ σ1) (b : SlEq vs σ1 σ2) : SlEq vs σ σ2 := ⟨b.1.trans a.1, fun i h => (b.2 i h).trans (a.2 i h)⟩
theorem SlEq.mono {vs ws : List Nat} {σ σ' : L2.St} (a : SlEq vs σ σ') (h : ∀ i ∈ vs, i ∈ ws) : SlEq ws σ σ' := ⟨a.1, fun i n => a.2 i fun m => n (h i m)⟩
theorem SlEq.set {vs : List Nat} {σ : L2.St} {i : Nat} {o : Option V} (h : i ∈ vs) : SlEq vs σ (σ.set i o) := ⟨List.length_set, fun j n => List.getElem?_set_ne fun e => n (by rw [← e]; exact h)⟩
def GPost (K : PySem.W.Frag) (G : Gd) (O : List Nat) (vs : List Nat) (A : Addr → Prop) (ms : Nat → Option Addr) (σ : L2.St) (H : Hp) (Q : L2.St → Hp → Prop) : R Unit → Prop
  | .ok _ ρ' => ∀ σ' H', SlEq vs σ σ' → RelS K G O A ms σ' H' ρ' → Kp O ms H H' → Q σ' H'
  | _ => False
def tG (K : PySem.W.Frag) (G : Gd) (O : List Nat) (vs : List Nat) (g : MG) : TG := fun v σ H Q => ∃ A ms ρ d, RelS K G O A ms σ H ρ ∧ Rp K A H v d ∧ GPost K G O vs A ms σ H Q (g d ρ)
def tGs (K : PySem.W.Frag) (G : Gd) (O : List Nat) (vs : List Nat) (g : List D → En → R Unit) : TGs := fun us σ H Q => ∃ A ms ρ ds, RelS K G O A ms σ H ρ ∧ RpA K A H us ds ∧ GPost K G O vs A ms σ H Q (g ds ρ)
def DG (X : Cx) (G : Gd) (O : List Nat) (vs : List Nat) (tg : Expr) (g : MG) : Prop := PG X tg (tG X.K G O vs g)
def DGs (X : Cx) (G : Gd) (O : List Nat) (vs : List Nat) (ts : List Expr) (g : List D → En → R Unit) : Prop := PGs X ts (tGs X.K G O vs g)
theorem pg_imp {X : Cx} {e : Expr} {t t' : TG} (h : PG X e t) (w : ∀ v σ H Q, t' v σ H Q → t v σ H Q) : PG X e t' := ⟨fun pins s σ H v u Q I r q => h.run pins s σ H v u Q I r (w v σ H Q q)⟩
theorem pgs_imp {X : Cx} {e : List Expr} {t t' : TGs} (h : PGs X e t) (w : ∀ v σ H Q, t' v σ H Q → t v σ H Q) : PGs X e t' := ⟨fun pins s σ H v u Q I r q => h.run pins s σ H v u Q I r (w v σ H Q q)⟩
theorem GPost.from {K : PySem.W.Frag} {G : Gd} {O : List Nat} {vs : List Nat} {A : Addr → Prop} {ms : Nat → Option Addr} {σ σ1 : L2.St} {H H1 : Hp} {Q : L2.St → Hp → Prop} {r : R Unit} (e : SlEq vs σ σ1) (k : Kp O ms H H1) (h : GPost K G O vs A ms σ H Q r) : GPost K G O vs A ms σ1 H1 Q r := by
  cases r with
  | ok u ρ => exact fun σ' H' e' R k' => h σ' H' (e.trans e') R (k.trans k')
  | ex _ _ => exact h
  | bad => exact h
theorem RelS.put {K : PySem.W.Frag} {G : Gd} {O : List Nat} {A : Addr → Prop} {ms : Nat → Option Addr} {σ : L2.St} {H : Hp} {ρ : En} {i : Nat} {v : V} {d : D} (R : RelS K G O A ms σ H ρ) (hi : i ∉ O) (hlt : i < ρ.length) (r : Rp K A H v d) : RelS K G O A ms (σ.set i (some v)) H (ρ.set i (some d)) := by
  have ne : ∀ {j : Nat}, j ∈ O → j ≠ i := fun {j} m z => hi (z ▸ m)
  have g : ∀ {j : Nat} {z : D}, j ∈ O → (ρ.set i (some d))[j]? = some (some z) → ρ[j]? = some (some z) := fun {j z} m e => by rw [set_get_ne (ne m)] at e; exact e
  exact {
    sub := R.sub
    trk0 := R.trk0
    trk := R.trk
    keep := R.keep
    len := by rw [List.length_set, List.length_set]; exact R.len
    fz := fun j z e n => by
      by_cases h : j = i
      · subst h
        rw [List.getElem?_set_self hlt] at e
        cases e
        exact ⟨v, List.getElem?_set_self (by rw [R.len]; exact hlt), r⟩
      · rw [set_get_ne h] at e
        obtain ⟨w, e1, q⟩ := R.fz j z e n
        exact ⟨w, by rw [List.getElem?_set_ne (Ne.symm h)]; exact e1, q⟩
    ow := fun j z e m => by
      obtain ⟨p, e0, e1, q⟩ := R.ow j z (g m e) m
      exact ⟨p, e0, by rw [List.getElem?_set_ne (Ne.symm (ne m))]; exact e1, q⟩
    inA := R.inA
    ok := R.ok
    dist := R.dist
    px := fun j a c e => let ⟨m, q⟩ := R.px j a c e; ⟨m, by rw [List.getElem?_set_ne (Ne.symm (ne m))]; exact q⟩
    io := fun p e => by
      obtain ⟨h1, h2, h3, z, h4⟩ := R.io p e
      exact ⟨h1, h2, h3, z, by rw [set_get_ne (ne h1)]; exact h4⟩ }
def mgName (i : Nat) : MG := fun d ρ => if i < ρ.length then .ok () (ρ.set i (some d)) else .bad
def mgNil : List D → En → R Unit := fun ds ρ => match ds with
  | [] => .ok () ρ
  | _ => .bad
def mgCons (g : MG) (gs : List D → En → R Unit) : List D → En → R Unit := fun ds ρ => match ds with
  | d :: r => (g d ρ).bind fun _ ρ1 => gs r ρ1
  | [] => .bad
def mgTup (n : Nat) (gs : List D → En → R Unit) : MG := fun d ρ => match d with
  | .tup ds => if ds.length = n then gs ds ρ else .bad
  | _ => .bad
def mgLst (n : Nat) (gs : List D → En → R Unit) : MG := fun d ρ => match d with
  | .lst ds => if ds.length = n then gs ds ρ else .bad
  | _ => .bad
section
variable {X : Cx} {G : Gd} {O vs : List Nat} {W : WX} {x : Str} {pos : Pos} {e : Expr} {es : List Expr} {g : MG} {gs : List D → En → R Unit}
theorem dg_name {i : Nat} (hv : vs.contains i = true) (hO : O.contains i = false) (hN : X.N.Nodup) (hi : X.N[i]? = some x) (hx : Loc X.env.scope x) (hf : X.fn x = true ∨ X.env.scope.names.lookup x = some .local := by first | exact .inl rfl | exact .inr rfl | assumption) : DG X G O vs (.Name x pos) (mgName i) := by
  refine pg_imp (pg_name hN hi hx hf) fun v σ H Q ⟨A, ms, ρ, d, R, r, q⟩ => ?_
  unfold mgName at q
  split at q
  · rename_i hl
    exact q _ _ (SlEq.set (List.contains_iff_mem.mp hv)) (R.put (fun z => by rw [List.contains_iff_mem.mpr z] at hO; cases hO) hl r) Kp.refl
  · exact q.elim
theorem dgs_nil : DGs X G O vs [] mgNil := pgs_imp pgs_nil fun us σ H Q ⟨A, ms, ρ, ds, R, r, q⟩ => by
  cases r with
  | nil => exact ⟨rfl, q _ _ SlEq.refl R Kp.refl⟩
  | cons _ _ => exact q.elim
theorem dgs_cons (h1 : DG X G O vs e g) (h2 : DGs X G O vs es gs) (hs : (assignEach (e :: es) X.env).map (·.2) = assign e X.env :: (assignEach es X.env).map (·.2) := by rfl) : DGs X G O vs (e :: es) (mgCons g gs) := by
  refine pgs_imp (pgs_cons h1 h2 hs) fun us σ H Q ⟨A, ms, ρ, ds, R, r, q⟩ => ?_
  cases r with
  | nil => exact q.elim
  | @cons v vr d dr r1 r2 =>
    refine ⟨_, _, rfl, A, ms, ρ, d, R, r1, ?_⟩
    have q' : GPost X.K G O vs A ms σ H Q ((g d ρ).bind fun _ ρ1 => gs dr ρ1) := q
    cases hg : g d ρ with
    | bad => rw [hg] at q'; exact q'.elim
    | ex y ρ1 => rw [hg] at q'; exact q'.elim
    | ok u ρ1 =>
      rw [hg] at q'
      have q : GPost X.K G O vs A ms σ H Q (gs dr ρ1) := q'
      exact fun σ' H' e' R' k => ⟨A, ms, ρ1, dr, R', r2.tr (R.kt k), GPost.from e' k q⟩
theorem dg_tup {k n : Nat} (hc : X.calm = true) (h : DGs X G O vs es gs) (hn : (assignEach es X.env).length = n := by rfl) (hst : (assignEach es X.env).findIdx? (·.1) = none := by rfl) : DG X G O vs (.Tuple es k pos) (mgTup n gs) := by
  refine pg_imp (pg_tup hc h hn hst) fun v σ H Q ⟨A, ms, ρ, d, R, r, q⟩ => ?_
  unfold mgTup at q
  split at q
  · split at q
    · rename_i ds hl
      cases r with
      | tup h1 h2 => exact ⟨_, _, rfl, h1.sq, by rw [h2.length]; exact hl, A, ms, ρ, ds, R, h2, q⟩
    · exact q.elim
  · exact q.elim
theorem dg_lst {k n : Nat} (hc : X.calm = true) (h : DGs X G O vs es gs) (hn : (assignEach es X.env).length = n := by rfl) (hst : (assignEach es X.env).findIdx? (·.1) = none := by rfl) : DG X G O vs (.Tuple es k pos) (mgLst n gs) := by
  refine pg_imp (pg_lst hc h hn hst) fun v σ H Q ⟨A, ms, ρ, d, R, r, q⟩ => ?_
  unfold mgLst at q
  split at q
  · split at q
    · rename_i ds hl
      cases r with
      | lst h1 n1 h2 => exact ⟨_, _, rfl, SqL.of h1, by rw [h2.length]; exact hl, A, ms, ρ, ds, R, h2, q⟩
    · exact q.elim
  · exact q.elim
def gSet : D → D → D → Option D
  | .lst cs, .int k, d => (L2.ixN cs.length k).map fun n => .lst (cs.set n d)
  | _, _, _ => none
def mgSub (j : Nat) (mi : ME) : MG := fun d ρ => match getO ρ j with
  | some (.lst _) => (mi ρ).bind fun i ρ1 => match getO ρ1 j with
    | some c => match gSet c i d with
      | some c' => .ok () (ρ1.set j (some c'))
      | none => .bad
    | none => .bad
  | _ => .bad
abbrev W0 : WX := fun _ _ _ _ => False
theorem dg_sub {j : Nat} {i : Expr} {mi : ME} {y : Str} {py : Pos} (hj : O.contains j = true) (hy : PE X (.Name y py) (tVar j)) (hi : DE X G O W0 i mi)
    (ha : ∀ v, assign (.Subscript (.Name y py) i pos) X.env v = (do
      let ov ← holding [v] (eval (.Name y py) X.env)
      let iv ← holding [v, ov] (eval i X.env)
      standAt pos
      holding [v, ov, iv] (setItem ov iv v)
      release [v, ov, iv] []) := by intro _; rfl) : DG X G O vs (.Subscript (.Name y py) i pos) (mgSub j mi) := by
  refine pg_imp (pg_sub hy hi set_list ha) fun v σ H Q ⟨A, ms, ρ, d, R, r, q⟩ => ?_
  have hj' := List.contains_iff_mem.mp hj
  unfold mgSub at q
  split at q
  · rename_i c hc
    obtain ⟨p, hp, hv, _⟩ := R.ow j _ (getO_some hc) hj'
    refine ⟨_, hv, A, ms, ρ, R, ?_⟩
    cases hm : mi ρ with
    | bad => rw [hm] at q; exact q.elim
    | ex y ρ1 => rw [hm] at q; exact q.elim
    | ok iv ρ1 =>
      rw [hm] at q
      intro iV H1 R1 k1 r1
      have q1 : GPost X.K G O vs A ms σ H Q (match getO ρ1 j with
        | some c => match gSet c iv d with
          | some c' => .ok () (ρ1.set j (some c'))
          | none => .bad
        | none => .bad) := q
      split at q1
      · rename_i c1 hc1
        split at q1
        · rename_i c2 hset
          cases c1 with
          | lst cs =>
            cases iv with
            | int kk =>
              obtain ⟨n, hn, rfl⟩ := map_some (show (L2.ixN cs.length kk).map (fun n => D.lst (cs.set n d)) = some c2 from hset)
              have b1 := getO_some hc1
              obtain ⟨p', hp', _, oj⟩ := R1.ow j _ b1 hj'
              rw [hp] at hp'
              cases hp'
              have aj := R.inA j p hj' hp
              obtain ⟨ws, hw, rw1⟩ := own_lst oj
              cases r1
              refine ⟨_, ws, kk, n, rfl, rfl, hw, by rw [rw1.length]; exact hn, ?_⟩
              refine q1 σ _ SlEq.refl (R1.setOwn hj' b1 hp upd_out (.lst upd_same ((rw1.upd aj).set n ((r.tr (R.kt k1)).upd aj)))) (k1.trans (Kp.own hj' hp upd_out))
            | _ => cases hset
          | _ => cases hset
        · exact q1.elim
      · exact q1.elim
  · exact q.elim
end
end DL
namespace DL
open L2 PySem PySem.Spec PyProof.Rows

def NPx (G : Gd) (j : Nat) : Prop := ∀ i a c, G.px = some (i, a, c) → i ≠ j
theorem NPx.no {G : Gd} {j : Nat} (h : G.px = none) : NPx G j := fun i a c e => by rw [h] at e; cases e
def obind {α : Type} (r : R α) (f : α → En → Out) : Out := match r with
  | .ok a ρ => f a ρ
  | .ex x ρ => .ex x ρ
  | .bad => .bad
def msNil : MS := fun ρ => .nx ρ
def msSeq (a b : MS) : MS := fun ρ => match a ρ with
  | .nx ρ1 => b ρ1
  | o => o
def msExpr (m : ME) : MS := fun ρ => obind (m ρ) fun _ ρ1 => .nx ρ1
def msAsg (m : ME) (g : MG) : MS := fun ρ => obind (m ρ) fun d ρ1 => match g d ρ1 with
  | .ok _ ρ2 => .nx ρ2
  | _ => .bad
def msOwn (i : Nat) (m : ME) : MS := fun ρ => obind (m ρ) fun d ρ1 => if i < ρ1.length then .nx (ρ1.set i (some d)) else .bad
def msRet (m : ME) : MS := fun ρ => obind (m ρ) fun d ρ1 => .rt d ρ1
def msRetN : MS := fun ρ => .rt .non ρ
def msRetO (j : Nat) : MS := fun ρ => match getO ρ j with
  | some d => .rt d ρ
  | none => .bad
def msIf (c : MT) (a b : MS) : MS := fun ρ => obind (c ρ) fun k ρ1 => if k = true then a ρ1 else b ρ1
def msBrk : MS := fun ρ => .bk ρ
def msCnt : MS := fun ρ => .ct ρ
def loopL (g : MG) (mb : MS) : List D → En → Out
  | [], ρ => .nx ρ
  | d :: r, ρ => match g d ρ with
    | .ok _ ρ1 => match mb ρ1 with
      | .nx ρ2 => loopL g mb r ρ2
      | .ct ρ2 => loopL g mb r ρ2
      | .bk ρ2 => .nx ρ2
      | o => o
    | _ => .bad
def msFor (mi : En → R (List D)) (g : MG) (mb : MS) : MS := fun ρ => obind (mi ρ) fun ds ρ1 => loopL g mb ds ρ1
def loopW (c : MT) (mb : MS) : Nat → En → Out
  | 0, _ => .bad
  | n + 1, ρ => match c ρ with
    | .ok true ρ1 => match mb ρ1 with
      | .nx ρ2 => loopW c mb n ρ2
      | .ct ρ2 => loopW c mb n ρ2
      | .bk ρ2 => .nx ρ2
      | o => o
    | .ok false ρ1 => .nx ρ1
    | .ex x ρ1 => .ex x ρ1
    | .bad => .bad
def msWhile (n : Nat) (c : MT) (mb : MS) : MS := loopW c mb n

section
variable {X : Cx} {G : Gd} {XC : List Nat → Prop} {Ol O O' O1 : List Nat} {W : WX} {fr : Bool} {st : Stmt} {sts rest : List Stmt} {ma mb mc : MS} {e c : Expr} {me : ME} {pos : Pos}
theorem dss_nil : DSs X G XC Ol O O W fr [] msNil := pss_imp pss_nil fun D0 σ H ⟨A, ms, ρ, R, q⟩ => q σ H A ms R Tr.refl
theorem dss_cons (h1 : DS X G XC Ol O O1 W fr st ma) (h2 : DSs X G XC Ol O1 O' W fr rest mb) : DSs X G XC Ol O O' W fr (st :: rest) (msSeq ma mb) := by
  refine pss_imp (pss_cons h1 h2) fun D0 σ H ⟨A, ms, ρ, R, q⟩ => ?_
  refine ⟨A, ms, ρ, R, ?_⟩
  unfold msSeq at q
  cases hm : ma ρ with
  | nx ρ1 =>
    rw [hm] at q
    exact fun σ' H' A' ms' R' t => ⟨A', ms', ρ1, R', SPost.from t q⟩
  | rt d ρ1 => rw [hm] at q; exact q
  | bk ρ1 => rw [hm] at q; exact q
  | ct ρ1 => rw [hm] at q; exact q
  | ex x ρ1 => rw [hm] at q; exact q
  | bad => rw [hm] at q; exact q.elim
theorem dss_one (h1 : DS X G XC Ol O O' W fr st ma) : DSs X G XC Ol O O' W fr [st] ma := pss_imp (pss_one h1) fun _ _ _ h => h
theorem eb {K : PySem.W.Frag} {α β : Type} {A : Addr → Prop} {ms : Nat → Option Addr} {σ : L2.St} {H : Hp} {D0 : Ends} {r : R α} {f : α → En → Out} {rel : Hp → β → α → Prop} {Q : β → Hp → Prop} (hx : XC O) (h : SPost K G XC Ol O' W fr A H D0 (obind r f))
    (w : ∀ a ρ1 v H1, r = .ok a ρ1 → RelS K G O A ms σ H1 ρ1 → Kp O ms H H1 → rel H1 v a → SPost K G XC Ol O' W fr A H1 D0 (f a ρ1) → Q v H1) : RPost K G O W A ms σ H rel Q r := by
  cases r with
  | ok a ρ1 => exact fun v H1 R k q => w a ρ1 v H1 rfl R k q (SPost.from (R.kt k) h)
  | ex x ρ1 => exact fun dx H1 R k xr => h dx σ H1 A ms O hx R (R.kt k) xr
  | bad => exact h
theorem ds_expr (hx : XC O) (he : DE X G O W e me) (hs : swapsWith e none pos.line X.env = pure false := by rfl) : DS X G XC Ol O O W fr (.Expr e pos) (msExpr me) := by
  refine ps_imp (ps_expr he hs) fun D0 σ H ⟨A, ms, ρ, R, q⟩ => ⟨A, ms, ρ, R, eb hx q ?_⟩
  exact fun a ρ1 v H1 _ R1 k r q1 => q1 σ H1 A ms R1 Tr.refl
theorem ds_doc {x j pos pos'} : DS X G XC Ol O O W fr (.Expr (.Constant (.str x) j pos) pos') msNil := ps_imp ps_doc fun D0 σ H ⟨A, ms, ρ, R, q⟩ => q σ H A ms R Tr.refl
theorem ds_pass : DS X G XC Ol O O W fr (.Pass pos) msNil := ps_imp ps_pass fun D0 σ H ⟨A, ms, ρ, R, q⟩ => q σ H A ms R Tr.refl
theorem ds_brk : DS X G XC O O O' W fr (.Break pos) msBrk := ps_imp ps_break fun D0 σ H ⟨A, ms, ρ, R, q⟩ => q σ H A ms R Tr.refl
theorem ds_cnt : DS X G XC O O O' W fr (.Continue pos) msCnt := ps_imp ps_continue fun D0 σ H ⟨A, ms, ρ, R, q⟩ => q σ H A ms R Tr.refl
theorem ds_asg {tg : Expr} {g : MG} {vs : List Nat} (hx : XC O) (he : DE X G O W e me) (hg : DG X G O vs tg g) (hs : swapsWithSole [tg] e pos.line X.env = pure false := by rfl) (hw : swappedStores [tg] e X.env = pure none := by rfl) (h1 : (assignEach [tg] X.env).map (·.2) = [assign tg X.env] := by rfl) : DS X G XC Ol O O W fr (.Assign [tg] e pos) (msAsg me g) := by
  refine ps_imp (ps_asg he hg hs hw h1) fun D0 σ H ⟨A, ms, ρ, R, q⟩ => ⟨A, ms, ρ, R, eb hx q ?_⟩
  intro d ρ1 v H1 _ R1 k r q1
  refine ⟨A, ms, ρ1, d, R1, r, ?_⟩
  cases hg' : g d ρ1 with
  | ok u ρ2 =>
    rw [hg'] at q1
    exact fun σ' H' _ R' k' => q1 σ' H' A ms R' (R'.kt k')
  | ex y ρ2 => rw [hg'] at q1; exact q1.elim
  | bad => rw [hg'] at q1; exact q1.elim
theorem RelS.own {K : PySem.W.Frag} {A : Addr → Prop} {ms : Nat → Option Addr} {σ : L2.St} {H : Hp} {ρ : En} {i : Nat} {p : Addr} {d : D} (R : RelS K G O (fun a => A a ∨ a = p) ms σ H ρ) (hi : i ∈ O) (h0 : i ≠ 0 ∨ G.io = none) (hlt : i < ρ.length)
    (nm : ∀ j ∈ O, ms j ≠ some p) (hpx : NPx G i) (hp0 : G.H0 p = none) (ow : Own K (fun a => A a ∨ a = p) H p d) : RelS K G O (fun a => A a ∨ a = p) (fun j => if j = i then some p else ms j) (σ.set i (some (.ref p))) H (ρ.set i (some d)) := by
  have gne : ∀ {j : Nat} {z : D}, j ≠ i → (ρ.set i (some d))[j]? = some (some z) → ρ[j]? = some (some z) := fun {j z} n e => by rw [set_get_ne n] at e; exact e
  exact {
    sub := R.sub
    trk0 := R.trk0
    trk := R.trk
    keep := R.keep
    len := by rw [List.length_set, List.length_set]; exact R.len
    fz := fun j z e n => by
      have h : j ≠ i := fun q => n (q ▸ hi)
      obtain ⟨w, e1, q⟩ := R.fz j z (gne h e) n
      exact ⟨w, by rw [List.getElem?_set_ne (Ne.symm h)]; exact e1, q⟩
    ow := fun j z e m => by
      by_cases h : j = i
      · subst h
        rw [List.getElem?_set_self hlt] at e
        cases e
        exact ⟨p, if_pos rfl, List.getElem?_set_self (by rw [R.len]; exact hlt), ow⟩
      · obtain ⟨q, e0, e1, w⟩ := R.ow j z (gne h e) m
        exact ⟨q, (if_neg h).trans e0, by rw [List.getElem?_set_ne (Ne.symm h)]; exact e1, w⟩
    inA := fun j q m e => by
      by_cases h : j = i
      · rw [if_pos h] at e
        exact .inr (Option.some.inj e).symm
      · rw [if_neg h] at e
        exact R.inA j q m e
    ok := fun j q m e => by
      by_cases h : j = i
      · rw [if_pos h] at e
        cases e
        exact .inr ⟨h ▸ h0, hp0⟩
      · rw [if_neg h] at e
        exact R.ok j q m e
    dist := fun j j' q m m' e e' => by
      by_cases h : j = i
      · by_cases h' : j' = i
        · exact h.trans h'.symm
        · rw [if_pos h] at e
          rw [if_neg h'] at e'
          cases e
          exact absurd e' (nm j' m')
      · by_cases h' : j' = i
        · rw [if_neg h] at e
          rw [if_pos h'] at e'
          cases e'
          exact absurd e (nm j m)
        · rw [if_neg h] at e
          rw [if_neg h'] at e'
          exact R.dist j j' q m m' e e'
    px := fun j a c e => let ⟨m, q⟩ := R.px j a c e; ⟨m, by rw [List.getElem?_set_ne fun z => hpx j a c e z.symm]; exact q⟩
    io := fun q e => by
      obtain ⟨h1, h2, h3, z, h4⟩ := R.io q e
      have hi0 : (0 : Nat) ≠ i := fun w => by
        rcases h0 with k | k
        · exact k w.symm
        · rw [k] at e; cases e
      exact ⟨h1, h2, by rw [if_neg hi0]; exact h3, z, by rw [set_get_ne hi0]; exact h4⟩ }
theorem h0_none {K : PySem.W.Frag} {A : Addr → Prop} {ms : Nat → Option Addr} {σ : L2.St} {H : Hp} {ρ : En} {p : Addr} (R : RelS K G O A ms σ H ρ) (hp : H p = none) : G.H0 p = none := by
  cases e : G.H0 p with
  | none => rfl
  | some o =>
    by_cases q : G.io = some p
    · obtain ⟨_, h2, _⟩ := R.io p q
      obtain ⟨o', e'⟩ := R.trk p (R.sub p h2)
      rw [hp] at e'; cases e'
    · have := R.keep p o e q
      rw [hp] at this; cases this
theorem ds_own {i : Nat} {x : Str} {p : Pos} (hx : XC O) (he : DF X G O W e me) (hi : O.contains i = true) (h0 : i ≠ 0 ∨ G.io = none) (hN : X.N.Nodup) (hn : X.N[i]? = some x) (hl : Loc X.env.scope x)
    (hf : X.fn x = true ∨ X.env.scope.names.lookup x = some .local := by first | exact .inl rfl | exact .inr rfl | assumption)
    (hs : swapsWithSole [.Name x p] e pos.line X.env = pure false := by rfl) (hw : swappedStores [.Name x p] e X.env = pure none := by rfl) (hpx : NPx G i := by first | exact NPx.no rfl | assumption) : DS X G XC Ol O O W fr (.Assign [.Name x p] e pos) (msOwn i me) := by
  refine ps_imp (ps_asg he (pg_name hN hn hl hf) hs hw) fun D0 σ H ⟨A, ms, ρ, R, q⟩ => ⟨A, ms, ρ, R, ?_⟩
  unfold msOwn at q
  cases hm : me ρ with
  | bad => rw [hm] at q; exact q.elim
  | ex y ρ1 => rw [hm] at q; exact fun dx H1 R1 k xr => q dx σ H1 A ms O hx R1 (R1.kt k) xr
  | ok d ρ1 =>
    rw [hm] at q
    intro r H1 R1 R2 k hr ow
    have q' : SPost X.K G XC Ol O W fr A H D0 (if i < ρ1.length then .nx (ρ1.set i (some d)) else .bad) := q
    split at q'
    · rename_i hlt
      refine q' _ H1 _ _ (R2.own (List.contains_iff_mem.mp hi) h0 hlt (R.msne hr) hpx (h0_none R hr) ow) fun a o e n => ⟨(R1.kt k a o e n).1, fun z => z.elim n fun z => ?_⟩
      rw [z, hr] at e
      cases e
    · exact q'.elim
theorem ret_of {K : PySem.W.Frag} {A : Addr → Prop} {ms : Nat → Option Addr} {σ : L2.St} {H : Hp} {ρ : En} {v : V} {d : D} (R : RelS K G O A ms σ H ρ) (r : Rp K A H v d) : RetG K G false v H d (io0 ρ) := ⟨R.ki, r.less R.sub, fun p e => (R.ioOwn e).less R.sub⟩
theorem ds_ret (hx : XC O) (he : DE X G O W e me) : DS X G XC Ol O O' W false (.Return (some e) pos) (msRet me) := by
  refine ps_imp (ps_ret he) fun D0 σ H ⟨A, ms, ρ, R, q⟩ => ⟨A, ms, ρ, R, eb hx q ?_⟩
  exact fun d ρ1 v H1 _ R1 k r q1 => q1 v H1 (ret_of R1 r)
theorem ds_retN : DS X G XC Ol O O' W false (.Return none pos) msRetN := by
  refine ps_imp ps_retN fun D0 σ H ⟨A, ms, ρ, R, q⟩ => ?_
  exact q .non H (ret_of R .non)
theorem ds_retF (hx : XC O) (he : DF X G O W e me) : DS X G XC Ol O O' W true (.Return (some e) pos) (msRet me) := by
  refine ps_imp (ps_ret he) fun D0 σ H ⟨A, ms, ρ, R, q⟩ => ⟨A, ms, ρ, R, ?_⟩
  unfold msRet at q
  cases hm : me ρ with
  | bad => rw [hm] at q; exact q.elim
  | ex y ρ1 => rw [hm] at q; exact fun dx H1 R1 k xr => q dx σ H1 A ms O hx R1 (R1.kt k) xr
  | ok d ρ1 =>
    rw [hm] at q
    intro r H1 R1 R2 k hr ow
    have less : ∀ a, (G.A0 a ∨ a = r) → (A a ∨ a = r) := fun a z => z.imp (R.sub a) id
    exact q (.ref r) H1 ⟨R1.ki, r, rfl, h0_none R hr, ow.less less, fun p e => (R2.ioOwn e).less less⟩
theorem ds_retO {j : Nat} {x : Str} {p : Pos} (hj : O.contains j = true) (h0 : j ≠ 0 ∨ G.io = none) (hy : PE X (.Name x p) (tVar j)) : DS X G XC Ol O O' W true (.Return (some (.Name x p)) pos) (msRetO j) := by
  refine ps_imp (ps_ret hy) fun D0 σ H ⟨A, ms, ρ, R, q⟩ => ?_
  unfold msRetO at q
  cases hc : getO ρ j with
  | none => rw [hc] at q; exact q.elim
  | some d =>
    rw [hc] at q
    have hj' := List.contains_iff_mem.mp hj
    have b := getO_some hc
    obtain ⟨p, e0, e1, oj⟩ := R.ow j d b hj'
    have aj := R.inA j p hj' e0
    have hp0 : G.H0 p = none := by
      rcases R.ok j p hj' e0 with ⟨z, w⟩ | ⟨_, w⟩
      · rcases h0 with k | k
        · exact absurd z k
        · rw [k] at w; cases w
      · exact w
    have less : ∀ a, (G.A0 a ∨ a = p) → A a := fun a z => z.elim (R.sub a) fun z => z ▸ aj
    exact ⟨_, e1, q (.ref p) H ⟨R.ki, p, rfl, hp0, oj.less less, fun p e => (R.ioOwn e).less less⟩⟩
theorem ds_retOv {j : Nat} {x : Str} {p : Pos} (hj : O.contains j = true) (h0 : j ≠ 0 ∨ G.io = none) (hy : PE X (.Name x p) (tVar j)) : DS X G XC Ol O O' W false (.Return (some (.Name x p)) pos) (msRetO j) := by
  refine ps_imp (ps_ret hy) fun D0 σ H ⟨A, ms, ρ, R, q⟩ => ?_
  unfold msRetO at q
  cases hc : getO ρ j with
  | none => rw [hc] at q; exact q.elim
  | some d =>
    rw [hc] at q
    have hj' := List.contains_iff_mem.mp hj
    have b := getO_some hc
    obtain ⟨p, e0, e1, oj⟩ := R.ow j d b hj'
    have aj := R.inA j p hj' e0
    have hp0 : G.H0 p = none := by
      rcases R.ok j p hj' e0 with ⟨z, w⟩ | ⟨_, w⟩
      · rcases h0 with k | k
        · exact absurd z k
        · rw [k] at w; cases w
      · exact w
    have n0 : ¬ G.A0 p := fun z => by
      obtain ⟨o, w⟩ := R.trk0 _ z
      rw [hp0] at w; cases w
    exact ⟨_, e1, q (.ref p) H ⟨R.ki, oj.freeze R.sub n0, fun p e => (R.ioOwn e).less R.sub⟩⟩
theorem ds_if {mt : MT} {a b : List Stmt} (hx : XC O) (hc : DT X G O W c mt) (ha : DSs X G XC Ol O O' W fr a ma) (hb : DSs X G XC Ol O O' W fr b mb) : DS X G XC Ol O O' W fr (.If c a b pos) (msIf mt ma mb) := by
  refine ps_imp (ps_if hc ha hb) fun D0 σ H ⟨A, ms, ρ, R, q⟩ => ⟨A, ms, ρ, R, eb hx q ?_⟩
  intro k ρ1 v H1 _ R1 k1 r q1
  cases r
  cases k with
  | true => exact ⟨A, ms, ρ1, R1, q1⟩
  | false => exact ⟨A, ms, ρ1, R1, q1⟩
def msAug (i : Nat) (g : D → D → Option D) (m : ME) : MS := fun ρ => match getO ρ i with
  | some a => obind (m ρ) fun b ρ1 => match g a b with
    | some d => if i < ρ1.length then .nx (ρ1.set i (some d)) else .bad
    | none => .bad
  | none => .bad
theorem ds_aug {i : Nat} {x : Str} {op : Operator} {g : D → D → Option D} {pos' : Pos} (hx : XC O) (hi : O.contains i = false) (hN : X.N.Nodup) (hn : X.N[i]? = some x) (hl : Loc X.env.scope x) (he : DE X G O W e me) (ho : OpR X (inplaceOp op) (rD2 X.K g))
    (hf : X.fn x = true ∨ X.env.scope.names.lookup x = some .local := by first | exact .inl rfl | exact .inr rfl | assumption) : DS X G XC Ol O O W fr (.AugAssign (.Name x pos') op e pos) (msAug i g me) := by
  refine ps_imp (ps_aug hN hn hl he (ti := rD2 X.K g) ho hf) fun D0 σ H ⟨A, ms, ρ, R, q⟩ => ?_
  have ni : i ∉ O := fun z => by rw [List.contains_iff_mem.mpr z] at hi; cases hi
  unfold msAug at q
  cases hc : getO ρ i with
  | none => rw [hc] at q; exact q.elim
  | some a =>
    rw [hc] at q
    obtain ⟨v, e1, ra⟩ := R.fz i a (getO_some hc) ni
    refine ⟨v, e1, A, ms, ρ, R, eb hx q ?_⟩
    intro b ρ1 w H1 _ R1 k r q1
    cases hg : g a b with
    | none => simp only [hg] at q1; exact q1.elim
    | some d =>
      simp only [hg] at q1
      refine ⟨A, a, b, d, R1.trk, .of (ra.tr (R.kt k)), .of r, hg, fun z H2 s rz => ?_⟩
      split at q1
      · rename_i hlt
        exact q1 _ H2 A ms ((R1.same s).put ni hlt rz) (Tr.same s)
      · exact q1.elim

def ItOk (K : PySem.W.Frag) (A : Addr → Prop) (H : Hp) (J : It) (ds : List D) : Prop := ∀ A' H', Tr A A' H H' → Trk A' H' → (∀ i d, ds[i]? = some d → J.go i H' ∧ ∀ x H'', J.yld i H' x H'' → Same H' H'' ∧ Rp K A' H'' x d) ∧ J.stop ds.length H'
def tI (K : PySem.W.Frag) (G : Gd) (O : List Nat) (W : WX) (m : En → R (List D)) : TI := fun σ H Q => ∃ A ms ρ, RelS K G O A ms σ H ρ ∧ RPost K G O W A ms σ H (fun H' J ds => ItOk K A H' J ds) Q (m ρ)
def DI (X : Cx) (G : Gd) (O : List Nat) (W : WX) (tg e : Expr) (m : En → R (List D)) : Prop := PI X tg e (tI X.K G O W m)
theorem pi_imp {tg e : Expr} {t t' : TI} (h : PI X tg e t) (w : ∀ σ H Q, t' σ H Q → t σ H Q) : PI X tg e t' := ⟨fun pins s σ H R I q => h.run pins s σ H R I (w σ H R q)⟩
theorem ItOk.tr {K : PySem.W.Frag} {A A1 : Addr → Prop} {H H1 : Hp} {J : It} {ds : List D} (h : ItOk K A H J ds) (t : Tr A A1 H H1) : ItOk K A1 H1 J ds := fun A' H' t' => h A' H' (t.trans t')
theorem ds_for {tg iter : Expr} {vs : List Nat} {body : List Stmt} {mi : En → R (List D)} {g : MG} (hx : XC O) (hp : PassesOwn (model X.prog X.w) X.A X.env X.xe) (hc : X.calm = true) (hi : DI X G O W tg iter mi) (hg : DG X G O vs tg g) (hb : DSs X G XC O O O W fr body mb)
    (hs : ∀ x, foldedSetIterable iter X.env x = pure x := by intro _; rfl) : DS X G XC Ol O O W fr (.For tg iter body [] pos) (msFor mi g mb) := by
  refine ps_imp (ps_for hp hc hi hg hb hs) fun D0 σ H ⟨A, ms, ρ, R, q⟩ => ⟨A, ms, ρ, R, eb hx q ?_⟩
  intro ds ρ1 J H1 _ R1 k1 itok q1
  refine ⟨fun i m σ' H' => i ≤ ds.length ∧ m = ds.length - i ∧ ∃ A' ms' ρ', RelS X.K G O A' ms' σ' H' ρ' ∧ Tr A A' H1 H' ∧ SPost X.K G XC Ol O W fr A' H' D0 (loopL g mb (ds.drop i) ρ'),
    ⟨ds.length, Nat.zero_le _, rfl, A, ms, ρ1, R1, Tr.refl, q1⟩, ?_⟩
  rintro i m σ2 H2 ⟨hi, rfl, A2, ms2, ρ2, R2, t2, q2⟩
  obtain ⟨goes, stops⟩ := itok A2 H2 t2 R2.trk
  by_cases hlt : i < ds.length
  · have hd : ds[i]? = some ds[i] := List.getElem?_eq_getElem hlt
    obtain ⟨go, yl⟩ := goes i _ hd
    have e : ds.drop i = ds[i] :: ds.drop (i + 1) := List.drop_eq_getElem_cons hlt
    rw [e] at q2
    refine .inr ⟨go, fun σ' H' => i + 1 ≤ ds.length ∧ ∃ A' ms' ρ', RelS X.K G O A' ms' σ' H' ρ' ∧ Tr A A' H1 H' ∧ SPost X.K G XC Ol O W fr A' H' D0 (loopL g mb (ds.drop (i + 1)) ρ'), fun σ' H' ⟨w1, w2⟩ => ⟨ds.length - (i + 1), by omega, w1, rfl, w2⟩, fun x H3 hy => ?_⟩
    obtain ⟨s3, rx⟩ := yl x H3 hy
    refine ⟨A2, ms2, ρ2, ds[i], R2.same s3, rx, ?_⟩
    have q3 : SPost X.K G XC Ol O W fr A2 H3 D0 (match g ds[i] ρ2 with
      | .ok _ ρ1 => match mb ρ1 with
        | .nx ρ2 => loopL g mb (ds.drop (i + 1)) ρ2
        | .ct ρ2 => loopL g mb (ds.drop (i + 1)) ρ2
        | .bk ρ2 => .nx ρ2
        | o => o
      | _ => .bad) := SPost.from (Tr.same s3) q2
    have t3 : Tr A A2 H1 H3 := t2.trans (Tr.same s3)
    cases hgd : g ds[i] ρ2 with
    | bad => rw [hgd] at q3; exact q3.elim
    | ex y ρ3 => rw [hgd] at q3; exact q3.elim
    | ok u ρ3 =>
      rw [hgd] at q3
      intro σ4 H4 _ R4 k4
      refine ⟨A2, ms2, ρ3, R4, ?_⟩
      have t4 : Tr A A2 H1 H4 := t3.trans (R4.kt k4)
      have q4 := SPost.from (R4.kt k4) q3
      cases hm : mb ρ3 with
      | nx ρ5 =>
        simp only [hm] at q4
        exact fun σ' H' A' ms' R' t => ⟨hlt, A', ms', ρ5, R', t4.trans t, SPost.from t q4⟩
      | ct ρ5 =>
        simp only [hm] at q4
        exact fun σ' H' A' ms' R' t => ⟨hlt, A', ms', ρ5, R', t4.trans t, SPost.from t q4⟩
      | bk ρ5 =>
        simp only [hm] at q4
        exact fun σ' H' A' ms' R' t => q4 σ' H' A' ms' R' t
      | rt d ρ5 => simp only [hm] at q4; exact q4
      | ex y ρ5 => simp only [hm] at q4; exact q4
      | bad => simp only [hm] at q4; exact q4.elim
  · have e : i = ds.length := by omega
    subst e
    refine .inl ⟨stops, ?_⟩
    have q3 : SPost X.K G XC Ol O W fr A2 H2 D0 (loopL g mb (ds.drop ds.length) ρ2) := q2
    rw [List.drop_length] at q3
    exact q3 σ2 H2 A2 ms2 R2 Tr.refl
theorem ds_while {mt : MT} {body : List Stmt} (n : Nat) (hx : XC O) (hp : PassesOwn (model X.prog X.w) X.A X.env X.xe) (hc : DT X G O W c mt) (hb : DSs X G XC O O O W fr body mb) : DS X G XC Ol O O W fr (.While c body [] pos) (msWhile n mt mb) := by
  refine ps_imp (ps_while hp hc hb) fun D0 σ H ⟨A, ms, ρ, R, q⟩ => ?_
  refine ⟨fun m σ' H' => ∃ A' ms' ρ', RelS X.K G O A' ms' σ' H' ρ' ∧ SPost X.K G XC Ol O W fr A' H' D0 (loopW mt mb m ρ'), ⟨n, A, ms, ρ, R, q⟩, ?_⟩
  rintro m σ1 H1 ⟨A1, ms1, ρ1, R1, q1⟩
  cases m with
  | zero => exact q1.elim
  | succ m =>
    refine ⟨A1, ms1, ρ1, R1, ?_⟩
    have q2 : SPost X.K G XC Ol O W fr A1 H1 D0 (match mt ρ1 with
      | .ok true ρ1 => match mb ρ1 with
        | .nx ρ2 => loopW mt mb m ρ2
        | .ct ρ2 => loopW mt mb m ρ2
        | .bk ρ2 => .nx ρ2
        | o => o
      | .ok false ρ1 => .nx ρ1
      | .ex x ρ1 => .ex x ρ1
      | .bad => .bad) := q1
    cases hm : mt ρ1 with
    | bad => rw [hm] at q2; exact q2.elim
    | ex y ρ2 => rw [hm] at q2; exact fun dx H' R' k xr => q2 dx σ1 H' A1 ms1 O hx R' (R'.kt k) xr
    | ok b ρ2 =>
      rw [hm] at q2
      intro v H2 R2 k2 rv
      cases rv
      have q3 := SPost.from (R2.kt k2) q2
      cases b with
      | false => exact q3 σ1 H2 A1 ms1 R2 Tr.refl
      | true =>
        rw [if_pos rfl]
        refine ⟨fun σ' H' => ∃ A' ms' ρ', RelS X.K G O A' ms' σ' H' ρ' ∧ SPost X.K G XC Ol O W fr A' H' D0 (loopW mt mb m ρ'), fun σ' H' w => ⟨m, Nat.lt_succ_self _, w⟩, A1, ms1, ρ2, R2, ?_⟩
        cases hb' : mb ρ2 with
        | nx ρ5 =>
          simp only [hb'] at q3
          exact fun σ' H' A' ms' R' t => ⟨A', ms', ρ5, R', SPost.from t q3⟩
        | ct ρ5 =>
          simp only [hb'] at q3
          exact fun σ' H' A' ms' R' t => ⟨A', ms', ρ5, R', SPost.from t q3⟩
        | bk ρ5 =>
          simp only [hb'] at q3
          exact fun σ' H' A' ms' R' t => q3 σ' H' A' ms' R' t
        | rt d ρ5 => simp only [hb'] at q3; exact q3
        | ex y ρ5 => simp only [hb'] at q3; exact q3
        | bad => simp only [hb'] at q3; exact q3.elim

theorem RelS.freezeSlot {K : PySem.W.Frag} {A : Addr → Prop} {ms : Nat → Option Addr} {σ : L2.St} {H : Hp} {ρ : En} {j : Nat} (R : RelS K G O A ms σ H ρ) (hpx : NPx G j) (h0 : j ≠ 0 ∨ G.io = none) (hO : ∀ i, i ∈ O1 ↔ i ∈ O ∧ i ≠ j) :
    ∃ A', RelS K G O1 A' ms σ H ρ ∧ Tr A A' H H := by
  have io1 : ∀ p, G.io = some p → 0 ∈ O1 ∧ G.A0 p ∧ ms 0 = some p ∧ ∃ d, ρ[0]? = some (some d) := fun p e => by
    obtain ⟨h1, h2, h3, z, h4⟩ := R.io p e
    refine ⟨(hO 0).mpr ⟨h1, fun w => ?_⟩, h2, h3, z, h4⟩
    rcases h0 with k | k
    · exact k w.symm
    · rw [k] at e; cases e
  by_cases hb : j ∈ O ∧ ∃ d, ρ[j]? = some (some d)
  · obtain ⟨hj, d, hd⟩ := hb
    obtain ⟨p, e0, e1, oj⟩ := R.ow j d hd hj
    have hp0 : G.H0 p = none := by
      rcases R.ok j p hj e0 with ⟨z, w⟩ | ⟨_, w⟩
      · rcases h0 with k | k
        · exact absurd z k
        · rw [k] at w; cases w
      · exact w
    have less : ∀ a, (A a ∧ a ≠ p) → A a := fun a z => z.1
    refine ⟨fun a => A a ∧ a ≠ p, ?_, fun a o e n => ⟨e, fun z => n z.1⟩⟩
    exact {
      sub := fun a z => ⟨R.sub a z, fun q => by
        obtain ⟨o, w⟩ := R.trk0 _ z
        rw [q, hp0] at w; cases w⟩
      trk0 := R.trk0
      trk := fun a z => R.trk a z.1
      keep := R.keep
      len := R.len
      fz := fun i z e n => by
        by_cases h : i = j
        · subst h
          rw [hd] at e
          cases e
          exact ⟨_, e1, oj.freeze less fun z => z.2 rfl⟩
        · obtain ⟨v, e2, q⟩ := R.fz i z e fun m => n ((hO i).mpr ⟨m, h⟩)
          exact ⟨v, e2, q.less less⟩
      ow := fun i z e m => by
        obtain ⟨q, w0, w1, w2⟩ := R.ow i z e ((hO i).mp m).1
        exact ⟨q, w0, w1, w2.less less⟩
      inA := fun i q m e => ⟨R.inA i q ((hO i).mp m).1 e, fun z => ((hO i).mp m).2 (R.dist i j p ((hO i).mp m).1 hj (z ▸ e) e0)⟩
      ok := fun i q m e => R.ok i q ((hO i).mp m).1 e
      dist := fun i i' q m m' e e' => R.dist i i' q ((hO i).mp m).1 ((hO i').mp m').1 e e'
      px := fun i a c e => let ⟨m, q⟩ := R.px i a c e; ⟨(hO i).mpr ⟨m, hpx i a c e⟩, q⟩
      io := io1 }
  · refine ⟨A, ?_, Tr.refl⟩
    exact {
      sub := R.sub
      trk0 := R.trk0
      trk := R.trk
      keep := R.keep
      len := R.len
      fz := fun i z e n => by
        by_cases h : i = j
        · subst h
          by_cases m : i ∈ O
          · exact absurd ⟨m, z, e⟩ hb
          · exact R.fz i z e m
        · exact R.fz i z e fun m => n ((hO i).mpr ⟨m, h⟩)
      ow := fun i z e m => R.ow i z e ((hO i).mp m).1
      inA := fun i q m e => R.inA i q ((hO i).mp m).1 e
      ok := fun i q m e => R.ok i q ((hO i).mp m).1 e
      dist := fun i i' q m m' e e' => R.dist i i' q ((hO i).mp m).1 ((hO i').mp m').1 e e'
      px := fun i a c e => let ⟨m, q⟩ := R.px i a c e; ⟨(hO i).mpr ⟨m, hpx i a c e⟩, q⟩
      io := io1 }
theorem dss_freeze (j : Nat) (h0 : j ≠ 0 ∨ G.io = none) (h : DSs X G XC Ol (O.filter (· != j)) O' W fr sts ma) (hpx : NPx G j := by first | exact NPx.no rfl | assumption) : DSs X G XC Ol O O' W fr sts ma := by
  refine pss_imp h fun D0 σ H ⟨A, ms, ρ, R, q⟩ => ?_
  obtain ⟨A', R', t⟩ := R.freezeSlot (O1 := O.filter (· != j)) hpx h0 fun i => by simp [List.mem_filter]
  exact ⟨A', ms, ρ, R', SPost.from t q⟩
theorem RelS.forget {K : PySem.W.Frag} {A : Addr → Prop} {ms : Nat → Option Addr} {σ : L2.St} {H : Hp} {ρ : En} {j : Nat} (R : RelS K G O A ms σ H ρ) (hpx : NPx G j) (h0 : j ≠ 0 ∨ G.io = none) (hO : ∀ i, i ≠ j → (i ∈ O1 ↔ i ∈ O)) :
    RelS K G O1 A (fun i => if i = j then none else ms i) σ H (ρ.set j none) := by
  have ne : ∀ {i : Nat} {z : D}, (ρ.set j none)[i]? = some (some z) → i ≠ j := fun {i z} e h => by
    subst h
    by_cases hl : i < ρ.length
    · rw [List.getElem?_set_self hl] at e; cases e
    · rw [List.getElem?_eq_none (by rw [List.length_set]; omega)] at e; cases e
  have g : ∀ {i : Nat} {z : D}, (ρ.set j none)[i]? = some (some z) → ρ[i]? = some (some z) := fun {i z} e => by
    have e' := e
    rw [set_get_ne (ne e)] at e'
    exact e'
  have sm : ∀ {i : Nat} {p : Addr}, (if i = j then none else ms i) = some p → i ≠ j ∧ ms i = some p := fun {i p} e => by
    by_cases h : i = j
    · rw [if_pos h] at e; cases e
    · rw [if_neg h] at e; exact ⟨h, e⟩
  exact {
    sub := R.sub
    trk0 := R.trk0
    trk := R.trk
    keep := R.keep
    len := by rw [List.length_set]; exact R.len
    fz := fun i z e n => R.fz i z (g e) fun m => n ((hO i (ne e)).mpr m)
    ow := fun i z e m => by
      obtain ⟨p, e0, e1, w⟩ := R.ow i z (g e) ((hO i (ne e)).mp m)
      exact ⟨p, (if_neg (ne e)).trans e0, e1, w⟩
    inA := fun i p m e => R.inA i p ((hO i (sm e).1).mp m) (sm e).2
    ok := fun i p m e => R.ok i p ((hO i (sm e).1).mp m) (sm e).2
    dist := fun i i' p m m' e e' => R.dist i i' p ((hO i (sm e).1).mp m) ((hO i' (sm e').1).mp m') (sm e).2 (sm e').2
    px := fun i a c e => let ⟨m, q⟩ := R.px i a c e; ⟨(hO i (hpx i a c e)).mpr m, q⟩
    io := fun p e => by
      obtain ⟨h1, h2, h3, z, h4⟩ := R.io p e
      have n0 : (0 : Nat) ≠ j := fun w => by
        rcases h0 with k | k
        · exact k w.symm
        · rw [k] at e; cases e
      exact ⟨(hO 0 n0).mpr h1, h2, (if_neg n0).trans h3, z, by rw [set_get_ne n0]; exact h4⟩ }
def msForget (j : Nat) (m : MS) : MS := fun ρ => m (ρ.set j none)
theorem dss_forgetO (j : Nat) (h0 : j ≠ 0 ∨ G.io = none) (h : DSs X G XC Ol (j :: O) O' W fr sts ma) (hpx : NPx G j := by first | exact NPx.no rfl | assumption) : DSs X G XC Ol O O' W fr sts (msForget j ma) := by
  refine pss_imp h fun D0 σ H ⟨A, ms, ρ, R, q⟩ => ?_
  exact ⟨A, _, _, R.forget hpx h0 fun i hi => by simp [hi], q⟩
end
end DL
namespace DL
open L2 PySem PySem.Spec PyProof.Rows

def chars (s : Str) : List D := s.cps.toList.map fun c => .str ⟨#[c]⟩
def gIter : D → Option (List D)
  | .lst l => some l
  | .scr l => some l
  | .tup l => some l
  | .str s => some (chars s)
  | _ => none
def mIter (m : ME) : En → R (List D) := fun ρ => (m ρ).bind fun d ρ1 => ret (gIter d) ρ1
def rangeL (lo : Int) (n : Nat) : List D := (List.range n).map fun i => .int (lo + (i : Nat))
def okR (i : Int) : Bool := decide (-(2 ^ 62) ≤ i) && decide (i < 2 ^ 62)
def gRange1 : List D → Option (List D)
  | [.int j] => if okR j = true then some (rangeL 0 j.toNat) else none
  | _ => none
def gRange2 : List D → Option (List D)
  | [.int i, .int j] => if okR i = true ∧ okR j = true then some (rangeL i (j - i).toNat) else none
  | _ => none
def mItN (g : List D → Option (List D)) (args : MA) : En → R (List D) := fun ρ => (args ρ).bind fun ds ρ1 => ret (g ds) ρ1
def enumL (l : List D) : List D := l.zipIdx.map fun p => .tup [.int (p.2 : Nat), p.1]
def gEnum : List D → Option (List D)
  | [.lst l] => some (enumL l)
  | _ => none
def gZip : List D → Option (List D)
  | [.lst l, .lst r] => some ((l.zip r).map fun p => .tup [p.1, p.2])
  | _ => none
section
variable {X : Cx} {G : Gd} {O : List Nat} {W : WX} {a b e : Expr} {es : List Expr} {me : ME} {mr : MA} {tg : Expr} {p pos tpos : Pos} {elts : List Expr} {kk : Nat}
theorem pi_or {t1 t2 : TI} (h1 : PI X tg e t1) (h2 : PI X tg e t2) : PI X tg e (fun σ H Q => t1 σ H Q ∨ t2 σ H Q) := ⟨fun pins s σ H Q I q => q.elim (h1.run pins s σ H Q I) (h2.run pins s σ H Q I)⟩
theorem sql_at {K : PySem.W.Frag} {A A' : Addr → Prop} {H H' : Hp} {a : Addr} {xs : List V} (h : SqLA K A H a xs) (t : Tr A A' H H') : SqL K H' a xs := (h.tr t).sq
theorem itok_list {K : PySem.W.Frag} {A : Addr → Prop} {H : Hp} {a : Addr} {xs : List V} {ds : List D} (h : SqLA K A H a xs) (r : RpA K A H xs ds) : ItOk K A H (Itl K a) ds := by
  intro A' H' t tk
  have h' := sql_at h t
  have hl := r.length
  refine ⟨fun i d e => ?_, ⟨xs, h', Nat.le_of_eq hl⟩⟩
  obtain ⟨v, e1, rv⟩ := r.get e
  refine ⟨⟨xs, v, h', e1⟩, fun x H'' ⟨eq, y⟩ => ?_⟩
  subst eq
  have := y xs h'
  rw [e1] at this
  cases this
  exact ⟨Same.refl _, rv.tr t⟩
theorem itok_tup {K : PySem.W.Frag} {A : Addr → Prop} {H : Hp} {a : Addr} {xs : List V} {ds : List D} (h : SqTA K A H a xs) (r : RpA K A H xs ds) : ItOk K A H (Itt K a) ds := by
  intro A' H' t tk
  have h' := (h.tr t).sq
  have hl := r.length
  refine ⟨fun i d e => ?_, ⟨xs, h', Nat.le_of_eq hl⟩⟩
  obtain ⟨v, e1, rv⟩ := r.get e
  refine ⟨⟨xs, v, h', e1⟩, fun x H'' ⟨eq, y⟩ => ?_⟩
  subst eq
  have := y xs h'
  rw [e1] at this
  cases this
  exact ⟨Same.refl _, rv.tr t⟩
theorem itok_str {K : PySem.W.Frag} {A : Addr → Prop} {H : Hp} (s : Str) : ItOk K A H (Its s) (chars s) := by
  intro A' H' t tk
  have hl : (chars s).length = s.cps.size := by unfold chars; rw [List.length_map, Array.length_toList]
  refine ⟨fun i d e => ?_, by show s.cps.size ≤ (chars s).length; omega⟩
  have hi := (List.getElem?_eq_some_iff.mp e).1
  refine ⟨by show i < s.cps.size; omega, fun x H'' ⟨eq, c, hc, hx⟩ => ?_⟩
  subst eq hx
  refine ⟨Same.refl _, ?_⟩
  unfold chars at e
  rw [List.getElem?_map, Array.getElem?_toList, hc] at e
  cases e
  exact .str _
theorem itok_rng {K : PySem.W.Frag} {A : Addr → Prop} {H : Hp} (lo : Int) (n : Nat) : ItOk K A H (Itr lo n) (rangeL lo n) := by
  intro A' H' t tk
  have hl : (rangeL lo n).length = n := by unfold rangeL; rw [List.length_map, List.length_range]
  refine ⟨fun i d e => ?_, by show n ≤ (rangeL lo n).length; omega⟩
  have hi := (List.getElem?_eq_some_iff.mp e).1
  refine ⟨by show i < n; omega, fun x H'' ⟨eq, hx⟩ => ?_⟩
  subst eq hx
  refine ⟨Same.refl _, ?_⟩
  unfold rangeL at e
  rw [List.getElem?_map, List.getElem?_range (by omega)] at e
  cases e
  exact .int _
theorem di_seq (he : DE X G O W e me) : DI X G O W tg e (mIter me) := by
  refine pi_imp (pi_or (pi_list he) (pi_or (pi_tup he) (pi_str he))) fun σ H Q ⟨A, ms, ρ, R, q⟩ => ?_
  unfold mIter at q
  cases hm : me ρ with
  | bad => rw [hm] at q; exact q.elim
  | ex x ρ1 =>
    rw [hm] at q
    exact .inl ⟨A, ms, ρ, R, by rw [hm]; exact q⟩
  | ok d ρ1 =>
    rw [hm] at q
    cases d with
    | lst l =>
      refine .inl ⟨A, ms, ρ, R, ?_⟩
      rw [hm]
      intro v H1 R1 k1 r1
      cases r1 with
      | lst h1 n1 rr => exact ⟨_, rfl, ⟨_, SqL.of h1⟩, q _ H1 R1 k1 (itok_list (.inl ⟨.inl h1, n1⟩) rr)⟩
    | scr l =>
      refine .inl ⟨A, ms, ρ, R, ?_⟩
      rw [hm]
      intro v H1 R1 k1 r1
      cases r1 with
      | scr h1 rr => exact ⟨_, rfl, ⟨_, h1.sq⟩, q _ H1 R1 k1 (itok_list h1 rr)⟩
    | tup l =>
      refine .inr (.inl ⟨A, ms, ρ, R, ?_⟩)
      rw [hm]
      intro v H1 R1 k1 r1
      cases r1 with
      | tup h1 rr => exact ⟨_, rfl, ⟨_, h1.sq⟩, q _ H1 R1 k1 (itok_tup h1 rr)⟩
    | str z =>
      refine .inr (.inr ⟨A, ms, ρ, R, ?_⟩)
      rw [hm]
      intro v H1 R1 k1 r1
      cases r1
      exact ⟨_, rfl, q _ H1 R1 k1 (itok_str z)⟩
    | _ => exact q.elim
theorem okR_ok {i : Int} (h : okR i = true) : -(2 ^ 62) ≤ i ∧ i < 2 ^ 62 := by
  unfold okR at h
  rw [Bool.and_eq_true] at h
  exact ⟨of_decide_eq_true h.1, of_decide_eq_true h.2⟩
theorem ite_l {α : Type} {c : Prop} [Decidable c] {x d : α} (h : (if c then some x else none) = some d) : c ∧ x = d := by
  by_cases q : c
  · rw [if_pos q] at h
    exact ⟨q, Option.some.inj h⟩
  · rw [if_neg q] at h
    cases h
theorem itn_go {t : TA} {g : List D → Option (List D)} {K : PySem.W.Frag} (ht : ∀ σ H Q, tA K G O W mr σ H Q → t σ H Q) {σ : L2.St} {H : Hp} {Q : It → Hp → Prop} {P : List V → Hp → Prop} (h : tI K G O W (mItN g mr) σ H Q)
    (w : ∀ A vs ds l H1, Trk A H1 → RpA K A H1 vs ds → g ds = some l → (∀ J, ItOk K A H1 J l → Q J H1) → P vs H1) : t σ H P := by
  obtain ⟨A, ms, ρ, R, q⟩ := h
  refine ht _ _ _ ⟨A, ms, ρ, R, q.bind.mono ?_⟩
  rintro vs H1 ⟨ds, ρ1, R1, k1, r1, q1⟩
  obtain ⟨l, hl, q2⟩ := rp_of (rel := fun H' J ds => ItOk K A H' J ds) R1 q1
  exact w A vs ds l H1 R1.trk r1 hl fun J it => q2 J H1 (Same.refl _) it
theorem di_range1 (hg : Gl X "range") (hm : X.mg "range" = none) (ha : DA X G O W [a] mr) (hs : starEach [a] X.env = [(false, eval a X.env)] := by rfl) : DI X G O W tg (.Call (.Name "range" p) [a] [] pos) (mItN gRange1 mr) := by
  refine pi_imp (pi_range1 hg hm ha hs) fun σ H Q h => itn_go (fun _ _ _ z => z) h fun A vs ds l H1 tk r hl q => ?_
  unfold gRange1 at hl
  split at hl
  · obtain ⟨hj, rfl⟩ := ite_l hl
    cases r with
    | cons r r' =>
      cases r'
      cases r
      exact ⟨_, rfl, (okR_ok hj).1, (okR_ok hj).2, q _ (itok_rng _ _)⟩
  · cases hl
theorem di_range2 (hg : Gl X "range") (hm : X.mg "range" = none) (ha : DA X G O W [a, b] mr) (hs : starEach [a, b] X.env = [(false, eval a X.env), (false, eval b X.env)] := by rfl) (hs2 : starEach [b] X.env = [(false, eval b X.env)] := by rfl) : DI X G O W tg (.Call (.Name "range" p) [a, b] [] pos) (mItN gRange2 mr) := by
  refine pi_imp (pi_range2 hg hm ha hs hs2) fun σ H Q h => itn_go (fun _ _ _ z => z) h fun A vs ds l H1 tk r hl q => ?_
  unfold gRange2 at hl
  split at hl
  · obtain ⟨hj, rfl⟩ := ite_l hl
    cases r with
    | cons r r' =>
      cases r' with
      | cons s s' =>
        cases s'
        cases r
        cases s
        exact ⟨_, _, rfl, ⟨(okR_ok hj.1).1, (okR_ok hj.1).2, (okR_ok hj.2).1, (okR_ok hj.2).2⟩, q _ (itok_rng _ _)⟩
  · cases hl
theorem di_enum (hg : Gl X "enumerate") (hm : X.mg "enumerate" = none) (ha : DA X G O W [e] mr) (hs : starEach [e] X.env = [(false, eval e X.env)] := by rfl) : DI X G O W (.Tuple elts kk tpos) (.Call (.Name "enumerate" p) [e] [] pos) (mItN gEnum mr) := by
  refine pi_imp (pi_enum hg hm ha hs) fun σ H Q h => itn_go (fun _ _ _ z => z) h fun A vs ds l H1 tk r hl q => ?_
  unfold gEnum at hl
  split at hl
  · rename_i zs
    cases hl
    cases r with
    | cons r r' =>
      cases r'
      cases r with
      | lst h1 n1 rr =>
        rename_i a xs
        refine ⟨a, xs, rfl, SqL.of h1, q _ fun A' H' t tk' => ?_⟩
        have sq : SqL X.K H' a xs := SqL.of (t _ _ h1 n1).1
        have hlen := rr.length
        have el : (enumL zs).length = zs.length := by unfold enumL; rw [List.length_map, List.length_zipIdx]
        refine ⟨fun i d e => ?_, ⟨xs, sq, by omega⟩⟩
        have hi := (List.getElem?_eq_some_iff.mp e).1
        rw [el] at hi
        have e2 : d = .tup [.int (i : Nat), zs[i]] := by
          unfold enumL at e
          rw [List.getElem?_map, List.getElem?_zipIdx, List.getElem?_eq_getElem hi] at e
          have := Option.some.inj e
          rw [← this]
          simp
        obtain ⟨v, ev, rv⟩ := rr.get (List.getElem?_eq_getElem hi)
        refine ⟨⟨xs, v, sq, ev⟩, ?_⟩
        rintro x H'' ⟨T, y, rfl, hT, rfl, hy⟩
        have := hy xs sq
        rw [ev] at this
        cases this
        rw [e2]
        exact ⟨same_upd hT, new_tup tk' (.cons (.int _) (.cons (rv.tr t) .nil)) hT⟩
  · cases hl
theorem di_zip {e2 : Expr} (hg : Gl X "zip") (hm : X.mg "zip" = none) (ha : DA X G O W [e, e2] mr) (hs : starEach [e, e2] X.env = (false, eval e X.env) :: starEach [e2] X.env := by rfl) (hpl : (backTo pos (starEach [e2] X.env)).any (·.1) = false := by rfl) :
    DI X G O W (.Tuple elts kk tpos) (.Call (.Name "zip" p) [e, e2] [] pos) (mItN gZip mr) := by
  refine pi_imp (pi_zip hg hm ha hs hpl) fun σ H Q h => itn_go (fun _ _ _ z => z) h fun A vs ds l H1 tk r hl q => ?_
  unfold gZip at hl
  split at hl
  · rename_i zs ws
    cases hl
    cases r with
    | cons r r' =>
      cases r' with
      | cons s s' =>
        cases s'
        cases r with
        | lst h1 n1 rr =>
          cases s with
          | lst h2 n2 ss =>
            rename_i a xs b ys
            refine ⟨a, b, xs, ys, rfl, SqL.of h1, SqL.of h2, q _ fun A' H' t tk' => ?_⟩
            have sx : SqL X.K H' a xs := SqL.of (t _ _ h1 n1).1
            have sy : SqL X.K H' b ys := SqL.of (t _ _ h2 n2).1
            have l1 := rr.length
            have l2 := ss.length
            refine ⟨fun i d e => ?_, ⟨xs, ys, sx, sy, by rw [List.length_map, List.length_zip]; omega⟩⟩
            have hi := (List.getElem?_eq_some_iff.mp e).1
            rw [List.length_map, List.length_zip] at hi
            have i1 : i < zs.length := by omega
            have i2 : i < ws.length := by omega
            have e2 : d = .tup [zs[i], ws[i]] := by
              rw [List.getElem?_map, List.getElem?_eq_getElem (by rw [List.length_zip]; omega), List.getElem_zip] at e
              have := Option.some.inj e
              rw [← this]
            obtain ⟨v, ev, rv⟩ := rr.get (List.getElem?_eq_getElem i1)
            obtain ⟨u, eu, ru⟩ := ss.get (List.getElem?_eq_getElem i2)
            refine ⟨⟨xs, ys, v, u, sx, sy, ev, eu⟩, ?_⟩
            rintro x H'' ⟨T, y, z, rfl, hT, rfl, hy, hz⟩
            have q1 := hy xs sx
            have q2 := hz ys sy
            rw [ev] at q1
            rw [eu] at q2
            cases q1
            cases q2
            rw [e2]
            exact ⟨same_upd hT, new_tup tk' (.cons (rv.tr t) (.cons (ru.tr t) .nil)) hT⟩
  · cases hl

def wipeE (ρ : En) : List Nat → En
  | [] => ρ
  | v :: vs => (wipeE ρ vs).set v none
def restE (ρ0 : En) : List Nat → En → En
  | [], ρ => ρ
  | v :: vs, ρ => (restE ρ0 vs ρ).set v (match ρ0[v]? with
    | some o => o
    | none => none)
def lcLoop (vs : List Nat) (g : MG) (mt : MT) (me : ME) : List D → En → R (List D)
  | [], ρ => .ok [] ρ
  | d :: r, ρ => match g d (wipeE ρ vs) with
    | .ok _ ρ1 => match mt ρ1 with
      | .ok true ρ2 => match me ρ2 with
        | .ok y ρ3 => match lcLoop vs g mt me r ρ3 with
          | .ok ys ρ4 => .ok (y :: ys) ρ4
          | _ => .bad
        | _ => .bad
      | .ok false ρ2 => lcLoop vs g mt me r ρ2
      | _ => .bad
    | _ => .bad
def mLc (vs : List Nat) (mi : En → R (List D)) (g : MG) (mt : MT) (me : ME) : ME := fun ρ => (mi ρ).bind fun ds ρ1 => match lcLoop vs g mt me ds ρ1 with
  | .ok ys ρ2 => if ys.length ≤ sizeLine then .ok (.lst ys) (restE ρ1 vs ρ2) else .bad
  | _ => .bad
def mYes : MT := fun ρ => .ok true ρ
theorem RelS.unset {K : PySem.W.Frag} {A : Addr → Prop} {ms : Nat → Option Addr} {σ : L2.St} {H : Hp} {ρ : En} {i : Nat} (R : RelS K G O A ms σ H ρ) (hi : i ∉ O) : RelS K G O A ms (σ.set i none) H (ρ.set i none) := by
  have ne : ∀ {j : Nat}, j ∈ O → j ≠ i := fun {j} m z => hi (z ▸ m)
  have g : ∀ {j : Nat} {z : D}, j ∈ O → (ρ.set i none)[j]? = some (some z) → ρ[j]? = some (some z) := fun {j z} m e => by rw [set_get_ne (ne m)] at e; exact e
  exact {
    sub := R.sub
    trk0 := R.trk0
    trk := R.trk
    keep := R.keep
    len := by rw [List.length_set, List.length_set]; exact R.len
    fz := fun j z e n => by
      by_cases h : j = i
      · subst h
        by_cases hl : j < ρ.length
        · rw [List.getElem?_set_self hl] at e; cases e
        · rw [List.getElem?_eq_none (by rw [List.length_set]; omega)] at e; cases e
      · rw [set_get_ne h] at e
        obtain ⟨w, e1, q⟩ := R.fz j z e n
        exact ⟨w, by rw [List.getElem?_set_ne (Ne.symm h)]; exact e1, q⟩
    ow := fun j z e m => by
      obtain ⟨p, e0, e1, q⟩ := R.ow j z (g m e) m
      exact ⟨p, e0, by rw [List.getElem?_set_ne (Ne.symm (ne m))]; exact e1, q⟩
    inA := R.inA
    ok := R.ok
    dist := R.dist
    px := fun j a c e => let ⟨m, q⟩ := R.px j a c e; ⟨m, by rw [List.getElem?_set_ne (Ne.symm (ne m))]; exact q⟩
    io := fun p e => by
      obtain ⟨h1, h2, h3, z, h4⟩ := R.io p e
      exact ⟨h1, h2, h3, z, by rw [set_get_ne (ne h1)]; exact h4⟩ }
theorem RelS.wipe {K : PySem.W.Frag} {A : Addr → Prop} {ms : Nat → Option Addr} {σ : L2.St} {H : Hp} {ρ : En} (R : RelS K G O A ms σ H ρ) : ∀ vs : List Nat, (∀ i ∈ vs, i ∉ O) → RelS K G O A ms (L2.wipe σ vs) H (wipeE ρ vs)
  | [], _ => R
  | v :: vs, h => (RelS.wipe R vs fun i m => h i (List.mem_cons_of_mem _ m)).unset (h v List.mem_cons_self)
theorem restE_len (ρ0 ρ : En) : ∀ vs, (restE ρ0 vs ρ).length = ρ.length
  | [] => rfl
  | v :: vs => by unfold restE; rw [List.length_set, restE_len ρ0 ρ vs]
theorem restE_out {ρ0 ρ : En} {i : Nat} : ∀ {vs : List Nat}, i ∉ vs → (restE ρ0 vs ρ)[i]? = ρ[i]?
  | [], _ => rfl
  | v :: vs, h => by
    unfold restE
    rw [set_get_ne fun e => h (by rw [e]; exact List.mem_cons_self)]
    exact restE_out fun m => h (List.mem_cons_of_mem _ m)
theorem restE_in {ρ0 ρ : En} (hl : ρ.length = ρ0.length) {i : Nat} : ∀ {vs : List Nat}, i ∈ vs → (restE ρ0 vs ρ)[i]? = ρ0[i]?
  | v :: vs, h => by
    unfold restE
    by_cases e : i = v
    · subst e
      by_cases hi : i < ρ0.length
      · rw [List.getElem?_set_self (by rw [restE_len, hl]; exact hi), List.getElem?_eq_getElem hi]
      · rw [List.getElem?_eq_none (by rw [List.length_set, restE_len, hl]; omega), List.getElem?_eq_none (by omega)]
    · rw [set_get_ne e]
      exact restE_in hl ((List.mem_cons.mp h).resolve_left e)
theorem wipe_get {σ : L2.St} {i : Nat} : ∀ {vs : List Nat}, i ∉ vs → (L2.wipe σ vs)[i]? = σ[i]?
  | [], _ => rfl
  | v :: vs, h => by
    show ((L2.wipe σ vs).set v none)[i]? = _
    rw [List.getElem?_set_ne fun e => h (by rw [← e]; exact List.mem_cons_self)]
    exact wipe_get fun m => h (List.mem_cons_of_mem _ m)
theorem wipe_at {σ : L2.St} {i : Nat} : ∀ {vs : List Nat}, i ∈ vs → i < σ.length → (L2.wipe σ vs)[i]? = some none
  | v :: vs, h, hl => by
    show ((L2.wipe σ vs).set v none)[i]? = _
    by_cases e : i = v
    · subst e
      exact List.getElem?_set_self (by rw [L2.wipe_length]; exact hl)
    · rw [List.getElem?_set_ne fun q => e q.symm]
      exact wipe_at ((List.mem_cons.mp h).resolve_left e) hl
theorem wipe_eq {σ σ2 : L2.St} {vs : List Nat} (h : SlEq vs (L2.wipe σ vs) σ2) : L2.wipe σ2 vs = L2.wipe σ vs := by
  apply List.ext_getElem?
  intro i
  have hl : σ2.length = σ.length := by rw [h.1, L2.wipe_length]
  by_cases m : i ∈ vs
  · by_cases hi : i < σ.length
    · rw [wipe_at m (by rw [hl]; exact hi), wipe_at m hi]
    · rw [List.getElem?_eq_none (by rw [L2.wipe_length, hl]; omega), List.getElem?_eq_none (by rw [L2.wipe_length]; omega)]
  · rw [wipe_get m, h.2 i m]
theorem RelS.rest {K : PySem.W.Frag} {A A' : Addr → Prop} {ms : Nat → Option Addr} {σ : L2.St} {H1 H : Hp} {ρ0 ρ : En} {vs : List Nat} (hv : ∀ i ∈ vs, i ∉ O) (R0 : RelS K G O A' ms σ H1 ρ0) (t : Tr A' A H1 H) (R : RelS K G O A ms (L2.wipe σ vs) H (wipeE ρ vs)) (hl : ρ.length = ρ0.length) :
    RelS K G O A ms σ H (restE ρ0 vs ρ) := by
  have wE : ∀ {i : Nat}, i ∉ vs → (wipeE ρ vs)[i]? = ρ[i]? := fun {i} => by
    induction vs with
    | nil => exact fun _ => rfl
    | cons v vs ih =>
      intro h
      show ((wipeE ρ vs).set v none)[i]? = _
      rw [set_get_ne fun e => h (by rw [e]; exact List.mem_cons_self)]
      have : ∀ vs : List Nat, i ∉ vs → (wipeE ρ vs)[i]? = ρ[i]? := fun vs => by
        induction vs with
        | nil => exact fun _ => rfl
        | cons v vs ih2 =>
          intro h
          show ((wipeE ρ vs).set v none)[i]? = _
          rw [set_get_ne fun e => h (by rw [e]; exact List.mem_cons_self)]
          exact ih2 fun m => h (List.mem_cons_of_mem _ m)
      exact this vs fun m => h (List.mem_cons_of_mem _ m)
  have g : ∀ {i : Nat}, i ∈ O → (restE ρ0 vs ρ)[i]? = (wipeE ρ vs)[i]? := fun {i} m => by
    have nv : i ∉ vs := fun z => hv i z m
    rw [restE_out nv, wE nv]
  exact {
    sub := R.sub
    trk0 := R.trk0
    trk := R.trk
    keep := R.keep
    len := by rw [restE_len, hl]; exact R0.len
    fz := fun i d e n => by
      by_cases m : i ∈ vs
      · rw [restE_in hl m] at e
        obtain ⟨v, e1, q⟩ := R0.fz i d e n
        exact ⟨v, e1, q.tr t⟩
      · rw [restE_out m, ← wE m] at e
        obtain ⟨v, e1, q⟩ := R.fz i d e n
        rw [wipe_get m] at e1
        exact ⟨v, e1, q⟩
    ow := fun i d e m => by
      rw [g m] at e
      obtain ⟨p, e0, e1, q⟩ := R.ow i d e m
      rw [wipe_get fun z => hv i z m] at e1
      exact ⟨p, e0, e1, q⟩
    inA := R.inA
    ok := R.ok
    dist := R.dist
    px := R0.px
    io := fun p e => by
      obtain ⟨h1, h2, h3, z, h4⟩ := R.io p e
      exact ⟨h1, h2, h3, z, by rw [g h1]; exact h4⟩ }
end
end DL
namespace DL
open L2 PySem PySem.Spec PyProof.Rows
section
variable {X : Cx} {G : Gd} {O : List Nat} {W : WX}
theorem wipeE_out {ρ : En} {i : Nat} : ∀ {vs : List Nat}, i ∉ vs → (wipeE ρ vs)[i]? = ρ[i]?
  | [], _ => rfl
  | v :: vs, h => by
    show ((wipeE ρ vs).set v none)[i]? = _
    rw [set_get_ne fun e => h (by rw [e]; exact List.mem_cons_self)]
    exact wipeE_out fun m => h (List.mem_cons_of_mem _ m)
theorem wipeE_len (ρ : En) : ∀ vs, (wipeE ρ vs).length = ρ.length
  | [] => rfl
  | v :: vs => by
    show ((wipeE ρ vs).set v none).length = _
    rw [List.length_set, wipeE_len ρ vs]
theorem RelS.rewipe {K : PySem.W.Frag} {A : Addr → Prop} {ms : Nat → Option Addr} {σ σ2 : L2.St} {H : Hp} {ρ : En} {vs : List Nat} (hv : ∀ i ∈ vs, i ∉ O) (e : SlEq vs (L2.wipe σ vs) σ2) (R : RelS K G O A ms σ2 H ρ) : RelS K G O A ms (L2.wipe σ vs) H (wipeE ρ vs) := by
  rw [← wipe_eq e]
  exact R.wipe vs hv
theorem lc_goes {K : PySem.W.Frag} {A : Addr → Prop} {ms : Nat → Option Addr} {σ : L2.St} {H1 : Hp} {ρ1 ρf : En} {vs : List Nat} {g : MG} {mt : MT} {me : ME} {tt : TT} {J : It} {ds ys : List D} {Q : VK} (hv : ∀ i ∈ vs, i ∉ O)
    (htt : ∀ σ H Q, tT K G O W0 mt σ H Q → tt σ H Q) (R1 : RelS K G O A ms σ H1 ρ1) (it : ItOk K A H1 J ds) (hl : lcLoop vs g mt me ds ρ1 = .ok ys ρf) (hz : ys.length ≤ sizeLine)
    (q : ∀ p H', RelS K G O A ms σ H' (restE ρ1 vs ρf) → RelS K G O (fun a => A a ∨ a = p) ms σ H' (restE ρ1 vs ρf) → Kp O ms H1 H' → H1 p = none → Own K (fun a => A a ∨ a = p) H' p (.lst ys) → Q (.ref p) H') :
    ∀ L, H1 L = none → ∃ Wv : Nat → Nat → Hp → Prop, (∃ m, Wv 0 m (upd H1 L (.lst []))) ∧ ∀ i m H, Wv i m H →
      (J.stop i H ∧ Q (.ref L) H) ∨ (J.go i H ∧ ∃ Nx : Hp → Prop, (∀ H', Nx H' → ∃ m', m' < m ∧ Wv (i + 1) m' H') ∧ ∀ x H', J.yld i H x H' → tG K G O vs g x (L2.wipe σ vs) H' fun σ2 H2 => L2.wipe σ2 vs = L2.wipe σ vs ∧ tt σ2 H2 fun b H3 =>
        if b = true then tE K G O W0 me σ2 H3 fun y H4 => ∃ acc, H4 L = some (.lst acc) ∧ acc.length < sizeLine ∧ Nx (upd H4 L (.lst (acc ++ [y]))) else Nx H3) := by
  intro L hL
  have s0 : Same H1 (upd H1 L (.lst [])) := same_upd hL
  have t0 : Tr A (fun a => A a ∨ a = L) H1 (upd H1 L (.lst [])) := fun a u e n => ⟨s0 _ _ e, fun z => z.elim n fun z => by rw [z, hL] at e; cases e⟩
  have R2 : RelS K G O (fun a => A a ∨ a = L) ms σ (upd H1 L (.lst [])) ρ1 := R1.grow hL s0 upd_same
  have nL : ∀ i ∈ O, ms i ≠ some L := R1.msne hL
  refine ⟨fun i m H => i ≤ ds.length ∧ m = ds.length - i ∧ (∃ ρi acc y0 rest, RelS K G O (fun a => A a ∨ a = L) ms (L2.wipe σ vs) H (wipeE ρi vs) ∧ (∀ a o, (upd H1 L (.lst [])) a = some o → a ≠ L → (∀ i ∈ O, ms i ≠ some a) → H a = some o) ∧ H L = some (.lst acc) ∧ RpA K (fun a => A a ∨ a = L) H acc y0 ∧
    lcLoop vs g mt me (ds.drop i) ρi = .ok rest ρf ∧ ys = y0 ++ rest ∧ ρi.length = ρ1.length), ⟨ds.length, Nat.zero_le _, rfl, ρ1, [], [], ys, R2.wipe vs hv, fun _ _ e _ _ => e, upd_same, .nil, hl, rfl, rfl⟩, ?_⟩
  rintro i m H ⟨hi, rfl, ρi, acc, y0, rest, R, k, hacc, racc, hrest, hys, hlen⟩
  have kA : Tr A (fun a => A a ∨ a = L) H1 H := fun a u e n => by
    have nl : a ≠ L := fun z => by rw [z, hL] at e; cases e
    exact ⟨k a u (s0 _ _ e) nl fun i m z => n (R1.inA i a m z), fun z => z.elim n nl⟩
  obtain ⟨goes, stops⟩ := it _ H kA R.trk
  by_cases hlt : i < ds.length
  · have hd : ds[i]? = some ds[i] := List.getElem?_eq_getElem hlt
    obtain ⟨go, yl⟩ := goes i _ hd
    have e : ds.drop i = ds[i] :: ds.drop (i + 1) := List.drop_eq_getElem_cons hlt
    rw [e] at hrest
    refine .inr ⟨go, fun H' => (∃ ρi acc y0 rest, RelS K G O (fun a => A a ∨ a = L) ms (L2.wipe σ vs) H' (wipeE ρi vs) ∧ (∀ a o, (upd H1 L (.lst [])) a = some o → a ≠ L → (∀ i ∈ O, ms i ≠ some a) → H' a = some o) ∧ H' L = some (.lst acc) ∧ RpA K (fun a => A a ∨ a = L) H' acc y0 ∧
      lcLoop vs g mt me (ds.drop (i + 1)) ρi = .ok rest ρf ∧ ys = y0 ++ rest ∧ ρi.length = ρ1.length), fun H' w => ⟨ds.length - (i + 1), by omega, hlt, rfl, w⟩, fun x H3 hy => ?_⟩
    obtain ⟨s3, rx⟩ := yl x H3 hy
    have R3 := R.same s3
    refine ⟨_, ms, wipeE ρi vs, ds[i], R3, rx, ?_⟩
    unfold lcLoop at hrest
    cases hg : g ds[i] (wipeE ρi vs) with
    | bad => rw [hg] at hrest; cases hrest
    | ex y ρ2 => rw [hg] at hrest; cases hrest
    | ok u ρ2 =>
      rw [hg] at hrest
      intro σ4 H4 e4 R4 k4
      refine ⟨wipe_eq e4, htt _ _ _ ⟨_, ms, ρ2, R4, ?_⟩⟩
      cases hmt : mt ρ2 with
      | bad => simp only [hmt] at hrest; cases hrest
      | ex y ρ3 => simp only [hmt] at hrest; cases hrest
      | ok b ρ3 =>
        simp only [hmt] at hrest
        intro b' H5 R5 k5 hb
        cases hb
        have len5 : ρ3.length = ρ1.length := by rw [← R5.len, e4.1, L2.wipe_length, R1.len]
        have k5' : ∀ a o, (upd H1 L (.lst [])) a = some o → a ≠ L → (∀ i ∈ O, ms i ≠ some a) → H5 a = some o := fun a o h1 h2 h3 => k5 a o (k4 a o (s3 _ _ (k a o h1 h2 h3)) h3) h3
        have acc5 : H5 L = some (.lst acc) := k5 _ _ (k4 _ _ (s3 _ _ hacc) nL) nL
        have tr5 : Tr (fun a => A a ∨ a = L) (fun a => A a ∨ a = L) H H5 := ((Tr.same s3).trans (R.kt k4)).trans (R.kt k5)
        cases b with
        | false =>
          rw [if_neg Bool.false_ne_true]
          exact ⟨ρ3, acc, y0, rest, R5.rewipe hv e4, k5', acc5, racc.tr tr5, hrest, hys, len5⟩
        | true =>
          rw [if_pos rfl]
          refine ⟨_, ms, ρ3, R5, ?_⟩
          cases hme : me ρ3 with
          | bad => simp only [hme] at hrest; cases hrest
          | ex y ρ4 => simp only [hme] at hrest; cases hrest
          | ok y ρ4 =>
            simp only [hme] at hrest
            cases hr : lcLoop vs g mt me (ds.drop (i + 1)) ρ4 with
            | bad => simp only [hr] at hrest; cases hrest
            | ex z ρ5 => simp only [hr] at hrest; cases hrest
            | ok ys' ρ5 =>
              simp only [hr] at hrest
              cases hrest
              intro w H6 R6 k6 rw6
              have acc6 : H6 L = some (.lst acc) := k6 _ _ acc5 nL
              have al : (fun a => A a ∨ a = L) L := .inr rfl
              have lenacc : acc.length < sizeLine := by
                have := racc.length
                rw [hys, List.length_append, List.length_cons] at hz
                omega
              refine ⟨acc, acc6, lenacc, ρ4, acc ++ [w], y0 ++ [y], ys', ?_, ?_, upd_same, ?_, hr, by rw [hys]; simp, by rw [← R6.len, e4.1, L2.wipe_length, R1.len]⟩
              · -- the new list grew: no slot's own
                have R7 := R6.rewipe hv e4
                have tr7 : Tr (fun a => A a ∨ a = L) (fun a => A a ∨ a = L) H6 (upd H6 L (.lst (acc ++ [w]))) := fun a o e n => ⟨upd_out a o e fun z => n (.inr z), n⟩
                exact {
                  sub := R7.sub
                  trk0 := R7.trk0
                  trk := fun a z => by
                    by_cases h : a = L
                    · rw [h]; exact ⟨_, upd_same⟩
                    · obtain ⟨o, e⟩ := R7.trk a z
                      exact ⟨o, upd_out a o e h⟩
                  keep := fun a o e n => by
                    have := R7.keep a o e n
                    refine upd_out a o this fun z => ?_
                    have h0 := R1.keep a o e n
                    rw [z, hL] at h0
                    cases h0
                  len := R7.len
                  fz := fun j d e n => let ⟨v, e1, q⟩ := R7.fz j d e n; ⟨v, e1, q.tr tr7⟩
                  ow := fun j d e n => let ⟨p, e0, e1, q⟩ := R7.ow j d e n; ⟨p, e0, e1, q.tr tr7 fun o z => upd_out _ _ z fun h => nL j n (h ▸ e0)⟩
                  inA := R7.inA
                  ok := R7.ok
                  dist := R7.dist
                  px := R7.px
                  io := R7.io }
              · exact fun a o h1 h2 h3 => upd_out a o (k6 a o (k5' a o h1 h2 h3) h3) h2
              · exact ((racc.tr (tr5.trans (R5.kt k6))).upd al).app (.cons (rw6.upd al) .nil)
  · have e : i = ds.length := by omega
    subst e
    rw [List.drop_length] at hrest
    cases hrest
    rw [List.append_nil] at hys
    subst hys
    refine .inl ⟨stops, ?_⟩
    have Rf : RelS K G O (fun a => A a ∨ a = L) ms σ H (restE ρ1 vs ρf) := RelS.rest hv R1 kA R hlen
    have kf : Kp O ms H1 H := fun a o e n => k a o (s0 _ _ e) (fun z => by rw [z, hL] at e; cases e) n
    exact q L H (Rf.less (fun a z => .inl z) R1.sub fun j p m z => R1.inA j p m z) Rf kf hL (.lst hacc racc)
abbrev ownS (own : List (Str × Nat)) : List Nat := own.map (·.2)
theorem lc_go {K : PySem.W.Frag} {own : List (Str × Nat)} {mi : En → R (List D)} {g : MG} {mt : MT} {me : ME} {tt : TT} (hv : (ownS own).all (fun i => !O.contains i) = true) (htt : ∀ σ H Q, tT K G O W0 mt σ H Q → tt σ H Q) {σ : L2.St} {H : Hp} {Q : VK} (h : tF K G O W (mLc (ownS own) mi g mt me) σ H Q) :
    tLc (tI K G O W mi) (tG K G O (ownS own) g) tt (tE K G O W0 me) (own.map (·.2)) σ H Q := by
  have hv' : ∀ i ∈ ownS own, i ∉ O := fun i m z => by
    have := List.all_eq_true.mp hv i m
    rw [List.contains_iff_mem.mpr z] at this
    cases this
  obtain ⟨A, ms, ρ, R, q⟩ := h
  refine ⟨A, ms, ρ, R, ?_⟩
  unfold mLc at q
  cases hm : mi ρ with
  | bad => rw [hm] at q; exact q.elim
  | ex x ρ1 => rw [hm] at q; exact q
  | ok ds ρ1 =>
    rw [hm] at q
    intro J H1 R1 k1 itok
    have q1 : FPost K G O W A ms σ H Q (match lcLoop (ownS own) g mt me ds ρ1 with
      | .ok ys ρ2 => if ys.length ≤ sizeLine then .ok (.lst ys) (restE ρ1 (ownS own) ρ2) else .bad
      | _ => .bad) := q
    cases hl : lcLoop (ownS own) g mt me ds ρ1 with
    | bad => rw [hl] at q1; exact q1.elim
    | ex x ρ2 => rw [hl] at q1; exact q1.elim
    | ok ys ρ2 =>
      rw [hl] at q1
      have q2 : FPost K G O W A ms σ H Q (if ys.length ≤ sizeLine then .ok (.lst ys) (restE ρ1 (ownS own) ρ2) else .bad) := q1
      split at q2
      · rename_i hz
        exact lc_goes hv' htt R1 itok hl hz fun p H' r1 r2 k hp ow => q2 p H' r1 r2 (k1.trans k) (Kp.none R1 k1 hp) ow
      · exact q2.elim
theorem df_lc {elt tg iter : Expr} {ifs : List Expr} {scope : Scope} {own : List (Str × Nat)} {pos : Pos} {mi : En → R (List D)} {g : MG} {mt : MT} {me : ME} {tt : TT} (hc : X.calm = true) (hN : X.N.Nodup) (hv : (ownS own).all (fun i => !O.contains i) = true)
    (hi : DI X G O W tg iter mi) (ok : BlkOk X.N X.env.scope scope own)
    (hg : ∀ (s : Shared) (H : Hp) (C : Addr) (cl : List (Str × Addr)) (fp : List Addr), DG (X.blk s H scope (compEnvC scope cl C X.env) fp) G O (ownS own) tg g)
    (ht : ∀ (s : Shared) (H : Hp) (C : Addr) (cl : List (Str × Addr)) (fp : List Addr), PTs (X.blk s H scope (compEnvC scope cl C X.env) fp) ifs tt) (htt : ∀ σ H Q, tT X.K G O W0 mt σ H Q → tt σ H Q)
    (he : ∀ (s : Shared) (H : Hp) (C : Addr) (cl : List (Str × Addr)) (fp : List Addr), DE (X.blk s H scope (compEnvC scope cl C X.env) fp) G O W0 elt me) (hs : ∀ x, foldedSetIterable iter X.env x = pure x := by intro _; rfl) :
    DF X G O W (.ListComp elt [⟨tg, iter, ifs, 0⟩] scope pos) (mLc (ownS own) mi g mt me) :=
  pe_imp (pe_lc (te := tE X.K G O W0 me) (tt := tt) (g := tG X.K G O (ownS own) g) hc hN hi ok hg ht he hs) fun _ _ _ h => lc_go hv htt h
theorem tYes_go {K : PySem.W.Frag} : ∀ σ H Q, tT K G O W0 mYes σ H Q → tYes σ H Q := fun σ H Q ⟨A, ms, ρ, R, q⟩ => q true H R Kp.refl rfl
end
end DL
namespace DL
open L2 PySem PySem.Spec PyProof.Rows

inductive Bx where
  | ex (m : ME)
  | ow (j : Nat)
def evB : Bx → ME
  | .ex m => m
  | .ow j => fun ρ => match getO ρ j with
    | some d => .ok d ρ
    | none => .bad
def rdB (b : Bx) (d : D) (ρ : En) : Option D := match b with
  | .ex _ => some d
  | .ow j => getO ρ j
def m1B (g : D → Option D) (b : Bx) : ME := fun ρ => (evB b ρ).bind fun x ρ1 => ret (g x) ρ1
def m2B (g : D → D → Option D) (a b : Bx) : ME := fun ρ => (evB a ρ).bind fun x ρ1 => (evB b ρ1).bind fun y ρ2 => ret ((rdB a x ρ2).bind fun x' => g x' y) ρ2
def DB (X : Cx) (G : Gd) (O : List Nat) (W : WX) (e : Expr) (b : Bx) : Prop := match b with
  | .ex m => DE X G O W e m
  | .ow j => O.contains j = true ∧ PE X e (tVar j)
section
variable {X : Cx} {G : Gd} {O : List Nat} {W : WX} {a b c e : Expr} {es : List Expr} {ma mb mc : ME} {ba bb : Bx} {mr : MA} {pos p : Pos} {x : Str}
theorem db_e (h : DE X G O W e ma) : DB X G O W e (.ex ma) := h
theorem db_o {j : Nat} (hj : O.contains j = true) (hy : PE X e (tVar j)) : DB X G O W e (.ow j) := ⟨hj, hy⟩
def tBx (K : PySem.W.Frag) (G : Gd) (O : List Nat) (W : WX) : Bx → TE
  | .ex m => tE K G O W m
  | .ow j => tVar j
theorem DB.pe (h : DB X G O W e ba) : PE X e (tBx X.K G O W ba) := by
  cases ba with
  | ex m => exact h
  | ow j => exact h.2
theorem own_at {K : PySem.W.Frag} {A : Addr → Prop} {ms : Nat → Option Addr} {σ : L2.St} {H : Hp} {ρ : En} {j : Nat} {d : D} (R : RelS K G O A ms σ H ρ) (hj : O.contains j = true) (h : getO ρ j = some d) : ∃ p, ms j = some p ∧ σ[j]? = some (some (.ref p)) ∧ Own K A H p d := R.ow j d (getO_some h) (List.contains_iff_mem.mp hj)
theorem own_b {K : PySem.W.Frag} {A : Addr → Prop} {H : Hp} {q : Addr} {l : List D} (h : Own K A H q (.lst l)) : RpB K A H (.ref q) (.lst l) := by
  cases h with
  | lst e r => exact .own e r
def LstOf (d : D) : Prop := ∀ c fs, d ≠ .obj c fs
theorem op2B_go {r : R2} {g : D → D → Option D} {K : PySem.W.Frag} (hA : ∀ j, ba = .ow j → O.contains j = true) (hB : ∀ j, bb = .ow j → O.contains j = true) (hl : ∀ c fs z, g (.obj c fs) z = none) (hr' : ∀ c fs z, g z (.obj c fs) = none)
    (hr : ∀ x y H Q, rD2 K g x y H Q → r x y H Q) {σ : L2.St} {H : Hp} {Q : VK} (h : tE K G O W (m2B g ba bb) σ H Q) : tOp r (tBx K G O W ba) (tBx K G O W bb) σ H Q := by
  obtain ⟨A, ms, ρ, R, q⟩ := h
  -- the second operand and the operation, the first one lying as x at the end
  have snd : ∀ (x : V) (d0 : D) (ρ1 : En) (H1 : Hp), RelS K G O A ms σ H1 ρ1 → Kp O ms H H1 →
      (∀ ρ2 H2 d', RelS K G O A ms σ H2 ρ2 → Kp O ms H1 H2 → rdB ba d0 ρ2 = some d' → (∀ c fs, d' ≠ .obj c fs) → RpB K A H2 x d') →
      RPost K G O W A ms σ H1 (Rp K A) Q ((evB bb ρ1).bind fun y ρ2 => ret ((rdB ba d0 ρ2).bind fun x' => g x' y) ρ2) → tBx K G O W bb σ H1 fun y H2 => r x y H2 Q := by
    intro x d0 ρ1 H1 R1 k1 hx q1
    have fin : ∀ (y : V) (d2 : D) (ρ2 : En) (H2 : Hp), RelS K G O A ms σ H2 ρ2 → Kp O ms H1 H2 → ((∀ c fs, d2 ≠ .obj c fs) → RpB K A H2 y d2) → RPost K G O W A ms σ H2 (Rp K A) Q (ret ((rdB ba d0 ρ2).bind fun x' => g x' d2) ρ2) → r x y H2 Q := by
      intro y d2 ρ2 H2 R2' k2 r2 q2
      obtain ⟨z, hz, q3⟩ := rp_of R2' q2
      cases hd : rdB ba d0 ρ2 with
      | none => rw [hd] at hz; cases hz
      | some d' =>
        rw [hd] at hz
        have hz' : g d' d2 = some z := hz
        have n1 : ∀ c fs, d' ≠ .obj c fs := fun c fs w => by rw [w, hl] at hz'; cases hz'
        have n2 : ∀ c fs, d2 ≠ .obj c fs := fun c fs w => by rw [w, hr'] at hz'; cases hz'
        exact hr _ _ _ _ ⟨A, d', d2, z, R2'.trk, hx ρ2 H2 d' R2' k2 hd n1, r2 n2, hz', q3⟩
    cases bb with
    | ex m =>
      refine ⟨A, ms, ρ1, R1, RPost.mono (RPost.bind q1) ?_⟩
      rintro y H2 ⟨d2, ρ2, R2', k2, r2, q2⟩
      exact fin y d2 ρ2 H2 R2' k2 (fun _ => .of r2) q2
    | ow j =>
      unfold evB at q1
      cases hj : getO ρ1 j with
      | none => simp only [hj] at q1; exact q1.elim
      | some d2 =>
        simp only [hj] at q1
        obtain ⟨pj, h1, h2, h3⟩ := own_at R1 (hB j rfl) hj
        refine ⟨_, h2, fin _ d2 ρ1 H1 R1 Kp.refl (fun n => ?_) q1⟩
        cases d2 with
        | lst l => exact own_b h3
        | obj c fs => exact absurd rfl (n c fs)
        | _ => cases h3
  cases ba with
  | ex m =>
    refine ⟨A, ms, ρ, R, RPost.mono (RPost.bind q) ?_⟩
    rintro x H1 ⟨d, ρ1, R1, k1, r1, q1⟩
    exact snd x d ρ1 H1 R1 k1 (fun ρ2 H2 d' R2' k2 e _ => by cases e; exact .of (r1.tr (R1.kt k2))) q1
  | ow j =>
    have q' : RPost K G O W A ms σ H (Rp K A) Q ((evB (.ow j) ρ).bind fun x ρ1 => (evB bb ρ1).bind fun y ρ2 => ret ((rdB (.ow j) x ρ2).bind fun x' => g x' y) ρ2) := q
    have e1 : evB (.ow j) ρ = (match getO ρ j with | some d => .ok d ρ | none => .bad) := rfl
    rw [e1] at q'
    cases hj : getO ρ j with
    | none => simp only [hj] at q'; exact q'.elim
    | some d =>
      simp only [hj] at q'
      obtain ⟨pj, h1, h2, h3⟩ := own_at R (hA j rfl) hj
      refine ⟨_, h2, snd _ d ρ H R Kp.refl (fun ρ2 H2 d' R2' k2 e n => ?_) q'⟩
      obtain ⟨pj', h1', h2', h3'⟩ := own_at R2' (hA j rfl) e
      rw [h1] at h1'
      cases h1'
      cases d' with
      | lst l => exact own_b h3'
      | obj c fs => exact absurd rfl (n c fs)
      | _ => cases h3'
theorem DB.own (h : DB X G O W e ba) : ∀ j, ba = .ow j → O.contains j = true := fun j w => by subst w; exact h.1
structure NoObj (g : D → D → Option D) : Prop where
  l : ∀ c fs z, g (.obj c fs) z = none
  r : ∀ c fs z, g z (.obj c fs) = none
theorem de_ixB {g : D → D → Option D} (hr : IxR X (rD2 X.K g)) (n : NoObj g) (ha : DB X G O W a ba) (hb : DB X G O W b bb) (hs : PlainIx b) : DE X G O W (.Subscript a b pos) (m2B g ba bb) :=
  pe_imp (pe_ix hr ha.pe hb.pe hs) fun _ _ _ h => op2B_go ha.own hb.own n.l n.r (fun _ _ _ _ z => z) h
theorem de_cmpB {op : CmpOp} {g : D → D → Option D} (ho : OpR X (compareOp op) (rD2 X.K g)) (n : NoObj g) (ha : DB X G O W a ba) (hb : DB X G O W b bb) (hm : behindInMarks op b = false) : DE X G O W (.Compare a [op] [b] pos) (m2B g ba bb) :=
  pe_imp (pe_cmpR ho ha.pe hb.pe hm) fun _ _ _ h => op2B_go ha.own hb.own n.l n.r (fun _ _ _ _ z => z) h
theorem dt_cmpB {op : CmpOp} {g : D → D → Option D} (ho : OpR X (compareOp op) (rD2 X.K g)) (n : NoObj g) (ha : DB X G O W a ba) (hb : DB X G O W b bb) (hm : behindInMarks op b = false) : DT X G O W (.Compare a [op] [b] pos) (mTest (m2B g ba bb)) :=
  pt_imp (pt_cmpR ho ha.pe hb.pe hm) fun _ _ _ h => test_go (fun _ _ _ z => op2B_go ha.own hb.own n.l n.r (fun _ _ _ _ z => z) z) h
theorem de_binB {op : Operator} {g : D → D → Option D} (ho : OpR X (binaryOp op) (rD2 X.K g)) (n : NoObj g) (ha : DB X G O W a ba) (hb : DB X G O W b bb) : DE X G O W (.BinOp a op b pos) (m2B g ba bb) :=
  pe_imp (pe_op ho ha.pe hb.pe) fun _ _ _ h => op2B_go ha.own hb.own n.l n.r (fun _ _ _ _ z => z) h
def mTruO (j : Nat) : MT := fun ρ => match getO ρ j with
  | some (.lst l) => .ok (!l.isEmpty) ρ
  | _ => .bad
theorem dt_truO {j : Nat} (hj : O.contains j = true) (ha : PE X a (tVar j)) (he : ∀ whole, isTrue a X.env whole = (do let v ← whole; standAt a.pos; holding [v] (truthy v)) := by intro _; rfl) : DT X G O W a (mTruO j) := by
  refine pt_imp (pt_truth ha he) fun σ H Q ⟨A, ms, ρ, R, q⟩ => ?_
  unfold mTruO at q
  split at q
  · rename_i l h
    obtain ⟨pj, h1, h2, h3⟩ := own_at R hj h
    refine ⟨_, h2, !l.isEmpty, ?_, q _ H R Kp.refl rfl⟩
    cases h3 with
    | lst e r =>
      refine .inl ⟨_, SqL.of e, ?_⟩
      cases r <;> rfl
  · exact q.elim

def gIx (a b : D) : Option D := match a, b with
  | .lst l, .int i => L2.atI l i
  | .scr l, .int i => L2.atI l i
  | .tup l, .int i => L2.atI l i
  | .str z, .int i => if z.length ≤ sizeLine then (L2.atI z.cps.toList i).map fun c => .str ⟨#[c]⟩ else none
  | _, _ => none
theorem gIx_no : NoObj gIx := ⟨fun _ _ z => by cases z <;> rfl, fun _ _ z => by cases z <;> rfl⟩
theorem at_rp {K : PySem.W.Frag} {A : Addr → Prop} {H : Hp} {xs : List V} {ds : List D} {i : Int} {d : D} (h : RpA K A H xs ds) (e : L2.atI ds i = some d) : ∃ v, L2.atI xs i = some v ∧ Rp K A H v d := by
  unfold L2.atI at e ⊢
  rw [h.length]
  cases hj : ixN ds.length i with
  | none => rw [hj] at e; cases e
  | some j =>
    rw [hj] at e
    exact h.get (show ds[j]? = some d from e)
theorem ix_d : IxR X (rD2 X.K gIx) := by
  intro value slice pins s σ H x y v u Q I rx ry ⟨A, a, b, d, t, pa, pb, e, q⟩ hs
  cases a with
  | lst l =>
    cases b with
    | int i =>
      obtain ⟨p, xs, rfl, h1, r1⟩ := pa.lst
      obtain ⟨w, hw, rw'⟩ := at_rp r1 (show L2.atI l i = some d from e)
      rw [pb.int] at ry
      exact ix_list value slice pins s σ H _ _ v u Q I rx ry ⟨p, xs, i, w, rfl, rfl, SqL.of h1, hw, q w H (Same.refl _) rw'⟩ hs
    | _ => cases e
  | scr l =>
    cases b with
    | int i =>
      obtain ⟨p, xs, rfl, h1, r1⟩ := pa.scr
      obtain ⟨w, hw, rw'⟩ := at_rp r1 (show L2.atI l i = some d from e)
      rw [pb.int] at ry
      exact ix_list value slice pins s σ H _ _ v u Q I rx ry ⟨p, xs, i, w, rfl, rfl, h1.sq, hw, q w H (Same.refl _) rw'⟩ hs
    | _ => cases e
  | tup l =>
    cases b with
    | int i =>
      obtain ⟨p, xs, rfl, h1, r1⟩ := pa.tup
      obtain ⟨w, hw, rw'⟩ := at_rp r1 (show L2.atI l i = some d from e)
      rw [pb.int] at ry
      exact ix_tup value slice pins s σ H _ _ v u Q I rx ry ⟨p, xs, i, w, rfl, rfl, h1.sq, hw, q w H (Same.refl _) rw'⟩ hs
    | _ => cases e
  | str z =>
    cases b with
    | int i =>
      have e' : (if z.length ≤ sizeLine then (L2.atI z.cps.toList i).map (fun c => D.str ⟨#[c]⟩) else none) = some d := e
      split at e'
      · rename_i hz
        obtain ⟨c, hc, rfl⟩ := map_some e'
        rw [pa.str] at rx
        rw [pb.int] at ry
        exact ix_str value slice pins s σ H _ _ v u Q I rx ry ⟨z, i, c, rfl, rfl, hz, hc, q _ H (Same.refl _) (.str _)⟩ hs
      · cases e'
    | _ => cases e
  | _ => cases b <;> cases e

def cutD (xs : List D) (lo hi : Option Int) : List D := (xs.drop (HT.sIx xs.length 0 lo)).take (HT.sIx xs.length xs.length hi - HT.sIx xs.length 0 lo)
def gSl (d : D) (lo hi : Option Int) : Option D := match d with
  | .lst l => some (.lst (cutD l lo hi))
  | .tup l => some (.tup (cutD l lo hi))
  | .str z => if z.length ≤ sizeLine then some (.str (L2.cutS z lo hi)) else none
  | _ => none
theorem cut_rp {K : PySem.W.Frag} {A : Addr → Prop} {H : Hp} {xs : List V} {ds : List D} (h : RpA K A H xs ds) (lo hi : Option Int) : RpA K A H (L2.cutV xs lo hi) (cutD ds lo hi) := by
  unfold L2.cutV cutD
  rw [h.length]
  exact (h.drop _).take _
def rSlD (K : PySem.W.Frag) : V → Option Int → Option Int → Hp → VK → Prop := fun x lo hi H Q => ∃ A a d, Trk A H ∧ RpB K A H x a ∧ gSl a lo hi = some d ∧ ∀ v H', Same H H' → Rp K A H' v d → Fr K A H H' v d → Q v H'
theorem cutD_whole {l : List D} {lo hi : Option Int} (h : HT.sIx l.length 0 lo = 0 ∧ HT.sIx l.length l.length hi = l.length) : cutD l lo hi = l := by
  unfold cutD
  rw [h.1, h.2, List.drop_zero, Nat.sub_zero, List.take_length]
theorem sl_d : SlR X (rSlD X.K) := by
  intro pins s σ H x v vl vu lo hi sl Q I rx hs pl pu ⟨A, a, d, t, pa, e, q⟩
  cases a with
  | lst l =>
    cases e
    obtain ⟨p, xs, rfl, h1, r1⟩ := pa.lst
    exact sl_list pins s σ H _ v vl vu lo hi sl Q I rx hs pl pu ⟨p, xs, rfl, SqL.of h1, fun r hr => q _ _ (same_upd hr) (new_lst t (cut_rp r1 lo hi) hr) (new_fr t (cut_rp r1 lo hi) hr)⟩
  | tup l =>
    cases e
    obtain ⟨p, xs, rfl, h1, r1⟩ := pa.tup
    have hl := r1.length
    refine sl_tupA pins s σ H _ v vl vu lo hi sl Q I rx hs pl pu ⟨p, xs, rfl, h1.sq, fun w => ?_, fun _ r hr => q _ _ (same_upd hr) (new_tup t (cut_rp r1 lo hi) hr) (no_fr fun _ => nofun)⟩
    rw [hl] at w
    rw [cutD_whole w] at q
    exact q _ _ (Same.refl _) (.tup h1 r1) (no_fr fun _ => nofun)
  | str z =>
    obtain ⟨hz, rfl⟩ := ite_d (x := .str (L2.cutS z lo hi)) e
    rw [pa.str] at rx
    exact sl_str pins s σ H _ v vl vu lo hi sl Q I rx hs pl pu ⟨z, rfl, hz, q _ H (Same.refl _) (.str _) (no_fr fun _ => nofun)⟩
  | _ => cases e
abbrev MP := En → R (Option Int)
def mNoP : MP := fun ρ => .ok none ρ
def asI : D → Option (Option Int)
  | .int i => some (some i)
  | _ => none
def mPart (m : ME) : MP := fun ρ => (m ρ).bind fun d ρ1 => ret (asI d) ρ1
def tP (K : PySem.W.Frag) (G : Gd) (O : List Nat) (W : WX) (m : MP) : TO := fun σ H Q => ∃ A ms ρ, RelS K G O A ms σ H ρ ∧ RPost K G O W A ms σ H (fun _ => Eq) Q (m ρ)
def DP (X : Cx) (G : Gd) (O : List Nat) (W : WX) (e : Option Expr) (m : MP) : Prop := PO X e (tP X.K G O W m)
theorem po_imp {e : Option Expr} {t t' : TO} (h : PO X e t) (w : ∀ σ H Q, t' σ H Q → t σ H Q) : PO X e t' := ⟨fun pins s σ H Q I q => h.run pins s σ H Q I (w σ H Q q)⟩
theorem dp_no : DP X G O W none mNoP := po_imp po_none fun σ H Q ⟨A, ms, ρ, R, q⟩ => q none H R Kp.refl rfl
theorem dp_e (h : DE X G O W e ma) : DP X G O W (some e) (mPart ma) := by
  refine po_imp (po_some h) fun σ H Q ⟨A, ms, ρ, R, q⟩ => ⟨A, ms, ρ, R, RPost.mono (RPost.bind q) ?_⟩
  rintro x H1 ⟨d, ρ1, R1, k1, r1, q1⟩
  obtain ⟨z, hz, q2⟩ := rp_of (rel := fun _ => @Eq (Option Int)) R1 q1
  cases d with
  | int i =>
    cases hz
    cases r1
    exact ⟨i, rfl, q2 _ H1 (Same.refl _) rfl⟩
  | _ => cases hz
def mSl (b : Bx) (l h : MP) : ME := fun ρ => (evB b ρ).bind fun x ρ1 => (l ρ1).bind fun lo ρ2 => (h ρ2).bind fun hi ρ3 => ret ((rdB b x ρ3).bind fun x' => gSl x' lo hi) ρ3
theorem fpost_of {K : PySem.W.Frag} {A : Addr → Prop} {ms : Nat → Option Addr} {σ : L2.St} {H H1 : Hp} {Q : VK} {ρ1 : En} {d : D} {v : V} {H2 : Hp} (h : FPost K G O W A ms σ H Q (.ok d ρ1)) (R : RelS K G O A ms σ H1 ρ1) (k : Kp O ms H H1) (s : Same H1 H2) (hl : ∃ l, d = .lst l) (f : Fr K A H1 H2 v d) : Q v H2 := by
  obtain ⟨l, rfl⟩ := hl
  obtain ⟨p, rfl, hp, ow⟩ := f l rfl
  obtain ⟨o, e⟩ := ow.there
  exact h p H2 (R.same s) (R.grow hp s e) (k.trans (Kp.same s)) (Kp.none R k hp) ow

theorem FPost.from {K : PySem.W.Frag} {A : Addr → Prop} {ms : Nat → Option Addr} {σ : L2.St} {H H1 : Hp} {ρ1 : En} {Q : VK} {r : R D} (R : RelS K G O A ms σ H1 ρ1) (k : Kp O ms H H1) (h : FPost K G O W A ms σ H Q r) : FPost K G O W A ms σ H1 Q r := by
  cases r with
  | ok d ρ => exact fun p H' R1 R2 k' hp ow => h p H' R1 R2 (k.trans k') (Kp.none R k hp) ow
  | ex x ρ => exact fun dx H' R1 k' q => h dx H' R1 (k.trans k') q
  | bad => exact h
theorem FPost.bind {α β : Type} {K : PySem.W.Frag} {A : Addr → Prop} {ms : Nat → Option Addr} {σ : L2.St} {H : Hp} {Q : VK} {rel : Hp → β → α → Prop} {r : R α} {f : α → En → R D} (h : FPost K G O W A ms σ H Q (r.bind f)) :
    RPost K G O W A ms σ H rel (fun v H1 => ∃ d ρ1, RelS K G O A ms σ H1 ρ1 ∧ Kp O ms H H1 ∧ rel H1 v d ∧ FPost K G O W A ms σ H1 Q (f d ρ1)) r := by
  cases r with
  | ok d ρ => exact fun v H' R k' q => ⟨d, ρ, R, k', q, FPost.from R k' h⟩
  | ex x ρ => exact h
  | bad => exact h
def isL (d : D) : Option D := match d with
  | .lst l => some (.lst l)
  | _ => none
theorem isL_some {d z : D} (h : isL d = some z) : d = z ∧ ∃ l, d = .lst l := by
  cases d with
  | lst l => cases h; exact ⟨rfl, l, rfl⟩
  | _ => cases h
theorem fp_fin {K : PySem.W.Frag} {A : Addr → Prop} {ms : Nat → Option Addr} {σ : L2.St} {H1 H2 : Hp} {Q : VK} {ρ1 : En} {g : Option D} {d : D} {v : V} (h : FPost K G O W A ms σ H1 Q (ret (g.bind isL) ρ1)) (hg : g = some d) (R : RelS K G O A ms σ H1 ρ1) (s : Same H1 H2) (f : Fr K A H1 H2 v d) : Q v H2 := by
  subst hg
  cases d with
  | lst l => exact fpost_of (d := .lst l) h R Kp.refl s ⟨l, rfl⟩ f
  | _ => exact h.elim
theorem fp_some {K : PySem.W.Frag} {A : Addr → Prop} {ms : Nat → Option Addr} {σ : L2.St} {H1 : Hp} {Q : VK} {ρ1 : En} {g : Option D} (h : FPost K G O W A ms σ H1 Q (ret (g.bind isL) ρ1)) : ∃ l, g = some (.lst l) := by
  cases g with
  | none => exact h.elim
  | some d => cases d with
    | lst l => exact ⟨l, rfl⟩
    | _ => exact h.elim
def mL (m : ME) : ME := fun ρ => (m ρ).bind fun d ρ1 => ret (isL d) ρ1
def mSlF (b : Bx) (l h : MP) : ME := fun ρ => (evB b ρ).bind fun x ρ1 => (l ρ1).bind fun lo ρ2 => (h ρ2).bind fun hi ρ3 => ret (((rdB b x ρ3).bind fun x' => gSl x' lo hi).bind isL) ρ3
variable {lo hi : Option Expr} {ml mh : MP} {p2 : Pos}
theorem sl_go {K : PySem.W.Frag} (hA : ∀ j, ba = .ow j → O.contains j = true) {σ : L2.St} {H : Hp} {Q : VK} (h : tE K G O W (mSl ba ml mh) σ H Q) : tSl (rSlD K) (tBx K G O W ba) (tP K G O W ml) (tP K G O W mh) σ H Q := by
  obtain ⟨A, ms, ρ, R, q⟩ := h
  have snd : ∀ (x : V) (d0 : D) (ρ1 : En) (H1 : Hp), RelS K G O A ms σ H1 ρ1 → (∀ ρ2 H2 d', RelS K G O A ms σ H2 ρ2 → Kp O ms H1 H2 → rdB ba d0 ρ2 = some d' → (∀ c fs, d' ≠ .obj c fs) → RpB K A H2 x d') →
      RPost K G O W A ms σ H1 (Rp K A) Q ((ml ρ1).bind fun lo ρ2 => (mh ρ2).bind fun hi ρ3 => ret ((rdB ba d0 ρ3).bind fun x' => gSl x' lo hi) ρ3) → tP K G O W ml σ H1 fun l H2 => tP K G O W mh σ H2 fun u H3 => rSlD K x l u H3 Q := by
    intro x d0 ρ1 H1 R1 hx q1
    refine ⟨A, ms, ρ1, R1, RPost.mono (RPost.bind q1) ?_⟩
    rintro l H2 ⟨lo, ρ2, R2', k2, rfl, q2⟩
    refine ⟨A, ms, ρ2, R2', RPost.mono (RPost.bind q2) ?_⟩
    rintro u H3 ⟨hi, ρ3, R3, k3, rfl, q3⟩
    obtain ⟨z, hz, q4⟩ := rp_of R3 q3
    cases hd : rdB ba d0 ρ3 with
    | none => rw [hd] at hz; cases hz
    | some d' =>
      rw [hd] at hz
      exact ⟨A, d', z, R3.trk, hx ρ3 H3 d' R3 (k2.trans k3) hd (fun c fs w => by subst w; cases hz), hz, fun v H' s r _ => q4 v H' s r⟩
  cases ba with
  | ex m =>
    refine ⟨A, ms, ρ, R, RPost.mono (RPost.bind q) ?_⟩
    rintro x H1 ⟨d, ρ1, R1, k1, r1, q1⟩
    exact snd x d ρ1 H1 R1 (fun ρ2 H2 d' R2' k2 e _ => by cases e; exact .of (r1.tr (R1.kt k2))) q1
  | ow j =>
    have q' : RPost K G O W A ms σ H (Rp K A) Q ((evB (.ow j) ρ).bind fun x ρ1 => (ml ρ1).bind fun lo ρ2 => (mh ρ2).bind fun hi ρ3 => ret ((rdB (.ow j) x ρ3).bind fun x' => gSl x' lo hi) ρ3) := q
    have e1 : evB (.ow j) ρ = (match getO ρ j with | some d => .ok d ρ | none => .bad) := rfl
    rw [e1] at q'
    cases hj : getO ρ j with
    | none => simp only [hj] at q'; exact q'.elim
    | some d =>
      simp only [hj] at q'
      obtain ⟨pj, h1, h2, h3⟩ := own_at R (hA j rfl) hj
      refine ⟨_, h2, snd _ d ρ H R (fun ρ2 H2 d' R2' k2 e n => ?_) q'⟩
      obtain ⟨pj', h1', h2', h3'⟩ := own_at R2' (hA j rfl) e
      rw [h1] at h1'
      cases h1'
      cases d' with
      | lst l => exact own_b h3'
      | obj c fs => exact absurd rfl (n c fs)
      | _ => cases h3'
theorem slF_go {K : PySem.W.Frag} (hA : ∀ j, ba = .ow j → O.contains j = true) {σ : L2.St} {H : Hp} {Q : VK} (h : tF K G O W (mSlF ba ml mh) σ H Q) : tSl (rSlD K) (tBx K G O W ba) (tP K G O W ml) (tP K G O W mh) σ H Q := by
  obtain ⟨A, ms, ρ, R, q⟩ := h
  have snd : ∀ (x : V) (d0 : D) (ρ1 : En) (H1 : Hp), RelS K G O A ms σ H1 ρ1 → (∀ ρ2 H2 d', RelS K G O A ms σ H2 ρ2 → Kp O ms H1 H2 → rdB ba d0 ρ2 = some d' → (∀ c fs, d' ≠ .obj c fs) → RpB K A H2 x d') →
      FPost K G O W A ms σ H1 Q ((ml ρ1).bind fun lo ρ2 => (mh ρ2).bind fun hi ρ3 => ret (((rdB ba d0 ρ3).bind fun x' => gSl x' lo hi).bind isL) ρ3) → tP K G O W ml σ H1 fun l H2 => tP K G O W mh σ H2 fun u H3 => rSlD K x l u H3 Q := by
    intro x d0 ρ1 H1 R1 hx q1
    refine ⟨A, ms, ρ1, R1, RPost.mono (FPost.bind q1) ?_⟩
    rintro l H2 ⟨lo, ρ2, R2', k2, rfl, q2⟩
    refine ⟨A, ms, ρ2, R2', RPost.mono (FPost.bind q2) ?_⟩
    rintro u H3 ⟨hi, ρ3, R3, k3, rfl, q3⟩
    obtain ⟨z, hz⟩ := fp_some q3
    cases hd : rdB ba d0 ρ3 with
    | none => rw [hd] at hz; cases hz
    | some d' =>
      have hz' := hz
      rw [hd] at hz'
      exact ⟨A, d', _, R3.trk, hx ρ3 H3 d' R3 (k2.trans k3) hd (fun c fs w => by subst w; cases hz'), hz', fun v H' s r f => fp_fin q3 hz R3 s f⟩
  cases ba with
  | ex m =>
    refine ⟨A, ms, ρ, R, RPost.mono (FPost.bind q) ?_⟩
    rintro x H1 ⟨d, ρ1, R1, k1, r1, q1⟩
    exact snd x d ρ1 H1 R1 (fun ρ2 H2 d' R2' k2 e _ => by cases e; exact .of (r1.tr (R1.kt k2))) q1
  | ow j =>
    have q' : FPost K G O W A ms σ H Q ((evB (.ow j) ρ).bind fun x ρ1 => (ml ρ1).bind fun lo ρ2 => (mh ρ2).bind fun hi ρ3 => ret (((rdB (.ow j) x ρ3).bind fun x' => gSl x' lo hi).bind isL) ρ3) := q
    have e1 : evB (.ow j) ρ = (match getO ρ j with | some d => .ok d ρ | none => .bad) := rfl
    rw [e1] at q'
    cases hj : getO ρ j with
    | none => simp only [hj] at q'; exact q'.elim
    | some d =>
      simp only [hj] at q'
      obtain ⟨pj, h1, h2, h3⟩ := own_at R (hA j rfl) hj
      refine ⟨_, h2, snd _ d ρ H R (fun ρ2 H2 d' R2' k2 e n => ?_) q'⟩
      obtain ⟨pj', h1', h2', h3'⟩ := own_at R2' (hA j rfl) e
      rw [h1] at h1'
      cases h1'
      cases d' with
      | lst l => exact own_b h3'
      | obj c fs => exact absurd rfl (n c fs)
      | _ => cases h3'
theorem de_sl (ha : DB X G O W a ba) (hl : DP X G O W lo ml) (hh : DP X G O W hi mh) : DE X G O W (.Subscript a (.Slice lo hi none p2) pos) (mSl ba ml mh) := pe_imp (pe_slice sl_d ha.pe hl hh) fun _ _ _ h => sl_go ha.own h
theorem df_sl (ha : DB X G O W a ba) (hl : DP X G O W lo ml) (hh : DP X G O W hi mh) : DF X G O W (.Subscript a (.Slice lo hi none p2) pos) (mSlF ba ml mh) := pe_imp (pe_slice sl_d ha.pe hl hh) fun _ _ _ h => slF_go ha.own h
def m2F (g : D → D → Option D) (a b : ME) : ME := fun ρ => (a ρ).bind fun x ρ1 => (b ρ1).bind fun y ρ2 => ret ((g x y).bind isL) ρ2
theorem df_bin {op : Operator} {g : D → D → Option D} (ho : OpR X (binaryOp op) (rF2 X.K g)) (ha : DE X G O W a ma) (hb : DE X G O W b mb) : DF X G O W (.BinOp a op b pos) (m2F g ma mb) := by
  refine pe_imp (pe_op ho ha hb) fun σ H Q ⟨A, ms, ρ, R, q⟩ => ⟨A, ms, ρ, R, RPost.mono (FPost.bind q) ?_⟩
  rintro x H1 ⟨d, ρ1, R1, k1, r1, q1⟩
  refine ⟨A, ms, ρ1, R1, RPost.mono (FPost.bind q1) ?_⟩
  rintro y H2 ⟨d2, ρ2, R2', k2, r2, q2⟩
  obtain ⟨z, hz⟩ := fp_some q2
  exact ⟨A, d, d2, _, R2'.trk, .of (r1.tr (R1.kt k2)), .of r2, hz, fun v H' s r f => fp_fin q2 hz R2' s f⟩

theorem cN_go {g : List D → Option D} {K : PySem.W.Frag} {σ : L2.St} {H : Hp} {Q : VK} (h : tE K G O W (mN g mr) σ H Q) : tCB (rDN K g) (tA K G O W mr) σ H Q := by
  obtain ⟨A, ms, ρ, R, q⟩ := h
  refine ⟨A, ms, ρ, R, RPost.mono (RPost.bind q) ?_⟩
  rintro vs H1 ⟨ds, ρ1, R1, k1, r1, q1⟩
  obtain ⟨z, hz, q2⟩ := rp_of R1 q1
  exact ⟨A, ds, z, R1.trk, .inl r1, hz, q2⟩
def mNF (g : List D → Option D) (a : MA) : ME := fun ρ => (a ρ).bind fun xs ρ1 => ret ((g xs).bind isL) ρ1
theorem cF_go {g : List D → Option D} {K : PySem.W.Frag} {σ : L2.St} {H : Hp} {Q : VK} (h : tF K G O W (mNF g mr) σ H Q) : tCB (rFN K g) (tA K G O W mr) σ H Q := by
  obtain ⟨A, ms, ρ, R, q⟩ := h
  refine ⟨A, ms, ρ, R, RPost.mono (FPost.bind q) ?_⟩
  rintro vs H1 ⟨ds, ρ1, R1, k1, r1, q1⟩
  obtain ⟨z, hz⟩ := fp_some q1
  exact ⟨A, ds, _, R1.trk, .inl r1, hz, fun v H' s r f => fp_fin q1 hz R1 s f⟩
theorem rFN.weak {f : Value} {g : List D → Option D} (h : CallR X f (rFN X.K g)) : CallR X f (rDN X.K g) := fun pins s σ H xs us Q I r ⟨A, ds, d, t, p, e, q⟩ => h pins s σ H xs us Q I r ⟨A, ds, d, t, p, e, fun v H' s r _ => q v H' s r⟩
def mNO (g : List D → Option D) (j : Nat) : ME := fun ρ => match getO ρ j with
  | some (.lst l) => ret (g [.lst l]) ρ
  | _ => .bad
def mNOF (g : List D → Option D) (j : Nat) : ME := fun ρ => match getO ρ j with
  | some (.lst l) => ret ((g [.lst l]).bind isL) ρ
  | _ => .bad
def tOwn1 (j : Nat) : TA := tCons (tVar j) tNil
theorem cNO_go {g : List D → Option D} {K : PySem.W.Frag} {j : Nat} (hj : O.contains j = true) {σ : L2.St} {H : Hp} {Q : VK} (h : tE K G O W (mNO g j) σ H Q) : tCB (rDN K g) (tOwn1 j) σ H Q := by
  obtain ⟨A, ms, ρ, R, q⟩ := h
  unfold mNO at q
  split at q
  · rename_i l hl
    obtain ⟨pj, h1, h2, h3⟩ := own_at R hj hl
    obtain ⟨z, hz, q2⟩ := rp_of R q
    exact ⟨_, h2, A, _, z, R.trk, .inr ⟨_, _, rfl, rfl, own_b h3⟩, hz, q2⟩
  · exact q.elim
theorem cNOF_go {g : List D → Option D} {K : PySem.W.Frag} {j : Nat} (hj : O.contains j = true) {σ : L2.St} {H : Hp} {Q : VK} (h : tF K G O W (mNOF g j) σ H Q) : tCB (rFN K g) (tOwn1 j) σ H Q := by
  obtain ⟨A, ms, ρ, R, q⟩ := h
  unfold mNOF at q
  split at q
  · rename_i l hl
    obtain ⟨pj, h1, h2, h3⟩ := own_at R hj hl
    obtain ⟨z, hz⟩ := fp_some q
    exact ⟨_, h2, A, _, _, R.trk, .inr ⟨_, _, rfl, rfl, own_b h3⟩, hz, fun v H' s r f => fp_fin q hz R s f⟩
  · exact q.elim
section
variable {id T : String} {g : List D → Option D} {j : Nat}
theorem de_b (hv : bootBuiltins x = some (.builtin id)) (hc : CallR X (.builtin id) (rDN X.K g)) (hg : Gl X x) (hm : X.mg x = none) (ha : DA X G O W (e :: es) mr) (hn : x ≠ "__name__" := by decide) (hdb : (x == ("__debug__" : Str)) = false := by decide)
    (he : starEach (e :: es) X.env = (false, eval e X.env) :: starEach es X.env := by rfl) (hpl : (backTo pos (starEach es X.env)).any (·.1) = false := by rfl) : DE X G O W (.Call (.Name x p) (e :: es) [] pos) (mN g mr) :=
  pe_imp (pe_callB hc hg hm hv ha hn hdb he hpl) fun _ _ _ h => cN_go h
theorem de_ty (hv : bootBuiltins x = some (.type T)) (hc : CallR X (.type T) (rDN X.K g)) (hg : Gl X x) (hm : X.mg x = none) (ha : DA X G O W (e :: es) mr) (hn : x ≠ "__name__" := by decide) (hdb : (x == ("__debug__" : Str)) = false := by decide)
    (he : starEach (e :: es) X.env = (false, eval e X.env) :: starEach es X.env := by rfl) (hpl : (backTo pos (starEach es X.env)).any (·.1) = false := by rfl) : DE X G O W (.Call (.Name x p) (e :: es) [] pos) (mN g mr) :=
  pe_imp (pe_callTy hc hg hm hv ha hn hdb he hpl) fun _ _ _ h => cN_go h
theorem df_b (hv : bootBuiltins x = some (.builtin id)) (hc : CallR X (.builtin id) (rFN X.K g)) (hg : Gl X x) (hm : X.mg x = none) (ha : DA X G O W (e :: es) mr) (hn : x ≠ "__name__" := by decide) (hdb : (x == ("__debug__" : Str)) = false := by decide)
    (he : starEach (e :: es) X.env = (false, eval e X.env) :: starEach es X.env := by rfl) (hpl : (backTo pos (starEach es X.env)).any (·.1) = false := by rfl) : DF X G O W (.Call (.Name x p) (e :: es) [] pos) (mNF g mr) :=
  pe_imp (pe_callB hc hg hm hv ha hn hdb he hpl) fun _ _ _ h => cF_go h
theorem df_ty (hv : bootBuiltins x = some (.type T)) (hc : CallR X (.type T) (rFN X.K g)) (hg : Gl X x) (hm : X.mg x = none) (ha : DA X G O W (e :: es) mr) (hn : x ≠ "__name__" := by decide) (hdb : (x == ("__debug__" : Str)) = false := by decide)
    (he : starEach (e :: es) X.env = (false, eval e X.env) :: starEach es X.env := by rfl) (hpl : (backTo pos (starEach es X.env)).any (·.1) = false := by rfl) : DF X G O W (.Call (.Name x p) (e :: es) [] pos) (mNF g mr) :=
  pe_imp (pe_callTy hc hg hm hv ha hn hdb he hpl) fun _ _ _ h => cF_go h
theorem pa_own (hy : PE X e (tVar j)) (hs : starEach [e] X.env = (false, eval e X.env) :: starEach [] X.env := by rfl) : PA X [e] (tOwn1 j) := pa_cons hy pa_nil hs
theorem de_bO (hj : O.contains j = true) (hv : bootBuiltins x = some (.builtin id)) (hc : CallR X (.builtin id) (rDN X.K g)) (hg : Gl X x) (hm : X.mg x = none) (hy : PE X e (tVar j)) (hn : x ≠ "__name__" := by decide) (hdb : (x == ("__debug__" : Str)) = false := by decide)
    (he : starEach [e] X.env = (false, eval e X.env) :: starEach [] X.env := by rfl) (hpl : (backTo pos (starEach [] X.env)).any (·.1) = false := by rfl) : DE X G O W (.Call (.Name x p) [e] [] pos) (mNO g j) :=
  pe_imp (pe_callB hc hg hm hv (pa_own hy he) hn hdb he hpl) fun _ _ _ h => cNO_go hj h
theorem de_tyO (hj : O.contains j = true) (hv : bootBuiltins x = some (.type T)) (hc : CallR X (.type T) (rDN X.K g)) (hg : Gl X x) (hm : X.mg x = none) (hy : PE X e (tVar j)) (hn : x ≠ "__name__" := by decide) (hdb : (x == ("__debug__" : Str)) = false := by decide)
    (he : starEach [e] X.env = (false, eval e X.env) :: starEach [] X.env := by rfl) (hpl : (backTo pos (starEach [] X.env)).any (·.1) = false := by rfl) : DE X G O W (.Call (.Name x p) [e] [] pos) (mNO g j) :=
  pe_imp (pe_callTy hc hg hm hv (pa_own hy he) hn hdb he hpl) fun _ _ _ h => cNO_go hj h
theorem df_bO (hj : O.contains j = true) (hv : bootBuiltins x = some (.builtin id)) (hc : CallR X (.builtin id) (rFN X.K g)) (hg : Gl X x) (hm : X.mg x = none) (hy : PE X e (tVar j)) (hn : x ≠ "__name__" := by decide) (hdb : (x == ("__debug__" : Str)) = false := by decide)
    (he : starEach [e] X.env = (false, eval e X.env) :: starEach [] X.env := by rfl) (hpl : (backTo pos (starEach [] X.env)).any (·.1) = false := by rfl) : DF X G O W (.Call (.Name x p) [e] [] pos) (mNOF g j) :=
  pe_imp (pe_callB hc hg hm hv (pa_own hy he) hn hdb he hpl) fun _ _ _ h => cNOF_go hj h
theorem df_tyO (hj : O.contains j = true) (hv : bootBuiltins x = some (.type T)) (hc : CallR X (.type T) (rFN X.K g)) (hg : Gl X x) (hm : X.mg x = none) (hy : PE X e (tVar j)) (hn : x ≠ "__name__" := by decide) (hdb : (x == ("__debug__" : Str)) = false := by decide)
    (he : starEach [e] X.env = (false, eval e X.env) :: starEach [] X.env := by rfl) (hpl : (backTo pos (starEach [] X.env)).any (·.1) = false := by rfl) : DF X G O W (.Call (.Name x p) [e] [] pos) (mNOF g j) :=
  pe_imp (pe_callTy hc hg hm hv (pa_own hy he) hn hdb he hpl) fun _ _ _ h => cNOF_go hj h
end
end
end DL
namespace DL
open L2 PySem PySem.Spec PyProof.Rows

def asInts : List D → Option (List Int)
  | [] => some []
  | .int i :: r => (asInts r).map (i :: ·)
  | _ :: _ => none
def asBls : List D → Option (List Bool)
  | [] => some []
  | .bl i :: r => (asBls r).map (i :: ·)
  | _ :: _ => none
def asStrs : List D → Option (List Str)
  | [] => some []
  | .str i :: r => (asStrs r).map (i :: ·)
  | _ :: _ => none
theorem asInts_eq : ∀ {l : List D} {ns : List Int}, asInts l = some ns → l = ns.map D.int
  | [], _, e => by cases e; rfl
  | .int i :: r, _, e => by
    obtain ⟨k, hk, rfl⟩ := map_some (show (asInts r).map (i :: ·) = some _ from e)
    rw [asInts_eq hk]; rfl
  | .non :: _, _, e => by cases e
  | .bl _ :: _, _, e => by cases e
  | .str _ :: _, _, e => by cases e
  | .tup _ :: _, _, e => by cases e
  | .lst _ :: _, _, e => by cases e
  | .scr _ :: _, _, e => by cases e
  | .fn _ :: _, _, e => by cases e
  | .obj _ _ :: _, _, e => by cases e
  | .exn _ _ :: _, _, e => by cases e
theorem asBls_eq : ∀ {l : List D} {ns : List Bool}, asBls l = some ns → l = ns.map D.bl
  | [], _, e => by cases e; rfl
  | .bl i :: r, _, e => by
    obtain ⟨k, hk, rfl⟩ := map_some (show (asBls r).map (i :: ·) = some _ from e)
    rw [asBls_eq hk]; rfl
  | .non :: _, _, e => by cases e
  | .int _ :: _, _, e => by cases e
  | .str _ :: _, _, e => by cases e
  | .tup _ :: _, _, e => by cases e
  | .lst _ :: _, _, e => by cases e
  | .scr _ :: _, _, e => by cases e
  | .fn _ :: _, _, e => by cases e
  | .obj _ _ :: _, _, e => by cases e
  | .exn _ _ :: _, _, e => by cases e
theorem asStrs_eq : ∀ {l : List D} {ns : List Str}, asStrs l = some ns → l = ns.map D.str
  | [], _, e => by cases e; rfl
  | .str i :: r, _, e => by
    obtain ⟨k, hk, rfl⟩ := map_some (show (asStrs r).map (i :: ·) = some _ from e)
    rw [asStrs_eq hk]; rfl
  | .non :: _, _, e => by cases e
  | .int _ :: _, _, e => by cases e
  | .bl _ :: _, _, e => by cases e
  | .tup _ :: _, _, e => by cases e
  | .lst _ :: _, _, e => by cases e
  | .scr _ :: _, _, e => by cases e
  | .fn _ :: _, _, e => by cases e
  | .obj _ _ :: _, _, e => by cases e
  | .exn _ _ :: _, _, e => by cases e
theorem asInts_map (ns : List Int) : asInts (ns.map D.int) = some ns := by
  induction ns with
  | nil => rfl
  | cons n ns ih => rw [List.map_cons]; unfold asInts; rw [ih]; rfl
theorem asBls_map (ns : List Bool) : asBls (ns.map D.bl) = some ns := by
  induction ns with
  | nil => rfl
  | cons n ns ih => rw [List.map_cons]; unfold asBls; rw [ih]; rfl
theorem asStrs_map (ns : List Str) : asStrs (ns.map D.str) = some ns := by
  induction ns with
  | nil => rfl
  | cons n ns ih => rw [List.map_cons]; unfold asStrs; rw [ih]; rfl
def gLen : List D → Option D
  | [.lst l] => some (.int l.length)
  | [.tup l] => some (.int l.length)
  | [.scr l] => some (.int l.length)
  | [.str z] => if z.length ≤ sizeLine then some (.int z.length) else none
  | _ => none
def gAbs : List D → Option D
  | [.int i] => some (.int (if i < 0 then -i else i))
  | _ => none
def gInt : List D → Option D
  | [.int i] => some (.int i)
  | [.bl k] => some (.int (if k then 1 else 0))
  | [.str a] => if a.length ≤ 640 then (PySem.intText? a).map D.int else none
  | _ => none
def shownD (d : D) : Option Str := match d.py with
  | some x => if x.showable = true ∧ x.shown.length ≤ sizeLine ∧ x.depth ≤ 60 then some x.shown else none
  | none => none
def gRepr : List D → Option D
  | [d] => (shownD d).map D.str
  | _ => none
def gStr : List D → Option D
  | [.str a] => some (.str a)
  | [.int i] => if i.natAbs.log2 < 1920 then some (.str (toString i)) else none
  | [.lst l] => (shownD (.lst l)).map D.str
  | [.tup l] => (shownD (.tup l)).map D.str
  | _ => none
def gAll : List D → Option D
  | [.lst l] => (asBls l).map fun bs => .bl (bs.all id)
  | _ => none
def gAny : List D → Option D
  | [.lst l] => (asBls l).map fun bs => .bl (bs.any id)
  | _ => none
def gSum : List D → Option D
  | [.lst l] => (asInts l).map fun ns => .int ns.sum
  | _ => none
def maxL : List Int → Option Int
  | [] => none
  | n :: r => some (r.foldl max n)
def minL : List Int → Option Int
  | [] => none
  | n :: r => some (r.foldl min n)
def gMax : List D → Option D
  | [.lst l] => ((asInts l).bind maxL).map D.int
  | [.int i, .int j] => some (.int (if j > i then j else i))
  | _ => none
def gMin : List D → Option D
  | [.lst l] => ((asInts l).bind minL).map D.int
  | [.int i, .int j] => some (.int (if j < i then j else i))
  | _ => none
def gList : List D → Option D
  | [.lst l] => some (.lst l)
  | [.tup l] => some (.lst l)
  | [.scr l] => some (.lst l)
  | [.str z] => if z.length ≤ sizeLine then some (.lst (chars z)) else none
  | _ => none
def gTuple : List D → Option D
  | [.lst l] => some (.tup l)
  | [.scr l] => some (.tup l)
  | [.tup l] => some (.tup l)
  | _ => none
theorem one_arg {K : PySem.W.Frag} {A : Addr → Prop} {H : Hp} {xs : List V} {a : D} (h : RpA K A H xs [a] ∨ ∃ v c, xs = [v] ∧ [a] = [c] ∧ RpB K A H v c) : ∃ v, xs = [v] ∧ RpB K A H v a := by
  rcases h with h | ⟨v, c, rfl, e, h⟩
  · cases h with
    | cons h t => cases t; exact ⟨_, rfl, .of h⟩
  · cases e; exact ⟨_, rfl, h⟩
theorem two_args {K : PySem.W.Frag} {A : Addr → Prop} {H : Hp} {xs : List V} {a b : D} (h : RpA K A H xs [a, b] ∨ ∃ v c, xs = [v] ∧ [a, b] = [c] ∧ RpB K A H v c) : ∃ v w, xs = [v, w] ∧ Rp K A H v a ∧ Rp K A H w b := by
  rcases h with h | ⟨v, c, rfl, e, h⟩
  · cases h with
    | cons h t => cases t with
      | cons h' t => cases t; exact ⟨_, _, rfl, h, h'⟩
  · cases e
section
variable {X : Cx}
theorem b_len : CallR X (.builtin "len") (rDN X.K gLen) := by
  intro pins s σ H xs us Q I r ⟨A, ds, d, t, p, e, q⟩
  unfold gLen at e
  split at e
  · rename_i l
    cases e
    obtain ⟨v, rfl, hv⟩ := one_arg p
    obtain ⟨a, ys, rfl, h, rr⟩ := hv.lst
    exact call_len_seq pins s σ H _ us Q I r ⟨a, ys, rfl, .inl (SqL.of h), by rw [rr.length]; exact q _ _ (Same.refl _) (.int _)⟩
  · rename_i l
    cases e
    obtain ⟨v, rfl, hv⟩ := one_arg p
    obtain ⟨a, ys, rfl, h, rr⟩ := hv.tup
    exact call_len_seq pins s σ H _ us Q I r ⟨a, ys, rfl, .inr h.sq, by rw [rr.length]; exact q _ _ (Same.refl _) (.int _)⟩
  · rename_i l
    cases e
    obtain ⟨v, rfl, hv⟩ := one_arg p
    obtain ⟨a, ys, rfl, h, rr⟩ := hv.scr
    exact call_len_seq pins s σ H _ us Q I r ⟨a, ys, rfl, .inl h.sq, by rw [rr.length]; exact q _ _ (Same.refl _) (.int _)⟩
  · rename_i z
    obtain ⟨hz, rfl⟩ := ite_d (x := .int z.length) e
    obtain ⟨v, rfl, hv⟩ := one_arg p
    rw [hv.str] at r
    exact call_len_str pins s σ H _ us Q I r ⟨z, rfl, hz, q _ _ (Same.refl _) (.int _)⟩
  · cases e
theorem b_abs : CallR X (.builtin "abs") (rDN X.K gAbs) := by
  intro pins s σ H xs us Q I r ⟨A, ds, d, t, p, e, q⟩
  unfold gAbs at e
  split at e
  · rename_i i
    cases e
    obtain ⟨v, rfl, hv⟩ := one_arg p
    rw [hv.int] at r
    exact call_abs pins s σ H _ us Q I r ⟨i, rfl, q _ _ (Same.refl _) (.int _)⟩
  · cases e
theorem b_int : CallR X (.type "int") (rDN X.K gInt) := by
  intro pins s σ H xs us Q I r ⟨A, ds, d, t, p, e, q⟩
  unfold gInt at e
  split at e
  · rename_i i
    cases e
    obtain ⟨v, rfl, hv⟩ := one_arg p
    rw [hv.int] at r
    exact call_int1 pins s σ H _ us Q I r (.inl ⟨i, rfl, q _ _ (Same.refl _) (.int _)⟩)
  · rename_i i
    cases e
    obtain ⟨v, rfl, hv⟩ := one_arg p
    rw [hv.bl] at r
    exact call_int1 pins s σ H _ us Q I r (.inr ⟨i, rfl, q _ _ (Same.refl _) (.int _)⟩)
  · rename_i a
    split at e
    · rename_i hz
      obtain ⟨n, hn, rfl⟩ := map_some e
      obtain ⟨v, rfl, hv⟩ := one_arg p
      rw [hv.str] at r
      exact call_int_str pins s σ H _ us Q I r ⟨a, n, rfl, hn, hz, q _ _ (Same.refl _) (.int _)⟩
    · cases e
  · cases e
mutual
theorem py_noDict : ∀ {d : D} {x : PyData}, d.py = some x → x.hasDict = false
  | .non, _, e => by cases e; simp only [PyData.hasDict]
  | .bl _, _, e => by cases e; simp only [PyData.hasDict]
  | .int _, _, e => by cases e; simp only [PyData.hasDict]
  | .str _, _, e => by cases e; simp only [PyData.hasDict]
  | .tup ds, _, e => by
    unfold D.py at e
    cases hp : pyAll ds with
    | none => rw [hp] at e; cases e
    | some ys => rw [hp] at e; cases e; simp only [PyData.hasDict]; exact pyAll_noDict hp
  | .lst ds, _, e => by
    unfold D.py at e
    cases hp : pyAll ds with
    | none => rw [hp] at e; cases e
    | some ys => rw [hp] at e; cases e; simp only [PyData.hasDict]; exact pyAll_noDict hp
  | .scr _, _, e => by unfold D.py at e; cases e
  | .fn _, _, e => by unfold D.py at e; cases e
  | .obj _ _, _, e => by unfold D.py at e; cases e
  | .exn _ _, _, e => by unfold D.py at e; cases e
theorem pyAll_noDict : ∀ {d : List D} {x : List PyData}, pyAll d = some x → PyData.hasDictAll x = false
  | [], _, e => by cases e; simp only [PyData.hasDictAll]
  | d :: ds, _, e => by
    unfold pyAll at e
    cases h1 : d.py with
    | none => rw [h1] at e; cases e
    | some y =>
      rw [h1] at e
      cases h2 : pyAll ds with
      | none => rw [h2] at e; cases e
      | some ys => rw [h2] at e; cases e; simp only [PyData.hasDictAll, py_noDict h1, pyAll_noDict h2, Bool.or_self]
end
theorem shownD_some {d : D} {z : Str} (e : shownD d = some z) : ∃ x, d.py = some x ∧ x.showable = true ∧ x.shown.length ≤ sizeLine ∧ x.depth ≤ 60 ∧ z = x.shown := by
  unfold shownD at e
  split at e
  · rename_i x hx
    split at e
    · rename_i h
      cases e
      exact ⟨x, hx, h.1, h.2.1, h.2.2, rfl⟩
    · cases e
  · cases e
theorem b_repr (hg : X.A.guards = some []) (hu : X.A.units + 64 < cLine) : CallR X (.builtin "repr") (rDN X.K gRepr) := by
  intro pins s σ H xs us Q I r ⟨A, ds, d, t, p, e, q⟩
  unfold gRepr at e
  split at e
  · rename_i c
    obtain ⟨z, hz, rfl⟩ := map_some e
    obtain ⟨v, rfl, hv⟩ := one_arg p
    obtain ⟨x, hx, h1, h2, h3, rfl⟩ := shownD_some hz
    have dp := hv.dp hx
    obtain ⟨u, rfl, ru⟩ := vals1 r
    have fin : ∀ h' tk u', (∀ b o, s.heap.get? b = some o → h'.get? b = some o) → EP X pins σ Q (.str x.shown u') { s with heap := h', toks := tk } := fun h' tk u' hk => ⟨.str x.shown, H, I.kept hk, ⟨_, rfl⟩, q _ _ (Same.refl _) (.str _)⟩
    have nd := py_noDict hx
    obtain ⟨as, rd⟩ := Dp.reads I x v u dp ru
    cases rd with
    | none =>
      refine PySem.P.repr_of_none ?_
      exact ⟨.str _, H, I.tok _, ⟨_, rfl⟩, q _ _ (Same.refl _) (.str _)⟩
    | bool b =>
      refine PySem.P.repr_of_bool ?_
      refine ⟨.str _, H, I.tok _, ⟨_, rfl⟩, ?_⟩
      have := q _ H (Same.refl _) (.str _)
      simpa [PyData.shown] using this
    | int i t =>
      refine PySem.P.repr_of_int (by simpa [PyData.showable] using h1) ?_
      refine ⟨.str _, H, I.tok _, ⟨_, rfl⟩, ?_⟩
      have := q _ H (Same.refl _) (.str _)
      simpa [PyData.shown] using this
    | str y t =>
      refine PySem.P.repr_of_str (Q := EP X pins σ Q) ?_ (by simpa [PyData.shown] using h2)
      refine ⟨.str _, H, I.tok _, ⟨_, rfl⟩, ?_⟩
      have := q _ H (Same.refl _) (.str _)
      simpa [PyData.shown] using this
    | list a1 a2 a3 a4 =>
      refine repr_of_reads' (h₀ := s.heap) (Reads.list a1 a2 a3 a4) h1 (PyData.noDict_hsm nd) hg (by omega) (fun _ _ z => z) (fun h' u' tk hk => fin h' tk u' hk) h2
    | tuple a1 a2 a3 a4 =>
      refine repr_of_reads' (h₀ := s.heap) (Reads.tuple a1 a2 a3 a4) h1 (PyData.noDict_hsm nd) hg (by omega) (fun _ _ z => z) (fun h' u' tk hk => fin h' tk u' hk) h2
    | dict => simp [PyData.hasDict] at nd
  · cases e
theorem str_seq (hg : X.A.guards = some []) (hu : X.A.units + 64 < cLine) {pins : List (Addr × Obj)} {s : Shared} {σ : L2.St} {H : Hp} {us : List Value} {Q : VK} {A : Addr → Prop} {v : V} {c : D} {z : Str} (I : Inv X pins σ H s) (r : Vals [v] us) (hv : RpB X.K A H v c) (hc : (∃ l, c = .lst l) ∨ ∃ l, c = .tup l)
    (hz : shownD c = some z) (q : ∀ v H', Same H H' → Rp X.K A H' v (.str z) → Q v H') : wpAny (model X.prog X.w) X.A (call (.type "str") us) (EP X pins σ Q) X.xe s := by
  obtain ⟨x, hx, h1, h2, h3, rfl⟩ := shownD_some hz
  have dp := hv.dp hx
  obtain ⟨u, rfl, ru⟩ := vals1 r
  have fin : ∀ h' tk u', (∀ b o, s.heap.get? b = some o → h'.get? b = some o) → EP X pins σ Q (.str x.shown u') { s with heap := h', toks := tk } := fun h' tk u' hk => ⟨.str x.shown, H, I.kept hk, ⟨_, rfl⟩, q _ _ (Same.refl _) (.str _)⟩
  have nd := py_noDict hx
  obtain ⟨as, rd⟩ := Dp.reads I x v u dp ru
  have ok : (∃ l, x = .list l) ∨ ∃ l, x = .tuple l := by
    rcases hc with ⟨l, rfl⟩ | ⟨l, rfl⟩
    · unfold D.py at hx
      obtain ⟨k, _, rfl⟩ := map_some hx
      exact .inl ⟨_, rfl⟩
    · unfold D.py at hx
      obtain ⟨k, _, rfl⟩ := map_some hx
      exact .inr ⟨_, rfl⟩
  cases rd with
  | list a1 a2 a3 a4 => exact str_of_reads (h₀ := s.heap) (Reads.list a1 a2 a3 a4) h1 (PyData.noDict_hsm nd) hg (by omega) (fun _ _ z => z) (fun h' u' tk hk => fin h' tk u' hk) h2
  | tuple a1 a2 a3 a4 => exact str_of_reads (h₀ := s.heap) (Reads.tuple a1 a2 a3 a4) h1 (PyData.noDict_hsm nd) hg (by omega) (fun _ _ z => z) (fun h' u' tk hk => fin h' tk u' hk) h2
  | _ =>
    rcases ok with ⟨l, ok⟩ | ⟨l, ok⟩ <;> cases ok
theorem b_str (hg : X.A.guards = some []) (hu : X.A.units + 64 < cLine) : CallR X (.type "str") (rDN X.K gStr) := by
  intro pins s σ H xs us Q I r ⟨A, ds, d, t, p, e, q⟩
  unfold gStr at e
  split at e
  · rename_i a
    cases e
    obtain ⟨v, rfl, hv⟩ := one_arg p
    rw [hv.str] at r
    exact SkE.call_str_str pins s σ H _ us Q I r ⟨a, rfl, q _ _ (Same.refl _) (.str _)⟩
  · rename_i i
    obtain ⟨hz, rfl⟩ := ite_d (x := .str (toString i)) e
    obtain ⟨v, rfl, hv⟩ := one_arg p
    rw [hv.int] at r
    exact call_str_int pins s σ H _ us Q I r ⟨i, rfl, hz, q _ _ (Same.refl _) (.str _)⟩
  · rename_i l
    obtain ⟨z, hz, rfl⟩ := map_some e
    obtain ⟨v, rfl, hv⟩ := one_arg p
    exact str_seq hg hu I r hv (.inl ⟨l, rfl⟩) hz q
  · rename_i l
    obtain ⟨z, hz, rfl⟩ := map_some e
    obtain ⟨v, rfl, hv⟩ := one_arg p
    exact str_seq hg hu I r hv (.inr ⟨l, rfl⟩) hz q
  · cases e
theorem b_all (hc : X.calm = true) : CallR X (.builtin "all") (rDN X.K gAll) := by
  intro pins s σ H xs us Q I r ⟨A, ds, d, t, p, e, q⟩
  unfold gAll at e
  split at e
  · rename_i l
    obtain ⟨bs, hb, rfl⟩ := map_some e
    obtain ⟨v, rfl, hv⟩ := one_arg p
    obtain ⟨a, ys, rfl, h, rr⟩ := hv.lst
    rw [asBls_eq hb] at rr
    rw [rr.bls] at h
    exact cr_all hc pins s σ H _ us Q I r ⟨a, bs, rfl, SqL.of h, q _ _ (Same.refl _) (.bl _)⟩
  · cases e
theorem b_any (hc : X.calm = true) : CallR X (.builtin "any") (rDN X.K gAny) := by
  intro pins s σ H xs us Q I r ⟨A, ds, d, t, p, e, q⟩
  unfold gAny at e
  split at e
  · rename_i l
    obtain ⟨bs, hb, rfl⟩ := map_some e
    obtain ⟨v, rfl, hv⟩ := one_arg p
    obtain ⟨a, ys, rfl, h, rr⟩ := hv.lst
    rw [asBls_eq hb] at rr
    rw [rr.bls] at h
    exact cr_any hc pins s σ H _ us Q I r ⟨a, bs, rfl, SqL.of h, q _ _ (Same.refl _) (.bl _)⟩
  · cases e
theorem b_sum (hc : X.calm = true) : CallR X (.builtin "sum") (rDN X.K gSum) := by
  intro pins s σ H xs us Q I r ⟨A, ds, d, t, p, e, q⟩
  unfold gSum at e
  split at e
  · rename_i l
    obtain ⟨bs, hb, rfl⟩ := map_some e
    obtain ⟨v, rfl, hv⟩ := one_arg p
    obtain ⟨a, ys, rfl, h, rr⟩ := hv.lst
    rw [asInts_eq hb] at rr
    rw [rr.ints] at h
    exact cr_sum hc pins s σ H _ us Q I r ⟨a, bs, rfl, SqL.of h, q _ _ (Same.refl _) (.int _)⟩
  · cases e
theorem foldl_max {r : List Int} : ∀ {n : Int}, n ≤ r.foldl max n ∧ (∀ y ∈ r, y ≤ r.foldl max n) ∧ (r.foldl max n = n ∨ r.foldl max n ∈ r) := by
  induction r with
  | nil => intro n; exact ⟨Int.le_refl _, nofun, .inl rfl⟩
  | cons m r ih =>
    intro n
    rw [List.foldl_cons]
    obtain ⟨h1, h2, h3⟩ := ih (n := max n m)
    refine ⟨by omega, fun y hy => ?_, ?_⟩
    · rcases List.mem_cons.mp hy with z | z
      · omega
      · exact h2 y z
    · rcases h3 with z | z
      · rw [z]
        by_cases w : m ≤ n
        · exact .inl (by omega)
        · exact .inr (List.mem_cons.mpr (.inl (by omega)))
      · exact .inr (List.mem_cons_of_mem _ z)
theorem foldl_min {r : List Int} : ∀ {n : Int}, r.foldl min n ≤ n ∧ (∀ y ∈ r, r.foldl min n ≤ y) ∧ (r.foldl min n = n ∨ r.foldl min n ∈ r) := by
  induction r with
  | nil => intro n; exact ⟨Int.le_refl _, nofun, .inl rfl⟩
  | cons m r ih =>
    intro n
    rw [List.foldl_cons]
    obtain ⟨h1, h2, h3⟩ := ih (n := min n m)
    refine ⟨by omega, fun y hy => ?_, ?_⟩
    · rcases List.mem_cons.mp hy with z | z
      · omega
      · exact h2 y z
    · rcases h3 with z | z
      · rw [z]
        by_cases w : n ≤ m
        · exact .inl (by omega)
        · exact .inr (List.mem_cons.mpr (.inl (by omega)))
      · exact .inr (List.mem_cons_of_mem _ z)
theorem b_max (hc : X.calm = true) : CallR X (.builtin "max") (rDN X.K gMax) := by
  intro pins s σ H xs us Q I r ⟨A, ds, d, t, p, e, q⟩
  unfold gMax at e
  split at e
  · rename_i l
    obtain ⟨m, hb, rfl⟩ := map_some e
    cases hi : asInts l with
    | none => rw [hi] at hb; cases hb
    | some ns =>
      rw [hi] at hb
      have hb' : maxL ns = some m := hb
      obtain ⟨v, rfl, hv⟩ := one_arg p
      obtain ⟨a, ys, rfl, h, rr⟩ := hv.lst
      rw [asInts_eq hi] at rr
      rw [rr.ints] at h
      cases ns with
      | nil => cases hb'
      | cons n r' =>
        cases hb'
        obtain ⟨h1, h2, h3⟩ := foldl_max (r := r') (n := n)
        refine cr_max hc pins s σ H _ us Q I r ⟨a, n :: r', rfl, SqL.of h, Nat.succ_pos _, fun m hm hle => ?_⟩
        have e1 : m = r'.foldl max n := by
          refine Int.le_antisymm ?_ ?_
          · rcases List.mem_cons.mp hm with z | z
            · rw [z]; exact h1
            · exact h2 m z
          · rcases h3 with z | z
            · rw [z]; exact hle n List.mem_cons_self
            · exact hle _ (List.mem_cons_of_mem _ z)
        rw [e1]
        exact q _ _ (Same.refl _) (.int _)
  · rename_i i j
    cases e
    obtain ⟨v, w, rfl, hv, hw⟩ := two_args p
    cases hv
    cases hw
    exact call_max2 hc pins s σ H _ us Q I r ⟨i, j, rfl, q _ _ (Same.refl _) (.int _)⟩
  · cases e
theorem b_min (hc : X.calm = true) : CallR X (.builtin "min") (rDN X.K gMin) := by
  intro pins s σ H xs us Q I r ⟨A, ds, d, t, p, e, q⟩
  unfold gMin at e
  split at e
  · rename_i l
    obtain ⟨m, hb, rfl⟩ := map_some e
    cases hi : asInts l with
    | none => rw [hi] at hb; cases hb
    | some ns =>
      rw [hi] at hb
      have hb' : minL ns = some m := hb
      obtain ⟨v, rfl, hv⟩ := one_arg p
      obtain ⟨a, ys, rfl, h, rr⟩ := hv.lst
      rw [asInts_eq hi] at rr
      rw [rr.ints] at h
      cases ns with
      | nil => cases hb'
      | cons n r' =>
        cases hb'
        obtain ⟨h1, h2, h3⟩ := foldl_min (r := r') (n := n)
        refine cr_min hc pins s σ H _ us Q I r ⟨a, n :: r', rfl, SqL.of h, Nat.succ_pos _, fun m hm hle => ?_⟩
        have e1 : m = r'.foldl min n := by
          refine Int.le_antisymm ?_ ?_
          · rcases h3 with z | z
            · rw [z]; exact hle n List.mem_cons_self
            · exact hle _ (List.mem_cons_of_mem _ z)
          · rcases List.mem_cons.mp hm with z | z
            · rw [z]; exact h1
            · exact h2 m z
        rw [e1]
        exact q _ _ (Same.refl _) (.int _)
  · rename_i i j
    cases e
    obtain ⟨v, w, rfl, hv, hw⟩ := two_args p
    cases hv
    cases hw
    exact call_min2 hc pins s σ H _ us Q I r ⟨i, j, rfl, q _ _ (Same.refl _) (.int _)⟩
  · cases e
theorem b_listF (hc : X.calm = true) : CallR X (.type "list") (rFN X.K gList) := by
  intro pins s σ H xs us Q I r ⟨A, ds, d, t, p, e, q⟩
  unfold gList at e
  split at e
  · cases e
    obtain ⟨v, rfl, hv⟩ := one_arg p
    obtain ⟨a, ys, rfl, h, rr⟩ := hv.lst
    exact call_list_of pins s σ H _ us Q I r ⟨a, ys, rfl, .inl (SqL.of h), fun l hl => q _ _ (same_upd hl) (new_lst t rr hl) (new_fr t rr hl)⟩
  · cases e
    obtain ⟨v, rfl, hv⟩ := one_arg p
    obtain ⟨a, ys, rfl, h, rr⟩ := hv.tup
    exact call_list_of pins s σ H _ us Q I r ⟨a, ys, rfl, .inr h.sq, fun l hl => q _ _ (same_upd hl) (new_lst t rr hl) (new_fr t rr hl)⟩
  · cases e
    obtain ⟨v, rfl, hv⟩ := one_arg p
    obtain ⟨a, ys, rfl, h, rr⟩ := hv.scr
    exact call_list_of pins s σ H _ us Q I r ⟨a, ys, rfl, .inl h.sq, fun l hl => q _ _ (same_upd hl) (new_lst t rr hl) (new_fr t rr hl)⟩
  · rename_i z
    obtain ⟨hz, rfl⟩ := ite_d (x := .lst (chars z)) e
    obtain ⟨v, rfl, hv⟩ := one_arg p
    rw [hv.str] at r
    obtain ⟨u, rfl, ru⟩ := vals1 r
    obtain ⟨t0, rfl⟩ := ru
    have rr : RpA X.K A H ((z.cps.toList.map fun c => (⟨#[c]⟩ : Str)).map V.str) (chars z) := by
      have h := RpA.of_strs (K := X.K) (A := A) (H := H) (z.cps.toList.map fun c => (⟨#[c]⟩ : Str))
      unfold chars
      rw [List.map_map] at h ⊢
      rw [List.map_map] at h
      exact h
    have hl := I.hok.fresh (Nat.le_refl s.heap.objs.size)
    refine call_list_str (I.ok.hd hc) z t0 (fun h' tk acc c' hk e' hi => ?_) hz
    refine ⟨.ref s.heap.objs.size, upd H s.heap.objs.size (.lst ((z.cps.toList.map fun c => (⟨#[c]⟩ : Str)).map V.str)), I.laid hk (Nat.le_refl _) (show ObjOk X.prog X.w _ _ _ (.lst _) from ⟨?_, acc.toList, c', ?_, ?_⟩), rfl, q _ _ (same_upd hl) (new_lst t rr hl) (new_fr t rr hl)⟩
    · rw [List.length_map, List.length_map, Array.length_toList]
      exact hz
    · have e1 : acc.toList.length = z.cps.toList.length := by rw [Array.length_toList, Array.length_toList]; exact hi.1
      rw [List.map_map]
      refine vals_of_at (by rw [List.length_map, e1]) fun j x u hx hu => ?_
      rw [List.getElem?_map] at hx
      obtain ⟨c, k, hc2, rfl⟩ := hi.2 j u (by rw [← hu, Array.getElem?_toList])
      rw [Array.getElem?_toList, hc2] at hx
      cases hx
      exact ⟨k, rfl⟩
    · rw [Array.toArray_toList]
      exact e'
  · cases e
theorem b_list (hc : X.calm = true) : CallR X (.type "list") (rDN X.K gList) := rFN.weak (b_listF hc)
theorem b_tuple : CallR X (.type "tuple") (rDN X.K gTuple) := by
  intro pins s σ H xs us Q I r ⟨A, ds, d, t, p, e, q⟩
  unfold gTuple at e
  split at e
  · cases e
    obtain ⟨v, rfl, hv⟩ := one_arg p
    obtain ⟨a, ys, rfl, h, rr⟩ := hv.lst
    exact call_tuple_of pins s σ H _ us Q I r ⟨a, ys, rfl, .inl ⟨SqL.of h, fun l hl => q _ _ (same_upd hl) (new_tup t rr hl)⟩⟩
  · cases e
    obtain ⟨v, rfl, hv⟩ := one_arg p
    obtain ⟨a, ys, rfl, h, rr⟩ := hv.scr
    exact call_tuple_of pins s σ H _ us Q I r ⟨a, ys, rfl, .inl ⟨h.sq, fun l hl => q _ _ (same_upd hl) (new_tup t rr hl)⟩⟩
  · cases e
    obtain ⟨v, rfl, hv⟩ := one_arg p
    obtain ⟨a, ys, rfl, h, rr⟩ := hv.tup
    exact call_tuple_of pins s σ H _ us Q I r ⟨a, ys, rfl, .inr ⟨h.sq, q _ _ (Same.refl _) (.tup h rr)⟩⟩
  · cases e
end
theorem bt_len : bootBuiltins "len" = some (.builtin "len") := by decide +kernel
theorem bt_int : bootBuiltins "int" = some (.type "int") := by decide +kernel
theorem bt_str : bootBuiltins "str" = some (.type "str") := by decide +kernel
theorem bt_list : bootBuiltins "list" = some (.type "list") := by decide +kernel
theorem bt_tuple : bootBuiltins "tuple" = some (.type "tuple") := by decide +kernel
theorem bt_repr : bootBuiltins "repr" = some (.builtin "repr") := by decide +kernel
theorem bt_abs : bootBuiltins "abs" = some (.builtin "abs") := by decide +kernel
theorem bt_all : bootBuiltins "all" = some (.builtin "all") := by decide +kernel
theorem bt_any : bootBuiltins "any" = some (.builtin "any") := by decide +kernel
theorem bt_sum : bootBuiltins "sum" = some (.builtin "sum") := by decide +kernel
theorem bt_max : bootBuiltins "max" = some (.builtin "max") := by decide +kernel
theorem bt_min : bootBuiltins "min" = some (.builtin "min") := by decide +kernel
theorem bt_sorted : bootBuiltins "sorted" = some (.builtin "sorted") := by decide +kernel
theorem bt_isinstance : bootBuiltins "isinstance" = some (.builtin "isinstance") := by decide +kernel
end DL
namespace DL
open L2 PySem PySem.Spec PyProof.Rows

section
variable {X : Cx} {G : Gd} {XC : List Nat → Prop} {Ol O O' O1 : List Nat} {W : WX} {fr : Bool} {a b c e : Expr} {es : List Expr} {ma mb mc me : ME} {mr : MA} {pos p : Pos} {x y : Str}

def putP : List Nat → List D → En → Out
  | [], [], ρ => .nx ρ
  | i :: is, d :: ds, ρ => if i < ρ.length then putP is ds (ρ.set i (some d)) else .bad
  | _, _, _ => .bad
def msPar (is : List Nat) (m : MA) : MS := fun ρ => obind (m ρ) fun ds ρ1 => putP is ds ρ1
theorem ds_par {i j : Nat} {px py pt : Pos} {kt k2 pt2} (hx : XC O) (hc : X.calm = true) (hN : X.N.Nodup) (hi : X.N[i]? = some x) (hj : X.N[j]? = some y) (hij : i ≠ j) (oi : O.contains i = false) (oj : O.contains j = false)
    (hlx : X.env.scope.names.lookup x = some .local) (hly : X.env.scope.names.lookup y = some .local) (ha : DA X G O W [a, b] mr)
    (hw : swappedStores [.Tuple [.Name x px, .Name y py] kt pt] (.Tuple [a, b] k2 pt2) X.env = pure (some [x, y]) := by rfl)
    (hs : swapsWithSole [.Tuple [.Name x px, .Name y py] kt pt] (.Tuple [a, b] k2 pt2) pos.line X.env = pure false := by rfl) :
    DS X G XC Ol O O W fr (.Assign [.Tuple [.Name x px, .Name y py] kt pt] (.Tuple [a, b] k2 pt2) pos) (msPar [i, j] mr) := by
  have ni : i ∉ O := fun z => by rw [List.contains_iff_mem.mpr z] at oi; cases oi
  have nj : j ∉ O := fun z => by rw [List.contains_iff_mem.mpr z] at oj; cases oj
  refine ps_imp (ps_par hc hN hi hj hij hlx hly ha hw hs) fun D0 σ H ⟨A, ms, ρ, R, q⟩ => ⟨A, ms, ρ, R, eb hx q ?_⟩
  intro ds ρ1 vs H1 _ R1 k1 r q1
  cases r with
  | nil => exact q1.elim
  | cons r1 r =>
    cases r with
    | nil =>
      simp only [putP] at q1
      split at q1 <;> exact q1.elim
    | cons r2 r =>
      cases r with
      | cons _ _ =>
        simp only [putP] at q1
        split at q1
        · split at q1 <;> exact q1.elim
        · exact q1.elim
      | nil =>
        simp only [putP] at q1
        split at q1
        · rename_i h1
          split at q1
          · rename_i h2
            exact ⟨_, _, rfl, q1 _ H1 A ms ((R1.put ni h1 r1).put nj h2 r2) Tr.refl⟩
          · exact q1.elim
        · exact q1.elim
theorem ds_par3 {i j l : Nat} {z : Str} {px py pz pt : Pos} {kt k2 pt2} (hx : XC O) (hc : X.calm = true) (hN : X.N.Nodup) (hi : X.N[i]? = some x) (hj : X.N[j]? = some y) (hl : X.N[l]? = some z) (hij : i ≠ j) (hil : i ≠ l) (hjl : j ≠ l) (oi : O.contains i = false) (oj : O.contains j = false) (ol : O.contains l = false)
    (hlx : X.env.scope.names.lookup x = some .local) (hly : X.env.scope.names.lookup y = some .local) (hlz : X.env.scope.names.lookup z = some .local) (ha : DA X G O W [a, b, c] mr)
    (hw : swappedStores [.Tuple [.Name x px, .Name y py, .Name z pz] kt pt] (.Tuple [a, b, c] k2 pt2) X.env = pure (some [x, y, z]) := by rfl)
    (hs : swapsWithSole [.Tuple [.Name x px, .Name y py, .Name z pz] kt pt] (.Tuple [a, b, c] k2 pt2) pos.line X.env = pure false := by rfl) :
    DS X G XC Ol O O W fr (.Assign [.Tuple [.Name x px, .Name y py, .Name z pz] kt pt] (.Tuple [a, b, c] k2 pt2) pos) (msPar [i, j, l] mr) := by
  have ni : i ∉ O := fun z => by rw [List.contains_iff_mem.mpr z] at oi; cases oi
  have nj : j ∉ O := fun z => by rw [List.contains_iff_mem.mpr z] at oj; cases oj
  have nl : l ∉ O := fun z => by rw [List.contains_iff_mem.mpr z] at ol; cases ol
  refine ps_imp (ps_par3 hc hN hi hj hl hij hil hjl hlx hly hlz ha hw hs) fun D0 σ H ⟨A, ms, ρ, R, q⟩ => ⟨A, ms, ρ, R, eb hx q ?_⟩
  intro ds ρ1 vs H1 _ R1 k1 r q1
  cases r with
  | nil => exact q1.elim
  | cons r1 r =>
    cases r with
    | nil =>
      simp only [putP] at q1
      split at q1 <;> exact q1.elim
    | cons r2 r =>
      cases r with
      | nil =>
        simp only [putP] at q1
        split at q1
        · split at q1 <;> exact q1.elim
        · exact q1.elim
      | cons r3 r =>
        cases r with
        | cons _ _ =>
          simp only [putP] at q1
          split at q1
          · split at q1
            · split at q1 <;> exact q1.elim
            · exact q1.elim
          · exact q1.elim
        | nil =>
          simp only [putP] at q1
          split at q1
          · rename_i h1
            split at q1
            · rename_i h2
              split at q1
              · rename_i h3
                exact ⟨_, _, _, rfl, q1 _ H1 A ms (((R1.put ni h1 r1).put nj h2 r2).put nl h3 r3) Tr.refl⟩
              · exact q1.elim
            · exact q1.elim
          · exact q1.elim

def gFmt : D → Option D
  | .str y => if y.length ≤ sizeLine then some (.str y) else none
  | .int i => if i.natAbs.log2 < 1920 then some (.str (toString i)) else none
  | _ => none
theorem de_fmt (ha : DE X G O W e ma) : DE X G O W (.FormattedValue e (-1) none pos) (m1 gFmt ma) := by
  refine pe_imp (pe_fmt ha) fun σ H Q ⟨A, ms, ρ, R, q⟩ => ⟨A, ms, ρ, R, RPost.mono (RPost.bind q) ?_⟩
  rintro v H1 ⟨d, ρ1, R1, k1, r1, q1⟩
  obtain ⟨z, hz, q2⟩ := rp_of R1 q1
  cases d with
  | str y =>
    obtain ⟨hl, rfl⟩ := ite_d (x := .str y) hz
    cases r1
    exact .inl ⟨y, rfl, hl, q2 _ H1 (Same.refl _) (.str _)⟩
  | int i =>
    obtain ⟨hl, rfl⟩ := ite_d (x := .str (toString i)) hz
    cases r1
    exact .inr ⟨i, rfl, hl, q2 _ H1 (Same.refl _) (.str _)⟩
  | _ => cases hz
inductive DJ (X : Cx) (G : Gd) (O : List Nat) (W : WX) : List Expr → List ME → Prop where
  | nil : DJ X G O W [] []
  | cons {e : Expr} {m : ME} {es : List Expr} {ms : List ME} (h : DE X G O W e m) (r : DJ X G O W es ms) : DJ X G O W (e :: es) (m :: ms)
def mJs : List ME → Str → ME
  | [], acc, ρ => .ok (.str acc) ρ
  | m :: ms, acc, ρ => (m ρ).bind fun d ρ1 => match d with
    | .str y => if (acc ++ y).length ≤ sizeLine then mJs ms (acc ++ y) ρ1 else .bad
    | _ => .bad
theorem DJ.pj {es : List Expr} {ms : List ME} (h : DJ X G O W es ms) : PJ X es (ms.map (tE X.K G O W)) := by
  induction h with
  | nil => exact .nil
  | cons h r ih => exact .cons h ih
theorem js_go {K : PySem.W.Frag} {σ : L2.St} {Q : VK} : ∀ {ms : List ME} {acc : Str} {H : Hp}, tE K G O W (mJs ms acc) σ H Q → tJs (ms.map (tE K G O W)) acc σ H fun out H1 => Q (.str out) H1
  | [], acc, H, ⟨A, ms, ρ, R, q⟩ => q _ H R Kp.refl (.str _)
  | m :: r, acc, H, ⟨A, ms, ρ, R, q⟩ => by
    refine ⟨A, ms, ρ, R, RPost.mono (RPost.bind q) ?_⟩
    rintro v H1 ⟨d, ρ1, R1, k1, r1, q1⟩
    cases d with
    | str y =>
      cases r1
      have q2 : RPost K G O W A ms σ H1 (Rp K A) Q (if (acc ++ y).length ≤ sizeLine then mJs r (acc ++ y) ρ1 else .bad) := q1
      split at q2
      · rename_i hz
        exact ⟨y, rfl, hz, js_go ⟨A, ms, ρ1, R1, q2⟩⟩
      · exact q2.elim
    | _ => exact q1.elim
theorem de_joined {v1 v2 : Expr} {rest : List Expr} {ms : List ME} (h : DJ X G O W (v1 :: v2 :: rest) ms) : DE X G O W (.JoinedStr (v1 :: v2 :: rest) pos) (mJs ms Str.empty) := pe_imp (pe_joined h.pj) fun _ _ _ h => js_go h

def msRaise (c : Str) : MS := fun ρ => .ex ⟨c, []⟩ ρ
theorem ds_raise {C : Str} (hx : XC O) (hc : X.calm = true) (tk : L2N.Takes X W) (he : L2N.PMk X e (fun _ H Q => Q (.ref (He.ga X.K C)) none H)) : DS X G XC Ol O O' W fr (.Raise (some e) none pos) (msRaise C) := by
  refine ps_imp (L2N.ps_raise hc tk he) fun D0 σ H ⟨A, ms, ρ, R, q⟩ => ?_
  exact q none σ H A ms O hx R Tr.refl (.inl ⟨rfl, rfl⟩)

theorem pss_ex {ι : Type} {sts : List Stmt} {P : ι → Prop} {t : ι → TS} (h : ∀ i, P i → PSs X sts (t i)) : PSs X sts (fun D σ H => ∃ i, P i ∧ t i D σ H) := ⟨fun pins s σ H D I ⟨i, p, q⟩ => (h i p).run pins s σ H D I q⟩
def fgt (i : Nat) : Out → Out
  | .nx ρ => .nx (ρ.set i none)
  | .rt d ρ => .rt d ρ
  | .bk ρ => .bk (ρ.set i none)
  | .ct ρ => .ct (ρ.set i none)
  | .ex _ _ => .bad
  | .bad => .bad
def msTryAs (mt : Str → Option Bool) (i : Nat) (mb : MS) (ms : Str → MS) : MS := fun ρ => match mb ρ with
  | .ex y ρ1 => match mt y.c with
    | some true => match y.fs with
      | [] => if i < ρ1.length then fgt i (ms y.c (ρ1.set i none)) else .bad
      | _ => .bad
    | some false => .ex y ρ1
    | none => .bad
  | o => o
def Mt (X : Cx) (c : Value) (mt : Str → Option Bool) : Prop := ∀ y b, mt y = some b → PySem.W.exmOne X.K (.ref (He.ga X.K y)) c = some b
def Gd.at (G : Gd) (i : Nat) (a : Addr) (c : Str) : Gd := { G with px := some (i, a, c) }
theorem RelS.named {K : PySem.W.Frag} {A : Addr → Prop} {ms : Nat → Option Addr} {σ : L2.St} {H : Hp} {ρ : En} {i : Nat} {a : Addr} {c : Str} (R : RelS K G O A ms σ H ρ) (hi : i ∉ O) (hlt : i < ρ.length) (hn : G.px = none) (h0 : i ≠ 0 ∨ G.io = none) :
    RelS K (G.at i a c) (i :: O) A (fun j => if j = i then none else ms j) (σ.set i (some (.ref a))) H (ρ.set i none) := by
  have R1 := R.forget (O1 := i :: O) (NPx.no hn) h0 fun j hj => by simp [hj]
  have ne : ∀ {j : Nat} {z : D}, (ρ.set i none)[j]? = some (some z) → j ≠ i := fun {j z} e h => by
    subst h
    rw [List.getElem?_set_self hlt] at e; cases e
  exact {
    sub := R1.sub
    trk0 := R1.trk0
    trk := R1.trk
    keep := R1.keep
    len := by rw [List.length_set]; exact R1.len
    fz := fun j d e n => let ⟨v, e1, q⟩ := R1.fz j d e n; ⟨v, by rw [List.getElem?_set_ne (Ne.symm (ne e))]; exact e1, q⟩
    ow := fun j d e m => let ⟨p, e0, e1, q⟩ := R1.ow j d e m; ⟨p, e0, by rw [List.getElem?_set_ne (Ne.symm (ne e))]; exact e1, q⟩
    inA := R1.inA
    ok := R1.ok
    dist := R1.dist
    px := fun j a' c' e => by
      cases e
      exact ⟨List.mem_cons_self, List.getElem?_set_self (by rw [R.len]; exact hlt)⟩
    io := R1.io }
theorem RelS.unnamed {K : PySem.W.Frag} {A : Addr → Prop} {ms : Nat → Option Addr} {σ : L2.St} {H : Hp} {ρ : En} {i : Nat} {a : Addr} {c : Str} (R : RelS K (G.at i a c) (i :: O) A ms σ H ρ) (hi : i ∉ O) (hn : G.px = none) (h0 : i ≠ 0 ∨ G.io = none) :
    RelS K G O A (fun j => if j = i then none else ms j) (σ.set i none) H (ρ.set i none) := by
  have ne : ∀ {j : Nat} {z : D}, (ρ.set i none)[j]? = some (some z) → j ≠ i := fun {j z} e h => by
    subst h
    by_cases hl : j < ρ.length
    · rw [List.getElem?_set_self hl] at e; cases e
    · rw [List.getElem?_eq_none (by rw [List.length_set]; omega)] at e; cases e
  have g : ∀ {j : Nat} {z : D}, (ρ.set i none)[j]? = some (some z) → ρ[j]? = some (some z) := fun {j z} e => by
    have e' := e
    rw [set_get_ne (ne e)] at e'
    exact e'
  have sm : ∀ {j : Nat} {p : Addr}, (if j = i then none else ms j) = some p → j ≠ i ∧ ms j = some p := fun {j p} e => by
    by_cases h : j = i
    · rw [if_pos h] at e; cases e
    · rw [if_neg h] at e; exact ⟨h, e⟩
  exact {
    sub := R.sub
    trk0 := R.trk0
    trk := R.trk
    keep := R.keep
    len := by rw [List.length_set, List.length_set]; exact R.len
    fz := fun j d e n => by
      have nj := ne e
      obtain ⟨v, e1, q⟩ := R.fz j d (g e) fun m => (List.mem_cons.mp m).elim nj n
      exact ⟨v, by rw [List.getElem?_set_ne (Ne.symm nj)]; exact e1, q⟩
    ow := fun j d e m => by
      have nj := ne e
      obtain ⟨p, e0, e1, q⟩ := R.ow j d (g e) (List.mem_cons_of_mem _ m)
      exact ⟨p, (if_neg nj).trans e0, by rw [List.getElem?_set_ne (Ne.symm nj)]; exact e1, q⟩
    inA := fun j p m e => R.inA j p (List.mem_cons_of_mem _ m) (sm e).2
    ok := fun j p m e => R.ok j p (List.mem_cons_of_mem _ m) (sm e).2
    dist := fun j j' p m m' e e' => R.dist j j' p (List.mem_cons_of_mem _ m) (List.mem_cons_of_mem _ m') (sm e).2 (sm e').2
    px := fun j a' c' e => by rw [hn] at e; cases e
    io := fun p e => by
      obtain ⟨h1, h2, h3, z, h4⟩ := R.io p e
      have n0 : (0 : Nat) ≠ i := fun w => by
        rcases h0 with k | k
        · exact k w.symm
        · rw [k] at e; cases e
      exact ⟨(List.mem_cons.mp h1).resolve_left n0, h2, (if_neg n0).trans h3, z, by rw [set_get_ne n0]; exact h4⟩ }
theorem ds_tryAs {n : Str} {c : Value} {i : Nat} {body suite : List Stmt} {b₀ : Stmt} {np pos' : Pos} {mt : Str → Option Bool} {mb : MS} {ms : Str → MS} (hx : XC O) (hs : X.stack = X.env :: X.outer) (hf : X.env.frame = some X.env.locals) (hN : X.N.Nodup) (hi : X.N[i]? = some n) (hln : X.env.kindOf n = some .local) (hc : Names X x c) (tk : L2N.Takes X W)
    (hmt : Mt X c mt) (oi : O.contains i = false) (h0 : i ≠ 0 ∨ G.io = none) (hn : G.px = none)
    (hb : ∀ (W : WX) (pn : List (Addr × Obj)) (xe : Value → Shared → Prop), L2N.Takes (X.tr pn xe) W → PassesOwn (model X.prog X.w) X.A X.env xe → DSs (X.tr pn xe) G (fun o => o = O) Ol O O W fr body mb)
    (hsu : ∀ (a : Addr) (oe : Obj) (k : Str) (pn : List (Addr × Obj)), L2N.Zn (.ref (He.ga X.K k)) none oe → (∃ vs, oe.data = .fields vs) → mt k = some true → DSs (X.suite a ((a, oe) :: pn)) (G.at i a k) (fun o => o = i :: O) (i :: Ol) (i :: O) (i :: O) W0 fr (b₀ :: suite) (ms k))
    (nol : Ol.contains i = false) :
    DS X G XC Ol O O W fr (.Try body [.ExceptHandler (some (.Name x np)) (some n) (b₀ :: suite) pos'] [] [] pos) (msTryAs mt i mb ms) := by
  have ni : i ∉ O := fun z => by rw [List.contains_iff_mem.mpr z] at oi; cases oi
  have nl : i ∉ Ol := fun z => by rw [List.contains_iff_mem.mpr z] at nol; cases nol
  let ts : Addr → Value → Option Addr → TS := fun a cls d D σ H => ∃ k : Str, (cls = .ref (He.ga X.K k) ∧ d = none ∧ mt k = some true) ∧ tS X.K (G.at i a k) (fun o => o = i :: O) (i :: Ol) (i :: O) (i :: O) W0 fr (ms k) D σ H
  refine ps_imp (L2N.ps_try_as (ts := ts) (Wout := W) (tb := fun W => tS X.K G (fun o => o = O) Ol O O W fr mb) hs hf hN hi hln hc tk (fun W pn xe t p => hb W pn xe t p) (fun a oe cls d pn hz hd => ?_)) fun D0 σ H ⟨A, ms', ρ, R, q⟩ => ?_
  · refine pss_ex fun k ⟨e1, e2, e3⟩ => ?_
    subst e1 e2
    exact hsu a oe k pn hz hd e3
  · refine ⟨A, ms', ρ, R, ?_⟩
    unfold msTryAs at q
    cases hm : mb ρ with
    | nx ρ1 => rw [hm] at q; exact q
    | rt d ρ1 => rw [hm] at q; exact q
    | bk ρ1 => rw [hm] at q; exact q
    | ct ρ1 => rw [hm] at q; exact q
    | bad => rw [hm] at q; exact q.elim
    | ex y ρ1 =>
      rw [hm] at q
      intro dx σ1 H1 A1 ms1 O'' hO R1 t1 xr
      have hO' : O'' = O := hO
      subst hO'
      have q1 := SPost.from t1 q
      have q1 : SPost X.K G XC Ol O'' W fr A1 H1 D0 (match mt y.c with
        | some true => match y.fs with
          | [] => if i < ρ1.length then fgt i (ms y.c (ρ1.set i none)) else .bad
          | _ => .bad
        | some false => .ex y ρ1
        | none => .bad) := q1
      cases hb1 : mt y.c with
      | none => simp only [hb1] at q1; exact q1.elim
      | some b =>
        simp only [hb1] at q1
        refine ⟨b, hmt _ _ hb1, fun e1 a na => ?_, fun e1 => ?_⟩
        · subst e1
          obtain ⟨yc, yf⟩ := y
          cases yf with
          | cons _ _ => exact q1.elim
          | nil =>
            have q2 : SPost X.K G XC Ol O'' W fr A1 H1 D0 (if i < ρ1.length then fgt i (ms yc (ρ1.set i none)) else .bad) := q1
            have dn : dx = none := by
              rcases xr with ⟨_, z⟩ | ⟨z, _⟩
              · exact z
              · exact absurd rfl z
            subst dn
            split at q2
            · rename_i hlt
              refine ⟨yc, ⟨rfl, rfl, hb1⟩, A1, _, _, R1.named ni hlt hn h0, ?_⟩
              cases hr : ms yc (ρ1.set i none) with
              | nx ρ2 => rw [hr] at q2; exact fun σ' H' A' ms' R' t => q2 _ H' A' _ (R'.unnamed ni hn h0) t
              | bk ρ2 => rw [hr] at q2; exact fun σ' H' A' ms' R' t => q2 _ H' A' _ (R'.unnamed nl hn h0) t
              | ct ρ2 => rw [hr] at q2; exact fun σ' H' A' ms' R' t => q2 _ H' A' _ (R'.unnamed nl hn h0) t
              | rt d ρ2 => rw [hr] at q2; exact q2
              | ex z ρ2 => rw [hr] at q2; exact q2.elim
              | bad => rw [hr] at q2; exact q2.elim
            · exact q2.elim
        · subst e1
          have q2 : SPost X.K G XC Ol O'' W fr A1 H1 D0 (.ex y ρ1) := q1
          exact q2 dx σ1 H1 A1 ms1 O'' hx R1 Tr.refl xr
end
end DL
namespace DL
open L2 PySem PySem.Spec PyProof.Rows
section
variable {X : Cx} {G : Gd} {XC : List Nat → Prop} {Ol O O' O1 : List Nat} {W : WX} {fr : Bool} {a b c e o : Expr} {es : List Expr} {ma mb mc me mo : ME} {mr : MA} {pos p apos : Pos} {x y : Str}

theorem de_isE {i : Nat} {n C k : Str} {v : Bool} {ad : Addr} {np cp : Pos} (hpx : G.px = some (i, ad, k)) (hC : CallR X (.builtin "isinstance") (rIsE X.K (He.ga X.K k) ad)) (ht : PySem.W.kitOne X.K (.ref (He.ga X.K k)) (.ref (He.ga X.K C)) = some v)
    (hg : Gl X "isinstance") (hm : X.mg "isinstance" = none) (hN : X.N[i]? = some n) (hv : Vis X.env.scope n) (hcg : Gl X C) (hcm : X.mg C = some (.ref (He.ga X.K C)))
    (hd1 : (n == ("__debug__" : Str)) = false := by decide) (hd2 : (n == ("__classdict__" : Str)) = false := by decide) (hd3 : (C == ("__debug__" : Str)) = false := by decide)
    (he : starEach [.Name n np, .Name C cp] X.env = (false, eval (.Name n np) X.env) :: starEach [.Name C cp] X.env := by rfl) (he2 : starEach [.Name C cp] X.env = (false, eval (.Name C cp) X.env) :: starEach [] X.env := by rfl) (hpl : (backTo pos (starEach [.Name C cp] X.env)).any (·.1) = false := by rfl) :
    DE X G O W (.Call (.Name "isinstance" p) [.Name n np, .Name C cp] [] pos) (mK (.bl v)) := by
  refine pe_imp (pe_callB hC hg hm bt_isinstance (pa_cons (pe_var hN hv hd1 hd2) (pa_cons (pe_glob (v := .ref (He.ga X.K C)) hcg hcm rfl hd3) pa_nil he2) he) (by decide) (by decide) he hpl) fun σ H Q ⟨A, ms, ρ, R, q⟩ => ?_
  obtain ⟨_, h1⟩ := R.px i ad k hpx
  exact ⟨_, h1, .ref (He.ga X.K C), .ref (He.ga X.K C), v, rfl, fun u r => r, ht, q _ H R Kp.refl (.bl v)⟩

theorem FnG.weak {P : Program} {w : World} {K : PySem.W.Frag} {mg : Str → Option Value} {base : Heap} {k : Nat} {f : Addr} {F : FN} (h : FnG P w K mg base k f false true F) : FnG P w K mg base k f false false F := by
  refine ⟨fun A outer s H us vs Q E hr hg e0 rv ⟨A0, q, ds, t, hq, ar, post⟩ => h.run A outer s H us vs Q E hr hg e0 rv ⟨A0, q, ds, t, hq, ar, ?_⟩, h.kp⟩
  cases hF : F ds with
  | bad => rw [hF] at post; exact post.elim
  | ex x o => rw [hF] at post; exact post
  | rt d o =>
    rw [hF] at post
    intro v H' ki rr
    obtain ⟨r, rfl, hr, ow, oo⟩ := (show ∃ r, v = .ref r ∧ H r = none ∧ Own K (fun a => A0 a ∨ a = r) H' r d ∧ ∀ p, q = some p → Own K (fun a => A0 a ∨ a = r) H' p o from rr)
    have nr : ¬ A0 r := t.no hr
    exact post _ H' ki ⟨ow.freeze (fun a z => .inl z) nr, fun p e => (oo p e).less fun a z => .inl z⟩
def Tab (X : Cx) (k : Nat) (tab : Str → Option FN) : Prop := ∀ x F, tab x = some F → FnG X.prog X.w X.K X.mg X.base k (He.ga X.K x) false false F
def mCallV (tab : Str → Option FN) (f : ME) (args : MA) : ME := fun ρ => (f ρ).bind fun d ρ1 => match d with
  | .fn x => match tab x with
    | some F => mCall F args ρ1
    | none => .bad
  | _ => .bad
theorem de_callV {k : Nat} {tab : Str → Option FN} {f : Expr} {mf : ME} (T : Tab X k tab) (hr : Room k X.A) (hg : X.A.guards = some []) (tk : L2N.Takes X W) (hf : DE X G O W f mf) (ha : DA X G O W (e :: es) mr)
    (ht : eval (.Call f (e :: es) [] pos) X.env = (do callWith pos (← eval f X.env) [] (backTo pos (starEach (e :: es) X.env)) (backToKw pos (keywordEach [] X.env))) := by rfl)
    (he : starEach (e :: es) X.env = (false, eval e X.env) :: starEach es X.env := by rfl) (hpl : (backTo pos (starEach es X.env)).any (·.1) = false := by rfl) : DE X G O W (.Call f (e :: es) [] pos) (mCallV tab mf mr) := by
  refine ⟨fun pins s σ H Q I ⟨A, ms, ρ, R, q⟩ => ?_⟩
  refine Call_ (thn (PE.run hf pins s σ H (fun y H1 => ∃ d ρ1, RelS X.K G O A ms σ H1 ρ1 ∧ Kp O ms H H1 ∧ Rp X.K A H1 y d ∧ RPost X.K G O W A ms σ H1 (Rp X.K A) Q (match d with
    | .fn x => match tab x with
      | some F => mCall F mr ρ1
      | none => .bad
    | _ => .bad)) I ⟨A, ms, ρ, R, RPost.bind q⟩) fun u s1 ⟨y, H1, I1, ry, d, ρ1, R1, k1, r1, q1⟩ => ?_) ht
  cases d with
  | fn x =>
    cases hT : tab x with
    | none => simp only [hT] at q1; exact q1.elim
    | some F =>
      simp only [hT] at q1
      cases r1
      obtain rfl : u = Value.ref (He.ga X.K x) := ry
      have C := T x F hT
      have q2 : tCallG X.K false false F W (tA X.K G O W mr) σ H1 Q := call_goE ⟨A, ms, ρ1, R1, q1⟩
      exact PySem.W.callWith_K (h₀ := X.base) I1.ok.mod.kin C.kp (thn (ha.run pos pins s1 σ H1 _ I1 q2) fun us s2 ⟨vs, H2, I2, r, q3⟩ => ⟨I2.kIn, run_fnG C hr hg tk I2 r q3⟩) he hpl
  | _ => exact q1.elim

def rMD (K : PySem.W.Frag) (g : D → List D → Option D) : V → List V → Hp → VK → Prop := fun x xs H Q => ∃ A c ds d, Trk A H ∧ RpB K A H x c ∧ (RpA K A H xs ds ∨ ∃ v c, xs = [v] ∧ ds = [c] ∧ RpB K A H v c) ∧ g c ds = some d ∧ ∀ v H', Same H H' → Rp K A H' v d → Fr K A H H' v d → Q v H'
def isStr : D → Bool
  | .str _ => true
  | _ => false
def mM (g : D → List D → Option D) (o : ME) (args : MA) : ME := fun ρ => (o ρ).bind fun x ρ1 => if isStr x = true then (args ρ1).bind fun xs ρ2 => ret (g x xs) ρ2 else .bad
def mMF (g : D → List D → Option D) (o : ME) (args : MA) : ME := fun ρ => (o ρ).bind fun x ρ1 => if isStr x = true then (args ρ1).bind fun xs ρ2 => ret ((g x xs).bind isL) ρ2 else .bad
theorem strm_go {K : PySem.W.Frag} {g : D → List D → Option D} {σ : L2.St} {H : Hp} {Q : VK} (h : tE K G O W (mM g mo mr) σ H Q) : tBM K "str" (rMD K g) (tE K G O W mo) (tA K G O W mr) σ H Q := by
  obtain ⟨A, ms, ρ, R, q⟩ := h
  refine ⟨A, ms, ρ, R, RPost.mono (RPost.bind q) ?_⟩
  rintro v H1 ⟨d, ρ1, R1, k1, r1, q1⟩
  split at q1
  · cases d with
    | str z =>
      cases r1
      refine ⟨rfl, A, ms, ρ1, R1, RPost.mono (RPost.bind q1) ?_⟩
      rintro vs H2 ⟨ds, ρ2, R2', k2, r2, q2⟩
      obtain ⟨z', hz, q3⟩ := rp_of R2' q2
      exact ⟨A, _, ds, z', R2'.trk, .of (.str z), .inl r2, hz, fun v H' s r _ => q3 v H' s r⟩
    | _ => rename_i h; cases h
  · exact q1.elim
theorem strmF_go {K : PySem.W.Frag} {g : D → List D → Option D} {σ : L2.St} {H : Hp} {Q : VK} (h : tF K G O W (mMF g mo mr) σ H Q) : tBM K "str" (rMD K g) (tE K G O W mo) (tA K G O W mr) σ H Q := by
  obtain ⟨A, ms, ρ, R, q⟩ := h
  refine ⟨A, ms, ρ, R, RPost.mono (FPost.bind q) ?_⟩
  rintro v H1 ⟨d, ρ1, R1, k1, r1, q1⟩
  split at q1
  · cases d with
    | str z =>
      cases r1
      refine ⟨rfl, A, ms, ρ1, R1, RPost.mono (FPost.bind q1) ?_⟩
      rintro vs H2 ⟨ds, ρ2, R2', k2, r2, q2⟩
      obtain ⟨z', hz⟩ := fp_some q2
      exact ⟨A, _, ds, _, R2'.trk, .of (.str z), .inl r2, hz, fun v H' s r f => fp_fin q2 hz R2' s f⟩
    | _ => rename_i h; cases h
  · exact q1.elim
section
variable {name : Str} {id : String} {g : D → List D → Option D}
theorem de_sm (slot : Slot "str" name id) (hty : typeOf (.builtin id) = pure (.type "method_descriptor")) (hm : MtR X id (rMD X.K g)) (ho : DE X G O W o mo) (ha : DA X G O W (e :: es) mr)
    (hbase : attributeBase o name X.env (eval o X.env) = eval o X.env := by rfl)
    (hfew : ((backTo pos (starEach (e :: es) X.env)).all (fun x => !x.1) && (backToKw pos (keywordEach [] X.env)).all (fun x => x.1.isSome)
      && decide ((e :: es).length + ([] : List Keyword).length + (if ([] : List Keyword).isEmpty then 0 else 1) < 30)) = true := by rfl)
    (hline : (apos.endLine == pos.line) = true := by rfl) (hs : starEach (e :: es) X.env = (false, eval e X.env) :: starEach es X.env := by rfl) (hplain : (backTo pos (starEach es X.env)).any (·.1) = false := by rfl) :
    DE X G O W (.Call (.Attribute o name apos) (e :: es) [] pos) (mM g mo mr) := pe_imp (pe_bm PySem.F.plainAttrs_str slot hty hm ho ha hbase hfew hline hs hplain) fun _ _ _ h => strm_go h
theorem df_sm (slot : Slot "str" name id) (hty : typeOf (.builtin id) = pure (.type "method_descriptor")) (hm : MtR X id (rMD X.K g)) (ho : DE X G O W o mo) (ha : DA X G O W (e :: es) mr)
    (hbase : attributeBase o name X.env (eval o X.env) = eval o X.env := by rfl)
    (hfew : ((backTo pos (starEach (e :: es) X.env)).all (fun x => !x.1) && (backToKw pos (keywordEach [] X.env)).all (fun x => x.1.isSome)
      && decide ((e :: es).length + ([] : List Keyword).length + (if ([] : List Keyword).isEmpty then 0 else 1) < 30)) = true := by rfl)
    (hline : (apos.endLine == pos.line) = true := by rfl) (hs : starEach (e :: es) X.env = (false, eval e X.env) :: starEach es X.env := by rfl) (hplain : (backTo pos (starEach es X.env)).any (·.1) = false := by rfl) :
    DF X G O W (.Call (.Attribute o name apos) (e :: es) [] pos) (mMF g mo mr) := pe_imp (pe_bm PySem.F.plainAttrs_str slot hty hm ho ha hbase hfew hline hs hplain) fun _ _ _ h => strmF_go h
end
def gSplit (x : D) (xs : List D) : Option D := match x, xs with
  | .str a, [.str b] => if (b.length == 0) = false ∧ a.length + 2 ≤ sizeLine then some (.lst ((Txt.split a b).map D.str)) else none
  | _, _ => none
def gJoin (x : D) (xs : List D) : Option D := match x, xs with
  | .str a, [.lst l] => match asStrs l with
    | some ys => if (ys.map (·.length)).sum + ys.length * a.length ≤ 16777216 then some (.str (Txt.join a ys)) else none
    | none => none
  | _, _ => none
theorem mt_splitD : MtR X "str.split" (rMD X.K gSplit) := by
  rintro pins s σ H v xs u us Q I rx rs ⟨A, c, ds, d, t, rc, ra, hg, q⟩
  unfold gSplit at hg
  split at hg
  · rename_i a b
    obtain ⟨hz, rfl⟩ := ite_d (x := .lst ((Txt.split a b).map D.str)) hg
    rw [rc.str] at rx
    obtain ⟨w, rfl, hw⟩ := one_arg ra
    rw [hw.str] at rs
    refine mt_split pins s σ H _ _ u us Q I rx rs ⟨a, b, rfl, rfl, hz.1, hz.2, fun r hr => ?_⟩
    exact q _ _ (same_upd hr) (new_lst t (RpA.of_strs _) hr) (new_fr t (RpA.of_strs _) hr)
  · cases hg
theorem mt_joinD : MtR X "str.join" (rMD X.K gJoin) := by
  rintro pins s σ H v xs u us Q I rx rs ⟨A, c, ds, d, t, rc, ra, hg, q⟩
  unfold gJoin at hg
  split at hg
  · rename_i a l
    split at hg
    · rename_i ys hy
      obtain ⟨hz, rfl⟩ := ite_d (x := .str (Txt.join a ys)) hg
      rw [rc.str] at rx
      obtain ⟨w, rfl, hw⟩ := one_arg ra
      obtain ⟨p, zs, rfl, h1, r1⟩ := hw.lst
      rw [asStrs_eq hy] at r1
      rw [r1.strs] at h1
      exact mt_join pins s σ H _ _ u us Q I rx rs ⟨a, p, ys, rfl, rfl, .inl (SqL.of h1), hz, q _ _ (Same.refl _) (.str _) (no_fr fun _ => nofun)⟩
    · cases hg
  · cases hg
def mJoinO (o : ME) (j : Nat) : ME := fun ρ => (o ρ).bind fun x ρ1 => if isStr x = true then match getO ρ1 j with
  | some (.lst l) => ret (gJoin x [.lst l]) ρ1
  | _ => .bad
  else .bad
theorem de_joinO {j : Nat} (hj : O.contains j = true) (ho : DE X G O W o mo) (hy : PE X e (tVar j))
    (hbase : attributeBase o "join" X.env (eval o X.env) = eval o X.env := by rfl)
    (hfew : ((backTo pos (starEach [e] X.env)).all (fun x => !x.1) && (backToKw pos (keywordEach [] X.env)).all (fun x => x.1.isSome)
      && decide (([e] : List Expr).length + ([] : List Keyword).length + (if ([] : List Keyword).isEmpty then 0 else 1) < 30)) = true := by rfl)
    (hline : (apos.endLine == pos.line) = true := by rfl) (hs : starEach [e] X.env = (false, eval e X.env) :: starEach [] X.env := by rfl) (hplain : (backTo pos (starEach [] X.env)).any (·.1) = false := by rfl) :
    DE X G O W (.Call (.Attribute o "join" apos) [e] [] pos) (mJoinO mo j) := by
  refine pe_imp (pe_bm PySem.F.plainAttrs_str PySem.F.slot_str_join PySem.F.type_str_join mt_joinD ho (pa_own hy hs) hbase hfew hline hs hplain) fun σ H Q ⟨A, ms, ρ, R, q⟩ => ?_
  refine ⟨A, ms, ρ, R, RPost.mono (RPost.bind q) ?_⟩
  rintro v H1 ⟨d, ρ1, R1, k1, r1, q1⟩
  split at q1
  · cases d with
    | str z =>
      cases r1
      refine ⟨rfl, ?_⟩
      split at q1
      · rename_i l hl
        obtain ⟨pj, h1, h2, h3⟩ := own_at R1 hj hl
        obtain ⟨z', hz, q3⟩ := rp_of R1 q1
        exact ⟨_, h2, A, _, _, z', R1.trk, .of (.str z), .inr ⟨_, _, rfl, rfl, own_b h3⟩, hz, fun v H' s r _ => q3 v H' s r⟩
      · exact q1.elim
    | _ => rename_i h; cases h
  · exact q1.elim
end
end DL
namespace DL
open L2 PySem PySem.Spec PyProof.Rows

theorem lawG {P : Program} {w : World} {K : PySem.W.Frag} {mg mB : Str → Option Value} {k : Nat} {fL sc : Addr} {F : FN} {t0 : Shared} {ws : List Value} {zs : List Int} {o : D} (kin : K.In t0.heap) (nsG : t0.heap.Ns mainGlobals mg) (nsB : t0.heap.Ns builtinsNs mB)
    (bB : ∀ y : Str, y ≠ "__name__" → mB y = bootBuiltins y) (noL : t0.heap.NoLimit) (noG : t0.gens = #[]) (hsc : t0.heap.get? sc = some { cls := .type "list", data := .seq ws.toArray }) (itg : IntsAre ws zs) (few : zs.length ≤ sizeLine) (room : Room k callerA)
    (C : ∀ base : Heap, K.In base → base.Ns mainGlobals mg → FnG P w K mg base k fL false false F) (hF : F [.scr (zs.map D.int)] = .rt (.bl true) o) :
    codeAny (model P w) callerA (.call (.ref fL) ⟨[.ref sc], []⟩) (fun r t => r = .ok (.ret (.bool true)) ∧ OldK t0.heap t.heap ∧ t.os = t0.os ∧ AllBare t.gens) t0 := by
  have rz := vals_ints itg
  have lz := itg.length
  have main : ∀ J : Hp, Only J → SqL K J sc (zs.map V.int) → HOk P w J t0.heap → (∀ b, J b ≠ none → b = sc) → (J sc ≠ none → K.lookup sc = none) →
      codeAny (model P w) callerA (.call (.ref fL) ⟨[.ref sc], []⟩) (fun r t => r = .ok (.ret (.bool true)) ∧ OldK t0.heap t.heap ∧ t.os = t0.os ∧ AllBare t.gens) t0 := by
    intro J only sq ok1 at1 no1
    have keepB : ∀ {b : Addr} {ob : Obj}, t0.heap.get? b = some ob → J b = none → (hidT t0.heap J).get? b = some ob := fun x y => hidT_get x y
    have noDict : ∀ {b : Addr} {ob : Obj} {es : Array DictEntry} {ep : Nat}, t0.heap.get? b = some ob → ob.data = .dict es ep → J b = none := fun {b ob es ep} x y => by
      cases z : J b with
      | none => rfl
      | some u =>
        obtain rfl : b = sc := at1 b (by rw [z]; simp)
        rw [hsc] at x
        cases x
        cases (show Data.seq ws.toArray _ = Data.dict es ep from y)
    have nsT : ∀ {b : Addr} {m : Str → Option Value}, t0.heap.Ns b m → (hidT t0.heap J).Ns b m := fun {b m} ⟨ob, es, ep, x, y, r⟩ => ⟨ob, es, ep, keepB x (noDict x y), y, r⟩
    have kinB : K.In (hidT t0.heap J) := fun b ob x => keepB (kin b ob x) (by
      cases z : J b with
      | none => rfl
      | some u =>
        obtain rfl : b = sc := at1 b (by rw [z]; simp)
        rw [no1 (by rw [z]; simp)] at x
        cases x)
    have modB : Mod K mg (hidT t0.heap J) := ⟨kinB, nsT nsG, ⟨mB, nsT nsB, bB⟩, let ⟨m1, x, y⟩ := noL; ⟨m1, nsT x, y⟩⟩
    have env0 : Env0 P w K mg (hidT t0.heap J) callerA [] t0 J := ⟨rfl, modB, fun b ob x => of_hidT x, Nat.le_of_eq (hidT_size _ _), trivial, fun b hb => absurd (show b ∈ ([] : List Addr) from hb) List.not_mem_nil, ok1, .of_eq noG⟩
    have sp1 : spD K false false F [.ref sc] J (fun v _ => v = .bl true) (fun _ _ _ => False) := by
      refine ⟨fun _ => False, none, [.scr (zs.map D.int)], fun _ z => z.elim, rfl, ?_, ?_⟩
      · exact .cons (.scr (sq.imp (fun z => ⟨z, fun z => z⟩) id) (RpA.of_ints zs)) .nil
      · rw [hF]
        intro v J' _ rr
        have rr' : Rp K (fun _ => False) J' v (.bl true) := rr.1
        cases rr'
        rfl
    refine codeAny_mono ((C _ kinB (nsT nsG)).run callerA [] t0 J [.ref sc] [.ref sc] _ _ room rfl env0 (.cons rfl .nil) sp1) fun r t hr => ?_
    cases r with
    | error e =>
      obtain ⟨_, _, _, _, _, _, _, _, _, _, _, _, z⟩ := (show L2N.CX P w [] J t0 (fun _ _ _ => False) e t from hr)
      exact z.elim
    | ok fl =>
      cases fl with
      | next => exact hr.elim
      | brk => exact hr.elim
      | cont => exact hr.elim
      | ret u =>
        obtain ⟨v, J', os1, bare1, un1, ok2, rv, qv⟩ := hr
        obtain rfl : v = .bl true := qv
        obtain rfl : u = Value.bool true := rv
        refine ⟨rfl, OldK.of_keep fun b ob x => ?_, os1, bare1⟩
        cases z : J b with
        | none => exact un1.keep b ob x z (fun y => absurd (show b ∈ ([] : List Addr) from y) List.not_mem_nil) List.not_mem_nil
        | some u =>
          rcases only b with y | ⟨o1, xs, y⟩
          · rw [z] at y; cases y
          · obtain ⟨g1, _⟩ := ok1 b _ y
            obtain ⟨g2, _⟩ := ok2 b _ (un1.frzs b o1 _ y)
            rw [x] at g1
            cases g1
            exact g2
  cases lk : K.lookup sc with
  | some ob =>
    have x := kin sc ob lk
    rw [hsc] at x
    cases x
    exact main (fun _ => none) (fun _ => .inl rfl) (.inr ⟨_, ws.toArray, _, lk, rfl, rfl, rfl, by rw [List.size_toArray, lz]; exact few, by simpa using rz⟩) (fun b u z => by cases (show (none : Option HO) = some u from z)) (fun b z => absurd rfl z) fun z => absurd rfl z
  | none =>
    let ob : Obj := { cls := .type "list", data := .seq ws.toArray }
    refine main (fun b => if b = sc then some (.frz ob (.lst (zs.map V.int))) else none) (fun b => ?_) (.inl (.inr ⟨ob, if_pos rfl⟩)) (fun b u z => ?_) (fun b z => ?_) fun _ => lk
    · by_cases hb : b = sc
      · exact .inr ⟨_, _, if_pos hb⟩
      · exact .inl (if_neg hb)
    · by_cases hb : b = sc
      · cases (if_pos hb).symm.trans z
        subst hb
        exact ⟨hsc, by rw [List.length_map]; exact few, ws, _, rz, hsc⟩
      · cases (if_neg hb).symm.trans z
    · by_cases hb : b = sc
      · exact hb
      · exact absurd (if_neg hb) z
theorem walkG {l : PySem.W.OpenLaw} {n k : Nat} {q : Program} {loose : List Str} {XP : (Str → Option Value) → Heap → Prop} {YP : World → Heap → Prop} {d : DefRec} {F : FN} (hn : l.most = some n) (hn2 : n ≤ sizeLine) (hdf : d.params.defaults = []) (room : Room k callerA)
    (C : ∀ (w : World) (mg : Str → Option Value) (fL : Addr) (h : Heap), YP w h → h.Ns mainGlobals mg → mg d.name = some (.ref fL) → ∃ K : PySem.W.Frag, K.In h ∧ ∀ base : Heap, K.In base → base.Ns mainGlobals mg → FnG l.prog w K mg base k fL false false F)
    (hF : ∀ zs : List Int, zs.length ≤ n → ∃ o, F [.scr (zs.map D.int)] = .rt (.bl true) o) : PySem.W.WalkO q loose XP YP l.row.toRowW d [] (fun f vs => PySem.call f vs) := by
  refine Att.attach_call hn hdf fun w t1 t0 mg mB fL o pm cd doc sc ws zs G Y ho hd hcd hmg hobj hints hlen hg => ?_
  obtain ⟨K, kin, hC⟩ := C w mg fL _ Y G.T.g hmg
  obtain ⟨o', e⟩ := hF zs hlen
  exact lawG kin G.T.g G.T.b G.T.builtins G.T.nolimit hg hobj hints (Nat.le_trans hlen hn2) room hC e
abbrev Ok (P : Program) (w : World) (K : PySem.W.Frag) (mg : Str → Option Value) (k : Nat) (x : Str) (io fr : Bool) (F : FN) : Prop := ∀ base : Heap, FnG P w K mg base k (He.ga K x) io fr F

theorem guards_deeper {A : Around} {e : Env} (h : A.guards = some []) : (A.deeper e).guards = some [] := h
theorem Room.u64 {k : Nat} {A : Around} (r : Room k A) : A.units + 64 < cLine := by have := r.un; omega
theorem Room.u65 {k : Nat} {A : Around} (r : Room k A) : A.units + 65 < cLine := by have := r.un; omega
section
variable {X : Cx} {G : Gd} {XC : List Nat → Prop} {Ol O O' O1 : List Nat} {W : WX} {fr : Bool} {a b c e o : Expr} {es : List Expr} {ma mb mc me mo : ME} {mr : MA} {pos p apos : Pos} {x y : Str}
theorem v_ (i : Nat) {x : Str} {pos : Pos} (hO : O.contains i = false := by rfl) (hN : X.N[i]? = some x := by rfl) (hv : Vis X.env.scope x := by first | exact Or.inl rfl | exact Or.inr (Or.inl rfl) | exact Or.inr (Or.inr rfl))
    (hd : (x == ("__debug__" : Str)) = false := by decide) (hcd : (x == ("__classdict__" : Str)) = false := by decide) : DE X G O W (.Name x pos) (mVar i) := de_var i hO hN hv hd hcd
theorem gv_ {x : Str} {d : D} {v : V} {u : Value} (hm : X.mg x = some u) (ru : RelV v u) (hr : ∀ A H, Rp X.K A H v d) (hg : Gl X x := by rfl) (hd : (x == ("__debug__" : Str)) = false := by decide) : DE X G O W (.Name x pos) (mK d) := de_c (pe_glob hg hm ru hd) hr
theorem pm (op : CmpOp) (b : Expr) (h : behindInMarks op b = false := by rfl) : behindInMarks op b = false := h
end
end DL
namespace DL
open L2 PySem PySem.Spec PyProof.Rows
section
variable {X : Cx} {G : Gd} {XC : List Nat → Prop} {Ol O O' O1 : List Nat} {W : WX} {fr : Bool} {a b c e o : Expr} {es : List Expr} {ma mb mc me mo : ME} {mr : MA} {pos p apos : Pos} {x y : Str}
theorem tE_tF {K : PySem.W.Frag} {m : ME} {σ : L2.St} {H : Hp} {Q : VK} (h : tE K G O W m σ H Q) : tF K G O W m σ H Q := by
  obtain ⟨A, ms, ρ, R, q⟩ := h
  refine ⟨A, ms, ρ, R, ?_⟩
  cases hm : m ρ with
  | bad => rw [hm] at q; exact q.elim
  | ex x ρ1 => rw [hm] at q; exact q
  | ok d ρ1 =>
    rw [hm] at q
    intro p H' R' _ k hp ow
    have np : ¬ A p := Trk.no (fun a z => R.trk a z) hp
    exact q (.ref p) H' R' k (ow.freeze (fun a z => .inl z) np)
theorem put_post {K : PySem.W.Frag} {i : Nat} {D0 : Ends} {σ : L2.St} {H : Hp} (hx : XC O) (oi : O.contains i = false) (h : tS K G XC Ol O O W fr (msAsg me (mgName i)) D0 σ H) : tAsg (tE K G O W me) (gName i) D0 σ H := by
  obtain ⟨A, ms, ρ, R, q⟩ := h
  have ni : i ∉ O := fun z => by rw [List.contains_iff_mem.mpr z] at oi; cases oi
  refine ⟨A, ms, ρ, R, eb hx q ?_⟩
  intro d ρ1 v H1 _ R1 k r q1
  unfold mgName at q1
  split at q1
  · rename_i ρ2 he
    split at he
    · rename_i hlt
      cases he
      exact q1 _ H1 A ms (R1.put ni hlt r) Tr.refl
    · cases he
  · exact q1.elim
theorem own_post {K : PySem.W.Frag} {i : Nat} {D0 : Ends} {σ : L2.St} {H : Hp} (hx : XC O) (hi : O.contains i = true) (h0 : i ≠ 0 ∨ G.io = none) (hpx : NPx G i) (h : tS K G XC Ol O O W fr (msOwn i me) D0 σ H) : tAsg (tF K G O W me) (gName i) D0 σ H := by
  obtain ⟨A, ms, ρ, R, q⟩ := h
  refine ⟨A, ms, ρ, R, ?_⟩
  unfold msOwn at q
  cases hm : me ρ with
  | bad => rw [hm] at q; exact q.elim
  | ex y ρ1 => rw [hm] at q; exact fun dx H1 R1 k xr => q dx σ H1 A ms O hx R1 (R1.kt k) xr
  | ok d ρ1 =>
    rw [hm] at q
    intro r H1 R1 R2 k hr ow
    have q' : SPost K G XC Ol O W fr A H D0 (if i < ρ1.length then .nx (ρ1.set i (some d)) else .bad) := q
    split at q'
    · rename_i hlt
      refine q' _ H1 _ _ (R2.own (List.contains_iff_mem.mp hi) h0 hlt (R.msne hr) hpx (h0_none R hr) ow) fun a o e n => ⟨(R1.kt k a o e n).1, fun z => z.elim n fun z => ?_⟩
      rw [z, hr] at e
      cases e
    · exact q'.elim
section
variable {i : Nat} {py spos : Pos} {elt tg iter : Expr} {ifs : List Expr} {scope : Scope} {own : List (Str × Nat)} {mi : En → R (List D)} {g : MG} {mt : MT} {tt : TT}
theorem ds_setLc (hx : XC O) (oi : O.contains i = false) (hc : X.calm = true) (hN : X.N.Nodup) (hy : X.N[i]? = some y) (hyl : X.env.scope.names.lookup y = some .local) (hsw : swapsWith (.ListComp elt [⟨tg, iter, ifs, 0⟩] scope pos) (some (.Name y py)) spos.line X.env = pure true) (hv : (ownS own).all (fun i => !O.contains i) = true)
    (hi : DI X G O W tg iter mi) (ok : BlkOk X.N X.env.scope scope own)
    (hg : ∀ (s : Shared) (H : Hp) (C : Addr) (cl : List (Str × Addr)) (fp : List Addr), DG (X.blk s H scope (compEnvC scope cl C X.env) fp) G O (ownS own) tg g)
    (ht : ∀ (s : Shared) (H : Hp) (C : Addr) (cl : List (Str × Addr)) (fp : List Addr), PTs (X.blk s H scope (compEnvC scope cl C X.env) fp) ifs tt) (htt : ∀ σ H Q, tT X.K G O W0 mt σ H Q → tt σ H Q)
    (he : ∀ (s : Shared) (H : Hp) (C : Addr) (cl : List (Str × Addr)) (fp : List Addr), DE (X.blk s H scope (compEnvC scope cl C X.env) fp) G O W0 elt me) (hs : ∀ x, foldedSetIterable iter X.env x = pure x := by intro _; rfl) :
    DS X G XC Ol O O W fr (.Assign [.Name y py] (.ListComp elt [⟨tg, iter, ifs, 0⟩] scope pos) spos) (msAsg (mLc (ownS own) mi g mt me) (mgName i)) :=
  ps_imp (ps_setLc (te := tE X.K G O W0 me) (tt := tt) (g := tG X.K G O (ownS own) g) hc hN hy hyl hsw hi ok hg ht he hs) fun D0 σ H h => lc_go (W := W) hv htt (tE_tF (put_post hx oi h))
theorem ds_ownLc (hx : XC O) (oi : O.contains i = true) (h0 : i ≠ 0 ∨ G.io = none) (hc : X.calm = true) (hN : X.N.Nodup) (hy : X.N[i]? = some y) (hyl : X.env.scope.names.lookup y = some .local) (hsw : swapsWith (.ListComp elt [⟨tg, iter, ifs, 0⟩] scope pos) (some (.Name y py)) spos.line X.env = pure true) (hv : (ownS own).all (fun i => !O.contains i) = true)
    (hi : DI X G O W tg iter mi) (ok : BlkOk X.N X.env.scope scope own)
    (hg : ∀ (s : Shared) (H : Hp) (C : Addr) (cl : List (Str × Addr)) (fp : List Addr), DG (X.blk s H scope (compEnvC scope cl C X.env) fp) G O (ownS own) tg g)
    (ht : ∀ (s : Shared) (H : Hp) (C : Addr) (cl : List (Str × Addr)) (fp : List Addr), PTs (X.blk s H scope (compEnvC scope cl C X.env) fp) ifs tt) (htt : ∀ σ H Q, tT X.K G O W0 mt σ H Q → tt σ H Q)
    (he : ∀ (s : Shared) (H : Hp) (C : Addr) (cl : List (Str × Addr)) (fp : List Addr), DE (X.blk s H scope (compEnvC scope cl C X.env) fp) G O W0 elt me) (hs : ∀ x, foldedSetIterable iter X.env x = pure x := by intro _; rfl)
    (hpx : NPx G i := by first | exact NPx.no rfl | assumption) :
    DS X G XC Ol O O W fr (.Assign [.Name y py] (.ListComp elt [⟨tg, iter, ifs, 0⟩] scope pos) spos) (msOwn i (mLc (ownS own) mi g mt me)) :=
  ps_imp (ps_setLc (te := tE X.K G O W0 me) (tt := tt) (g := tG X.K G O (ownS own) g) hc hN hy hyl hsw hi ok hg ht he hs) fun D0 σ H h => lc_go (W := W) hv htt (own_post hx oi h0 hpx h)
end
theorem takes0 (h : X.xe = fun _ _ => False) : L2N.Takes X W0 := fun u s' ⟨_, _, _, _, _, _, _, _, _, _, _, _, _, _, _, _, z⟩ => z.elim
end
end DL
namespace DL
open L2 PySem PySem.Spec PyProof.Rows

abbrev XF := PySem.W.Frag → Bool
def obX (fa : List He.Fa) (xf : XF) (fn : List He.DefD) (K : PySem.W.Frag) : He.AlD := (xf K && ((fa.all fun f => f.ok K) && fn.all fun d => d.ok K), fn.map fun d => He.fnW K d.at_)
def SaysX (fa : List He.Fa) (xf : XF) (fn : List He.DefD) (K : PySem.W.Frag) : Prop := obX fa xf fn K = He.valD fn
def obXG (n : Nat) (fa : List He.Fa) (xf : XF) (fn : List He.DefD) (g : Addr → Option Obj) : He.AlD := obX fa xf fn (He.frG g (He.asD g n))
def hookX (n : Nat) (fa : List He.Fa) (xf : XF) (fn : List He.DefD) : PySem.W.Hook where
  α := He.AlD
  obs := fun t => obXG n fa xf fn t.heap.get?
  val := fun _ => He.valD fn
  says := fun _ hp => ∃ K : PySem.W.Frag, K.In hp ∧ SaysX fa xf fn K
  of := fun _ _ z => ⟨_, He.frG_in, z⟩
  keeps := fun _ _ _ ⟨K, z, c⟩ k => ⟨K, PySem.W.Frag.In.keeps z k, c⟩
theorem obXG_eq {n : Nat} {fa : List He.Fa} {xf : XF} {fn : List He.DefD} {g : Addr → Option Obj} {t : Shared} (h : ∀ a, g a = t.heap.get? a) : obXG n fa xf fn g = (hookX n fa xf fn).obs t := by
  have z : g = t.heap.get? := funext h
  rw [z] <;> rfl
section
variable {fa : List He.Fa} {xf : XF} {fn : List He.DefD} {K : PySem.W.Frag}
theorem SaysX.x1 (c : SaysX fa xf fn K) : xf K = true := (He.ba (show (xf K && ((fa.all fun f => f.ok K) && fn.all fun d => d.ok K)) = true from congrArg (fun z : He.AlD => z.1) c)).1
theorem SaysX.d (c : SaysX fa xf fn K) : He.SaysD fa fn K := by
  have c1 : (xf K && ((fa.all fun f => f.ok K) && fn.all fun d => d.ok K)) = true := congrArg (fun z : He.AlD => z.1) c
  have c2 : (fn.map fun d => He.fnW K d.at_) = fn.map He.DefD.val := congrArg (fun z : He.AlD => z.2) c
  exact Prod.ext (He.ba c1).2 c2
end
def excB (K : PySem.W.Frag) (x : Str) : Bool :=
  decide (PySem.W.findIn K (.ref (He.ga K x)) "__getattribute__" = some (some (.builtin "BaseException.__getattribute__"))) && (decide (PySem.W.findIn K (.ref (He.ga K x)) "__getattr__" = some none) && (decide (PySem.W.subIn K (.ref (He.ga K x)) (.type "BaseException") = some true) &&
    (PySem.W.hasDictIn K (He.ga K x) && (decide (PySem.W.findIn K (.ref (He.ga K x)) "__class__" = some (some (.builtin "object.__class__"))) && (decide (PySem.W.specialIn K (.builtin "object.__class__") "__get__" = some (some (.builtin "getset_descriptor.__get__"))) &&
      (decide (PySem.W.takesIn K (.builtin "object.__class__") = some true) && decide (PySem.W.mroIn K (He.ga K x) (.type "object") = some true)))))))
theorem excB_ok {K : PySem.W.Frag} {x : Str} (h : excB K x = true) : ExcC K (He.ga K x) := by
  unfold excB at h
  obtain ⟨h1, h⟩ := He.ba h
  obtain ⟨h2, h⟩ := He.ba h
  obtain ⟨h3, h⟩ := He.ba h
  obtain ⟨h4, h⟩ := He.ba h
  obtain ⟨h5, h⟩ := He.ba h
  obtain ⟨h6, h⟩ := He.ba h
  obtain ⟨h7, h8⟩ := He.ba h
  exact ⟨of_decide_eq_true h1, of_decide_eq_true h2, of_decide_eq_true h3, h4, of_decide_eq_true h5, of_decide_eq_true h6, of_decide_eq_true h7, of_decide_eq_true h8⟩
def kitB (K : PySem.W.Frag) (x y : Str) (b : Bool) : Bool := decide (PySem.W.kitOne K (.ref (He.ga K x)) (.ref (He.ga K y)) = some b)
theorem kitB_ok {K : PySem.W.Frag} {x y : Str} {b : Bool} (h : kitB K x y b = true) : PySem.W.kitOne K (.ref (He.ga K x)) (.ref (He.ga K y)) = some b := of_decide_eq_true h
theorem supB_ok {K : PySem.W.Frag} {x : Str} {vs : List He.Dv} (h : He.tupB K x vs = true) (A : Addr → Prop) (H : Hp) : SqTA K A H (He.ga K x) (vs.map (He.Dv.v K)) := by
  have h0 := He.tupB_ok h (fun _ => none)
  rcases h0 with h0 | h0
  · rcases h0 with z | ⟨o, z⟩ <;> cases z
  · exact .inr h0
section
variable {X : Cx} {G : Gd} {XC : List Nat → Prop} {Ol O O' O1 : List Nat} {W : WX} {fr : Bool} {a b c e o : Expr} {es : List Expr} {ma mb mc me mo : ME} {mr : MA} {pos p apos : Pos} {x y : Str}
theorem gi_ {x : Str} {i : Int} (hm : ∃ t, X.mg x = some (.int i t)) (hg : Gl X x := by rfl) (hd : (x == ("__debug__" : Str)) = false := by decide) : DE X G O W (.Name x pos) (mK (.int i)) := by
  obtain ⟨t, e⟩ := hm
  exact gv_ (v := .int i) e ⟨t, rfl⟩ (fun _ _ => .int i) hg hd
theorem gs_ {x z : Str} (hm : ∃ t, X.mg x = some (.str z t)) (hg : Gl X x := by rfl) (hd : (x == ("__debug__" : Str)) = false := by decide) : DE X G O W (.Name x pos) (mK (.str z)) := by
  obtain ⟨t, e⟩ := hm
  exact gv_ (v := .str z) e ⟨t, rfl⟩ (fun _ _ => .str z) hg hd
theorem gt_ {x : Str} {vs : List He.Dv} {ds : List D} (hm : X.mg x = some (.ref (He.ga X.K x))) (hS : He.tupB X.K x vs = true) (hR : ∀ A H, RpA X.K A H (vs.map (He.Dv.v X.K)) ds) (hg : Gl X x := by rfl) (hd : (x == ("__debug__" : Str)) = false := by decide) : DE X G O W (.Name x pos) (mK (.tup ds)) :=
  gv_ (v := .ref (He.ga X.K x)) hm rfl (fun A H => .tup (supB_ok hS A H) (hR A H)) hg hd
theorem gf_ {x : Str} (hm : X.mg x = some (.ref (He.ga X.K x))) (hg : Gl X x := by rfl) (hd : (x == ("__debug__" : Str)) = false := by decide) : DE X G O W (.Name x pos) (mK (.fn x)) := de_fn hg hm hd
structure ExcOk (K : PySem.W.Frag) (mg : Str → Option Value) (C : Str) : Prop where
  ex : PySem.W.excIn K (He.ga K C) He.veBase "ValueError.__new__" = true
  kp : PySem.W.keepIn K (.ref (He.ga K C)) = true
  bs : PySem.W.subIn K (.ref (He.ga K C)) (.type "BaseException") = some true
  ty : PySem.W.typeIn K (.ref (He.ga K C)) = some (.type "type")
  gl : mg C = some (.ref (He.ga K C))
theorem ds_raiseC {C m : Str} {j : Nat} {p2 pos2 : Pos} (ec : ExcOk X.K X.mg C) (hx : XC O) (tk : L2N.Takes X W) (hc : X.calm = true := by rfl) (hg : Gl X C := by rfl) (hdb : (C == ("__debug__" : Str)) = false := by decide) : DS X G XC Ol O O' W fr (.Raise (some (.Call (.Name C p) [.Constant (.str m) j p2] [] pos2)) none pos) (msRaise C) :=
  ds_raise hx hc tk (L2N.pmk_own PySem.F.excBase_ValueError ec.ex ec.gl ec.kp (raises_own ec.bs ec.ty) hg hdb)
theorem callIsE {k : Str} {a : Addr} {oe : Obj} {pn : List (Addr × Obj)} (C : ExcC X.K (He.ga X.K k)) (hz : L2N.Zn (.ref (He.ga X.K k)) none oe) (hf : ∃ vs, oe.data = .fields vs) : CallR (X.suite a ((a, oe) :: pn)) (.builtin "isinstance") (rIsE X.K (He.ga X.K k) a) := call_isE C hz.zc hf
end

theorem no_gEq : NoObj gEq := ⟨fun c fs z => by cases z <;> rfl, fun c fs z => by
  cases z with
  | tup l => show (match (D.tup l).py, (D.obj c fs).py with | some x, some y => if SeqAt.shaped x = true ∧ SeqAt.shaped y = true then some (PyData.eqv x y) else none | _, _ => none).map D.bl = none; cases (D.tup l).py <;> rfl
  | lst l => show (match (D.lst l).py, (D.obj c fs).py with | some x, some y => if SeqAt.shaped x = true ∧ SeqAt.shaped y = true then some (PyData.eqv x y) else none | _, _ => none).map D.bl = none; cases (D.lst l).py <;> rfl
  | _ => rfl⟩
theorem no_gNe : NoObj gNe := ⟨fun c fs z => by cases z <;> rfl, fun c fs z => by
  cases z with
  | tup l => show (match (D.tup l).py, (D.obj c fs).py with | some x, some y => if SeqAt.shaped x = true ∧ SeqAt.shaped y = true then some (PyData.eqv x y) else none | _, _ => none).map (fun k => D.bl (!k)) = none; cases (D.tup l).py <;> rfl
  | lst l => show (match (D.lst l).py, (D.obj c fs).py with | some x, some y => if SeqAt.shaped x = true ∧ SeqAt.shaped y = true then some (PyData.eqv x y) else none | _, _ => none).map (fun k => D.bl (!k)) = none; cases (D.lst l).py <;> rfl
  | _ => rfl⟩
theorem no_gIn : NoObj gIn := ⟨fun c fs z => by cases z <;> rfl, fun c fs z => by cases z <;> rfl⟩
theorem no_gNotIn : NoObj gNotIn := ⟨fun c fs z => by cases z <;> rfl, fun c fs z => by cases z <;> rfl⟩
theorem no_gAdd : NoObj gAdd := ⟨fun c fs z => by cases z <;> rfl, fun c fs z => by cases z <;> rfl⟩
theorem no_gMul : NoObj gMul := ⟨fun c fs z => by cases z <;> rfl, fun c fs z => by cases z <;> rfl⟩
def gIAdd (a b : D) : Option D := match a, b with
  | .int i, .int j => some (.int (i + j))
  | .str x, .str y => if x.length + y.length ≤ sizeLine then some (.str (x ++ y)) else none
  | _, _ => none
theorem oi_add {X : Cx} : OpR X (inplaceOp .Add) (rD2 X.K gIAdd) := by
  intro pins s σ H x y v u Q I rx ry ⟨A, a, b, d, t, pa, pb, e, q⟩
  cases a with
  | int i =>
    cases b with
    | int j =>
      cases e
      rw [pa.int] at rx
      rw [pb.int] at ry
      exact iop_add pins s σ H _ _ v u Q I rx ry ⟨i, j, rfl, rfl, q _ _ (Same.refl _) (.int _)⟩
    | _ => cases e
  | str i =>
    cases b with
    | str j =>
      obtain ⟨hz, rfl⟩ := ite_d (x := .str (i ++ j)) e
      rw [pa.str] at rx
      rw [pb.str] at ry
      exact iop_add_str pins s σ H _ _ v u Q I rx ry ⟨i, j, rfl, rfl, hz, q _ _ (Same.refl _) (.str _)⟩
    | _ => cases e
  | _ => cases b <;> cases e
section
variable {P : Program} {w : World} {K : PySem.W.Frag} {mg : Str → Option Value} {base : Heap} {N : List Str} {qual : Str} {scope : Scope} {f : Addr} {cdv : Value} {A : Around} {outer : List Env} {s : Shared} {H : Hp} {E : XK}
theorem cx_tk : L2N.Takes (cxOf (L2N.CX P w) P w K mg base N qual scope f cdv A outer s H E) (fun cls d _ H' => E cls d H') := L2N.takes_of rfl rfl rfl rfl
theorem cx_pw : PassesOwn (model (cxOf (L2N.CX P w) P w K mg base N qual scope f cdv A outer s H E).prog (cxOf (L2N.CX P w) P w K mg base N qual scope f cdv A outer s H E).w) (cxOf (L2N.CX P w) P w K mg base N qual scope f cdv A outer s H E).A (cxOf (L2N.CX P w) P w K mg base N qual scope f cdv A outer s H E).env (cxOf (L2N.CX P w) P w K mg base N qual scope f cdv A outer s H E).xe := passes_of rfl
end
end DL
namespace DL
open L2 PySem PySem.Spec PyProof.Rows

def Ret.R (r : Ret) (ρ : En) : R D := match r with
  | .rt d _ => .ok d ρ
  | .ex x _ => .ex x ρ
  | .bad => .bad
theorem mCall_R (F : FN) (args : MA) (ρ : En) : mCall F args ρ = (args ρ).bind fun ds ρ1 => (F ds).R ρ1 := rfl
section
variable {ρ ρ1 : En} {d : D} {α β : Type} {x : Xn}
@[simp] theorem bind_ok (a : α) (r : En) (f : α → En → R β) : R.bind (.ok a r) f = f a r := rfl
@[simp] theorem bind_ex (x : Xn) (r : En) (f : α → En → R β) : R.bind (.ex x r : R α) f = .ex x r := rfl
@[simp] theorem obind_ok (a : α) (r : En) (f : α → En → Out) : obind (.ok a r) f = f a r := rfl
@[simp] theorem obind_ex (x : Xn) (r : En) (f : α → En → Out) : obind (.ex x r : R α) f = .ex x r := rfl
@[simp] theorem ret_some (a : α) : ret (some a) ρ = .ok a ρ := rfl
@[simp] theorem ret_none : ret (none : Option α) ρ = .bad := rfl
@[simp] theorem mK_ap : mK d ρ = .ok d ρ := rfl
@[simp] theorem mVar_ap (i : Nat) : mVar i ρ = match ρ[i]? with | some (some d) => .ok d ρ | _ => .bad := by unfold mVar; rfl
@[simp] theorem m1_ap (g : D → Option D) (a : ME) : m1 g a ρ = (a ρ).bind fun x ρ1 => ret (g x) ρ1 := rfl
@[simp] theorem m2_ap (g : D → D → Option D) (a b : ME) : m2 g a b ρ = (a ρ).bind fun x ρ1 => (b ρ1).bind fun y ρ2 => ret (g x y) ρ2 := rfl
@[simp] theorem mIf_ap (c : MT) (a b : ME) : mIf c a b ρ = (c ρ).bind fun k ρ1 => if k = true then a ρ1 else b ρ1 := by
  unfold mIf; cases c ρ with
  | ok k r => cases k <;> rfl
  | ex _ _ => rfl
  | bad => rfl
@[simp] theorem mTest_ap (m : ME) : mTest m ρ = (m ρ).bind fun x ρ1 => ret (asB x) ρ1 := rfl
@[simp] theorem asB_bl (b : Bool) : asB (.bl b) = some b := rfl
@[simp] theorem mTru_ap (m : ME) : mTru m ρ = (m ρ).bind fun x ρ1 => ret (tru x) ρ1 := rfl
@[simp] theorem mNotT_ap (m : MT) : mNotT m ρ = (m ρ).bind fun x ρ1 => .ok (!x) ρ1 := rfl
@[simp] theorem mAndT_ap (a b : MT) : mAndT a b ρ = (a ρ).bind fun k ρ1 => if k = true then b ρ1 else .ok false ρ1 := by
  unfold mAndT; cases a ρ with
  | ok k r => cases k <;> rfl
  | ex _ _ => rfl
  | bad => rfl
@[simp] theorem mOrT_ap (a b : MT) : mOrT a b ρ = (a ρ).bind fun k ρ1 => if k = true then .ok true ρ1 else b ρ1 := by
  unfold mOrT; cases a ρ with
  | ok k r => cases k <;> rfl
  | ex _ _ => rfl
  | bad => rfl
@[simp] theorem mNil_ap : mNil ρ = .ok [] ρ := rfl
@[simp] theorem mCons_ap (a : ME) (b : MA) : mCons a b ρ = (a ρ).bind fun x ρ1 => (b ρ1).bind fun xs ρ2 => .ok (x :: xs) ρ2 := rfl
@[simp] theorem mN_ap (g : List D → Option D) (a : MA) : mN g a ρ = (a ρ).bind fun xs ρ1 => ret (g xs) ρ1 := rfl
@[simp] theorem msNil_ap : msNil ρ = .nx ρ := rfl
@[simp] theorem msSeq_ap (a b : MS) : msSeq a b ρ = match a ρ with | .nx ρ1 => b ρ1 | o => o := rfl
@[simp] theorem msExpr_ap (m : ME) : msExpr m ρ = obind (m ρ) fun _ ρ1 => .nx ρ1 := rfl
@[simp] theorem msAsg_ap (m : ME) (g : MG) : msAsg m g ρ = obind (m ρ) fun d ρ1 => match g d ρ1 with | .ok _ ρ2 => .nx ρ2 | _ => .bad := rfl
@[simp] theorem msOwn_ap (i : Nat) (m : ME) : msOwn i m ρ = obind (m ρ) fun d ρ1 => if i < ρ1.length then .nx (ρ1.set i (some d)) else .bad := rfl
@[simp] theorem msRet_ap (m : ME) : msRet m ρ = obind (m ρ) fun d ρ1 => .rt d ρ1 := rfl
@[simp] theorem msRetN_ap : msRetN ρ = .rt .non ρ := rfl
@[simp] theorem msRetO_ap (j : Nat) : msRetO j ρ = match getO ρ j with | some d => .rt d ρ | none => .bad := rfl
@[simp] theorem msIf_ap (c : MT) (a b : MS) : msIf c a b ρ = obind (c ρ) fun k ρ1 => if k = true then a ρ1 else b ρ1 := rfl
@[simp] theorem msBrk_ap : msBrk ρ = .bk ρ := rfl
@[simp] theorem msCnt_ap : msCnt ρ = .ct ρ := rfl
@[simp] theorem msFor_ap (mi : En → R (List D)) (g : MG) (mb : MS) : msFor mi g mb ρ = obind (mi ρ) fun ds ρ1 => loopL g mb ds ρ1 := rfl
@[simp] theorem msWhile_ap (n : Nat) (c : MT) (mb : MS) : msWhile n c mb ρ = loopW c mb n ρ := rfl
@[simp] theorem msForget_ap (j : Nat) (m : MS) : msForget j m ρ = m (ρ.set j none) := rfl
@[simp] theorem msPar_ap (is : List Nat) (m : MA) : msPar is m ρ = obind (m ρ) fun ds ρ1 => putP is ds ρ1 := rfl
@[simp] theorem msRaise_ap (c : Str) : msRaise c ρ = .ex ⟨c, []⟩ ρ := rfl
@[simp] theorem mgName_ap (i : Nat) : mgName i d ρ = if i < ρ.length then .ok () (ρ.set i (some d)) else .bad := rfl
@[simp] theorem mgNil_ap : mgNil [] ρ = .ok () ρ := rfl
@[simp] theorem mgCons_ap (g : MG) (gs : List D → En → R Unit) (r : List D) : mgCons g gs (d :: r) ρ = (g d ρ).bind fun _ ρ1 => gs r ρ1 := rfl
@[simp] theorem mgTup_ap (n : Nat) (gs : List D → En → R Unit) (ds : List D) : mgTup n gs (.tup ds) ρ = if ds.length = n then gs ds ρ else .bad := rfl
@[simp] theorem putP_nil : putP [] [] ρ = .nx ρ := rfl
@[simp] theorem putP_cons (i : Nat) (is : List Nat) (ds : List D) : putP (i :: is) (d :: ds) ρ = if i < ρ.length then putP is ds (ρ.set i (some d)) else .bad := rfl
@[simp] theorem mItN_ap (g : List D → Option (List D)) (a : MA) : mItN g a ρ = (a ρ).bind fun ds ρ1 => ret (g ds) ρ1 := rfl
@[simp] theorem mIter_ap (m : ME) : mIter m ρ = (m ρ).bind fun d ρ1 => ret (gIter d) ρ1 := rfl
theorem getO_ap (j : Nat) : getO ρ j = match ρ[j]? with | some (some d) => some d | _ => none := by unfold getO; rfl
@[simp] theorem mOM_ap (g : List D → List D → Option (D × List D)) (j : Nat) (args : MA) : mOM g j args ρ = match getO ρ j with
  | some (.lst _) => (args ρ).bind fun ds ρ1 => match getO ρ1 j with
    | some (.lst cs) => match g cs ds with
      | some (z, cs') => .ok z (ρ1.set j (some (.lst cs')))
      | none => .bad
    | _ => .bad
  | _ => .bad := rfl
@[simp] theorem mTruO_ap (j : Nat) : mTruO j ρ = match getO ρ j with | some (.lst l) => .ok (!l.isEmpty) ρ | _ => .bad := rfl
theorem mCallIo_ap (F : FN) (j : Nat) (args : MA) : mCallIo F j args ρ = match getO ρ j with
  | none => .bad
  | some _ => (args ρ).bind fun ds ρ1 => match getO ρ1 j with
    | none => .bad
    | some c => match F (c :: ds) with
      | .rt d o => .ok d (ρ1.set j (some o))
      | .ex x o => .ex x (ρ1.set j (some o))
      | .bad => .bad := rfl
@[simp] theorem mCallV_ap (tab : Str → Option FN) (f : ME) (args : MA) : mCallV tab f args ρ = (f ρ).bind fun d ρ1 => match d with
  | .fn x => match tab x with
    | some F => mCall F args ρ1
    | none => .bad
  | _ => .bad := rfl
@[simp] theorem gTup_ap (xs : List D) : gTup xs = if xs.length ≤ sizeLine then some (.tup xs) else none := rfl
@[simp] theorem gLst_ap (xs : List D) : gLst xs = if xs.length ≤ sizeLine then some (.lst xs) else none := rfl
@[simp] theorem gAdd_ii (i j : Int) : gAdd (.int i) (.int j) = some (.int (i + j)) := rfl
@[simp] theorem gSub_ii (i j : Int) : gSub (.int i) (.int j) = some (.int (i - j)) := rfl
theorem gMul_ii (i j : Int) : gMul (.int i) (.int j) = if okMul i j = true then some (.int (i * j)) else none := rfl
theorem gDiv_ii (i j : Int) : gDiv (.int i) (.int j) = if j ≠ 0 ∧ j.natAbs.log2 < 9000 then some (.int (i.fdiv j)) else none := rfl
theorem gMod_ii (i j : Int) : gMod (.int i) (.int j) = if j ≠ 0 then some (.int (i.fmod j)) else none := rfl
@[simp] theorem gNeg_i (i : Int) : gNeg (.int i) = some (.int (-i)) := rfl
@[simp] theorem gLt_ii (i j : Int) : gLt (.int i) (.int j) = some (.bl (decide (i < j))) := rfl
@[simp] theorem gGt_ii (i j : Int) : gGt (.int i) (.int j) = some (.bl (decide (j < i))) := rfl
@[simp] theorem gLe_ii (i j : Int) : gLe (.int i) (.int j) = some (.bl (decide (i ≤ j))) := rfl
@[simp] theorem gGe_ii (i j : Int) : gGe (.int i) (.int j) = some (.bl (decide (j ≤ i))) := rfl
@[simp] theorem gEq_ii (i j : Int) : gEq (.int i) (.int j) = some (.bl (decide (i = j))) := rfl
@[simp] theorem gNe_ii (i j : Int) : gNe (.int i) (.int j) = some (.bl (!decide (i = j))) := rfl
@[simp] theorem gEq_ss (i j : Str) : gEq (.str i) (.str j) = some (.bl (decide (i = j))) := rfl
@[simp] theorem gNe_ss (i j : Str) : gNe (.str i) (.str j) = some (.bl (!decide (i = j))) := rfl
@[simp] theorem gIs_n (d : D) : gIs d .non = some (.bl (isNon d)) := by cases d <;> rfl
@[simp] theorem gIsNot_n (d : D) : gIsNot d .non = some (.bl (!isNon d)) := by cases d <;> rfl
@[simp] theorem gIs_b (a b : Bool) : gIs (.bl a) (.bl b) = some (.bl (decide (a = b))) := rfl
@[simp] theorem gIsNot_b (a b : Bool) : gIsNot (.bl a) (.bl b) = some (.bl (!decide (a = b))) := rfl
@[simp] theorem gInt_i (i : Int) : gInt [.int i] = some (.int i) := rfl
@[simp] theorem gInt_b (k : Bool) : gInt [.bl k] = some (.int (if k then 1 else 0)) := rfl
@[simp] theorem gAbs_i (i : Int) : gAbs [.int i] = some (.int (if i < 0 then -i else i)) := rfl
@[simp] theorem mAnd_ap (a b : ME) : mAnd a b ρ = (a ρ).bind fun x ρ1 => (ret (tru x) ρ1).bind fun k ρ2 => if k = true then b ρ2 else .ok x ρ2 := by
  unfold mAnd
  cases a ρ with
  | ok x r =>
    simp only [bind_ok]
    try (cases tru x with
    | none => rfl
    | some k => cases k <;> rfl)
  | ex _ _ => rfl
  | bad => rfl
@[simp] theorem tru_bl (b : Bool) : tru (.bl b) = some b := rfl
@[simp] theorem gIx_t (l : List D) (i : Int) : gIx (.tup l) (.int i) = L2.atI l i := rfl
@[simp] theorem gIx_l (l : List D) (i : Int) : gIx (.lst l) (.int i) = L2.atI l i := rfl
@[simp] theorem gRange1_i (j : Int) : gRange1 [.int j] = if okR j = true then some (rangeL 0 j.toNat) else none := rfl
@[simp] theorem Ret.R_rt (d o : D) : Ret.R (.rt d o) ρ = .ok d ρ := rfl
@[simp] theorem Ret.R_ex (x : Xn) (o : D) : Ret.R (.ex x o) ρ = .ex x ρ := rfl
theorem mLc_ap (vs : List Nat) (mi : En → R (List D)) (g : MG) (mt : MT) (me : ME) : mLc vs mi g mt me ρ = (mi ρ).bind fun ds ρ1 => match lcLoop vs g mt me ds ρ1 with
  | .ok ys ρ2 => if ys.length ≤ sizeLine then .ok (.lst ys) (restE ρ1 vs ρ2) else .bad
  | _ => .bad := rfl
theorem mTryAs_ap (mt : Str → Option Bool) (i : Nat) (mb : MS) (ms : Str → MS) : msTryAs mt i mb ms ρ = match mb ρ with
  | .ex y ρ1 => match mt y.c with
    | some true => match y.fs with
      | [] => if i < ρ1.length then fgt i (ms y.c (ρ1.set i none)) else .bad
      | _ => .bad
    | some false => .ex y ρ1
    | none => .bad
  | o => o := rfl
end

theorem lg {n k : Nat} (h : n < 2 ^ k) (hk : 0 < k) : n.log2 < k := by
  by_cases z : n = 0
  · subst z; simpa using hk
  · exact (Nat.log2_lt z).mpr h
theorem sm_mul {a b : Int} {i j : Nat} (h1 : a.natAbs < 2 ^ i) (h2 : b.natAbs < 2 ^ j) : (a * b).natAbs < 2 ^ (i + j) := by
  rw [Int.natAbs_mul, Nat.pow_add]
  exact Nat.mul_lt_mul'' h1 h2
theorem sm_add {a b : Int} {i : Nat} (h1 : a.natAbs < 2 ^ i) (h2 : b.natAbs < 2 ^ i) : (a + b).natAbs < 2 ^ (i + 1) := by
  have := Int.natAbs_add_le a b
  rw [Nat.pow_succ]
  omega
theorem sm_sub {a b : Int} {i : Nat} (h1 : a.natAbs < 2 ^ i) (h2 : b.natAbs < 2 ^ i) : (a - b).natAbs < 2 ^ (i + 1) := by
  rw [Nat.pow_succ]
  omega
theorem sm_up {a : Int} {i j : Nat} (h : a.natAbs < 2 ^ i) (l : i ≤ j) : a.natAbs < 2 ^ j := Nat.lt_of_lt_of_le h (Nat.pow_le_pow_right (by decide) l)
theorem okMul_of {a b : Int} {i j : Nat} (h1 : a.natAbs < 2 ^ i) (h2 : b.natAbs < 2 ^ j) (hi : 0 < i) (hj : 0 < j) (h : i + j < 100000000) : okMul a b = true := by
  unfold okMul
  have := lg h1 hi
  have := lg h2 hj
  exact decide_eq_true (by omega)
theorem gMul_sm {a b : Int} {i j : Nat} (h1 : a.natAbs < 2 ^ i) (h2 : b.natAbs < 2 ^ j) (hi : 0 < i) (hj : 0 < j) (h : i + j < 100000000) : gMul (.int a) (.int b) = some (.int (a * b)) := by rw [gMul_ii, if_pos (okMul_of h1 h2 hi hj h)]
theorem gDiv_sm {a b : Int} {j : Nat} (h0 : b ≠ 0) (h2 : b.natAbs < 2 ^ j) (hj : 0 < j) (h : j ≤ 9000) : gDiv (.int a) (.int b) = some (.int (a.fdiv b)) := by
  rw [gDiv_ii, if_pos ⟨h0, Nat.lt_of_lt_of_le (lg h2 hj) h⟩]
theorem gMod_nz {a b : Int} (h0 : b ≠ 0) : gMod (.int a) (.int b) = some (.int (a.fmod b)) := by rw [gMod_ii, if_pos h0]
end DL
namespace DL
open L2 PySem PySem.Spec PyProof.Rows

def mqNumber : MS := (msSeq (msIf (mTest (m2 gLt (mVar 0) (mK (.int 0)))) (msRet (m2 gSub (mK (.int 0)) (mVar 0))) msNil) (msRet (mVar 0)))
def qNumber : FN := runM 1 1 [] false mqNumber
def mqInner : MS := (msSeq (msIf (mTest (m2 gEq (mVar 3) (mK (.int 0)))) msBrk msNil) (msSeq (msExpr (mOM gAppend 1 (mCons (m2 gMod (mN gInt (mCons (mVar 3) mNil)) (mK (.int 1000))) mNil))) (msAsg (m2 gDiv (mVar 3) (mK (.int 1000))) (mgName 3))))
def mqBody : MS := (msSeq (msAsg (mCall qNumber (mCons (mVar 2) mNil)) (mgName 3)) (msIf (mTest (m2 gGe (mVar 3) (mK (.int 1000000000000000000)))) (msFor (mItN gRange1 (mCons (mK (.int 60)) mNil)) (mgName 4) mqInner) (msSeq (msAsg (m2 gMod (mN gInt (mCons (m2 gAdd (m2 gMul (mVar 3) (mK (.int 48271))) (mK (.int 11))) mNil)) (mK (.int 2147483647))) (mgName 5)) (msSeq (msAsg (m2 gMod (mN gInt (mCons (m2 gAdd (m2 gMul (mVar 5) (mK (.int 69621))) (mVar 3)) mNil)) (mK (.int 2147483629))) (mgName 6)) (msExpr (mOM gExtend 1 (mCons (mN gLst (mCons (m2 gMod (mN gInt (mCons (mVar 3) mNil)) (mK (.int 1000))) (mCons (m2 gMod (mN gInt (mCons (mVar 5) mNil)) (mK (.int 1000))) (mCons (m2 gMod (mN gInt (mCons (mVar 6) mNil)) (mK (.int 1000))) mNil)))) mNil)))))))
def mqDraws : MS := (msForget 1 (msSeq (msOwn 1 (mN gLst mNil)) (msSeq (msFor (mIter (mVar 0)) (mgName 2) mqBody) (msRetO 1))))
def qDraws : FN := runM 7 1 [] true mqDraws
def mqNext : MS := (msSeq (msIf (mTruO 0) (msRet (mOM gPop 0 mNil)) msNil) (msRet (mK (.int 0))))
def qNext : FN := runM 1 1 [] false mqNext
theorem qNumber_v (n : Int) (ρ : En) : (qNumber [.int n]).R ρ = .ok (.int (if n < 0 then -n else n)) ρ := by
  by_cases h : n < 0
  · simp [qNumber, runM, mqNumber, pad, h]
  · simp [qNumber, runM, mqNumber, pad, h]
theorem getO_1 (a : Option D) (d : D) (r : En) : getO (a :: some d :: r) 1 = some d := rfl
theorem getO_0 (d : D) (r : En) : getO (some d :: r) 0 = some d := rfl
def drawI (l : List Int) : Int := l.getLastD 0
theorem qNext_v (l : List Int) : qNext [.lst (l.map .int)] = .rt (.int (drawI l)) (.lst (l.dropLast.map .int)) := by
  rcases List.eq_nil_or_concat l with h | ⟨r, z, h⟩
  · subst h; rfl
  · subst h
    simp [qNext, runM, mqNext, pad, getO_0, gPop, drawI, io0]
theorem inner_v (s : Option D) (o2 o4 o5 o6 : Option D) : ∀ (ds : List D) (acc : List Int) (n : Int), acc.length + ds.length < sizeLine →
    ∃ (acc' : List Int) (n' : Int) (o4' : Option D), loopL (mgName 4) mqInner ds [s, some (.lst (acc.map .int)), o2, some (.int n), o4, o5, o6] = .nx [s, some (.lst (acc'.map .int)), o2, some (.int n'), o4', o5, o6] ∧ acc'.length ≤ acc.length + ds.length := by
  intro ds
  induction ds generalizing o4 with
  | nil => exact fun acc n _ => ⟨acc, n, o4, rfl, Nat.le_refl _⟩
  | cons d r ih =>
    intro acc n h
    rw [List.length_cons] at h
    by_cases hn : n = 0
    · subst hn
      refine ⟨acc, 0, some d, ?_, by omega⟩
      simp [loopL, mqInner]
    · obtain ⟨acc', n', o4', e, l⟩ := ih (some d) (acc ++ [n.fmod 1000]) (n.fdiv 1000) (by rw [List.length_append, List.length_singleton]; omega)
      refine ⟨acc', n', o4', ?_, by rw [List.length_append, List.length_singleton] at l; rw [List.length_cons]; omega⟩
      rw [← e]
      have h1 : acc.length < sizeLine := by omega
      have h2 : ∀ x : Int, gDiv (.int x) (.int 1000) = some (.int (x.fdiv 1000)) := fun x => gDiv_sm (j := 10) (by decide) (by decide) (by decide) (by decide)
      simp [loopL, mqInner, hn, getO_1, gAppend, gMod_ii, h1, h2]
theorem body_v (s : Option D) : ∀ (cells acc : List Int) (o2 o3 o4 o5 o6 : Option D), acc.length + 60 * cells.length < sizeLine →
    ∃ (acc' : List Int) (o2' o3' o4' o5' o6' : Option D), loopL (mgName 2) mqBody (cells.map .int) [s, some (.lst (acc.map .int)), o2, o3, o4, o5, o6] = .nx [s, some (.lst (acc'.map .int)), o2', o3', o4', o5', o6'] ∧ acc'.length ≤ acc.length + 60 * cells.length := by
  intro cells
  induction cells with
  | nil => exact fun acc o2 o3 o4 o5 o6 _ => ⟨acc, o2, o3, o4, o5, o6, rfl, Nat.le_refl _⟩
  | cons c r ih =>
    intro acc o2 o3 o4 o5 o6 h
    rw [List.length_cons] at h
    rw [List.map_cons]
    by_cases hc : (1000000000000000000 : Int) ≤ (if c < 0 then -c else c)
    · obtain ⟨acc1, n1, o41, e1, l1⟩ := inner_v s (some (.int c)) o4 o5 o6 (rangeL 0 60) acc (if c < 0 then -c else c) (by
        have : (rangeL 0 60).length = 60 := by simp [rangeL]
        omega)
      have hl : (rangeL 0 60).length = 60 := by simp [rangeL]
      obtain ⟨acc', o2', o3', o4', o5', o6', e, l⟩ := ih acc1 (some (.int c)) (some (.int n1)) o41 o5 o6 (by omega)
      refine ⟨acc', o2', o3', o4', o5', o6', ?_, by rw [List.length_cons]; omega⟩
      rw [← e]
      have ok60 : okR 60 = true := by decide
      have e1' : loopL (mgName 4) mqInner (rangeL 0 60) [s, some (.lst (acc.map .int)), some (.int c), some (.int (if c < 0 then -c else c)), o4, o5, o6] = _ := e1
      have t60 : Int.toNat 60 = 60 := rfl
      simp only [loopL]
      simp [mqBody, mCall_R, qNumber_v, hc, ok60, e1']
    · have hs : (if c < 0 then -c else c).natAbs < 2 ^ 60 := by
        split <;> split at hc <;> omega
      have m1 := gMul_sm (a := if c < 0 then -c else c) (b := 48271) (i := 60) (j := 20) hs (by decide) (by decide) (by decide) (by decide)
      have p1 : ∀ x : Int, (x.fmod 2147483647).natAbs < 2 ^ 60 := fun x => by
        rw [Int.fmod_eq_emod_of_nonneg _ (by decide)]
        omega
      have m2' := fun x : Int => gMul_sm (a := x.fmod 2147483647) (b := 69621) (i := 60) (j := 20) (p1 x) (by decide) (by decide) (by decide) (by decide)
      obtain ⟨acc', o2', o3', o4', o5', o6', e, l⟩ := ih (acc ++ [(if c < 0 then -c else c).fmod 1000, ((((if c < 0 then -c else c) * 48271 + 11).fmod 2147483647)).fmod 1000, ((((((if c < 0 then -c else c) * 48271 + 11).fmod 2147483647) * 69621 + (if c < 0 then -c else c)).fmod 2147483629)).fmod 1000])
        (some (.int c)) (some (.int (if c < 0 then -c else c))) o4 (some (.int (((if c < 0 then -c else c) * 48271 + 11).fmod 2147483647))) (some (.int (((((if c < 0 then -c else c) * 48271 + 11).fmod 2147483647) * 69621 + (if c < 0 then -c else c)).fmod 2147483629))) (by simp; omega)
      refine ⟨acc', o2', o3', o4', o5', o6', ?_, by simp at l; rw [List.length_cons]; omega⟩
      rw [← e]
      have h3 : 3 ≤ sizeLine := by decide
      have h4 : acc.length + 3 ≤ sizeLine := by omega
      simp only [loopL]
      simp [mqBody, mCall_R, qNumber_v, hc, m1, m2', gMod_ii, getO_1, gExtend, h3, h4]
theorem qDraws_v (zs : List Int) (h : zs.length ≤ 63) : ∃ l : List Int, ∀ ρ, (qDraws [.scr (zs.map .int)]).R ρ = .ok (.lst (l.map .int)) ρ := by
  have hz : sizeLine = 16777216 := by decide
  obtain ⟨acc', o2', o3', o4', o5', o6', e, l⟩ := body_v (some (.scr (zs.map .int))) zs [] none none none none none (by simp; omega)
  refine ⟨acc', fun ρ => ?_⟩
  have e' : loopL (mgName 2) mqBody (zs.map .int) [some (.scr (zs.map .int)), some (.lst []), none, none, none, none, none] = _ := e
  have h0 : 0 ≤ sizeLine := by decide
  simp [qDraws, runM, mqDraws, pad, gIter, h0, e', getO_1]
end DL
namespace DL
open L2 PySem PySem.Spec PyProof.Rows

theorem eu_step {b r k : Nat} (hb : b < 2 ^ (k + 1)) (hr : 0 < r) (hrb : r < b) : b % r < 2 ^ k := by
  have h1 := Nat.mod_lt b hr
  rw [Nat.pow_succ] at hb
  by_cases h : 2 * r ≤ b
  · omega
  · have e : b % r = b - r := by rw [Nat.mod_eq_sub_mod (by omega), Nat.mod_eq_of_lt (by omega)]
    omega
theorem fmod_nat (a b : Nat) : (a : Int).fmod (b : Int) = ((a % b : Nat) : Int) := by
  rw [Int.fmod_eq_emod_of_nonneg _ (Int.natCast_nonneg b)]
  exact (Int.natCast_emod a b).symm
def mEuC : MT := mTest (m2 gNe (mVar 1) (mK (.int 0)))
def mEuB : MS := msPar [0, 1] (mCons (mVar 1) (mCons (m2 gMod (mVar 0) (mVar 1)) mNil))
theorem eu_zero (a n : Nat) : loopW mEuC mEuB (n + 1) [some (.int (a : Int)), some (.int ((0 : Nat) : Int))] = .nx [some (.int (a : Int)), some (.int 0)] := by
  simp [loopW, mEuC]
theorem eu_one {a b n : Nat} (hb : b ≠ 0) : loopW mEuC mEuB (n + 1) [some (.int (a : Int)), some (.int (b : Int))] = loopW mEuC mEuB n [some (.int (b : Int)), some (.int ((a % b : Nat) : Int))] := by
  have h : (b : Int) ≠ 0 := by omega
  rw [← fmod_nat]
  simp [loopW, mEuC, mEuB, h, gMod_nz h, hb]
theorem eu_loop : ∀ (k a b n : Nat), b < 2 ^ k → 2 * k + 1 ≤ n → loopW mEuC mEuB n [some (.int (a : Int)), some (.int (b : Int))] = .nx [some (.int (Nat.gcd a b : Nat)), some (.int 0)]
  | k, a, b, 0, _, h => by omega
  | 0, a, b, n + 1, hb, h => by
    obtain rfl : b = 0 := by simpa using hb
    rw [Nat.gcd_zero_right]
    exact eu_zero a n
  | k + 1, a, b, n + 1, hb, h => by
    by_cases b0 : b = 0
    · subst b0
      rw [Nat.gcd_zero_right]
      exact eu_zero a n
    · rw [eu_one b0]
      have g1 : Nat.gcd a b = Nat.gcd b (a % b) := by rw [Nat.gcd_comm a b, Nat.gcd_rec b a, Nat.gcd_comm]
      by_cases r0 : a % b = 0
      · rw [g1, r0, Nat.gcd_zero_right]
        obtain ⟨m, rfl⟩ : ∃ m, n = m + 1 := ⟨n - 1, by omega⟩
        exact eu_zero b m
      · have hrb := Nat.mod_lt a (Nat.pos_of_ne_zero b0)
        obtain ⟨m, rfl⟩ : ∃ m, n = m + 1 := ⟨n - 1, by omega⟩
        rw [eu_one r0]
        have g2 : Nat.gcd b (a % b) = Nat.gcd (a % b) (b % (a % b)) := by rw [Nat.gcd_comm b, Nat.gcd_rec (a % b) b, Nat.gcd_comm]
        rw [g1, g2]
        exact eu_loop k (a % b) (b % (a % b)) m (eu_step hb (Nat.pos_of_ne_zero r0) hrb) (by omega)
def mqDivisor : MS := (msSeq (msPar [0, 1] (mCons (mN gAbs (mCons (mVar 0) mNil)) (mCons (mN gAbs (mCons (mVar 1) mNil)) mNil))) (msSeq (msWhile 1000000 mEuC mEuB) (msRet (mVar 0))))
def qDivisor : FN := runM 2 2 [] false mqDivisor
theorem abs_cast (a : Int) : (if a < 0 then -a else a) = ((a.natAbs : Nat) : Int) := by split <;> omega
theorem qDivisor_v (a b : Int) (hb : b.natAbs < 2 ^ 8000) (ρ : En) : (qDivisor [.int a, .int b]).R ρ = .ok (.int (Int.gcd a b : Nat)) ρ := by
  have e := eu_loop 8000 a.natAbs b.natAbs 1000000 hb (by decide)
  rw [Int.gcd_eq_natAbs_gcd_natAbs]
  simp [qDivisor, runM, mqDivisor, pad, abs_cast, e]
def mEv : MS := (msSeq (msIf (mTest (m2 gEq (mVar 3) (mK (.int 0)))) msBrk msNil) (msPar [2, 3] (mCons (mVar 3) (mCons (m2 gMod (mN gInt (mCons (mVar 2) mNil)) (mVar 3)) mNil))))
theorem ev_zero (x y : Option D) (a : Nat) (o : Option D) : ∀ ds : List D, ∃ o', loopL (mgName 4) mEv ds [x, y, some (.int (a : Int)), some (.int ((0 : Nat) : Int)), o] = .nx [x, y, some (.int (a : Int)), some (.int 0), o']
  | [] => ⟨o, rfl⟩
  | d :: r => ⟨some d, by simp [loopL, mEv]⟩
theorem ev_one (x y : Option D) {a b : Nat} (o : Option D) (hb : b ≠ 0) (d : D) (ds : List D) : loopL (mgName 4) mEv (d :: ds) [x, y, some (.int (a : Int)), some (.int (b : Int)), o] = loopL (mgName 4) mEv ds [x, y, some (.int (b : Int)), some (.int ((a % b : Nat) : Int)), some d] := by
  have h : (b : Int) ≠ 0 := by omega
  rw [← fmod_nat]
  simp [loopL, mEv, h, gMod_nz h, hb]
theorem ev_loop (x y : Option D) : ∀ (k a b : Nat) (o : Option D) (ds : List D), b < 2 ^ k → 2 * k ≤ ds.length → ∃ o', loopL (mgName 4) mEv ds [x, y, some (.int (a : Int)), some (.int (b : Int)), o] = .nx [x, y, some (.int (Nat.gcd a b : Nat)), some (.int 0), o']
  | 0, a, b, o, ds, hb, h => by
    obtain rfl : b = 0 := by simpa using hb
    rw [Nat.gcd_zero_right]
    exact ev_zero x y a o ds
  | k + 1, a, b, o, [], hb, h => by simp at h
  | k + 1, a, b, o, [_], hb, h => by simp at h; omega
  | k + 1, a, b, o, d :: d2 :: ds, hb, h => by
    by_cases b0 : b = 0
    · subst b0
      rw [Nat.gcd_zero_right]
      exact ev_zero x y a o _
    · rw [ev_one x y o b0]
      have g1 : Nat.gcd a b = Nat.gcd b (a % b) := by rw [Nat.gcd_comm a b, Nat.gcd_rec b a, Nat.gcd_comm]
      by_cases r0 : a % b = 0
      · rw [g1, r0, Nat.gcd_zero_right]
        exact ev_zero x y b _ _
      · have hrb := Nat.mod_lt a (Nat.pos_of_ne_zero b0)
        rw [ev_one x y _ r0]
        have g2 : Nat.gcd b (a % b) = Nat.gcd (a % b) (b % (a % b)) := by rw [Nat.gcd_comm b, Nat.gcd_rec (a % b) b, Nat.gcd_comm]
        rw [g1, g2]
        exact ev_loop x y k (a % b) (b % (a % b)) _ ds (eu_step hb (Nat.pos_of_ne_zero r0) hrb) (by simp at h; omega)
def mqLD (mi : En → R (List D)) : MS := (msSeq (msAsg (mN gAbs (mCons (mVar 0) mNil)) (mgName 2)) (msSeq (msAsg (mN gAbs (mCons (mVar 1) mNil)) (mgName 3)) (msSeq (msFor mi (mgName 4) mEv) (msRet (mVar 2)))))
def qLDivisor : FN := runM 5 2 [] false (mqLD (mItN gRange1 (mCons (m2 gPow (mK (.int 10)) (mK (.int 9))) mNil)))
theorem rangeL_length (i : Int) (n : Nat) : (rangeL i n).length = n := by simp [rangeL]
theorem mqLD_v {mi : En → R (List D)} {ds : List D} (hmi : ∀ ρ, mi ρ = .ok ds ρ) (hl : 16000 ≤ ds.length) (a b : Int) (hb : b.natAbs < 2 ^ 8000) (ρ : En) : (runM 5 2 [] false (mqLD mi) [.int a, .int b]).R ρ = .ok (.int (Int.gcd a b : Nat)) ρ := by
  obtain ⟨o', e⟩ := ev_loop (some (.int a)) (some (.int b)) 8000 a.natAbs b.natAbs none ds hb hl
  rw [Int.gcd_eq_natAbs_gcd_natAbs]
  simp [runM, mqLD, pad, abs_cast, hmi, e]
theorem p9 : gPow (.int 10) (.int 9) = some (.int 1000000000) := by
  have c : CPow 10 9 := by decide
  show (if CPow 10 9 then some (D.int (10 ^ (9 : Int).toNat)) else none) = _
  rw [if_pos c] <;> rfl
theorem r9 : ∃ ds, gRange1 [.int 1000000000] = some ds ∧ 16000 ≤ ds.length := by
  have ok9 : okR 1000000000 = true := by decide
  exact ⟨rangeL 0 (Int.toNat 1000000000), by rw [gRange1_i, if_pos ok9], by rw [rangeL_length]; decide⟩
theorem qLDivisor_v (a b : Int) (hb : b.natAbs < 2 ^ 8000) (ρ : En) : (qLDivisor [.int a, .int b]).R ρ = .ok (.int (Int.gcd a b : Nat)) ρ := by
  obtain ⟨ds, hds, hl⟩ := r9
  refine mqLD_v (fun ρ => ?_) hl a b hb ρ
  rw [mItN_ap, mCons_ap, m2_ap, mK_ap, bind_ok, mK_ap, bind_ok, p9, ret_some, bind_ok, mNil_ap, bind_ok, bind_ok, hds, ret_some]

def sgcd (a b : Int) : Int := if b < 0 then -(Int.gcd a b : Int) else (Int.gcd a b : Int)
def low (a b : Int) : Int × Int := (a.fdiv (sgcd a b), b.fdiv (sgcd a b))
def tupI (p : Int × Int) : D := .tup [.int p.1, .int p.2]
theorem sgcd_ne {a b : Int} (h : b ≠ 0) : sgcd a b ≠ 0 := by
  have : 0 < Int.gcd a b := Int.gcd_pos_of_ne_zero_right a h
  unfold sgcd
  split <;> omega
theorem gcd_le {a b : Int} (h : b ≠ 0) : Int.gcd a b ≤ b.natAbs := by
  rw [Int.gcd_eq_natAbs_gcd_natAbs]
  exact Nat.gcd_le_right _ (by omega)
theorem sgcd_sm {a b : Int} {k : Nat} (h : b ≠ 0) (hb : b.natAbs < 2 ^ k) : (sgcd a b).natAbs < 2 ^ k := by
  have := gcd_le (a := a) h
  unfold sgcd
  split <;> omega
def mqLowest (F : FN) (neg : ME) : MS := (msSeq (msAsg (mCall F (mCons (mVar 0) (mCons (mVar 1) mNil))) (mgName 2)) (msSeq (msIf (mTest (m2 gLt (mVar 1) (mK (.int 0)))) (msAsg neg (mgName 2)) msNil) (msRet (mN gTup (mCons (m2 gDiv (mVar 0) (mVar 2)) (mCons (m2 gDiv (mVar 1) (mVar 2)) mNil))))))
def qLowest : FN := runM 3 2 [] false (mqLowest qDivisor (m1 gNeg (mVar 2)))
def qLLowest : FN := runM 3 2 [] false (mqLowest qLDivisor (m2 gSub (mK (.int 0)) (mVar 2)))
theorem two_le : 2 ≤ sizeLine := by decide
theorem lowest_gen {F : FN} {neg : ME} {a b : Int} (h : b ≠ 0) (hb : b.natAbs < 2 ^ 8000) (hF : ∀ ρ, (F [.int a, .int b]).R ρ = .ok (.int (Int.gcd a b : Nat)) ρ) (hn : ∀ (x y : Option D) (z : Int), neg [x, y, some (.int z)] = .ok (.int (-z)) [x, y, some (.int z)]) (ρ : En) :
    (runM 3 2 [] false (mqLowest F neg) [.int a, .int b]).R ρ = .ok (tupI (low a b)) ρ := by
  have d1 := fun x : Int => gDiv_sm (a := x) (sgcd_ne (a := a) h) (sgcd_sm (a := a) h hb) (by decide) (by decide)
  by_cases n : b < 0
  · have e : sgcd a b = -(Int.gcd a b : Int) := if_pos n
    rw [e] at d1
    simp [runM, mqLowest, pad, mCall_R, hF, n, d1, two_le, tupI, low, e, hn]
  · have e : sgcd a b = (Int.gcd a b : Int) := if_neg n
    rw [e] at d1
    simp [runM, mqLowest, pad, mCall_R, hF, n, d1, two_le, tupI, low, e]
theorem qLowest_v {a b : Int} (h : b ≠ 0) (hb : b.natAbs < 2 ^ 8000) (ρ : En) : (qLowest [.int a, .int b]).R ρ = .ok (tupI (low a b)) ρ := lowest_gen h hb (qDivisor_v a b hb) (fun x y z => by simp) ρ
theorem qLLowest_v {a b : Int} (h : b ≠ 0) (hb : b.natAbs < 2 ^ 8000) (ρ : En) : (qLLowest [.int a, .int b]).R ρ = .ok (tupI (low a b)) ρ := lowest_gen h hb (qLDivisor_v a b hb) (fun x y z => by simp) ρ
def isNum (a b : Int) : Bool := decide (1 ≤ b) && decide (Int.gcd a b = 1)
theorem low_sm {a b : Int} {i j : Nat} (h1 : a.natAbs < 2 ^ i) (h2 : b.natAbs < 2 ^ j) : (low a b).1.natAbs < 2 ^ i ∧ (low a b).2.natAbs < 2 ^ j :=
  ⟨Nat.lt_of_le_of_lt (Int.natAbs_fdiv_le_natAbs _ _) h1, Nat.lt_of_le_of_lt (Int.natAbs_fdiv_le_natAbs _ _) h2⟩
theorem low_num {a b : Int} (h : b ≠ 0) : isNum (low a b).1 (low a b).2 = true := by
  have g0 : 0 < Int.gcd a b := Int.gcd_pos_of_ne_zero_right a h
  have da : (Int.gcd a b : Int) ∣ a := Int.gcd_dvd_left a b
  have db : (Int.gcd a b : Int) ∣ b := Int.gcd_dvd_right a b
  obtain ⟨x, hx⟩ := da
  obtain ⟨y, hy⟩ := db
  generalize hg : Int.gcd a b = g at *
  have gi : (g : Int) ≠ 0 := by omega
  have cop : Int.gcd x y = 1 := by
    have e : Int.gcd a b = g * Int.gcd x y := by
      rw [hx, hy, Int.gcd_mul_left]
      simp
    rw [hg] at e
    exact Nat.eq_of_mul_eq_mul_left g0 (by omega)
  unfold low sgcd isNum
  rw [hg]
  by_cases n : b < 0
  · rw [if_pos n]
    have e1 : a.fdiv (-(g : Int)) = -x := by
      have : a = (-x) * (-(g : Int)) := by rw [hx, Int.neg_mul_neg, Int.mul_comm]
      rw [this, Int.mul_fdiv_cancel _ (by omega)]
    have e2 : b.fdiv (-(g : Int)) = -y := by
      have : b = (-y) * (-(g : Int)) := by rw [hy, Int.neg_mul_neg, Int.mul_comm]
      rw [this, Int.mul_fdiv_cancel _ (by omega)]
    rw [e1, e2]
    have y0 : y < 0 := by
      by_cases q : 0 ≤ y
      · have : 0 ≤ (g : Int) * y := Int.mul_nonneg (by omega) q
        omega
      · omega
    simp [cop]
    omega
  · rw [if_neg n]
    have e1 : a.fdiv (g : Int) = x := by rw [hx, Int.mul_comm, Int.mul_fdiv_cancel _ gi]
    have e2 : b.fdiv (g : Int) = y := by rw [hy, Int.mul_comm, Int.mul_fdiv_cancel _ gi]
    rw [e1, e2]
    have y0 : 0 < y := by
      by_cases q : y ≤ 0
      · have : (g : Int) * y ≤ 0 := Int.mul_nonpos_of_nonneg_of_nonpos (by omega) q
        omega
      · omega
    simp [cop]
    omega
def mqIsNumber : MS := (msSeq (msAsg (mVar 0) (mgTup 2 (mgCons (mgName 1) (mgCons (mgName 2) mgNil)))) (msRet (mAnd (m2 gGe (mVar 2) (mK (.int 1))) (m2 gEq (mCall qDivisor (mCons (mVar 1) (mCons (mVar 2) mNil))) (mK (.int 1))))))
def qIsNumber : FN := runM 3 1 [] false mqIsNumber
theorem qIsNumber_v {a b : Int} (hb : b.natAbs < 2 ^ 8000) (ρ : En) : (qIsNumber [tupI (a, b)]).R ρ = .ok (.bl (isNum a b)) ρ := by
  have e : decide (((Int.gcd a b : Nat) : Int) = 1) = decide (Int.gcd a b = 1) := by rw [decide_eq_decide]; omega
  by_cases h : 1 ≤ b
  · simp [qIsNumber, runM, mqIsNumber, pad, tupI, mCall_R, qDivisor_v a b hb, isNum, h, e]
  · simp [qIsNumber, runM, mqIsNumber, pad, tupI, mCall_R, qDivisor_v a b hb, isNum, h]

theorem int_len {a : Int} (h : a.natAbs < 2 ^ 1900) : (Str.ofString (toString a)).length ≤ 2000 := by
  have e := int_text_length_le (k := 1900) (by decide) (lg h (by decide))
  rw [PySem.ofString_length]; omega
theorem shown_tup {p : Int × Int} (h1 : p.1.natAbs < 2 ^ 1900) (h2 : p.2.natAbs < 2 ^ 1900) : ∃ z, shownD (tupI p) = some z := by
  have l1 := lg h1 (by decide)
  have l2 := lg h2 (by decide)
  have e : (PyData.tuple [.int p.1, .int p.2]).shown = tupleText [Str.ofString (toString p.1), Str.ofString (toString p.2)] := by simp only [PyData.shown, PyData.shownAll] <;> rfl
  have e1 := int_len h1
  have e2 := int_len h2
  have n1 : (PyData.tuple [.int p.1, .int p.2]).showable = true := by simp only [PyData.showable, PyData.showableAll, Bool.and_true, Bool.and_eq_true, decide_eq_true_eq]; omega
  have n2 : (PyData.tuple [.int p.1, .int p.2]).shown.length ≤ sizeLine := by
    rw [e]
    have : tupleText [Str.ofString (toString p.1), Str.ofString (toString p.2)] = ("(" : Str) ++ (Str.ofString (toString p.1) ++ ", " ++ Str.ofString (toString p.2)) ++ (")" : String) := rfl
    rw [this, strLen_append, strLen_append, strLen_append, strLen_append, PySem.ofString_length "(", PySem.ofString_length ", ", PySem.ofString_length ")", sizeLine_eq]
    have a1 : "(".length = 1 := rfl
    have a2 : ", ".length = 2 := rfl
    have a3 : ")".length = 1 := rfl
    omega
  have n3 : (PyData.tuple [.int p.1, .int p.2]).depth ≤ 60 := by simp [PyData.depth, PyData.depthAll]
  refine ⟨(PyData.tuple [.int p.1, .int p.2]).shown, ?_⟩
  · unfold shownD
    show (match D.py (.tup [.int p.1, .int p.2]) with
      | some x => if x.showable = true ∧ x.shown.length ≤ sizeLine ∧ x.depth ≤ 60 then some x.shown else none
      | none => none) = _
    have ep : D.py (.tup [.int p.1, .int p.2]) = some (.tuple [.int p.1, .int p.2]) := rfl
    rw [ep]
    exact if_pos ⟨n1, n2, n3⟩
theorem shown_bl (b : Bool) : ∃ z, shownD (.bl b) = some z := by cases b <;> exact ⟨_, rfl⟩
theorem shown_non : ∃ z, shownD .non = some z := ⟨_, rfl⟩
end DL
namespace DL
open L2 PySem PySem.Spec PyProof.Rows

def DAT (X : Cx) (G : Gd) (O : List Nat) (W : WX) (es : List Expr) (m : MA) : Prop := PAT X es (tA X.K G O W m)
def DET (X : Cx) (G : Gd) (O : List Nat) (W : WX) (e : Expr) (m : ME) : Prop := PET X e (tE X.K G O W m)
def PE1 (X : Cx) (e : Expr) (t : TE) : Prop := ∀ (pins : List (Addr × Obj)) (s : Shared) (σ : L2.St) (H : Hp) (Q : VK), Inv X pins σ H s → t σ H Q → wpAny (model X.prog X.w) X.A (eval e X.env) (fun v s' => 1 ≤ s'.toks ∧ EP X pins σ Q v s') X.xe s
def DE1 (X : Cx) (G : Gd) (O : List Nat) (W : WX) (e : Expr) (m : ME) : Prop := PE1 X e (tE X.K G O W m)
section
variable {X : Cx} {G : Gd} {O : List Nat} {W : WX} {a b e o : Expr} {es : List Expr} {ma me mo : ME} {mr : MA} {pos p apos : Pos} {c : Str} {j : Nat}
theorem pa_consT {te : TE} {ta : TA} (ha : PE1 X e te) (hr : PAT X es ta) (hs : starEach (e :: es) X.env = (false, eval e X.env) :: starEach es X.env := by rfl) : PA X (e :: es) (tCons te ta) := by
  refine ⟨fun pos pins s σ H Q I h => ?_⟩
  rw [hs]
  show wpAny _ _ (spliced ((false, eval e X.env) :: backTo pos (starEach es X.env))) _ _ s
  refine Calls.spliced_cons (wpAny_mono (ha pins s σ H _ I h) (fun v s1 q => ?_) fun _ _ z => z)
  obtain ⟨hk, x, H1, I1, r1, q1⟩ := q
  exact thn (hr pos pins s1 σ H1 _ hk I1 q1) fun us s2 ⟨xs, H2, I2, r2, q2⟩ => ⟨x :: xs, H2, I2, .cons r1 r2, q2⟩
theorem cons_go {K : PySem.W.Frag} {σ : L2.St} {H : Hp} {Q : List V → Hp → Prop} (h : tA K G O W (mCons me mr) σ H Q) : tCons (tE K G O W me) (tA K G O W mr) σ H Q := by
  obtain ⟨A, ms, ρ, R, q⟩ := h
  refine ⟨A, ms, ρ, R, q.bind.mono ?_⟩
  rintro x H1 ⟨d, ρ1, R1, k1, r1, q1⟩
  refine ⟨A, ms, ρ1, R1, RPost.mono (RPost.bind q1) ?_⟩
  rintro xs H2 ⟨ds, ρ2, R2', k2, r2, q2⟩
  exact q2 _ H2 R2' Kp.refl (.cons (r1.tr (R1.kt k2)) r2)
theorem da_consT (he : DE1 X G O W e me) (hr : DAT X G O W es mr) (hs : starEach (e :: es) X.env = (false, eval e X.env) :: starEach es X.env := by rfl) : DA X G O W (e :: es) (mCons me mr) := pa_imp (pa_consT he hr hs) fun _ _ _ h => cons_go h
theorem dat_of (h : DA X G O W es mr) : DAT X G O W es mr := fun pos pins s σ H Q _ I q => h.run pos pins s σ H Q I q
theorem det_of (h : DE X G O W e me) : DET X G O W e me := fun pins s σ H Q _ I q => PE.run h pins s σ H Q I q
theorem dat_cons (he : DET X G O W e me) (hr : DAT X G O W es mr) (hs : starEach (e :: es) X.env = (false, eval e X.env) :: starEach es X.env := by rfl) : DAT X G O W (e :: es) (mCons me mr) := fun pos pins s σ H Q h0 I q => pat_cons he hr hs pos pins s σ H Q h0 I (cons_go q)
theorem de1_bin {op : Operator} {g : D → D → Option D} (ho : OpR X (binaryOp op) (rD2 X.K g)) (ha : DE X G O W a ma) : DE1 X G O W (.BinOp a op (.Constant (.str c) j p) pos) (m2 g ma (mK (.str c))) := by
  intro pins s σ H Q I h
  have h2 := op2_go (r := rD2 X.K g) (fun _ _ _ _ z => z) h
  refine wpAny_BinOp (thn (PE.run ha pins s σ H _ I h2) fun v s1 ⟨x, H1, I1, r1, q1⟩ => Calls.Constant_str ?_)
  have q2 : tE X.K G O W (mK (.str c)) σ H1 fun y H2 => rD2 X.K g x y H2 Q := q1
  obtain ⟨A, ms, ρ, R, q3⟩ := q2
  have q4 : rD2 X.K g x (.str c) H1 Q := q3 (.str c) H1 R Kp.refl (.str c)
  refine wpAny_mono (PySem.wpAny_toks (ho pins _ σ H1 x (.str c) v (.str c s1.toks) Q (I1.tok _) r1 ⟨_, rfl⟩ q4)) (fun u s2 z => ⟨?_, z.2⟩) fun _ _ z => z.2
  have : s1.toks + 1 ≤ s2.toks := z.1
  omega
def gRepl (y z : Str) (d : D) : Option D := match d with
  | .str x => if x.length + (x.length + 1) * z.length ≤ 16777216 then some (.str (Txt.replace x y z)) else none
  | _ => none
theorem det_repl {y z : Str} {j0 j1 : Nat} {c0 c1 : Pos} (hyz : (y == z) = false) (ho : DE X G O W o mo)
    (hst : starEach [.Constant (.str y) j0 c0, .Constant (.str z) j1 c1] X.env = [(false, eval (.Constant (.str y) j0 c0) X.env), (false, eval (.Constant (.str z) j1 c1) X.env)] := by rfl)
    (hbase : attributeBase o "replace" X.env (eval o X.env) = eval o X.env := by rfl) (hline : (apos.endLine == pos.line) = true := by rfl) :
    DET X G O W (.Call (.Attribute o "replace" apos) [.Constant (.str y) j0 c0, .Constant (.str z) j1 c1] [] pos) (m1 (gRepl y z) mo) := by
  intro pins s σ H Q h0 I ⟨A, ms, ρ, R, q⟩
  refine PySem.Call_method2 hbase hst hline (wpAny_mono (PySem.wpAny_toks (PE.run ho pins s σ H _ I ⟨A, ms, ρ, R, RPost.bind q⟩)) (fun v s1 hv => ?_) fun _ _ z => z.2)
  obtain ⟨hk, x, H1, I1, rx, d, ρ1, R1, k1, r1, q1⟩ := hv
  have hk' : s.toks ≤ s1.toks := hk
  obtain ⟨w, hw, q2⟩ := rp_of R1 q1
  cases d with
  | str zx =>
    obtain ⟨hb, rfl⟩ := ite_d (x := .str (Txt.replace zx y z)) hw
    cases r1
    obtain ⟨tx, rfl⟩ := rx
    refine ⟨"str", _, PySem.F.plainAttrs_str, PySem.F.slot_str_replace, PySem.F.type_str_replace, typeIs_str _ _ _, (fun _ e => nomatch e), Calls.callWith_builtin rfl (Calls.evalArgs_plain (Calls.spliced_cons (Calls.Constant_str (Calls.spliced_cons (Calls.Constant_str (Calls.spliced_nil ?_))))))⟩
    refine PySem.SC.replace (show s1.toks ≠ 0 by omega) (show s1.toks + 1 ≠ 0 by omega) (show s1.toks ≠ s1.toks + 1 by omega) hyz hb fun t' k => ⟨.str (Txt.replace zx y z), H1, ?_, ⟨t', rfl⟩, q2 _ H1 (Same.refl _) (.str _)⟩
    exact (I1.tok (s1.toks + 1 + 1)).tok k
  | _ => cases hw
variable {XC : List Nat → Prop} {Ol O' : List Nat} {fr : Bool} {y : Str} {i : Nat} {py spos : Pos} {elt tg iter cnd : Expr} {scope : Scope} {own : List (Str × Nat)} {mi : En → R (List D)} {g : MG} {mt : MT}
theorem df_lc1 (hc : X.calm = true) (hN : X.N.Nodup) (hv : (ownS own).all (fun i => !O.contains i) = true) (hi : DI X G O W tg iter mi) (ok : BlkOk X.N X.env.scope scope own)
    (hg : ∀ (s : Shared) (H : Hp) (C : Addr) (cl : List (Str × Addr)) (fp : List Addr), DG (X.blk s H scope (compEnvC scope cl C X.env) fp) G O (ownS own) tg g)
    (ht : ∀ (s : Shared) (H : Hp) (C : Addr) (cl : List (Str × Addr)) (fp : List Addr), DT (X.blk s H scope (compEnvC scope cl C X.env) fp) G O W0 cnd mt)
    (he : ∀ (s : Shared) (H : Hp) (C : Addr) (cl : List (Str × Addr)) (fp : List Addr), DE (X.blk s H scope (compEnvC scope cl C X.env) fp) G O W0 elt me) (hs : ∀ x, foldedSetIterable iter X.env x = pure x := by intro _; rfl) :
    DF X G O W (.ListComp elt [⟨tg, iter, [cnd], 0⟩] scope pos) (mLc (ownS own) mi g mt me) := df_lc (tt := tT X.K G O W0 mt) hc hN hv hi ok hg (fun s H C cl fp => pts_one (ht s H C cl fp)) (fun _ _ _ z => z) he hs
theorem ds_setLc1 (hx : XC O) (oi : O.contains i = false) (hc : X.calm = true) (hN : X.N.Nodup) (hy : X.N[i]? = some y) (hyl : X.env.scope.names.lookup y = some .local) (hsw : swapsWith (.ListComp elt [⟨tg, iter, [cnd], 0⟩] scope pos) (some (.Name y py)) spos.line X.env = pure true) (hv : (ownS own).all (fun i => !O.contains i) = true)
    (hi : DI X G O W tg iter mi) (ok : BlkOk X.N X.env.scope scope own)
    (hg : ∀ (s : Shared) (H : Hp) (C : Addr) (cl : List (Str × Addr)) (fp : List Addr), DG (X.blk s H scope (compEnvC scope cl C X.env) fp) G O (ownS own) tg g)
    (ht : ∀ (s : Shared) (H : Hp) (C : Addr) (cl : List (Str × Addr)) (fp : List Addr), DT (X.blk s H scope (compEnvC scope cl C X.env) fp) G O W0 cnd mt)
    (he : ∀ (s : Shared) (H : Hp) (C : Addr) (cl : List (Str × Addr)) (fp : List Addr), DE (X.blk s H scope (compEnvC scope cl C X.env) fp) G O W0 elt me) (hs : ∀ x, foldedSetIterable iter X.env x = pure x := by intro _; rfl) :
    DS X G XC Ol O O W fr (.Assign [.Name y py] (.ListComp elt [⟨tg, iter, [cnd], 0⟩] scope pos) spos) (msAsg (mLc (ownS own) mi g mt me) (mgName i)) := ds_setLc (tt := tT X.K G O W0 mt) hx oi hc hN hy hyl hsw hv hi ok hg (fun s H C cl fp => pts_one (ht s H C cl fp)) (fun _ _ _ z => z) he hs
theorem ds_ownLc1 (hx : XC O) (oi : O.contains i = true) (h0 : i ≠ 0 ∨ G.io = none) (hc : X.calm = true) (hN : X.N.Nodup) (hy : X.N[i]? = some y) (hyl : X.env.scope.names.lookup y = some .local) (hsw : swapsWith (.ListComp elt [⟨tg, iter, [cnd], 0⟩] scope pos) (some (.Name y py)) spos.line X.env = pure true) (hv : (ownS own).all (fun i => !O.contains i) = true)
    (hi : DI X G O W tg iter mi) (ok : BlkOk X.N X.env.scope scope own)
    (hg : ∀ (s : Shared) (H : Hp) (C : Addr) (cl : List (Str × Addr)) (fp : List Addr), DG (X.blk s H scope (compEnvC scope cl C X.env) fp) G O (ownS own) tg g)
    (ht : ∀ (s : Shared) (H : Hp) (C : Addr) (cl : List (Str × Addr)) (fp : List Addr), DT (X.blk s H scope (compEnvC scope cl C X.env) fp) G O W0 cnd mt)
    (he : ∀ (s : Shared) (H : Hp) (C : Addr) (cl : List (Str × Addr)) (fp : List Addr), DE (X.blk s H scope (compEnvC scope cl C X.env) fp) G O W0 elt me) (hs : ∀ x, foldedSetIterable iter X.env x = pure x := by intro _; rfl)
    (hpx : NPx G i := by first | exact NPx.no rfl | assumption) :
    DS X G XC Ol O O W fr (.Assign [.Name y py] (.ListComp elt [⟨tg, iter, [cnd], 0⟩] scope pos) spos) (msOwn i (mLc (ownS own) mi g mt me)) := ds_ownLc (tt := tT X.K G O W0 mt) hx oi h0 hc hN hy hyl hsw hv hi ok hg (fun s H C cl fp => pts_one (ht s H C cl fp)) (fun _ _ _ z => z) he hs hpx
end
end DL
namespace DL
open L2 PySem PySem.Spec PyProof.Rows
variable {X : Cx}
def gMulS : D → D → Option D
  | .str s, .int k => if 0 ≤ k ∧ k.toNat ≤ 16777216 ∧ s.length * k.toNat ≤ 16777216 then some (.str (Txt.mul s k)) else none
  | _, _ => none
theorem no_gMulS : NoObj gMulS := ⟨fun c fs z => by cases z <;> rfl, fun c fs z => by cases z <;> rfl⟩
theorem od_mulS : OpR X (binaryOp .Mult) (rD2 X.K gMulS) := by
  intro pins s σ H x y v u Q I rx ry ⟨A, a, b, d, t, pa, pb, e, q⟩
  cases a with
  | str i =>
    cases b with
    | int j =>
      obtain ⟨hz, rfl⟩ := ite_d (x := .str (Txt.mul i j)) e
      rw [pa.str] at rx
      rw [pb.int] at ry
      obtain ⟨t1, rfl⟩ := rx
      obtain ⟨t2, rfl⟩ := ry
      exact SB.mul (mulOk_of i.length j.toNat (Nat.le_refl _) (by omega) (by omega) hz.2.1 hz.2.2) fun t' k => ⟨.str (Txt.mul i j), H, I.tok _, ⟨_, rfl⟩, q _ _ (Same.refl _) (.str _)⟩
    | _ => cases e
  | _ => cases b <;> cases e
end DL
namespace DL
open L2 PySem PySem.Spec PyProof.Rows
def tyN : D → Option String
  | .non => some "NoneType"
  | .bl _ => some "bool"
  | .int _ => some "int"
  | .str _ => some "str"
  | .tup _ => some "tuple"
  | .lst _ => some "list"
  | .scr _ => some "list"
  | _ => none
def gIsi (T : String) (d : D) : Option D := (tyN d).bind fun a => (L2.kitB a T).map D.bl
theorem tyN_ok {K : PySem.W.Frag} {A : Addr → Prop} {H : Hp} {v : V} {d : D} {a : String} (h : Rp K A H v d) (e : tyN d = some a) : L2.TyX K H v (.type a) := by
  cases h with
  | non => cases e; exact .base .non
  | bl b => cases e; exact .base (.bl b)
  | int i => cases e; exact .base (.int i)
  | str x => cases e; exact .base (.str x)
  | tup h _ =>
    cases e
    rcases h with ⟨h | ⟨o, h⟩, _⟩ | ⟨o, its, n, h1, h2, _⟩
    · exact .base (.tup h)
    · exact .fTuple h
    · exact .kTuple h1 h2
  | lst h _ _ => cases e; exact .base (.lst h)
  | scr h _ =>
    cases e
    rcases h with ⟨h | ⟨o, h⟩, _⟩ | ⟨o, its, n, h1, h2, _⟩
    · exact .base (.lst h)
    · exact .base (.frz h)
    · exact .kList h1 h2
  | fn x => cases e
  | obj _ _ _ => cases e
section
variable {X : Cx} {G : Gd} {O : List Nat} {W : WX} {e : Expr} {me : ME} {y : Str} {T : String} {p py pos : Pos}
theorem de_isi (hg : Gl X "isinstance") (hm : X.mg "isinstance" = none) (hv : bootBuiltins y = some (.type T)) (hg2 : Gl X y) (hm2 : X.mg y = none) (he : DE X G O W e me) (hn : y ≠ "__name__" := by decide) (hdb : (y == ("__debug__" : Str)) = false := by decide)
    (hs2 : starEach [.Name y py] X.env = (false, eval (.Name y py) X.env) :: starEach [] X.env := by rfl)
    (hs : starEach [e, .Name y py] X.env = (false, eval e X.env) :: starEach [.Name y py] X.env := by rfl) (hpl : (backTo pos (starEach [.Name y py] X.env)).any (·.1) = false := by rfl) : DE X G O W (.Call (.Name "isinstance" p) [e, .Name y py] [] pos) (m1 (gIsi T) me) := by
  refine pe_imp (pe_callB call_isi hg hm bt_isinstance (pa_cons he (pa_cons (pe_bltn (v := .ty T) hg2 hm2 hv rfl hn hdb) pa_nil hs2) hs) (by decide) (by decide) hs hpl) fun σ H Q ⟨A, ms, ρ, R, q⟩ => ?_
  refine ⟨A, ms, ρ, R, RPost.mono (RPost.bind q) ?_⟩
  rintro x H1 ⟨d, ρ1, R1, k1, r1, q1⟩
  obtain ⟨z, hz, q2⟩ := rp_of R1 q1
  unfold gIsi at hz
  cases ea : tyN d with
  | none => rw [ea] at hz; cases hz
  | some a =>
    rw [ea] at hz
    obtain ⟨b, eb, rfl⟩ := map_some (show (L2.kitB a T).map D.bl = some z from hz)
    exact ⟨x, .ty T, .type a, .type T, b, rfl, .ty T, tyN_ok r1 ea, kit_ty eb, q2 _ _ (Same.refl _) (.bl b)⟩
def mIsiO (T : String) (j : Nat) : ME := fun ρ => match getO ρ j with
  | some (.lst _) => ret ((L2.kitB "list" T).map D.bl) ρ
  | _ => .bad
theorem de_isiO {j : Nat} (hj : O.contains j = true) (hg : Gl X "isinstance") (hm : X.mg "isinstance" = none) (hv : bootBuiltins y = some (.type T)) (hg2 : Gl X y) (hm2 : X.mg y = none) (he : PE X e (tVar j)) (hn : y ≠ "__name__" := by decide) (hdb : (y == ("__debug__" : Str)) = false := by decide)
    (hs2 : starEach [.Name y py] X.env = (false, eval (.Name y py) X.env) :: starEach [] X.env := by rfl)
    (hs : starEach [e, .Name y py] X.env = (false, eval e X.env) :: starEach [.Name y py] X.env := by rfl) (hpl : (backTo pos (starEach [.Name y py] X.env)).any (·.1) = false := by rfl) : DE X G O W (.Call (.Name "isinstance" p) [e, .Name y py] [] pos) (mIsiO T j) := by
  refine pe_imp (pe_callB call_isi hg hm bt_isinstance (pa_cons he (pa_cons (pe_bltn (v := .ty T) hg2 hm2 hv rfl hn hdb) pa_nil hs2) hs) (by decide) (by decide) hs hpl) fun σ H Q ⟨A, ms, ρ, R, q⟩ => ?_
  unfold mIsiO at q
  split at q
  · rename_i l hl
    obtain ⟨pj, h1, h2, h3⟩ := own_at R hj hl
    obtain ⟨z, hz, q2⟩ := rp_of R q
    obtain ⟨b, eb, rfl⟩ := map_some hz
    cases h3 with
    | lst e0 r0 => exact ⟨_, h2, _, .ty T, .type "list", .type T, b, rfl, .ty T, .base (.lst e0), kit_ty eb, q2 _ _ (Same.refl _) (.bl b)⟩
  · exact q.elim
end
def gInsert (cs ds : List D) : Option (D × List D) := match ds with
  | [.int i, d] => if cs.length < sizeLine ∧ 0 ≤ i ∧ i < 2 ^ 63 then some (.non, cs.take i.toNat ++ [d] ++ cs.drop i.toNat) else none
  | _ => none
theorem om_insert {X : Cx} : MtR X "list.insert" (rOM X.K gInsert) := by
  rintro pins s σ H x vs v us Q I rx rv ⟨A, p, cs, ds, ws, z, cs', rfl, ap, t, hp, rc, rd, hg, q⟩
  unfold gInsert at hg
  split at hg
  · rename_i i d
    split at hg
    · rename_i hz
      cases hg
      cases rd with
      | cons r1 r2 =>
        cases r2 with
        | cons r2 r3 =>
          cases r3
          cases r1
          refine mt_insert pins s σ H _ _ v us Q I rx rv ⟨p, ws, i, _, rfl, rfl, hp, by rw [rc.length]; exact hz.1, hz.2.1, hz.2.2, ?_⟩
          exact q _ _ upd_out ⟨_, upd_same, (((rc.take i.toNat).upd ap).app (.cons (r2.upd ap) .nil)).app ((rc.drop i.toNat).upd ap)⟩ .non
    · cases hg
  · cases hg
theorem own_postN {K : PySem.W.Frag} {G : Gd} {XC : List Nat → Prop} {Ol O : List Nat} {W : WX} {fr : Bool} {me : ME} {i : Nat} (hx : XC O) (hi : O.contains i = false) (h0 : i ≠ 0 ∨ G.io = none) (hpx : NPx G i) {D0 : Ends} {σ : L2.St} {H : Hp} (h : tS K G XC Ol O (i :: O) W fr (msOwn i me) D0 σ H) :
    tF K G O W me σ H fun v H1 => D0.nx (σ.set i (some v)) H1 := by
  obtain ⟨A, ms, ρ, R, q⟩ := h
  refine ⟨A, ms, ρ, R, ?_⟩
  unfold msOwn at q
  cases hm : me ρ with
  | bad => rw [hm] at q; exact q.elim
  | ex y ρ1 => rw [hm] at q; exact fun dx H1 R1 k xr => q dx σ H1 A ms O hx R1 (R1.kt k) xr
  | ok d ρ1 =>
    rw [hm] at q
    intro r H1 R1 R2 k hr ow
    have q' : SPost K G XC Ol (i :: O) W fr A H D0 (if i < ρ1.length then .nx (ρ1.set i (some d)) else .bad) := q
    split at q'
    · rename_i hlt
      have R3 := R2.forget (O1 := i :: O) hpx h0 fun j hj => by simp [hj]
      have nm : ∀ j ∈ i :: O, (if j = i then none else ms j) ≠ some r := fun j m e => by
        by_cases z : j = i
        · rw [if_pos z] at e; cases e
        · rw [if_neg z] at e
          exact R.msne hr j ((List.mem_cons.mp m).resolve_left z) e
      have R4 := R3.own List.mem_cons_self h0 (by rw [List.length_set]; exact hlt) nm hpx (h0_none R hr) ow
      rw [List.set_set] at R4
      refine q' _ H1 _ _ R4 fun a o e n => ⟨(R1.kt k a o e n).1, fun z => z.elim n fun z => ?_⟩
      rw [z, hr] at e
      cases e
    · exact q'.elim
section
variable {X : Cx} {G : Gd} {XC : List Nat → Prop} {Ol O : List Nat} {W : WX} {fr : Bool} {me : ME} {i : Nat} {y : Str} {pos : Pos}
variable {py spos : Pos} {elt tg iter : Expr} {ifs : List Expr} {scope : Scope} {own : List (Str × Nat)} {mi : En → R (List D)} {g : MG} {mt : MT} {tt : TT}
theorem ds_ownLcN (hx : XC O) (oi : O.contains i = false) (h0 : i ≠ 0 ∨ G.io = none) (hc : X.calm = true) (hN : X.N.Nodup) (hy : X.N[i]? = some y) (hyl : X.env.scope.names.lookup y = some .local) (hsw : swapsWith (.ListComp elt [⟨tg, iter, ifs, 0⟩] scope pos) (some (.Name y py)) spos.line X.env = pure true) (hv : (ownS own).all (fun i => !O.contains i) = true)
    (hi : DI X G O W tg iter mi) (ok : BlkOk X.N X.env.scope scope own)
    (hg : ∀ (s : Shared) (H : Hp) (C : Addr) (cl : List (Str × Addr)) (fp : List Addr), DG (X.blk s H scope (compEnvC scope cl C X.env) fp) G O (ownS own) tg g)
    (ht : ∀ (s : Shared) (H : Hp) (C : Addr) (cl : List (Str × Addr)) (fp : List Addr), PTs (X.blk s H scope (compEnvC scope cl C X.env) fp) ifs tt) (htt : ∀ σ H Q, tT X.K G O W0 mt σ H Q → tt σ H Q)
    (he : ∀ (s : Shared) (H : Hp) (C : Addr) (cl : List (Str × Addr)) (fp : List Addr), DE (X.blk s H scope (compEnvC scope cl C X.env) fp) G O W0 elt me) (hs : ∀ x, foldedSetIterable iter X.env x = pure x := by intro _; rfl)
    (hpx : NPx G i := by first | exact NPx.no rfl | assumption) :
    DS X G XC Ol O (i :: O) W fr (.Assign [.Name y py] (.ListComp elt [⟨tg, iter, ifs, 0⟩] scope pos) spos) (msOwn i (mLc (ownS own) mi g mt me)) :=
  ps_imp (ps_setLc (te := tE X.K G O W0 me) (tt := tt) (g := tG X.K G O (ownS own) g) hc hN hy hyl hsw hi ok hg ht he hs) fun D0 σ H h => lc_go (W := W) hv htt (own_postN hx oi h0 hpx h)
theorem ds_ownN {e : Expr} {x : Str} {p : Pos} (hx : XC O) (he : DF X G O W e me) (hi : O.contains i = false) (h0 : i ≠ 0 ∨ G.io = none) (hN : X.N.Nodup) (hn : X.N[i]? = some x) (hl : Loc X.env.scope x)
    (hf : X.fn x = true ∨ X.env.scope.names.lookup x = some .local := by first | exact .inl rfl | exact .inr rfl | assumption)
    (hs : swapsWithSole [.Name x p] e pos.line X.env = pure false := by rfl) (hw : swappedStores [.Name x p] e X.env = pure none := by rfl) (hpx : NPx G i := by first | exact NPx.no rfl | assumption) : DS X G XC Ol O (i :: O) W fr (.Assign [.Name x p] e pos) (msOwn i me) :=
  ps_imp (ps_asg he (pg_name hN hn hl hf) hs hw) fun D0 σ H h => own_postN hx hi h0 hpx h
end
end DL
namespace DL
open L2 PySem PySem.Spec PyProof.Rows

section
variable {K : PySem.W.Frag} {A A' : Addr → Prop} {H H' : Hp}
theorem RpF.look : ∀ {vs : List (Str × V)} {ds : List (Str × D)} {f : Str} {d : D}, RpF K A H vs ds → ds.lookup f = some d → ∃ v, vs.lookup f = some v ∧ Rp K A H v d
  | _, _, f, d, .nil, e => by cases e
  | _, _, f, d, .cons (f := g) h q, e => by
    by_cases z : f = g
    · subst z
      simp only [List.lookup, beq_self_eq_true] at e ⊢
      cases e
      exact ⟨_, rfl, h⟩
    · have zb : (f == g) = false := by simpa using z
      simp only [List.lookup, zb] at e ⊢
      exact RpF.look q e
theorem RpF.lookN : ∀ {vs : List (Str × V)} {ds : List (Str × D)} {f : Str}, RpF K A H vs ds → ds.lookup f = none → vs.lookup f = none
  | _, _, f, .nil, e => rfl
  | _, _, f, .cons (f := g) h q, e => by
    by_cases z : f = g
    · subst z
      simp only [List.lookup, beq_self_eq_true] at e
      cases e
    · have zb : (f == g) = false := by simpa using z
      simp only [List.lookup, zb] at e ⊢
      exact RpF.lookN q e
def putD (f : Str) (v : D) : List (Str × D) → List (Str × D)
  | [] => [(f, v)]
  | (g, x) :: r => if g = f then (g, v) :: r else (g, x) :: putD f v r
theorem RpF.put : ∀ {vs : List (Str × V)} {ds : List (Str × D)} {f : Str} {v : V} {d : D}, RpF K A H vs ds → Rp K A H v d → RpF K A H (putF f v vs) (putD f d ds)
  | _, _, f, v, d, .nil, q => .cons q .nil
  | _, _, f, v, d, .cons (f := g) h t, q => by
    unfold putF putD
    by_cases z : g = f
    · rw [if_pos z, if_pos z]; exact .cons q t
    · rw [if_neg z, if_neg z]; exact .cons h (RpF.put t q)
theorem RpF.length : ∀ {vs : List (Str × V)} {ds : List (Str × D)}, RpF K A H vs ds → vs.length = ds.length
  | _, _, .nil => rfl
  | _, _, .cons _ q => by rw [List.length_cons, List.length_cons, RpF.length q]
end
def FldC (K : PySem.W.Frag) (cls : Str → Bool) (f : Str) : Prop := ∀ c, cls c = true → Cls K (He.ga K c) ∧ NoAttr K (He.ga K c) f
def gFld (cls : Str → Bool) (f : Str) : D → Option D
  | .obj c fs => if cls c = true then fs.lookup f else none
  | _ => none
section
variable {X : Cx} {G : Gd} {XC : List Nat → Prop} {Ol O O' O1 : List Nat} {W : WX} {fr : Bool} {a b c e o : Expr} {es : List Expr} {ma mb mc me mo : ME} {mr : MA} {pos p apos cpos : Pos} {x y f m : Str} {py : Pos} {cls : Str → Bool}
theorem gFld_some {d z : D} (e : gFld cls f d = some z) : ∃ c fs, d = .obj c fs ∧ cls c = true ∧ fs.lookup f = some z := by
  cases d with
  | obj c fs =>
    have e' : (if cls c = true then fs.lookup f else none) = some z := e
    split at e'
    · rename_i h; exact ⟨c, fs, rfl, h, e'⟩
    · cases e'
  | _ => cases e
theorem de_fld (hc : FldC X.K cls f) (ha : DE X G O W e me) (hb : attributeBase e f X.env (eval e X.env) = eval e X.env := by rfl) : DE X G O W (.Attribute e f pos) (m1 (gFld cls f) me) := by
  refine pe_imp (pe_fld ha hb) fun σ H Q ⟨A, ms, ρ, R, q⟩ => ⟨A, ms, ρ, R, q.bind.mono ?_⟩
  rintro x H1 ⟨d, ρ1, R1, k1, r1, q1⟩
  obtain ⟨z, hz, q2⟩ := rp_of R1 q1
  obtain ⟨c, fs, rfl, h1, h2⟩ := gFld_some hz
  cases r1 with
  | obj ha na rf =>
    obtain ⟨v, hv, rv⟩ := rf.look h2
    obtain ⟨i1, i2⟩ := hc c h1
    exact ⟨_, _, _, _, v, rfl, ha, i1, i2, hv, q2 v H1 (Same.refl _) rv⟩
def mFldO (cls : Str → Bool) (f : Str) (j : Nat) : ME := fun ρ => match getO ρ j with
  | some d => ret (gFld cls f d) ρ
  | none => .bad
theorem own_obj {K : PySem.W.Frag} {A : Addr → Prop} {H : Hp} {p : Addr} {c : Str} {fs : List (Str × D)} (h : Own K A H p (.obj c fs)) : ∃ dx ws, H p = some (.ins (He.ga K c) dx ws) ∧ RpF K A H ws fs := by
  cases h with
  | obj e q => exact ⟨_, _, e, q⟩
theorem de_fldO {j : Nat} (hj : O.contains j = true) (hc : FldC X.K cls f) (hy : PE X (.Name y py) (tVar j)) (hb : attributeBase (.Name y py) f X.env (eval (.Name y py) X.env) = eval (.Name y py) X.env := by rfl) : DE X G O W (.Attribute (.Name y py) f pos) (mFldO cls f j) := by
  refine pe_imp (pe_fld hy hb) fun σ H Q ⟨A, ms, ρ, R, q⟩ => ?_
  unfold mFldO at q
  cases hd : getO ρ j with
  | none => rw [hd] at q; exact q.elim
  | some d =>
    rw [hd] at q
    obtain ⟨z, hz, q2⟩ := rp_of R q
    obtain ⟨c, fs, rfl, h1, h2⟩ := gFld_some hz
    obtain ⟨p, e0, e1, oj⟩ := own_at R hj hd
    obtain ⟨dx, ws, hp, rf⟩ := own_obj oj
    obtain ⟨v, hv, rv⟩ := rf.look h2
    obtain ⟨i1, i2⟩ := hc c h1
    exact ⟨_, e1, _, _, _, _, v, rfl, hp, i1, i2, hv, q2 v H (Same.refl _) rv⟩
def msFld (cls : Str → Bool) (f : Str) (j : Nat) (m : ME) : MS := fun ρ => obind (m ρ) fun d ρ1 => match getO ρ1 j with
  | some (.obj c fs) => if cls c = true ∧ fs.length < 1000 then .nx (ρ1.set j (some (.obj c (putD f d fs)))) else .bad
  | _ => .bad
theorem RpF.upd {K : PySem.W.Frag} {A : Addr → Prop} {H : Hp} {p : Addr} {o : HO} {vs : List (Str × V)} {ds : List (Str × D)} (h : RpF K A H vs ds) (a : A p) : RpF K A (L2.upd H p o) vs ds := h.tr fun b o e n => ⟨upd_out b o e fun z => n (z ▸ a), n⟩
theorem ds_fld {j : Nat} (hx : XC O) (hj : O.contains j = true) (hc : FldC X.K cls f) (hy : PE X (.Name y py) (tVar j)) (he : DE X G O W e me) (hs : swapsWith e (some (.Attribute (.Name y py) f p)) pos.line X.env = pure false := by rfl) :
    DS X G XC Ol O O W fr (.Assign [.Attribute (.Name y py) f p] e pos) (msFld cls f j me) := by
  refine ps_imp (ps_fld hy he hs) fun D0 σ H ⟨A, ms, ρ, R, q⟩ => ⟨A, ms, ρ, R, eb hx q ?_⟩
  intro d ρ1 v H1 _ R1 k1 r q1
  split at q1
  · rename_i c fs hd
    split at q1
    · rename_i hz
      obtain ⟨p, e0, e1, oj⟩ := own_at R1 hj hd
      obtain ⟨dx, ws, hp, rf⟩ := own_obj oj
      have hj' := List.contains_iff_mem.mp hj
      have ap := R1.inA j p hj' e0
      obtain ⟨i1, i2⟩ := hc c hz.1
      refine ⟨_, e1, p, _, dx, ws, rfl, hp, i1, i2, by rw [rf.length]; exact hz.2, ?_⟩
      refine q1 σ _ A ms (R1.setOwn hj' (getO_some hd) e0 upd_out (.obj upd_same ((rf.upd ap).put (r.upd ap)))) ?_
      exact fun a o e n => ⟨upd_out a o e fun z => n (z ▸ ap), n⟩
    · exact q1.elim
  · exact q1.elim

theorem make_guards {A : Around} {C : Addr} {us : List Value} {kw : List (Str × Value)} (h : A.guards = some []) : (A.under (.builtin "type.__call__" ⟨.ref C :: us, kw⟩)).guards = some [] := by
  first | exact h | simpa [Around.under, Code.guards, pushGuards, guardIds, Code.isGuard] using h
section
variable {k : Nat} {ff C : Addr} {F : FN} {pins : List (Addr × Obj)} {σ : L2.St} {H : Hp} {s : Shared} {Q : VK} {us : List Value} {vs : List V}
theorem run_makeG (M : Mk X.K C ff) (F0 : FnG X.prog X.w X.K X.mg X.base k ff true false F) (hr : Room (k + 1) X.A) (hg : X.A.guards = some []) (tk : L2N.Takes X W) (I : Inv X pins σ H s) (r : Vals vs us)
    (h : ∀ x dx, H x = none → H dx = none → dx ≠ x → spD X.K true false F (.ref x :: vs) (L2.upd (L2.upd H dx (.own x)) x (.ins C dx [])) (fun v H2 => v = .non ∧ Q (.ref x) H2) (WE W σ)) :
    wpAny (model X.prog X.w) X.A (call (.ref C) us) (EP X pins σ Q) X.xe s := by
  have hq := h (s.heap.objs.size + 1) s.heap.objs.size (I.hok.fresh (Nat.le_succ _)) (I.hok.fresh (Nat.le_refl _)) (Nat.ne_of_lt (Nat.lt_succ_self _))
  have I2 := Inv.made (C := C) I
  have r2 : Vals (V.ref (s.heap.objs.size + 1) :: vs) (Value.ref (s.heap.objs.size + 1) :: us) := .cons rfl r
  refine wpAny_call (make_map (f := ff) I.kIn M.makes M.init (beq_iff_eq.mp M.fn) (codeAny_mono (F0.run _ X.stack _ _ (Value.ref (s.heap.objs.size + 1) :: us) (V.ref (s.heap.objs.size + 1) :: vs) _ (WE W σ) (hr.make C us [])
    (make_guards hg) (I2.env0.make C us []) r2 hq) fun r s' hq' => ?_))
  cases r with
  | error e => exact L2N.passAt tk σ pins _ _ e s' I2 hq'
  | ok fl =>
    cases fl with
    | ret u =>
      obtain ⟨v, H', I3, rv, ev, q3⟩ := I2.after hq'
      subst ev
      exact ⟨rv, ⟨V.ref (s.heap.objs.size + 1), H', I3, rfl, q3⟩⟩
    | next => exact False.elim hq'
    | brk => exact False.elim hq'
    | cont => exact False.elim hq'
end
def mMake (c : Str) (F : FN) (args : MA) : ME := fun ρ => (args ρ).bind fun ds ρ1 => match F (.obj c [] :: ds) with
  | .rt .non o => .ok o ρ1
  | .ex x _ => .ex x ρ1
  | _ => .bad
def tMakeG (K : PySem.W.Frag) (C : Addr) (F : FN) (W : WX) (t : TA) : TE := fun σ H Q => t σ H fun vs H1 => ∀ x dx, H1 x = none → H1 dx = none → dx ≠ x →
  spD K true false F (.ref x :: vs) (L2.upd (L2.upd H1 dx (.own x)) x (.ins C dx [])) (fun v H2 => v = .non ∧ Q (.ref x) H2) (WE W σ)
section
variable {k : Nat} {ff C : Addr} {F : FN}
theorem pe_makeG {t : TA} (M : Mk X.K C ff) (F0 : FnG X.prog X.w X.K X.mg X.base k ff true false F) (hr : Room (k + 1) X.A) (hg : X.A.guards = some []) (tk : L2N.Takes X W) (hn : Gl X x) (hm : X.mg x = some (.ref C)) (ha : PA X (e :: es) t)
    (hdb : (x == ("__debug__" : Str)) = false := by decide) (he : starEach (e :: es) X.env = (false, eval e X.env) :: starEach es X.env := by rfl) (hpl : (backTo pos (starEach es X.env)).any (·.1) = false := by rfl) :
    PE X (.Call (.Name x p) (e :: es) [] pos) (tMakeG X.K C F W t) := by
  refine ⟨fun pins s σ H Q I h => wpAny_Call_Name_kw (ld_glob I hn hm ?_ hdb)⟩
  exact PySem.W.callWith_K (h₀ := X.base) I.ok.mod.kin M.kp (thn (ha.run pos pins s σ H _ I h) fun us s1 ⟨vs, H1, I1, r, q⟩ => ⟨I1.kIn, run_makeG M F0 hr hg tk I1 r q⟩) he hpl
theorem pe_makeG0 (M : Mk X.K C ff) (F0 : FnG X.prog X.w X.K X.mg X.base k ff true false F) (hr : Room (k + 1) X.A) (hg : X.A.guards = some []) (tk : L2N.Takes X W) (hn : Gl X x) (hm : X.mg x = some (.ref C))
    (hdb : (x == ("__debug__" : Str)) = false := by decide) : PE X (.Call (.Name x p) [] [] pos) (tMakeG X.K C F W tNil) := by
  refine ⟨fun pins s σ H Q I h => wpAny_Call_Name_kw (ld_glob I hn hm ?_ hdb)⟩
  exact PySem.W.callWith_K0 I.kIn M.kp (run_makeG (us := []) M F0 hr hg tk I .nil h)
theorem make_go {K : PySem.W.Frag} {σ : L2.St} {H : Hp} {Q : VK} (h : tF K G O W (mMake x F mr) σ H Q) : tMakeG K (He.ga K x) F W (tA K G O W mr) σ H Q := by
  obtain ⟨A, ms, ρ, R, q⟩ := h
  refine ⟨A, ms, ρ, R, RPost.mono (FPost.bind q) ?_⟩
  rintro vs H1 ⟨ds, ρ1, R1, k1, r1, q1⟩
  intro x0 dx hx0 hdx hne
  have s1 : Same H1 (L2.upd H1 dx (.own x0)) := same_upd hdx
  have hx1 : (L2.upd H1 dx (.own x0)) x0 = none := by rw [upd_ne (fun z => hne z.symm)]; exact hx0
  have s2 : Same H1 (L2.upd (L2.upd H1 dx (.own x0)) x0 (.ins (He.ga K x) dx [])) := fun b o e => same_upd hx1 _ _ (s1 _ _ e)
  have t2 : Tr A (fun a => A a ∨ a = x0) H1 (L2.upd (L2.upd H1 dx (.own x0)) x0 (.ins (He.ga K x) dx [])) := fun b o e n => ⟨s2 _ _ e, fun z => z.elim n fun z => by rw [z, hx0] at e; cases e⟩
  have R2 := R1.grow hx0 s2 (o := .ins (He.ga K x) dx []) upd_same
  refine ⟨fun a => A a ∨ a = x0, some x0, .obj x [] :: ds, R2.trk, rfl, ⟨vs, _, ds, rfl, rfl, .inr rfl, .obj upd_same .nil, r1.tr t2⟩, ?_⟩
  have fin : ∀ {H' : Hp}, KI (some x0) (L2.upd (L2.upd H1 dx (.own x0)) x0 (.ins (He.ga K x) dx [])) H' → Same H1 H' := fun {H'} ki b o e => ki b o (s2 _ _ e) fun z => by
    have z' := Option.some.inj z
    rw [← z', hx0] at e
    cases e
  cases hF : F (.obj x [] :: ds) with
  | bad => rw [hF] at q1; exact q1.elim
  | rt d o =>
    rw [hF] at q1
    cases d with
    | non =>
      intro v H' ki rr
      have rr' := (show Rp K (fun a => A a ∨ a = x0) H' v .non ∧ ∀ p, some x0 = some p → Own K (fun a => A a ∨ a = x0) H' p o from rr)
      have ow := rr'.2 x0 rfl
      obtain ⟨o', ho'⟩ := ow.there
      refine ⟨by cases rr'.1; rfl, ?_⟩
      have s := fin ki
      have q2 : FPost K G O W A ms σ H1 Q (.ok o ρ1) := q1
      exact q2 x0 H' (R1.same s) (R1.grow hx0 s ho') (Kp.same s) hx0 ow
    | _ => exact q1.elim
  | ex y o =>
    rw [hF] at q1
    intro dx' H' ki oo xr
    have s := fin ki
    have q2 : FPost K G O W A ms σ H1 Q (.ex y ρ1) := q1
    refine q2 dx' H' (R1.same s) (Kp.same s) ?_
    rcases xr with z | ⟨ne, d, fs, e1, e2, rf⟩
    · exact .inl z
    · exact .inr ⟨ne, d, fs, e1, e2, rf.tr fun a o e n => ⟨e, fun z => n (.inl z)⟩⟩
theorem df_make {C : Str} (M : Mk X.K (He.ga X.K C) ff) (F0 : FnG X.prog X.w X.K X.mg X.base k ff true false F) (hr : Room (k + 1) X.A) (hg : X.A.guards = some []) (tk : L2N.Takes X W) (hn : Gl X C) (hm : X.mg C = some (.ref (He.ga X.K C))) (ha : DA X G O W (e :: es) mr)
    (hdb : (C == ("__debug__" : Str)) = false := by decide) (he : starEach (e :: es) X.env = (false, eval e X.env) :: starEach es X.env := by rfl) (hpl : (backTo pos (starEach es X.env)).any (·.1) = false := by rfl) :
    DF X G O W (.Call (.Name C p) (e :: es) [] pos) (mMake C F mr) := pe_imp (pe_makeG M F0 hr hg tk hn hm ha hdb he hpl) fun _ _ _ h => make_go h
theorem df_make0 {C : Str} (M : Mk X.K (He.ga X.K C) ff) (F0 : FnG X.prog X.w X.K X.mg X.base k ff true false F) (hr : Room (k + 1) X.A) (hg : X.A.guards = some []) (tk : L2N.Takes X W) (hn : Gl X C) (hm : X.mg C = some (.ref (He.ga X.K C)))
    (hdb : (C == ("__debug__" : Str)) = false := by decide) : DF X G O W (.Call (.Name C p) [] [] pos) (mMake C F mNil) := pe_imp (pe_makeG0 M F0 hr hg tk hn hm hdb) fun σ H Q h => by
  obtain ⟨A, ms, ρ, R, q⟩ := make_go h
  exact q [] H R Kp.refl .nil
end

def MethT (P : Program) (w : World) (K : PySem.W.Frag) (mg : Str → Option Value) (base : Heap) (k : Nat) (m : Str) (io fr : Bool) (tab : Str → Option FN) : Prop :=
  ∀ c F, tab c = some F → Cls K (He.ga K c) ∧ ∃ f, Meth K (He.ga K c) m f ∧ FnG P w K mg base k f io fr F
def mMeth (tab : Str → Option FN) (m : Str) (o : ME) (args : MA) : ME := fun ρ => (o ρ).bind fun d ρ1 => match d with
  | .obj c fs => match tab c with
    | some F => if (fs.lookup m).isNone = true then (args ρ1).bind fun ds ρ2 => match F (d :: ds) with
        | .rt z _ => .ok z ρ2
        | .ex x _ => .ex x ρ2
        | .bad => .bad
      else .bad
    | none => .bad
  | _ => .bad
def tMethG (K : PySem.W.Frag) (P : Program) (w : World) (mg : Str → Option Value) (base : Heap) (k : Nat) (m : Str) (io fr : Bool) (W : WX) (ta : TE) (t : TA) : TE := fun σ H Q => ta σ H fun x H1 => ∃ a C dx fs f F, x = .ref a ∧ H1 a = some (.ins C dx fs) ∧ fs.lookup m = none ∧ Cls K C ∧ Meth K C m f ∧ FnG P w K mg base k f io fr F ∧
  t σ H1 fun vs H2 => spD K io fr F (x :: vs) H2 Q (WE W σ)
section
variable {k : Nat} {io fr' : Bool} {ta : TE} {t : TA} {tab : Str → Option FN}
theorem pe_methG {pl : Sem Bool} (he : PE X o ta) (hr : Room k X.A) (hg : X.A.guards = some []) (tk : L2N.Takes X W) (ha : PA X (e :: es) t)
    (hst : starEach (e :: es) X.env = (false, eval e X.env) :: starEach es X.env := by rfl) (hpl : (backTo cpos (starEach es X.env)).any (·.1) = false := by rfl)
    (ht : eval (.Call (.Attribute o m apos) (e :: es) [] cpos) X.env = (do
      let ov ← eval o X.env
      standAt apos.atName
      let (f, first) ← holding [ov] (getMethod ov m pl)
      callWith cpos f first (backTo cpos (starEach (e :: es) X.env)) (backToKw cpos (keywordEach [] X.env))) := by rfl) :
    PE X (.Call (.Attribute o m apos) (e :: es) [] cpos) (tMethG X.K X.prog X.w X.mg X.base k m io fr' W ta t) := by
  refine ⟨fun pins s σ H Q I h => ?_⟩
  refine PySem.W.methodCall_KW (pl := pl) (thn (he.run pins s σ H _ I h) fun u s1 ⟨x, H1, I1, rx, a, C, dx, fs, f, F, ex, ea, l, c, hm, F0, q⟩ => ?_) ht
  subst ex
  obtain rfl : u = Value.ref a := rx
  refine getmeth_ok I1 ea c hm l ?_
  refine PySem.W.callWith_K (first := [.ref a]) (h₀ := X.base) I.ok.mod.kin hm.kp (thn (ha.run cpos pins s1 σ H1 _ I1 q) fun us s2 ⟨vs, H2, I2, r, q2⟩ => ⟨I2.kIn, ?_⟩) hst hpl
  exact run_fnG (us := .ref a :: us) (vs := .ref a :: vs) F0 hr hg tk I2 (.cons rfl r) q2
theorem pe_methG0 {pl : Sem Bool} (he : PE X o ta) (hr : Room k X.A) (hg : X.A.guards = some []) (tk : L2N.Takes X W)
    (ht : eval (.Call (.Attribute o m apos) [] [] cpos) X.env = (do
      let ov ← eval o X.env
      standAt apos.atName
      let (f, first) ← holding [ov] (getMethod ov m pl)
      callWith cpos f first (backTo cpos (starEach [] X.env)) (backToKw cpos (keywordEach [] X.env))) := by rfl) :
    PE X (.Call (.Attribute o m apos) [] [] cpos) (tMethG X.K X.prog X.w X.mg X.base k m io fr' W ta tNil) := by
  refine ⟨fun pins s σ H Q I h => ?_⟩
  refine PySem.W.methodCall_KW (pl := pl) (thn (he.run pins s σ H _ I h) fun u s1 ⟨x, H1, I1, rx, a, C, dx, fs, f, F, ex, ea, l, c, hm, F0, q⟩ => ?_) ht
  subst ex
  obtain rfl : u = Value.ref a := rx
  refine getmeth_ok I1 ea c hm l ?_
  exact PySem.W.callWith_K0 (first := [.ref a]) I1.kIn hm.kp (run_fnG (us := [.ref a]) (vs := [.ref a]) F0 hr hg tk I1 (.cons rfl .nil) q)
theorem mMeth_ok {d : D} {ρ1 : En} {c : Str} {fs : List (Str × D)} {α : Prop} : True := trivial
theorem meth_go {P : Program} {w : World} {mg : Str → Option Value} {base : Heap} {K : PySem.W.Frag} (T : MethT P w K mg base k m false false tab) {σ : L2.St} {H : Hp} {Q : VK} (h : tE K G O W (mMeth tab m mo mr) σ H Q) : tMethG K P w mg base k m false false W (tE K G O W mo) (tA K G O W mr) σ H Q := by
  obtain ⟨A, ms, ρ, R, q⟩ := h
  refine ⟨A, ms, ρ, R, q.bind.mono ?_⟩
  rintro x H1 ⟨d, ρ1, R1, k1, r1, q1⟩
  cases d with
  | obj c fs =>
    cases ht : tab c with
    | none => simp only [ht] at q1; exact q1.elim
    | some F =>
      simp only [ht] at q1
      split at q1
      · rename_i hz
        obtain ⟨cc, f, hm, F0⟩ := T c F ht
        have r1' := r1
        cases r1 with
        | obj ha na rf =>
          have hno := rf.lookN (f := m) (by cases hl : fs.lookup m with | none => rfl | some z => rw [hl] at hz; cases hz)
          refine ⟨_, _, _, _, f, F, rfl, ha, hno, cc, hm, F0, A, ms, ρ1, R1, RPost.mono (RPost.bind q1) ?_⟩
          rintro vs H2 ⟨ds, ρ2, R2', k2, r2, q2⟩
          refine ⟨A, none, .obj c fs :: ds, R2'.trk, rfl, .cons (r1'.tr (R1.kt k2)) r2, ?_⟩
          cases hF : F (.obj c fs :: ds) with
          | bad => simp only [hF] at q2; exact q2.elim
          | rt d o =>
            simp only [hF] at q2
            intro v H' ki ⟨rr, _⟩
            have s : Same H2 H' := fun a o e => ki a o e (by simp)
            exact q2 v H' (R2'.same s) (Kp.same s) rr
          | ex y o =>
            simp only [hF] at q2
            intro dx H' ki _ xr
            have s : Same H2 H' := fun a o e => ki a o e (by simp)
            exact q2 dx H' (R2'.same s) (Kp.same s) xr
      · exact q1.elim
  | _ => exact q1.elim
theorem meth_goF {P : Program} {w : World} {mg : Str → Option Value} {base : Heap} {K : PySem.W.Frag} (T : MethT P w K mg base k m false true tab) {σ : L2.St} {H : Hp} {Q : VK} (h : tF K G O W (mMeth tab m mo mr) σ H Q) : tMethG K P w mg base k m false true W (tE K G O W mo) (tA K G O W mr) σ H Q := by
  obtain ⟨A, ms, ρ, R, q⟩ := h
  refine ⟨A, ms, ρ, R, RPost.mono (FPost.bind q) ?_⟩
  rintro x H1 ⟨d, ρ1, R1, k1, r1, q1⟩
  cases d with
  | obj c fs =>
    cases ht : tab c with
    | none => simp only [ht] at q1; exact q1.elim
    | some F =>
      simp only [ht] at q1
      split at q1
      · rename_i hz
        obtain ⟨cc, f, hm, F0⟩ := T c F ht
        have r1' := r1
        cases r1 with
        | obj ha na rf =>
          have hno := rf.lookN (f := m) (by cases hl : fs.lookup m with | none => rfl | some z => rw [hl] at hz; cases hz)
          refine ⟨_, _, _, _, f, F, rfl, ha, hno, cc, hm, F0, A, ms, ρ1, R1, RPost.mono (FPost.bind q1) ?_⟩
          rintro vs H2 ⟨ds, ρ2, R2', k2, r2, q2⟩
          refine ⟨A, none, .obj c fs :: ds, R2'.trk, rfl, .cons (r1'.tr (R1.kt k2)) r2, ?_⟩
          cases hF : F (.obj c fs :: ds) with
          | bad => simp only [hF] at q2; exact q2.elim
          | rt d o =>
            simp only [hF] at q2
            intro v H' ki rr
            have s : Same H2 H' := fun a o e => ki a o e (by simp)
            obtain ⟨r, rfl, hr, ow, _⟩ := (show ∃ r, v = .ref r ∧ H2 r = none ∧ Own K (fun a => A a ∨ a = r) H' r d ∧ _ from rr)
            obtain ⟨o', ho'⟩ := ow.there
            exact q2 r H' (R2'.same s) (R2'.grow hr s ho') (Kp.same s) hr ow
          | ex y o =>
            simp only [hF] at q2
            intro dx H' ki _ xr
            have s : Same H2 H' := fun a o e => ki a o e (by simp)
            exact q2 dx H' (R2'.same s) (Kp.same s) xr
      · exact q1.elim
  | _ => exact q1.elim
theorem de_meth {pl : Sem Bool} (T : MethT X.prog X.w X.K X.mg X.base k m false false tab) (hr : Room k X.A) (hg : X.A.guards = some []) (tk : L2N.Takes X W) (ho : DE X G O W o mo) (ha : DA X G O W (e :: es) mr)
    (hst : starEach (e :: es) X.env = (false, eval e X.env) :: starEach es X.env := by rfl) (hpl : (backTo cpos (starEach es X.env)).any (·.1) = false := by rfl)
    (ht : eval (.Call (.Attribute o m apos) (e :: es) [] cpos) X.env = (do
      let ov ← eval o X.env
      standAt apos.atName
      let (f, first) ← holding [ov] (getMethod ov m pl)
      callWith cpos f first (backTo cpos (starEach (e :: es) X.env)) (backToKw cpos (keywordEach [] X.env))) := by rfl) :
    DE X G O W (.Call (.Attribute o m apos) (e :: es) [] cpos) (mMeth tab m mo mr) := pe_imp (pe_methG ho hr hg tk ha hst hpl ht) fun _ _ _ h => meth_go T h
theorem df_meth {pl : Sem Bool} (T : MethT X.prog X.w X.K X.mg X.base k m false true tab) (hr : Room k X.A) (hg : X.A.guards = some []) (tk : L2N.Takes X W) (ho : DE X G O W o mo) (ha : DA X G O W (e :: es) mr)
    (hst : starEach (e :: es) X.env = (false, eval e X.env) :: starEach es X.env := by rfl) (hpl : (backTo cpos (starEach es X.env)).any (·.1) = false := by rfl)
    (ht : eval (.Call (.Attribute o m apos) (e :: es) [] cpos) X.env = (do
      let ov ← eval o X.env
      standAt apos.atName
      let (f, first) ← holding [ov] (getMethod ov m pl)
      callWith cpos f first (backTo cpos (starEach (e :: es) X.env)) (backToKw cpos (keywordEach [] X.env))) := by rfl) :
    DF X G O W (.Call (.Attribute o m apos) (e :: es) [] cpos) (mMeth tab m mo mr) := pe_imp (pe_methG ho hr hg tk ha hst hpl ht) fun _ _ _ h => meth_goF T h
theorem tMethG_nil {K : PySem.W.Frag} {P : Program} {w : World} {mg : Str → Option Value} {base : Heap} {io fr' : Bool} {σ : L2.St} {H : Hp} {Q : VK} (h : tMethG K P w mg base k m io fr' W (tE K G O W mo) (tA K G O W mNil) σ H Q) : tMethG K P w mg base k m io fr' W (tE K G O W mo) tNil σ H Q := by
  obtain ⟨A, ms, ρ, R, q⟩ := h
  refine ⟨A, ms, ρ, R, q.mono ?_⟩
  rintro x H1 ⟨a, C, dx, fs, f, F, h1, h2, h3, h4, h5, h6, h7⟩
  exact ⟨a, C, dx, fs, f, F, h1, h2, h3, h4, h5, h6, tNil_go h7⟩
theorem de_meth0 {pl : Sem Bool} (T : MethT X.prog X.w X.K X.mg X.base k m false false tab) (hr : Room k X.A) (hg : X.A.guards = some []) (tk : L2N.Takes X W) (ho : DE X G O W o mo)
    (ht : eval (.Call (.Attribute o m apos) [] [] cpos) X.env = (do
      let ov ← eval o X.env
      standAt apos.atName
      let (f, first) ← holding [ov] (getMethod ov m pl)
      callWith cpos f first (backTo cpos (starEach [] X.env)) (backToKw cpos (keywordEach [] X.env))) := by rfl) :
    DE X G O W (.Call (.Attribute o m apos) [] [] cpos) (mMeth tab m mo mNil) := pe_imp (pe_methG0 ho hr hg tk ht) fun _ _ _ h => tMethG_nil (meth_go T h)
theorem df_meth0 {pl : Sem Bool} (T : MethT X.prog X.w X.K X.mg X.base k m false true tab) (hr : Room k X.A) (hg : X.A.guards = some []) (tk : L2N.Takes X W) (ho : DE X G O W o mo)
    (ht : eval (.Call (.Attribute o m apos) [] [] cpos) X.env = (do
      let ov ← eval o X.env
      standAt apos.atName
      let (f, first) ← holding [ov] (getMethod ov m pl)
      callWith cpos f first (backTo cpos (starEach [] X.env)) (backToKw cpos (keywordEach [] X.env))) := by rfl) :
    DF X G O W (.Call (.Attribute o m apos) [] [] cpos) (mMeth tab m mo mNil) := pe_imp (pe_methG0 ho hr hg tk ht) fun _ _ _ h => tMethG_nil (meth_goF T h)
end
end
end DL
namespace DL
open L2 PySem PySem.Spec PyProof.Rows

theorem takesF {X : Cx} : L2N.Takes X W0 := fun u s' ⟨_, _, _, _, _, _, _, _, _, _, _, _, _, _, _, _, z⟩ => z.elim

def G0 : Gd := ⟨fun _ => False, fun _ => none, none, none⟩
theorem RelS.pureO {K : PySem.W.Frag} {G : Gd} {O : List Nat} {A : Addr → Prop} {ms : Nat → Option Addr} {σ : L2.St} {H : Hp} {ρ : En} (R : RelS K G O A ms σ H ρ) : RelS K G0 [] (fun _ => False) ms σ H ρ where
  sub := fun _ z => z
  trk0 := fun _ z => z.elim
  trk := fun _ z => z.elim
  keep := fun a o e _ => by cases (show (none : Option HO) = some o from e)
  len := R.len
  fz := fun i d e _ => by
    by_cases m : i ∈ O
    · obtain ⟨p, e0, e1, w⟩ := R.ow i d e m
      exact ⟨_, e1, w.freeze (fun _ z => z.elim) (fun z => z)⟩
    · obtain ⟨v, e1, q⟩ := R.fz i d e m
      exact ⟨v, e1, q.less fun _ z => z.elim⟩
  ow := fun i d e m => by cases m
  inA := fun i p m => by cases m
  ok := fun i p m => by cases m
  dist := fun i j p m => by cases m
  px := fun i a c e => by cases (show (none : Option (Nat × Addr × Str)) = some (i, a, c) from e)
  io := fun p e => by cases (show (none : Option Addr) = some p from e)
theorem Kp.nil_same {ms : Nat → Option Addr} {H H' : Hp} (k : Kp [] ms H H') : Same H H' := fun a o e => k a o e fun i m => by cases m
def mPureT (m : MT) : MT := fun ρ => match m ρ with
  | .ok b _ => .ok b ρ
  | _ => .bad
def flat : D → Bool
  | .non => true
  | .bl _ => true
  | .int _ => true
  | .str _ => true
  | .fn _ => true
  | _ => false
def mPureE (m : ME) : ME := fun ρ => match m ρ with
  | .ok d _ => if flat d = true then .ok d ρ else .bad
  | _ => .bad
section
variable {X : Cx} {G : Gd} {XC : List Nat → Prop} {Ol O O' O1 : List Nat} {W : WX} {fr : Bool} {a b c e o : Expr} {es : List Expr} {ma mb mc me mo : ME} {mr : MA} {pos p apos cpos : Pos} {x y f m : Str} {py : Pos} {cls : Str → Bool}
theorem dt_pure {mt : MT} (h : DT X G0 [] W0 e mt) : DT X G O W e (mPureT mt) := by
  refine pt_imp h fun σ H Q ⟨A, ms, ρ, R, q⟩ => ⟨fun _ => False, ms, ρ, R.pureO, ?_⟩
  unfold mPureT at q
  cases hm : mt ρ with
  | bad => rw [hm] at q; exact q.elim
  | ex y ρ1 => rw [hm] at q; exact q.elim
  | ok b ρ1 =>
    rw [hm] at q
    intro v H1 R1 k1 r1
    have s := Kp.nil_same k1
    exact q v H1 (R.same s) (Kp.same s) r1
theorem flat_rp {K : PySem.W.Frag} {A A' : Addr → Prop} {H : Hp} {v : V} {d : D} (h : flat d = true) (r : Rp K A H v d) : Rp K A' H v d := by
  cases r with
  | non => exact .non
  | bl b => exact .bl b
  | int i => exact .int i
  | str z => exact .str z
  | fn z => exact .fn z
  | _ => cases h
theorem de_pure (h : DE X G0 [] W0 e me) : DE X G O W e (mPureE me) := by
  refine pe_imp h fun σ H Q ⟨A, ms, ρ, R, q⟩ => ⟨fun _ => False, ms, ρ, R.pureO, ?_⟩
  unfold mPureE at q
  cases hm : me ρ with
  | bad => rw [hm] at q; exact q.elim
  | ex y ρ1 => rw [hm] at q; exact q.elim
  | ok d ρ1 =>
    rw [hm] at q
    have q' : RPost X.K G O W A ms σ H (Rp X.K A) Q (if flat d = true then .ok d ρ else .bad) := q
    split at q'
    · rename_i hf
      intro v H1 R1 k1 r1
      have s := Kp.nil_same k1
      exact q' v H1 (R.same s) (Kp.same s) (flat_rp hf r1)
    · exact q'.elim

section
variable {k : Nat} {ff : Addr} {F : FN} {pins : List (Addr × Obj)} {σ : L2.St} {H : Hp} {s : Shared} {Q : VK} {us : List Value} {vs : List V} {A : Around}
theorem run_fnG' (C : FnG X.prog X.w X.K X.mg X.base k ff false false F) (hr : Room k A) (hg : A.guards = some []) (hfr : Env0 X.prog X.w X.K X.mg X.base A X.stack s H)
    (I : Inv X pins σ H s) (r : Vals vs us) (h : spD X.K false false F vs H Q (WE W0 σ)) : wpAny (model X.prog X.w) A (call (.ref ff) us) (EP X pins σ Q) X.xe s := by
  refine wpAny_call (codeAny_mono (C.run A X.stack s H us vs Q (WE W0 σ) hr hg hfr r h) fun res s' hres => ?_)
  cases res with
  | error e => exact L2N.passAt takesF σ pins H s e s' I hres
  | ok fl =>
    cases fl with
    | ret u => exact I.after hres
    | next => exact hres.elim
    | brk => exact hres.elim
    | cont => exact hres.elim
end
def rLenX (X : Cx) (k : Nat) : List V → Hp → VK → Prop := fun xs H Q => rDN X.K gLen xs H Q ∨
  ∃ a C dx fs f F, xs = [.ref a] ∧ H a = some (.ins C dx fs) ∧ Meth X.K C "__len__" f ∧ FnG X.prog X.w X.K X.mg X.base k f false false F ∧ Room (k + 1) X.A ∧ X.A.guards = some [] ∧
    spD X.K false false F [.ref a] H (fun v H' => ∃ n, v = .int n ∧ (0 ≤ n ∧ n < 2 ^ 63) ∧ Q v H') (fun _ _ _ => False)
theorem spD.mono {K : PySem.W.Frag} {io fr : Bool} {F : FN} {vs : List V} {H : Hp} {Q Q' : VK} {E E' : XK} (h : spD K io fr F vs H Q E) (w : ∀ v H', Q v H' → Q' v H') (w2 : ∀ c d H', E c d H' → E' c d H') : spD K io fr F vs H Q' E' := by
  obtain ⟨A, q, ds, t, hio, ar, post⟩ := h
  refine ⟨A, q, ds, t, hio, ar, ?_⟩
  cases hF : F ds with
  | bad => rw [hF] at post; exact post.elim
  | rt d o => rw [hF] at post; exact fun v H' ki rr => w _ _ (post v H' ki rr)
  | ex y o => rw [hF] at post; exact fun dx H' ki oo xr => w2 _ _ _ (post dx H' ki oo xr)
theorem call_lenX {k : Nat} : CallR X (.builtin "len") (rLenX X k) := by
  intro pins s σ H xs us Q I r h
  rcases h with h | ⟨a, C, dx, fs, f, F, rfl, ha, hm, F0, hr, hg, sp⟩
  · exact b_len pins s σ H xs us Q I r h
  · cases r with
    | cons r1 r2 =>
      cases r2
      rename_i u
      obtain rfl : u = Value.ref a := r1
      obtain ⟨m, hF⟩ := I.fr
      obtain ⟨mA, J, _⟩ := ins_get I.hok ha
      obtain ⟨od, J, _⟩ := J.look
      refine PySem.W.len_K hF I.ok.mod.kin J hm.at_ hm.fn ?_
      refine wpAny_mono (run_fnG' (us := [.ref a]) (vs := [.ref a]) F0 hr.in1 hg I.env0.in1 I (.cons rfl .nil) (sp.mono (fun _ _ z => z) fun _ _ _ z => z.elim)) (fun v s' hq => ?_) fun _ _ z => z
      obtain ⟨z, H', I', rz, n, rfl, hn, q⟩ := hq
      obtain ⟨t, rfl⟩ := (show ∃ t, v = Value.int n t from rz)
      exact ⟨hn, .int n, H', I'.tok _, ⟨_, rfl⟩, q⟩
def lenR (d : D) : Ret → Option D
  | .rt (.int n) _ => if 0 ≤ n ∧ n < 2 ^ 63 then some (.int n) else none
  | _ => none
def gLenX (tab : Str → Option FN) (d : D) : Option D := match d with
  | .obj c fs => (tab c).bind fun F => lenR d (F [d])
  | d => gLen [d]
theorem de_lenX {k : Nat} {tab : Str → Option FN} (T : MethT X.prog X.w X.K X.mg X.base k "__len__" false false tab) (hr : Room (k + 1) X.A) (hg : X.A.guards = some []) (hn : Gl X "len") (hm : X.mg "len" = none) (ha : DE X G O W e me)
    (he : starEach [e] X.env = (false, eval e X.env) :: starEach [] X.env := by rfl) (hpl : (backTo pos (starEach [] X.env)).any (·.1) = false := by rfl) : DE X G O W (.Call (.Name "len" p) [e] [] pos) (m1 (gLenX tab) me) := by
  refine pe_imp (pe_callB (call_lenX (k := k)) hn hm bt_len (pa_cons ha pa_nil he) (by decide) (by decide) he hpl) fun σ H Q ⟨A, ms, ρ, R, q⟩ => ?_
  refine ⟨A, ms, ρ, R, RPost.mono (RPost.bind q) ?_⟩
  rintro x H1 ⟨d, ρ1, R1, k1, r1, q1⟩
  obtain ⟨z, hz, q2⟩ := rp_of R1 q1
  have plain : (∀ c fs, d ≠ .obj c fs) → rLenX X k [x] H1 Q := fun hd => by
    refine .inl ⟨A, [d], z, R1.trk, .inl (.cons r1 .nil), ?_, q2⟩
    rw [← hz]
    cases d with
    | obj c fs => exact absurd rfl (hd c fs)
    | _ => rfl
  cases d with
  | obj c fs =>
    refine .inr ?_
    have hz' : (tab c).bind (fun F => lenR (.obj c fs) (F [.obj c fs])) = some z := hz
    cases ht : tab c with
    | none => rw [ht] at hz'; cases hz'
    | some F =>
      rw [ht] at hz'
      obtain ⟨cc, f, hme, F0⟩ := T c F ht
      have r1' := r1
      cases r1 with
      | obj ha' na rf =>
        refine ⟨_, _, _, _, f, F, rfl, ha', hme, F0, hr, hg, A, none, [.obj c fs], R1.trk, rfl, .cons r1' .nil, ?_⟩
        have hz2 : lenR (.obj c fs) (F [.obj c fs]) = some z := hz'
        cases hF : F [.obj c fs] with
        | bad => rw [hF] at hz2; cases hz2
        | ex y o => rw [hF] at hz2; cases hz2
        | rt v o =>
          rw [hF] at hz2
          cases v with
          | int n =>
            obtain ⟨hn', rfl⟩ := ite_d (x := .int n) hz2
            intro v H' ki ⟨rr, _⟩
            cases rr
            exact ⟨n, rfl, hn', q2 _ _ (fun a o e => ki a o e (by simp)) (.int n)⟩
          | _ => cases hz2
  | _ => exact plain fun _ _ => nofun

def eqR : Ret → Option D
  | .rt (.bl k) _ => some (.bl k)
  | _ => none
def gEqX (tab : Str → Option FN) (a b : D) : Option D := match a, b with
  | .obj c fs, .obj c' gs => if c = c' then (tab c).bind fun F => eqR (F [.obj c fs, .obj c' gs]) else none
  | a, b => gEq a b
def rEqX (X : Cx) (k : Nat) : R2 := fun x y H Q => rD2 X.K gEq x y H Q ∨
  ∃ a a' C dx dx' fs gs f F, x = .ref a ∧ y = .ref a' ∧ H a = some (.ins C dx fs) ∧ H a' = some (.ins C dx' gs) ∧ Meth X.K C "__eq__" f ∧ FnG X.prog X.w X.K X.mg X.base k f false false F ∧ Room k X.A ∧ X.A.guards = some [] ∧
    spD X.K false false F [.ref a, .ref a'] H (fun v H' => ∃ b, v = .bl b ∧ Q v H') (fun _ _ _ => False)
theorem od_eqX (hu : X.A.units + 64 < cLine) {k : Nat} : OpR X (compareOp .Eq) (rEqX X k) := by
  intro pins s σ H x y v u Q I rx ry h
  rcases h with h | ⟨a, a', C, dx, dx', fs, gs, f, F, rfl, rfl, ha, ha', hm, F0, hr, hg, sp⟩
  · exact od_eq hu pins s σ H x y v u Q I rx ry h
  · obtain rfl : v = Value.ref a := rx
    obtain rfl : u = Value.ref a' := ry
    obtain ⟨m, hF⟩ := I.fr
    obtain ⟨mA, J, _⟩ := ins_get I.hok ha
    obtain ⟨od, J, _⟩ := J.look
    obtain ⟨mA', J', _⟩ := ins_get I.hok ha'
    obtain ⟨od', J', _⟩ := J'.look
    show wpAny (model X.prog X.w) X.A (richCompare .Eq (.ref a) (.ref a')) (EP X pins σ Q) X.xe s
    refine PySem.W.cmp_K (op := .Eq) (tb := .ref C) hr.units0 hF I.ok.mod.kin J J'.type (by simp [PySem.W.notFirst]) hm.at_ hm.fn ?_
    refine wpAny_mono (run_fnG' (us := [.ref a, .ref a']) (vs := [.ref a, .ref a']) F0 hr hg I.env0 I (.cons rfl (.cons rfl .nil)) (sp.mono (fun _ _ z => z) fun _ _ _ z => z.elim)) (fun v s' hq => ?_) fun _ _ z => z
    obtain ⟨z, H', I', rz, b, rfl, q⟩ := hq
    obtain rfl : v = Value.bool b := rz
    exact ⟨.bl b, H', I', rfl, q⟩
theorem eqX_go {k : Nat} {tab : Str → Option FN} (T : MethT X.prog X.w X.K X.mg X.base k "__eq__" false false tab) (hr : Room k X.A) (hg : X.A.guards = some []) {σ : L2.St} {H : Hp} {Q : VK} (h : tE X.K G O W (m2 (gEqX tab) ma mb) σ H Q) : tOp (rEqX X k) (tE X.K G O W ma) (tE X.K G O W mb) σ H Q := by
  obtain ⟨A, ms, ρ, R, q⟩ := h
  refine ⟨A, ms, ρ, R, q.bind.mono ?_⟩
  rintro x H1 ⟨d, ρ1, R1, k1, r1, q1⟩
  refine ⟨A, ms, ρ1, R1, q1.bind.mono ?_⟩
  rintro y H2 ⟨d2, ρ2, R2', k2, r2, q2⟩
  obtain ⟨z, hz, q3⟩ := rp_of R2' q2
  have r1' := r1.tr (R1.kt k2)
  have plain : gEq d d2 = some z → rEqX X k x y H2 Q := fun e => .inl ⟨A, d, d2, z, R2'.trk, .of r1', .of r2, e, q3⟩
  cases d with
  | obj c fs =>
    cases d2 with
    | obj c' gs =>
      have hz' : (if c = c' then (tab c).bind fun F => eqR (F [.obj c fs, .obj c' gs]) else none) = some z := hz
      split at hz'
      · rename_i hc
        subst hc
        cases ht : tab c with
        | none => rw [ht] at hz'; cases hz'
        | some F =>
          rw [ht] at hz'
          obtain ⟨cc, f, hme, F0⟩ := T c F ht
          have r1s := r1'
          have r2s := r2
          cases r1' with
          | obj ha na rf =>
            cases r2 with
            | obj hb nb rg =>
              refine .inr ⟨_, _, _, _, _, _, _, f, F, rfl, rfl, ha, hb, hme, F0, hr, hg, A, none, [.obj c fs, .obj c gs], R2'.trk, rfl, .cons r1s (.cons r2s .nil), ?_⟩
              have hz2 : eqR (F [.obj c fs, .obj c gs]) = some z := hz'
              cases hF : F [.obj c fs, .obj c gs] with
              | bad => rw [hF] at hz2; cases hz2
              | ex y o => rw [hF] at hz2; cases hz2
              | rt v o =>
                rw [hF] at hz2
                cases v with
                | bl n =>
                  cases hz2
                  intro v H' ki ⟨rr, _⟩
                  cases rr
                  exact ⟨n, rfl, q3 _ _ (fun a o e => ki a o e (by simp)) (.bl n)⟩
                | _ => cases hz2
      · cases hz'
    | _ => exact plain hz
  | _ => exact plain (by cases d2 <;> exact hz)
theorem de_eqX {k : Nat} {tab : Str → Option FN} (T : MethT X.prog X.w X.K X.mg X.base k "__eq__" false false tab) (hr : Room k X.A) (hg : X.A.guards = some []) (hu : X.A.units + 64 < cLine) (ha : DE X G O W a ma) (hb : DE X G O W b mb) (hm : behindInMarks .Eq b = false) : DE X G O W (.Compare a [.Eq] [b] pos) (m2 (gEqX tab) ma mb) :=
  pe_imp (pe_cmpR (od_eqX hu (k := k)) ha hb hm) fun _ _ _ h => eqX_go T hr hg h
theorem dt_eqX {k : Nat} {tab : Str → Option FN} (T : MethT X.prog X.w X.K X.mg X.base k "__eq__" false false tab) (hr : Room k X.A) (hg : X.A.guards = some []) (hu : X.A.units + 64 < cLine) (ha : DE X G O W a ma) (hb : DE X G O W b mb) (hm : behindInMarks .Eq b = false) : DT X G O W (.Compare a [.Eq] [b] pos) (mTest (m2 (gEqX tab) ma mb)) :=
  pt_imp (pt_cmpR (od_eqX hu (k := k)) ha hb hm) fun _ _ _ h => test_go (fun _ _ _ z => eqX_go T hr hg z) h

def objB (K : PySem.W.Frag) (x : Str) : Bool :=
  decide (PySem.W.findIn K (.ref (He.ga K x)) "__class__" = some (some (.builtin "object.__class__"))) && (decide (PySem.W.specialIn K (.builtin "object.__class__") "__get__" = some (some (.builtin "getset_descriptor.__get__"))) &&
      (decide (PySem.W.takesIn K (.builtin "object.__class__") = some true) && decide (PySem.W.mroIn K (He.ga K x) (.type "object") = some true)))
def kitT (K : PySem.W.Frag) (x : Str) (T : String) : Bool := decide (PySem.W.kitOne K (.ref (He.ga K x)) (.type T) = some false)
def IsiC (K : PySem.W.Frag) (T : String) (cls : Str → Bool) : Prop := ∀ c, cls c = true → Cls K (He.ga K c) ∧ objB K c = true ∧ kitT K c T = true
def gIsiX (T : String) (cls : Str → Bool) (d : D) : Option D := match d with
  | .obj c _ => if cls c = true then some (.bl false) else none
  | d => gIsi T d
theorem de_isiX {T : String} (hT : IsiC X.K T cls) (hg : Gl X "isinstance") (hm : X.mg "isinstance" = none) (hv : bootBuiltins y = some (.type T)) (hg2 : Gl X y) (hm2 : X.mg y = none) (he : DE X G O W e me) (hn : y ≠ "__name__" := by decide) (hdb : (y == ("__debug__" : Str)) = false := by decide)
    (hs2 : starEach [.Name y py] X.env = (false, eval (.Name y py) X.env) :: starEach [] X.env := by rfl)
    (hs : starEach [e, .Name y py] X.env = (false, eval e X.env) :: starEach [.Name y py] X.env := by rfl) (hpl : (backTo pos (starEach [.Name y py] X.env)).any (·.1) = false := by rfl) : DE X G O W (.Call (.Name "isinstance" p) [e, .Name y py] [] pos) (m1 (gIsiX T cls) me) := by
  refine pe_imp (pe_callB call_isi hg hm bt_isinstance (pa_cons he (pa_cons (pe_bltn (v := .ty T) hg2 hm2 hv rfl hn hdb) pa_nil hs2) hs) (by decide) (by decide) hs hpl) fun σ H Q ⟨A, ms, ρ, R, q⟩ => ?_
  refine ⟨A, ms, ρ, R, RPost.mono (RPost.bind q) ?_⟩
  rintro x H1 ⟨d, ρ1, R1, k1, r1, q1⟩
  obtain ⟨z, hz, q2⟩ := rp_of R1 q1
  have plain : gIsi T d = some z → ∃ x1 c t u b, [x, V.ty T] = [x1, c] ∧ ClsV c t ∧ TyX X.K H1 x1 u ∧ PySem.W.kitOne X.K u t = some b ∧ Q (.bl b) H1 := fun hz => by
    unfold gIsi at hz
    cases ea : tyN d with
    | none => rw [ea] at hz; cases hz
    | some a =>
      rw [ea] at hz
      obtain ⟨b, eb, rfl⟩ := map_some (show (L2.kitB a T).map D.bl = some z from hz)
      exact ⟨x, .ty T, _, _, b, rfl, .ty T, tyN_ok r1 ea, kit_ty eb, q2 _ _ (Same.refl _) (.bl b)⟩
  cases d with
  | obj c fs =>
    have hz' : (if cls c = true then some (D.bl false) else none) = some z := hz
    obtain ⟨hc, rfl⟩ := ite_d (x := .bl false) hz'
    obtain ⟨cc, ob, kt⟩ := hT c hc
    unfold objB at ob
    obtain ⟨h1, ob⟩ := He.ba ob
    obtain ⟨h2, ob⟩ := He.ba ob
    obtain ⟨h3, h4⟩ := He.ba ob
    cases r1 with
    | obj ha na rf =>
      obtain ⟨_, _, t, u, b, e0, i1, i2, i3, i4⟩ : ∃ x1 c1 t u b, [V.ref _, V.ty T] = [x1, c1] ∧ ClsV c1 t ∧ TyX X.K H1 x1 u ∧ PySem.W.kitOne X.K u t = some b ∧ Q (.bl b) H1 :=
        ⟨_, _, _, _, false, rfl, .ty T, .base (.ins ha cc (of_decide_eq_true h1) (of_decide_eq_true h2) (of_decide_eq_true h3) (of_decide_eq_true h4)), of_decide_eq_true kt, q2 _ _ (Same.refl _) (.bl _)⟩
      cases e0
      exact ⟨_, _, _, _, b, rfl, i1, i2, i3, i4⟩
  | _ => obtain ⟨x1, c, t, u, b, e0, i1, i2, i3, i4⟩ := plain hz; cases e0; exact ⟨_, _, _, _, b, rfl, i1, i2, i3, i4⟩
end
end DL
namespace DL
open L2 PySem PySem.Spec PyProof.Rows

inductive Sr where
  | l (a : Addr) | t (a : Addr) | s (x : Str)
namespace Sr
def v : Sr → V
  | .l a => .ref a
  | .t a => .ref a
  | .s x => .str x
def has (K : PySem.W.Frag) : Sr → List V → Hp → Prop
  | .l a, xs, H => SqL K H a xs
  | .t a, xs, H => SqT K H a xs
  | .s z, xs, _ => xs = z.cps.toList.map fun c => .str ⟨#[c]⟩
def st : Sr → Addr → Nat → Heap → Prop
  | .l a, it, i, h => h.IsListIter it a i
  | .t a, it, i, h => h.IsTupleIter it a i
  | .s z, it, i, h => ∃ t, h.IsStrIter it (strIterType z) z t i
def fp : Sr → Addr → List Addr
  | .l a, it => [it, a]
  | .t a, it => [it, a]
  | .s _, it => [it]
def ap : Sr → Addr → Prop
  | .l a, b => a ≠ b
  | .t a, b => a ≠ b
  | .s _, _ => True
end Sr
theorem Draws.tuple {prog : Program} {w : World} {A : Around} (hh : A.handled = none) (it l : Addr) (hne : l ≠ it) (items : Array Value) :
    Draws prog w A it [it, l] items.size (fun i v => items[i]? = some v) (fun i h => h.IsTupleIter it l i ∧ h.IsTuple l items) where
  live := fun _ _ st => let ⟨o, ho, _⟩ := st.1; ⟨o, ho⟩
  frame := fun _ _ _ st hk => ⟨st.1.at fun o e => hk it (by simp) o e, st.2.at fun o e => hk l (by simp) o e⟩
  item := fun i s Q E hi st hQ => by
    refine RZ.nextOf_tuple_item st.1 st.2 (x := items[i]) (by simp [hi]) fun h' hit' hs' => ?_
    exact hQ _ h' s.toks (by simp [hi]) ⟨hit', st.2.at fun o e => hs'.extBut _ _ hne e⟩ hs'
  done := fun s Q E st hE => RZ.nextOf_tuple_end hh st.1 st.2 (by simp) hE
theorem vals_getR : ∀ {xs : List V} {us : List Value} {i : Nat} {u : Value}, Vals xs us → us[i]? = some u → ∃ x, xs[i]? = some x ∧ RelV x u
  | _, _, _, _, .nil, e => by simp at e
  | _, _, 0, _, .cons r _, e => by simp at e; subst e; exact ⟨_, rfl, r⟩
  | _, _, i + 1, x, .cons _ t, e => by
    obtain ⟨v, h1, h2⟩ := vals_getR (i := i) t (by simpa using e)
    exact ⟨v, by simpa using h1, h2⟩
theorem Sr.draws {X : Cx} {A : Around} (hh : A.handled = none) {pins : List (Addr × Obj)} {σ : L2.St} {H : Hp} {s : Shared} (I : Inv X pins σ H s) (r : Sr) (it : Addr) (ap : r.ap it) {xs : List V} (hx : r.has X.K xs H) {i : Nat} (hs : r.st it i s.heap) :
    ∃ (P : Nat → Value → Prop) (St : Nat → Heap → Prop), Draws X.prog X.w A it (r.fp it) xs.length P St ∧ St i s.heap ∧ (∀ j v, P j v → ∃ x, xs[j]? = some x ∧ RelV x v) ∧ ∀ j h, St j h → r.st it j h := by
  cases r with
  | l a =>
    obtain ⟨its, rv, p, _⟩ := I.list hx
    have hl : xs.length = its.toArray.size := by rw [rv.length, List.size_toArray]
    refine ⟨fun i v => its.toArray[i]? = some v, fun i h => h.IsListIter it a i ∧ h.IsList a its.toArray, by rw [hl]; exact Draws.list hh it a ap its.toArray, ⟨hs, p.isList⟩, fun j v e => ?_, fun j h z => z.1⟩
    exact vals_getR rv (by simpa using e)
  | t a =>
    obtain ⟨its, rv, p, _⟩ := I.tuple hx
    have hl : xs.length = its.toArray.size := by rw [rv.length, List.size_toArray]
    refine ⟨fun i v => its.toArray[i]? = some v, fun i h => h.IsTupleIter it a i ∧ h.IsTuple a its.toArray, by rw [hl]; exact Draws.tuple hh it a ap its.toArray, ⟨hs, p⟩, fun j v e => ?_, fun j h z => z.1⟩
    exact vals_getR rv (by simpa using e)
  | s z =>
    obtain ⟨t, ht⟩ := hs
    have hx' : xs = z.cps.toList.map fun c => .str ⟨#[c]⟩ := hx
    have hl : xs.length = z.cps.size := by rw [hx', List.length_map, Array.length_toList]
    have key : ∀ (j : Nat) (v : Value), (∃ (c : Nat) (u : Tok), z.cps[j]? = some c ∧ v = Value.str ⟨#[c]⟩ u) → ∃ x, xs[j]? = some x ∧ RelV x v := by
      rintro j v ⟨c, u, e, hv⟩
      refine ⟨.str ⟨#[c]⟩, ?_, ?_⟩
      · rw [hx', List.getElem?_map, Array.getElem?_toList, e]; rfl
      · subst hv; exact ⟨u, rfl⟩
    cases ha : z.cps.all (· < 128)
    · have e : strIterType z = "str_iterator" := by simp [strIterType, ha]
      rw [e] at ht
      exact ⟨fun i v => ∃ c u, z.cps[i]? = some c ∧ v = .str ⟨#[c]⟩ u, fun i h => h.IsStrIter it "str_iterator" z t i, by rw [hl]; exact Draws.strWide hh it z t, ht, key, fun j h q => by show ∃ t, h.IsStrIter it (strIterType z) z t j; rw [e]; exact ⟨t, q⟩⟩
    · have e : strIterType z = "str_ascii_iterator" := by simp [strIterType, ha]
      rw [e] at ht
      exact ⟨fun i v => ∃ c u, z.cps[i]? = some c ∧ v = .str ⟨#[c]⟩ u, fun i h => h.IsStrIter it "str_ascii_iterator" z t i, by rw [hl]; exact Draws.strAscii hh it z t, ht, key, fun j h q => by show ∃ t, h.IsStrIter it (strIterType z) z t j; rw [e]; exact ⟨t, q⟩⟩
theorem Sr.mem (r : Sr) (it : Addr) : it ∈ r.fp it := by cases r <;> simp [Sr.fp]
theorem Sr.nfp (r : Sr) {it b : Addr} (h : it ≠ b) (a : r.ap b) : b ∉ r.fp it := by
  cases r with
  | l c => simp only [Sr.fp, List.mem_cons, List.mem_nil_iff, or_false, not_or]; exact ⟨h.symm, fun z => a z.symm⟩
  | t c => simp only [Sr.fp, List.mem_cons, List.mem_nil_iff, or_false, not_or]; exact ⟨h.symm, fun z => a z.symm⟩
  | s c => simp only [Sr.fp, List.mem_cons, List.mem_nil_iff, or_false]; exact h.symm
theorem Sr.stk (r : Sr) {it : Addr} {i : Nat} {h h' : Heap} (s : r.st it i h) (k : ∀ o, h.get? it = some o → h'.get? it = some o) : r.st it i h' := by
  cases r with
  | l a => exact Heap.IsListIter.at s k
  | t a => exact Heap.IsTupleIter.at s k
  | s z =>
    obtain ⟨t, o, ho, q⟩ := s
    exact ⟨t, o, k o ho, q⟩
theorem Sr.sto (r : Sr) {it : Addr} {i : Nat} {h : Heap} (s : r.st it i h) : ∃ o, h.get? it = some o ∧ ∀ v, o.data ≠ .cell v := by
  cases r with
  | l a => obtain ⟨o, ho, _, d⟩ := s; exact ⟨o, ho, fun v q => by rw [d] at q; cases q⟩
  | t a => obtain ⟨o, ho, _, d⟩ := s; exact ⟨o, ho, fun v q => by rw [d] at q; cases q⟩
  | s z => obtain ⟨t, o, ho, _, d⟩ := s; exact ⟨o, ho, fun v q => by rw [d] at q; cases q⟩
theorem Sr.inj {X : Cx} {pins : List (Addr × Obj)} {σ : L2.St} {H : Hp} {s : Shared} (I : Inv X pins σ H s) (r : Sr) {xs ys : List V} (h : r.has X.K xs H) (h' : r.has X.K ys H) : xs = ys := by
  cases r with
  | l a => exact I.list_inj h h'
  | t a => exact I.tuple_inj h h'
  | s z => exact h.trans h'.symm
def ItzS (K : PySem.W.Frag) (a b : Sr) : It :=
  ⟨fun i H => ∃ (xs ys : List V) (x y : V), a.has K xs H ∧ b.has K ys H ∧ xs[i]? = some x ∧ ys[i]? = some y,
    fun i H v H' => ∃ T x y, v = .ref T ∧ H T = none ∧ H' = L2.upd H T (.tup [x, y]) ∧ (∀ xs, a.has K xs H → xs[i]? = some x) ∧ ∀ ys, b.has K ys H → ys[i]? = some y,
    fun i H => ∃ xs ys : List V, a.has K xs H ∧ b.has K ys H ∧ i ≤ xs.length ∧ i ≤ ys.length ∧ (i = xs.length ∨ i = ys.length)⟩
structure ZAp (z TI TO i1 i2 : Addr) (a b : Sr) : Prop where
  TIz : TI ≠ z
  TOz : TO ≠ z
  i1z : i1 ≠ z
  i2z : i2 ≠ z
  TITO : TI ≠ TO
  TIi1 : TI ≠ i1
  TIi2 : TI ≠ i2
  TOi1 : TO ≠ i1
  TOi2 : TO ≠ i2
  i12 : i1 ≠ i2
  az : a.ap z
  aTO : a.ap TO
  ai1 : a.ap i1
  ai2 : a.ap i2
  bz : b.ap z
  bTO : b.ap TO
  bi1 : b.ap i1
  bi2 : b.ap i2
theorem ZAp.sep {z TI TO i1 i2 : Addr} {a b : Sr} (D : ZAp z TI TO i1 i2 a b) : ZipSep2 z TI TO i1 i2 (a.fp i1) (b.fp i2) where
  TIz := D.TIz
  TOz := D.TOz
  TITO := D.TITO
  TIi1 := D.TIi1
  mem1 := a.mem i1
  zf1 := a.nfp D.i1z D.az
  Tf1 := a.nfp D.TOi1.symm D.aTO
  TIi2 := D.TIi2
  mem2 := b.mem i2
  zf2 := b.nfp D.i2z D.bz
  Tf2 := b.nfp D.TOi2.symm D.bTO
  sep1_2 := b.nfp D.i12.symm D.bi1
  sep2_1 := a.nfp D.i12 D.ai2
theorem turn_zipS {P : Program} {w : World} {K : PySem.W.Frag} {elts : List Expr} {kk : Nat} {tpos : Pos} {a b : Sr} {z TI TO i1 i2 : Addr} (D : ZAp z TI TO i1 i2 a b) :
    Turn P w K (.Tuple elts kk tpos) (ItzS K a b) [z, TI, TO, i1, i2] z (fun i h => IsZip h z TI TO .none ∧ IsPair h TI (.ref i1) (.ref i2) ∧ (∃ x y, IsPair h TO x y) ∧ a.st i1 i h ∧ b.st i2 i h) where
  mem := by simp
  obj := fun i h st c hc => by
    obtain ⟨hz, hTI, ⟨x, y, hTO⟩, s1, s2⟩ := st
    have e' : c = z ∨ c = TI ∨ c = TO ∨ c = i1 ∨ c = i2 := by simpa using hc
    rcases e' with q | q | q | q | q
    · rw [q]; exact ⟨_, hz, fun v q => nomatch q⟩
    · rw [q]; exact ⟨_, hTI, fun v q => nomatch q⟩
    · rw [q]; exact ⟨_, hTO, fun v q => nomatch q⟩
    · rw [q]; exact a.sto s1
    · rw [q]; exact b.sto s2
  keep := fun i h h' st k => by
    obtain ⟨hz, hTI, ⟨x, y, hTO⟩, h1, h2⟩ := st
    exact ⟨k z (by simp) _ hz, k TI (by simp) _ hTI, ⟨x, y, k TO (by simp) _ hTO⟩, a.stk h1 fun o q => k i1 (by simp) o q, b.stk h2 fun o q => k i2 (by simp) o q⟩
  item := by
    intro X hP hw hK hc i pins s σ H E I hf st hg
    subst hP hw hK
    obtain ⟨hz, hTI, ⟨x0, y0, hTO⟩, h1, h2⟩ := st
    obtain ⟨xs, ys, x, y, hqx, hqy, hx, hy⟩ := hg
    have hzl : z < s.heap.objs.size := Heap.lt_size hz
    obtain ⟨P1, St1, D1, t1, p1, f1⟩ := Sr.draws (A := X.A.in1) (I.ok.hd hc) I a i1 D.ai1 hqx h1
    obtain ⟨P2, St2, D2, t2, p2, f2⟩ := Sr.draws (A := X.A.in1) (I.ok.hd hc) I b i2 D.bi2 hqy h2
    refine wpAny_pyNext_zipD2_item D.sep D1 D2 hz hTI hTO t1 t2 (List.getElem?_eq_some_iff.mp hx).1 (List.getElem?_eq_some_iff.mp hy).1 fun u u2 h' tk q1 q2 z' TO' h1' h2' hT hsz hk => ?_
    obtain ⟨x', ex, ru⟩ := p1 _ _ q1
    obtain ⟨y', ey, ru2⟩ := p2 _ _ q2
    rw [hx] at ex
    rw [hy] at ey
    cases ex
    cases ey
    refine ⟨_, rfl, wpAny_letOwnedTupleGo_zip (s := { s with heap := h', toks := tk }) z' fun h'' z'' sb => ?_⟩
    have hT2 : h''.get? s.heap.objs.size = some { cls := .type "tuple", data := .seq #[u, u2] } := (sb.2 _ (Nat.ne_of_gt hzl)).trans hT
    have new : ObjOk X.prog X.w (L2.upd H s.heap.objs.size (.tup [x, y])) h'' s.heap.objs.size (.tup [x, y]) :=
      ⟨by show 2 ≤ sizeLine; decide, [u, u2], .cons ru (.cons ru2 .nil), ⟨_, hT2, rfl, _, rfl⟩⟩
    have I1 : Inv X pins σ (L2.upd H s.heap.objs.size (.tup [x, y])) { s with heap := h'', toks := tk } :=
      I.turnedNew (t' := tk) (ch := [z, TI, TO, i1, i2]) (fun c o hb q => (sb.2 c (fun q' => hb (by simp [q']))).trans (hk c o (fun q' => hb (by simp [q'])) (fun q' => hb (by simp [q'])) (fun q' => hb (by simp [q'])) (fun q' => hb (by simp [q'])) q)) hf (Nat.le_refl _) new
    refine ⟨.ref s.heap.objs.size, _, I1, rfl, ⟨_, x, y, rfl, I.hok.fresh (Nat.le_refl _), rfl, fun l hl => by rw [a.inj I hl hqx]; exact hx, fun l hl => by rw [b.inj I hl hqy]; exact hy⟩, ⟨z'', ?_, ⟨u, u2, ?_⟩, ?_, ?_⟩, fun c hcm => ?_⟩
    · exact (sb.2 _ D.TIz).trans (hk _ _ D.TIz D.TITO D.TIi1 D.TIi2 hTI)
    · exact (sb.2 _ D.TOz).trans TO'
    · exact a.stk (f1 _ _ h1') fun o q => (sb.2 _ D.i1z).trans q
    · exact b.stk (f2 _ _ h2') fun o q => (sb.2 _ D.i2z).trans q
    · have hlt : c < s.heap.objs.size := by
        have e' : c = z ∨ c = TI ∨ c = TO ∨ c = i1 ∨ c = i2 := by simpa using hcm
        rcases e' with q | q | q | q | q
        · rw [q]; exact hzl
        · rw [q]; exact Heap.lt_size hTI
        · rw [q]; exact Heap.lt_size hTO
        · rw [q]; obtain ⟨_, e1, _⟩ := a.sto h1; exact Heap.lt_size e1
        · rw [q]; obtain ⟨_, e2, _⟩ := b.sto h2; exact Heap.lt_size e2
      rw [upd_ne (Nat.ne_of_lt hlt)]
      exact (hf c hcm).1
  done := by
    intro X hP hw hK hc i pins s σ H E I hf st hg
    subst hP hw hK
    obtain ⟨hz, hTI, ⟨x0, y0, hTO⟩, h1, h2⟩ := st
    obtain ⟨xs, ys, hqx, hqy, hle1, hle2, hend⟩ := hg
    obtain ⟨P1, St1, D1, t1, p1, f1⟩ := Sr.draws (A := X.A.in1) (I.ok.hd hc) I a i1 D.ai1 hqx h1
    obtain ⟨P2, St2, D2, t2, p2, f2⟩ := Sr.draws (A := X.A.in1) (I.ok.hd hc) I b i2 D.bi2 hqy h2
    exact wpAny_pyNext_zipD2_end D.sep D1 D2 hz hTI hTO t1 t2 hle1 hle2 hend fun h' tk hk => ⟨rfl, I.turnedL (t' := tk) (ch := [z, TI, TO, i1, i2]) (fun c o hb q =>
      hk c o (fun q' => hb (by simp [q'])) (fun q' => hb (by simp [q'])) (fun q' => hb (by simp [q'])) (fun q' => hb (by simp [q'])) q) hf⟩
  self := fun A i s Q E st h => wpAny_pyIter_zip st.1 h
end DL
namespace DL
open L2 PySem PySem.Spec PyProof.Rows
def IterO (u : Value) (o : Obj) (h : Heap) : Prop := ∀ (h' : Heap), (∀ c x, h.get? c = some x → h'.get? c = some x) → ∀ (prog : Program) (w : World) (A : Around) (g : Array GenState) (d : Drawn) (tk : Nat) (os : OsState) (Q : Value → Shared → Prop) (E : Value → Shared → Prop),
  Q (.ref h'.objs.size) ⟨h'.push o, g, d, tk, os⟩ → wpAny (model prog w) A (pyIter u) Q E ⟨h', g, d, tk, os⟩
abbrev zipSH1 (h : Heap) (o1 : Obj) : Heap := h.push o1
abbrev zipSH2 (h : Heap) (o1 o2 : Obj) : Heap := (zipSH1 h o1).push o2
abbrev zipSH3 (h : Heap) (o1 o2 : Obj) : Heap := (zipSH2 h o1 o2).push { cls := .type "tuple", data := .seq #[.ref h.objs.size, .ref (zipSH1 h o1).objs.size] }
abbrev zipSH4 (h : Heap) (o1 o2 : Obj) : Heap := (zipSH3 h o1 o2).push { cls := .type "tuple", data := .seq #[.none, .none] }
abbrev zipSH5 (h : Heap) (o1 o2 : Obj) : Heap := (zipSH4 h o1 o2).push { cls := .type "zip", data := .fields #[.none, .bool false, .bool false, .ref (zipSH2 h o1 o2).objs.size, .ref (zipSH3 h o1 o2).objs.size] }
theorem meets_zipS_new (u1 u2 : Value) (o1 o2 : Obj) :
    Meets (Builtin.«zip.__new__» ⟨[.type "zip", u1, u2], []⟩) (fun _ R s => IterO u1 o1 s.heap ∧ IterO u2 o2 s.heap ∧
      R (.ok (.ret (.ref (zipSH4 s.heap o1 o2).objs.size))) { s with heap := zipSH5 s.heap o1 o2 }) :=
  .of_wp fun prog w A R s h => by
    obtain ⟨hp, g, d, tk, os⟩ := s
    obtain ⟨h1, h2, h⟩ := h
    have hsub := sub_zip
    have i1 := @h1 hp (fun _ _ x => x)
    have i2 := @h2 (hp.push o1) (fun _ _ x => Heap.get?_push_of_some _ x)
    wp_walk using i1 prog w _ _ _ _ _, i2 prog w _ _ _ _ _
    exact ⟨_, rfl, h⟩
section
variable {prog : Program} {w : World} {A : Around} {E : Value → Shared → Prop} {s : Shared}
theorem call_zipS {u1 u2 : Value} {o1 o2 : Obj} {Q : Value → Shared → Prop} (hl1 : IterO u1 o1 s.heap) (hl2 : IterO u2 o2 s.heap)
    (f1 : o1.isFreed = false) (f2 : o2.isFreed = false)
    (h : ∀ h', IsZip h' (s.heap.objs.size + 4) (s.heap.objs.size + 2) (s.heap.objs.size + 3) .none → IsPair h' (s.heap.objs.size + 2) (.ref s.heap.objs.size) (.ref (s.heap.objs.size + 1)) →
      IsPair h' (s.heap.objs.size + 3) .none .none → h'.get? s.heap.objs.size = some o1 → h'.get? (s.heap.objs.size + 1) = some o2 → h'.objs.size = s.heap.objs.size + 5 →
      (∀ c o, s.heap.get? c = some o → h'.get? c = some o) → Q (.ref (s.heap.objs.size + 4)) { s with heap := h' }) :
    wpAny (model prog w) A (call (.type "zip") [u1, u2]) Q E s := by
  refine callType_new F.called_zip (by decide) (F.typeCall_zip_2 _ _) (F.newCall_zip_2 _ _) (fun obj => F.args_object_init_3 obj _ _) F.entry_zip_new
    (meets_zipS_new u1 u2 o1 o2) ⟨hl1, hl2, ?_⟩
  have z1 : (zipSH1 s.heap o1).objs.size = s.heap.objs.size + 1 := Heap.size_push ..
  have z2 : (zipSH2 s.heap o1 o2).objs.size = s.heap.objs.size + 2 := by rw [Heap.size_push, z1]
  have z3 : (zipSH3 s.heap o1 o2).objs.size = s.heap.objs.size + 3 := by rw [Heap.size_push, z2]
  have z4 : (zipSH4 s.heap o1 o2).objs.size = s.heap.objs.size + 4 := by rw [Heap.size_push, z3]
  have z5 : (zipSH5 s.heap o1 o2).objs.size = s.heap.objs.size + 5 := by rw [Heap.size_push, z4]
  have g5 : (zipSH5 s.heap o1 o2).get? (zipSH4 s.heap o1 o2).objs.size = some _ := Heap.get?_push_size _ rfl
  have g4 : (zipSH5 s.heap o1 o2).get? (zipSH3 s.heap o1 o2).objs.size = some _ := Heap.get?_push_of_some _ (Heap.get?_push_size _ rfl)
  have g3 : (zipSH5 s.heap o1 o2).get? (zipSH2 s.heap o1 o2).objs.size = some _ := Heap.get?_push_of_some _ (Heap.get?_push_of_some _ (Heap.get?_push_size _ rfl))
  have g2 : (zipSH5 s.heap o1 o2).get? (zipSH1 s.heap o1).objs.size = some o2 := Heap.get?_push_of_some _ (Heap.get?_push_of_some _ (Heap.get?_push_of_some _ (Heap.get?_push_size _ f2)))
  have g1 : (zipSH5 s.heap o1 o2).get? s.heap.objs.size = some o1 := Heap.get?_push_of_some _ (Heap.get?_push_of_some _ (Heap.get?_push_of_some _ (Heap.get?_push_of_some _ (Heap.get?_push_size _ f1))))
  show _ ∧ _
  rw [z2, z3, z4] at g5
  rw [z1, z2] at g3
  rw [z3] at g4
  rw [z1] at g2
  rw [z4]
  exact ⟨⟨_, g5, rfl⟩, h _ g5 g3 g4 g1 g2 z5 fun c o x =>
    Heap.get?_push_of_some _ (Heap.get?_push_of_some _ (Heap.get?_push_of_some _ (Heap.get?_push_of_some _ (Heap.get?_push_of_some _ x))))⟩
end
theorem Sr.iter {X : Cx} {pins : List (Addr × Obj)} {σ : L2.St} {H : Hp} {s : Shared} (I : Inv X pins σ H s) (r : Sr) {xs : List V} (hx : r.has X.K xs H) {u : Value} (ru : RelV r.v u) :
    ∃ o, o.isFreed = false ∧ IterO u o s.heap ∧ (∀ it h, h.get? it = some o → r.st it 0 h) ∧ ∀ b, s.heap.objs.size ≤ b → r.ap b := by
  cases r with
  | l a =>
    obtain rfl : u = Value.ref a := ru
    obtain ⟨its, rv, p, _⟩ := I.list hx
    exact ⟨{ cls := .type "list_iterator", data := .fields #[.ref a, .int 0 0] }, rfl, fun h' k prog w A g d tk os Q E q => wpAny_pyIter_list (items := its.toArray) (p.isList.at fun o e => k _ _ e) q, fun it h e => ⟨_, e, rfl, rfl⟩, fun b hb z => by subst z; exact Nat.lt_irrefl _ (Nat.lt_of_lt_of_le p.lt hb)⟩
  | t a =>
    obtain rfl : u = Value.ref a := ru
    obtain ⟨its, rv, p, _⟩ := I.tuple hx
    refine ⟨{ cls := .type "tuple_iterator", data := .fields #[.ref a, .int 0 0] }, rfl, fun h' k prog w A g d tk os Q E q => wpAny_pyIter_tuple (items := its.toArray) (let ⟨o, ho, r⟩ := p; ⟨o, k _ _ ho, r⟩) q, fun it h e => ⟨_, e, rfl, rfl⟩, fun b hb z => ?_⟩
    obtain ⟨o, ho, _⟩ := (show s.heap.IsTuple a its.toArray from p)
    subst z
    exact Nat.lt_irrefl _ (Nat.lt_of_lt_of_le (Heap.lt_size ho) hb)
  | s z =>
    obtain ⟨t, rfl⟩ := (show ∃ t, u = Value.str z t from ru)
    exact ⟨{ cls := .type (strIterType z), data := .fields #[.str z t, .int 0 0] }, rfl, fun h' k prog w A g d tk os Q E q => wpAny_pyIter_strU q, fun it h e => ⟨t, _, e, rfl, rfl⟩, fun b hb => trivial⟩
def iZipS (K : PySem.W.Frag) (ta : TA) : TI := fun σ H R => ta σ H fun vs H1 => ∃ a b xs ys, vs = [Sr.v a, Sr.v b] ∧ a.has K xs H1 ∧ b.has K ys H1 ∧ R (ItzS K a b) H1
theorem pi_zipS {X : Cx} {e e2 : Expr} {ta : TA} {p pos tpos : Pos} {elts : List Expr} {kk : Nat} (hg : Gl X "zip") (hm : X.mg "zip" = none) (ha : PA X [e, e2] ta)
    (hs : starEach [e, e2] X.env = (false, eval e X.env) :: starEach [e2] X.env := by rfl) (hpl : (backTo pos (starEach [e2] X.env)).any (·.1) = false := by rfl) :
    PI X (.Tuple elts kk tpos) (.Call (.Name "zip" p) [e, e2] [] pos) (iZipS X.K ta) := by
  refine ⟨fun pins s σ H R I h => ?_⟩
  refine Call_ (ld_blt I hg hm PyProof.Rows.boot_zip (PyProof.Rows.callWith_type1 (thn (ha.run pos pins s σ H _ I h) fun us s1 ⟨vs, H1, I1, r1, q1⟩ => ?_) hs hpl))
  obtain ⟨a, b, xs, ys, ex, hqx, hqy, q⟩ := q1
  subst ex
  cases r1 with
  | cons r rr =>
    cases rr with
    | cons r' rr =>
      cases rr
      obtain ⟨o1, fr1, it1, st1, ap1⟩ := Sr.iter I1 a hqx r
      obtain ⟨o2, fr2, it2, st2, ap2⟩ := Sr.iter I1 b hqy r'
      refine call_zipS it1 it2 fr1 fr2 fun h' hz hTI hTO h1 h2 hsz hk => wpAny_pyIter_zip hz ?_
      have I2 : Inv X pins σ H1 { s1 with heap := h' } := I1.kept (t' := s1.toks) hk
      have D : ZAp (s1.heap.objs.size + 4) (s1.heap.objs.size + 2) (s1.heap.objs.size + 3) s1.heap.objs.size (s1.heap.objs.size + 1) a b :=
        { TIz := by intro z; have z' := congrArg (fun x : Nat => x) z; simp at z', TOz := by intro z; have z' := congrArg (fun x : Nat => x) z; simp at z', i1z := by intro z; have z' := congrArg (fun x : Nat => x) z; simp at z', i2z := by intro z; have z' := congrArg (fun x : Nat => x) z; simp at z', TITO := by intro z; have z' := congrArg (fun x : Nat => x) z; simp at z', TIi1 := by intro z; have z' := congrArg (fun x : Nat => x) z; simp at z', TIi2 := by intro z; have z' := congrArg (fun x : Nat => x) z; simp at z', TOi1 := by intro z; have z' := congrArg (fun x : Nat => x) z; simp at z', TOi2 := by intro z; have z' := congrArg (fun x : Nat => x) z; simp at z', i12 := by intro z; have z' := congrArg (fun x : Nat => x) z; simp at z'
          az := ap1 _ (by omega), aTO := ap1 _ (by omega), ai1 := ap1 _ (by omega), ai2 := ap1 _ (by omega), bz := ap2 _ (by omega), bTO := ap2 _ (by omega), bi1 := ap2 _ (by omega), bi2 := ap2 _ (by omega) }
      refine ⟨s1.heap.objs.size + 4, [s1.heap.objs.size + 4, s1.heap.objs.size + 2, s1.heap.objs.size + 3, s1.heap.objs.size, s1.heap.objs.size + 1], _, _, H1, rfl, I2, turn_zipS D, ⟨hz, hTI, ⟨_, _, hTO⟩, st1 _ _ h1, st2 _ _ h2⟩, fun c hcm => ?_, q⟩
      have e' : c = s1.heap.objs.size + 4 ∨ c = s1.heap.objs.size + 2 ∨ c = s1.heap.objs.size + 3 ∨ c = s1.heap.objs.size ∨ c = s1.heap.objs.size + 1 := by simpa using hcm
      have hle : s1.heap.objs.size ≤ c := by
        rcases e' with z | z | z | z | z
        · rw [z]; exact Nat.le_add_right _ _
        · rw [z]; exact Nat.le_add_right _ _
        · rw [z]; exact Nat.le_add_right _ _
        · rw [z]; exact Nat.le_refl _
        · rw [z]; exact Nat.le_add_right _ _
      exact I1.fpOk hle (I1.hok.fresh hle)

def gZipS : List D → Option (List D)
  | [a, b] => (gIter a).bind fun l => (gIter b).map fun r => (l.zip r).map fun p => .tup [p.1, p.2]
  | _ => none
theorem sr_of {K : PySem.W.Frag} {A : Addr → Prop} {H : Hp} {v : V} {d : D} {l : List D} (h : Rp K A H v d) (e : gIter d = some l) :
    ∃ (r : Sr) (xs : List V), v = r.v ∧ RpA K A H xs l ∧ ∀ A' H', Tr A A' H H' → r.has K xs H' := by
  cases h with
  | lst h1 n1 rr => cases e; exact ⟨.l _, _, rfl, rr, fun A' H' t => SqL.of (t _ _ h1 n1).1⟩
  | scr h1 rr => cases e; exact ⟨.l _, _, rfl, rr, fun A' H' t => (h1.tr t).sq⟩
  | tup h1 rr => cases e; exact ⟨.t _, _, rfl, rr, fun A' H' t => (h1.tr t).sq⟩
  | str z =>
    cases e
    refine ⟨.s z, _, rfl, ?_, fun A' H' t => rfl⟩
    unfold chars
    generalize z.cps.toList = cs
    induction cs with
    | nil => exact .nil
    | cons c cs ih => exact .cons (.str _) ih
  | _ => cases e
section
variable {X : Cx} {G : Gd} {O : List Nat} {W : WX} {a b e e2 : Expr} {es : List Expr} {me : ME} {mr : MA} {tg : Expr} {p pos tpos : Pos} {elts : List Expr} {kk : Nat}
theorem di_zipS (hg : Gl X "zip") (hm : X.mg "zip" = none) (ha : DA X G O W [e, e2] mr) (hs : starEach [e, e2] X.env = (false, eval e X.env) :: starEach [e2] X.env := by rfl) (hpl : (backTo pos (starEach [e2] X.env)).any (·.1) = false := by rfl) :
    DI X G O W (.Tuple elts kk tpos) (.Call (.Name "zip" p) [e, e2] [] pos) (mItN gZipS mr) := by
  refine pi_imp (pi_zipS hg hm ha hs hpl) fun σ H Q h => itn_go (fun _ _ _ z => z) h fun A vs ds l H1 tk r hl q => ?_
  unfold gZipS at hl
  split at hl
  · rename_i d1 d2
    cases h1 : gIter d1 with
    | none => rw [h1] at hl; cases hl
    | some zs =>
      cases h2 : gIter d2 with
      | none => rw [h1, h2] at hl; cases hl
      | some ws =>
        rw [h1, h2] at hl
        cases hl
        cases r with
        | cons r r' =>
          cases r' with
          | cons s s' =>
            cases s'
            obtain ⟨r1, xs, rfl, rx, hx⟩ := sr_of r h1
            obtain ⟨r2, ys, rfl, ry, hy⟩ := sr_of s h2
            refine ⟨r1, r2, xs, ys, rfl, hx _ _ Tr.refl, hy _ _ Tr.refl, q _ fun A' H' t tk' => ?_⟩
            have sx := hx _ _ t
            have sy := hy _ _ t
            have l1 := rx.length
            have l2 := ry.length
            refine ⟨fun i d e => ?_, ⟨xs, ys, sx, sy, by rw [List.length_map, List.length_zip]; omega, by rw [List.length_map, List.length_zip]; omega, by rw [List.length_map, List.length_zip]; omega⟩⟩
            have hi := (List.getElem?_eq_some_iff.mp e).1
            rw [List.length_map, List.length_zip] at hi
            have i1 : i < zs.length := by omega
            have i2 : i < ws.length := by omega
            have e2 : d = .tup [zs[i], ws[i]] := by
              rw [List.getElem?_map, List.getElem?_eq_getElem (by rw [List.length_zip]; omega), List.getElem_zip] at e
              have := Option.some.inj e
              rw [← this]
            obtain ⟨v, ev, rv⟩ := rx.get (List.getElem?_eq_getElem i1)
            obtain ⟨u, eu, ru⟩ := ry.get (List.getElem?_eq_getElem i2)
            refine ⟨⟨xs, ys, v, u, sx, sy, ev, eu⟩, ?_⟩
            rintro x H'' ⟨T, y, z, rfl, hT, rfl, hy', hz'⟩
            have q1 := hy' xs sx
            have q2 := hz' ys sy
            rw [ev] at q1
            rw [eu] at q2
            cases q1
            cases q2
            rw [e2]
            exact ⟨same_upd hT, new_tup tk' (.cons (rv.tr t) (.cons (ru.tr t) .nil)) hT⟩
  · cases hl
end
end DL
namespace DL
open L2 PySem PySem.Spec PyProof.Rows
def cbody : Stmt → List Stmt
  | .ClassDef _ _ _ b _ _ _ _ _ _ _ => b
  | _ => []
def IteS (K : PySem.W.Frag) (a : Sr) : It :=
  ⟨fun i H => ∃ (xs : List V) (x : V), a.has K xs H ∧ xs[i]? = some x,
    fun i H v H' => ∃ T x, v = .ref T ∧ H T = none ∧ H' = L2.upd H T (.tup [.int (i : Nat), x]) ∧ (∀ xs, a.has K xs H → xs[i]? = some x),
    fun i H => ∃ xs : List V, a.has K xs H ∧ i = xs.length⟩
theorem turn_enumS {P : Program} {w : World} {K : PySem.W.Frag} {elts : List Expr} {kk : Nat} {tpos : Pos} (a : Sr) (e it : Addr) (hne : e ≠ it) (ae : a.ap e) (ai : a.ap it) :
    Turn P w K (.Tuple elts kk tpos) (IteS K a) [e, it] e (fun i h => (∃ old, IsEnum h e it ((i : Nat) : Int) old) ∧ a.st it i h) where
  mem := by simp
  obj := fun i h st b hb => by
    obtain ⟨⟨old, he⟩, si⟩ := st
    have e' : b = e ∨ b = it := by simpa using hb
    rcases e' with z | z
    · rw [z]; exact ⟨_, he, fun v q => nomatch q⟩
    · rw [z]; exact a.sto si
  keep := fun i h h' st k => let ⟨⟨old, he⟩, hi⟩ := st; ⟨⟨old, k e (by simp) _ he⟩, a.stk hi fun o q => k it (by simp) o q⟩
  item := by
    intro X hP hw hK hc i pins s σ H E I hf st hg
    subst hP hw hK
    obtain ⟨⟨old, he⟩, hit⟩ := st
    obtain ⟨xs, x, hq, hx⟩ := hg
    have hel : e < s.heap.objs.size := Heap.lt_size he
    have hil : it < s.heap.objs.size := by obtain ⟨_, q, _⟩ := a.sto hit; exact Heap.lt_size q
    obtain ⟨P1, St1, D1, t1, p1, f1⟩ := Sr.draws (A := X.A.in1) (I.ok.hd hc) I a it ai hq hit
    refine wpAny_pyNext_enum_itemD D1 he t1 (List.getElem?_eq_some_iff.mp hx).1 hne (a.nfp hne.symm ae) fun u h' tk q1 ho hit' hT hsz hk => ?_
    obtain ⟨x', ex, ru⟩ := p1 _ _ q1
    rw [hx] at ex
    cases ex
    refine ⟨_, rfl, wpAny_letOwnedTupleGo_enum (s := { s with heap := h', toks := tk + 1 }) ho fun h'' he' sb => ?_⟩
    have hT2 : h''.get? s.heap.objs.size = some { cls := .type "tuple", data := .seq #[.int i tk, u] } := (sb.2 _ (Nat.ne_of_gt hel)).trans hT
    have new : ObjOk X.prog X.w (L2.upd H s.heap.objs.size (.tup [.int (i : Nat), x])) h'' s.heap.objs.size (.tup [.int (i : Nat), x]) :=
      ⟨by show 2 ≤ sizeLine; decide, [.int i tk, u], .cons ⟨_, rfl⟩ (.cons ru .nil), ⟨_, hT2, rfl, _, rfl⟩⟩
    have I1 : Inv X pins σ (L2.upd H s.heap.objs.size (.tup [.int (i : Nat), x])) { s with heap := h'', toks := tk + 1 } :=
      I.turnedNew (ch := [e, it]) (fun b ob hb q => (sb.2 b (fun z => hb (by simp [z]))).trans (hk b ob (fun z => hb (by simp [z])) (fun z => hb (by simp [z])) q)) hf (Nat.le_refl _) new
    refine ⟨.ref s.heap.objs.size, _, I1, rfl, ⟨_, x, rfl, I.hok.fresh (Nat.le_refl _), rfl, fun ys hy => by rw [a.inj I hy hq]; exact hx⟩, ⟨⟨u, ?_⟩, a.stk (f1 _ _ hit') fun o q => (sb.2 it (Ne.symm hne)).trans q⟩, fun b hb => ?_⟩
    · have e1 : ((i + 1 : Nat) : Int) = (i : Int) + 1 := by omega
      rw [e1]; exact he'
    · have hb' : b < s.heap.objs.size := by
        have e' : b = e ∨ b = it := by simpa using hb
        rcases e' with z | z
        · rw [z]; exact hel
        · rw [z]; exact hil
      rw [upd_ne (Nat.ne_of_lt hb')]
      exact (hf b hb).1
  done := by
    intro X hP hw hK hc i pins s σ H E I hf st hg
    subst hP hw hK
    obtain ⟨⟨old, he⟩, hit⟩ := st
    obtain ⟨xs, hq, rfl⟩ := hg
    obtain ⟨P1, St1, D1, t1, p1, f1⟩ := Sr.draws (A := X.A.in1) (I.ok.hd hc) I a it ai hq hit
    obtain ⟨f0, f1, f2, f3, f4, f5⟩ := hf it (by simp)
    exact wpAny_pyNext_enum_endD D1 he t1 fun h' eb => ⟨rfl, I.turned (t' := s.toks) (fun b o hb q => eb b o hb q) f0 f1 f3 f4 f5⟩
  self := fun A i s Q E st h => let ⟨⟨_, he⟩, _⟩ := st; wpAny_pyIter_enum he h
theorem meets_enumS_new (u : Value) (o : Obj) :
    Meets (Builtin.«enumerate.__new__» ⟨[.type "enumerate", u], []⟩) (fun _ R s => IterO u o s.heap ∧
      R (.ok (.ret (.ref (s.heap.push o).objs.size))) { s with heap := (s.heap.push o).push { cls := .type "enumerate", data := .fields #[.none, .bool false, .ref s.heap.objs.size, rawInt 0, .none, .none] } }) :=
  .of_wp fun prog w A R s h => by
    obtain ⟨hp, g, d, tk, os⟩ := s
    obtain ⟨h1, h⟩ := h
    have hsub := sub_enumerate
    have i1 := @h1 hp (fun _ _ x => x)
    wp_walk
    refine wpAny_stack_any fun st => wpAny_pure ?_
    split
    · rename_i c _ _ _ _ _
      cases (c == Value.type "enumerate")
      · wp_walk using i1 prog w _ _ _ _ _
        exact ⟨_, rfl, h⟩
      · wp_walk using i1 prog w _ _ _ _ _
        exact ⟨_, rfl, h⟩
    · wp_walk using i1 prog w _ _ _ _ _
      exact ⟨_, rfl, h⟩
theorem call_enumS {prog : Program} {w : World} {A : Around} {E : Value → Shared → Prop} {s : Shared} {u : Value} {o : Obj} {Q : Value → Shared → Prop} (hL : IterO u o s.heap) (fo : o.isFreed = false)
    (h : ∀ h', IsEnum h' (s.heap.objs.size + 1) s.heap.objs.size 0 .none → h'.get? s.heap.objs.size = some o → h'.objs.size = s.heap.objs.size + 2 →
      (∀ b o, s.heap.get? b = some o → h'.get? b = some o) → Q (.ref (s.heap.objs.size + 1)) { s with heap := h' }) :
    wpAny (model prog w) A (call (.type "enumerate") [u]) Q E s := by
  refine callType_new F.called_enumerate (by decide) (F.typeCall_enumerate_1 _) (F.newCall_enumerate_1 _) (fun obj => F.args_object_init_2 obj _) F.entry_enumerate_new
    (meets_enumS_new u o) ⟨hL, ?_⟩
  have hz : (s.heap.push o).objs.size = s.heap.objs.size + 1 := Heap.size_push ..
  show _ ∧ _
  rw [hz]
  have he : IsEnum ((s.heap.push o).push { cls := .type "enumerate", data := .fields #[.none, .bool false, .ref s.heap.objs.size, rawInt 0, .none, .none] }) (s.heap.objs.size + 1) s.heap.objs.size 0 .none := by
    have := Heap.get?_push_size (s.heap.push o) (o := { cls := .type "enumerate", data := .fields #[.none, .bool false, .ref s.heap.objs.size, rawInt 0, .none, .none] }) rfl
    rw [hz] at this; exact this
  exact ⟨⟨_, he, rfl⟩, h _ he (Heap.get?_push_of_some _ (Heap.get?_push_size _ fo)) (by rw [Heap.size_push, hz]) fun b o x => Heap.get?_push_of_some _ (Heap.get?_push_of_some _ x)⟩
def iEnumS (K : PySem.W.Frag) (ta : TA) : TI := fun σ H R => ta σ H fun vs H1 => ∃ a xs, vs = [Sr.v a] ∧ a.has K xs H1 ∧ R (IteS K a) H1
theorem pi_enumS {X : Cx} {e : Expr} {ta : TA} {p pos tpos : Pos} {elts : List Expr} {kk : Nat} (hg : Gl X "enumerate") (hm : X.mg "enumerate" = none) (ha : PA X [e] ta) (hs : starEach [e] X.env = [(false, eval e X.env)] := by rfl) :
    PI X (.Tuple elts kk tpos) (.Call (.Name "enumerate" p) [e] [] pos) (iEnumS X.K ta) := by
  refine ⟨fun pins s σ H R I h => ?_⟩
  refine Call_ (ld_blt I hg hm boot_enumerate (PyProof.Rows.callWith_type1 (thn (ha.run pos pins s σ H _ I h) fun us s1 ⟨vs, H1, I1, r1, q1⟩ => ?_) hs rfl))
  obtain ⟨a, xs, ex, hq, q⟩ := q1
  subst ex
  cases r1 with
  | cons r rr =>
    cases rr
    obtain ⟨o1, fr1, it1, st1, ap1⟩ := Sr.iter I1 a hq r
    refine call_enumS it1 fr1 fun h' he hit hsz hk => wpAny_pyIter_enum he ?_
    have I2 : Inv X pins σ H1 { s1 with heap := h' } := I1.kept (t' := s1.toks) hk
    refine ⟨s1.heap.objs.size + 1, [s1.heap.objs.size + 1, s1.heap.objs.size], _, _, H1, rfl, I2, turn_enumS a (s1.heap.objs.size + 1) s1.heap.objs.size (Nat.succ_ne_self _) (ap1 _ (Nat.le_add_right _ _)) (ap1 _ (Nat.le_refl _)), ⟨⟨.none, he⟩, st1 _ _ hit⟩, fun b hb => ?_, q⟩
    have e' : b = s1.heap.objs.size + 1 ∨ b = s1.heap.objs.size := by simpa using hb
    have hle : s1.heap.objs.size ≤ b := by
      rcases e' with z | z
      · rw [z]; exact Nat.le_add_right _ _
      · rw [z]; exact Nat.le_refl _
    exact I1.fpOk hle (I1.hok.fresh hle)
def gEnumS : List D → Option (List D)
  | [d] => (gIter d).map enumL
  | _ => none
section
variable {X : Cx} {G : Gd} {XC : List Nat → Prop} {Ol O O' O1 : List Nat} {W : WX} {fr : Bool} {a b c e o : Expr} {es : List Expr} {ma mb mc me mo : ME} {mr : MA} {pos p apos cpos : Pos} {x y f m : Str} {py : Pos} {tg : Expr} {tpos : Pos} {elts : List Expr} {kk : Nat}
theorem di_enumS (hg : Gl X "enumerate") (hm : X.mg "enumerate" = none) (ha : DA X G O W [e] mr) (hs : starEach [e] X.env = [(false, eval e X.env)] := by rfl) : DI X G O W (.Tuple elts kk tpos) (.Call (.Name "enumerate" p) [e] [] pos) (mItN gEnumS mr) := by
  refine pi_imp (pi_enumS hg hm ha hs) fun σ H Q h => itn_go (fun _ _ _ z => z) h fun A vs ds l H1 tk r hl q => ?_
  unfold gEnumS at hl
  split at hl
  · rename_i d1
    obtain ⟨zs, hz, rfl⟩ := map_some hl
    cases r with
    | cons r r' =>
      cases r'
      obtain ⟨r1, xs, rfl, rx, hx⟩ := sr_of r hz
      refine ⟨r1, xs, rfl, hx _ _ Tr.refl, q _ fun A' H' t tk' => ?_⟩
      have sx := hx _ _ t
      have hlen := rx.length
      have el : (enumL zs).length = zs.length := by unfold enumL; rw [List.length_map, List.length_zipIdx]
      refine ⟨fun i d e => ?_, ⟨xs, sx, by omega⟩⟩
      have hi := (List.getElem?_eq_some_iff.mp e).1
      rw [el] at hi
      have e2 : d = .tup [.int (i : Nat), zs[i]] := by
        unfold enumL at e
        rw [List.getElem?_map, List.getElem?_zipIdx, List.getElem?_eq_getElem hi] at e
        have := Option.some.inj e
        rw [← this]
        simp
      obtain ⟨v, ev, rv⟩ := rx.get (List.getElem?_eq_getElem hi)
      refine ⟨⟨xs, v, sx, ev⟩, ?_⟩
      rintro x H'' ⟨T, y, rfl, hT, rfl, hy⟩
      have := hy xs sx
      rw [ev] at this
      cases this
      rw [e2]
      exact ⟨same_upd hT, new_tup tk' (.cons (.int _) (.cons (rv.tr t) .nil)) hT⟩
  · cases hl

def gSIndex (d : D) (ds : List D) : Option D := match d, ds with
  | .str x, [.str y] => match Builtin.Str.occurrences x y 0 x.length 1 with
    | i :: _ => some (.int (i : Nat))
    | [] => none
  | _, _ => none
theorem mt_sindexD : MtR X "str.index" (rMD X.K gSIndex) := by
  rintro pins s σ H v xs u us Q I rx rs ⟨A, c, ds, d, t, rc, ra, hg, q⟩
  unfold gSIndex at hg
  split at hg
  · rename_i a b
    split at hg
    · rename_i i rest ho
      cases hg
      rw [rc.str] at rx
      have hxs : xs = [.str b] := by
        rcases ra with ra | ⟨v1, c1, rfl, e, r1⟩
        · cases ra with
          | cons r1 r2 =>
            cases r2
            cases r1
            rfl
        · cases e
          rw [r1.str]
      subst hxs
      exact mt_sindex pins s σ H _ _ u us Q I rx rs ⟨a, b, i, rest, rfl, rfl, ho, q _ _ (Same.refl _) (.int _) (no_fr fun _ => nofun)⟩
    · cases hg
  · cases hg

def gLR (i j : Int) : Option D := if okR i = true ∧ okR j = true ∧ (j - i).toNat ≤ 2 ^ 24 then some (.lst (rangeL i (j - i).toNat)) else none
def mListR1 (ma : ME) : ME := fun ρ => (ma ρ).bind fun d ρ1 => match d with
  | .int j => ret (gLR 0 j) ρ1
  | _ => .bad
def mListR2 (ma mb : ME) : ME := fun ρ => (ma ρ).bind fun d ρ1 => (mb ρ1).bind fun d2 ρ2 => match d, d2 with
  | .int i, .int j => ret (gLR i j) ρ2
  | _, _ => .bad
theorem rg_rp {K : PySem.W.Frag} {A : Addr → Prop} {H : Hp} (a : Int) (n : Nat) : RpA K A H ((List.range n).map fun i => V.int (a + (i : Nat))) (rangeL a n) := by
  unfold rangeL
  generalize List.range n = l
  induction l with
  | nil => exact .nil
  | cons x l ih => exact .cons (.int _) ih
theorem lr_fin {K : PySem.W.Frag} {A : Addr → Prop} {ms : Nat → Option Addr} {σ : L2.St} {H1 : Hp} {Q : VK} {ρ1 : En} {i j : Int} (R : RelS K G O A ms σ H1 ρ1) (q : FPost K G O W A ms σ H1 Q (ret (gLR i j) ρ1)) : RgOk i j ∧ ∀ p, H1 p = none → Q (.ref p) (L2.upd H1 p (.lst (rgV i j))) := by
  unfold gLR at q
  split at q
  · rename_i h
    refine ⟨⟨(okR_ok h.1).1, (okR_ok h.1).2, (okR_ok h.2.1).1, (okR_ok h.2.1).2, h.2.2⟩, fun p hp => ?_⟩
    exact q p _ (R.same (same_upd hp)) (R.grow hp (same_upd hp) upd_same) (Kp.same (same_upd hp)) hp (new_own R.trk (rg_rp _ _) hp)
  · exact q.elim
theorem df_listR1 {p2 p3 : Pos} (hc : X.calm = true) (hg : Gl X "list") (hm : X.mg "list" = none) (hg2 : Gl X "range") (hm2 : X.mg "range" = none) (ha : DE X G O W a ma)
    (na : starEach [.Call (.Name "range" p2) [a] [] p3] X.env = (false, eval (.Call (.Name "range" p2) [a] [] p3) X.env) :: starEach [] X.env := by rfl) (na2 : starEach [a] X.env = (false, eval a X.env) :: starEach [] X.env := by rfl) :
    DF X G O W (.Call (.Name "list" p) [.Call (.Name "range" p2) [a] [] p3] [] pos) (mListR1 ma) := by
  refine pe_imp (pe_listRg hc hg hm (prg_1 hg2 hm2 ha na2) na) fun σ H Q ⟨A, ms, ρ, R, q⟩ => ⟨A, ms, ρ, R, RPost.mono (FPost.bind q) ?_⟩
  rintro x H1 ⟨d, ρ1, R1, k1, r1, q1⟩
  cases d with
  | int j =>
    cases r1
    exact ⟨j, rfl, lr_fin R1 q1⟩
  | _ => exact q1.elim
theorem df_listR2 {p2 p3 : Pos} (hc : X.calm = true) (hg : Gl X "list") (hm : X.mg "list" = none) (hg2 : Gl X "range") (hm2 : X.mg "range" = none) (ha : DE X G O W a ma) (hb : DE X G O W b mb)
    (na : starEach [.Call (.Name "range" p2) [a, b] [] p3] X.env = (false, eval (.Call (.Name "range" p2) [a, b] [] p3) X.env) :: starEach [] X.env := by rfl) (na2 : starEach [a, b] X.env = (false, eval a X.env) :: starEach [b] X.env := by rfl) (na3 : starEach [b] X.env = (false, eval b X.env) :: starEach [] X.env := by rfl) (hp : (backTo p3 (starEach [b] X.env)).any (·.1) = false := by rfl) :
    DF X G O W (.Call (.Name "list" p) [.Call (.Name "range" p2) [a, b] [] p3] [] pos) (mListR2 ma mb) := by
  refine pe_imp (pe_listRg hc hg hm (prg_2 hg2 hm2 ha hb na2 na3 (hp := hp)) na) fun σ H Q ⟨A, ms, ρ, R, q⟩ => ⟨A, ms, ρ, R, RPost.mono (FPost.bind q) ?_⟩
  rintro x H1 ⟨d, ρ1, R1, k1, r1, q1⟩
  refine ⟨A, ms, ρ1, R1, RPost.mono (FPost.bind q1) ?_⟩
  rintro y H2 ⟨d2, ρ2, R2', k2, r2, q2⟩
  cases d with
  | int i =>
    cases d2 with
    | int j =>
      cases r1
      cases r2
      exact ⟨i, j, rfl, rfl, lr_fin R2' q2⟩
    | _ => exact q2.elim
  | _ => exact q2.elim
def mRevL (m : ME) : ME := fun ρ => (m ρ).bind fun d ρ1 => match d with
  | .lst l => .ok (.lst l.reverse) ρ1
  | _ => .bad
theorem df_revL {k : Nat} {p1 p2 p3 : Pos} (ha : DE X G O W e me) : DF X G O W (.Subscript e (.Slice none none (some (.UnaryOp .USub (.Constant (.int 1) k p1) p2)) p3) pos) (mRevL me) := by
  refine pe_imp (pe_revL ha) fun σ H Q ⟨A, ms, ρ, R, q⟩ => ⟨A, ms, ρ, R, RPost.mono (FPost.bind q) ?_⟩
  rintro x H1 ⟨d, ρ1, R1, k1, r1, q1⟩
  cases d with
  | lst l =>
    cases r1 with
    | lst h1 n1 rr =>
      refine ⟨_, _, rfl, SqL.of h1, fun p hp => ?_⟩
      exact q1 p _ (R1.same (same_upd hp)) (R1.grow hp (same_upd hp) upd_same) (Kp.same (same_upd hp)) hp (new_own R1.trk rr.rev hp)
  | _ => exact q1.elim
end
end DL
namespace DL
open L2 PySem PySem.Spec PyProof.Rows
def isC (cs : List Str) (c : Str) : Bool := cs.any fun x => decide (c = x)
def tb : List (Str × FN) → Str → Option FN
  | [], _ => none
  | (y, F) :: r, x => if x = y then some F else tb r x
section
variable {P : Program} {w : World} {K : PySem.W.Frag} {mg : Str → Option Value} {base : Heap} {k : Nat} {m f c x : Str} {fr : Bool} {cs : List Str} {F : FN} {l : List (Str × FN)} {T : String}
theorem isC_or {c x : Str} {cs : List Str} (h : isC (x :: cs) c = true) : c = x ∨ isC cs c = true := by
  unfold isC at *
  rw [List.any_cons, Bool.or_eq_true] at h
  exact h.imp (fun z => of_decide_eq_true z) id
theorem fldC_nil : FldC K (isC []) f := fun c h => by cases h
theorem fldC_cons (h1 : Cls K (He.ga K x)) (h2 : NoAttr K (He.ga K x) f) (h : FldC K (isC cs) f) : FldC K (isC (x :: cs)) f := fun c hc => by
  rcases isC_or hc with rfl | z
  · exact ⟨h1, h2⟩
  · exact h c z
theorem isiC_nil : IsiC K T (isC []) := fun c h => by cases h
theorem isiC_cons (h1 : Cls K (He.ga K x)) (h2 : objB K x = true) (h3 : kitT K x T = true) (h : IsiC K T (isC cs)) : IsiC K T (isC (x :: cs)) := fun c hc => by
  rcases isC_or hc with rfl | z
  · exact ⟨h1, h2, h3⟩
  · exact h c z
theorem methT_nil : MethT P w K mg base k m false fr (tb []) := fun c F h => by cases h
theorem methT_cons {g : Addr} (h1 : Cls K (He.ga K x)) (h2 : Meth K (He.ga K x) m g) (h3 : FnG P w K mg base k g false fr F) (h : MethT P w K mg base k m false fr (tb l)) : MethT P w K mg base k m false fr (tb ((x, F) :: l)) := fun c F' hc => by
  have hc' : (if c = x then some F else tb l c) = some F' := hc
  split at hc'
  · rename_i z
    subst z
    cases hc'
    exact ⟨h1, g, h2, h3⟩
  · exact h c F' hc'
theorem tabV_nil : ∀ x F, tb [] x = some F → FnG P w K mg base k (He.ga K x) false false F := fun c F h => by cases h
theorem tabV_cons (h1 : FnG P w K mg base k (He.ga K x) false false F) (h : ∀ x F, tb l x = some F → FnG P w K mg base k (He.ga K x) false false F) : ∀ y F', tb ((x, F) :: l) y = some F' → FnG P w K mg base k (He.ga K y) false false F' := fun c F' hc => by
  have hc' : (if c = x then some F else tb l c) = some F' := hc
  split at hc'
  · rename_i z
    subst z
    cases hc'
    exact h1
  · exact h c F' hc'
end
end DL
namespace DL
open L2 PySem PySem.Spec PyProof.Rows
theorem tuple_mulW1 (l : Addr) (items : Array Value) (n : Nat) (dd : Option Addr) (sl : Array (Option Value)) (u : Tok) :
    Meets (Builtin.«tuple.__mul__» ⟨[.ref l, .int 1 u], []⟩) (fun _ R s => s.heap.get? l = some { cls := .type "tuple", dict := dd, data := .seq items n, slots := sl } ∧
      R (.ok (.ret (Value.ref l))) s) :=
  .of_wp fun prog w A R s h => by
    obtain ⟨hp, g, d, tk, os⟩ := s
    obtain ⟨hl, h⟩ := h
    have f1 := AutoSeq1.idx_int
    have c1 : (items.isEmpty || (1 : Int) == 1) = true := by simp
    wp_walk using wpAny_loadPart' hl
    repeat (first
      | (refine wpAny_ite_false (by decide) ?_; wp_walk using wpAny_loadPart' hl)
      | (refine wpAny_ite_true c1 ?_; wp_walk using wpAny_loadPart' hl)
      | (refine wpAny_ite_true (by simp) ?_; wp_walk using wpAny_loadPart' hl))
    exact ⟨_, rfl, h⟩
theorem tuple_mulW0 (l : Addr) (items : Array Value) (n : Nat) (dd : Option Addr) (sl : Array (Option Value)) (u : Tok) (c1 : (items.isEmpty || (0 : Int) == 1) = false) (c2 : (decide ((0 : Int) ≤ 0) || items.isEmpty) = true) :
    Meets (Builtin.«tuple.__mul__» ⟨[.ref l, .int 0 u], []⟩) (fun _ R s => s.heap.get? l = some { cls := .type "tuple", dict := dd, data := .seq items n, slots := sl } ∧
      R (.ok (.ret (Value.ref s.heap.objs.size))) { s with heap := s.heap.push { cls := Value.type "tuple", data := Data.seq #[] }, toks := s.toks }) :=
  .of_wp fun prog w A R s h => by
    obtain ⟨hp, g, d, tk, os⟩ := s
    obtain ⟨hl, h⟩ := h
    have f1 := AutoSeq1.idx_int
    wp_walk using wpAny_loadPart' hl
    repeat (first
      | (refine wpAny_ite_false (by decide) ?_; wp_walk using wpAny_loadPart' hl)
      | (refine wpAny_ite_false (decide_eq_false (by rw [c1]; exact Bool.false_ne_true)) ?_; wp_walk using wpAny_loadPart' hl)
      | (refine wpAny_ite_true (decide_eq_true c2) ?_; wp_walk using wpAny_loadPart' hl))
    exact ⟨_, rfl, h⟩
def rRep1 (K : PySem.W.Frag) : R2 := fun x y H Q => ∃ l xs, x = .ref l ∧ y = .int 1 ∧ SqT K H l xs ∧ Q (.ref l) H
def rRep0 (K : PySem.W.Frag) : R2 := fun x y H Q => ∃ l xs, x = .ref l ∧ y = .int 0 ∧ SqT K H l xs ∧ xs ≠ [] ∧ ∀ p, H p = none → Q (.ref p) (upd H p (.tup []))
section
variable {X : Cx}
theorem op_rep1 : OpR X (binaryOp .Mult) (rRep1 X.K) := by
  intro pins s σ H x y v u Q I rx ry h
  obtain ⟨l, xs, rfl, rfl, hT, q⟩ := h
  cases rx
  obtain ⟨t, rfl⟩ := ry
  obtain ⟨its, r, ⟨⟨cls, dd, data, sl⟩, ho, hc, n, hd⟩, hs⟩ := I.tuple hT
  simp only at hc hd
  subst hc hd
  exact wpAny_binaryOp_repeat_ref (T := "tuple") (U := "int") (by decide) ⟨_, ho, rfl⟩ (fun s' => typeIs_int s' 1 t) noFill_tuple_mul F.fills_int_mul F.slot_int_rmul repeat_tuple F.slot_int_index.lookup
    (call_meets F.slot_int_rmul (typeIs_int s 1 t) F.entry_int_rmul (F.args_int_rmul_2 _ _) (int_rmul_tuple 1 t l its.toArray n dd sl)
      ⟨ho, rfl, ⟨_, ho, rfl⟩, call_meets F.slot_tuple_mul ⟨_, ho, rfl⟩ F.entry_tuple_mul (F.args_tuple_mul_2 _ _) (tuple_mulW1 l its.toArray n dd sl t) ⟨ho, ⟨.ref l, H, I, rfl, q⟩⟩⟩)
theorem op_rep0 : OpR X (binaryOp .Mult) (rRep0 X.K) := by
  intro pins s σ H x y v u Q I rx ry h
  obtain ⟨l, xs, rfl, rfl, hT, hne, q⟩ := h
  cases rx
  obtain ⟨t, rfl⟩ := ry
  obtain ⟨its, r, ⟨⟨cls, dd, data, sl⟩, ho, hc, n, hd⟩, hs⟩ := I.tuple hT
  simp only at hc hd
  subst hc hd
  have hle : its.length = xs.length := r.length.symm
  have hn : its ≠ [] := fun e => hne (by
    rw [e] at hle
    exact List.eq_nil_of_length_eq_zero hle.symm)
  have hi : its.toArray.isEmpty = false := by
    cases its with
    | nil => exact absurd rfl hn
    | cons a b => rfl
  refine wpAny_binaryOp_repeat_ref (T := "tuple") (U := "int") (by decide) ⟨_, ho, rfl⟩ (fun s' => typeIs_int s' 0 t) noFill_tuple_mul F.fills_int_mul F.slot_int_rmul repeat_tuple F.slot_int_index.lookup
    (call_meets F.slot_int_rmul (typeIs_int s 0 t) F.entry_int_rmul (F.args_int_rmul_2 _ _) (int_rmul_tuple 0 t l its.toArray n dd sl)
      ⟨ho, rfl, ⟨_, ho, rfl⟩, call_meets F.slot_tuple_mul ⟨_, ho, rfl⟩ F.entry_tuple_mul (F.args_tuple_mul_2 _ _) (tuple_mulW0 l its.toArray n dd sl t (by rw [hi]; rfl) (by simp)) ⟨ho, ?_⟩⟩)
  refine ⟨.ref s.heap.objs.size, _, I.laid (t' := s.toks) (o := .tup []) (fun b ob q => Heap.get?_push_of_some _ q) (Nat.le_refl _) ?_, rfl, q _ (I.hok.fresh (Nat.le_refl _))⟩
  exact ⟨by rw [sizeLine_eq]; exact Nat.zero_le _, [], .nil, IsTup.new _ _⟩
def gMulT : D → D → Option D
  | .tup xs, .int k => if 0 ≤ k ∧ k ≤ 1000 ∧ xs.length ≤ 1000 ∧ (!xs.isEmpty) = true then some (.tup (List.replicate k.toNat xs).flatten) else none
  | _, _ => none
theorem no_gMulT : NoObj gMulT := ⟨fun c fs z => by cases z <;> rfl, fun c fs z => by cases z <;> rfl⟩
theorem od_mulT : OpR X (binaryOp .Mult) (rD2 X.K gMulT) := by
  intro pins s σ H x y v u Q I rx ry ⟨A, a, b, d, t, pa, pb, e, q⟩
  cases a with
  | tup xs =>
    cases b with
    | int k =>
      obtain ⟨hz, rfl⟩ := ite_d (x := .tup (List.replicate k.toNat xs).flatten) e
      obtain ⟨a1, x1, rfl, ha, da⟩ := pa.tup
      rw [pb.int] at ry
      have hne : x1 ≠ [] := fun z => by
        have h1 := da.length
        rw [z] at h1
        have h2 := hz.2.2.2
        rw [List.eq_nil_of_length_eq_zero h1.symm] at h2
        cases h2
      rcases (by omega : k = 0 ∨ k = 1 ∨ 2 ≤ k) with rfl | rfl | h2
      · exact op_rep0 pins s σ H _ _ v u Q I rx ry ⟨_, _, rfl, rfl, ha.sq, hne, fun p hp => q _ _ (same_upd hp) (new_tup t .nil hp)⟩
      · refine op_rep1 pins s σ H _ _ v u Q I rx ry ⟨_, _, rfl, rfl, ha.sq, ?_⟩
        have e1 : (List.replicate (1 : Int).toNat xs).flatten = xs := by simp
        rw [e1] at q
        exact q _ _ (Same.refl _) (.tup ha da)
      · exact op_repT pins s σ H _ _ v u Q I rx ry ⟨_, k, _, rfl, rfl, ha.sq, hne, h2, hz.2.1, by rw [da.length]; exact hz.2.2.1, fun p hp => q _ _ (same_upd hp) (new_tup t (da.rep _) hp)⟩
    | _ => cases e
  | _ => cases b <;> cases e
end
end DL
namespace DL
open L2 PySem PySem.Spec PyProof.Rows
def IsZipF (h : Heap) (z TI TO T : Addr) (f : Bool) : Prop := h.get? z = some { cls := .type "zip", data := .fields #[rawInt T, .bool f, .bool false, .ref TI, .ref TO] }
section
variable {prog : Program} {w : World} {A : Around} {E : Value → Shared → Prop} {s : Shared} {z TI TO T i1 i2 : Addr} {fp1 fp2 : List Addr} {n1 n2 i : Nat} {P1 P2 : Nat → Value → Prop} {St1 St2 : Nat → Heap → Prop} {a1 a2 : Value} {f : Bool} {oT : Obj}
theorem free_held {Q : Bool → Shared → Prop} (hz : IsZipF s.heap z TI TO T f) (hT : s.heap.get? T = some oT) (hQ : ∀ h', IsZipF h' z TI TO T true → Heap.SameBut z s.heap h' → Q false { s with heap := h' }) :
    wpAny (model prog w) A (Builtin.SmallTypes.ownedTupleIsFree (.ref z)) Q E s := by
  unfold Builtin.SmallTypes.ownedTupleIsFree
  unfold IsZipF at hz
  refine wpAny_bind (wpAny_field hz rfl (x := rawInt T) rfl ?_)
  show wpAny _ _ (loadIfAlive (Int.toNat (T : Int)) >>= _) _ _ _
  rw [Int.toNat_natCast]
  refine wpAny_bind (PySem.W.kdx_alive hT ?_)
  show wpAny _ _ (field (.ref z) 1 >>= _) _ _ _
  refine wpAny_bind (wpAny_field hz rfl (x := .bool f) rfl ?_)
  cases f with
  | true => exact wpAny_pure (hQ s.heap hz (Heap.SameBut.refl _ _))
  | false =>
    refine wpAny_bind (wpAny_setField_rec hz (by simp) fun h' hz' hs' => wpAny_pure (hQ h' hz' hs'))
end
end DL
namespace DL
open L2 PySem PySem.Spec PyProof.Rows
section
variable {prog : Program} {w : World} {A : Around} {E : Value → Shared → Prop} {s : Shared} {z TI TO T i1 i2 : Addr} {fp1 fp2 : List Addr} {n1 n2 i : Nat} {P1 P2 : Nat → Value → Prop} {St1 St2 : Nat → Heap → Prop} {a1 a2 : Value} {f : Bool} {oT : Obj}
theorem zipH_next_item {Q : Value → Shared → Prop} (S : ZipSep2 z TI TO i1 i2 fp1 fp2) (D1 : Draws prog w A i1 fp1 n1 P1 St1) (D2 : Draws prog w A i2 fp2 n2 P2 St2)
    (hz : IsZipF s.heap z TI TO T f) (hT : s.heap.get? T = some oT) (hTI : IsTupOf2 s.heap TI (.ref i1) (.ref i2)) (st1 : St1 i s.heap) (st2 : St2 i s.heap) (hlt1 : i < n1) (hlt2 : i < n2)
    (hQ : ∀ x1 x2 h' tk, P1 i x1 → P2 i x2 → IsZipF h' z TI TO T true → St1 (i + 1) h' → St2 (i + 1) h' → IsTupOf2 h' s.heap.objs.size x1 x2 → h'.objs.size = s.heap.objs.size + 1 →
      (∀ c o, c ≠ z → c ≠ i1 → c ≠ i2 → s.heap.get? c = some o → h'.get? c = some o) → Q (.ref s.heap.objs.size) { s with heap := h', toks := tk }) :
    wpAny (model prog w) A (Builtin.«zip.__next__» ⟨[.ref z], []⟩) (fun fin s' => ∃ v, fin = .done (.ret v) ∧ Q v s') E s := by
  obtain ⟨hp, g, d, tk0, os⟩ := s
  have hz' := hz
  unfold IsZipF at hz'
  show wpAny _ _ (field (.ref z) 2 >>= _) _ _ _
  refine wpAny_bind (wpAny_field hz' rfl (x := .bool false) rfl ?_)
  show wpAny _ _ (field (.ref z) 3 >>= _) _ _ _
  refine wpAny_bind (wpAny_field hz' rfl (x := .ref TI) rfl ?_)
  refine wpAny_bind (wpAny_seqItems hTI rfl ?_)
  show wpAny _ _ (Builtin.SmallTypes.ownedTupleIsFree (.ref z) >>= _) _ _ _
  refine wpAny_bind (free_held hz hT fun g0 hz0 hs0 => ?_)
  replace hs0 : Heap.SameBut z hp g0 := hs0
  simp only [Bool.false_eq_true, if_false]
  rw [← Array.forIn_toList]
  simp only [List.forIn_cons, List.forIn_nil]
  have st1' := D1.over st1 hs0 S.zf1
  have st2' := D2.over st2 hs0 S.zf2
  refine wpAny_bind ?_
  refine wpAny_bind ?_
  refine wpAny_bind (wpAny_holding ?_)
  show wpAny _ _ (Builtin.SmallTypes.nextOf (.ref i1) >>= _) _ _ ⟨g0, g, d, tk0, os⟩
  refine wpAny_bind (D1.item i _ _ _ hlt1 st1' fun x1 p1 tk1 hx1 sn1 hp1 => wpAny_pure ?_)
  replace hp1 : Heap.SameBut i1 g0 p1 := hp1
  refine wpAny_pure ?_
  refine wpAny_bind ?_
  refine wpAny_bind (wpAny_holding ?_)
  show wpAny _ _ (Builtin.SmallTypes.nextOf (.ref i2) >>= _) _ _ ⟨p1, g, d, tk1, os⟩
  refine wpAny_bind (D2.item i _ _ _ hlt2 (D2.over st2' hp1 S.sep1_2) fun x2 p2 tk2 hx2 sn2 hp2 => wpAny_pure ?_)
  replace hp2 : Heap.SameBut i2 p1 p2 := hp2
  refine wpAny_pure ?_
  refine wpAny_pure ?_
  have hsz : p2.objs.size = hp.objs.size := by rw [hp2.1, hp1.1, hs0.1]
  have hzz : IsZipF p2 z TI TO T true := hp2.extBut _ _ S.zi2 (hp1.extBut _ _ S.zi1 hz0)
  have hkk : ∀ c o, c ≠ z → c ≠ i1 → c ≠ i2 → hp.get? c = some o → p2.get? c = some o := fun c o cz c1 c2 e => hp2.extBut _ _ c2 (hp1.extBut _ _ c1 (hs0.extBut _ _ cz e))
  have hj1 : St1 (i + 1) p2 := D1.over sn1 hp2 S.sep2_1
  have hj2 : St2 (i + 1) p2 := sn2
  show wpAny _ _ (newTuple [x1, x2] >>= _) _ _ ⟨p2, g, d, tk2, os⟩
  refine wpAny_bind (wpAny_newTuple ?_)
  refine wpAny_pure ⟨_, rfl, ?_⟩
  show Q (.ref p2.objs.size) ⟨p2.push { cls := .type "tuple", data := .seq #[x1, x2] }, g, d, tk2, os⟩
  have up : ∀ c o, p2.get? c = some o → (p2.push { cls := .type "tuple", data := .seq #[x1, x2] }).get? c = some o := fun c o e => Heap.get?_push_of_some _ e
  have hT2 : IsTupOf2 (p2.push { cls := .type "tuple", data := .seq #[x1, x2] }) p2.objs.size x1 x2 := Heap.get?_push_size _ rfl
  have hs2 : (p2.push { cls := .type "tuple", data := .seq #[x1, x2] }).objs.size = p2.objs.size + 1 := Heap.size_push ..
  rw [hsz] at hT2 hs2 ⊢
  exact hQ x1 x2 _ tk2 hx1 hx2 (up _ _ hzz) (D1.frame _ _ _ hj1 fun b hb o e => up b o e) (D2.frame _ _ _ hj2 fun b hb o e => up b o e) hT2 hs2 fun c o cz c1 c2 e => up c o (hkk c o cz c1 c2 e)
theorem zipH_next_end {Q : Fin → Shared → Prop} (S : ZipSep2 z TI TO i1 i2 fp1 fp2) (D1 : Draws prog w A i1 fp1 n1 P1 St1) (D2 : Draws prog w A i2 fp2 n2 P2 St2)
    (hz : IsZipF s.heap z TI TO T f) (hT : s.heap.get? T = some oT) (hTI : IsTupOf2 s.heap TI (.ref i1) (.ref i2)) (st1 : St1 i s.heap) (st2 : St2 i s.heap) (hle1 : i ≤ n1) (hle2 : i ≤ n2) (hend : i = n1 ∨ i = n2)
    (hE : ∀ h' tk e, (∀ c o, c ≠ z → c ≠ i1 → c ≠ i2 → s.heap.get? c = some o → h'.get? c = some o) → (∃ o, h'.get? e = some o ∧ o.cls = .type "StopIteration") → E (.ref e) { s with heap := h', toks := tk }) :
    wpAny (model prog w) A (Builtin.«zip.__next__» ⟨[.ref z], []⟩) Q E s := by
  obtain ⟨hp, g, d, tk0, os⟩ := s
  have hz' := hz
  unfold IsZipF at hz'
  show wpAny _ _ (field (.ref z) 2 >>= _) _ _ _
  refine wpAny_bind (wpAny_field hz' rfl (x := .bool false) rfl ?_)
  show wpAny _ _ (field (.ref z) 3 >>= _) _ _ _
  refine wpAny_bind (wpAny_field hz' rfl (x := .ref TI) rfl ?_)
  refine wpAny_bind (wpAny_seqItems hTI rfl ?_)
  show wpAny _ _ (Builtin.SmallTypes.ownedTupleIsFree (.ref z) >>= _) _ _ _
  refine wpAny_bind (free_held hz hT fun g0 hz0 hs0 => ?_)
  replace hs0 : Heap.SameBut z hp g0 := hs0
  simp only [Bool.false_eq_true, if_false]
  rw [← Array.forIn_toList]
  simp only [List.forIn_cons, List.forIn_nil]
  have st1' := D1.over st1 hs0 S.zf1
  have st2' := D2.over st2 hs0 S.zf2
  refine wpAny_bind ?_
  refine wpAny_bind ?_
  refine wpAny_bind (wpAny_holding ?_)
  show wpAny _ _ (Builtin.SmallTypes.nextOf (.ref i1) >>= _) _ _ ⟨g0, g, d, tk0, os⟩
  by_cases hlt1 : i < n1
  · refine wpAny_bind (D1.item i _ _ _ hlt1 st1' fun x1 p1 tk1 hx1 sn1 hp1 => wpAny_pure ?_)
    replace hp1 : Heap.SameBut i1 g0 p1 := hp1
    refine wpAny_pure ?_
    refine wpAny_bind ?_
    refine wpAny_bind (wpAny_holding ?_)
    have hi2 : i = n2 := by omega
    show wpAny _ _ (Builtin.SmallTypes.nextOf (.ref i2) >>= _) _ _ ⟨p1, g, d, tk1, os⟩
    refine wpAny_bind (D2.done ⟨p1, g, d, tk1, os⟩ _ _ (by rw [← hi2]; exact D2.over st2' hp1 S.sep1_2) fun q e hq he => ?_)
    replace hq : Heap.ExtBut i2 p1 q := hq
    exact hE q tk1 e (fun c o cz c1 c2 x => hq _ _ c2 (hp1.extBut _ _ c1 (hs0.extBut _ _ cz x))) he
  · have hi1 : i = n1 := by omega
    refine wpAny_bind (D1.done ⟨g0, g, d, tk0, os⟩ _ _ (by rw [← hi1]; exact st1') fun q e hq he => ?_)
    replace hq : Heap.ExtBut i1 g0 q := hq
    exact hE q tk0 e (fun c o cz c1 c2 x => hq _ _ c1 (hs0.extBut _ _ cz x)) he
theorem pyNext_zipH_item {Q : Option Value → Shared → Prop} (S : ZipSep2 z TI TO i1 i2 fp1 fp2) (D1 : Draws prog w A.in1 i1 fp1 n1 P1 St1) (D2 : Draws prog w A.in1 i2 fp2 n2 P2 St2)
    (hz : IsZipF s.heap z TI TO T f) (hT : s.heap.get? T = some oT) (hTI : IsTupOf2 s.heap TI (.ref i1) (.ref i2)) (st1 : St1 i s.heap) (st2 : St2 i s.heap) (hlt1 : i < n1) (hlt2 : i < n2)
    (hQ : ∀ x1 x2 h' tk, P1 i x1 → P2 i x2 → IsZipF h' z TI TO T true → St1 (i + 1) h' → St2 (i + 1) h' → IsTupOf2 h' s.heap.objs.size x1 x2 → h'.objs.size = s.heap.objs.size + 1 →
      (∀ c o, c ≠ z → c ≠ i1 → c ≠ i2 → s.heap.get? c = some o → h'.get? c = some o) → Q (some (.ref s.heap.objs.size)) { s with heap := h', toks := tk }) :
    wpAny (model prog w) A (pyNext (.ref z)) Q E s := by
  have hTy : s.TypeIs (.ref z) "zip" := ⟨_, hz, rfl⟩
  unfold pyNext
  exact wpAny_bind (wpAny_attempt (wpAny_callSpecial?_slot (name := Str.ofString "__next__") hTy F.slot_zip_next
    (wpAny_call_entry F.slot_zip_next hTy F.entry_zip_next
      (zipH_next_item S D1 D2 hz hT hTI st1 st2 hlt1 hlt2 fun x1 x2 h' tk y1 y2 b1 b2 d1 d2 b5 b6 => wpAny_pure (hQ x1 x2 h' tk y1 y2 b1 b2 d1 d2 b5 b6)) (F.args_zip_next_1 _))))
end
end DL
namespace DL
open L2 PySem PySem.Spec PyProof.Rows
section
variable {prog : Program} {w : World} {A : Around} {E : Value → Shared → Prop} {s : Shared} {z TI TO T i1 i2 : Addr} {fp1 fp2 : List Addr} {n1 n2 i : Nat} {P1 P2 : Nat → Value → Prop} {St1 St2 : Nat → Heap → Prop} {a1 a2 : Value} {f : Bool} {oT : Obj}
theorem pyNext_zipH_end {Q : Option Value → Shared → Prop} (S : ZipSep2 z TI TO i1 i2 fp1 fp2) (D1 : Draws prog w A.in1 i1 fp1 n1 P1 St1) (D2 : Draws prog w A.in1 i2 fp2 n2 P2 St2)
    (hz : IsZipF s.heap z TI TO T f) (hT : s.heap.get? T = some oT) (hTI : IsTupOf2 s.heap TI (.ref i1) (.ref i2)) (st1 : St1 i s.heap) (st2 : St2 i s.heap) (hle1 : i ≤ n1) (hle2 : i ≤ n2) (hend : i = n1 ∨ i = n2)
    (hQ : ∀ h' tk, (∀ c o, c ≠ z → c ≠ i1 → c ≠ i2 → s.heap.get? c = some o → h'.get? c = some o) → Q none { s with heap := h', toks := tk }) : wpAny (model prog w) A (pyNext (.ref z)) Q E s := by
  have hTy : s.TypeIs (.ref z) "zip" := ⟨_, hz, rfl⟩
  unfold pyNext
  refine wpAny_bind (wpAny_attempt (wpAny_callSpecial?_slot (name := Str.ofString "__next__") hTy F.slot_zip_next
    (wpAny_call_entry F.slot_zip_next hTy F.entry_zip_next (zipH_next_end S D1 D2 hz hT hTI st1 st2 hle1 hle2 hend fun h' tk e hk he => ?_) (F.args_zip_next_1 _))))
  obtain ⟨o, ho, hc⟩ := he
  refine wpAny_bind (wpAny_isInstance (T := "StopIteration") (b := true) ⟨o, ho, hc⟩ isSubtype_stop ?_)
  exact wpAny_pure (hQ _ _ hk)
theorem apart {a b c : Nat} (h : a < b) (k : b ≤ c) : c ≠ a := by omega
def Zs (z TI TO b0 : Addr) (h : Heap) : Prop := (IsZip h z TI TO .none ∧ ∃ a b, IsTupOf2 h TO a b) ∨ ∃ T f o, IsZipF h z TI TO T f ∧ b0 ≤ T ∧ h.get? T = some o
theorem Zs.keep {b0 : Addr} {h h' : Heap} (hz : Zs z TI TO b0 h) (k : ∀ c o, c = z ∨ c = TO ∨ b0 ≤ c → h.get? c = some o → h'.get? c = some o) : Zs z TI TO b0 h' := by
  rcases hz with ⟨a, x, y, b⟩ | ⟨T, f, o, a, b, c⟩
  · exact .inl ⟨k _ _ (.inl rfl) a, x, y, k _ _ (.inr (.inl rfl)) b⟩
  · exact .inr ⟨T, f, o, k _ _ (.inl rfl) a, b, k _ _ (.inr (.inr b)) c⟩
theorem zs_item {b0 : Addr} {Q : Option Value → Shared → Prop} (S : ZipSep2 z TI TO i1 i2 fp1 fp2) (D1 : Draws prog w A.in1 i1 fp1 n1 P1 St1) (D2 : Draws prog w A.in1 i2 fp2 n2 P2 St2) (hb : z < b0 ∧ TO < b0 ∧ i1 < b0 ∧ i2 < b0) (hs : b0 ≤ s.heap.objs.size)
    (hz : Zs z TI TO b0 s.heap) (hTI : IsTupOf2 s.heap TI (.ref i1) (.ref i2)) (st1 : St1 i s.heap) (st2 : St2 i s.heap) (hlt1 : i < n1) (hlt2 : i < n2)
    (hQ : ∀ x1 x2 h' tk, P1 i x1 → P2 i x2 → Zs z TI TO b0 h' → St1 (i + 1) h' → St2 (i + 1) h' → IsTupOf2 h' s.heap.objs.size x1 x2 → h'.objs.size = s.heap.objs.size + 1 →
      (∀ c o, c ≠ z → c ≠ TO → c ≠ i1 → c ≠ i2 → s.heap.get? c = some o → h'.get? c = some o) → Q (some (.ref s.heap.objs.size)) { s with heap := h', toks := tk }) :
    wpAny (model prog w) A (pyNext (.ref z)) Q E s := by
  rcases hz with ⟨hz, x, y, hTO⟩ | ⟨T, f, o, hz, hbT, hT⟩
  · exact wpAny_pyNext_zipD2_item S D1 D2 hz hTI hTO st1 st2 hlt1 hlt2 fun x1 x2 h' tk y1 y2 b1 b2 d1 d2 b5 b6 b7 => hQ x1 x2 h' tk y1 y2 (.inr ⟨_, false, _, b1, hs, b5⟩) d1 d2 b5 b6 b7
  · exact pyNext_zipH_item S D1 D2 hz hT hTI st1 st2 hlt1 hlt2 fun x1 x2 h' tk y1 y2 b1 d1 d2 b5 b6 b7 =>
      hQ x1 x2 h' tk y1 y2 (.inr ⟨T, true, o, b1, hbT, b7 T o (apart hb.1 hbT) (apart hb.2.2.1 hbT) (apart hb.2.2.2 hbT) hT⟩) d1 d2 b5 b6 fun c o cz _ c1 c2 e => b7 c o cz c1 c2 e
theorem zs_end {b0 : Addr} {Q : Option Value → Shared → Prop} (S : ZipSep2 z TI TO i1 i2 fp1 fp2) (D1 : Draws prog w A.in1 i1 fp1 n1 P1 St1) (D2 : Draws prog w A.in1 i2 fp2 n2 P2 St2)
    (hz : Zs z TI TO b0 s.heap) (hTI : IsTupOf2 s.heap TI (.ref i1) (.ref i2)) (st1 : St1 i s.heap) (st2 : St2 i s.heap) (hle1 : i ≤ n1) (hle2 : i ≤ n2) (hend : i = n1 ∨ i = n2)
    (hQ : ∀ h' tk, (∀ c o, c ≠ z → c ≠ TO → c ≠ i1 → c ≠ i2 → s.heap.get? c = some o → h'.get? c = some o) → Q none { s with heap := h', toks := tk }) : wpAny (model prog w) A (pyNext (.ref z)) Q E s := by
  rcases hz with ⟨hz, x, y, hTO⟩ | ⟨T, f, o, hz, hbT, hT⟩
  · exact wpAny_pyNext_zipD2_end S D1 D2 hz hTI hTO st1 st2 hle1 hle2 hend hQ
  · exact pyNext_zipH_end S D1 D2 hz hT hTI st1 st2 hle1 hle2 hend fun h' tk k => hQ h' tk fun c o cz _ c1 c2 e => k c o cz c1 c2 e
def AccZ (b0 : Addr) (P1 P2 : Nat → Value → Prop) (h : Heap) (acc : Array Value) (i : Nat) : Prop :=
  ∃ Ts : List Addr, Ts.length = i ∧ acc = (Ts.map Value.ref).toArray ∧ Ts.Pairwise (· < ·) ∧ ∀ (j : Nat) (T : Addr), Ts[j]? = some T → b0 ≤ T ∧ ∃ x y, IsTupOf2 h T x y ∧ P1 j x ∧ P2 j y
theorem AccZ.size {b0 : Addr} {h : Heap} {acc : Array Value} (a : AccZ b0 P1 P2 h acc i) : acc.size = i := by
  obtain ⟨Ts, e1, e2, _⟩ := a
  rw [e2, List.size_toArray, List.length_map, e1]
theorem AccZ.keep {b0 : Addr} {h h' : Heap} {acc : Array Value} (a : AccZ b0 P1 P2 h acc i) (k : ∀ c o, b0 ≤ c → h.get? c = some o → h'.get? c = some o) : AccZ b0 P1 P2 h' acc i :=
  let ⟨Ts, e1, e2, e3, e4⟩ := a
  ⟨Ts, e1, e2, e3, fun j T e => let ⟨b, x, y, t, p, q⟩ := e4 j T e; ⟨b, x, y, k _ _ b t, p, q⟩⟩
theorem AccZ.push {b0 : Addr} {h : Heap} {acc : Array Value} {x y : Value} {T : Addr} (a : AccZ b0 P1 P2 h acc i) (hT : b0 ≤ T) (ht : IsTupOf2 h T x y) (hx : P1 i x) (hy : P2 i y) (hlt : ∀ (c : Addr) (o : Obj), acc.toList.contains (.ref c) = true → c < T) : AccZ b0 P1 P2 h (acc.push (.ref T)) (i + 1) := by
  obtain ⟨Ts, e1, e2, e3, e4⟩ := a
  refine ⟨Ts ++ [T], by rw [List.length_append, e1]; rfl, by rw [e2]; simp, ?_, fun j U hj => ?_⟩
  · rw [List.pairwise_append]
    refine ⟨e3, List.pairwise_singleton _ _, fun c hc d hd => ?_⟩
    rw [List.mem_singleton.mp hd]
    refine hlt c { cls := .none, data := .seq #[] } ?_
    rw [e2]
    simp [List.contains_iff_mem, hc]
  · by_cases l : j < Ts.length
    · rw [List.getElem?_append_left l] at hj
      exact e4 j U hj
    · rw [List.getElem?_append_right (by omega)] at hj
      have hj0 : j - Ts.length = 0 := by
        have := (List.getElem?_eq_some_iff.mp hj).1
        simp at this
        omega
      rw [hj0] at hj
      cases hj
      have : j = i := by omega
      subst this
      exact ⟨hT, x, y, ht, hx, hy⟩
theorem AccZ.lt {b0 : Addr} {h : Heap} {acc : Array Value} (a : AccZ b0 P1 P2 h acc i) {c : Addr} (hc : acc.toList.contains (.ref c) = true) : c < h.objs.size := by
  obtain ⟨Ts, e1, e2, e3, e4⟩ := a
  rw [e2] at hc
  have hm : c ∈ Ts := by simpa [List.contains_iff_mem] using hc
  obtain ⟨j, hj⟩ := List.getElem?_of_mem hm
  obtain ⟨_, x, y, t, _⟩ := e4 j c hj
  exact Heap.lt_size t
theorem loop_zip {R : Result → Shared → Prop} {b0 : Addr} (Z : ZipSep2 z TI TO i1 i2 fp1 fp2) (D1 : Draws prog w A.in1.in1 i1 fp1 n1 P1 St1) (D2 : Draws prog w A.in1.in1 i2 fp2 n2 P2 St2) (S : Addr) (hb : z < b0 ∧ TO < b0 ∧ i1 < b0 ∧ i2 < b0 ∧ S < b0)
    (hS : S ≠ z ∧ S ≠ TI ∧ S ≠ TO ∧ S ≠ i1 ∧ S ≠ i2 ∧ S ∉ fp1 ∧ S ∉ fp2) (hT : TI ≠ z ∧ TI ≠ TO ∧ TI ≠ i1 ∧ TI ≠ i2) (hn : n1 ≤ sizeLine) (res : Value) :
    ∀ (k i : Nat) (s : Shared) (acc : Array Value) (c : Nat), min n1 n2 - i = k → i ≤ n1 → i ≤ n2 → b0 ≤ s.heap.objs.size → Zs z TI TO b0 s.heap → IsTupOf2 s.heap TI (.ref i1) (.ref i2) → St1 i s.heap → St2 i s.heap →
      s.heap.get? S = some { cls := .type "list", dict := none, data := .seq acc c, slots := #[] } → AccZ b0 P1 P2 s.heap acc i →
      (∀ h' tk acc' c', (∀ c o, c ≠ z → c ≠ TO → c ≠ i1 → c ≠ i2 → c ≠ S → s.heap.get? c = some o → h'.get? c = some o) → h'.get? S = some { cls := .type "list", dict := none, data := .seq acc' c', slots := #[] } → AccZ b0 P1 P2 h' acc' (min n1 n2) → R (.ok (.ret res)) { s with heap := h', toks := tk }) →
      codeAny (model prog w) A (.builtin "list.extend.loop" ⟨[.ref S, .ref z, res], []⟩) R s := by
  intro k
  induction k with
  | zero =>
    intro i s acc c hk h1 h2 hs hz hTI st1 st2 hL hacc hR
    have hend : i = n1 ∨ i = n2 := by omega
    have hin : i = min n1 n2 := by omega
    refine codeAny_builtin F.entry_extend_loop ?_
    rw [Around.under_plainId F.plain_extend_loop _]
    show wpAny _ A.in1 (pyNext (.ref z) >>= _) _ _ s
    refine wpAny_bind (zs_end Z D1 D2 hz hTI st1 st2 h1 h2 hend fun h' tk k => ?_)
    refine wpAny_pure (hR h' tk acc c (fun c o c1 c2 c3 c4 _ e => k c o c1 c2 c3 c4 e) (k S _ hS.1 hS.2.2.1 hS.2.2.2.1 hS.2.2.2.2.1 hL) ?_)
    rw [← hin]
    exact hacc.keep fun c o hc e => k c o (apart hb.1 hc) (apart hb.2.1 hc) (apart hb.2.2.1 hc) (apart hb.2.2.2.1 hc) e
  | succ k ih =>
    intro i s acc c hk h1 h2 hs hz hTI st1 st2 hL hacc hR
    have hlt1 : i < n1 := by omega
    have hlt2 : i < n2 := by omega
    refine codeAny_builtin F.entry_extend_loop ?_
    rw [Around.under_plainId F.plain_extend_loop _]
    show wpAny _ A.in1 (pyNext (.ref z) >>= _) _ _ s
    refine wpAny_bind (zs_item Z D1 D2 ⟨hb.1, hb.2.1, hb.2.2.1, hb.2.2.2.1⟩ hs hz hTI st1 st2 hlt1 hlt2 fun x1 x2 h' tk y1 y2 z' d1 d2 t' hsz kp => ?_)
    have hL' := kp S _ hS.1 hS.2.2.1 hS.2.2.2.1 hS.2.2.2.2.1 hL
    show wpAny _ A.in1 (updateSeq S (·.push (.ref s.heap.objs.size)) >>= _) _ _ _
    refine wpAny_bind ?_
    have oth : ∀ b o, b ≠ S → h'.get? b = some o → (h'.update S (Obj.mapSeq (·.push (.ref s.heap.objs.size)))).get? b = some o := fun b o hb e => (Heap.get?_update_other _ _ (Ne.symm hb)).trans e
    have hacc' : AccZ b0 P1 P2 h' acc i := hacc.keep fun c o hc e => kp c o (apart hb.1 hc) (apart hb.2.1 hc) (apart hb.2.2.1 hc) (apart hb.2.2.2.1 hc) e
    refine wpAny_updateSeq (s := { s with heap := h', toks := tk }) hL' rfl (wpAny_pure ⟨plainId_quiet F.plain_extend_loop _, ih (i + 1) _ (acc.push (.ref s.heap.objs.size)) _ (by omega) hlt1 hlt2 ?_ (z'.keep fun c o hc e => oth c o (by
      rcases hc with q | q | q
      · rw [q]; exact hS.1.symm
      · rw [q]; exact hS.2.2.1.symm
      · exact apart hb.2.2.2.2 q) e) (oth _ _ hS.2.1.symm (kp _ _ hT.1 hT.2.1 hT.2.2.1 hT.2.2.2 hTI)) (D1.frame _ _ _ d1 fun b hb o e => oth b o (fun q => hS.2.2.2.2.2.1 (q ▸ hb)) e) (D2.frame _ _ _ d2 fun b hb o e => oth b o (fun q => hS.2.2.2.2.2.2 (q ▸ hb)) e) (Heap.get?_update_self _ hL' rfl) ((hacc'.push hs t' y1 y2 fun c _ hc => hacc.lt hc).keep fun c o hc e => oth c o (apart hb.2.2.2.2 hc) e) fun h'' tk' acc' c' kp' hL'' ha'' => ?_⟩)
      (by rw [hacc.size]; omega) (by show (acc.push _).size ≤ sizeLine + 1; rw [Array.size_push, hacc.size]; omega)
    · show b0 ≤ (h'.update S _).objs.size
      rw [Heap.size_update, hsz]
      exact Nat.le_trans hs (Nat.le_succ _)
    · exact hR h'' tk' acc' c' (fun c o c1 c2 c3 c4 c5 e => kp' c o c1 c2 c3 c4 c5 (oth c o c5 (kp c o c1 c2 c3 c4 e))) hL'' ha''

theorem zip_no_len : typeLookup (.type "zip") "__len__" = pure none := by rw [typeLookup_type, builtinLookup_eq_fast]; kernel_rfl
theorem zip_no_hint : typeLookup (.type "zip") "__length_hint__" = pure none := by rw [typeLookup_type, builtinLookup_eq_fast]; kernel_rfl
theorem Zs.type {b0 : Addr} {h : Heap} (hz : Zs z TI TO b0 h) : ∃ o, h.get? z = some o ∧ o.cls = .type "zip" := by
  rcases hz with ⟨a, _⟩ | ⟨T, f, o, a, _⟩
  · exact ⟨_, a, rfl⟩
  · exact ⟨_, a, rfl⟩
theorem extend_zip {R : Result → Shared → Prop} {b0 : Addr} (Z : ZipSep2 z TI TO i1 i2 fp1 fp2) (D1 : Draws prog w A.in1.in1 i1 fp1 n1 P1 St1) (D2 : Draws prog w A.in1.in1 i2 fp2 n2 P2 St2) (S : Addr) (hb : z < b0 ∧ TO < b0 ∧ i1 < b0 ∧ i2 < b0 ∧ S < b0)
    (hS : S ≠ z ∧ S ≠ TI ∧ S ≠ TO ∧ S ≠ i1 ∧ S ≠ i2 ∧ S ∉ fp1 ∧ S ∉ fp2) (hT : TI ≠ z ∧ TI ≠ TO ∧ TI ≠ i1 ∧ TI ≠ i2) (hn : n1 ≤ sizeLine) (res : Value) (c₀ : Nat)
    (hs : b0 ≤ s.heap.objs.size) (hz : IsZip s.heap z TI TO .none) (hTO : IsTupOf2 s.heap TO a1 a2) (hTI : IsTupOf2 s.heap TI (.ref i1) (.ref i2)) (st1 : St1 0 s.heap) (st2 : St2 0 s.heap)
    (hL : s.heap.get? S = some { cls := .type "list", data := .seq #[] c₀ })
    (hR : ∀ h' tk acc' c', (∀ c o, c ≠ z → c ≠ TO → c ≠ i1 → c ≠ i2 → c ≠ S → s.heap.get? c = some o → h'.get? c = some o) → h'.get? S = some { cls := .type "list", dict := none, data := .seq acc' c', slots := #[] } → AccZ b0 P1 P2 h' acc' (min n1 n2) → R (.ok (.ret res)) { s with heap := h', toks := tk }) :
    wpAny (model prog w) A.in1 (Builtin.List.listExtendWith (.ref S) (.ref z) res)
      (fun fin s' => match fin with | .done f => R (.ok f) s' | .again c' => c'.quiet = true ∧ codeAny (model prog w) A c' R s') (fun e s' => R (.error e) s') s := by
  have hTy : s.TypeIs (.ref z) "zip" := ⟨_, hz, rfl⟩
  unfold Builtin.List.listExtendWith
  refine wpAny_bind (wpAny_typeOf hTy ?_)
  have h1 : Builtin.List.listSameRef (.ref S) (.ref z) = false := by simp [Builtin.List.listSameRef, hS.1]
  have h2 : (Value.type "zip" == Value.type "list") = false := by decide
  have h3 : (Value.type "zip" == Value.type "tuple") = false := by decide
  simp only [h1, h2, h3, Bool.or_false, Bool.false_eq_true, if_false]
  refine wpAny_bind (wpAny_pyIter_zip hz ?_)
  refine wpAny_bind (wpAny_holding ?_)
  unfold Builtin.List.listLengthHint
  refine wpAny_bind (wpAny_specialOf hTy zip_no_len ?_)
  show wpAny _ A.in1 (specialOf (Value.ref z) (Str.ofString "__length_hint__") >>= _) _ _ _
  refine wpAny_bind (wpAny_specialOf hTy zip_no_hint ?_)
  refine wpAny_pure ?_
  show wpAny _ A.in1 (rule "list.extend.makes-room" >>= fun _ => Builtin.List.listTouch (.ref S) >>= fun _ =>
    again (.builtin "list.extend.loop" ⟨[.ref S, .ref z, res], []⟩)) _ _ _
  refine wpAny_bind (wpAny_rule ?_)
  refine wpAny_bind ?_
  show wpAny _ A.in1 (updateSeq S (·.push .none) >>= fun _ => updateSeq S (·.pop)) _ _ _
  refine wpAny_bind (wpAny_updateSeq hL rfl ?_)
  have hS₂ := Heap.get?_update_self (Obj.mapSeq (·.push Value.none)) hL rfl
  refine wpAny_updateSeq (hz := by seq_fits) hS₂ rfl ?_
  have hS₃ := Heap.get?_update_self (Obj.mapSeq (·.pop)) hS₂ rfl
  have oth : ∀ b o, b ≠ S → s.heap.get? b = some o → ((s.heap.update S (Obj.mapSeq (·.push Value.none))).update S (Obj.mapSeq (·.pop))).get? b = some o :=
    fun b o hb e => (Heap.get?_update_other _ _ (Ne.symm hb)).trans ((Heap.get?_update_other _ _ (Ne.symm hb)).trans e)
  refine wpAny_pure ⟨plainId_quiet F.plain_extend_loop _, loop_zip Z D1 D2 S hb hS hT hn _ (min n1 n2) 0 _ _ _ rfl (Nat.zero_le _) (Nat.zero_le _) ?_ (.inl ⟨oth _ _ hS.1.symm hz, a1, a2, oth _ _ hS.2.2.1.symm hTO⟩) (oth _ _ hS.2.1.symm hTI)
    (D1.frame _ _ _ st1 fun b hb o e => oth b o (fun q => hS.2.2.2.2.2.1 (q ▸ hb)) e) (D2.frame _ _ _ st2 fun b hb o e => oth b o (fun q => hS.2.2.2.2.2.2 (q ▸ hb)) e) hS₃ ⟨[], rfl, rfl, .nil, fun j T e => by simp at e⟩ fun h' tk acc' c' kp hL' ha => ?_⟩
  · show b0 ≤ ((s.heap.update S _).update S _).objs.size
    rw [Heap.size_update, Heap.size_update]
    exact hs
  · exact hR h' tk acc' c' (fun c o c1 c2 c3 c4 c5 e => kp c o c1 c2 c3 c4 c5 (oth c o c5 e)) hL' ha
end
end DL
namespace DL
open L2 PySem PySem.Spec PyProof.Rows
section
variable {prog : Program} {w : World} {A : Around} {E : Value → Shared → Prop} {s : Shared} {z TI TO T i1 i2 : Addr} {fp1 fp2 : List Addr} {n1 n2 i : Nat} {P1 P2 : Nat → Value → Prop} {St1 St2 : Nat → Heap → Prop} {a1 a2 : Value}
theorem init_zip {R : Result → Shared → Prop} {b0 : Addr} (Z : ZipSep2 z TI TO i1 i2 fp1 fp2) (D1 : Draws prog w A.in1.in1 i1 fp1 n1 P1 St1) (D2 : Draws prog w A.in1.in1 i2 fp2 n2 P2 St2) (S : Addr) (hb : z < b0 ∧ TO < b0 ∧ i1 < b0 ∧ i2 < b0 ∧ S < b0)
    (hS : S ≠ z ∧ S ≠ TI ∧ S ≠ TO ∧ S ≠ i1 ∧ S ≠ i2 ∧ S ∉ fp1 ∧ S ∉ fp2) (hT : TI ≠ z ∧ TI ≠ TO ∧ TI ≠ i1 ∧ TI ≠ i2) (hn : n1 ≤ sizeLine)
    (hs : b0 ≤ s.heap.objs.size) (hz : IsZip s.heap z TI TO .none) (hTO : IsTupOf2 s.heap TO a1 a2) (hTI : IsTupOf2 s.heap TI (.ref i1) (.ref i2)) (st1 : St1 0 s.heap) (st2 : St2 0 s.heap)
    (hL : s.heap.get? S = some { cls := .type "list", data := .seq #[] })
    (hR : ∀ h' tk acc' c', (∀ c o, c ≠ z → c ≠ TO → c ≠ i1 → c ≠ i2 → c ≠ S → s.heap.get? c = some o → h'.get? c = some o) → h'.get? S = some { cls := .type "list", dict := none, data := .seq acc' c', slots := #[] } → AccZ b0 P1 P2 h' acc' (min n1 n2) → R (.ok (.ret .none)) { s with heap := h', toks := tk }) :
    wpAny (model prog w) A.in1 (Builtin.«list.__init__» ⟨[.ref S, .ref z], []⟩)
      (fun fin s' => match fin with | .done f => R (.ok f) s' | .again c' => c'.quiet = true ∧ codeAny (model prog w) A c' R s') (fun e s' => R (.error e) s') s := by
  show wpAny _ A.in1 (do let old ← Builtin.List.listItems (.ref S); Builtin.List.listUpdate (.ref S) (fun _ => #[]); letGo old.toList.reverse; Builtin.List.listExtendWith (.ref S) (.ref z) .none) _ _ s
  refine wpAny_bind ?_
  unfold Builtin.List.listItems
  refine wpAny_bind (wpAny_seqItems hL rfl (wpAny_pure ?_))
  show wpAny _ A.in1 (updateSeq S (fun _ => #[]) >>= fun _ => letGo (#[] : Array Value).toList.reverse >>= fun _ => Builtin.List.listExtendWith (.ref S) (.ref z) .none) _ _ s
  refine wpAny_bind (wpAny_updateSeq hL rfl ?_)
  have hS₂ := Heap.get?_update_self (Obj.mapSeq (fun _ => (#[] : Array Value))) hL rfl
  have oth : ∀ b o, b ≠ S → s.heap.get? b = some o → (s.heap.update S (Obj.mapSeq (fun _ => (#[] : Array Value)))).get? b = some o :=
    fun b o hb e => (Heap.get?_update_other _ _ (Ne.symm hb)).trans e
  refine wpAny_bind (wpAny_letGo ?_)
  refine extend_zip Z D1 D2 S hb hS hT hn .none _ ?_ (oth _ _ hS.1.symm hz) (oth _ _ hS.2.2.1.symm hTO) (oth _ _ hS.2.1.symm hTI) (D1.frame _ _ _ st1 fun b hb o e => oth b o (fun q => hS.2.2.2.2.2.1 (q ▸ hb)) e) (D2.frame _ _ _ st2 fun b hb o e => oth b o (fun q => hS.2.2.2.2.2.2 (q ▸ hb)) e) hS₂ fun h' tk acc' c' kp hL' ha => ?_
  · show b0 ≤ (s.heap.update S _).objs.size
    rw [Heap.size_update]
    exact hs
  · exact hR h' tk acc' c' (fun c o c1 c2 c3 c4 c5 e => kp c o c1 c2 c3 c4 c5 (oth c o c5 e)) hL' ha
theorem call_list_zip {Q : Value → Shared → Prop} (Z : ZipSep2 z TI TO i1 i2 fp1 fp2) (D1 : Draws prog w A.in1.in1.in1 i1 fp1 n1 P1 St1) (D2 : Draws prog w A.in1.in1.in1 i2 fp2 n2 P2 St2)
    (hf : (∀ b ∈ fp1, b < s.heap.objs.size) ∧ ∀ b ∈ fp2, b < s.heap.objs.size) (hT : TI ≠ z ∧ TI ≠ TO ∧ TI ≠ i1 ∧ TI ≠ i2) (hn : n1 ≤ sizeLine)
    (hz : IsZip s.heap z TI TO .none) (hTO : IsTupOf2 s.heap TO a1 a2) (hTI : IsTupOf2 s.heap TI (.ref i1) (.ref i2)) (st1 : St1 0 s.heap) (st2 : St2 0 s.heap)
    (hQ : ∀ h' tk acc' c', (∀ c o, c ≠ z → c ≠ TO → c ≠ i1 → c ≠ i2 → s.heap.get? c = some o → h'.get? c = some o) → h'.get? s.heap.objs.size = some { cls := .type "list", dict := none, data := .seq acc' c', slots := #[] } →
      AccZ (s.heap.objs.size + 1) P1 P2 h' acc' (min n1 n2) → Q (.ref s.heap.objs.size) { s with heap := h', toks := tk }) :
    wpAny (model prog w) A (call (.type "list") [.ref z]) Q E s := by
  have lz := Heap.lt_size hz
  have lTI := Heap.lt_size hTI
  have lTO := Heap.lt_size hTO
  have l1 := hf.1 _ Z.mem1
  have l2 := hf.2 _ Z.mem2
  refine callType_codes (Q₁ := fun obj s₁ => obj = .ref s.heap.objs.size ∧ s₁ = { s with heap := s.heap.push { cls := .type "list", data := .seq #[] } }) F.called_list (F.typeCall_list_1 _) F.entry_list_init
    (code_list_new _ ⟨rfl, rfl⟩) fun obj s₁ h₁ => ?_
  obtain ⟨rfl, rfl⟩ := h₁
  have hS : (s.heap.push { cls := .type "list", data := .seq #[] }).get? s.heap.objs.size = some { cls := .type "list", data := .seq #[] } := Heap.get?_push_size _ rfl
  have up : ∀ c o, s.heap.get? c = some o → (s.heap.push { cls := .type "list", data := .seq #[] }).get? c = some o := fun c o e => Heap.get?_push_of_some _ e
  refine ⟨⟨_, hS, rfl⟩, F.args_list_init_2 _ _, init_zip (A := A.in1) (b0 := s.heap.objs.size + 1) Z D1 D2 _ ⟨Nat.lt_succ_of_lt lz, Nat.lt_succ_of_lt lTO, Nat.lt_succ_of_lt l1, Nat.lt_succ_of_lt l2, Nat.lt_succ_self _⟩
    ⟨Nat.ne_of_gt lz, Nat.ne_of_gt lTI, Nat.ne_of_gt lTO, Nat.ne_of_gt l1, Nat.ne_of_gt l2, fun h => Nat.lt_irrefl _ (hf.1 _ h), fun h => Nat.lt_irrefl _ (hf.2 _ h)⟩ hT hn ?_ (up _ _ hz) (up _ _ hTO) (up _ _ hTI) (D1.frame _ _ _ st1 fun b _ o e => up b o e) (D2.frame _ _ _ st2 fun b _ o e => up b o e) hS fun h' tk acc' c' kp hS' hacc => ?_⟩
  · show _ ≤ (s.heap.push _).objs.size
    rw [Heap.size_push]
    exact Nat.le_refl _
  · exact ⟨rfl, hQ h' tk acc' c' (fun b o c1 c2 c3 c4 e => kp b o c1 c2 c3 c4 (Nat.ne_of_lt (Heap.lt_size e)) (up _ _ e)) hS' hacc⟩
end
end DL
namespace DL
open L2 PySem PySem.Spec PyProof.Rows
def layT (H : Hp) : List (Addr × V × V) → Hp
  | [] => H
  | p :: ps => layT (L2.upd H p.1 (.tup [p.2.1, p.2.2])) ps
section
variable {X : Cx} {pins : List (Addr × Obj)} {σ : L2.St} {s : Shared}
theorem lay_tups {h' : Heap} {S : Addr} : ∀ (ps : List (Addr × V × V)) (H : Hp) (G : Heap), Inv X pins σ H { s with heap := G } → (∀ b o, G.get? b = some o → h'.get? b = some o) → G.get? S = none → H S = none →
    ps.Pairwise (fun p q => p.1 ≠ q.1) → (∀ p ∈ ps, p.1 ≠ S ∧ G.get? p.1 = none ∧ H p.1 = none ∧ ∃ u u2, IsTupOf2 h' p.1 u u2 ∧ RelV p.2.1 u ∧ RelV p.2.2 u2) →
    ∃ G', Inv X pins σ (layT H ps) { s with heap := G' } ∧ (∀ b o, G'.get? b = some o → h'.get? b = some o) ∧ G'.get? S = none ∧ (layT H ps) S = none
  | [], H, G, I, k, hS, hHS, _, _ => ⟨G, I, k, hS, hHS⟩
  | p :: ps, H, G, I, k, hS, hHS, hp, ha => by
    obtain ⟨pS, pG, pH, u, u2, ht, ru, ru2⟩ := ha p List.mem_cons_self
    obtain ⟨G1, g1, g2⟩ := restrict h' fun b => decide (b = p.1) || (G.get? b).isSome
    have k1 : ∀ b o, G.get? b = some o → G1.get? b = some o := fun b o e => by
      rw [g1 b (by rw [e]; simp)]
      exact k b o e
    have t1 : IsTupOf2 G1 p.1 u u2 := by
      show G1.get? p.1 = _
      rw [g1 p.1 (by simp)]
      exact ht
    have new : ObjOk X.prog X.w (L2.upd H p.1 (.tup [p.2.1, p.2.2])) G1 p.1 (.tup [p.2.1, p.2.2]) := ⟨by show 2 ≤ sizeLine; decide, [u, u2], .cons ru (.cons ru2 .nil), ⟨_, t1, rfl, _, rfl⟩⟩
    have I1 : Inv X pins σ (L2.upd H p.1 (.tup [p.2.1, p.2.2])) { s with heap := G1 } := Inv.laidN (s := { s with heap := G }) (t' := s.toks) I k1 pG pH new
    rw [List.pairwise_cons] at hp
    refine lay_tups ps _ G1 I1 (fun b o e => ?_) ?_ ?_ hp.2 (fun q hq => ?_)
    · by_cases c : (decide (b = p.1) || (G.get? b).isSome) = true
      · rw [← g1 b c]; exact e
      · rw [g2 b (by simpa using c)] at e
        cases e
    · exact g2 S (by rw [hS]; simp [pS.symm])
    · rw [upd_ne pS.symm]; exact hHS
    · obtain ⟨qS, qG, qH, r⟩ := ha q (List.mem_cons_of_mem _ hq)
      have ne := hp.1 q hq
      exact ⟨qS, g2 q.1 (by rw [qG]; simp [ne.symm]), by rw [upd_ne ne.symm]; exact qH, r⟩

theorem apl {r : Sr} {n : Nat} {it : Addr} (h : ∀ b : Addr, n ≤ b → r.ap b) : ∀ c ∈ r.fp it, c = it ∨ c < n := by
  intro c hc
  cases r with
  | l a =>
    rcases List.mem_cons.mp hc with e | e
    · exact .inl e
    · rw [List.mem_singleton.mp e]
      exact .inr (Nat.lt_of_not_le fun z => h a z rfl)
  | t a =>
    rcases List.mem_cons.mp hc with e | e
    · exact .inl e
    · rw [List.mem_singleton.mp e]
      exact .inr (Nat.lt_of_not_le fun z => h a z rfl)
  | s x => exact .inl (List.mem_singleton.mp hc)
def tListZ (K : PySem.W.Frag) (ta : TA) : TE := fun σ H Q => ta σ H fun vs H1 => ∃ a b xs ys, vs = [Sr.v a, Sr.v b] ∧ a.has K xs H1 ∧ b.has K ys H1 ∧ xs.length ≤ sizeLine ∧
  ∀ (ps : List (Addr × V × V)) (l : Addr), ps.map (·.2) = xs.zip ys → ps.Pairwise (fun p q => p.1 ≠ q.1) → (∀ p ∈ ps, p.1 ≠ l ∧ H1 p.1 = none) → H1 l = none → Q (.ref l) (L2.upd (layT H1 ps) l (.lst (ps.map fun p => .ref p.1)))
def ZP (X : Cx) (pins : List (Addr × Obj)) (σ : L2.St) (R : Sr → Sr → List V → List V → Hp → Prop) (x : Value) (s2 : Shared) : Prop :=
  ∃ (s1 : Shared) (H1 : Hp) (a b : Sr) (xs ys : List V) (h1 : Heap), x = .ref (s1.heap.objs.size + 4) ∧ s2 = { s1 with heap := h1 } ∧ Inv X pins σ H1 s1 ∧ a.has X.K xs H1 ∧ b.has X.K ys H1 ∧
    IsZip h1 (s1.heap.objs.size + 4) (s1.heap.objs.size + 2) (s1.heap.objs.size + 3) .none ∧ IsPair h1 (s1.heap.objs.size + 2) (.ref s1.heap.objs.size) (.ref (s1.heap.objs.size + 1)) ∧ IsPair h1 (s1.heap.objs.size + 3) .none .none ∧
    a.st s1.heap.objs.size 0 h1 ∧ b.st (s1.heap.objs.size + 1) 0 h1 ∧ (∀ c, s1.heap.objs.size ≤ c → a.ap c) ∧ (∀ c, s1.heap.objs.size ≤ c → b.ap c) ∧ h1.objs.size = s1.heap.objs.size + 5 ∧ (∀ c o, s1.heap.get? c = some o → h1.get? c = some o) ∧ R a b xs ys H1
end
section
variable {X : Cx} {e e2 : Expr} {ta : TA} {p p2 p3 pos : Pos}
theorem zip_made (hg : Gl X "zip") (hm : X.mg "zip" = none) (ha : PA X [e, e2] ta) (hs : starEach [e, e2] X.env = (false, eval e X.env) :: starEach [e2] X.env := by rfl) (hpl : (backTo p3 (starEach [e2] X.env)).any (·.1) = false := by rfl)
    {pins : List (Addr × Obj)} {s : Shared} {σ : L2.St} {H : Hp} {R : Sr → Sr → List V → List V → Hp → Prop} (I : Inv X pins σ H s) (h : ta σ H fun vs H1 => ∃ a b xs ys, vs = [Sr.v a, Sr.v b] ∧ a.has X.K xs H1 ∧ b.has X.K ys H1 ∧ R a b xs ys H1) :
    wpAny (model X.prog X.w) X.A (eval (.Call (.Name "zip" p2) [e, e2] [] p3) X.env) (ZP X pins σ R) X.xe s := by
  refine Call_ (ld_blt I hg hm PyProof.Rows.boot_zip (PyProof.Rows.callWith_type1 (thn (ha.run p3 pins s σ H _ I h) fun us s1 ⟨vs, H1, I1, r1, q1⟩ => ?_) hs hpl))
  obtain ⟨a, b, xs, ys, ex, hqx, hqy, q⟩ := q1
  subst ex
  cases r1 with
  | cons r rr =>
    cases rr with
    | cons r' rr =>
      cases rr
      obtain ⟨o1, fr1, it1, st1, ap1⟩ := Sr.iter I1 a hqx r
      obtain ⟨o2, fr2, it2, st2, ap2⟩ := Sr.iter I1 b hqy r'
      exact call_zipS it1 it2 fr1 fr2 fun h' hz hTI hTO h1 h2 hsz hk => ⟨s1, H1, a, b, xs, ys, h', rfl, rfl, I1, hqx, hqy, hz, hTI, hTO, st1 _ _ h1, st2 _ _ h2, ap1, ap2, hsz, hk, q⟩
end
end DL
namespace DL
open L2 PySem PySem.Spec PyProof.Rows
theorem adj {n i j : Nat} (h : i ≠ j) : n + i ≠ n + j := by omega
theorem zap {n : Nat} {a b : Sr} (ap1 : ∀ c : Addr, n ≤ c → a.ap c) (ap2 : ∀ c : Addr, n ≤ c → b.ap c) : ZAp (n + 4) (n + 2) (n + 3) n (n + 1) a b :=
  have h0 : ∀ j : Nat, 0 ≠ j → n ≠ n + j := fun j h => by omega
  { TIz := adj (by decide), TOz := adj (by decide), i1z := h0 4 (by decide), i2z := adj (by decide), TITO := adj (by decide), TIi1 := (h0 2 (by decide)).symm, TIi2 := adj (by decide), TOi1 := (h0 3 (by decide)).symm, TOi2 := adj (by decide), i12 := h0 1 (by decide)
    az := ap1 _ (Nat.le_add_right _ _), aTO := ap1 _ (Nat.le_add_right _ _), ai1 := ap1 _ (Nat.le_refl _), ai2 := ap1 _ (Nat.le_add_right _ _), bz := ap2 _ (Nat.le_add_right _ _), bTO := ap2 _ (Nat.le_add_right _ _), bi1 := ap2 _ (Nat.le_refl _), bi2 := ap2 _ (Nat.le_add_right _ _) }
section
variable {X : Cx} {e e2 : Expr} {ta : TA} {p p2 p3 pos : Pos}
theorem pe_listZip (hc : X.calm = true) (hg : Gl X "list") (hm : X.mg "list" = none) (hg2 : Gl X "zip") (hm2 : X.mg "zip" = none) (ha : PA X [e, e2] ta) (hs : starEach [e, e2] X.env = (false, eval e X.env) :: starEach [e2] X.env := by rfl) (hpl : (backTo p3 (starEach [e2] X.env)).any (·.1) = false := by rfl)
    (na : starEach [.Call (.Name "zip" p2) [e, e2] [] p3] X.env = (false, eval (.Call (.Name "zip" p2) [e, e2] [] p3) X.env) :: starEach [] X.env := by rfl) :
    PE X (.Call (.Name "list" p) [.Call (.Name "zip" p2) [e, e2] [] p3] [] pos) (tListZ X.K ta) := by
  refine ⟨fun pins s σ H Q I h => ?_⟩
  refine Call_ (ld_blt I hg hm boot_list (PyProof.Rows.callWith_type1 (args_cons (thn (zip_made (p2 := p2) (p3 := p3) hg2 hm2 ha hs hpl (R := fun a b xs ys H1 => xs.length ≤ sizeLine ∧
    ∀ (ps : List (Addr × V × V)) (l : Addr), ps.map (·.2) = xs.zip ys → ps.Pairwise (fun p q : Addr × V × V => p.1 ≠ q.1) → (∀ p ∈ ps, p.1 ≠ l ∧ H1 p.1 = none) → H1 l = none → Q (.ref l) (L2.upd (layT H1 ps) l (.lst (ps.map fun p : Addr × V × V => .ref p.1)))) I h) fun x s2 zp => args_nil ?_) na) na))
  obtain ⟨s1, H1, a, b, xs, ys, h1, rfl, rfl, I1, hqx, hqy, hz, hTI, hTO, sa, sb, ap1, ap2, hsz, hk, hlen, q⟩ := zp
  have I2 : Inv X pins σ H1 { s1 with heap := h1 } := I1.kept (t' := s1.toks) hk
  have D := zap (a := a) (b := b) ap1 ap2
  have hh : X.A.in1.in1.in1.handled = none := I1.ok.hd hc
  obtain ⟨P1, St1, D1, t1, p1, f1⟩ := Sr.draws (A := X.A.in1.in1.in1) hh I2 a s1.heap.objs.size D.ai1 hqx sa
  obtain ⟨P2, St2, D2, t2, p2, f2⟩ := Sr.draws (A := X.A.in1.in1.in1) hh I2 b (s1.heap.objs.size + 1) D.bi2 hqy sb
  have fl : ∀ c : Nat, c ≤ s1.heap.objs.size + 4 → c < h1.objs.size := fun c h => by omega
  refine call_list_zip (A := X.A) (s := { s1 with heap := h1 }) D.sep D1 D2 ⟨fun c hc => ?_, fun c hc => ?_⟩ ⟨D.TIz, D.TITO, D.TIi1, D.TIi2⟩ hlen hz hTO hTI t1 t2 fun h' tk acc' c' kp hL ⟨Ts, e1, e2, e3, e4⟩ => ?_
  · rcases apl ap1 c hc with e | e
    · rw [e]; exact fl _ (Nat.le_add_right _ _)
    · exact fl _ (Nat.le_trans (Nat.le_of_lt e) (Nat.le_add_right _ _))
  · rcases apl ap2 c hc with e | e
    · rw [e]; exact fl _ (Nat.add_le_add_left (by decide) _)
    · exact fl _ (Nat.le_trans (Nat.le_of_lt e) (Nat.le_add_right _ _))
  have hL' : h'.get? h1.objs.size = some { cls := .type "list", dict := none, data := .seq acc' c', slots := #[] } := hL
  have kp' : ∀ c o, s1.heap.get? c = some o → h'.get? c = some o := fun c o ec => by
    have lt := Heap.lt_size ec
    exact kp c o (fun z => by rw [z] at lt; exact Nat.not_lt.mpr (Nat.le_add_right _ 4) lt) (fun z => by rw [z] at lt; exact Nat.not_lt.mpr (Nat.le_add_right _ 3) lt) (fun z => by rw [z] at lt; exact Nat.lt_irrefl _ lt) (fun z => by rw [z] at lt; exact Nat.not_lt.mpr (Nat.le_add_right _ 1) lt) (hk c o ec)
  have zl : (xs.zip ys).length = Ts.length := by rw [List.length_zip, e1]
  obtain ⟨ps, hps⟩ : ∃ ps, ps = Ts.zip (xs.zip ys) := ⟨_, rfl⟩
  have m1 : ps.map (·.1) = Ts := by rw [hps]; exact List.map_fst_zip (by omega)
  have m2 : ps.map (·.2) = xs.zip ys := by rw [hps]; exact List.map_snd_zip (by omega)
  have hge : ∀ T ∈ Ts, h1.objs.size + 1 ≤ T := fun T hT => by
    obtain ⟨j, hj⟩ := List.getElem?_of_mem hT
    exact (e4 j T hj).1
  obtain ⟨G0, g1, g2⟩ := restrict h' fun c => decide (c < h1.objs.size)
  have k0 : ∀ c o, s1.heap.get? c = some o → G0.get? c = some o := fun c o ec => by
    rw [g1 c (decide_eq_true (Heap.lt_size (hk c o ec)))]
    exact kp' c o ec
  have I3 : Inv X pins σ H1 { s1 with heap := G0, toks := tk } := I1.kept (t' := tk) k0
  have fresh : ∀ c : Nat, h1.objs.size ≤ c → H1 c = none := fun c hc => I2.hok.fresh hc
  have ha2 : ∀ p ∈ ps, p.1 ≠ h1.objs.size ∧ G0.get? p.1 = none ∧ H1 p.1 = none ∧ ∃ u u2, IsTupOf2 h' p.1 u u2 ∧ RelV p.2.1 u ∧ RelV p.2.2 u2 := fun p hp => by
    have hT : p.1 ∈ Ts := by rw [← m1]; exact List.mem_map_of_mem hp
    have hg := hge _ hT
    have hg' : h1.objs.size ≤ p.1 := Nat.le_trans (Nat.le_succ _) hg
    refine ⟨Nat.ne_of_gt hg, g2 _ (decide_eq_false (Nat.not_lt.mpr hg')), fresh _ hg', ?_⟩
    rw [hps] at hp
    obtain ⟨j, hj, ej⟩ := List.mem_iff_getElem.mp hp
    rw [List.length_zip] at hj
    rw [List.getElem_zip] at ej
    obtain ⟨_, u, u2, ht, q1, q2⟩ := e4 j (Ts[j]'(by omega)) (List.getElem?_eq_getElem _)
    obtain ⟨x, ex, rx⟩ := p1 _ _ q1
    obtain ⟨y, ey, ry⟩ := p2 _ _ q2
    have hjz : j < (xs.zip ys).length := by omega
    have ez : (xs.zip ys)[j] = (x, y) := by
      rw [List.getElem_zip]
      have a1 := (List.getElem?_eq_some_iff.mp ex).2
      have a2 := (List.getElem?_eq_some_iff.mp ey).2
      rw [a1, a2]
    rw [← ej]
    refine ⟨u, u2, ht, ?_, ?_⟩
    · show RelV ((xs.zip ys)[j]).1 u
      rw [ez]; exact rx
    · show RelV ((xs.zip ys)[j]).2 u2
      rw [ez]; exact ry
  have pw : ps.Pairwise fun p q => p.1 ≠ q.1 := by
    have : (ps.map (·.1)).Pairwise (· < ·) := by rw [m1]; exact e3
    rw [List.pairwise_map] at this
    exact this.imp fun h => Nat.ne_of_lt h
  obtain ⟨G', I4, k4, hS4, hH4⟩ := lay_tups (s := { s1 with toks := tk }) (h' := h') (S := h1.objs.size) ps H1 G0 I3 (fun c o ec => by
    by_cases cc : decide (c < h1.objs.size) = true
    · rw [← g1 c cc]; exact ec
    · rw [g2 c (by simpa using cc)] at ec; cases ec) (g2 _ (decide_eq_false (Nat.lt_irrefl _))) (fresh _ (Nat.le_refl _)) pw ha2
  have vals : Vals (ps.map fun p => V.ref p.1) acc'.toList := by
    rw [e2]
    have : (ps.map fun p => V.ref p.1) = Ts.map V.ref := by rw [← m1, List.map_map]; rfl
    rw [this]
    simp only [List.toList_toArray]
    have gen : ∀ l : List Addr, Vals (l.map V.ref) (l.map Value.ref) := fun l => by
      induction l with
      | nil => exact .nil
      | cons c l ih => exact .cons rfl ih
    exact gen Ts
  have lenps : ps.length ≤ sizeLine := by
    have : ps.length = Ts.length := by rw [← m1, List.length_map]
    rw [this, e1]
    exact Nat.le_trans (Nat.min_le_left _ _) hlen
  refine ⟨.ref h1.objs.size, L2.upd (layT H1 ps) h1.objs.size (.lst (ps.map fun p => .ref p.1)), Inv.laidN (s := { s1 with heap := G', toks := tk }) (t' := tk) I4 k4 hS4 hH4 (show ObjOk X.prog X.w _ _ _ (.lst (ps.map fun p => V.ref p.1)) from ⟨by rw [List.length_map]; exact lenps, acc'.toList, c', vals, ?_⟩), rfl, q ps _ m2 pw (fun p hp => ⟨(ha2 p hp).1, (ha2 p hp).2.2.1⟩) (fresh _ (Nat.le_refl _))⟩
  rw [Array.toArray_toList]
  exact hL'
end
end DL
namespace DL
open L2 PySem PySem.Spec PyProof.Rows
theorem lay_ok : ∀ (ps : List (Addr × V × V)) (H : Hp), ps.Pairwise (fun p q => p.1 ≠ q.1) → (∀ p ∈ ps, H p.1 = none) → Same H (layT H ps) ∧ ∀ p ∈ ps, layT H ps p.1 = some (.tup [p.2.1, p.2.2])
  | [], H, _, _ => ⟨Same.refl _, fun p h => nomatch h⟩
  | p :: ps, H, hp, hf => by
    rw [List.pairwise_cons] at hp
    have s0 := same_upd (o := .tup [p.2.1, p.2.2]) (hf p List.mem_cons_self)
    obtain ⟨h1, h2⟩ := lay_ok ps (L2.upd H p.1 (.tup [p.2.1, p.2.2])) hp.2 fun q hq => by
      rw [upd_ne (hp.1 q hq).symm]
      exact hf q (List.mem_cons_of_mem _ hq)
    refine ⟨fun b o e => h1 b o (s0 b o e), fun q hq => ?_⟩
    rcases List.mem_cons.mp hq with e | e
    · rw [e]
      exact h1 _ _ upd_same
    · exact h2 q e
theorem pairs_rp {K : PySem.W.Frag} {A : Addr → Prop} {H : Hp} (T : Addr × V × V → Prop) (hT : ∀ p, T p → H p.1 = some (.tup [p.2.1, p.2.2]) ∧ ¬ A p.1) : ∀ (ps : List (Addr × V × V)) {xs ys : List V} {zs ws : List D}, RpA K A H xs zs → RpA K A H ys ws → ps.map (·.2) = xs.zip ys → (∀ p ∈ ps, T p) →
    RpA K A H (ps.map fun p => V.ref p.1) ((zs.zip ws).map fun p => .tup [p.1, p.2])
  | [], xs, ys, zs, ws, rx, ry, e, _ => by
    have l1 := rx.length
    have l2 := ry.length
    have : (zs.zip ws).length = 0 := by
      have := congrArg List.length e
      rw [List.length_map, List.length_zip] at this
      rw [List.length_zip]
      simp at this
      omega
    rw [List.eq_nil_of_length_eq_zero this]
    exact .nil
  | p :: ps, xs, ys, zs, ws, rx, ry, e, h => by
    cases rx with
    | nil => simp at e
    | cons r1 rx =>
      cases ry with
      | nil => simp at e
      | cons r2 ry =>
        rw [List.map_cons, List.zip_cons_cons, List.cons.injEq] at e
        obtain ⟨t1, t2⟩ := hT p (h p List.mem_cons_self)
        rw [List.map_cons, List.zip_cons_cons, List.map_cons]
        refine .cons (.tup (.inl ⟨.inl t1, t2⟩) ?_) (pairs_rp T hT ps rx ry e.2 fun q hq => h q (List.mem_cons_of_mem _ hq))
        rw [e.1]
        exact .cons r1 (.cons r2 .nil)
def gListZ : List D → Option D
  | [a, b] => (gIter a).bind fun l => if l.length ≤ sizeLine then (gIter b).map fun r => .lst ((l.zip r).map fun p => .tup [p.1, p.2]) else none
  | _ => none
section
variable {X : Cx} {G : Gd} {O : List Nat} {W : WX} {e e2 : Expr} {mr : MA} {p p2 p3 pos : Pos}
theorem de_listZ (hc : X.calm = true) (hg : Gl X "list") (hm : X.mg "list" = none) (hg2 : Gl X "zip") (hm2 : X.mg "zip" = none) (ha : DA X G O W [e, e2] mr) (hs : starEach [e, e2] X.env = (false, eval e X.env) :: starEach [e2] X.env := by rfl) (hpl : (backTo p3 (starEach [e2] X.env)).any (·.1) = false := by rfl)
    (na : starEach [.Call (.Name "zip" p2) [e, e2] [] p3] X.env = (false, eval (.Call (.Name "zip" p2) [e, e2] [] p3) X.env) :: starEach [] X.env := by rfl) :
    DE X G O W (.Call (.Name "list" p) [.Call (.Name "zip" p2) [e, e2] [] p3] [] pos) (mN gListZ mr) := by
  refine pe_imp (pe_listZip hc hg hm hg2 hm2 ha hs hpl na) fun σ H Q ⟨A, ms, ρ, R, q⟩ => ?_
  refine ⟨A, ms, ρ, R, q.bind.mono ?_⟩
  rintro vs H1 ⟨ds, ρ1, R1, k1, r1, q1⟩
  obtain ⟨z, hz, q2⟩ := rp_of R1 q1
  unfold gListZ at hz
  split at hz
  · rename_i d1 d2
    cases h1 : gIter d1 with
    | none => rw [h1] at hz; cases hz
    | some zs =>
      rw [h1, Option.bind_some] at hz
      split at hz
      · rename_i hlen
        cases h2 : gIter d2 with
        | none => rw [h2] at hz; cases hz
        | some ws =>
          rw [h2] at hz
          cases hz
          cases r1 with
          | cons r r' =>
            cases r' with
            | cons s s' =>
              cases s'
              obtain ⟨a, xs, rfl, rx, hx⟩ := sr_of r h1
              obtain ⟨b, ys, rfl, ry, hy⟩ := sr_of s h2
              refine ⟨a, b, xs, ys, rfl, hx _ _ Tr.refl, hy _ _ Tr.refl, by rw [rx.length]; exact hlen, fun ps l e pw hf hl => ?_⟩
              obtain ⟨s1, s2⟩ := lay_ok ps H1 pw fun p hp => (hf p hp).2
              have hn : layT H1 ps l = none := by
                have gen : ∀ (ps : List (Addr × V × V)) (H : Hp), (∀ p ∈ ps, p.1 ≠ l) → H l = none → layT H ps l = none := by
                  intro ps
                  induction ps with
                  | nil => exact fun H _ h => h
                  | cons p ps ih =>
                    intro H hne h
                    exact ih _ (fun q hq => hne q (List.mem_cons_of_mem _ hq)) (by rw [upd_ne (hne p List.mem_cons_self).symm]; exact h)
                exact gen ps H1 (fun p hp => (hf p hp).1) hl
              have s3 : Same H1 (L2.upd (layT H1 ps) l (.lst (ps.map fun p => .ref p.1))) := fun c o ec => same_upd hn c o (s1 c o ec)
              have tr := Tr.same (A := A) s3
              refine q2 _ _ s3 (.lst upd_same (Trk.no (fun a z => R1.trk a z) hl) ?_)
              exact pairs_rp (fun p => p ∈ ps) (fun p hp => ⟨same_upd hn _ _ (s2 p hp), Trk.no (fun a z => R1.trk a z) (hf p hp).2⟩) ps (rx.tr tr) (ry.tr tr) e fun p hp => hp
      · cases hz
  · cases hz
end
end DL
namespace DL
open L2 PySem PySem.Spec PyProof.Rows
def idxD (ys : List PyData) (x : PyData) : Option D := (ys.findIdx? fun z => PyData.eqv z x).map fun j => .int (j : Nat)
def gLIndex (d : D) (ds : List D) : Option D := match d, ds with
  | .lst l, [a] => match a.py, pyAll l with
    | some x, some ys => if SeqAt.shaped x = true ∧ SeqAt.shaped (.list ys) = true then idxD ys x else none
    | _, _ => none
  | _, _ => none
section
variable {X : Cx}
theorem mt_lindexD (hu : X.A.units + 65 < cLine) : MtR X "list.index" (rMD X.K gLIndex) := by
  rintro pins s σ H v xs u us Q I rx rs ⟨A, c, ds, d, t, rc, ra, hg, q⟩
  unfold gLIndex at hg
  split at hg
  · rename_i l a
    split at hg
    · rename_i x ys hx hy
      split at hg
      · rename_i hs
        unfold idxD at hg
        cases hj : ys.findIdx? (fun z => PyData.eqv z x) with
        | none => rw [hj] at hg; cases hg
        | some j =>
          rw [hj] at hg
          cases hg
          obtain ⟨hjl, hp, hno⟩ := List.findIdx?_eq_some_iff_getElem.mp hj
          have hd : Dp X.K H v (.list ys) := rc.dp (by unfold D.py; rw [hy]; rfl)
          obtain ⟨y, hxs, hya⟩ : ∃ y, xs = [y] ∧ Dp X.K H y x := by
            rcases ra with ra | ⟨v1, c1, rfl, e, r1⟩
            · cases ra with
              | cons r1 r2 =>
                cases r2
                exact ⟨_, rfl, r1.dp hx⟩
            · cases e
              exact ⟨v1, rfl, r1.dp hx⟩
          obtain ⟨b, hb⟩ : ∃ b, v = V.ref b := by
            cases hd with
            | lst h1 h2 => exact ⟨_, rfl⟩
          subst hb
          exact mt_indexD hu pins s σ H _ _ u us Q I rx rs ⟨b, y, x, ys, j, ys[j], rfl, hxs, hd, hya, hs.2, hs.1, List.getElem?_eq_getElem hjl, hp, fun m z' hm hz => by
            obtain ⟨hml, e⟩ := List.getElem?_eq_some_iff.mp hz
            have := hno m hm
            rw [← e]
            simpa using this, q _ _ (Same.refl _) (.int _) (no_fr fun _ => nofun)⟩
      · cases hg
    · cases hg
  · cases hg

variable {G : Gd} {O : List Nat} {W : WX} {o e : Expr} {es : List Expr} {mo : ME} {mr : MA} {name : Str} {apos pos : Pos} {id : String} {g : D → List D → Option D}
def mML (g : D → List D → Option D) (o : ME) (args : MA) : ME := fun ρ => (o ρ).bind fun x ρ1 => match x with
  | .lst l => (args ρ1).bind fun xs ρ2 => ret (g (.lst l) xs) ρ2
  | _ => .bad
theorem lstm_go {K : PySem.W.Frag} {σ : L2.St} {H : Hp} {Q : VK} (h : tE K G O W (mML g mo mr) σ H Q) : tBM K "list" (rMD K g) (tE K G O W mo) (tA K G O W mr) σ H Q := by
  obtain ⟨A, ms, ρ, R, q⟩ := h
  refine ⟨A, ms, ρ, R, RPost.mono (RPost.bind q) ?_⟩
  rintro v H1 ⟨d, ρ1, R1, k1, r1, q1⟩
  cases d with
  | lst l =>
    cases r1 with
    | lst h1 n1 rr =>
      refine ⟨.inl ⟨rfl, _, SqL.of h1⟩, A, ms, ρ1, R1, RPost.mono (RPost.bind q1) ?_⟩
      rintro vs H2 ⟨ds, ρ2, R2', k2, r2, q2⟩
      obtain ⟨z', hz, q3⟩ := rp_of R2' q2
      exact ⟨A, _, ds, z', R2'.trk, .of ((Rp.lst h1 n1 rr).tr (R1.kt k2)), .inl r2, hz, fun v H' s r _ => q3 v H' s r⟩
  | _ => exact q1.elim
theorem de_lm (slot : Slot "list" name id) (hty : typeOf (.builtin id) = pure (.type "method_descriptor")) (hm : MtR X id (rMD X.K g)) (ho : DE X G O W o mo) (ha : DA X G O W (e :: es) mr)
    (hbase : attributeBase o name X.env (eval o X.env) = eval o X.env := by rfl)
    (hfew : ((backTo pos (starEach (e :: es) X.env)).all (fun x => !x.1) && (backToKw pos (keywordEach [] X.env)).all (fun x => x.1.isSome)
      && decide ((e :: es).length + ([] : List Keyword).length + (if ([] : List Keyword).isEmpty then 0 else 1) < 30)) = true := by rfl)
    (hline : (apos.endLine == pos.line) = true := by rfl) (hs : starEach (e :: es) X.env = (false, eval e X.env) :: starEach es X.env := by rfl) (hplain : (backTo pos (starEach es X.env)).any (·.1) = false := by rfl) :
    DE X G O W (.Call (.Attribute o name apos) (e :: es) [] pos) (mML g mo mr) := pe_imp (pe_bm PySem.F.plainAttrs_list slot hty hm ho ha hbase hfew hline hs hplain) fun _ _ _ h => lstm_go h
end
end DL
namespace DL
open HotX L2 PySem PySem.Spec PyProof.Rows

abbrev HotC := L2H.HotC
theorem listEndHot {prog : Program} {w : World} {A : Around} {E : Value → Shared → Prop} {s : Shared} {it l xa : Addr} {i : Nat} {items : Array Value} {Q : Option Value → Shared → Prop} (hot : HotAt A xa s.heap) (ne : xa ≠ it)
    (hi : s.heap.IsListIter it l i) (hl : s.heap.IsList l items) (hx : items[i]? = none) (done : ∀ h', Heap.ExtBut it s.heap h' → Q none { s with heap := h' }) : wpAny (model prog w) A (pyNext (.ref it)) Q E s := by
  obtain ⟨oi, gi, ci, di⟩ := id hi
  obtain ⟨ol, gl, _, nl, dl⟩ := hl
  obtain ⟨hh, ox, xs, gx, dx, cx⟩ := hot
  unfold pyNext
  refine wpAny_bind (wpAny_attempt (wpAny_callSpecial?_slot (name := Str.ofString "__next__") hi.typeIs slot_listiter_next (wpAny_call_entry slot_listiter_next hi.typeIs entry_listiter_next ?_ (args_listiter_next _))))
  show wpAny _ _ (field (.ref it) 0 >>= _) _ _ s
  refine wpAny_bind (wpAny_field gi di (x := .ref l) rfl ?_)
  show wpAny _ _ (if (Value.ref l == Value.none) = true then _ else _) _ _ s
  rw [if_neg (show ¬ ((Value.ref l == Value.none) = true) from Bool.false_ne_true)]
  show wpAny _ _ (field (.ref it) 1 >>= _) _ _ s
  refine wpAny_bind (wpAny_field gi di (x := .int i 0) rfl ?_)
  show wpAny _ _ (seqItems? (.ref l) >>= _) _ _ s
  refine wpAny_bind (wpAny_seqItems gl dl ?_)
  simp only [Int.toNat_natCast, hx]
  refine wpAny_bind (wpAny_rule (wpAny_bind (wpAny_setField gi di (by simp) ?_)))
  show wpAny _ _ (newExc (.type "StopIteration") [] >>= _) _ _ _
  refine wpAny_bind ?_
  simp only [newExc, newTuple]
  refine wpAny_bind (wpAny_newObj_type ?_ (by size_fits))
  refine wpAny_bind (m := firstArgMember _ _) (wpAny_of_eq (a := Value.none) (by first | rfl | (simp only [firstArgMember]; rfl)) ?_)
  refine wpAny_newObj_type ?_ (by size_fits)
  have g1 := (Heap.get?_update_other s.heap (Obj.mapFields (·.setIfInBounds 0 Value.none)) (Ne.symm ne)).trans gx
  refine raiseNew_hot (x1 := xa) ⟨hh, ox, xs, Heap.get?_push_of_some _ (Heap.get?_push_of_some _ g1), dx, cx⟩ (Nat.ne_of_lt (Heap.lt_size (Heap.get?_push_of_some _ g1))) (Heap.get?_push_size _ rfl) rfl (by first | (simp; done) | (simp; omega) | (simp only [Array.size_append]; simp; omega)) ?_
  refine wpAny_bind (wpAny_isInstance (T := "StopIteration") (b := true) ⟨_, Heap.get?_update_self _ (Heap.get?_push_size _ rfl) rfl, rfl⟩ isSubtype_stop ?_)
  refine wpAny_pure (done _ fun b o nb e => ?_)
  have e1 := (Heap.get?_update_other s.heap (Obj.mapFields (·.setIfInBounds 0 Value.none)) (Ne.symm nb)).trans e
  rw [Heap.get?_update_other _ _ (Nat.ne_of_gt (Heap.lt_size (Heap.get?_push_of_some _ e1)))]
  exact Heap.get?_push_of_some _ (Heap.get?_push_of_some _ e1)
structure TurnK (P : Program) (w : World) (K : PySem.W.Frag) (tg : Expr) (J : It) (fp : List Addr) (it : Addr) (tn : Nat → Heap → Prop) : Prop where
  obj : ∀ i h, tn i h → ∀ b ∈ fp, ∃ o, h.get? b = some o ∧ ∀ v, o.data ≠ .cell v
  keep : ∀ i h h', tn i h → (∀ b ∈ fp, ∀ o, h.get? b = some o → h'.get? b = some o) → tn i h'
  item : ∀ (X : Cx) (i : Nat) (pl : List (Addr × Obj)) (s : Shared) (σ : L2.St) (H : Hp) (E : Value → Shared → Prop), X.prog = P → X.w = w → X.K = K → Inv X pl σ H s → (∀ b ∈ fp, FpOk X pl H b) → tn i s.heap → J.go i H →
    wpAny (model P w) X.A (pyNext (.ref it)) (fun r t => ∃ u, r = some u ∧ wpAny (model P w) X.A (letOwnedTupleGo tg (.ref it) u) (fun _ t' => ∃ x H', Inv X pl σ H' t' ∧ RelV x u ∧ J.yld i H x H' ∧ tn (i + 1) t'.heap ∧ ∀ b ∈ fp, H' b = none) E t) E s
  done : ∀ (X : Cx) (i : Nat) (pl : List (Addr × Obj)) (s : Shared) (σ : L2.St) (H : Hp) (E : Value → Shared → Prop) (xa : Addr), X.prog = P → X.w = w → X.K = K → HotAt X.A xa s.heap → xa ∉ fp → Inv X pl σ H s → (∀ b ∈ fp, FpOk X pl H b) → tn i s.heap → J.stop i H →
    wpAny (model P w) X.A (pyNext (.ref it)) (fun r t => r = none ∧ Inv X pl σ H t) E s
  self : ∀ (A : Around) (i : Nat) (s : Shared) (Q : Value → Shared → Prop) (E : Value → Shared → Prop), tn i s.heap → Q (.ref it) s → wpAny (model P w) A (pyIter (.ref it)) Q E s
theorem turnK_list {P : Program} {w : World} {K : PySem.W.Frag} {tg : Expr} (a it : Addr) : TurnK P w K tg (Itl K a) [it] it (fun i h => h.IsListIter it a i) where
  obj := (turn_list (P := P) (w := w) (K := K) (tg := tg) a it).obj
  keep := (turn_list (P := P) (w := w) (K := K) (tg := tg) a it).keep
  self := (turn_list (P := P) (w := w) (K := K) (tg := tg) a it).self
  item := by
    intro X i pl s σ H E eP eW eK I f st ⟨xs, x, hq, hx⟩
    subst eP eW eK
    obtain ⟨its, rv, ls, _⟩ := I.list hq
    obtain ⟨u, hu, ru⟩ := rv.get hx
    obtain ⟨n0, n1, n2, n3, n4, n5⟩ := f it List.mem_cons_self
    refine wpAny_pyNext_list_item st ls.isList (x := u) (by simpa using hu) fun g st' sb => ?_
    obtain ⟨ob, e, c, d⟩ := id st'
    have J : Inv X pl σ H { s with heap := g } := I.turned (t' := s.toks) (fun b o hb e => (sb.2 b hb).trans e) n0 n1 n3 n4 n5
    exact ⟨u, rfl, go_of (s := { s with heap := g }) e c d (by decide) ⟨x, H, J, ru, ⟨rfl, fun ys hy => I.list_inj hy hq ▸ hx⟩, st', fun b hb => (f b hb).1⟩⟩
  done := by
    intro X i pl s σ H E xa eP eW eK hot nx I f st ⟨xs, hq, hx⟩
    subst eP eW eK
    obtain ⟨its, rv, ls, _⟩ := I.list hq
    obtain ⟨n0, n1, n2, n3, n4, n5⟩ := f it List.mem_cons_self
    have hl := rv.length
    exact listEndHot hot (fun z => nx (by rw [z]; exact List.mem_cons_self)) st ls.isList (by simp; omega) fun g eb => ⟨rfl, I.turned (t' := s.toks) (fun b o hb e => eb b o hb e) n0 n1 n3 n4 n5⟩
def ItAtK (X : Cx) (pl : List (Addr × Obj)) (σ : L2.St) (tg : Expr) (R : It → Hp → Prop) (v : Value) (t : Shared) : Prop :=
  ∃ it fp tn J H', v = .ref it ∧ Inv X pl σ H' t ∧ TurnK X.prog X.w X.K tg J fp it tn ∧ tn 0 t.heap ∧ (∀ b ∈ fp, FpOk X pl H' b) ∧ R J H'
def PIK (X : Cx) (tg e : Expr) (wi : TI) : Prop := ∀ (pl : List (Addr × Obj)) (s : Shared) (σ : L2.St) (H : Hp) (R : It → Hp → Prop), Inv X pl σ H s → wi σ H R →
  wpAny (model X.prog X.w) X.A (eval e X.env) (fun v t => wpAny (model X.prog X.w) X.A (pyIter v) (ItAtK X pl σ tg R) X.xe t) X.xe s
theorem pik_list {X : Cx} {tg e : Expr} {te : TE} (he : PE X e te) : PIK X tg e (iList X.K te) := by
  intro pl s σ H R I h
  refine thn (he.run pl s σ H _ I h) fun v t ⟨x, H1, I1, r1, a, ex, ⟨xs, hq⟩, q⟩ => ?_
  subst ex
  cases r1
  obtain ⟨its, rv, ls, _⟩ := I1.list hq
  refine wpAny_pyIter_list ls.isList ⟨t.heap.objs.size, [t.heap.objs.size], _, _, H1, rfl, I1.kept (t' := t.toks) fun b o z => Heap.get?_push_of_some _ z, turnK_list a _, ⟨_, Heap.get?_push_size _ rfl, rfl, rfl⟩, fun b hb => ?_, q⟩
  obtain rfl : b = t.heap.objs.size := by simpa using hb
  exact I1.fpOk (Nat.le_refl _) (I1.hok.fresh (Nat.le_refl _))
section
variable {X : Cx}
theorem hot_blk {p : Addr × Obj} {pl : List (Addr × Obj)} {σ σ' : L2.St} {H0 H1 : Hp} {s0 s1 : Shared} {scope : Scope} {ce : Env} {fp : List Addr} (h1 : L2H.Hot1 X.A p) (hp : p ∈ X.pn) (I : Inv X pl σ H0 s0) (nf : p.1 ∉ fp)
    (J : Inv (X.blk s0 H0 scope ce fp) [] σ' H1 s1) : HotAt X.A p.1 s1.heap := by
  obtain ⟨hh, vs, hd, hc⟩ := h1
  have P := I.pin p (List.mem_append_left _ hp)
  have nst : p.1 ∉ frs X.stack := fun z => (List.mem_cons.mp (I.stkSub p.1 z)).elim P.2.2.1 P.2.2.2.1
  exact ⟨hh, p.2, vs, J.base.keep p.1 p.2 P.1 P.2.1 nst nf, hd, hc⟩
theorem compK {pl : List (Addr × Obj)} {s : Shared} {σ : L2.St} {H : Hp} {Q : VK} {elt tg iter : Expr} {ifs : List Expr} {scope : Scope} {own : List (Str × Nat)} {pos pos' : Pos} {wi : TI} {g : TG} {tt : TT} {te : TE}
    (hot : HotC X) (nd : X.N.Nodup) (I : Inv X pl σ H s) (hi : PIK X tg iter wi) (ok : BlkOk X.N X.env.scope scope own)
    (hg : ∀ (t : Shared) (H : Hp) (C : Addr) (cl : List (Str × Addr)) (fp : List Addr), PG (X.blk t H scope (compEnvC scope cl C X.env) fp) tg g) (ht : ∀ (t : Shared) (H : Hp) (C : Addr) (cl : List (Str × Addr)) (fp : List Addr), PTs (X.blk t H scope (compEnvC scope cl C X.env) fp) ifs tt)
    (he : ∀ (t : Shared) (H : Hp) (C : Addr) (cl : List (Str × Addr)) (fp : List Addr), PE (X.blk t H scope (compEnvC scope cl C X.env) fp) elt te) (hs : ∀ x, foldedSetIterable iter X.env x = pure x) (h : tLc wi g tt te (own.map (·.2)) σ H Q) :
    wpAny (model X.prog X.w) X.A (comprehension (.ListComp elt [⟨tg, iter, ifs, 0⟩] scope pos) scope X.env pos' (newList []) false (eval iter X.env) none) (EP X pl σ Q) X.xe s := by
  obtain ⟨xp, hot1, hxp⟩ := hot
  have clo : ∀ y ∈ scope.names, y.2 = .free → ∃ c, X.env.cells.lookup y.1 = some c := fun y hy e => I.ok.has _ (ok.free y hy e)
  refine wpAny_comprehension_free (use := none) rfl hs (closure_ok clo) ok.kind (fun y hy e => (ok.uniq y hy).trans (by rw [e])) (thn (hi pl s σ H _ I h) fun _ _ hx => thn hx fun itv t h2 => ?_)
  obtain ⟨it, fp, tn, J, H2, rfl, I2, T, st2, f2, q⟩ := h2
  refine wpAny_newObj_type (newEnv_comp ?_) (by show 0 ≤ sizeLine; decide)
  generalize eD : t.heap.objs.size = D
  obtain ⟨W, ⟨m0, w0⟩, turn⟩ := q D (I2.hok.fresh (Nat.le_of_eq eD))
  generalize e3 : ({ t with heap := t.heap.push { cls := .type "list", data := .seq ([] : List Value).toArray } } : Shared) = t3
  have hh3 : t3.heap = t.heap.push { cls := .type "list", data := .seq ([] : List Value).toArray } := by rw [← e3]
  have I3 : Inv X pl σ (upd H2 D (.lst [])) t3 := by
    subst e3
    refine I2.laid (t' := t.toks) (fun b o e => Heap.get?_push_of_some _ e) (Nat.le_of_eq eD) ⟨Nat.zero_le _, [], 0, .nil, ?_⟩
    subst eD
    exact Heap.get?_push_size _ rfl
  have f3 : ∀ b ∈ fp, FpOk X pl (upd H2 D (.lst [])) b ∧ b < t3.heap.objs.size := fun b hb => by
    obtain ⟨o, e, _⟩ := T.obj _ _ st2 b hb
    have lt := Heap.lt_size e
    refine ⟨⟨?_, (f2 b hb).2⟩, by rw [hh3, Heap.size_push]; exact Nat.lt_succ_of_lt lt⟩
    rw [upd_ne (by rw [← eD]; exact Nat.ne_of_lt lt)]
    exact (f2 b hb).1
  have st3 : tn 0 t3.heap := T.keep _ _ _ st2 fun b _ o e => by rw [hh3]; exact Heap.get?_push_of_some _ e
  have nxp : xp.1 ∉ fp := fun z => (f2 _ z).2.2.2.2.2 xp (List.mem_append_left _ hxp) rfl
  have I4 := block_start I3 ok nd f3
  have n3 : ∀ b ∈ fp, (upd H2 D (.lst [])) b = none := fun b hb => (f3 b hb).1.1
  generalize eH : upd H2 D (.lst []) = H3 at I3 I4 w0 n3 f3
  have pg := hg t3 H3 t3.heap.objs.size (cellsFrom (t3.heap.objs.size + 1) scope.names (cloFrom X.env.cells scope.names [])) fp
  have pt := ht t3 H3 t3.heap.objs.size (cellsFrom (t3.heap.objs.size + 1) scope.names (cloFrom X.env.cells scope.names [])) fp
  have pe := he t3 H3 t3.heap.objs.size (cellsFrom (t3.heap.objs.size + 1) scope.names (cloFrom X.env.cells scope.names [])) fp
  show codeAny _ _ (.compStart _ 0 (.ref it) (.ref D) (compEnvC scope (cellsFrom (t3.heap.objs.size + 1) scope.names (cloFrom X.env.cells scope.names [])) t3.heap.objs.size X.env)) (compPost (model X.prog X.w) X.A X.xe none (EP X pl σ Q) (.ref D) t3.heap.objs.size) { t3 with heap := pushCells (t3.heap.push { cls := .type "dict", data := .dict #[] }) scope.names }
  generalize ec : compEnvC scope (cellsFrom (t3.heap.objs.size + 1) scope.names (cloFrom X.env.cells scope.names [])) t3.heap.objs.size X.env = ce at I4 pg pt pe ⊢
  have lce : ce.locals = t3.heap.objs.size := by subst ec; rfl
  generalize e4 : ({ t3 with heap := pushCells (t3.heap.push { cls := .type "dict", data := .dict #[] }) scope.names } : Shared) = t4 at I4 ⊢
  have st4 : tn 0 t4.heap := T.keep _ _ _ st3 fun b _ o e => by subst e4; exact pushCells_keeps _ _ _ _ (Heap.get?_push_of_some _ e)
  have stay : ∀ {σ' : L2.St} {H' : Hp} {t' : Shared}, Inv (X.blk t3 H3 scope ce fp) [] σ' H' t' → (∀ b ∈ fp, H' b = none) → ∀ b ∈ fp, FpOk (X.blk t3 H3 scope ce fp) [] H' b := fun {_ _ _} J n b hb =>
    ⟨n b hb, (J.ok.exf b hb).1, J.ok.exfs b hb, .inl hb, fun x c e => (J.ok.exf b hb).2 x c e, fun p hp => absurd (show p ∈ ([] : List (Addr × Obj)) ++ [] from hp) (by simp)⟩
  refine (fun (loop : codeAny (model X.prog X.w) X.A (.compLoop (.ListComp elt [⟨tg, iter, ifs, 0⟩] scope pos) 0 (.ref it) (.ref D) ce) (compPost (model X.prog X.w) X.A X.xe none (EP X pl σ Q) (.ref D) t3.heap.objs.size) t4) => codeAny_compStart_list loop (T.self X.A 0 _ _ _ st4 loop)) ?_
  refine compLoop_any (fun n t' => ∃ i H', Inv (X.blk t3 H3 scope ce fp) [] (wipe σ (own.map (·.2))) H' t' ∧ tn i t'.heap ∧ (∀ b ∈ fp, H' b = none) ∧ W i n H') ?_ m0 ⟨0, H3, I4, st4, n3, w0⟩
  rintro n t5 ⟨i, H5, I5, st5, n5, w5⟩
  rcases turn i n H5 w5 with ⟨stop, qq⟩ | ⟨go, Nx, hNx, step⟩
  · refine thnF (T.done (X.blk t3 H3 scope ce fp) i [] t5 _ H5 (fun _ _ => False) xp.1 rfl rfl rfl (hot_blk (X := X) hot1 hxp I3 nxp I5) nxp I5 (stay I5 n5) st5 stop) fun r t6 ⟨hr, I6⟩ => ?_
    subst hr
    have I7 : Inv X pl σ H5 t6 := I3.call' (ch := fp) I6.os I6.base I6.hok I6.bare fun b hb => let z := (f3 b hb).1.2; ⟨z.2.2.1, z.1, z.2.2.2.1, z.2.2.2.2⟩
    have free : H5 t3.heap.objs.size = none := lce ▸ (show H5 ce.locals = none from I6.free)
    obtain ⟨m, hn, _⟩ := I6.loc
    have hn : t6.heap.Ns ce.locals m := hn
    rw [lce] at hn
    obtain ⟨f0, f1, f2', f4, f5, f6⟩ := I3.fpOk (H' := H5) (Nat.le_refl _) free
    exact ⟨m, hn, fun h'' sb => ⟨.ref D, H5, I7.turned (t' := t6.toks) (fun b o hb e => (sb.2 b hb).trans e) f0 f1 f4 f5 f6, rfl, qq⟩⟩
  · refine thnF (T.item (X.blk t3 H3 scope ce fp) i [] t5 _ H5 (fun _ _ => False) rfl rfl rfl I5 (stay I5 n5) st5 go) fun r t6 ⟨u, hr, h6⟩ => ?_
    subst hr
    refine thnF h6 fun _ t7 ⟨x, H7, I7, r7, y7, st7, n7⟩ => ?_
    have I7p := I7.pinned (stay I7 n7) (T.obj _ _ st7)
    refine thnF (pg.run _ t7 _ H7 x u _ I7p r7 (step x H7 y7)) fun _ t8 ⟨σ8, H8, I8, w8, q8⟩ => thnF (pt.run _ t8 σ8 H8 _ I8 q8) fun b t9 ⟨H9, I9, q9⟩ => ?_
    have fin : ∀ {t' : Shared} {H' : Hp}, Inv (X.blk t3 H3 scope ce fp) ([] ++ pinsAt fp t7.heap) σ8 H' t' → Nx H' → ∃ m, m < n ∧ ∃ i H', Inv (X.blk t3 H3 scope ce fp) [] (wipe σ (own.map (·.2))) H' t' ∧ tn i t'.heap ∧ (∀ b ∈ fp, H' b = none) ∧ W i m H' := fun {t' H'} Jn nx => by
      obtain ⟨m', lt, w'⟩ := hNx H' nx
      have stands : ∀ b ∈ fp, ∀ o, t7.heap.get? b = some o → t'.heap.get? b = some o ∧ H' b = none := fun b hb o e => let z := Jn.pin (b, o) (List.mem_append_right _ (List.mem_append_right _ (mem_pinsAt hb e))); ⟨z.1, z.2.1⟩
      refine ⟨m', lt, i + 1, H', (Jn.unpinned (pins := [])).weak (by rw [← w8, wipe_length]) (fun j v e => ?_), T.keep _ _ _ st7 fun b hb o e => (stands b hb o e).1, fun b hb => ?_, w'⟩
      · exact (wipe_some (w8 ▸ e)).1
      · obtain ⟨o, e, _⟩ := T.obj _ _ st7 b hb
        exact (stands b hb o e).2
    cases b with
    | false => exact fin I9 (by simpa using q9)
    | true =>
      have q9' := (if_pos (c := true = true) rfl) ▸ q9
      refine thnF (pe.run _ t9 σ8 H9 _ I9 q9') fun z t10 ⟨yv, H10, I10, r10, acc, hD, hz, nx⟩ => app_ok (X := X.blk t3 H3 scope ce fp) I10 hD hz r10 fun t11 I11 => fin I11 nx
theorem pe_lcK {elt tg iter : Expr} {ifs : List Expr} {scope : Scope} {own : List (Str × Nat)} {pos : Pos} {wi : TI} {g : TG} {tt : TT} {te : TE} (hot : HotC X) (nd : X.N.Nodup) (hi : PIK X tg iter wi) (ok : BlkOk X.N X.env.scope scope own)
    (hg : ∀ (t : Shared) (H : Hp) (C : Addr) (cl : List (Str × Addr)) (fp : List Addr), PG (X.blk t H scope (compEnvC scope cl C X.env) fp) tg g) (ht : ∀ (t : Shared) (H : Hp) (C : Addr) (cl : List (Str × Addr)) (fp : List Addr), PTs (X.blk t H scope (compEnvC scope cl C X.env) fp) ifs tt)
    (he : ∀ (t : Shared) (H : Hp) (C : Addr) (cl : List (Str × Addr)) (fp : List Addr), PE (X.blk t H scope (compEnvC scope cl C X.env) fp) elt te) (hs : ∀ x, foldedSetIterable iter X.env x = pure x := by intro _; rfl) :
    PE X (.ListComp elt [⟨tg, iter, ifs, 0⟩] scope pos) (tLc wi g tt te (own.map (·.2))) := ⟨fun pl s σ H Q I h => by
  rw [eval_ListComp]
  exact compK hot nd I hi ok hg ht he hs h⟩
end
def mIterL (m : ME) : En → R (List D) := fun ρ => (m ρ).bind fun d ρ1 => match d with
  | .lst l => .ok l ρ1
  | .scr l => .ok l ρ1
  | _ => .bad
section
variable {X : Cx} {G : Gd} {O : List Nat} {W : WX} {e tg : Expr} {me : ME}
def DIK (X : Cx) (G : Gd) (O : List Nat) (W : WX) (tg e : Expr) (m : En → R (List D)) : Prop := PIK X tg e (tI X.K G O W m)
theorem dik_lst (he : DE X G O W e me) : DIK X G O W tg e (mIterL me) := fun pl s σ H R0 I ⟨A, ms, ρ, R, q⟩ => by
  refine pik_list he pl s σ H R0 I ⟨A, ms, ρ, R, ?_⟩
  unfold mIterL at q
  cases hm : me ρ with
  | bad => rw [hm] at q; exact q.elim
  | ex x ρ1 => rw [hm] at q; exact q
  | ok d ρ1 =>
    rw [hm] at q
    intro v H1 R1 k1 r1
    cases d with
    | lst l =>
      cases r1 with
      | lst h1 n1 rr => exact ⟨_, rfl, ⟨_, SqL.of h1⟩, q _ H1 R1 k1 (itok_list (.inl ⟨.inl h1, n1⟩) rr)⟩
    | scr l =>
      cases r1 with
      | scr h1 rr => exact ⟨_, rfl, ⟨_, h1.sq⟩, q _ H1 R1 k1 (itok_list h1 rr)⟩
    | _ => exact q.elim
theorem df_lcK {elt iter : Expr} {ifs : List Expr} {scope : Scope} {own : List (Str × Nat)} {pos : Pos} {mi : En → R (List D)} {g : MG} {mt : MT} {tt : TT} (hot : HotC X) (nd : X.N.Nodup) (hv : (ownS own).all (fun i => !O.contains i) = true)
    (hi : DIK X G O W tg iter mi) (ok : BlkOk X.N X.env.scope scope own)
    (hg : ∀ (t : Shared) (H : Hp) (C : Addr) (cl : List (Str × Addr)) (fp : List Addr), DG (X.blk t H scope (compEnvC scope cl C X.env) fp) G O (ownS own) tg g)
    (ht : ∀ (t : Shared) (H : Hp) (C : Addr) (cl : List (Str × Addr)) (fp : List Addr), PTs (X.blk t H scope (compEnvC scope cl C X.env) fp) ifs tt) (htt : ∀ σ H Q, tT X.K G O W0 mt σ H Q → tt σ H Q)
    (he : ∀ (t : Shared) (H : Hp) (C : Addr) (cl : List (Str × Addr)) (fp : List Addr), DE (X.blk t H scope (compEnvC scope cl C X.env) fp) G O W0 elt me) (hs : ∀ x, foldedSetIterable iter X.env x = pure x := by intro _; rfl) :
    DF X G O W (.ListComp elt [⟨tg, iter, ifs, 0⟩] scope pos) (mLc (ownS own) mi g mt me) :=
  pe_imp (pe_lcK (te := tE X.K G O W0 me) (tt := tt) (g := tG X.K G O (ownS own) g) hot nd hi ok hg ht he hs) fun _ _ _ h => lc_go hv htt h
theorem hotS {k : Str} {a : Addr} {oe : Obj} {pn : List (Addr × Obj)} (hz : L2N.Zn (.ref (He.ga X.K k)) none oe) (hf : ∃ vs, oe.data = .fields vs) : HotC (X.suite a ((a, oe) :: pn)) :=
  let ⟨vs, hd⟩ := hf; ⟨(a, oe), ⟨rfl, vs, hd, hz.2.2 vs hd⟩, List.mem_cons_self⟩
end
end DL
namespace DL
open L2 PySem PySem.Spec PyProof.Rows
def gTR (i j : Int) : Option D := if okR i = true ∧ okR j = true ∧ (j - i).toNat ≤ 2 ^ 24 then some (.tup (rangeL i (j - i).toNat)) else none
def mTupR1 (ma : ME) : ME := fun ρ => (ma ρ).bind fun d ρ1 => match d with
  | .int j => ret (gTR 0 j) ρ1
  | _ => .bad
section
variable {X : Cx} {G : Gd} {O : List Nat} {W : WX} {a : Expr} {ma : ME} {p pos : Pos}
theorem de_tupR1 {p2 p3 : Pos} (hc : X.calm = true) (hg : Gl X "tuple") (hm : X.mg "tuple" = none) (hg2 : Gl X "range") (hm2 : X.mg "range" = none) (ha : DE X G O W a ma)
    (na : starEach [.Call (.Name "range" p2) [a] [] p3] X.env = (false, eval (.Call (.Name "range" p2) [a] [] p3) X.env) :: starEach [] X.env := by rfl) (na2 : starEach [a] X.env = (false, eval a X.env) :: starEach [] X.env := by rfl) :
    DE X G O W (.Call (.Name "tuple" p) [.Call (.Name "range" p2) [a] [] p3] [] pos) (mTupR1 ma) := by
  refine pe_imp (pe_tupRg hc hg hm (prg_1 hg2 hm2 ha na2) na) fun σ H Q ⟨A, ms, ρ, R, q⟩ => ⟨A, ms, ρ, R, RPost.mono q.bind ?_⟩
  rintro x H1 ⟨d, ρ1, R1, k1, r1, q1⟩
  cases d with
  | int j =>
    cases r1
    obtain ⟨z, hz, q2⟩ := rp_of R1 q1
    refine ⟨j, rfl, ?_⟩
    unfold gTR at hz
    split at hz
    · rename_i h
      cases hz
      exact ⟨⟨(okR_ok h.1).1, (okR_ok h.1).2, (okR_ok h.2.1).1, (okR_ok h.2.1).2, h.2.2⟩, fun p hp => q2 _ _ (same_upd hp) (new_tup R1.trk (rg_rp _ _) hp)⟩
    · cases hz
  | _ => exact q1.elim
end
end DL
namespace DL
open L2 PySem PySem.Spec PyProof.Rows
def mChain3 (g g' g'' : D → D → Option D) (a b c d : ME) : ME := fun ρ => (a ρ).bind fun x ρ1 => (b ρ1).bind fun y ρ2 => (ret (g x y) ρ2).bind fun k ρ3 => match k with
  | .bl true => (c ρ3).bind fun z ρ4 => (ret (g' y z) ρ4).bind fun k2 ρ5 => match k2 with
    | .bl true => (d ρ5).bind fun u ρ6 => ret (g'' z u) ρ6
    | .bl false => .ok (.bl false) ρ5
    | _ => .bad
  | .bl false => .ok (.bl false) ρ3
  | _ => .bad
def tCh3 (r r' r'' : R2) (ta tb tc td : TE) : TE := fun σ H Q => ta σ H fun x H1 => tb σ H1 fun y H2 => r x y H2 fun z H3 => ∃ k, z = .bl k ∧
  (if k = true then tc σ H3 fun w H4 => r' y w H4 fun z2 H5 => ∃ k2, z2 = .bl k2 ∧ (if k2 = true then td σ H5 fun w2 H6 => r'' w w2 H6 Q else Q (.bl false) H5) else Q (.bl false) H3)
section
variable {X : Cx} {G : Gd} {O : List Nat} {W : WX} {a b c d : Expr} {ma mb mc md : ME} {ta tb tc td : TE} {pos : Pos}
theorem pe_ch3 {op op' op'' : CmpOp} {r r' r'' : R2} (ho : OpR X (compareOp op) r) (ho' : OpR X (compareOp op') r') (ho'' : OpR X (compareOp op'') r'') (ha : PE X a ta) (hb : PE X b tb) (hc : PE X c tc) (hd : PE X d td)
    (hm : lastMarks [op, op', op''] [b, c, d] = false := by with_unfolding_all rfl) : PE X (.Compare a [op, op', op''] [b, c, d] pos) (tCh3 r r' r'' ta tb tc td) := by
  refine ⟨fun pins s σ H Q I h => ?_⟩
  refine Compare_chain (thn (ha.run pins s σ H _ I h) fun v s1 ⟨x, H1, I1, r1, q1⟩ => chain_link (thn (hb.run pins s1 σ H1 _ I1 q1) fun u s2 ⟨y, H2, I2, r2, q2⟩ =>
    thn (ho pins s2 σ H2 x y v u _ I2 r1 r2 q2) fun e s3 ⟨z, H3, I3, r3, k, ek, q3⟩ => ?_)) hm
  subst ek
  cases r3
  refine wpAny_truthy_bool ?_
  cases k with
  | false => exact ite_ff ⟨.bl false, H3, I3, rfl, q3⟩
  | true =>
    refine ite_tt (chain_link (thn (hc.run pins s3 σ H3 _ I3 q3) fun w s4 ⟨y2, H4, I4, r4, q4⟩ => thn (ho' pins s4 σ H4 y y2 u w _ I4 r2 r4 q4) fun e2 s5 ⟨z2, H5, I5, r5, k2, ek2, q5⟩ => ?_))
    subst ek2
    cases r5
    refine wpAny_truthy_bool ?_
    cases k2 with
    | false => exact ite_ff ⟨.bl false, H5, I5, rfl, q5⟩
    | true => exact ite_tt (chain_last (thn (hd.run pins s5 σ H5 _ I5 q5) fun w2 s6 ⟨y3, H6, I6, r6, q6⟩ => ho'' pins s6 σ H6 y2 y3 w w2 Q I6 r4 r6 q6))
theorem ch3_go {g g' g'' : D → D → Option D} {K : PySem.W.Frag} {σ : L2.St} {H : Hp} {Q : VK} (h : tE K G O W (mChain3 g g' g'' ma mb mc md) σ H Q) : tCh3 (rD2 K g) (rD2 K g') (rD2 K g'') (tE K G O W ma) (tE K G O W mb) (tE K G O W mc) (tE K G O W md) σ H Q := by
  obtain ⟨A, ms, ρ, R, q⟩ := h
  refine ⟨A, ms, ρ, R, q.bind.mono ?_⟩
  rintro x H1 ⟨d, ρ1, R1, k1, r1, q1⟩
  refine ⟨A, ms, ρ1, R1, q1.bind.mono ?_⟩
  rintro y H2 ⟨d2, ρ2, R2', k2, r2, q2⟩
  obtain ⟨z, hz, q3⟩ := rp_of (rel := Rp K A) R2' q2.bind
  refine ⟨A, d, d2, z, R2'.trk, .of (r1.tr (R1.kt k2)), .of r2, hz, fun v H3 s r => ?_⟩
  obtain ⟨d3, ρ3, R3, k3, r3, q4⟩ := q3 v H3 s r
  cases d3 with
  | bl k =>
    cases r3
    refine ⟨_, rfl, ?_⟩
    cases k with
    | true =>
      rw [if_pos rfl]
      refine ⟨A, ms, ρ3, R3, RPost.mono (RPost.bind q4) ?_⟩
      rintro w H4 ⟨d4, ρ4, R4, k4, r4, q5⟩
      obtain ⟨z2, hz2, q6⟩ := rp_of (rel := Rp K A) R4 q5.bind
      refine ⟨A, d2, d4, z2, R4.trk, .of ((r2.tr (R2'.kt k3)).tr (R3.kt k4)), .of r4, hz2, fun v2 H5 s2 rr2 => ?_⟩
      obtain ⟨d5, ρ5, R5, k5, r5, q7⟩ := q6 v2 H5 s2 rr2
      cases d5 with
      | bl kk =>
        cases r5
        refine ⟨_, rfl, ?_⟩
        cases kk with
        | true =>
          rw [if_pos rfl]
          refine ⟨A, ms, ρ5, R5, RPost.mono (RPost.bind q7) ?_⟩
          rintro w2 H6 ⟨d6, ρ6, R6, k6, r6, q8⟩
          obtain ⟨z3, hz3, q9⟩ := rp_of R6 q8
          exact ⟨A, d4, d6, z3, R6.trk, .of ((r4.tr (R4.kt k5)).tr (R5.kt k6)), .of r6, hz3, q9⟩
        | false =>
          rw [if_neg Bool.false_ne_true]
          exact q7 _ H5 R5 Kp.refl (.bl false)
      | _ => exact q7.elim
    | false =>
      rw [if_neg Bool.false_ne_true]
      exact q4 _ H3 R3 Kp.refl (.bl false)
  | _ => exact q4.elim
theorem de_chain3 {op op' op'' : CmpOp} {g g' g'' : D → D → Option D} (ho : OpR X (compareOp op) (rD2 X.K g)) (ho' : OpR X (compareOp op') (rD2 X.K g')) (ho'' : OpR X (compareOp op'') (rD2 X.K g'')) (ha : DE X G O W a ma) (hb : DE X G O W b mb) (hc : DE X G O W c mc) (hd : DE X G O W d md)
    (hm : lastMarks [op, op', op''] [b, c, d] = false := by with_unfolding_all rfl) : DE X G O W (.Compare a [op, op', op''] [b, c, d] pos) (mChain3 g g' g'' ma mb mc md) :=
  pe_imp (pe_ch3 ho ho' ho'' ha hb hc hd hm) fun _ _ _ h => ch3_go h
end
end DL
namespace DL
open L2 PySem PySem.Spec PyProof.Rows
theorem traced_of {h B : Heap} {e : Addr} {Z Z' : Obj → Prop} {fl : Value} (z : ∀ o, Z o → Z' o) : HandSPX.TracedZ h B e Z fl → HandSPX.TracedZ h B e Z' fl
  | ⟨oe, vs, T, oT, ts, he, hz, r⟩ => ⟨oe, vs, T, oT, ts, he, z _ hz, r⟩
theorem sky_of {B : Heap} {l : List Env} {a L : Addr} {Z Z' : Obj → Prop} {h : Heap} (z : ∀ o, Z o → Z' o) : Sky B l a Z L h → Sky B l a Z' L h
  | .inl ⟨x1, x2, x3, oe, vs, he, hz, r⟩ => .inl ⟨x1, x2, x3, oe, vs, he, z _ hz, r⟩
  | .inr (.inl ⟨x1, x2, x3, t⟩) => .inr (.inl ⟨x1, x2, x3, traced_of z t⟩)
  | .inr (.inr ⟨x1, x2, x3, t⟩) => .inr (.inr ⟨x1, x2, x3, traced_of z t⟩)
theorem takes_n {X : Cx} {W : WX} (t : L2.Takes X W) : L2N.Takes X W := fun u s' ⟨a, B, sI, pins, σ, H, cls, d, e, I, nb, up, sky, r⟩ =>
  t u s' ⟨a, B, sI, pins, σ, H, cls, d, e, I, nb, up, sky_of (fun o h => L2N.Zn.zc h) sky, r⟩
def noX : Out → Out
  | .ex _ _ => .bad
  | o => o
def msTryO (mt : Str → Option Bool) (mb ms : MS) : MS := fun ρ => match mb ρ with
  | .ex y ρ1 => match mt y.c with
    | some true => match y.fs with
      | [] => noX (ms ρ1)
      | _ => .bad
    | _ => .bad
  | o => o
section
variable {X : Cx} {G : Gd} {XC : List Nat → Prop} {Ol O : List Nat} {W : WX} {fr : Bool} {pos : Pos} {x : Str}
theorem ds_tryOnly {c : Value} {body suite : List Stmt} {b₀ : Stmt} {np pos' : Pos} {mt : Str → Option Bool} {mb ms : MS} (hx : XC O) (hs : X.stack = X.env :: X.outer) (hf : X.env.frame = some X.env.locals) (hc : Names X x c)
    (hmt : Mt X c mt)
    (hb : ∀ (W : WX) (pn : List (Addr × Obj)) (xe : Value → Shared → Prop), L2N.Takes (X.tr pn xe) W → PassesOwn (model X.prog X.w) X.A X.env xe → DSs (X.tr pn xe) G (fun o => o = O) Ol O O W fr body mb)
    (hsu : ∀ (a : Addr) (oe : Obj) (pn : List (Addr × Obj)), DSs (X.suite a ((a, oe) :: pn)) G (fun o => o = O) Ol O O W0 fr (b₀ :: suite) ms) :
    DS X G XC Ol O O W fr (.Try body [.ExceptHandler (some (.Name x np)) none (b₀ :: suite) pos'] [] [] pos) (msTryO mt mb ms) := by
  let ts : Addr → Value → Option Addr → TS := fun a cls d D σ H => tS X.K G (fun o => o = O) Ol O O W0 fr ms D σ H
  have tk0 : L2.Takes X W0 := fun u s' ⟨a, B, sI, pins, σ, H, cls, d, e, I, nb, up, sky, na, os, ag, w⟩ => w.elim
  refine ps_imp (L2.ps_try_only (ts := ts) (Wout := W0) (tb := fun W => tS X.K G (fun o => o = O) Ol O O W fr mb) hs hf hc tk0 (fun W pn xe t p => hb W pn xe (takes_n t) p) (fun a oe cls d pn hz hd => hsu a oe pn)) fun D0 σ H ⟨A, ms', ρ, R, q⟩ => ?_
  refine ⟨A, ms', ρ, R, ?_⟩
  unfold msTryO at q
  cases hm : mb ρ with
  | nx ρ1 => rw [hm] at q; exact q
  | rt d ρ1 => rw [hm] at q; exact q
  | bk ρ1 => rw [hm] at q; exact q
  | ct ρ1 => rw [hm] at q; exact q
  | bad => rw [hm] at q; exact q.elim
  | ex y ρ1 =>
    rw [hm] at q
    intro dx σ1 H1 A1 ms1 O'' hO R1 t1 xr
    have hO' : O'' = O := hO
    subst hO'
    have q1 := SPost.from t1 q
    have q1 : SPost X.K G XC Ol O'' W fr A1 H1 D0 (match mt y.c with
      | some true => match y.fs with
        | [] => noX (ms ρ1)
        | _ => .bad
      | _ => .bad) := q1
    cases hb1 : mt y.c with
    | none => simp only [hb1] at q1; exact q1.elim
    | some b =>
      cases b with
      | false => simp only [hb1] at q1; exact q1.elim
      | true =>
        simp only [hb1] at q1
        refine ⟨true, hmt _ _ hb1, fun _ a na => ?_, fun e1 => by cases e1⟩
        obtain ⟨yc, yf⟩ := y
        cases yf with
        | cons _ _ => exact q1.elim
        | nil =>
          have q2 : SPost X.K G XC Ol O'' W fr A1 H1 D0 (noX (ms ρ1)) := q1
          refine ⟨A1, _, _, R1, ?_⟩
          cases hr : ms ρ1 with
          | nx ρ2 => rw [hr] at q2; exact q2
          | bk ρ2 => rw [hr] at q2; exact q2
          | ct ρ2 => rw [hr] at q2; exact q2
          | rt d ρ2 => rw [hr] at q2; exact q2
          | ex z ρ2 => rw [hr] at q2; exact q2.elim
          | bad => rw [hr] at q2; exact q2.elim
end
end DL
namespace DL
open L2 PySem PySem.Spec PyProof.Rows
section
variable {X : Cx} {G : Gd} {O : List Nat} {W : WX} {k : Nat} {f : Addr} {F : FN} {x : Str} {p pos : Pos}
theorem tCallG_nil {K : PySem.W.Frag} {fr : Bool} {σ : L2.St} {H : Hp} {Q : VK} (h : tCallG K false fr F W (tA K G O W mNil) σ H Q) : tCallG K false fr F W tNil σ H Q :=
  tNil_go h
theorem de_call0 (C : FnG X.prog X.w X.K X.mg X.base k f false false F) (hr : Room k X.A) (hg : X.A.guards = some []) (tk : L2N.Takes X W) (hn : Gl X x) (hm : X.mg x = some (.ref f)) (hdb : (x == ("__debug__" : Str)) = false := by decide) :
    DE X G O W (.Call (.Name x p) [] [] pos) (mCall F mNil) := pe_imp (pe_callG0 C hr hg tk hn hm hdb) fun _ _ _ h => tCallG_nil (call_goE h)
theorem df_call0 (C : FnG X.prog X.w X.K X.mg X.base k f false true F) (hr : Room k X.A) (hg : X.A.guards = some []) (tk : L2N.Takes X W) (hn : Gl X x) (hm : X.mg x = some (.ref f)) (hdb : (x == ("__debug__" : Str)) = false := by decide) :
    DF X G O W (.Call (.Name x p) [] [] pos) (mCall F mNil) := pe_imp (pe_callG0 C hr hg tk hn hm hdb) fun _ _ _ h => tCallG_nil (call_goF h)
end
end DL
namespace DL
open L2 PySem PySem.Spec PyProof.Rows
def lcLoop2 (vs : List Nat) (g : MG) (mt : MT) (mi1 : En → R (List D)) (vs1 : List Nat) (g1 : MG) (mt1 : MT) (me : ME) : List D → En → R (List D)
  | [], ρ => .ok [] ρ
  | d :: r, ρ => match g d (wipeE ρ vs) with
    | .ok _ ρ1 => match mt ρ1 with
      | .ok true ρ2 => match mi1 ρ2 with
        | .ok es ρ3 => match lcLoop vs1 g1 mt1 me es ρ3 with
          | .ok ys ρ4 => match lcLoop2 vs g mt mi1 vs1 g1 mt1 me r ρ4 with
            | .ok zs ρ5 => .ok (ys ++ zs) ρ5
            | _ => .bad
          | _ => .bad
        | _ => .bad
      | .ok false ρ2 => lcLoop2 vs g mt mi1 vs1 g1 mt1 me r ρ2
      | _ => .bad
    | _ => .bad
def mLc2 (vs : List Nat) (mi : En → R (List D)) (g : MG) (mt : MT) (mi1 : En → R (List D)) (vs1 : List Nat) (g1 : MG) (mt1 : MT) (me : ME) : ME := fun ρ => (mi ρ).bind fun ds ρ1 => match lcLoop2 vs g mt mi1 vs1 g1 mt1 me ds ρ1 with
  | .ok ys ρ2 => if ys.length ≤ sizeLine then .ok (.lst ys) (restE ρ1 vs ρ2) else .bad
  | _ => .bad
section
variable {X : Cx} {G : Gd} {O : List Nat} {W : WX}
theorem wipeE_at {ρ : En} {i : Nat} : ∀ {vs : List Nat}, i ∈ vs → i < ρ.length → (wipeE ρ vs)[i]? = some none
  | v :: vs, h, hl => by
    show ((wipeE ρ vs).set v none)[i]? = _
    by_cases e : i = v
    · subst e
      exact List.getElem?_set_self (by rw [wipeE_len]; exact hl)
    · rw [set_get_ne e]
      exact wipeE_at ((List.mem_cons.mp h).resolve_left e) hl
theorem wipeE_sub {ρ : En} {vs vs1 : List Nat} (h : ∀ i ∈ vs1, i ∈ vs) : wipeE (wipeE ρ vs1) vs = wipeE ρ vs := by
  apply List.ext_getElem?
  intro i
  by_cases m : i ∈ vs
  · by_cases hi : i < ρ.length
    · rw [wipeE_at m (by rw [wipeE_len]; exact hi), wipeE_at m hi]
    · rw [List.getElem?_eq_none (by rw [wipeE_len, wipeE_len]; omega), List.getElem?_eq_none (by rw [wipeE_len]; omega)]
  · rw [wipeE_out m, wipeE_out m, wipeE_out fun z => m (h i z)]
theorem wipe_sub {σ : L2.St} {vs vs1 : List Nat} (h : ∀ i ∈ vs1, i ∈ vs) : L2.wipe (L2.wipe σ vs1) vs = L2.wipe σ vs := by
  apply List.ext_getElem?
  intro i
  by_cases m : i ∈ vs
  · by_cases hi : i < σ.length
    · rw [wipe_at m (by rw [L2.wipe_length]; exact hi), wipe_at m hi]
    · rw [List.getElem?_eq_none (by rw [L2.wipe_length, L2.wipe_length]; omega), List.getElem?_eq_none (by rw [L2.wipe_length]; omega)]
  · rw [wipe_get m, wipe_get m, wipe_get fun z => m (h i z)]
theorem RelS.grew {K : PySem.W.Frag} {A : Addr → Prop} {ms : Nat → Option Addr} {σ : L2.St} {H : Hp} {ρ : En} {L : Addr} {o : HO} (R : RelS K G O (fun a => A a ∨ a = L) ms σ H ρ) (nL : ∀ i ∈ O, ms i ≠ some L) (hk : ∀ o, G.H0 L = some o → G.io ≠ some L → False) :
    RelS K G O (fun a => A a ∨ a = L) ms σ (upd H L o) ρ := by
  have tr7 : Tr (fun a => A a ∨ a = L) (fun a => A a ∨ a = L) H (upd H L o) := fun a u e n => ⟨upd_out a u e fun z => n (.inr z), n⟩
  exact {
    sub := R.sub
    trk0 := R.trk0
    trk := fun a z => by
      by_cases h : a = L
      · rw [h]; exact ⟨_, upd_same⟩
      · obtain ⟨u, e⟩ := R.trk a z
        exact ⟨u, upd_out a u e h⟩
    keep := fun a u e n => upd_out a u (R.keep a u e n) fun z => by
      subst z
      exact hk u e n
    len := R.len
    fz := fun j d e n => let ⟨v, e1, q⟩ := R.fz j d e n; ⟨v, e1, q.tr tr7⟩
    ow := fun j d e n => let ⟨p, e0, e1, q⟩ := R.ow j d e n; ⟨p, e0, e1, q.tr tr7 fun u z => upd_out _ _ z fun h => nL j n (h ▸ e0)⟩
    inA := R.inA
    ok := R.ok
    dist := R.dist
    px := R.px
    io := R.io }
theorem lc_in {K : PySem.W.Frag} {A : Addr → Prop} {ms : Nat → Option Addr} {σ : L2.St} {H1 : Hp} {ρ1 ρf : En} {vs : List Nat} {g : MG} {mt : MT} {me : ME} {tt : TT} {J : It} {ds ys acc0 : List D} {ws0 : List V} {L : Addr} {Nx : Hp → Prop} (hv : ∀ i ∈ vs, i ∉ O)
    (htt : ∀ σ H Q, tT K G O W0 mt σ H Q → tt σ H Q) (R1 : RelS K G O (fun a => A a ∨ a = L) ms σ H1 ρ1) (nL : ∀ i ∈ O, ms i ≠ some L) (hk : ∀ o, G.H0 L = some o → G.io ≠ some L → False) (hL : H1 L = some (.lst ws0)) (r0 : RpA K (fun a => A a ∨ a = L) H1 ws0 acc0)
    (it : ItOk K (fun a => A a ∨ a = L) H1 J ds) (hl : lcLoop vs g mt me ds ρ1 = .ok ys ρf) (hz : acc0.length + ys.length ≤ sizeLine)
    (q : ∀ H' ws, RelS K G O (fun a => A a ∨ a = L) ms (L2.wipe σ vs) H' (wipeE ρf vs) → (∀ a o, H1 a = some o → a ≠ L → (∀ i ∈ O, ms i ≠ some a) → H' a = some o) → H' L = some (.lst ws) → RpA K (fun a => A a ∨ a = L) H' ws (acc0 ++ ys) → ρf.length = ρ1.length → Nx H') :
    ∃ W1 : Nat → Nat → Hp → Prop, (∃ m, W1 0 m H1) ∧ ∀ j k H, W1 j k H →
      (J.stop j H ∧ Nx H) ∨ (J.go j H ∧ ∃ Nx1 : Hp → Prop, (∀ H', Nx1 H' → ∃ k', k' < k ∧ W1 (j + 1) k' H') ∧ ∀ x H', J.yld j H x H' → tG K G O vs g x (L2.wipe σ vs) H' fun σ3 H5 => L2.wipe σ3 vs = L2.wipe σ vs ∧ tt σ3 H5 fun b H6 =>
        if b = true then tE K G O W0 me σ3 H6 fun y H7 => ∃ acc, H7 L = some (.lst acc) ∧ acc.length < sizeLine ∧ Nx1 (upd H7 L (.lst (acc ++ [y]))) else Nx1 H6) := by
  have t0 : Tr (fun a => A a ∨ a = L) (fun a => A a ∨ a = L) H1 H1 := fun a u e n => ⟨e, n⟩
  refine ⟨fun i m H => i ≤ ds.length ∧ m = ds.length - i ∧ (∃ ρi acc y0 rest, RelS K G O (fun a => A a ∨ a = L) ms (L2.wipe σ vs) H (wipeE ρi vs) ∧ (∀ a o, H1 a = some o → a ≠ L → (∀ i ∈ O, ms i ≠ some a) → H a = some o) ∧ H L = some (.lst acc) ∧ RpA K (fun a => A a ∨ a = L) H acc (acc0 ++ y0) ∧
    lcLoop vs g mt me (ds.drop i) ρi = .ok rest ρf ∧ ys = y0 ++ rest ∧ ρi.length = ρ1.length), ⟨ds.length, Nat.zero_le _, rfl, ρ1, ws0, [], ys, R1.wipe vs hv, fun _ _ e _ _ => e, hL, by rw [List.append_nil]; exact r0, hl, rfl, rfl⟩, ?_⟩
  rintro i m H ⟨hi, rfl, ρi, acc, y0, rest, R, k, hacc, racc, hrest, hys, hlen⟩
  have kA : Tr (fun a => A a ∨ a = L) (fun a => A a ∨ a = L) H1 H := fun a u e n => ⟨k a u e (fun z => n (.inr z)) fun i m z => n (R1.inA i a m z), n⟩
  obtain ⟨goes, stops⟩ := it _ H kA R.trk
  by_cases hlt : i < ds.length
  · have hd : ds[i]? = some ds[i] := List.getElem?_eq_getElem hlt
    obtain ⟨go, yl⟩ := goes i _ hd
    have e : ds.drop i = ds[i] :: ds.drop (i + 1) := List.drop_eq_getElem_cons hlt
    rw [e] at hrest
    refine .inr ⟨go, fun H' => (∃ ρi acc y0 rest, RelS K G O (fun a => A a ∨ a = L) ms (L2.wipe σ vs) H' (wipeE ρi vs) ∧ (∀ a o, H1 a = some o → a ≠ L → (∀ i ∈ O, ms i ≠ some a) → H' a = some o) ∧ H' L = some (.lst acc) ∧ RpA K (fun a => A a ∨ a = L) H' acc (acc0 ++ y0) ∧
      lcLoop vs g mt me (ds.drop (i + 1)) ρi = .ok rest ρf ∧ ys = y0 ++ rest ∧ ρi.length = ρ1.length), fun H' w => ⟨ds.length - (i + 1), by omega, hlt, rfl, w⟩, fun x H3 hy => ?_⟩
    obtain ⟨s3, rx⟩ := yl x H3 hy
    have R3 := R.same s3
    refine ⟨_, ms, wipeE ρi vs, ds[i], R3, rx, ?_⟩
    unfold lcLoop at hrest
    cases hg : g ds[i] (wipeE ρi vs) with
    | bad => rw [hg] at hrest; cases hrest
    | ex y ρ2 => rw [hg] at hrest; cases hrest
    | ok u ρ2 =>
      rw [hg] at hrest
      intro σ4 H4 e4 R4 k4
      refine ⟨wipe_eq e4, htt _ _ _ ⟨_, ms, ρ2, R4, ?_⟩⟩
      cases hmt : mt ρ2 with
      | bad => simp only [hmt] at hrest; cases hrest
      | ex y ρ3 => simp only [hmt] at hrest; cases hrest
      | ok b ρ3 =>
        simp only [hmt] at hrest
        intro b' H5 R5 k5 hb
        cases hb
        have len5 : ρ3.length = ρ1.length := by rw [← R5.len, e4.1, L2.wipe_length, R1.len]
        have k5' : ∀ a o, H1 a = some o → a ≠ L → (∀ i ∈ O, ms i ≠ some a) → H5 a = some o := fun a o h1 h2 h3 => k5 a o (k4 a o (s3 _ _ (k a o h1 h2 h3)) h3) h3
        have acc5 : H5 L = some (.lst acc) := k5 _ _ (k4 _ _ (s3 _ _ hacc) nL) nL
        have tr5 : Tr (fun a => A a ∨ a = L) (fun a => A a ∨ a = L) H H5 := ((Tr.same s3).trans (R.kt k4)).trans (R.kt k5)
        cases b with
        | false =>
          rw [if_neg Bool.false_ne_true]
          exact ⟨ρ3, acc, y0, rest, R5.rewipe hv e4, k5', acc5, racc.tr tr5, hrest, hys, len5⟩
        | true =>
          rw [if_pos rfl]
          refine ⟨_, ms, ρ3, R5, ?_⟩
          cases hme : me ρ3 with
          | bad => simp only [hme] at hrest; cases hrest
          | ex y ρ4 => simp only [hme] at hrest; cases hrest
          | ok y ρ4 =>
            simp only [hme] at hrest
            cases hr : lcLoop vs g mt me (ds.drop (i + 1)) ρ4 with
            | bad => simp only [hr] at hrest; cases hrest
            | ex z ρ5 => simp only [hr] at hrest; cases hrest
            | ok ys' ρ5 =>
              simp only [hr] at hrest
              cases hrest
              intro w H6 R6 k6 rw6
              have acc6 : H6 L = some (.lst acc) := k6 _ _ acc5 nL
              have al : (fun a => A a ∨ a = L) L := .inr rfl
              have lenacc : acc.length < sizeLine := by
                have := racc.length
                rw [List.length_append] at this
                rw [hys, List.length_append, List.length_cons] at hz
                omega
              refine ⟨acc, acc6, lenacc, ρ4, acc ++ [w], y0 ++ [y], ys', (R6.rewipe hv e4).grew nL hk, ?_, upd_same, ?_, hr, by rw [hys]; simp, by rw [← R6.len, e4.1, L2.wipe_length, R1.len]⟩
              · exact fun a o h1 h2 h3 => upd_out a o (k6 a o (k5' a o h1 h2 h3) h3) h2
              · rw [← List.append_assoc]
                exact ((racc.tr (tr5.trans (R5.kt k6))).upd al).app (.cons (rw6.upd al) .nil)
  · have e : i = ds.length := by omega
    subst e
    rw [List.drop_length] at hrest
    cases hrest
    rw [List.append_nil] at hys
    subst hys
    exact .inl ⟨stops, q H acc R k hacc racc hlen⟩
theorem lc2_goes {K : PySem.W.Frag} {A : Addr → Prop} {ms : Nat → Option Addr} {σ : L2.St} {H1 : Hp} {ρ1 ρf : En} {vs vs1 : List Nat} {g g1 : MG} {mt mt1 : MT} {mi1 : En → R (List D)} {me : ME} {tt tt1 : TT} {J : It} {ds ys : List D} {Q : VK} (hv : ∀ i ∈ vs, i ∉ O) (hv1 : ∀ i ∈ vs1, i ∈ vs)
    (htt : ∀ σ H Q, tT K G O W0 mt σ H Q → tt σ H Q) (htt1 : ∀ σ H Q, tT K G O W0 mt1 σ H Q → tt1 σ H Q) (R1 : RelS K G O A ms σ H1 ρ1) (it : ItOk K A H1 J ds) (hl : lcLoop2 vs g mt mi1 vs1 g1 mt1 me ds ρ1 = .ok ys ρf) (hz : ys.length ≤ sizeLine)
    (q : ∀ p H', RelS K G O A ms σ H' (restE ρ1 vs ρf) → RelS K G O (fun a => A a ∨ a = p) ms σ H' (restE ρ1 vs ρf) → Kp O ms H1 H' → H1 p = none → Own K (fun a => A a ∨ a = p) H' p (.lst ys) → Q (.ref p) H') :
    ∀ L, H1 L = none → ∃ Wv : Nat → Nat → Hp → Prop, (∃ m, Wv 0 m (upd H1 L (.lst []))) ∧ ∀ i m H, Wv i m H →
      (J.stop i H ∧ Q (.ref L) H) ∨ (J.go i H ∧ ∃ Nx : Hp → Prop, (∀ H', Nx H' → ∃ m', m' < m ∧ Wv (i + 1) m' H') ∧ ∀ x H', J.yld i H x H' → tG K G O vs g x (L2.wipe σ vs) H' fun σ2 H2 => L2.wipe σ2 vs = L2.wipe σ vs ∧ tt σ2 H2 fun b H3 =>
        if b = true then tI K G O W0 mi1 σ2 H3 fun J1 H4 => ∃ W1 : Nat → Nat → Hp → Prop, (∃ m, W1 0 m H4) ∧ ∀ j k H, W1 j k H →
          (J1.stop j H ∧ Nx H) ∨ (J1.go j H ∧ ∃ Nx1 : Hp → Prop, (∀ H', Nx1 H' → ∃ k', k' < k ∧ W1 (j + 1) k' H') ∧ ∀ x H', J1.yld j H x H' → tG K G O vs1 g1 x (L2.wipe σ2 vs1) H' fun σ3 H5 => L2.wipe σ3 vs1 = L2.wipe σ2 vs1 ∧ tt1 σ3 H5 fun b H6 =>
            if b = true then tE K G O W0 me σ3 H6 fun y H7 => ∃ acc, H7 L = some (.lst acc) ∧ acc.length < sizeLine ∧ Nx1 (upd H7 L (.lst (acc ++ [y]))) else Nx1 H6)
        else Nx H3) := by
  intro L hL
  have s0 : Same H1 (upd H1 L (.lst [])) := same_upd hL
  have R2 : RelS K G O (fun a => A a ∨ a = L) ms σ (upd H1 L (.lst [])) ρ1 := R1.grow hL s0 upd_same
  have nL : ∀ i ∈ O, ms i ≠ some L := R1.msne hL
  have hk : ∀ o, G.H0 L = some o → G.io ≠ some L → False := fun o e n => by
    have h0 := R1.keep L o e n
    rw [hL] at h0
    cases h0
  refine ⟨fun i m H => i ≤ ds.length ∧ m = ds.length - i ∧ (∃ ρi acc y0 rest, RelS K G O (fun a => A a ∨ a = L) ms (L2.wipe σ vs) H (wipeE ρi vs) ∧ (∀ a o, (upd H1 L (.lst [])) a = some o → a ≠ L → (∀ i ∈ O, ms i ≠ some a) → H a = some o) ∧ H L = some (.lst acc) ∧ RpA K (fun a => A a ∨ a = L) H acc y0 ∧
    lcLoop2 vs g mt mi1 vs1 g1 mt1 me (ds.drop i) ρi = .ok rest ρf ∧ ys = y0 ++ rest ∧ ρi.length = ρ1.length), ⟨ds.length, Nat.zero_le _, rfl, ρ1, [], [], ys, R2.wipe vs hv, fun _ _ e _ _ => e, upd_same, .nil, hl, rfl, rfl⟩, ?_⟩
  rintro i m H ⟨hi, rfl, ρi, acc, y0, rest, R, k, hacc, racc, hrest, hys, hlen⟩
  have kA : Tr A (fun a => A a ∨ a = L) H1 H := fun a u e n => by
    have nl : a ≠ L := fun z => by rw [z, hL] at e; cases e
    exact ⟨k a u (s0 _ _ e) nl fun i m z => n (R1.inA i a m z), fun z => z.elim n nl⟩
  obtain ⟨goes, stops⟩ := it _ H kA R.trk
  by_cases hlt : i < ds.length
  · have hd : ds[i]? = some ds[i] := List.getElem?_eq_getElem hlt
    obtain ⟨go, yl⟩ := goes i _ hd
    have e : ds.drop i = ds[i] :: ds.drop (i + 1) := List.drop_eq_getElem_cons hlt
    rw [e] at hrest
    refine .inr ⟨go, fun H' => (∃ ρi acc y0 rest, RelS K G O (fun a => A a ∨ a = L) ms (L2.wipe σ vs) H' (wipeE ρi vs) ∧ (∀ a o, (upd H1 L (.lst [])) a = some o → a ≠ L → (∀ i ∈ O, ms i ≠ some a) → H' a = some o) ∧ H' L = some (.lst acc) ∧ RpA K (fun a => A a ∨ a = L) H' acc y0 ∧
      lcLoop2 vs g mt mi1 vs1 g1 mt1 me (ds.drop (i + 1)) ρi = .ok rest ρf ∧ ys = y0 ++ rest ∧ ρi.length = ρ1.length), fun H' w => ⟨ds.length - (i + 1), by omega, hlt, rfl, w⟩, fun x H3 hy => ?_⟩
    obtain ⟨s3, rx⟩ := yl x H3 hy
    have R3 := R.same s3
    refine ⟨_, ms, wipeE ρi vs, ds[i], R3, rx, ?_⟩
    unfold lcLoop2 at hrest
    cases hg : g ds[i] (wipeE ρi vs) with
    | bad => rw [hg] at hrest; cases hrest
    | ex y ρ2 => rw [hg] at hrest; cases hrest
    | ok u ρ2 =>
      rw [hg] at hrest
      intro σ4 H4 e4 R4 k4
      refine ⟨wipe_eq e4, htt _ _ _ ⟨_, ms, ρ2, R4, ?_⟩⟩
      cases hmt : mt ρ2 with
      | bad => simp only [hmt] at hrest; cases hrest
      | ex y ρ3 => simp only [hmt] at hrest; cases hrest
      | ok b ρ3 =>
        simp only [hmt] at hrest
        intro b' H5 R5 k5 hb
        cases hb
        have len5 : ρ3.length = ρ1.length := by rw [← R5.len, e4.1, L2.wipe_length, R1.len]
        have k5' : ∀ a o, (upd H1 L (.lst [])) a = some o → a ≠ L → (∀ i ∈ O, ms i ≠ some a) → H5 a = some o := fun a o h1 h2 h3 => k5 a o (k4 a o (s3 _ _ (k a o h1 h2 h3)) h3) h3
        have acc5 : H5 L = some (.lst acc) := k5 _ _ (k4 _ _ (s3 _ _ hacc) nL) nL
        have tr5 : Tr (fun a => A a ∨ a = L) (fun a => A a ∨ a = L) H H5 := ((Tr.same s3).trans (R.kt k4)).trans (R.kt k5)
        cases b with
        | false =>
          rw [if_neg Bool.false_ne_true]
          exact ⟨ρ3, acc, y0, rest, R5.rewipe hv e4, k5', acc5, racc.tr tr5, hrest, hys, len5⟩
        | true =>
          rw [if_pos rfl]
          refine ⟨_, ms, ρ3, R5, ?_⟩
          cases hmi : mi1 ρ3 with
          | bad => simp only [hmi] at hrest; cases hrest
          | ex y ρ4 => simp only [hmi] at hrest; cases hrest
          | ok es ρ4 =>
            simp only [hmi] at hrest
            cases hin : lcLoop vs1 g1 mt1 me es ρ4 with
            | bad => simp only [hin] at hrest; cases hrest
            | ex z ρ5 => simp only [hin] at hrest; cases hrest
            | ok ys1 ρ5 =>
              simp only [hin] at hrest
              cases hr : lcLoop2 vs g mt mi1 vs1 g1 mt1 me (ds.drop (i + 1)) ρ5 with
              | bad => simp only [hr] at hrest; cases hrest
              | ex z ρ6 => simp only [hr] at hrest; cases hrest
              | ok zs ρ6 =>
                simp only [hr] at hrest
                cases hrest
                intro J1 H6 R6 k6 it6
                have acc6 : H6 L = some (.lst acc) := k6 _ _ acc5 nL
                have racc6 := racc.tr (tr5.trans (R5.kt k6))
                have k6' : ∀ a o, (upd H1 L (.lst [])) a = some o → a ≠ L → (∀ i ∈ O, ms i ≠ some a) → H6 a = some o := fun a o h1 h2 h3 => k6 a o (k5' a o h1 h2 h3) h3
                refine lc_in (fun i m => hv i (hv1 i m)) htt1 R6 nL hk acc6 racc6 it6 hin ?_ ?_
                · rw [hys, List.length_append, List.length_append] at hz
                  omega
                · intro H7 ws R7 k7 hw7 rw7 len7
                  refine ⟨ρ5, ws, y0 ++ ys1, zs, ?_, fun a o h1 h2 h3 => k7 a o (k6' a o h1 h2 h3) h2 h3, hw7, rw7, hr, by rw [hys, List.append_assoc], ?_⟩
                  · have := R7.wipe vs hv
                    rw [wipeE_sub hv1, wipe_sub hv1, wipe_eq e4] at this
                    exact this
                  · rw [len7, ← R6.len, e4.1, L2.wipe_length, R1.len]
  · have e : i = ds.length := by omega
    subst e
    rw [List.drop_length] at hrest
    cases hrest
    rw [List.append_nil] at hys
    subst hys
    refine .inl ⟨stops, ?_⟩
    have Rf : RelS K G O (fun a => A a ∨ a = L) ms σ H (restE ρ1 vs ρf) := RelS.rest hv R1 kA R hlen
    have kf : Kp O ms H1 H := fun a o e n => k a o (s0 _ _ e) (fun z => by rw [z, hL] at e; cases e) n
    exact q L H (Rf.less (fun a z => .inl z) R1.sub fun j p m z => R1.inA j p m z) Rf kf hL (.lst hacc racc)
theorem lc2_go {K : PySem.W.Frag} {own : List (Str × Nat)} {vs1 : List Nat} {mi mi1 : En → R (List D)} {g g1 : MG} {mt mt1 : MT} {me : ME} {tt tt1 : TT} (hv : (ownS own).all (fun i => !O.contains i) = true) (hv1 : ∀ i ∈ vs1, i ∈ ownS own)
    (htt : ∀ σ H Q, tT K G O W0 mt σ H Q → tt σ H Q) (htt1 : ∀ σ H Q, tT K G O W0 mt1 σ H Q → tt1 σ H Q) {σ : L2.St} {H : Hp} {Q : VK} (h : tF K G O W (mLc2 (ownS own) mi g mt mi1 vs1 g1 mt1 me) σ H Q) :
    tLc2 (tI K G O W mi) (tG K G O (ownS own) g) tt (tI K G O W0 mi1) (tG K G O vs1 g1) tt1 (tE K G O W0 me) (own.map (·.2)) vs1 σ H Q := by
  have hv' : ∀ i ∈ ownS own, i ∉ O := fun i m z => by
    have := List.all_eq_true.mp hv i m
    rw [List.contains_iff_mem.mpr z] at this
    cases this
  obtain ⟨A, ms, ρ, R, q⟩ := h
  refine ⟨A, ms, ρ, R, ?_⟩
  unfold mLc2 at q
  cases hm : mi ρ with
  | bad => rw [hm] at q; exact q.elim
  | ex x ρ1 => rw [hm] at q; exact q
  | ok ds ρ1 =>
    rw [hm] at q
    intro J H1 R1 k1 itok
    have q1 : FPost K G O W A ms σ H Q (match lcLoop2 (ownS own) g mt mi1 vs1 g1 mt1 me ds ρ1 with
      | .ok ys ρ2 => if ys.length ≤ sizeLine then .ok (.lst ys) (restE ρ1 (ownS own) ρ2) else .bad
      | _ => .bad) := q
    cases hl : lcLoop2 (ownS own) g mt mi1 vs1 g1 mt1 me ds ρ1 with
    | bad => rw [hl] at q1; exact q1.elim
    | ex x ρ2 => rw [hl] at q1; exact q1.elim
    | ok ys ρ2 =>
      rw [hl] at q1
      have q2 : FPost K G O W A ms σ H Q (if ys.length ≤ sizeLine then .ok (.lst ys) (restE ρ1 (ownS own) ρ2) else .bad) := q1
      split at q2
      · rename_i hz
        exact lc2_goes hv' hv1 htt htt1 R1 itok hl hz fun p H' r1 r2 k hp ow => q2 p H' r1 r2 (k1.trans k) (Kp.none R1 k1 hp) ow
      · exact q2.elim
variable {XC : List Nat → Prop} {Ol O' : List Nat} {fr : Bool} {y : Str} {i : Nat} {py spos : Pos} {elt tg iter tg1 iter1 : Expr} {ifs ifs1 : List Expr} {scope : Scope} {own : List (Str × Nat)} {vs1 : List Nat} {pos : Pos} {mi mi1 : En → R (List D)} {g g1 : MG} {mt mt1 : MT} {me : ME}
structure DTs (X : Cx) (G : Gd) (O : List Nat) (es : List Expr) (m : MT) : Prop where
  go : ∃ tt : TT, (∀ σ H Q, tT X.K G O W0 m σ H Q → tt σ H Q) ∧ PTs X es tt
theorem dts_no : DTs X G O [] mYes := ⟨tYes, tYes_go, pts_nil⟩
theorem dts_one {c : Expr} (h : DT X G O W0 c mt) : DTs X G O [c] mt := ⟨tT X.K G O W0 mt, fun _ _ _ z => z, pts_one h⟩
theorem DTs.pts {es : List Expr} (h : DTs X G O es mt) : PTs X es (tT X.K G O W0 mt) := by
  obtain ⟨tt, h1, h2⟩ := h.go
  exact ⟨fun pins s σ H Q I q => h2.run pins s σ H Q I (h1 σ H Q q)⟩
theorem df_lc2 (hc : X.calm = true) (hN : X.N.Nodup) (hv : (ownS own).all (fun i => !O.contains i) = true) (hi : DI X G O W tg iter mi) (ok : BlkOk X.N X.env.scope scope own) (hv1 : vs1.all (fun i => (ownS own).contains i) = true)
    (hg : ∀ (s : Shared) (H : Hp) (C : Addr) (cl : List (Str × Addr)) (fp : List Addr), DG (X.blk s H scope (compEnvC scope cl C X.env) fp) G O (ownS own) tg g)
    (ht : ∀ (s : Shared) (H : Hp) (C : Addr) (cl : List (Str × Addr)) (fp : List Addr), DTs (X.blk s H scope (compEnvC scope cl C X.env) fp) G O ifs mt)
    (hi1 : ∀ (s : Shared) (H : Hp) (C : Addr) (cl : List (Str × Addr)) (fp : List Addr), DI (X.blk s H scope (compEnvC scope cl C X.env) fp) G O W0 tg1 iter1 mi1)
    (hg1 : ∀ (s : Shared) (H : Hp) (C : Addr) (cl : List (Str × Addr)) (fp : List Addr), DG (X.blk s H scope (compEnvC scope cl C X.env) fp) G O vs1 tg1 g1)
    (ht1 : ∀ (s : Shared) (H : Hp) (C : Addr) (cl : List (Str × Addr)) (fp : List Addr), DTs (X.blk s H scope (compEnvC scope cl C X.env) fp) G O ifs1 mt1)
    (he : ∀ (s : Shared) (H : Hp) (C : Addr) (cl : List (Str × Addr)) (fp : List Addr), DE (X.blk s H scope (compEnvC scope cl C X.env) fp) G O W0 elt me) (hs : ∀ x, foldedSetIterable iter X.env x = pure x := by intro _; rfl) (hs1 : ∀ env x, foldedSetIterable iter1 env x = pure x := by intro _ _; rfl) :
    DF X G O W (.ListComp elt [⟨tg, iter, ifs, 0⟩, ⟨tg1, iter1, ifs1, 0⟩] scope pos) (mLc2 (ownS own) mi g mt mi1 vs1 g1 mt1 me) :=
  have hv1' : ∀ i ∈ vs1, i ∈ ownS own := fun i m => List.contains_iff_mem.mp (List.all_eq_true.mp hv1 i m)
  pe_imp (pe_lc2 (te := tE X.K G O W0 me) (tt := tT X.K G O W0 mt) (tt1 := tT X.K G O W0 mt1) (g := tG X.K G O (ownS own) g) (g1 := tG X.K G O vs1 g1) (wi1 := tI X.K G O W0 mi1) hc hN hi ok hv1' hg (fun s H C cl fp => (ht s H C cl fp).pts) hi1 hg1 (fun s H C cl fp => (ht1 s H C cl fp).pts) he hs hs1) fun _ _ _ h => lc2_go hv hv1' (fun _ _ _ z => z) (fun _ _ _ z => z) h
theorem ds_setLc2 (hx : XC O) (oi : O.contains i = false) (hc : X.calm = true) (hN : X.N.Nodup) (hy : X.N[i]? = some y) (hyl : X.env.scope.names.lookup y = some .local) (hsw : swapsWith (.ListComp elt [⟨tg, iter, ifs, 0⟩, ⟨tg1, iter1, ifs1, 0⟩] scope pos) (some (.Name y py)) spos.line X.env = pure true) (hv : (ownS own).all (fun i => !O.contains i) = true)
    (hi : DI X G O W tg iter mi) (ok : BlkOk X.N X.env.scope scope own) (hv1 : vs1.all (fun i => (ownS own).contains i) = true)
    (hg : ∀ (s : Shared) (H : Hp) (C : Addr) (cl : List (Str × Addr)) (fp : List Addr), DG (X.blk s H scope (compEnvC scope cl C X.env) fp) G O (ownS own) tg g)
    (ht : ∀ (s : Shared) (H : Hp) (C : Addr) (cl : List (Str × Addr)) (fp : List Addr), DTs (X.blk s H scope (compEnvC scope cl C X.env) fp) G O ifs mt)
    (hi1 : ∀ (s : Shared) (H : Hp) (C : Addr) (cl : List (Str × Addr)) (fp : List Addr), DI (X.blk s H scope (compEnvC scope cl C X.env) fp) G O W0 tg1 iter1 mi1)
    (hg1 : ∀ (s : Shared) (H : Hp) (C : Addr) (cl : List (Str × Addr)) (fp : List Addr), DG (X.blk s H scope (compEnvC scope cl C X.env) fp) G O vs1 tg1 g1)
    (ht1 : ∀ (s : Shared) (H : Hp) (C : Addr) (cl : List (Str × Addr)) (fp : List Addr), DTs (X.blk s H scope (compEnvC scope cl C X.env) fp) G O ifs1 mt1)
    (he : ∀ (s : Shared) (H : Hp) (C : Addr) (cl : List (Str × Addr)) (fp : List Addr), DE (X.blk s H scope (compEnvC scope cl C X.env) fp) G O W0 elt me) (hs : ∀ x, foldedSetIterable iter X.env x = pure x := by intro _; rfl) (hs1 : ∀ env x, foldedSetIterable iter1 env x = pure x := by intro _ _; rfl) :
    DS X G XC Ol O O W fr (.Assign [.Name y py] (.ListComp elt [⟨tg, iter, ifs, 0⟩, ⟨tg1, iter1, ifs1, 0⟩] scope pos) spos) (msAsg (mLc2 (ownS own) mi g mt mi1 vs1 g1 mt1 me) (mgName i)) :=
  have hv1' : ∀ i ∈ vs1, i ∈ ownS own := fun i m => List.contains_iff_mem.mp (List.all_eq_true.mp hv1 i m)
  ps_imp (ps_setLc2 (te := tE X.K G O W0 me) (tt := tT X.K G O W0 mt) (tt1 := tT X.K G O W0 mt1) (g := tG X.K G O (ownS own) g) (g1 := tG X.K G O vs1 g1) (wi1 := tI X.K G O W0 mi1) hc hN hy hyl hsw hi ok hv1' hg (fun s H C cl fp => (ht s H C cl fp).pts) hi1 hg1 (fun s H C cl fp => (ht1 s H C cl fp).pts) he hs hs1) fun D0 σ H h => lc2_go (W := W) hv hv1' (fun _ _ _ z => z) (fun _ _ _ z => z) (tE_tF (put_post hx oi h))
theorem ds_ownLc2 (hx : XC O) (oi : O.contains i = true) (h0 : i ≠ 0 ∨ G.io = none) (hc : X.calm = true) (hN : X.N.Nodup) (hy : X.N[i]? = some y) (hyl : X.env.scope.names.lookup y = some .local) (hsw : swapsWith (.ListComp elt [⟨tg, iter, ifs, 0⟩, ⟨tg1, iter1, ifs1, 0⟩] scope pos) (some (.Name y py)) spos.line X.env = pure true) (hv : (ownS own).all (fun i => !O.contains i) = true)
    (hi : DI X G O W tg iter mi) (ok : BlkOk X.N X.env.scope scope own) (hv1 : vs1.all (fun i => (ownS own).contains i) = true)
    (hg : ∀ (s : Shared) (H : Hp) (C : Addr) (cl : List (Str × Addr)) (fp : List Addr), DG (X.blk s H scope (compEnvC scope cl C X.env) fp) G O (ownS own) tg g)
    (ht : ∀ (s : Shared) (H : Hp) (C : Addr) (cl : List (Str × Addr)) (fp : List Addr), DTs (X.blk s H scope (compEnvC scope cl C X.env) fp) G O ifs mt)
    (hi1 : ∀ (s : Shared) (H : Hp) (C : Addr) (cl : List (Str × Addr)) (fp : List Addr), DI (X.blk s H scope (compEnvC scope cl C X.env) fp) G O W0 tg1 iter1 mi1)
    (hg1 : ∀ (s : Shared) (H : Hp) (C : Addr) (cl : List (Str × Addr)) (fp : List Addr), DG (X.blk s H scope (compEnvC scope cl C X.env) fp) G O vs1 tg1 g1)
    (ht1 : ∀ (s : Shared) (H : Hp) (C : Addr) (cl : List (Str × Addr)) (fp : List Addr), DTs (X.blk s H scope (compEnvC scope cl C X.env) fp) G O ifs1 mt1)
    (he : ∀ (s : Shared) (H : Hp) (C : Addr) (cl : List (Str × Addr)) (fp : List Addr), DE (X.blk s H scope (compEnvC scope cl C X.env) fp) G O W0 elt me) (hs : ∀ x, foldedSetIterable iter X.env x = pure x := by intro _; rfl) (hs1 : ∀ env x, foldedSetIterable iter1 env x = pure x := by intro _ _; rfl)
    (hpx : NPx G i := by first | exact NPx.no rfl | assumption) :
    DS X G XC Ol O O W fr (.Assign [.Name y py] (.ListComp elt [⟨tg, iter, ifs, 0⟩, ⟨tg1, iter1, ifs1, 0⟩] scope pos) spos) (msOwn i (mLc2 (ownS own) mi g mt mi1 vs1 g1 mt1 me)) :=
  have hv1' : ∀ i ∈ vs1, i ∈ ownS own := fun i m => List.contains_iff_mem.mp (List.all_eq_true.mp hv1 i m)
  ps_imp (ps_setLc2 (te := tE X.K G O W0 me) (tt := tT X.K G O W0 mt) (tt1 := tT X.K G O W0 mt1) (g := tG X.K G O (ownS own) g) (g1 := tG X.K G O vs1 g1) (wi1 := tI X.K G O W0 mi1) hc hN hy hyl hsw hi ok hv1' hg (fun s H C cl fp => (ht s H C cl fp).pts) hi1 hg1 (fun s H C cl fp => (ht1 s H C cl fp).pts) he hs hs1) fun D0 σ H h => lc2_go (W := W) hv hv1' (fun _ _ _ z => z) (fun _ _ _ z => z) (own_post hx oi h0 hpx h)
end
end DL
namespace DL
open L2 PySem PySem.Spec PyProof.Rows
mutual
def relD (K : PySem.W.Frag) : Value → D → Bool
  | .none, .non => true
  | .bool b, .bl c => decide (b = c)
  | .int i _, .int j => decide (i = j)
  | .str x _, .str y => decide (x = y)
  | .ref a, .tup ds => match K.lookup a with
    | some ⟨.type c, _, .seq its _, _⟩ => decide (c = "tuple") && (decide (its.size ≤ sizeLine) && relDs K its.toList ds)
    | _ => false
  | .ref a, .scr ds => match K.lookup a with
    | some ⟨.type c, none, .seq its _, _⟩ => decide (c = "list") && (decide (its.size ≤ sizeLine) && relDs K its.toList ds)
    | _ => false
  | _, _ => false
def relDs (K : PySem.W.Frag) : List Value → List D → Bool
  | [], [] => true
  | u :: us, d :: ds => relD K u d && relDs K us ds
  | _, _ => false
end
mutual
theorem relD_ok {K : PySem.W.Frag} : ∀ {d : D} {u : Value}, relD K u d = true → ∃ v, RelV v u ∧ ∀ A H, Rp K A H v d
  | .non, u, h => by cases u <;> first | exact ⟨.non, rfl, fun _ _ => .non⟩ | (unfold relD at h; cases h)
  | .bl c, u, h => by
    cases u with
    | bool b => unfold relD at h; obtain rfl := of_decide_eq_true h; exact ⟨.bl b, rfl, fun _ _ => .bl b⟩
    | _ => unfold relD at h; cases h
  | .int c, u, h => by
    cases u with
    | int b t => unfold relD at h; obtain rfl := of_decide_eq_true h; exact ⟨.int b, ⟨t, rfl⟩, fun _ _ => .int b⟩
    | _ => unfold relD at h; cases h
  | .str c, u, h => by
    cases u with
    | str b t => unfold relD at h; obtain rfl := of_decide_eq_true h; exact ⟨.str b, ⟨t, rfl⟩, fun _ _ => .str b⟩
    | _ => unfold relD at h; cases h
  | .tup ds, u, h => by
    cases u with
    | ref a =>
      unfold relD at h
      split at h
      · rename_i c od its n sl e
        obtain ⟨h1, h2⟩ := He.ba h
        obtain ⟨h2, h3⟩ := He.ba h2
        obtain rfl := of_decide_eq_true h1
        obtain ⟨vs, r1, r2⟩ := relDs_ok h3
        exact ⟨.ref a, rfl, fun A H => .tup (.inr ⟨_, its, n, e, rfl, rfl, of_decide_eq_true h2, r1⟩) (r2 A H)⟩
      · cases h
    | _ => unfold relD at h; cases h
  | .scr ds, u, h => by
    cases u with
    | ref a =>
      unfold relD at h
      split at h
      · rename_i c its n sl e
        obtain ⟨h1, h2⟩ := He.ba h
        obtain ⟨h2, h3⟩ := He.ba h2
        obtain rfl := of_decide_eq_true h1
        obtain ⟨vs, r1, r2⟩ := relDs_ok h3
        exact ⟨.ref a, rfl, fun A H => .scr (.inr ⟨_, its, n, e, rfl, rfl, rfl, of_decide_eq_true h2, r1⟩) (r2 A H)⟩
      · cases h
    | _ => unfold relD at h; cases h
  | .lst ds, u, h => by cases u <;> (unfold relD at h; cases h)
  | .fn x, u, h => by cases u <;> (unfold relD at h; cases h)
  | .obj c fs, u, h => by cases u <;> (unfold relD at h; cases h)
  | .exn c fs, u, h => by cases u <;> (unfold relD at h; cases h)
theorem relDs_ok {K : PySem.W.Frag} : ∀ {ds : List D} {us : List Value}, relDs K us ds = true → ∃ vs, Vals vs us ∧ ∀ A H, RpA K A H vs ds
  | [], [], _ => ⟨[], .nil, fun _ _ => .nil⟩
  | [], u :: us, h => by unfold relDs at h; cases h
  | d :: ds, [], h => by unfold relDs at h; cases h
  | d :: ds, u :: us, h => by
    unfold relDs at h
    obtain ⟨h1, h2⟩ := He.ba h
    obtain ⟨v, r1, r2⟩ := relD_ok h1
    obtain ⟨vs, q1, q2⟩ := relDs_ok h2
    exact ⟨v :: vs, .cons r1 q1, fun A H => .cons (r2 A H) (q2 A H)⟩
end
abbrev Tb := List (Str × D)
def tabB (K : PySem.W.Frag) (x : Str) (t : Tb) : Bool := t.all fun q => match PySem.W.nsIn K (He.ga K x) q.1 with
  | some (some u) => relD K u q.2
  | _ => false
def TabOk (K : PySem.W.Frag) (w : World) (x : Str) (t : Tb) : Prop := He.dicW K (He.ga K x) = some (He.keysIn w.params (t.map (·.1))) ∧ tabB K x t = true
def tbAt (t : Tb) (z : Str) : Option D := (t.find? fun p => decide (p.1 = z)).map (·.2)
theorem keys_no {P : Params} {z : Str} : ∀ {l : List DictEntry} {ks : List Str}, l.map He.keyOf = He.keysIn P ks → z ∉ ks → l.find? (·.key.isStr z) = none ∧ l.any (·.refKey) = false
  | [], _, _, _ => ⟨rfl, rfl⟩
  | e :: r, [], h, _ => by cases h
  | e :: r, k :: ks, h, m => by
    have h1 : He.keyOf e :: r.map He.keyOf = some (k, PyData.keyHash P k) :: He.keysIn P ks := h
    injection h1 with h2 h3
    obtain ⟨r1, r2⟩ := keys_no h3 fun q => m (List.mem_cons_of_mem _ q)
    unfold He.keyOf at h2
    split at h2
    · rename_i x t q
      have h4 := Option.some.inj h2
      obtain ⟨h5, h6⟩ := Prod.mk.inj h4
      have ne : e.key.isStr z = false := by
        rw [q]
        show (x == z) = false
        have : x ≠ z := fun e => m (by rw [← e, h5]; exact List.mem_cons_self)
        simpa using this
      refine ⟨by rw [List.find?_cons, ne]; exact r1, ?_⟩
      rw [List.any_cons, r2]
      unfold DictEntry.refKey
      rw [q]
      rfl
    · cases h2
section
variable {K : PySem.W.Frag} {w : World} {x : Str} {t : Tb}
theorem TabOk.kd (h : TabOk K w x t) : ∃ es n, KDict K w (He.ga K x) es n ∧ es.toList.map He.keyOf = He.keysIn w.params (t.map (·.1)) := by
  obtain ⟨es, n, D⟩ := He.dicW_ok h.1
  refine ⟨es, n, D, ?_⟩
  have e := h.1
  unfold He.dicW at e
  rw [D.at_] at e
  have e1 : (match decide ("dict" = "dict") && ((#[] : Array (Option Value)).isEmpty && !(He.ga K x == sysModules)) with
    | true => some (es.toList.map He.keyOf)
    | false => none) = some (He.keysIn w.params (t.map (·.1))) := e
  rw [D.low] at e1
  exact Option.some.inj e1
theorem TabOk.no (h : TabOk K w x t) {z : Str} (hz : tbAt t z = none) : PySem.W.nsIn K (He.ga K x) z = some none := by
  obtain ⟨es, n, D, e⟩ := h.kd
  have m : z ∉ t.map (·.1) := fun m => by
    obtain ⟨p, hp, e⟩ := List.mem_map.mp m
    unfold tbAt at hz
    rw [Option.map_eq_none_iff, List.find?_eq_none] at hz
    exact hz p hp (decide_eq_true e)
  obtain ⟨r1, r2⟩ := keys_no e m
  unfold PySem.W.nsIn
  rw [D.at_]
  simp only [r1, r2]
  rfl
theorem TabOk.yes (h : TabOk K w x t) {z : Str} {d : D} (hz : tbAt t z = some d) : ∃ u v, PySem.W.nsIn K (He.ga K x) z = some (some u) ∧ RelV v u ∧ ∀ A H, Rp K A H v d := by
  unfold tbAt at hz
  obtain ⟨p, hp, rfl⟩ := Option.map_eq_some_iff.mp hz
  have m := List.mem_of_find?_eq_some hp
  have e : p.1 = z := by simpa using List.find?_some hp
  have h2 := List.all_eq_true.mp h.2 p m
  rw [e] at h2
  split at h2
  · rename_i u q
    obtain ⟨v, r1, r2⟩ := relD_ok h2
    exact ⟨u, v, q, r1, r2⟩
  · cases h2
end
def gInT (t : Tb) : D → D → Option D
  | .str z, _ => some (.bl (tbAt t z).isSome)
  | _, _ => none
def gNotInT (t : Tb) : D → D → Option D
  | .str z, _ => some (.bl (!(tbAt t z).isSome))
  | _, _ => none
def gIxT (t : Tb) : D → D → Option D
  | _, .str z => tbAt t z
  | _, _ => none
section
variable {X : Cx} {G : Gd} {O : List Nat} {W : WX} {a i : Expr} {mi ma : ME} {p p2 pos : Pos} {x : Str} {t : Tb}
theorem tab_in (T : TabOk X.K X.w x t) (z : Str) : ∃ r, PySem.W.nsIn X.K (He.ga X.K x) z = some r ∧ r.isSome = (tbAt t z).isSome := by
  cases e : tbAt t z with
  | none => exact ⟨none, T.no e, rfl⟩
  | some d =>
    obtain ⟨u, v, h, _, _⟩ := T.yes e
    exact ⟨some u, h, rfl⟩
theorem od_inT (T : TabOk X.K X.w x t) : OpR X (compareOp .In) (fun a b H Q => b = .ref (He.ga X.K x) ∧ rD2 X.K (gInT t) a b H Q) := by
  intro pins s σ H a b v u Q I rx ry ⟨eb, A, d1, d2, d, tr, pa, pb, e, q⟩
  obtain ⟨es, n, D, _⟩ := T.kd
  cases d1 with
  | str z =>
    cases e
    have : a = .str z := pa.str
    subst this
    obtain ⟨r, h1, h2⟩ := tab_in T z
    exact op_in_kd D pins s σ H _ _ v u Q I rx ry ⟨z, r, rfl, eb, h1, by rw [h2]; exact q _ _ (Same.refl _) (.bl _)⟩
  | _ => cases e
theorem od_notinT (T : TabOk X.K X.w x t) : OpR X (compareOp .NotIn) (fun a b H Q => b = .ref (He.ga X.K x) ∧ rD2 X.K (gNotInT t) a b H Q) := by
  intro pins s σ H a b v u Q I rx ry ⟨eb, A, d1, d2, d, tr, pa, pb, e, q⟩
  obtain ⟨es, n, D, _⟩ := T.kd
  cases d1 with
  | str z =>
    cases e
    have : a = .str z := pa.str
    subst this
    obtain ⟨r, h1, h2⟩ := tab_in T z
    exact op_notIn_kd D pins s σ H _ _ v u Q I rx ry ⟨z, r, rfl, eb, h1, by rw [h2]; exact q _ _ (Same.refl _) (.bl _)⟩
  | _ => cases e
theorem pe_glo (hm : X.mg x = some (.ref (He.ga X.K x))) (hg : Gl X x) (hd : (x == ("__debug__" : Str)) = false := by decide) : PE X (.Name x p) (tC (.ref (He.ga X.K x))) := pe_glob hg hm rfl hd
theorem opT_go {g : D → D → Option D} {r : R2} (hr : ∀ x' H Q, rD2 X.K g x' (.ref (He.ga X.K x)) H Q → r x' (.ref (He.ga X.K x)) H Q) {σ : L2.St} {H : Hp} {Q : VK} (h : tE X.K G O W (m2 g ma (mK (.fn x))) σ H Q) : tOp r (tE X.K G O W ma) (tC (.ref (He.ga X.K x))) σ H Q := by
  obtain ⟨A, ms, ρ, R, q⟩ := h
  refine ⟨A, ms, ρ, R, q.bind.mono ?_⟩
  rintro v H1 ⟨d, ρ1, R1, k1, r1, q1⟩
  have q1' : RPost X.K G O W A ms σ H1 (Rp X.K A) Q (ret (g d (.fn x)) ρ1) := q1
  obtain ⟨z, hz, q2⟩ := rp_of R1 q1'
  exact hr _ _ _ ⟨A, d, .fn x, z, R1.trk, .of r1, .of (.fn x), hz, q2⟩
theorem de_inT (T : TabOk X.K X.w x t) (hm : X.mg x = some (.ref (He.ga X.K x))) (ha : DE X G O W a ma) (hk : behindInMarks .In (.Name x p) = false) (hg : Gl X x := by rfl) (hd : (x == ("__debug__" : Str)) = false := by decide) : DE X G O W (.Compare a [.In] [.Name x p] pos) (m2 (gInT t) ma (mK (.fn x))) :=
  pe_imp (pe_cmpR (od_inT T) ha (pe_glo hm hg hd) hk) fun _ _ _ h => opT_go (fun _ _ _ z => ⟨rfl, z⟩) h
theorem de_notinT (T : TabOk X.K X.w x t) (hm : X.mg x = some (.ref (He.ga X.K x))) (ha : DE X G O W a ma) (hk : behindInMarks .NotIn (.Name x p) = false) (hg : Gl X x := by rfl) (hd : (x == ("__debug__" : Str)) = false := by decide) : DE X G O W (.Compare a [.NotIn] [.Name x p] pos) (m2 (gNotInT t) ma (mK (.fn x))) :=
  pe_imp (pe_cmpR (od_notinT T) ha (pe_glo hm hg hd) hk) fun _ _ _ h => opT_go (fun _ _ _ z => ⟨rfl, z⟩) h
theorem dt_inT (T : TabOk X.K X.w x t) (hm : X.mg x = some (.ref (He.ga X.K x))) (ha : DE X G O W a ma) (hk : behindInMarks .In (.Name x p) = false) (hg : Gl X x := by rfl) (hd : (x == ("__debug__" : Str)) = false := by decide) : DT X G O W (.Compare a [.In] [.Name x p] pos) (mTest (m2 (gInT t) ma (mK (.fn x)))) :=
  pt_imp (pt_cmpR (od_inT T) ha (pe_glo hm hg hd) hk) fun _ _ _ h => test_go (fun _ _ _ z => opT_go (fun _ _ _ z => ⟨rfl, z⟩) z) h
theorem dt_notinT (T : TabOk X.K X.w x t) (hm : X.mg x = some (.ref (He.ga X.K x))) (ha : DE X G O W a ma) (hk : behindInMarks .NotIn (.Name x p) = false) (hg : Gl X x := by rfl) (hd : (x == ("__debug__" : Str)) = false := by decide) : DT X G O W (.Compare a [.NotIn] [.Name x p] pos) (mTest (m2 (gNotInT t) ma (mK (.fn x)))) :=
  pt_imp (pt_cmpR (od_notinT T) ha (pe_glo hm hg hd) hk) fun _ _ _ h => test_go (fun _ _ _ z => opT_go (fun _ _ _ z => ⟨rfl, z⟩) z) h
theorem ix_T (T : TabOk X.K X.w x t) : IxR X (fun a b H Q => a = .ref (He.ga X.K x) ∧ rD2 X.K (gIxT t) a b H Q) := by
  intro value slice pins s σ H a b v u Q I rx ry ⟨ea, A, d1, d2, d, tr, pa, pb, e, q⟩ hs
  obtain ⟨es, n, D, _⟩ := T.kd
  cases d2 with
  | str z =>
    have e2 : tbAt t z = some d := by cases d1 <;> exact e
    have : b = .str z := pb.str
    subst this
    obtain ⟨u', v', h1, h2, h3⟩ := T.yes e2
    exact ix_kdict value slice pins s σ H a _ v u Q I rx ry ⟨_, z, v', ea, rfl, ⟨es, n, u', D.at_, D.lit, h1, h2⟩, q _ _ (Same.refl _) (h3 _ _)⟩ hs
  | _ => cases d1 <;> cases e
theorem de_ixT (T : TabOk X.K X.w x t) (hm : X.mg x = some (.ref (He.ga X.K x))) (hi : DE X G O W i mi) (hs : PlainIx i) (hg : Gl X x := by rfl) (hd : (x == ("__debug__" : Str)) = false := by decide) : DE X G O W (.Subscript (.Name x p) i pos) (m2 (gIxT t) (mK (.fn x)) mi) := by
  refine pe_imp (pe_ix (ix_T T) (pe_glo hm hg hd) hi hs) fun σ H Q ⟨A, ms, ρ, R, q⟩ => ?_
  refine ⟨A, ms, ρ, R, RPost.mono (RPost.bind (show RPost X.K G O W A ms σ H (Rp X.K A) Q ((mi ρ).bind fun y ρ2 => ret (gIxT t (.fn x) y) ρ2) from q)) ?_⟩
  rintro v H1 ⟨d, ρ1, R1, k1, r1, q1⟩
  obtain ⟨z, hz, q2⟩ := rp_of R1 q1
  exact ⟨rfl, A, .fn x, d, z, R1.trk, .of (.fn x), .of r1, hz, q2⟩
end
section
variable {X : Cx} {G : Gd} {O : List Nat} {W : WX} {i : Expr} {mi : ME} {p p2 pos : Pos}
def CPs (X : Cx) (pos : Pos) (keys : List (Option Expr)) (values : List Expr) (kvs : List (Key × V)) : Prop := PPs X pos keys values (kvs.map fun kv => (tC (kV kv.1), tC kv.2))
theorem cps_nil : CPs X pos [] [] [] := pps_nil
theorem cps_str {x : Str} {j : Nat} {v : Expr} {vv : V} {ks : List (Option Expr)} {vs : List Expr} {kvs : List (Key × V)} (hv : PE X v (tC vv)) (h : CPs X pos ks vs kvs) : CPs X pos (some (.Constant (.str x) j p) :: ks) (v :: vs) ((.inr x, vv) :: kvs) :=
  pps_cons (tk := tC (kV (.inr x))) pe_str hv h
theorem pe_negc {z : Int} {j : Nat} : PE X (.UnaryOp .USub (.Constant (.int z) j p) p2) (tC (.int (-z))) := by
  refine ⟨fun pins s σ H Q I h => ?_⟩
  exact (pe_un (op := .USub) un_neg pe_int).run pins s σ H Q I ⟨z, rfl, h⟩
theorem tPairs_c {σ : L2.St} {H : Hp} : ∀ {kvs : List (Key × V)} {Q : List (V × V) → Hp → Prop}, Q (kvs.map fun kv => (kV kv.1, kv.2)) H → tPairs (kvs.map fun kv => (tC (kV kv.1), tC kv.2)) σ H Q
  | [], Q, h => h
  | kv :: r, Q, h => tPairs_c (kvs := r) (Q := fun ps H3 => Q ((kV kv.1, kv.2) :: ps) H3) h
theorem merge_nd : ∀ {kvs acc : List (Key × V)}, ((acc ++ kvs).map (·.1)).Nodup → mergeK acc kvs = acc ++ kvs
  | [], acc, _ => by rw [List.append_nil]; rfl
  | kv :: r, acc, h => by
    have e : putK acc kv.1 kv.2 = acc ++ [kv] := by
      refine putK_new kv.2 ?_
      cases z : valV acc kv.1 with
      | none => rfl
      | some v =>
        have m := valV_in z
        rw [List.map_append, List.nodup_append] at h
        exact absurd rfl (h.2.2 _ m _ (by rw [List.map_cons]; exact List.mem_cons_self))
    show mergeK (putK acc kv.1 kv.2) r = _
    rw [e, merge_nd (by rw [List.append_assoc]; exact h), List.append_assoc]
    rfl
theorem valV_rp {K : PySem.W.Frag} {t : Tb} {z : Str} {d : D} : ∀ {kvs : List (Key × V)}, Paired (fun (p : Key × V) (q : Str × D) => p.1 = .inr q.1 ∧ ∀ A H, Rp K A H p.2 q.2) kvs t → tbAt t z = some d → ∃ v, valV kvs (.inr z) = some v ∧ ∀ A H, Rp K A H v d := by
  intro kvs r
  induction r with
  | nil => intro h; cases h
  | @cons a b as bs h tl ih =>
    intro e
    obtain ⟨h1, h2⟩ := h
    unfold tbAt at e ih
    unfold valV at ih ⊢
    rw [List.find?_cons] at e ⊢
    by_cases q : b.1 = z
    · have q2 : a.1 = .inr z := by rw [h1, q]
      simp only [decide_eq_true q] at e
      simp only [decide_eq_true q2]
      cases e
      exact ⟨_, rfl, h2⟩
    · have q2 : ¬ a.1 = .inr z := by
        rw [h1]
        exact fun e => q (Sum.inr.inj e)
      simp only [decide_eq_false q] at e
      simp only [decide_eq_false q2]
      exact ih e
theorem de_dispIx (hu : X.A.units + 1 < cLine) {keys : List (Option Expr)} {values : List Expr} {kvs : List (Key × V)} {t : Tb} (h : CPs X p keys values kvs) (ht : Paired (fun (p : Key × V) (q : Str × D) => p.1 = .inr q.1 ∧ ∀ A H, Rp X.K A H p.2 q.2) kvs t) (hi : DE X G O W i mi) (hs : NoSl i)
    (hall : keys.all (·.isSome) = true := by rfl) (hl : keys.length = values.length := by rfl) (h0 : keys ≠ [] := by exact List.cons_ne_nil _ _) (h15 : keys.length ≤ 15 := by decide) (hkl : kvs.length ≤ 15 := by decide) (hnd : (kvs.map (·.1)).Nodup := by decide) :
    DE X G O W (.Subscript (.Dict keys values p) i pos) (m1 (fun d => gIxT t .non d) mi) := by
  refine pe_imp (pe_dget hu (pe_disp h hall hl h0 h15) hi hs) fun σ H Q ⟨A, ms, ρ, R, q⟩ => ?_
  intro a ha
  refine tPairs_c (kvs := kvs) ?_
  refine ⟨upd_same, kvs, rfl, hkl, ?_⟩
  rw [upd_upd, merge_nd (acc := []) hnd, List.nil_append]
  have s0 : Same H (upd H a (.dK kvs)) := same_upd ha
  have nA : ∀ i ∈ O, ms i ≠ some a := R.msne ha
  refine ⟨A, ms, ρ, R.same s0, RPost.mono (RPost.bind (RPost.from (Kp.same s0) q)) ?_⟩
  rintro y H2 ⟨d, ρ1, R1, k1, r1, q1⟩
  obtain ⟨z, hz, q2⟩ := rp_of R1 q1
  cases d with
  | str x =>
    cases r1
    obtain ⟨v, e1, e2⟩ := valV_rp (K := X.K) ht hz
    have hd : H2 a = some (.dK kvs) := k1 a _ upd_same nA
    exact ⟨a, v, rfl, .inl ⟨kvs, .inr x, .inl hd, rfl, e1.symm⟩, q2 v H2 (Same.refl _) (e2 _ _)⟩
  | _ => cases hz
end
abbrev AlX := He.AlD × List (Option (List (Option (Str × Int))))
abbrev Tabs := List (Str × List Str)
def obXT (fa : List He.Fa) (xf : XF) (fn : List He.DefD) (ts : Tabs) (K : PySem.W.Frag) : AlX := (obX fa xf fn K, ts.map fun t => He.dicW K (He.ga K t.1))
def valXT (fn : List He.DefD) (ts : Tabs) (w : World) : AlX := (He.valD fn, ts.map fun t => some (He.keysIn w.params t.2))
def SaysXT (fa : List He.Fa) (xf : XF) (fn : List He.DefD) (ts : Tabs) (w : World) (K : PySem.W.Frag) : Prop := obXT fa xf fn ts K = valXT fn ts w
def obXTG (n : Nat) (fa : List He.Fa) (xf : XF) (fn : List He.DefD) (ts : Tabs) (g : Addr → Option Obj) : AlX := obXT fa xf fn ts (He.frG g (He.asD g n))
def hookXT (n : Nat) (fa : List He.Fa) (xf : XF) (fn : List He.DefD) (ts : Tabs) : PySem.W.Hook where
  α := AlX
  obs := fun t => obXTG n fa xf fn ts t.heap.get?
  val := fun w => valXT fn ts w
  says := fun w hp => ∃ K : PySem.W.Frag, K.In hp ∧ SaysXT fa xf fn ts w K
  of := fun _ _ z => ⟨_, He.frG_in, z⟩
  keeps := fun _ _ _ ⟨K, z, c⟩ k => ⟨K, PySem.W.Frag.In.keeps z k, c⟩
theorem obXTG_eq {n : Nat} {fa : List He.Fa} {xf : XF} {fn : List He.DefD} {ts : Tabs} {g : Addr → Option Obj} {t : Shared} (h : ∀ a, g a = t.heap.get? a) : obXTG n fa xf fn ts g = (hookXT n fa xf fn ts).obs t := by
  have z : g = t.heap.get? := funext h
  rw [z] <;> rfl
section
variable {fa : List He.Fa} {xf : XF} {fn : List He.DefD} {ts : Tabs} {w : World} {K : PySem.W.Frag}
theorem SaysXT.x (c : SaysXT fa xf fn ts w K) : SaysX fa xf fn K := congrArg (fun z : AlX => z.1) c
theorem SaysXT.x1 (c : SaysXT fa xf fn ts w K) : xf K = true := c.x.x1
theorem SaysXT.d (c : SaysXT fa xf fn ts w K) : He.SaysD fa fn K := c.x.d
theorem SaysXT.tab (c : SaysXT fa xf fn ts w K) (i : Nat) {t : Str × List Str} (h : ts[i]? = some t := by rfl) : He.dicW K (He.ga K t.1) = some (He.keysIn w.params t.2) := by
  have e : ts.map (fun t => He.dicW K (He.ga K t.1)) = ts.map fun t => some (He.keysIn w.params t.2) := congrArg (fun z : AlX => z.2) c
  have e2 : (ts.map fun t => He.dicW K (He.ga K t.1))[i]? = (ts.map fun t => some (He.keysIn w.params t.2))[i]? := by rw [e]
  rw [List.getElem?_map, List.getElem?_map, h] at e2
  exact Option.some.inj e2
end
end DL
namespace DL
open PySem
theorem u1 {n c : Nat} (h : n + 64 < c) : n + 1 < c := by omega
end DL
namespace Q
open DL L2 PySem PySem.Spec PyProof.Rows
def m_law_number : MS := (msSeq (msIf (mTest (m2 gLt (mVar 0) (mK (.int 0)))) (msRet (m2 gSub (mK (.int 0)) (mVar 0))) msNil) (msRet (mVar 0)))
def F_law_number : FN := runM 1 1 [] false m_law_number
def m_law_draws_b0 : MS := (msSeq (msIf (mTest (m2 gEq (mVar 3) (mK (.int 0)))) msBrk msNil) (msSeq (msExpr (mOM gAppend 1 (mCons (m2 gMod (mN gInt (mCons (mVar 3) mNil)) (mK (.int 1000))) mNil))) (msAsg (m2 gDiv (mVar 3) (mK (.int 1000))) (mgName 3))))
def m_law_draws_b1 : MS := (msSeq (msAsg (mCall Q.F_law_number (mCons (mVar 2) mNil)) (mgName 3)) (msIf (mTest (m2 gGe (mVar 3) (mK (.int 1000000000000000000)))) (msFor (mItN gRange1 (mCons (mK (.int 60)) mNil)) (mgName 4) m_law_draws_b0) (msSeq (msAsg (m2 gMod (mN gInt (mCons (m2 gAdd (m2 gMul (mVar 3) (mK (.int 48271))) (mK (.int 11))) mNil)) (mK (.int 2147483647))) (mgName 5)) (msSeq (msAsg (m2 gMod (mN gInt (mCons (m2 gAdd (m2 gMul (mVar 5) (mK (.int 69621))) (mVar 3)) mNil)) (mK (.int 2147483629))) (mgName 6)) (msExpr (mOM gExtend 1 (mCons (mN gLst (mCons (m2 gMod (mN gInt (mCons (mVar 3) mNil)) (mK (.int 1000))) (mCons (m2 gMod (mN gInt (mCons (mVar 5) mNil)) (mK (.int 1000))) (mCons (m2 gMod (mN gInt (mCons (mVar 6) mNil)) (mK (.int 1000))) mNil)))) mNil)))))))
def m_law_draws : MS := (msForget 1 (msSeq (msOwn 1 (mN gLst mNil)) (msSeq (msFor (mIter (mVar 0)) (mgName 2) m_law_draws_b1) (msRetO 1))))
def F_law_draws : FN := runM 7 1 [] true m_law_draws
def m_law_divisor_b0 : MS := (msSeq (msIf (mTest (m2 gEq (mVar 3) (mK (.int 0)))) msBrk msNil) (msPar [2, 3] (mCons (mVar 3) (mCons (m2 gMod (mN gInt (mCons (mVar 2) mNil)) (mVar 3)) mNil))))
def m_law_divisor : MS := (msSeq (msAsg (mN gAbs (mCons (mVar 0) mNil)) (mgName 2)) (msSeq (msAsg (mN gAbs (mCons (mVar 1) mNil)) (mgName 3)) (msSeq (msFor (mItN gRange1 (mCons (m2 gPow (mK (.int 10)) (mK (.int 9))) mNil)) (mgName 4) m_law_divisor_b0) (msRet (mVar 2)))))
def F_law_divisor : FN := runM 5 2 [] false m_law_divisor
def m_law_next : MS := (msSeq (msIf (mTruO 0) (msRet (mOM gPop 0 mNil)) msNil) (msRet (mK (.int 0))))
def F_law_next : FN := runM 1 1 [] false m_law_next
def m_law_plane_e0 : ME := (m2 gSub (m2 gMod (mN gInt (mCons (mCallIo Q.F_law_next 0 mNil) mNil)) (mK (.int 7))) (mK (.int 3)))
def m_law_plane_s1 : MS := (msOwn 3 (mLc [4] (mItN gRange1 (mCons (mVar 1) mNil)) (mgName 4) mYes m_law_plane_e0))
def m_law_plane_e2 : ME := (mIf (mTest (m2 gEq (mVar 4) (mVar 5))) (m2B gIx (.ow 3) (.ex (mVar 4))) (mK (.int 0)))
def m_law_plane_s3 : MS := (msIf (mTest (m2 gEq (m2 gMod (mN gInt (mCons (mCallIo Q.F_law_next 0 mNil) mNil)) (mK (.int 3))) (mK (.int 0)))) (msSeq (msAsg (m2 gMod (mN gInt (mCons (mCallIo Q.F_law_next 0 mNil) mNil)) (mVar 1)) (mgName 5)) (msOwn 3 (mLc [4] (mItN gRange1 (mCons (mVar 1) mNil)) (mgName 4) mYes m_law_plane_e2))) msNil)
def m_law_plane_e4 : ME := (m2 gNe (mVar 6) (mK (.int 0)))
def m_law_plane_s5 : MS := (msIf (mPureT (mNotT (mTru (mN gAny (mCons (mLc [6] (mIter (mVar 3)) (mgName 6) mYes m_law_plane_e4) mNil))))) (msAsg (mK (.int 1)) (mgSub 3 (m2 gMod (mN gInt (mCons (mCallIo Q.F_law_next 0 mNil) mNil)) (mVar 1)))) msNil)
def m_law_plane_s6 : MS := (msAsg (m2 gSub (m2 gMod (mN gInt (mCons (mCallIo Q.F_law_next 0 mNil) mNil)) (mK (.int 9))) (mK (.int 4))) (mgName 7))
def m_law_plane_e7 : ME := (m2 gMul (m2B gIx (.ow 3) (.ex (mVar 4))) (m2 gIx (mVar 2) (mVar 4)))
def m_law_plane_s8 : MS := (msIf (mTest (m2 gEq (m2 gMod (mN gInt (mCons (mCallIo Q.F_law_next 0 mNil) mNil)) (mK (.int 2))) (mK (.int 0)))) (msAsg (mN gSum (mCons (mLc [4] (mItN gRange1 (mCons (mVar 1) mNil)) (mgName 4) mYes m_law_plane_e7) mNil)) (mgName 7)) msNil)
def m_law_plane_s9 : MS := (msExpr (mOM gAppend 3 (mCons (mVar 7) mNil)))
def m_law_plane_s10 : MS := (msAsg (mK (.int 0)) (mgName 8))
def m_law_plane_b11 : MS := (msAsg (mCall Q.F_law_divisor (mCons (mVar 8) (mCons (mVar 6) mNil))) (mgName 8))
def m_law_plane_s12 : MS := (msFor (mIter (mVar 3)) (mgName 6) m_law_plane_b11)
def m_law_plane_s13 : MS := (msRet (mN gTuple (mCons (mLc [6] (mIter (mVar 3)) (mgName 6) mYes (m2 gDiv (mVar 6) (mVar 8))) mNil)))
def m_law_plane : MS := (msForget 3 (msSeq m_law_plane_s1 (msSeq m_law_plane_s3 (msSeq m_law_plane_s5 (msSeq m_law_plane_s6 (msSeq m_law_plane_s8 (msSeq m_law_plane_s9 (msSeq m_law_plane_s10 (msSeq m_law_plane_s12 m_law_plane_s13)))))))))
def F_law_plane : FN := runM 9 3 [] false m_law_plane
def m_law_planes_e0 : ME := (m2 gSub (m2 gMod (mN gInt (mCons (mCallIo Q.F_law_next 0 mNil) mNil)) (mK (.int 5))) (mK (.int 2)))
def m_law_planes_e1 : ME := (m2 gSub (mK (.int 0)) (mVar 7))
def m_law_planes_b2 : MS := (msSeq (msAsg (mCallIo Q.F_law_plane 0 (mCons (mVar 1) (mCons (mVar 3) mNil))) (mgName 6)) (msIf (mAndT (mTest (m2B gNotIn (.ex (mVar 6)) (.ow 5))) (mTest (m2B gNotIn (.ex (mN gTuple (mCons (mLc [7] (mIter (mVar 6)) (mgName 7) mYes m_law_planes_e1) mNil))) (.ow 5)))) (msExpr (mOM gAppend 5 (mCons (mVar 6) mNil))) msNil))
def m_law_planes : MS := (msSeq (msAsg (mLc [4] (mItN gRange1 (mCons (mVar 1) mNil)) (mgName 4) mYes m_law_planes_e0) (mgName 3)) (msForget 5 (msSeq (msOwn 5 (mN gLst mNil)) (msSeq (msFor (mItN gRange1 (mCons (m2 gMod (mN gInt (mCons (mCallIo Q.F_law_next 0 mNil) mNil)) (m2 gAdd (mVar 2) (mK (.int 1)))) mNil)) (mgName 4) m_law_planes_b2) (msRet (mN gLst (mCons (mVar 5) (mCons (mVar 3) mNil))))))))
def F_law_planes : FN := runM 8 3 [] false m_law_planes
def m_law_lowest : MS := (msSeq (msAsg (mCall Q.F_law_divisor (mCons (mVar 0) (mCons (mVar 1) mNil))) (mgName 2)) (msSeq (msIf (mTest (m2 gLt (mVar 1) (mK (.int 0)))) (msAsg (m2 gSub (mK (.int 0)) (mVar 2)) (mgName 2)) msNil) (msRet (mN gTup (mCons (m2 gDiv (mVar 0) (mVar 2)) (mCons (m2 gDiv (mVar 1) (mVar 2)) mNil))))))
def F_law_lowest : FN := runM 3 2 [] false m_law_lowest
def m_law_fraction : MS := (msRet (mCall Q.F_law_lowest (mCons (m2 gSub (m2 gMod (mN gInt (mCons (mCallIo Q.F_law_next 0 mNil) mNil)) (mK (.int 13))) (mK (.int 6))) (mCons (m2 gAdd (mK (.int 1)) (m2 gMod (mN gInt (mCons (mCallIo Q.F_law_next 0 mNil) mNil)) (mK (.int 4)))) mNil))))
def F_law_fraction : FN := runM 1 1 [] false m_law_fraction
def m_law_point_s0 : MS := (msAsg (m2 gMod (mN gInt (mCons (mCallIo Q.F_law_next 0 mNil) mNil)) (mK (.int 3))) (mgName 3))
def m_law_point_e1 : ME := (mN gTup (mCons (mVar 4) (mCons (mK (.int 1)) mNil)))
def m_law_point_s2 : MS := (msIf (mTest (m2 gEq (mVar 3) (mK (.int 0)))) (msRet (mN gTuple (mCons (mLc [4] (mIter (mVar 2)) (mgName 4) mYes m_law_point_e1) mNil))) msNil)
def m_law_point_e3 : ME := (mCallIo Q.F_law_fraction 0 mNil)
def m_law_point_s4 : MS := (msIf (mTest (m2 gEq (mVar 3) (mK (.int 1)))) (msRet (mN gTuple (mCons (mLc [5] (mItN gRange1 (mCons (mVar 1) mNil)) (mgName 5) mYes m_law_point_e3) mNil))) msNil)
def m_law_point_s5 : MS := (msOwn 6 (mLc [4] (mIter (mVar 2)) (mgName 4) mYes m_law_point_e1))
def m_law_point_s6 : MS := (msAsg (mCallIo Q.F_law_fraction 0 mNil) (mgSub 6 (m2 gMod (mN gInt (mCons (mCallIo Q.F_law_next 0 mNil) mNil)) (mVar 1))))
def m_law_point : MS := (msSeq m_law_point_s0 (msSeq m_law_point_s2 (msSeq m_law_point_s4 (msForget 6 (msSeq m_law_point_s5 (msSeq m_law_point_s6 (msRet (mNO gTuple 6))))))))
def F_law_point : FN := runM 7 3 [] false m_law_point
def mcheck_letters : MS := (msIf (mNotT (mTest (mChain gLe gLe (mK (.int 1)) (mVar 0) (mK (.int 4))))) (msRaise "BadNumber") msNil)
def Fcheck_letters : FN := runM 1 1 [] false mcheck_letters
def mdivisor_b0 : MS := (msPar [0, 1] (mCons (mVar 1) (mCons (m2 gMod (mVar 0) (mVar 1)) mNil)))
def mdivisor_c1 : MT := (mTest (m2 gNe (mVar 1) (mK (.int 0))))
def mdivisor : MS := (msSeq (msPar [0, 1] (mCons (mN gAbs (mCons (mVar 0) mNil)) (mCons (mN gAbs (mCons (mVar 1) mNil)) mNil))) (msSeq (msWhile 1000000 mdivisor_c1 mdivisor_b0) (msRet (mVar 0))))
def Fdivisor : FN := runM 2 2 [] false mdivisor
def mis_plane_s0 : MS := (msExpr (mCall Q.Fcheck_letters (mCons (mVar 0) mNil)))
def mis_plane_e1 : ME := (m2 gLe (mN gAbs (mCons (mVar 2) mNil)) (mK (.int 1000)))
def mis_plane_s2 : MS := (msIf (mOrT (mTest (m2 gNe (mN gLen (mCons (mVar 1) mNil)) (m2 gAdd (mVar 0) (mK (.int 1))))) (mNotT (mTru (mN gAll (mCons (mLc [2] (mIter (mVar 1)) (mgName 2) mYes mis_plane_e1) mNil))))) (msRet (mK (.bl false))) msNil)
def mis_plane_s3 : MS := (msAsg (mK (.int 0)) (mgName 3))
def mis_plane_b4 : MS := (msAsg (mCall Q.Fdivisor (mCons (mVar 3) (mCons (mVar 2) mNil))) (mgName 3))
def mis_plane_s5 : MS := (msFor (mIter (mVar 1)) (mgName 2) mis_plane_b4)
def mis_plane_e6 : ME := (m2 gNe (mVar 2) (mK (.int 0)))
def mis_plane_s7 : MS := (msRet (mAnd (m2 gEq (mVar 3) (mK (.int 1))) (mN gAny (mCons (mLc [2] (mIter (mSl (.ex (mVar 1)) mNoP (mPart (mVar 0)))) (mgName 2) mYes mis_plane_e6) mNil))))
def mis_plane : MS := (msSeq mis_plane_s0 (msSeq mis_plane_s2 (msSeq mis_plane_s3 (msSeq mis_plane_s5 mis_plane_s7))))
def Fis_plane : FN := runM 4 2 [] false mis_plane
def mother_way : MS := (msRet (mN gTuple (mCons (mLc [1] (mIter (mVar 0)) (mgName 1) mYes (m1 gNeg (mVar 1))) mNil)))
def Fother_way : FN := runM 2 1 [] false mother_way
def mare_planes_e0 : ME := (mCall Q.Fis_plane (mCons (mVar 0) (mCons (mVar 2) mNil)))
def mare_planes_e1 : ME := (mOr (m2 gEq (mN gTuple (mCons (mVar 2) mNil)) (mVar 4)) (m2 gEq (mCall Q.Fother_way (mCons (mVar 2) mNil)) (mVar 4)))
def mare_planes_b2 : MS := (msIf (mTru (mN gAny (mCons (mLc [4] (mIter (mSl (.ex (mVar 1)) mNoP (mPart (mVar 3)))) (mgName 4) mYes mare_planes_e1) mNil))) (msRet (mK (.bl false))) msNil)
def mare_planes : MS := (msSeq (msIf (mOrT (mTest (m2 gGt (mN gLen (mCons (mVar 1) mNil)) (mK (.int 12)))) (mNotT (mTru (mN gAll (mCons (mLc [2] (mIter (mVar 1)) (mgName 2) mYes mare_planes_e0) mNil))))) (msRet (mK (.bl false))) msNil) (msSeq (msFor (mItN gEnumS (mCons (mVar 1) mNil)) (mgTup 2 (mgCons (mgName 3) (mgCons (mgName 2) mgNil))) mare_planes_b2) (msRet (mK (.bl true)))))
def Fare_planes : FN := runM 5 2 [] false mare_planes
def mPlanes_init : MS := (msSeq (msExpr (mCall Q.Fcheck_letters (mCons (mVar 1) mNil))) (msSeq (msIf (mNotT (mTru (mCall Q.Fare_planes (mCons (mVar 1) (mCons (mVar 2) mNil))))) (msRaise "NotPlanes") msNil) (msSeq (msFld (isC ["Planes"]) "n" 0 (mVar 1)) (msFld (isC ["Planes"]) "kept" 0 (mN gTuple (mCons (mVar 2) mNil))))))
def FPlanes_init : FN := runM 3 3 [] false mPlanes_init
def mjoined_s0 : MS := (msAsg (mN gTup (mCons (m1 (gFld (isC ["Planes"]) "n") (mVar 0)) (mCons (m1 (gFld (isC ["Planes"]) "n") (mVar 1)) mNil))) (mgTup 2 (mgCons (mgName 2) (mgCons (mgName 3) mgNil))))
def mjoined_s1 : MS := (msIf (mTest (m2 gGt (m2 gAdd (mVar 2) (mVar 3)) (mK (.int 4)))) (msRaise "BadNumber") msNil)
def mjoined_s2 : MS := (msIf (mTest (m2 gGt (m2 gAdd (mN gLen (mCons (m1 (gFld (isC ["Planes"]) "kept") (mVar 0)) mNil)) (mN gLen (mCons (m1 (gFld (isC ["Planes"]) "kept") (mVar 1)) mNil))) (mK (.int 12)))) (msRaise "TooLarge") msNil)
def mjoined_e3 : ME := (m2 gAdd (m2 gAdd (mSl (.ex (mVar 5)) mNoP (mPart (mVar 2))) (m2 gMulT (mN gTup (mCons (mK (.int 0)) mNil)) (mVar 3))) (mSl (.ex (mVar 5)) (mPart (mVar 2)) mNoP))
def mjoined_s4 : MS := (msAsg (mLc [5] (mIter (m1 (gFld (isC ["Planes"]) "kept") (mVar 0))) (mgName 5) mYes mjoined_e3) (mgName 4))
def mjoined_e5 : ME := (m2 gAdd (m2 gMulT (mN gTup (mCons (mK (.int 0)) mNil)) (mVar 2)) (mVar 5))
def mjoined_s6 : MS := (msRet (mMake "Planes" Q.FPlanes_init (mCons (m2 gAdd (mVar 2) (mVar 3)) (mCons (m2 gAdd (mVar 4) (mLc [5] (mIter (m1 (gFld (isC ["Planes"]) "kept") (mVar 1))) (mgName 5) mYes mjoined_e5)) mNil))))
def mjoined : MS := (msSeq mjoined_s0 (msSeq mjoined_s1 (msSeq mjoined_s2 (msSeq mjoined_s4 mjoined_s6))))
def Fjoined : FN := runM 6 2 [] false mjoined
def mconed_s0 : MS := (msAsg (m1 (gFld (isC ["Planes"]) "n") (mVar 0)) (mgName 1))
def mconed_s1 : MS := (msIf (mTest (m2 gEq (mVar 1) (mK (.int 4)))) (msRaise "BadNumber") msNil)
def mconed_s2 : MS := (msIf (mTest (m2 gEq (mN gLen (mCons (m1 (gFld (isC ["Planes"]) "kept") (mVar 0)) mNil)) (mK (.int 12)))) (msRaise "TooLarge") msNil)
def mconed_e3 : ME := (m2 gAdd (mSl (.ex (mVar 3)) mNoP (mPart (mVar 1))) (mN gTup (mCons (m1 gNeg (m2 gIx (mVar 3) (mVar 1))) (mCons (mK (.int 0)) mNil))))
def mconed_s4 : MS := (msAsg (mLc [3] (mIter (m1 (gFld (isC ["Planes"]) "kept") (mVar 0))) (mgName 3) mYes mconed_e3) (mgName 2))
def mconed_s5 : MS := (msRet (mMake "Planes" Q.FPlanes_init (mCons (m2 gAdd (mVar 1) (mK (.int 1))) (mCons (m2 gAdd (mVar 2) (mN gLst (mCons (m2 gAdd (m2 gMulT (mN gTup (mCons (mK (.int 0)) mNil)) (mVar 1)) (mN gTup (mCons (mK (.int 1)) (mCons (mK (.int 0)) mNil)))) mNil))) mNil))))
def mconed : MS := (msSeq mconed_s0 (msSeq mconed_s1 (msSeq mconed_s2 (msSeq mconed_s4 mconed_s5))))
def Fconed : FN := runM 4 1 [] false mconed
def mis_number : MS := (msSeq (msAsg (mVar 0) (mgTup 2 (mgCons (mgName 1) (mgCons (mgName 2) mgNil)))) (msRet (mAnd (m2 gGe (mVar 2) (mK (.int 1))) (m2 gEq (mCall Q.Fdivisor (mCons (mVar 1) (mCons (mVar 2) mNil))) (mK (.int 1))))))
def Fis_number : FN := runM 3 1 [] false mis_number
def mis_row_of_e0 : ME := (mCall Q.Fis_number (mCons (mVar 2) mNil))
def mis_row_of : MS := (msRet (mAnd (m2 gEq (mN gLen (mCons (mVar 1) mNil)) (mVar 0)) (mN gAll (mCons (mLc [2] (mIter (mVar 1)) (mgName 2) mYes mis_row_of_e0) mNil))))
def Fis_row_of : FN := runM 3 2 [] false mis_row_of
def mcheck_point : MS := (msSeq (msExpr (mCall Q.Fcheck_letters (mCons (mVar 0) mNil))) (msIf (mNotT (mTru (mCall Q.Fis_row_of (mCons (mVar 0) (mCons (mVar 1) mNil))))) (msRaise "NotPoint") msNil))
def Fcheck_point : FN := runM 2 2 [] false mcheck_point
def mlowest : MS := (msSeq (msAsg (mCall Q.Fdivisor (mCons (mVar 0) (mCons (mVar 1) mNil))) (mgName 2)) (msSeq (msIf (mTest (m2 gLt (mVar 1) (mK (.int 0)))) (msAsg (m1 gNeg (mVar 2)) (mgName 2)) msNil) (msRet (mN gTup (mCons (m2 gDiv (mVar 0) (mVar 2)) (mCons (m2 gDiv (mVar 1) (mVar 2)) mNil))))))
def Flowest : FN := runM 3 2 [] false mlowest
def msummed : MS := (msRet (mCall Q.Flowest (mCons (m2 gAdd (m2 gMul (m2 gIx (mVar 0) (mK (.int 0))) (m2 gIx (mVar 1) (mK (.int 1)))) (m2 gMul (m2 gIx (mVar 1) (mK (.int 0))) (m2 gIx (mVar 0) (mK (.int 1))))) (mCons (m2 gMul (m2 gIx (mVar 0) (mK (.int 1))) (m2 gIx (mVar 1) (mK (.int 1)))) mNil))))
def Fsummed : FN := runM 2 2 [] false msummed
def mmultiplied : MS := (msRet (mCall Q.Flowest (mCons (m2 gMul (m2 gIx (mVar 0) (mK (.int 0))) (m2 gIx (mVar 1) (mK (.int 0)))) (mCons (m2 gMul (m2 gIx (mVar 0) (mK (.int 1))) (m2 gIx (mVar 1) (mK (.int 1)))) mNil))))
def Fmultiplied : FN := runM 2 2 [] false mmultiplied
def mdot_b0 : MS := (msAsg (mCall Q.Fsummed (mCons (mVar 2) (mCons (mCall Q.Fmultiplied (mCons (mVar 3) (mCons (mVar 4) mNil))) mNil))) (mgName 2))
def mdot : MS := (msSeq (msAsg (mK (.tup [.int 0, .int 1])) (mgName 2)) (msSeq (msFor (mItN gZipS (mCons (mVar 0) (mCons (mVar 1) mNil))) (mgTup 2 (mgCons (mgName 3) (mgCons (mgName 4) mgNil))) mdot_b0) (msRet (mVar 2))))
def Fdot : FN := runM 5 2 [] false mdot
def mnumbers_of_e0 : ME := (mN gTup (mCons (mVar 1) (mCons (mK (.int 1)) mNil)))
def mnumbers_of : MS := (msRet (mN gTuple (mCons (mLc [1] (mIter (mVar 0)) (mgName 1) mYes mnumbers_of_e0) mNil)))
def Fnumbers_of : FN := runM 2 1 [] false mnumbers_of
def mheight : MS := (msRet (mCall Q.Fsummed (mCons (mCall Q.Fdot (mCons (mCall Q.Fnumbers_of (mCons (mSl (.ex (mVar 1)) mNoP (mPart (mVar 0))) mNil)) (mCons (mVar 2) mNil))) (mCons (mN gTup (mCons (m1 gNeg (m2 gIx (mVar 1) (mVar 0))) (mCons (mK (.int 1)) mNil))) mNil))))
def Fheight : FN := runM 3 3 [] false mheight
def msign_at : MS := (msSeq (msAsg (m2 gIx (mCall Q.Fheight (mCons (mVar 0) (mCons (mVar 1) (mCons (mVar 2) mNil)))) (mK (.int 0))) (mgName 3)) (msSeq (msIf (mTest (m2 gGt (mVar 3) (mK (.int 0)))) (msRet (mK (.str "+"))) msNil) (msRet (mIf (mTest (m2 gLt (mVar 3) (mK (.int 0)))) (mK (.str "-")) (mK (.str "0"))))))
def Fsign_at : FN := runM 4 3 [] false msign_at
def mrow_of_e0 : ME := (mCall Q.Fsign_at (mCons (m1 (gFld (isC ["Planes"]) "n") (mVar 0)) (mCons (mVar 2) (mCons (mVar 1) mNil))))
def mrow_of : MS := (msSeq (msExpr (mCall Q.Fcheck_point (mCons (m1 (gFld (isC ["Planes"]) "n") (mVar 0)) (mCons (mVar 1) mNil)))) (msRet (mM gJoin (mK (.str "")) (mCons (mLc [2] (mIter (m1 (gFld (isC ["Planes"]) "kept") (mVar 0))) (mgName 2) mYes mrow_of_e0) mNil))))
def Frow_of : FN := runM 3 2 [] false mrow_of
def m_law_plus : MS := (msRet (mCall Q.F_law_lowest (mCons (m2 gAdd (m2 gMul (m2 gIx (mVar 0) (mK (.int 0))) (m2 gIx (mVar 1) (mK (.int 1)))) (m2 gMul (m2 gIx (mVar 1) (mK (.int 0))) (m2 gIx (mVar 0) (mK (.int 1))))) (mCons (m2 gMul (m2 gIx (mVar 0) (mK (.int 1))) (m2 gIx (mVar 1) (mK (.int 1)))) mNil))))
def F_law_plus : FN := runM 2 2 [] false m_law_plus
def m_law_times : MS := (msRet (mCall Q.F_law_lowest (mCons (m2 gMul (m2 gIx (mVar 0) (mK (.int 0))) (m2 gIx (mVar 1) (mK (.int 0)))) (mCons (m2 gMul (m2 gIx (mVar 0) (mK (.int 1))) (m2 gIx (mVar 1) (mK (.int 1)))) mNil))))
def F_law_times : FN := runM 2 2 [] false m_law_times
def m_law_height_b0 : MS := (msAsg (mCall Q.F_law_plus (mCons (mVar 2) (mCons (mCall Q.F_law_times (mCons (mN gTup (mCons (m2 gIx (mVar 0) (mVar 3)) (mCons (mK (.int 1)) mNil))) (mCons (m2 gIx (mVar 1) (mVar 3)) mNil))) mNil))) (mgName 2))
def m_law_height : MS := (msSeq (msAsg (mN gTup (mCons (m2 gSub (mK (.int 0)) (m2 gIx (mVar 0) (mN gLen (mCons (mVar 1) mNil)))) (mCons (mK (.int 1)) mNil))) (mgName 2)) (msSeq (msFor (mItN gRange1 (mCons (mN gLen (mCons (mVar 1) mNil)) mNil)) (mgName 3) m_law_height_b0) (msRet (mVar 2))))
def F_law_height : FN := runM 4 2 [] false m_law_height
def m_law_side : MS := (msSeq (msAsg (m2 gIx (mCall Q.F_law_height (mCons (mVar 0) (mCons (mVar 1) mNil))) (mK (.int 0))) (mgName 2)) (msSeq (msIf (mTest (m2 gEq (mVar 2) (mK (.int 0)))) (msRet (mK (.str "0"))) msNil) (msRet (mIf (mTest (m2 gGt (mVar 2) (mK (.int 0)))) (mK (.str "+")) (mK (.str "-"))))))
def F_law_side : FN := runM 3 2 [] false m_law_side
def m_law_row_e0 : ME := (mCall Q.F_law_side (mCons (mVar 2) (mCons (mVar 1) mNil)))
def m_law_row : MS := (msRet (mM gJoin (mK (.str "")) (mCons (mLc [2] (mIter (mVar 0)) (mgName 2) mYes m_law_row_e0) mNil)))
def F_law_row : FN := runM 3 2 [] false m_law_row
def mPlanes_planes : MS := (msRet (mN gList (mCons (m1 (gFld (isC ["Planes"]) "kept") (mVar 0)) mNil)))
def FPlanes_planes : FN := runM 1 1 [] false mPlanes_planes
def mPlanes_len : MS := (msRet (mN gLen (mCons (m1 (gFld (isC ["Planes"]) "kept") (mVar 0)) mNil)))
def FPlanes_len : FN := runM 1 1 [] false mPlanes_len
def mis_row_e0 : ME := (m2 gIn (mVar 2) (mK (.str "+-0")))
def mis_row : MS := (msRet (mAnd (m2 gEq (mN gLen (mCons (mVar 1) mNil)) (mN gLen (mCons (m1 (gFld (isC ["Planes"]) "kept") (mVar 0)) mNil))) (mN gAll (mCons (mLc [2] (mIter (mVar 1)) (mgName 2) mYes mis_row_e0) mNil))))
def Fis_row : FN := runM 3 2 [] false mis_row
def mcheck_row : MS := (msIf (mNotT (mTru (mCall Q.Fis_row (mCons (mVar 0) (mCons (mVar 1) mNil))))) (msRaise "NotRow") msNil)
def Fcheck_row : FN := runM 2 2 [] false mcheck_row
def mopposite_e0 : ME := (m2 gIx (mK (.str "-+0")) (mM gSIndex (mK (.str "+-0")) (mCons (mVar 2) mNil)))
def mopposite : MS := (msSeq (msExpr (mCall Q.Fcheck_row (mCons (mVar 0) (mCons (mVar 1) mNil)))) (msRet (mM gJoin (mK (.str "")) (mCons (mLc [2] (mIter (mVar 1)) (mgName 2) mYes mopposite_e0) mNil))))
def Fopposite : FN := runM 3 2 [] false mopposite
def mequations_e0 : ME := (m2 gIx (m1 (gFld (isC ["Planes"]) "kept") (mVar 0)) (mVar 3))
def mequations_e1 : ME := (mN gTup (mCons (m2 gIx (mVar 4) (m1 (gFld (isC ["Planes"]) "n") (mVar 0))) (mCons (mK (.int 1)) mNil)))
def mequations_e2 : ME := (mCall Q.Fnumbers_of (mCons (mSl (.ex (mVar 4)) mNoP (mPart (m1 (gFld (isC ["Planes"]) "n") (mVar 0)))) mNil))
def mequations : MS := (msSeq (msAsg (mLc [3] (mIter (mVar 1)) (mgName 3) mYes mequations_e0) (mgName 2)) (msRet (mN gTup (mCons (mLc [4] (mIter (mVar 2)) (mgName 4) mYes mequations_e2) (mCons (mLc [4] (mIter (mVar 2)) (mgName 4) mYes mequations_e1) mNil)))))
def Fequations : FN := runM 5 2 [] false mequations
def minverted : MS := (msRet (mCall Q.Flowest (mCons (m2 gIx (mVar 0) (mK (.int 1))) (mCons (m2 gIx (mVar 0) (mK (.int 0))) mNil))))
def Finverted : FN := runM 1 1 [] false minverted
def mnegated : MS := (msRet (mN gTup (mCons (m1 gNeg (m2 gIx (mVar 0) (mK (.int 0)))) (mCons (m2 gIx (mVar 0) (mK (.int 1))) mNil))))
def Fnegated : FN := runM 1 1 [] false mnegated
def mlessened_e0 : ME := (mCall Q.Fsummed (mCons (mVar 4) (mCons (mCall Q.Fmultiplied (mCons (mVar 3) (mCons (mVar 5) mNil))) mNil)))
def mlessened : MS := (msSeq (msAsg (mCall Q.Fnegated (mCons (mVar 1) mNil)) (mgName 3)) (msRet (mLc [4, 5] (mItN gZipS (mCons (mVar 0) (mCons (mVar 2) mNil))) (mgTup 2 (mgCons (mgName 4) (mgCons (mgName 5) mgNil))) mYes mlessened_e0)))
def Flessened : FN := runM 6 3 [] false mlessened
def mreduced_e0 : ME := (mN gList (mCons (mVar 3) mNil))
def mreduced_t1 : MT := (mTest (m2 gNe (m2 gIx (m2B gIx (.ow 2) (.ex (mVar 8))) (mVar 5)) (mK (.tup [.int 0, .int 1]))))
def mreduced_e2 : ME := (mCall Q.Fmultiplied (mCons (mVar 9) (mCons (mVar 10) mNil)))
def mreduced_b3 : MS := (msIf (mAndT (mTest (m2 gNe (mVar 8) (mVar 6))) (mTest (m2 gNe (m2 gIx (m2B gIx (.ow 2) (.ex (mVar 8))) (mVar 5)) (mK (.tup [.int 0, .int 1]))))) (msAsg (mCall Q.Flessened (mCons (m2B gIx (.ow 2) (.ex (mVar 8))) (mCons (m2 gIx (m2B gIx (.ow 2) (.ex (mVar 8))) (mVar 5)) (mCons (m2B gIx (.ow 2) (.ex (mVar 6))) mNil)))) (mgSub 2 (mVar 8))) msNil)
def mreduced_b4 : MS := (msSeq (msAsg (mNO gLen 4) (mgName 6)) (msSeq (msAsg (mLc [8] (mItN gRange2 (mCons (mVar 6) (mCons (mNO gLen 2) mNil))) (mgName 8) mreduced_t1 (mVar 8)) (mgName 7)) (msSeq (msIf (mNotT (mTru (mVar 7))) msCnt msNil) (msSeq (msAsg (mN gTup (mCons (m2B gIx (.ow 2) (.ex (m2 gIx (mVar 7) (mK (.int 0))))) (mCons (m2B gIx (.ow 2) (.ex (mVar 6))) mNil))) (mgTup 2 (mgCons (mgSub 2 (mVar 6)) (mgCons (mgSub 2 (m2 gIx (mVar 7) (mK (.int 0)))) mgNil)))) (msSeq (msAsg (mCall Q.Finverted (mCons (m2 gIx (m2B gIx (.ow 2) (.ex (mVar 6))) (mVar 5)) mNil)) (mgName 9)) (msSeq (msAsg (mLc [10] (mIter (m2B gIx (.ow 2) (.ex (mVar 6)))) (mgName 10) mYes mreduced_e2) (mgSub 2 (mVar 6))) (msSeq (msFor (mItN gRange1 (mCons (mNO gLen 2) mNil)) (mgName 8) mreduced_b3) (msExpr (mOM gAppend 4 (mCons (mVar 5) mNil))))))))))
def mreduced : MS := (msForget 2 (msSeq (msOwn 2 (mLc [3] (mIter (mVar 0)) (mgName 3) mYes mreduced_e0)) (msForget 4 (msSeq (msOwn 4 (mN gLst mNil)) (msSeq (msFor (mItN gRange1 (mCons (mVar 1) mNil)) (mgName 5) mreduced_b4) (msRet (mN gTup (mCons (mVar 2) (mCons (mVar 4) mNil)))))))))
def Freduced : FN := runM 11 2 [] false mreduced
def msolved_e0 : ME := (m2 gAdd (mN gList (mCons (mVar 5) mNil)) (mN gLst (mCons (mVar 6) mNil)))
def msolved_s1 : MS := (msAsg (mCall Q.Freduced (mCons (mLc [5, 6] (mItN gZipS (mCons (mVar 1) (mCons (mVar 2) mNil))) (mgTup 2 (mgCons (mgName 5) (mgCons (mgName 6) mgNil))) mYes msolved_e0) (mCons (mVar 0) mNil))) (mgTup 2 (mgCons (mgName 3) (mgCons (mgName 4) mgNil))))
def msolved_e2 : ME := (m2 gNe (m2 gIx (mVar 5) (mVar 0)) (mK (.tup [.int 0, .int 1])))
def msolved_s3 : MS := (msIf (mTru (mN gAny (mCons (mLc [5] (mIter (mSl (.ex (mVar 3)) (mPart (mN gLen (mCons (mVar 4) mNil))) mNoP)) (mgName 5) mYes msolved_e2) mNil))) (msRet (mK .non)) msNil)
def msolved_s4 : MS := (msOwn 7 (m2F gMul (mN gLst (mCons (mK (.tup [.int 0, .int 1])) mNil)) (mVar 0)))
def msolved_b5 : MS := (msAsg (m2 gIx (m2 gIx (mVar 3) (mVar 8)) (mVar 0)) (mgSub 7 (mVar 9)))
def msolved_s6 : MS := (msFor (mItN gEnumS (mCons (mVar 4) mNil)) (mgTup 2 (mgCons (mgName 8) (mgCons (mgName 9) mgNil))) msolved_b5)
def msolved : MS := (msSeq msolved_s1 (msSeq msolved_s3 (msForget 7 (msSeq msolved_s4 (msSeq msolved_s6 (msRet (mNO gTuple 7)))))))
def Fsolved : FN := runM 10 3 [] false msolved
def mplace_of : MS := (msSeq (msAsg (mCall Q.Fequations (mCons (mVar 0) (mCons (mVar 1) mNil))) (mgTup 2 (mgCons (mgName 2) (mgCons (mgName 3) mgNil)))) (msRet (mCall Q.Fsolved (mCons (m1 (gFld (isC ["Planes"]) "n") (mVar 0)) (mCons (mVar 2) (mCons (mVar 3) mNil))))))
def Fplace_of : FN := runM 4 2 [] false mplace_of
def mPlanes_is_central : MS := (msRet (m2 gIsNot (mCall Q.Fplace_of (mCons (mVar 0) (mCons (mListR1 (mN gLen (mCons (m1 (gFld (isC ["Planes"]) "kept") (mVar 0)) mNil))) mNil))) (mK .non)))
def FPlanes_is_central : FN := runM 1 1 [] false mPlanes_is_central
end Q
namespace Q
open DL L2 PySem PySem.Spec PyProof.Rows
def m_law_spoilt_s0 : MS := (msAsg (m2 gMod (mN gInt (mCons (mCallIo Q.F_law_next 0 mNil) mNil)) (m2 gAdd (mN gLen (mCons (mVar 1) mNil)) (mK (.int 1)))) (mgName 2))
def m_law_spoilt_s1 : MS := (msAsg (m2 gIx (mK (.str "+-01 x")) (m2 gMod (mN gInt (mCons (mCallIo Q.F_law_next 0 mNil) mNil)) (mK (.int 6)))) (mgName 3))
def m_law_spoilt_s2 : MS := (msAsg (m2 gMod (mN gInt (mCons (mCallIo Q.F_law_next 0 mNil) mNil)) (mK (.int 3))) (mgName 4))
def m_law_spoilt_s3 : MS := (msIf (mTest (m2 gEq (mVar 4) (mK (.int 0)))) (msRet (m2 gAdd (m2 gAdd (mSl (.ex (mVar 1)) mNoP (mPart (mVar 2))) (mVar 3)) (mSl (.ex (mVar 1)) (mPart (mVar 2)) mNoP))) msNil)
def m_law_spoilt_s4 : MS := (msIf (mTest (m2 gEq (mVar 4) (mK (.int 1)))) (msRet (m2 gAdd (mSl (.ex (mVar 1)) mNoP (mPart (mVar 2))) (mSl (.ex (mVar 1)) (mPart (m2 gAdd (mVar 2) (mK (.int 1)))) mNoP))) msNil)
def m_law_spoilt_s5 : MS := (msRet (m2 gAdd (m2 gAdd (mSl (.ex (mVar 1)) mNoP (mPart (mVar 2))) (mVar 3)) (mSl (.ex (mVar 1)) (mPart (m2 gAdd (mVar 2) (mK (.int 1)))) mNoP)))
def m_law_spoilt : MS := (msSeq m_law_spoilt_s0 (msSeq m_law_spoilt_s1 (msSeq m_law_spoilt_s2 (msSeq m_law_spoilt_s3 (msSeq m_law_spoilt_s4 m_law_spoilt_s5)))))
def F_law_spoilt : FN := runM 5 2 [] false m_law_spoilt
def mcheck_index : MS := (msIf (mNotT (mTest (mChain gLe gLt (mK (.int 0)) (mVar 1) (mN gLen (mCons (m1 (gFld (isC ["Planes"]) "kept") (mVar 0)) mNil))))) (msRaise "BadNumber") msNil)
def Fcheck_index : FN := runM 2 2 [] false mcheck_index
def mside : MS := (msSeq (msExpr (mCall Q.Fcheck_index (mCons (mVar 0) (mCons (mVar 1) mNil)))) (msSeq (msExpr (mCall Q.Fcheck_point (mCons (m1 (gFld (isC ["Planes"]) "n") (mVar 0)) (mCons (mVar 2) mNil)))) (msRet (mCall Q.Fsign_at (mCons (m1 (gFld (isC ["Planes"]) "n") (mVar 0)) (mCons (m2 gIx (m1 (gFld (isC ["Planes"]) "kept") (mVar 0)) (mVar 1)) (mCons (mVar 2) mNil)))))))
def Fside : FN := runM 3 3 [] false mside
def mparting_t0 : MT := (mTest (m2 gIn (m2 gIx (mVar 3) (mVar 4)) (mN gTup (mCons (mN gTup (mCons (mK (.str "+")) (mCons (mK (.str "-")) mNil))) (mCons (mN gTup (mCons (mK (.str "-")) (mCons (mK (.str "+")) mNil))) mNil)))))
def mparting : MS := (msSeq (msExpr (mCall Q.Fcheck_row (mCons (mVar 0) (mCons (mVar 1) mNil)))) (msSeq (msExpr (mCall Q.Fcheck_row (mCons (mVar 0) (mCons (mVar 2) mNil)))) (msSeq (msAsg (mN gListZ (mCons (mVar 1) (mCons (mVar 2) mNil))) (mgName 3)) (msRet (mN gTuple (mCons (mLc [4] (mItN gRange1 (mCons (mN gLen (mCons (mVar 3) mNil)) mNil)) (mgName 4) mparting_t0 (mVar 4)) mNil))))))
def Fparting : FN := runM 5 3 [] false mparting
def m_law_turned : MS := (msRet (m2 gIx (mK (.str "-+0")) (mM gSIndex (mK (.str "+-0")) (mCons (mVar 0) mNil))))
def F_law_turned : FN := runM 1 1 [] false m_law_turned
def m_law_parting_t0 : MT := (mTest (m2 gIn (m2 gAdd (m2 gIx (mVar 0) (mVar 2)) (m2 gIx (mVar 1) (mVar 2))) (mN gLst (mCons (mK (.str "+-")) (mCons (mK (.str "-+")) mNil)))))
def m_law_parting : MS := (msRet (mN gTuple (mCons (mLc [2] (mItN gRange1 (mCons (mN gLen (mCons (mVar 0) mNil)) mNil)) (mgName 2) m_law_parting_t0 (mVar 2)) mNil)))
def F_law_parting : FN := runM 3 2 [] false m_law_parting
def mPlanes_turned : MS := (msSeq (msExpr (mCall Q.Fcheck_index (mCons (mVar 0) (mCons (mVar 1) mNil)))) (msRet (mMake "Planes" Q.FPlanes_init (mCons (m1 (gFld (isC ["Planes"]) "n") (mVar 0)) (mCons (m2 gAdd (m2 gAdd (mSl (.ex (m1 (gFld (isC ["Planes"]) "kept") (mVar 0))) mNoP (mPart (mVar 1))) (mN gTup (mCons (mCall Q.Fother_way (mCons (m2 gIx (m1 (gFld (isC ["Planes"]) "kept") (mVar 0)) (mVar 1)) mNil)) mNil))) (mSl (.ex (m1 (gFld (isC ["Planes"]) "kept") (mVar 0))) (mPart (m2 gAdd (mVar 1) (mK (.int 1)))) mNoP)) mNil)))))
def FPlanes_turned : FN := runM 2 2 [] false mPlanes_turned
end Q
namespace Q
open DL L2 PySem PySem.Spec PyProof.Rows
def m_law_matrix_e0 : ME := (mCall Q.F_law_plus (mCons (m2 gIx (mVar 6) (mVar 9)) (mCons (mCall Q.F_law_times (mCons (mVar 8) (mCons (m2 gIx (mVar 7) (mVar 9)) mNil))) mNil)))
def m_law_matrix_e1 : ME := (mN gTup (mCons (m2 gSub (m2 gMod (mN gInt (mCons (mCallIo Q.F_law_next 0 mNil) mNil)) (mK (.int 3))) (mK (.int 1))) (mCons (mK (.int 1)) mNil)))
def m_law_matrix_e2 : ME := (mCallIo Q.F_law_fraction 0 mNil)
def m_law_matrix_b3 : MS := (msSeq (msAsg (m2 gMod (mN gInt (mCons (mCallIo Q.F_law_next 0 mNil) mNil)) (mK (.int 4))) (mgName 5)) (msIf (mAndT (mTest (m2 gEq (mVar 5) (mK (.int 0)))) (mTruO 3)) (msSeq (msAsg (m2B gIx (.ow 3) (.ex (m2 gMod (mN gInt (mCons (mCallIo Q.F_law_next 0 mNil) mNil)) (mNO gLen 3)))) (mgName 6)) (msSeq (msAsg (m2B gIx (.ow 3) (.ex (m2 gMod (mN gInt (mCons (mCallIo Q.F_law_next 0 mNil) mNil)) (mNO gLen 3)))) (mgName 7)) (msSeq (msAsg (mCallIo Q.F_law_fraction 0 mNil) (mgName 8)) (msExpr (mOM gAppend 3 (mCons (mN gTuple (mCons (mLc [9] (mItN gRange1 (mCons (mVar 2) mNil)) (mgName 9) mYes m_law_matrix_e0) mNil)) mNil)))))) (msIf (mTest (m2 gEq (mVar 5) (mK (.int 1)))) (msExpr (mOM gAppend 3 (mCons (mN gTuple (mCons (mLc [9] (mItN gRange1 (mCons (mVar 2) mNil)) (mgName 9) mYes m_law_matrix_e1) mNil)) mNil))) (msExpr (mOM gAppend 3 (mCons (mN gTuple (mCons (mLc [9] (mItN gRange1 (mCons (mVar 2) mNil)) (mgName 9) mYes m_law_matrix_e2) mNil)) mNil))))))
def m_law_matrix : MS := (msForget 3 (msSeq (msOwn 3 (mN gLst mNil)) (msSeq (msFor (mItN gRange1 (mCons (mVar 1) mNil)) (mgName 4) m_law_matrix_b3) (msRetO 3))))
def F_law_matrix : FN := runM 10 3 [] false m_law_matrix
def m_law_over : MS := (msRet (mCall Q.F_law_lowest (mCons (m2 gMul (m2 gIx (mVar 0) (mK (.int 0))) (m2 gIx (mVar 1) (mK (.int 1)))) (mCons (m2 gMul (m2 gIx (mVar 0) (mK (.int 1))) (m2 gIx (mVar 1) (mK (.int 0)))) mNil))))
def F_law_over : FN := runM 2 2 [] false m_law_over
def m_law_less : MS := (msRet (mCall Q.F_law_lowest (mCons (m2 gSub (m2 gMul (m2 gIx (mVar 0) (mK (.int 0))) (m2 gIx (mVar 1) (mK (.int 1)))) (m2 gMul (m2 gIx (mVar 1) (mK (.int 0))) (m2 gIx (mVar 0) (mK (.int 1))))) (mCons (m2 gMul (m2 gIx (mVar 0) (mK (.int 1))) (m2 gIx (mVar 1) (mK (.int 1)))) mNil))))
def F_law_less : FN := runM 2 2 [] false m_law_less
def m_law_taken_e0 : ME := (mCall Q.F_law_less (mCons (m2 gIx (mVar 0) (mVar 3)) (mCons (mCall Q.F_law_times (mCons (m2 gIx (mVar 0) (mVar 2)) (mCons (m2 gIx (mVar 1) (mVar 3)) mNil))) mNil)))
def m_law_taken : MS := (msRet (mLc [3] (mItN gRange1 (mCons (mN gLen (mCons (mVar 0) mNil)) mNil)) (mgName 3) mYes m_law_taken_e0))
def F_law_taken : FN := runM 4 3 [] false m_law_taken
def m_law_echelon_e0 : ME := (mN gList (mCons (mVar 3) mNil))
def m_law_echelon_t1 : MT := (mTest (m2 gNe (m2 gIx (m2 gIx (m2B gIx (.ow 2) (.ex (mVar 7))) (mVar 5)) (mK (.int 0))) (mK (.int 0))))
def m_law_echelon_e2 : ME := (mCall Q.F_law_over (mCons (mVar 9) (mCons (m2 gIx (mVar 8) (mVar 5)) mNil)))
def m_law_echelon_e3 : ME := (mCall Q.F_law_taken (mCons (mVar 3) (mCons (mVar 8) (mCons (mVar 5) mNil))))
def m_law_echelon_b4 : MS := (msSeq (msAsg (mLc [7] (mItN gRange1 (mCons (mNO gLen 2) mNil)) (mgName 7) m_law_echelon_t1 (mVar 7)) (mgName 6)) (msSeq (msIf (mNotT (mTru (mVar 6))) msCnt msNil) (msSeq (msAsg (mOM gPop 2 (mCons (m2 gIx (mVar 6) (mK (.int 0))) mNil)) (mgName 8)) (msSeq (msAsg (mLc [9] (mIter (mVar 8)) (mgName 9) mYes m_law_echelon_e2) (mgName 8)) (msSeq (msOwn 2 (mLc [3] (mIter (mVar 2)) (mgName 3) mYes m_law_echelon_e3)) (msAsg (m2 gAdd (mLc [3] (mIter (mVar 4)) (mgName 3) mYes m_law_echelon_e3) (mN gLst (mCons (mVar 8) mNil))) (mgName 4)))))))
def m_law_echelon_e5 : ME := (mN gTuple (mCons (mVar 3) mNil))
def m_law_echelon : MS := (msForget 2 (msSeq (msOwn 2 (mLc [3] (mIter (mVar 1)) (mgName 3) mYes m_law_echelon_e0)) (msSeq (msAsg (mN gLst mNil) (mgName 4)) (msSeq (msFor (mItN gRange1 (mCons (mVar 0) mNil)) (mgName 5) m_law_echelon_b4) (msRet (mLc [3] (mIter (mVar 4)) (mgName 3) mYes m_law_echelon_e5))))))
def F_law_echelon : FN := runM 10 2 [] false m_law_echelon
def mcheck_matrix_e0 : ME := (mCall Q.Fis_row_of (mCons (mVar 0) (mCons (mVar 2) mNil)))
def mcheck_matrix : MS := (msSeq (msIf (mNotT (mTest (mChain gLe gLe (mK (.int 0)) (mVar 0) (mK (.int 64))))) (msRaise "BadNumber") msNil) (msIf (mOrT (mTest (m2 gGt (mN gLen (mCons (mVar 1) mNil)) (mK (.int 64)))) (mNotT (mTru (mN gAll (mCons (mLc [2] (mIter (mVar 1)) (mgName 2) mYes mcheck_matrix_e0) mNil))))) (msRaise "NotMatrix") msNil))
def Fcheck_matrix : FN := runM 3 2 [] false mcheck_matrix
def mechelon_e0 : ME := (mN gTuple (mCons (mVar 4) mNil))
def mechelon : MS := (msSeq (msExpr (mCall Q.Fcheck_matrix (mCons (mVar 0) (mCons (mVar 1) mNil)))) (msSeq (msAsg (mCall Q.Freduced (mCons (mVar 1) (mCons (mVar 0) mNil))) (mgTup 2 (mgCons (mgName 2) (mgCons (mgName 3) mgNil)))) (msRet (mLc [4] (mIter (mSl (.ex (mVar 2)) mNoP (mPart (mN gLen (mCons (mVar 3) mNil))))) (mgName 4) mYes mechelon_e0))))
def Fechelon : FN := runM 5 2 [] true mechelon
def m_law_dot_b0 : MS := (msAsg (mCall Q.F_law_plus (mCons (mVar 2) (mCons (mCall Q.F_law_times (mCons (m2 gIx (mVar 0) (mVar 3)) (mCons (m2 gIx (mVar 1) (mVar 3)) mNil))) mNil))) (mgName 2))
def m_law_dot : MS := (msSeq (msAsg (mN gTup (mCons (mK (.int 0)) (mCons (mK (.int 1)) mNil))) (mgName 2)) (msSeq (msFor (mItN gRange1 (mCons (mN gLen (mCons (mVar 0) mNil)) mNil)) (mgName 3) m_law_dot_b0) (msRet (mVar 2))))
def F_law_dot : FN := runM 4 2 [] false m_law_dot
def m_law_kernel_is_right_t0 : MT := (mTest (m2 gNotIn (mVar 5) (mVar 2)))
def m_law_kernel_is_right_e1 : ME := (mN gTup (mCons (mN gInt (mCons (m2 gEq (mVar 5) (m2 gIx (mVar 4) (mVar 6))) mNil)) (mCons (mK (.int 1)) mNil)))
def m_law_kernel_is_right_e2 : ME := (m2 gEq (mCall Q.F_law_dot (mCons (mVar 7) (mCons (mVar 8) mNil))) (mN gTup (mCons (mK (.int 0)) (mCons (mK (.int 1)) mNil))))
def m_law_kernel_is_right_b3 : MS := (msSeq (msAsg (m2 gIx (mVar 3) (mVar 6)) (mgName 7)) (msSeq (msIf (mOrT (mNotT (mTru (m1 (gIsi "tuple") (mVar 7)))) (mTest (m2 gNe (mN gLen (mCons (mVar 7) mNil)) (mVar 0)))) (msRet (mK (.bl false))) msNil) (msSeq (msIf (mTest (m2 gNe (mLc [5] (mIter (mVar 4)) (mgName 5) mYes (m2 gIx (mVar 7) (mVar 5))) (mLc [5] (mIter (mVar 4)) (mgName 5) mYes m_law_kernel_is_right_e1))) (msRet (mK (.bl false))) msNil) (msIf (mNotT (mTru (mN gAll (mCons (mLc [8] (mIter (mVar 1)) (mgName 8) mYes m_law_kernel_is_right_e2) mNil)))) (msRet (mK (.bl false))) msNil))))
def m_law_kernel_is_right : MS := (msSeq (msAsg (mLc [5] (mItN gRange1 (mCons (mVar 0) mNil)) (mgName 5) m_law_kernel_is_right_t0 (mVar 5)) (mgName 4)) (msSeq (msIf (mTest (m2 gNe (mN gLen (mCons (mVar 3) mNil)) (mN gLen (mCons (mVar 4) mNil)))) (msRet (mK (.bl false))) msNil) (msSeq (msFor (mItN gRange1 (mCons (mN gLen (mCons (mVar 4) mNil)) mNil)) (mgName 6) m_law_kernel_is_right_b3) (msRet (mK (.bl true))))))
def F_law_kernel_is_right : FN := runM 9 4 [] false m_law_kernel_is_right
def mrank_of_rows : MS := (msRet (mN gLen (mCons (m2 gIx (mCall Q.Freduced (mCons (mVar 1) (mCons (mVar 0) mNil))) (mK (.int 1))) mNil)))
def Frank_of_rows : FN := runM 2 2 [] false mrank_of_rows
def mrank : MS := (msSeq (msExpr (mCall Q.Fcheck_matrix (mCons (mVar 0) (mCons (mVar 1) mNil)))) (msRet (mCall Q.Frank_of_rows (mCons (mVar 0) (mCons (mVar 1) mNil)))))
def Frank : FN := runM 2 2 [] false mrank
def m_law_pivots_t0 : MT := (mTest (m2 gNe (m2 gIx (m2 gIx (mVar 2) (mVar 3)) (mK (.int 0))) (mK (.int 0))))
def m_law_pivots_b1 : MS := (msExpr (mOM gAppend 1 (mCons (m2 gIx (mLc [3] (mItN gRange1 (mCons (mN gLen (mCons (mVar 2) mNil)) mNil)) (mgName 3) m_law_pivots_t0 (mVar 3)) (mK (.int 0))) mNil)))
def m_law_pivots : MS := (msForget 1 (msSeq (msOwn 1 (mN gLst mNil)) (msSeq (msFor (mIter (mVar 0)) (mgName 2) m_law_pivots_b1) (msRetO 1))))
def F_law_pivots : FN := runM 4 1 [] false m_law_pivots
def mkernel_of_b0 : MS := (msAsg (mCall Q.Fnegated (mCons (m2 gIx (m2 gIx (mVar 2) (mVar 7)) (mVar 5)) mNil)) (mgSub 6 (mVar 8)))
def mkernel_of_b1 : MS := (msSeq (msIf (mTest (m2 gIn (mVar 5) (mVar 3))) msCnt msNil) (msForget 6 (msSeq (msOwn 6 (m2F gMul (mN gLst (mCons (mK (.tup [.int 0, .int 1])) mNil)) (mVar 0))) (msSeq (msAsg (mK (.tup [.int 1, .int 1])) (mgSub 6 (mVar 5))) (msSeq (msFor (mItN gEnumS (mCons (mVar 3) mNil)) (mgTup 2 (mgCons (mgName 7) (mgCons (mgName 8) mgNil))) mkernel_of_b0) (msSeq (msExpr (mOM gAppend 4 (mCons (mNO gTuple 6) mNil))) msNil))))))
def mkernel_of : MS := (msSeq (msAsg (mCall Q.Freduced (mCons (mVar 1) (mCons (mVar 0) mNil))) (mgTup 2 (mgCons (mgName 2) (mgCons (mgName 3) mgNil)))) (msForget 4 (msSeq (msOwn 4 (mN gLst mNil)) (msSeq (msFor (mItN gRange1 (mCons (mVar 0) mNil)) (mgName 5) mkernel_of_b1) (msRetO 4)))))
def Fkernel_of : FN := runM 9 2 [] false mkernel_of
def mkernel : MS := (msSeq (msExpr (mCall Q.Fcheck_matrix (mCons (mVar 0) (mCons (mVar 1) mNil)))) (msRet (mCall Q.Fkernel_of (mCons (mVar 0) (mCons (mVar 1) mNil)))))
def Fkernel : FN := runM 2 2 [] false mkernel
def m_law_changed_e0 : ME := (mN gList (mCons (mVar 3) mNil))
def m_law_changed_e1 : ME := (mCall Q.F_law_times (mCons (mVar 5) (mCons (mVar 6) mNil)))
def m_law_changed_e2 : ME := (mCall Q.F_law_plus (mCons (m2 gIx (m2B gIx (.ow 2) (.ex (mVar 4))) (mVar 10)) (mCons (mCall Q.F_law_times (mCons (mVar 8) (mCons (m2 gIx (mVar 9) (mVar 10)) mNil))) mNil)))
def m_law_changed_b3 : MS := (msSeq (msAsg (mN gTup (mCons (m2 gAdd (mK (.int 1)) (m2 gMod (mN gInt (mCons (mCallIo Q.F_law_next 0 mNil) mNil)) (mK (.int 3)))) (mCons (m2 gAdd (mK (.int 1)) (m2 gMod (mN gInt (mCons (mCallIo Q.F_law_next 0 mNil) mNil)) (mK (.int 2)))) mNil))) (mgName 5)) (msSeq (msAsg (mCall Q.F_law_lowest (mCons (m2 gSub (m2 gIx (mVar 5) (mK (.int 0))) (m2 gMul (m2 gMul (mK (.int 2)) (m2 gIx (mVar 5) (mK (.int 0)))) (m2 gMod (mN gInt (mCons (mCallIo Q.F_law_next 0 mNil) mNil)) (mK (.int 2))))) (mCons (m2 gIx (mVar 5) (mK (.int 1))) mNil))) (mgName 5)) (msSeq (msAsg (mLc [6] (mIter (m2B gIx (.ow 2) (.ex (mVar 4)))) (mgName 6) mYes m_law_changed_e1) (mgSub 2 (mVar 4))) (msSeq (msAsg (m2 gMod (mN gInt (mCons (mCallIo Q.F_law_next 0 mNil) mNil)) (mNO gLen 2)) (mgName 7)) (msSeq (msIf (mTest (m2 gNe (mVar 7) (mVar 4))) (msSeq (msAsg (mCallIo Q.F_law_fraction 0 mNil) (mgName 8)) (msSeq (msAsg (m2B gIx (.ow 2) (.ex (mVar 7))) (mgName 9)) (msAsg (mLc [10] (mItN gRange1 (mCons (mN gLen (mCons (mVar 9) mNil)) mNil)) (mgName 10) mYes m_law_changed_e2) (mgSub 2 (mVar 4))))) msNil) (msExpr (mOM gInsert 2 (mCons (m2 gMod (mN gInt (mCons (mCallIo Q.F_law_next 0 mNil) mNil)) (mNO gLen 2)) (mCons (mOM gPop 2 (mCons (mVar 4) mNil)) mNil)))))))))
def m_law_changed_e4 : ME := (mN gTuple (mCons (mVar 3) mNil))
def m_law_changed : MS := (msForget 2 (msSeq (msOwn 2 (mLc [3] (mIter (mVar 1)) (mgName 3) mYes m_law_changed_e0)) (msSeq (msFor (mItN gRange1 (mCons (mNO gLen 2) mNil)) (mgName 4) m_law_changed_b3) (msRet (mLc [3] (mIter (mVar 2)) (mgName 3) mYes m_law_changed_e4)))))
def F_law_changed : FN := runM 11 2 [] false m_law_changed
end Q
namespace Q
open DL L2 PySem PySem.Spec PyProof.Rows
def m_law_wanted_e0 : ME := (mCallIo Q.F_law_fraction 0 mNil)
def m_law_wanted_s1 : MS := (msAsg (mLc [4] (mItN gRange1 (mCons (mVar 1) mNil)) (mgName 4) mYes m_law_wanted_e0) (mgName 3))
def m_law_wanted_e2 : ME := (mCall Q.F_law_dot (mCons (mVar 6) (mCons (mVar 3) mNil)))
def m_law_wanted_s3 : MS := (msOwn 5 (mLc [6] (mIter (mVar 2)) (mgName 6) mYes m_law_wanted_e2))
def m_law_wanted_s4 : MS := (msAsg (m2 gMod (mN gInt (mCons (mCallIo Q.F_law_next 0 mNil) mNil)) (mK (.int 4))) (mgName 7))
def m_law_wanted_s5 : MS := (msIf (mAndT (mTest (m2 gEq (mVar 7) (mK (.int 1)))) (mTru (mVar 2))) (msSeq (msAsg (m2 gMod (mN gInt (mCons (mCallIo Q.F_law_next 0 mNil) mNil)) (mN gLen (mCons (mVar 2) mNil))) (mgName 8)) (msAsg (mCall Q.F_law_plus (mCons (m2B gIx (.ow 5) (.ex (mVar 8))) (mCons (mN gTup (mCons (mK (.int 1)) (mCons (m2 gAdd (mK (.int 1)) (m2 gMod (mN gInt (mCons (mCallIo Q.F_law_next 0 mNil) mNil)) (mK (.int 3)))) mNil))) mNil))) (mgSub 5 (mVar 8)))) (msIf (mTest (m2 gEq (mVar 7) (mK (.int 2)))) (msOwn 5 (mLc [6] (mIter (mVar 2)) (mgName 6) mYes m_law_wanted_e0)) msNil))
def m_law_wanted : MS := (msSeq m_law_wanted_s1 (msForget 5 (msSeq m_law_wanted_s3 (msSeq m_law_wanted_s4 (msSeq m_law_wanted_s5 (msRet (mNO gTuple 5)))))))
def F_law_wanted : FN := runM 9 3 [] false m_law_wanted
def mcheck_wanted : MS := (msSeq (msExpr (mCall Q.Fcheck_matrix (mCons (mVar 0) (mCons (mVar 1) mNil)))) (msIf (mNotT (mTru (mCall Q.Fis_row_of (mCons (mN gLen (mCons (mVar 1) mNil)) (mCons (mVar 2) mNil))))) (msRaise "NotMatrix") msNil))
def Fcheck_wanted : FN := runM 3 3 [] false mcheck_wanted
def msolution : MS := (msSeq (msExpr (mCall Q.Fcheck_wanted (mCons (mVar 0) (mCons (mVar 1) (mCons (mVar 2) mNil))))) (msSeq (msAsg (mCall Q.Fsolved (mCons (mVar 0) (mCons (mVar 1) (mCons (mVar 2) mNil)))) (mgName 3)) (msSeq (msIf (mTest (m2 gIs (mVar 3) (mK .non))) (msRaise "NoAnswer") msNil) (msRet (mVar 3)))))
def Fsolution : FN := runM 4 3 [] false msolution
def mclashing_e0 : ME := (mN gTuple (mCons (mLc [4] (mIter (mVar 1)) (mgName 4) mYes (m2 gIx (mVar 4) (mVar 5))) mNil))
def mclashing : MS := (msSeq (msAsg (mLc [5] (mItN gRange1 (mCons (mVar 0) mNil)) (mgName 5) mYes mclashing_e0) (mgName 3)) (msRet (mCall Q.Fsolved (mCons (mN gLen (mCons (mVar 1) mNil)) (mCons (m2 gAdd (mVar 3) (mN gLst (mCons (mN gTuple (mCons (mVar 2) mNil)) mNil))) (mCons (m2 gAdd (m2 gMul (mN gLst (mCons (mK (.tup [.int 0, .int 1])) mNil)) (mVar 0)) (mN gLst (mCons (mK (.tup [.int 1, .int 1])) mNil))) mNil))))))
def Fclashing : FN := runM 6 3 [] false mclashing
def mclash : MS := (msSeq (msExpr (mCall Q.Fcheck_wanted (mCons (mVar 0) (mCons (mVar 1) (mCons (mVar 2) mNil))))) (msSeq (msAsg (mCall Q.Fclashing (mCons (mVar 0) (mCons (mVar 1) (mCons (mVar 2) mNil)))) (mgName 3)) (msSeq (msIf (mTest (m2 gIs (mVar 3) (mK .non))) (msRaise "NoAnswer") msNil) (msRet (mVar 3)))))
def Fclash : FN := runM 4 3 [] false mclash
def m_law_solves_e0 : ME := (mCall Q.F_law_dot (mCons (mVar 4) (mCons (mVar 3) mNil)))
def m_law_solves_t1 : MT := (mTest (m2 gNotIn (mVar 6) (mVar 5)))
def m_law_solves_e2 : ME := (m2 gEq (m2 gIx (mVar 3) (mVar 6)) (mN gTup (mCons (mK (.int 0)) (mCons (mK (.int 1)) mNil))))
def m_law_solves : MS := (msSeq (msIf (mOrT (mNotT (mTru (m1 (gIsi "tuple") (mVar 3)))) (mTest (m2 gNe (mN gLen (mCons (mVar 3) mNil)) (mVar 0)))) (msRet (mK (.bl false))) msNil) (msSeq (msIf (mTest (m2 gNe (mN gTuple (mCons (mLc [4] (mIter (mVar 1)) (mgName 4) mYes m_law_solves_e0) mNil)) (mVar 2))) (msRet (mK (.bl false))) msNil) (msSeq (msAsg (mCall Q.F_law_pivots (mCons (mCall Q.F_law_echelon (mCons (mVar 0) (mCons (mVar 1) mNil))) mNil)) (mgName 5)) (msRet (mN gAll (mCons (mLc [6] (mItN gRange1 (mCons (mVar 0) mNil)) (mgName 6) m_law_solves_t1 m_law_solves_e2) mNil))))))
def F_law_solves : FN := runM 7 4 [] false m_law_solves
def m_law_clashes_e0 : ME := (mN gTuple (mCons (mLc [5] (mIter (mVar 1)) (mgName 5) mYes (m2 gIx (mVar 5) (mVar 6))) mNil))
def m_law_clashes : MS := (msSeq (msAsg (mLc [6] (mItN gRange1 (mCons (mVar 0) mNil)) (mgName 6) mYes m_law_clashes_e0) (mgName 4)) (msSeq (msAsg (m2 gMul (mN gLst (mCons (mN gTup (mCons (mK (.int 0)) (mCons (mK (.int 1)) mNil))) mNil)) (mVar 0)) (mgName 7)) (msRet (mCall Q.F_law_solves (mCons (mN gLen (mCons (mVar 1) mNil)) (mCons (m2 gAdd (mVar 4) (mN gLst (mCons (mVar 2) mNil))) (mCons (mN gTuple (mCons (m2 gAdd (mVar 7) (mN gLst (mCons (mN gTup (mCons (mK (.int 1)) (mCons (mK (.int 1)) mNil))) mNil))) mNil)) (mCons (mVar 3) mNil))))))))
def F_law_clashes : FN := runM 8 4 [] false m_law_clashes
end Q
namespace Q
open DL L2 PySem PySem.Spec PyProof.Rows
def mcheck_indexes_b0 : MS := (msExpr (mCall Q.Fcheck_index (mCons (mVar 0) (mCons (mVar 2) mNil))))
def mcheck_indexes_e1 : ME := (m2 gLt (m2 gIx (mVar 1) (m2 gSub (mVar 2) (mK (.int 1)))) (m2 gIx (mVar 1) (mVar 2)))
def mcheck_indexes : MS := (msSeq (msFor (mIter (mVar 1)) (mgName 2) mcheck_indexes_b0) (msIf (mNotT (mTru (mN gAll (mCons (mLc [2] (mItN gRange2 (mCons (mK (.int 1)) (mCons (mN gLen (mCons (mVar 1) mNil)) mNil))) (mgName 2) mYes mcheck_indexes_e1) mNil)))) (msRaise "BadNumber") msNil))
def Fcheck_indexes : FN := runM 3 2 [] false mcheck_indexes
def mno_meet_s0 : MS := (msExpr (mCall Q.Fcheck_indexes (mCons (mVar 0) (mCons (mVar 1) mNil))))
def mno_meet_s1 : MS := (msAsg (mCall Q.Fequations (mCons (mVar 0) (mCons (mVar 1) mNil))) (mgTup 2 (mgCons (mgName 2) (mgCons (mgName 3) mgNil))))
def mno_meet_s2 : MS := (msAsg (mCall Q.Fclashing (mCons (m1 (gFld (isC ["Planes"]) "n") (mVar 0)) (mCons (mVar 2) (mCons (mVar 3) mNil)))) (mgName 4))
def mno_meet_s3 : MS := (msIf (mTest (m2 gIs (mVar 4) (mK .non))) (msRaise "NoAnswer") msNil)
def mno_meet : MS := (msSeq mno_meet_s0 (msSeq mno_meet_s1 (msSeq mno_meet_s2 (msSeq mno_meet_s3 (msRet (mVar 4))))))
def Fno_meet : FN := runM 5 2 [] false mno_meet
def mmeet : MS := (msSeq (msExpr (mCall Q.Fcheck_indexes (mCons (mVar 0) (mCons (mVar 1) mNil)))) (msSeq (msAsg (mCall Q.Fplace_of (mCons (mVar 0) (mCons (mVar 1) mNil))) (mgName 2)) (msSeq (msIf (mTest (m2 gIs (mVar 2) (mK .non))) (msRaise "NoAnswer") msNil) (msRet (mN gTup (mCons (mVar 2) (mCons (mCall Q.Fkernel_of (mCons (m1 (gFld (isC ["Planes"]) "n") (mVar 0)) (mCons (m2 gIx (mCall Q.Fequations (mCons (mVar 0) (mCons (mVar 1) mNil))) (mK (.int 0))) mNil))) mNil)))))))
def Fmeet : FN := runM 3 2 [] false mmeet
def m_law_numbers_e0 : ME := (mN gTup (mCons (mVar 1) (mCons (mK (.int 1)) mNil)))
def m_law_numbers : MS := (msRet (mN gTuple (mCons (mLc [1] (mIter (mVar 0)) (mgName 1) mYes m_law_numbers_e0) mNil)))
def F_law_numbers : FN := runM 2 1 [] false m_law_numbers
def m_law_is_meet_s0 : MS := (msAsg (mVar 2) (mgTup 2 (mgCons (mgName 3) (mgCons (mgName 4) mgNil))))
def m_law_is_meet_e1 : ME := (mCall Q.F_law_numbers (mCons (mSl (.ex (mVar 6)) mNoP (mPart (mVar 0))) mNil))
def m_law_is_meet_s2 : MS := (msAsg (mLc [6] (mIter (mVar 1)) (mgName 6) mYes m_law_is_meet_e1) (mgName 5))
def m_law_is_meet_s3 : MS := (msIf (mOrT (mNotT (mTru (m1 (gIsi "tuple") (mVar 3)))) (mOrT (mTest (m2 gNe (mN gLen (mCons (mVar 3) mNil)) (mVar 0))) (mNotT (mTru (m1 (gIsi "list") (mVar 4)))))) (msRet (mK (.bl false))) msNil)
def m_law_is_meet_e4 : ME := (m2 gEq (mCall Q.F_law_height (mCons (mVar 6) (mCons (mVar 3) mNil))) (mN gTup (mCons (mK (.int 0)) (mCons (mK (.int 1)) mNil))))
def m_law_is_meet_s5 : MS := (msIf (mNotT (mTru (mN gAll (mCons (mLc [6] (mIter (mVar 1)) (mgName 6) mYes m_law_is_meet_e4) mNil)))) (msRet (mK (.bl false))) msNil)
def m_law_is_meet_s6 : MS := (msAsg (mCall Q.F_law_echelon (mCons (mVar 0) (mCons (mVar 5) mNil))) (mgName 7))
def m_law_is_meet_s7 : MS := (msAsg (mCall Q.F_law_pivots (mCons (mVar 7) mNil)) (mgName 8))
def m_law_is_meet_t8 : MT := (mTest (m2 gNotIn (mVar 9) (mVar 8)))
def m_law_is_meet_e9 : ME := (m2 gEq (m2 gIx (mVar 3) (mVar 9)) (mN gTup (mCons (mK (.int 0)) (mCons (mK (.int 1)) mNil))))
def m_law_is_meet_s10 : MS := (msIf (mNotT (mTru (mN gAll (mCons (mLc [9] (mItN gRange1 (mCons (mVar 0) mNil)) (mgName 9) m_law_is_meet_t8 m_law_is_meet_e9) mNil)))) (msRet (mK (.bl false))) msNil)
def m_law_is_meet_s11 : MS := (msIf (mOrT (mTest (m2 gNe (mN gLen (mCons (mVar 4) mNil)) (m2 gSub (mVar 0) (mN gLen (mCons (mVar 7) mNil))))) (mTest (m2 gNe (mN gLen (mCons (mCall Q.F_law_echelon (mCons (mVar 0) (mCons (mVar 4) mNil))) mNil)) (mN gLen (mCons (mVar 4) mNil))))) (msRet (mK (.bl false))) msNil)
def m_law_is_meet_e12 : ME := (m2 gEq (mCall Q.F_law_dot (mCons (mVar 6) (mCons (mVar 10) mNil))) (mN gTup (mCons (mK (.int 0)) (mCons (mK (.int 1)) mNil))))
def m_law_is_meet_b13 : MS := (msIf (mOrT (mNotT (mTru (m1 (gIsi "tuple") (mVar 10)))) (mNotT (mTru (mN gAll (mCons (mLc [6] (mIter (mVar 5)) (mgName 6) mYes m_law_is_meet_e12) mNil))))) (msRet (mK (.bl false))) msNil)
def m_law_is_meet_s14 : MS := (msFor (mIter (mVar 4)) (mgName 10) m_law_is_meet_b13)
def m_law_is_meet_s15 : MS := (msAsg (mLc [9] (mItN gRange1 (mCons (mVar 0) mNil)) (mgName 9) m_law_is_meet_t8 (mVar 9)) (mgName 11))
def m_law_is_meet_e16 : ME := (m2 gIx (m2 gIx (mVar 4) (mVar 9)) (mVar 12))
def m_law_is_meet_e17 : ME := (mN gTup (mCons (mN gInt (mCons (m2 gEq (mVar 12) (m2 gIx (mVar 11) (mVar 9))) mNil)) (mCons (mK (.int 1)) mNil)))
def m_law_is_meet_b18 : MS := (msIf (mTest (m2 gNe (mLc [12] (mIter (mVar 11)) (mgName 12) mYes m_law_is_meet_e16) (mLc [12] (mIter (mVar 11)) (mgName 12) mYes m_law_is_meet_e17))) (msRet (mK (.bl false))) msNil)
def m_law_is_meet_s19 : MS := (msFor (mItN gRange1 (mCons (mN gLen (mCons (mVar 11) mNil)) mNil)) (mgName 9) m_law_is_meet_b18)
def m_law_is_meet : MS := (msSeq m_law_is_meet_s0 (msSeq m_law_is_meet_s2 (msSeq m_law_is_meet_s3 (msSeq m_law_is_meet_s5 (msSeq m_law_is_meet_s6 (msSeq m_law_is_meet_s7 (msSeq m_law_is_meet_s10 (msSeq m_law_is_meet_s11 (msSeq m_law_is_meet_s14 (msSeq m_law_is_meet_s15 (msSeq m_law_is_meet_s19 (msRet (mK (.bl true))))))))))))))
def F_law_is_meet : FN := runM 13 3 [] false m_law_is_meet
def m_law_is_clash_e0 : ME := (mN gTup (mCons (m2 gIx (mVar 5) (mVar 4)) (mCons (mK (.int 1)) mNil)))
def m_law_is_clash_b1 : MS := (msExpr (mOM gAppend 3 (mCons (mCall Q.F_law_dot (mCons (mVar 2) (mCons (mLc [5] (mIter (mVar 1)) (mgName 5) mYes m_law_is_clash_e0) mNil))) mNil)))
def m_law_is_clash : MS := (msSeq (msIf (mOrT (mNotT (mTru (m1 (gIsi "tuple") (mVar 2)))) (mTest (m2 gNe (mN gLen (mCons (mVar 2) mNil)) (mN gLen (mCons (mVar 1) mNil))))) (msRet (mK (.bl false))) msNil) (msForget 3 (msSeq (msOwn 3 (mN gLst mNil)) (msSeq (msFor (mItN gRange1 (mCons (m2 gAdd (mVar 0) (mK (.int 1))) mNil)) (mgName 4) m_law_is_clash_b1) (msRet (m2B gEq (.ow 3) (.ex (m2 gAdd (m2 gMul (mN gLst (mCons (mN gTup (mCons (mK (.int 0)) (mCons (mK (.int 1)) mNil))) mNil)) (mVar 0)) (mN gLst (mCons (mN gTup (mCons (mK (.int 1)) (mCons (mK (.int 1)) mNil))) mNil))))))))))
def F_law_is_clash : FN := runM 6 3 [] false m_law_is_clash
end Q
namespace Q
open DL L2 PySem PySem.Spec PyProof.Rows
def m_law_orders_e0 : ME := (m2 gAdd (m2 gAdd (mSl (.ex (mVar 4)) mNoP (mPart (mVar 5))) (mN gLst (mCons (mVar 2) mNil))) (mSl (.ex (mVar 4)) (mPart (mVar 5)) mNoP))
def m_law_orders_b1 : MS := (msExpr (mOM gExtend 3 (mCons (mLc [5] (mItN gRange1 (mCons (m2 gAdd (mN gLen (mCons (mVar 4) mNil)) (mK (.int 1))) mNil)) (mgName 5) mYes m_law_orders_e0) mNil)))
def m_law_orders_b2 : MS := (msForget 3 (msSeq (msOwn 3 (mN gLst mNil)) (msSeq (msFor (mIter (mVar 1)) (mgName 4) m_law_orders_b1) (msAsg (mVar 3) (mgName 1)))))
def m_law_orders : MS := (msSeq (msAsg (mN gLst (mCons (mN gLst mNil) mNil)) (mgName 1)) (msSeq (msFor (mItN gRange1 (mCons (mVar 0) mNil)) (mgName 2) m_law_orders_b2) (msRet (mVar 1))))
def F_law_orders : FN := runM 6 1 [] false m_law_orders
def m_law_wrong_pairs_t0 : MT := (mTest (m2 gGt (m2 gIx (mVar 0) (mVar 3)) (m2 gIx (mVar 0) (mVar 2))))
def m_law_wrong_pairs_b1 : MS := (msAsg (m2 gAdd (mVar 1) (mN gLen (mCons (mLc [3] (mItN gRange1 (mCons (mVar 2) mNil)) (mgName 3) m_law_wrong_pairs_t0 (mVar 3)) mNil))) (mgName 1))
def m_law_wrong_pairs : MS := (msSeq (msAsg (mK (.int 0)) (mgName 1)) (msSeq (msFor (mItN gRange1 (mCons (mN gLen (mCons (mVar 0) mNil)) mNil)) (mgName 2) m_law_wrong_pairs_b1) (msRet (mVar 1))))
def F_law_wrong_pairs : FN := runM 4 1 [] false m_law_wrong_pairs
def m_law_determinant_b0 : MS := (msAsg (mCall Q.F_law_times (mCons (mVar 3) (mCons (m2 gIx (m2 gIx (mVar 0) (mVar 4)) (m2 gIx (mVar 2) (mVar 4))) mNil))) (mgName 3))
def m_law_determinant_b1 : MS := (msSeq (msAsg (mN gTup (mCons (m2 gSub (mK (.int 1)) (m2 gMul (mK (.int 2)) (mN gInt (mCons (m2 gMod (mCall Q.F_law_wrong_pairs (mCons (mVar 2) mNil)) (mK (.int 2))) mNil)))) (mCons (mK (.int 1)) mNil))) (mgName 3)) (msSeq (msFor (mItN gRange1 (mCons (mN gLen (mCons (mVar 0) mNil)) mNil)) (mgName 4) m_law_determinant_b0) (msAsg (mCall Q.F_law_plus (mCons (mVar 1) (mCons (mVar 3) mNil))) (mgName 1))))
def m_law_determinant : MS := (msSeq (msAsg (mN gTup (mCons (mK (.int 0)) (mCons (mK (.int 1)) mNil))) (mgName 1)) (msSeq (msFor (mIter (mCall Q.F_law_orders (mCons (mN gLen (mCons (mVar 0) mNil)) mNil))) (mgName 2) m_law_determinant_b1) (msRet (mVar 1))))
def F_law_determinant : FN := runM 5 1 [] false m_law_determinant
def mproduct_of_e0 : ME := (mLc [4] (mIter (mVar 2)) (mgName 4) mYes (m2 gIx (mVar 4) (mVar 5)))
def mproduct_of_e1 : ME := (mCall Q.Fdot (mCons (mVar 7) (mCons (mVar 6) mNil)))
def mproduct_of_e2 : ME := (mN gTuple (mCons (mLc [6] (mIter (mVar 3)) (mgName 6) mYes mproduct_of_e1) mNil))
def mproduct_of : MS := (msSeq (msAsg (mLc [5] (mItN gRange1 (mCons (mVar 1) mNil)) (mgName 5) mYes mproduct_of_e0) (mgName 3)) (msRet (mLc [7] (mIter (mVar 0)) (mgName 7) mYes mproduct_of_e2)))
def Fproduct_of : FN := runM 8 3 [] false mproduct_of
def mmatrix_product : MS := (msSeq (msExpr (mCall Q.Fcheck_matrix (mCons (mVar 0) (mCons (mVar 1) mNil)))) (msSeq (msExpr (mCall Q.Fcheck_matrix (mCons (mVar 2) (mCons (mVar 3) mNil)))) (msSeq (msIf (mTest (m2 gNe (mVar 0) (mN gLen (mCons (mVar 3) mNil)))) (msRaise "NotMatrix") msNil) (msRet (mCall Q.Fproduct_of (mCons (mVar 1) (mCons (mVar 2) (mCons (mVar 3) mNil))))))))
def Fmatrix_product : FN := runM 4 4 [] false mmatrix_product
def mcheck_square : MS := (msSeq (msExpr (mCall Q.Fcheck_matrix (mCons (mVar 0) (mCons (mVar 1) mNil)))) (msIf (mTest (m2 gNe (mN gLen (mCons (mVar 1) mNil)) (mVar 0))) (msRaise "NotMatrix") msNil))
def Fcheck_square : FN := runM 2 2 [] false mcheck_square
def mdeterminant_of_e0 : ME := (mN gList (mCons (mVar 2) mNil))
def mdeterminant_of_t1 : MT := (mTest (m2 gNe (m2 gIx (m2B gIx (.ow 1) (.ex (mVar 6))) (mVar 4)) (mK (.tup [.int 0, .int 1]))))
def mdeterminant_of_b2 : MS := (msIf (mTest (m2 gNe (m2 gIx (m2B gIx (.ow 1) (.ex (mVar 6))) (mVar 4)) (mK (.tup [.int 0, .int 1])))) (msAsg (mCall Q.Flessened (mCons (m2B gIx (.ow 1) (.ex (mVar 6))) (mCons (mCall Q.Fmultiplied (mCons (m2 gIx (m2B gIx (.ow 1) (.ex (mVar 6))) (mVar 4)) (mCons (mVar 7) mNil))) (mCons (m2B gIx (.ow 1) (.ex (mVar 4))) mNil)))) (mgSub 1 (mVar 6))) msNil)
def mdeterminant_of_b3 : MS := (msSeq (msAsg (mLc [6] (mItN gRange2 (mCons (mVar 4) (mCons (mNO gLen 1) mNil))) (mgName 6) mdeterminant_of_t1 (mVar 6)) (mgName 5)) (msSeq (msIf (mNotT (mTru (mVar 5))) (msRet (mK (.tup [.int 0, .int 1]))) msNil) (msSeq (msIf (mTest (m2 gNe (m2 gIx (mVar 5) (mK (.int 0))) (mVar 4))) (msSeq (msAsg (mN gTup (mCons (m2B gIx (.ow 1) (.ex (m2 gIx (mVar 5) (mK (.int 0))))) (mCons (m2B gIx (.ow 1) (.ex (mVar 4))) mNil))) (mgTup 2 (mgCons (mgSub 1 (mVar 4)) (mgCons (mgSub 1 (m2 gIx (mVar 5) (mK (.int 0)))) mgNil)))) (msAsg (mCall Q.Fnegated (mCons (mVar 3) mNil)) (mgName 3))) msNil) (msSeq (msAsg (mCall Q.Fmultiplied (mCons (mVar 3) (mCons (m2 gIx (m2B gIx (.ow 1) (.ex (mVar 4))) (mVar 4)) mNil))) (mgName 3)) (msSeq (msAsg (mCall Q.Finverted (mCons (m2 gIx (m2B gIx (.ow 1) (.ex (mVar 4))) (mVar 4)) mNil)) (mgName 7)) (msFor (mItN gRange2 (mCons (m2 gAdd (mVar 4) (mK (.int 1))) (mCons (mNO gLen 1) mNil))) (mgName 6) mdeterminant_of_b2))))))
def mdeterminant_of : MS := (msForget 1 (msSeq (msOwn 1 (mLc [2] (mIter (mVar 0)) (mgName 2) mYes mdeterminant_of_e0)) (msSeq (msAsg (mK (.tup [.int 1, .int 1])) (mgName 3)) (msSeq (msFor (mItN gRange1 (mCons (mNO gLen 1) mNil)) (mgName 4) mdeterminant_of_b3) (msRet (mVar 3))))))
def Fdeterminant_of : FN := runM 8 1 [] false mdeterminant_of
def mdeterminant : MS := (msSeq (msExpr (mCall Q.Fcheck_square (mCons (mVar 0) (mCons (mVar 1) mNil)))) (msRet (mCall Q.Fdeterminant_of (mCons (mVar 1) mNil))))
def Fdeterminant : FN := runM 2 2 [] false mdeterminant
def minverse_of_s0 : MS := (msAsg (mN gLen (mCons (mVar 0) mNil)) (mgName 1))
def minverse_of_e1 : ME := (mIf (mTest (m2 gEq (mVar 5) (mVar 3))) (mK (.tup [.int 1, .int 1])) (mK (.tup [.int 0, .int 1])))
def minverse_of_b2 : MS := (msExpr (mOM gAppend 2 (mCons (m2 gAdd (mN gList (mCons (mVar 4) mNil)) (mLc [5] (mItN gRange1 (mCons (mVar 1) mNil)) (mgName 5) mYes minverse_of_e1)) mNil)))
def minverse_of_s3 : MS := (msFor (mItN gEnumS (mCons (mVar 0) mNil)) (mgTup 2 (mgCons (mgName 3) (mgCons (mgName 4) mgNil))) minverse_of_b2)
def minverse_of_s4 : MS := (msAsg (mCall Q.Freduced (mCons (mVar 2) (mCons (mVar 1) mNil))) (mgTup 2 (mgCons (mgName 6) (mgCons (mgName 7) mgNil))))
def minverse_of_s5 : MS := (msIf (mTest (m2 gLt (mN gLen (mCons (mVar 7) mNil)) (mVar 1))) (msRet (mK .non)) msNil)
def minverse_of_e6 : ME := (mN gTuple (mCons (mSl (.ex (mVar 4)) (mPart (mVar 1)) mNoP) mNil))
def minverse_of_s7 : MS := (msRet (mLc [4] (mIter (mVar 6)) (mgName 4) mYes minverse_of_e6))
def minverse_of : MS := (msSeq minverse_of_s0 (msForget 2 (msSeq (msOwn 2 (mN gLst mNil)) (msSeq minverse_of_s3 (msSeq minverse_of_s4 (msSeq minverse_of_s5 minverse_of_s7))))))
def Finverse_of : FN := runM 8 1 [] false minverse_of
def minverse : MS := (msSeq (msExpr (mCall Q.Fcheck_square (mCons (mVar 0) (mCons (mVar 1) mNil)))) (msSeq (msAsg (mCall Q.Finverse_of (mCons (mVar 1) mNil)) (mgName 2)) (msSeq (msIf (mTest (m2 gIs (mVar 2) (mK .non))) (msRaise "NoAnswer") msNil) (msRet (mVar 2)))))
def Finverse : FN := runM 3 2 [] false minverse
def mechelon_v2_e0 : ME := (mN gTuple (mCons (mVar 4) mNil))
def mechelon_v2 : MS := (msSeq (msExpr (mCall Q.Fcheck_matrix (mCons (mVar 0) (mCons (mVar 1) mNil)))) (msSeq (msAsg (mCall Q.Freduced (mCons (mVar 1) (mCons (mVar 0) mNil))) (mgTup 2 (mgCons (mgName 2) (mgCons (mgName 3) mgNil)))) (msRet (mLc [4] (mIter (mSl (.ex (mVar 2)) mNoP (mPart (mN gLen (mCons (mVar 3) mNil))))) (mgName 4) mYes mechelon_v2_e0))))
def Fechelon_v2 : FN := runM 5 2 [] false mechelon_v2
def m_law_product_e0 : ME := (mLc [4] (mIter (mVar 2)) (mgName 4) mYes (m2 gIx (mVar 4) (mVar 5)))
def m_law_product_e1 : ME := (mCall Q.F_law_dot (mCons (mVar 7) (mCons (mVar 8) mNil)))
def m_law_product_b2 : MS := (msExpr (mOM gAppend 6 (mCons (mN gTuple (mCons (mLc [8] (mIter (mVar 3)) (mgName 8) mYes m_law_product_e1) mNil)) mNil)))
def m_law_product : MS := (msSeq (msAsg (mLc [5] (mItN gRange1 (mCons (mVar 1) mNil)) (mgName 5) mYes m_law_product_e0) (mgName 3)) (msForget 6 (msSeq (msOwn 6 (mN gLst mNil)) (msSeq (msFor (mIter (mVar 0)) (mgName 7) m_law_product_b2) (msRetO 6)))))
def F_law_product : FN := runM 9 3 [] false m_law_product
def m_law_unit_e0 : ME := (mN gTup (mCons (mN gInt (mCons (m2 gEq (mVar 2) (mVar 3)) mNil)) (mCons (mK (.int 1)) mNil)))
def m_law_unit_b1 : MS := (msExpr (mOM gAppend 1 (mCons (mN gTuple (mCons (mLc [3] (mItN gRange1 (mCons (mVar 0) mNil)) (mgName 3) mYes m_law_unit_e0) mNil)) mNil)))
def m_law_unit : MS := (msForget 1 (msSeq (msOwn 1 (mN gLst mNil)) (msSeq (msFor (mItN gRange1 (mCons (mVar 0) mNil)) (mgName 2) m_law_unit_b1) (msRetO 1))))
def F_law_unit : FN := runM 4 1 [] false m_law_unit
end Q
namespace Q
open DL L2 PySem PySem.Spec PyProof.Rows
def mall_pairs_e0 : ME := (mN gTup (mCons (mVar 2) (mCons (mVar 3) mNil)))
def mall_pairs : MS := (msRet (mLc2 [2, 3] (mItN gRange2 (mCons (mVar 0) (mCons (m2 gAdd (mVar 1) (mK (.int 1))) mNil))) (mgName 2) mYes (mItN gRange2 (mCons (m2 gAdd (mVar 2) (mK (.int 1))) (mCons (m2 gAdd (mVar 1) (mK (.int 1))) mNil))) [3] (mgName 3) mYes mall_pairs_e0))
def Fall_pairs : FN := runM 4 2 [] false mall_pairs
def mwritten_b0 : MS := (msAsg (mVar 4) (mgSub 2 (m2 gSub (mVar 3) (mK (.int 1)))))
def mwritten : MS := (msForget 2 (msSeq (msOwn 2 (m2F gMul (mN gLst (mCons (mK (.int 0)) mNil)) (m2 gAdd (mVar 0) (mK (.int 1))))) (msSeq (msFor (mIter (mVar 1)) (mgTup 2 (mgCons (mgName 3) (mgCons (mgName 4) mgNil))) mwritten_b0) (msRet (mNO gTuple 2)))))
def Fwritten : FN := runM 5 2 [] false mwritten
def mmirror_rows_e0 : ME := (mCall Q.Fwritten (mCons (mVar 1) (mCons (mN gLst (mCons (mN gTup (mCons (mVar 3) (mCons (mK (.int 1)) mNil))) mNil)) mNil)))
def mmirror_rows_s1 : MS := (msAsg (mLc [3] (mItN gRange2 (mCons (mK (.int 1)) (mCons (m2 gAdd (mVar 1) (mK (.int 1))) mNil))) (mgName 3) mYes mmirror_rows_e0) (mgName 2))
def mmirror_rows_e2 : ME := (mCall Q.Fwritten (mCons (mVar 1) (mCons (mN gLst (mCons (mN gTup (mCons (mVar 3) (mCons (mK (.int 1)) mNil))) (mCons (mN gTup (mCons (mVar 5) (mCons (m1 gNeg (mK (.int 1))) mNil))) mNil))) mNil)))
def mmirror_rows_s3 : MS := (msAsg (mLc [3, 5] (mIter (mCall Q.Fall_pairs (mCons (mK (.int 1)) (mCons (mVar 1) mNil)))) (mgTup 2 (mgCons (mgName 3) (mgCons (mgName 5) mgNil))) mYes mmirror_rows_e2) (mgName 4))
def mmirror_rows_s4 : MS := (msIf (mTest (m2 gEq (mVar 0) (mK (.str "axes")))) (msRet (mVar 2)) msNil)
def mmirror_rows_s5 : MS := (msIf (mTest (m2 gEq (mVar 0) (mK (.str "pairs")))) (msRet (mVar 4)) msNil)
def mmirror_rows_s6 : MS := (msIf (mTest (m2 gEq (mVar 0) (mK (.str "six")))) (msRet (m2 gAdd (mVar 4) (mN gLst (mCons (mN gTup (mCons (mK (.int 2)) (mCons (m1 gNeg (mK (.int 1))) (mCons (m1 gNeg (mK (.int 1))) (mCons (mK (.int 0)) mNil))))) (mCons (mN gTup (mCons (m1 gNeg (mK (.int 1))) (mCons (mK (.int 2)) (mCons (m1 gNeg (mK (.int 1))) (mCons (mK (.int 0)) mNil))))) (mCons (mN gTup (mCons (m1 gNeg (mK (.int 1))) (mCons (m1 gNeg (mK (.int 1))) (mCons (mK (.int 2)) (mCons (mK (.int 0)) mNil))))) mNil)))))) msNil)
def mmirror_rows_b7 : MS := (msExpr (mOM gExtend 6 (mCons (mN gLst (mCons (mCall Q.Fwritten (mCons (mVar 1) (mCons (mN gLst (mCons (mN gTup (mCons (mVar 3) (mCons (mK (.int 1)) mNil))) (mCons (mN gTup (mCons (mVar 5) (mCons (m1 gNeg (mK (.int 1))) mNil))) mNil))) mNil))) (mCons (mCall Q.Fwritten (mCons (mVar 1) (mCons (mN gLst (mCons (mN gTup (mCons (mVar 3) (mCons (mK (.int 1)) mNil))) (mCons (mN gTup (mCons (mVar 5) (mCons (mK (.int 1)) mNil))) mNil))) mNil))) mNil))) mNil)))
def mmirror_rows_s8 : MS := (msFor (mIter (mCall Q.Fall_pairs (mCons (mK (.int 1)) (mCons (mVar 1) mNil)))) (mgTup 2 (mgCons (mgName 3) (mgCons (mgName 5) mgNil))) mmirror_rows_b7)
def mmirror_rows_s9 : MS := (msRet (mIf (mTest (m2 gEq (mVar 0) (mK (.str "even")))) (mVar 6) (m2 gAdd (mVar 2) (mVar 6))))
def mmirror_rows : MS := (msSeq mmirror_rows_s1 (msSeq mmirror_rows_s3 (msSeq mmirror_rows_s4 (msSeq mmirror_rows_s5 (msSeq mmirror_rows_s6 (msForget 6 (msSeq (msOwn 6 (mN gLst mNil)) (msSeq mmirror_rows_s8 mmirror_rows_s9))))))))
def Fmirror_rows : FN := runM 7 2 [] false mmirror_rows
def mstep_plane_s0 : MS := (msAsg (mVar 1) (mgTup 3 (mgCons (mgName 2) (mgCons (mgName 3) (mgCons (mgName 4) mgNil)))))
def mstep_plane_s1 : MS := (msOwn 5 (m2F gMul (mN gLst (mCons (mK (.int 0)) mNil)) (m2 gAdd (mVar 0) (mK (.int 1)))))
def mstep_plane_s2 : MS := (msAsg (mK (.int 1)) (mgSub 5 (m2 gSub (mVar 3) (mK (.int 1)))))
def mstep_plane_s3 : MS := (msIf (mTest (m2 gGt (mVar 2) (mK (.int 0)))) (msAsg (m1 gNeg (mK (.int 1))) (mgSub 5 (m2 gSub (mVar 2) (mK (.int 1))))) msNil)
def mstep_plane_s4 : MS := (msAsg (mVar 4) (mgSub 5 (mVar 0)))
def mstep_plane : MS := (msSeq mstep_plane_s0 (msForget 5 (msSeq mstep_plane_s1 (msSeq mstep_plane_s2 (msSeq mstep_plane_s3 (msSeq mstep_plane_s4 (msRet (mNO gTuple 5))))))))
def Fstep_plane : FN := runM 6 2 [] false mstep_plane
def mGraph_planes_e0 : ME := (mCall Q.Fstep_plane (mCons (m1 (gFld (isC ["Graph"]) "m") (mVar 0)) (mCons (mVar 1) mNil)))
def mGraph_planes : MS := (msRet (mMake "Planes" Q.FPlanes_init (mCons (m1 (gFld (isC ["Graph"]) "m") (mVar 0)) (mCons (mLc [1] (mIter (m1 (gFld (isC ["Graph"]) "kept") (mVar 0))) (mgName 1) mYes mGraph_planes_e0) mNil))))
def FGraph_planes : FN := runM 2 1 [] false mGraph_planes
def mis_step : MS := (msSeq (msIf (mTest (m2 gNe (mN gLen (mCons (mVar 1) mNil)) (mK (.int 3)))) (msRet (mK (.bl false))) msNil) (msSeq (msAsg (mVar 1) (mgTup 3 (mgCons (mgName 2) (mgCons (mgName 3) (mgCons (mgName 4) mgNil))))) (msRet (mAnd (mChain3 gLe gLt gLe (mK (.int 0)) (mVar 2) (mVar 3) (mVar 0)) (m2 gLe (mN gAbs (mCons (mVar 4) mNil)) (mK (.int 9)))))))
def Fis_step : FN := runM 5 2 [] false mis_step
def mGraph_init_s0 : MS := (msIf (mNotT (mTest (mChain gLe gLe (mK (.int 1)) (mVar 1) (mK (.int 4))))) (msRaise "BadNumber") msNil)
def mGraph_init_e1 : ME := (mCall Q.Fis_step (mCons (mVar 1) (mCons (mVar 3) mNil)))
def mGraph_init_s2 : MS := (msIf (mOrT (mTest (m2 gGt (mN gLen (mCons (mVar 2) mNil)) (mK (.int 12)))) (mNotT (mTru (mN gAll (mCons (mLc [3] (mIter (mVar 2)) (mgName 3) mYes mGraph_init_e1) mNil))))) (msRaise "NotGraph") msNil)
def mGraph_init_e3 : ME := (m2 gIn (m2 gIx (mVar 2) (mVar 4)) (mSl (.ex (mVar 2)) mNoP (mPart (mVar 4))))
def mGraph_init_s4 : MS := (msIf (mTru (mN gAny (mCons (mLc [4] (mItN gRange1 (mCons (mN gLen (mCons (mVar 2) mNil)) mNil)) (mgName 4) mYes mGraph_init_e3) mNil))) (msRaise "NotGraph") msNil)
def mGraph_init_s5 : MS := (msFld (isC ["Graph"]) "m" 0 (mVar 1))
def mGraph_init_s6 : MS := (msFld (isC ["Graph"]) "kept" 0 (mN gTuple (mCons (mVar 2) mNil)))
def mGraph_init : MS := (msSeq mGraph_init_s0 (msSeq mGraph_init_s2 (msSeq mGraph_init_s4 (msSeq mGraph_init_s5 mGraph_init_s6))))
def FGraph_init : FN := runM 5 3 [] false mGraph_init
def m_law_pairs_e0 : ME := (mN gTup (mCons (mVar 3) (mCons (mVar 4) mNil)))
def m_law_pairs_b1 : MS := (msExpr (mOM gExtend 2 (mCons (mLc [4] (mItN gRange2 (mCons (m2 gAdd (mVar 3) (mK (.int 1))) (mCons (m2 gAdd (mVar 1) (mK (.int 1))) mNil))) (mgName 4) mYes m_law_pairs_e0) mNil)))
def m_law_pairs : MS := (msForget 2 (msSeq (msOwn 2 (mN gLst mNil)) (msSeq (msFor (mItN gRange2 (mCons (mVar 0) (mCons (m2 gAdd (mVar 1) (mK (.int 1))) mNil))) (mgName 3) m_law_pairs_b1) (msRetO 2))))
def F_law_pairs : FN := runM 5 2 [] false m_law_pairs
def m_law_unit_v2_b0 : MS := (msIf (mTest (m2 gGt (mVar 3) (mK (.int 0)))) (msAsg (mVar 4) (mgSub 2 (m2 gSub (mVar 3) (mK (.int 1))))) msNil)
def m_law_unit_v2 : MS := (msForget 2 (msSeq (msOwn 2 (m2F gMul (mN gLst (mCons (mK (.int 0)) mNil)) (m2 gAdd (mVar 0) (mK (.int 1))))) (msSeq (msFor (mIter (mVar 1)) (mgTup 2 (mgCons (mgName 3) (mgCons (mgName 4) mgNil))) m_law_unit_v2_b0) (msRetO 2))))
def F_law_unit_v2 : FN := runM 5 2 [] false m_law_unit_v2
def m_law_gains : MS := (msRet (m2 gIx (mN gLst (mCons (mN gLst (mCons (mK (.int 0)) (mCons (m1 gNeg (mK (.int 1))) mNil))) (mCons (mN gLst (mCons (m1 gNeg (mK (.int 1))) (mCons (mK (.int 0)) (mCons (mK (.int 1)) mNil)))) (mCons (mN gLst (mCons (m1 gNeg (mK (.int 1))) (mCons (mK (.int 1)) mNil))) (mCons (mN gLst (mCons (mK (.int 1)) mNil)) mNil))))) (mML gLIndex (mN gLst (mCons (mK (.str "parking")) (mCons (mK (.str "ballot")) (mCons (mK (.str "apart")) (mCons (mK (.str "above")) mNil))))) (mCons (mVar 0) mNil))))
def F_law_gains : FN := runM 1 1 [] false m_law_gains
def m_law_due_e0 : ME := (mN gTuple (mCons (m2 gAdd (mSl (.ex (mCall Q.F_law_unit_v2 (mCons (mVar 1) (mCons (mN gLst (mCons (mN gTup (mCons (mVar 4) (mCons (mK (.int 1)) mNil))) (mCons (mN gTup (mCons (mVar 3) (mCons (m1 gNeg (mK (.int 1))) mNil))) mNil))) mNil)))) mNoP (mPart (mVar 1))) (mN gLst (mCons (mVar 5) mNil))) mNil))
def m_law_due_b1 : MS := (msExpr (mOM gExtend 2 (mCons (mLc [5] (mIter (mCall Q.F_law_gains (mCons (mVar 0) mNil))) (mgName 5) mYes m_law_due_e0) mNil)))
def m_law_due_s2 : MS := (msIf (mTest (m2 gIn (mVar 0) (mN gLst (mCons (mK (.str "parking")) (mCons (mK (.str "ballot")) (mCons (mK (.str "apart")) (mCons (mK (.str "above")) mNil))))))) (msForget 2 (msSeq (msOwn 2 (mN gLst mNil)) (msSeq (msFor (mIter (mCall Q.F_law_pairs (mCons (mK (.int 0)) (mCons (mVar 1) mNil)))) (mgTup 2 (mgCons (mgName 3) (mgCons (mgName 4) mgNil))) m_law_due_b1) (msRetO 2)))) msNil)
def m_law_due_e3 : ME := (mN gTuple (mCons (mCall Q.F_law_unit_v2 (mCons (mVar 1) (mCons (mN gLst (mCons (mN gTup (mCons (mVar 3) (mCons (mK (.int 1)) mNil))) mNil)) mNil))) mNil))
def m_law_due_s4 : MS := (msAsg (mLc [3] (mItN gRange2 (mCons (mK (.int 1)) (mCons (m2 gAdd (mVar 1) (mK (.int 1))) mNil))) (mgName 3) mYes m_law_due_e3) (mgName 6))
def m_law_due_e5 : ME := (mN gTuple (mCons (mCall Q.F_law_unit_v2 (mCons (mVar 1) (mCons (mN gLst (mCons (mN gTup (mCons (mVar 3) (mCons (mK (.int 1)) mNil))) (mCons (mN gTup (mCons (mVar 4) (mCons (m1 gNeg (mK (.int 1))) mNil))) mNil))) mNil))) mNil))
def m_law_due_s6 : MS := (msAsg (mLc [3, 4] (mIter (mCall Q.F_law_pairs (mCons (mK (.int 1)) (mCons (mVar 1) mNil)))) (mgTup 2 (mgCons (mgName 3) (mgCons (mgName 4) mgNil))) mYes m_law_due_e5) (mgName 7))
def m_law_due_s7 : MS := (msIf (mTest (m2 gEq (mVar 0) (mK (.str "axes")))) (msRet (mVar 6)) msNil)
def m_law_due_s8 : MS := (msIf (mTest (m2 gEq (mVar 0) (mK (.str "pairs")))) (msRet (mVar 7)) msNil)
def m_law_due_e9 : ME := (mIf (mTest (m2 gEq (mVar 8) (mVar 9))) (mK (.int 2)) (m1 gNeg (mK (.int 1))))
def m_law_due_e10 : ME := (mN gTuple (mCons (m2 gAdd (mLc [8] (mItN gRange1 (mCons (mK (.int 3)) mNil)) (mgName 8) mYes m_law_due_e9) (mN gLst (mCons (mK (.int 0)) mNil))) mNil))
def m_law_due_s11 : MS := (msIf (mTest (m2 gEq (mVar 0) (mK (.str "six")))) (msRet (m2 gAdd (mVar 7) (mLc [9] (mItN gRange1 (mCons (mK (.int 3)) mNil)) (mgName 9) mYes m_law_due_e10))) msNil)
def m_law_due_e12 : ME := (mN gTuple (mCons (mCall Q.F_law_unit_v2 (mCons (mVar 1) (mCons (mN gLst (mCons (mN gTup (mCons (mVar 3) (mCons (mK (.int 1)) mNil))) (mCons (mN gTup (mCons (mVar 4) (mCons (mVar 11) mNil))) mNil))) mNil))) mNil))
def m_law_due_b13 : MS := (msExpr (mOM gExtend 10 (mCons (mLc [11] (mIter (mN gLst (mCons (m1 gNeg (mK (.int 1))) (mCons (mK (.int 1)) mNil)))) (mgName 11) mYes m_law_due_e12) mNil)))
def m_law_due_s14 : MS := (msFor (mIter (mCall Q.F_law_pairs (mCons (mK (.int 1)) (mCons (mVar 1) mNil)))) (mgTup 2 (mgCons (mgName 3) (mgCons (mgName 4) mgNil))) m_law_due_b13)
def m_law_due_s15 : MS := (msRet (mIf (mTest (m2 gEq (mVar 0) (mK (.str "even")))) (mVar 10) (m2 gAdd (mVar 6) (mVar 10))))
def m_law_due : MS := (msSeq m_law_due_s2 (msSeq m_law_due_s4 (msSeq m_law_due_s6 (msSeq m_law_due_s7 (msSeq m_law_due_s8 (msSeq m_law_due_s11 (msForget 10 (msSeq (msOwn 10 (mN gLst mNil)) (msSeq m_law_due_s14 m_law_due_s15)))))))))
def F_law_due : FN := runM 12 2 [] false m_law_due
def mMove_init_s0 : MS := (msExpr (mCall Q.Fcheck_letters (mCons (mVar 1) mNil)))
def mMove_init_e1 : ME := (mCall Q.Fis_row_of (mCons (mVar 1) (mCons (mVar 4) mNil)))
def mMove_init_s2 : MS := (msIf (mOrT (mTest (m2 gNe (mN gLen (mCons (mVar 2) mNil)) (mVar 1))) (mNotT (mTru (mN gAll (mCons (mLc [4] (mIter (mVar 2)) (mgName 4) mYes mMove_init_e1) mNil))))) (msRaise "NotMatrix") msNil)
def mMove_init_s3 : MS := (msAsg (mCall Q.Finverse_of (mCons (mVar 2) mNil)) (mgName 5))
def mMove_init_s4 : MS := (msIf (mTest (m2 gIs (mVar 5) (mK .non))) (msRaise "NotMatrix") msNil)
def mMove_init_s5 : MS := (msIf (mNotT (mTru (mCall Q.Fis_row_of (mCons (mVar 1) (mCons (mVar 3) mNil))))) (msRaise "NotPoint") msNil)
def mMove_init_s6 : MS := (msFld (isC ["Move"]) "n" 0 (mVar 1))
def mMove_init_s7 : MS := (msFld (isC ["Move"]) "kept" 0 (mN gTuple (mCons (mVar 2) mNil)))
def mMove_init_s8 : MS := (msFld (isC ["Move"]) "back" 0 (mN gTuple (mCons (mVar 5) mNil)))
def mMove_init_s9 : MS := (msFld (isC ["Move"]) "more" 0 (mN gTuple (mCons (mVar 3) mNil)))
def mMove_init : MS := (msSeq mMove_init_s0 (msSeq mMove_init_s2 (msSeq mMove_init_s3 (msSeq mMove_init_s4 (msSeq mMove_init_s5 (msSeq mMove_init_s6 (msSeq mMove_init_s7 (msSeq mMove_init_s8 mMove_init_s9))))))))
def FMove_init : FN := runM 6 4 [] false mMove_init
def mmirror_of_e0 : ME := (m2 gSub (mIf (mTest (m2 gEq (mVar 7) (mVar 5))) (mVar 2) (mK (.int 0))) (m2 gMul (m2 gMul (mK (.int 2)) (m2 gIx (mVar 1) (mVar 5))) (m2 gIx (mVar 1) (mVar 7))))
def mmirror_of_e1 : ME := (mCall Q.Flowest (mCons (mVar 3) (mCons (mVar 2) mNil)))
def mmirror_of_b2 : MS := (msSeq (msAsg (mLc [7] (mItN gRange1 (mCons (mVar 0) mNil)) (mgName 7) mYes mmirror_of_e0) (mgName 6)) (msExpr (mOM gAppend 4 (mCons (mN gTuple (mCons (mLc [3] (mIter (mVar 6)) (mgName 3) mYes mmirror_of_e1) mNil)) mNil))))
def mmirror_of_e3 : ME := (mCall Q.Flowest (mCons (m2 gMul (m2 gMul (mK (.int 2)) (m2 gIx (mVar 1) (mVar 0))) (mVar 3)) (mCons (mVar 2) mNil)))
def mmirror_of : MS := (msSeq (msAsg (mN gSum (mCons (mLc [3] (mIter (mSl (.ex (mVar 1)) mNoP (mPart (mVar 0)))) (mgName 3) mYes (m2 gMul (mVar 3) (mVar 3))) mNil)) (mgName 2)) (msForget 4 (msSeq (msOwn 4 (mN gLst mNil)) (msSeq (msFor (mItN gRange1 (mCons (mVar 0) mNil)) (mgName 5) mmirror_of_b2) (msRet (mMake "Move" Q.FMove_init (mCons (mVar 0) (mCons (mVar 4) (mCons (mN gTuple (mCons (mLc [3] (mIter (mSl (.ex (mVar 1)) mNoP (mPart (mVar 0)))) (mgName 3) mYes mmirror_of_e3) mNil)) mNil)))))))))
def Fmirror_of : FN := runM 8 2 [] false mmirror_of
def mwithout_divisor_b0 : MS := (msAsg (mCall Q.Fdivisor (mCons (mVar 1) (mCons (mVar 2) mNil))) (mgName 1))
def mwithout_divisor : MS := (msSeq (msAsg (mK (.int 0)) (mgName 1)) (msSeq (msFor (mIter (mVar 0)) (mgName 2) mwithout_divisor_b0) (msSeq (msIf (mTest (m2 gEq (mVar 1) (mK (.int 0)))) (msRet (mN gTuple (mCons (mVar 0) mNil))) msNil) (msRet (mN gTuple (mCons (mLc [2] (mIter (mVar 0)) (mgName 2) mYes (m2 gDiv (mVar 2) (mVar 1))) mNil))))))
def Fwithout_divisor : FN := runM 3 1 [] false mwithout_divisor
def mcleared_row_b0 : MS := (msAsg (m2 gMul (m2 gDiv (mVar 1) (mCall Q.Fdivisor (mCons (mVar 1) (mCons (mVar 3) mNil)))) (mVar 3)) (mgName 1))
def mcleared_row_e1 : ME := (m2 gMul (mVar 2) (m2 gDiv (mVar 1) (mVar 3)))
def mcleared_row : MS := (msSeq (msAsg (mK (.int 1)) (mgName 1)) (msSeq (msFor (mIter (mVar 0)) (mgTup 2 (mgCons (mgName 2) (mgCons (mgName 3) mgNil))) mcleared_row_b0) (msRet (mCall Q.Fwithout_divisor (mCons (mLc [2, 3] (mIter (mVar 0)) (mgTup 2 (mgCons (mgName 2) (mgCons (mgName 3) mgNil))) mYes mcleared_row_e1) mNil)))))
def Fcleared_row : FN := runM 4 1 [] false mcleared_row
def mMove_led_e0 : ME := (mCall Q.Fdot (mCons (mVar 2) (mCons (mLc [4] (mIter (m1 (gFld (isC ["Move"]) "back") (mVar 0))) (mgName 4) mYes (m2 gIx (mVar 4) (mVar 5))) mNil)))
def mMove_led : MS := (msSeq (msAsg (mCall Q.Fnumbers_of (mCons (mSl (.ex (mVar 1)) mNoP (mPart (m1 (gFld (isC ["Move"]) "n") (mVar 0)))) mNil)) (mgName 2)) (msSeq (msAsg (mLc [5] (mItN gRange1 (mCons (m1 (gFld (isC ["Move"]) "n") (mVar 0)) mNil)) (mgName 5) mYes mMove_led_e0) (mgName 3)) (msRet (mCall Q.Fcleared_row (mCons (m2 gAdd (mVar 3) (mN gLst (mCons (mCall Q.Fsummed (mCons (mN gTup (mCons (m2 gIx (mVar 1) (m1 (gFld (isC ["Move"]) "n") (mVar 0))) (mCons (mK (.int 1)) mNil))) (mCons (mCall Q.Fdot (mCons (mVar 3) (mCons (m1 (gFld (isC ["Move"]) "more") (mVar 0)) mNil))) mNil))) mNil))) mNil)))))
def FMove_led : FN := runM 6 2 [] false mMove_led
def mis_closed_e0 : ME := (mCall Q.Fother_way (mCons (mVar 2) mNil))
def mis_closed_e1 : ME := (m2 gIn (mMeth (tb [("Move", Q.FMove_led)]) "led" (mVar 3) (mCons (mVar 4) mNil)) (mVar 1))
def mis_closed_b2 : MS := (msSeq (msAsg (mCall Q.Fmirror_of (mCons (m1 (gFld (isC ["Planes"]) "n") (mVar 0)) (mCons (mVar 2) mNil))) (mgName 3)) (msIf (mNotT (mTru (mN gAll (mCons (mLc [4] (mIter (m1 (gFld (isC ["Planes"]) "kept") (mVar 0))) (mgName 4) mYes mis_closed_e1) mNil)))) (msRet (mK (.bl false))) msNil))
def mis_closed : MS := (msSeq (msAsg (m2 gAdd (m1 (gFld (isC ["Planes"]) "kept") (mVar 0)) (mN gTuple (mCons (mLc [2] (mIter (m1 (gFld (isC ["Planes"]) "kept") (mVar 0))) (mgName 2) mYes mis_closed_e0) mNil))) (mgName 1)) (msSeq (msFor (mIter (m1 (gFld (isC ["Planes"]) "kept") (mVar 0))) (mgName 2) mis_closed_b2) (msRet (mK (.bl true)))))
def Fis_closed : FN := runM 5 1 [] false mis_closed
def m_law_most : MS := (msSeq (msAsg (mN gLst (mCons (mK (.str "axes")) (mCons (mK (.str "pairs")) (mCons (mK (.str "even")) (mCons (mK (.str "signs")) (mCons (mK (.str "parking")) (mCons (mK (.str "ballot")) (mCons (mK (.str "apart")) (mCons (mK (.str "above")) mNil))))))))) (mgName 1)) (msRet (m2 gIx (mN gLst (mCons (mK (.int 4)) (mCons (mK (.int 4)) (mCons (mK (.int 4)) (mCons (mK (.int 3)) (mCons (mK (.int 3)) (mCons (mK (.int 2)) (mCons (mK (.int 3)) (mCons (mK (.int 4)) mNil))))))))) (mML gLIndex (mVar 1) (mCons (mVar 0) mNil)))))
def F_law_most : FN := runM 2 1 [] false m_law_most
end Q
namespace Q
open DL L2 PySem PySem.Spec PyProof.Rows
theorem e_draws : F_law_draws = qDraws := rfl
theorem e_next : F_law_next = qNext := rfl
theorem e_div : Fdivisor = qDivisor := rfl
theorem e_ldiv : F_law_divisor = qLDivisor := rfl
theorem e_low : Flowest = qLowest := rfl
theorem e_llow : F_law_lowest = qLLowest := rfl
theorem e_isn : Fis_number = qIsNumber := rfl
def fr (q : Rat) : D := .tup [.int q.num, .int (q.den : Int)]
theorem low_dvd (a : Int) {b : Int} (h : b ≠ 0) : a = (low a b).1 * sgcd a b ∧ b = (low a b).2 * sgcd a b := by
  have d1 : sgcd a b ∣ a := by
    have := Int.gcd_dvd_left a b
    unfold sgcd
    split
    · exact Int.neg_dvd.mpr this
    · exact this
  have d2 : sgcd a b ∣ b := by
    have := Int.gcd_dvd_right a b
    unfold sgcd
    split
    · exact Int.neg_dvd.mpr this
    · exact this
  exact ⟨(Int.fdiv_mul_cancel d1).symm, (Int.fdiv_mul_cancel d2).symm⟩
theorem isNum_split {a b : Int} (h : isNum a b = true) : 1 ≤ b ∧ Int.gcd a b = 1 := by
  unfold isNum at h
  rw [Bool.and_eq_true] at h
  exact ⟨of_decide_eq_true h.1, of_decide_eq_true h.2⟩
theorem num_rat {a b : Int} (h : isNum a b = true) : ∃ q : Rat, q.num = a ∧ (q.den : Int) = b := by
  obtain ⟨h1, h2⟩ := isNum_split h
  have e : ((b.toNat : Nat) : Int) = b := Int.toNat_of_nonneg (by omega)
  refine ⟨⟨a, b.toNat, by omega, ?_⟩, rfl, e⟩
  have : Int.gcd a b = Nat.gcd a.natAbs b.toNat := by
    rw [Int.gcd_eq_natAbs_gcd_natAbs]
    congr 1
    omega
  rw [this] at h2
  exact h2
theorem rat_num (q : Rat) : isNum q.num (q.den : Int) = true := by
  have h1 := q.den_pos
  have h2 := q.reduced
  unfold isNum
  rw [Bool.and_eq_true]
  refine ⟨decide_eq_true (by omega), decide_eq_true ?_⟩
  rw [Int.gcd_eq_natAbs_gcd_natAbs]
  exact h2
theorem low_fr (a : Int) {b : Int} (h : b ≠ 0) : tupI (low a b) = fr (Rat.divInt a b) := by
  obtain ⟨q, h1, h2⟩ := num_rat (low_num (a := a) h)
  obtain ⟨d1, d2⟩ := low_dvd a h
  have e : q = Rat.divInt a b := by
    rw [← Rat.num_divInt_den q]
    have hd : (q.den : Int) ≠ 0 := by have := q.den_pos; omega
    refine (Rat.divInt_eq_divInt_iff hd h).mpr ?_
    rw [h1, h2]
    generalize (low a b).1 = x at *
    generalize (low a b).2 = y at *
    generalize sgcd a b = s at *
    rw [d2, d1]
    simp only [Int.mul_comm, Int.mul_left_comm]
  rw [← e]
  unfold fr tupI
  rw [h1, h2]
def Sz (k : Nat) (q : Rat) : Prop := q.num.natAbs < 2 ^ k ∧ q.den < 2 ^ k
theorem Sz.up {i j : Nat} {q : Rat} (h : Sz i q) (l : i ≤ j) : Sz j q :=
  ⟨sm_up h.1 l, Nat.lt_of_lt_of_le h.2 (Nat.pow_le_pow_right (by decide) l)⟩
theorem den_abs (q : Rat) : ((q.den : Int)).natAbs = q.den := rfl
theorem Sz.d {k : Nat} {q : Rat} (h : Sz k q) : ((q.den : Int)).natAbs < 2 ^ k := h.2
theorem fr_low {a b : Int} (h : b ≠ 0) {k : Nat} (h1 : a.natAbs < 2 ^ k) (h2 : b.natAbs < 2 ^ k) : Sz k (Rat.divInt a b) := by
  have e := low_fr a h
  have s := low_sm h1 h2
  unfold fr tupI at e
  injection e with e
  injection e with e1 e2
  injection e2 with e2 _
  injection e1 with e1
  injection e2 with e2
  refine ⟨by rw [← e1]; exact s.1, ?_⟩
  have := s.2
  rw [e2] at this
  exact this
theorem dne (q : Rat) : (q.den : Int) ≠ 0 := by have := q.den_pos; omega
theorem add_div (p q : Rat) : p + q = Rat.divInt (p.num * (q.den : Int) + q.num * (p.den : Int)) ((p.den : Int) * (q.den : Int)) := by
  conv => lhs; rw [← Rat.num_divInt_den p, ← Rat.num_divInt_den q]
  rw [Rat.divInt_add_divInt _ _ (dne p) (dne q)]
theorem mul_div (p q : Rat) : p * q = Rat.divInt (p.num * q.num) ((p.den : Int) * (q.den : Int)) := by
  conv => lhs; rw [← Rat.num_divInt_den p, ← Rat.num_divInt_den q]
  rw [Rat.divInt_mul_divInt]
theorem inv_div (q : Rat) (h : q ≠ 0) : q⁻¹ = Rat.divInt (q.den : Int) q.num := by
  conv => lhs; rw [← Rat.num_divInt_den q]
  rw [Rat.inv_divInt]
theorem Sz.add {i j : Nat} {p q : Rat} (h1 : Sz i p) (h2 : Sz j q) : Sz (i + j + 1) (p + q) := by
  rw [add_div]
  refine fr_low (Int.mul_ne_zero (dne p) (dne q)) ?_ (sm_up (sm_mul h1.d h2.d) (by omega))
  have a := sm_mul h1.1 h2.d
  have b := sm_mul h2.1 h1.d
  rw [Nat.add_comm j i] at b
  exact sm_add a b
theorem Sz.mul {i j : Nat} {p q : Rat} (h1 : Sz i p) (h2 : Sz j q) : Sz (i + j) (p * q) := by
  rw [mul_div]
  exact fr_low (Int.mul_ne_zero (dne p) (dne q)) (sm_mul h1.1 h2.1) (sm_mul h1.d h2.d)
theorem Sz.neg {i : Nat} {p : Rat} (h : Sz i p) : Sz i (-p) := ⟨by rw [Rat.neg_num, Int.natAbs_neg]; exact h.1, by rw [Rat.neg_den]; exact h.2⟩
theorem num_ne {q : Rat} (h : q ≠ 0) : q.num ≠ 0 := fun z => h (Rat.num_eq_zero.mp z)
theorem Sz.inv {i : Nat} {p : Rat} (h : Sz i p) (n : p ≠ 0) : Sz i p⁻¹ := by
  rw [inv_div p n]
  exact fr_low (num_ne n) h.d h.1
theorem Sz.int {k : Nat} {a : Int} (h : a.natAbs < 2 ^ k) (hk : 0 < k) : Sz k (a : Rat) := ⟨h, Nat.one_lt_two_pow (by omega)⟩
theorem Sz.zero : Sz 1 0 := ⟨by decide, by decide⟩
theorem Sz.one : Sz 1 1 := ⟨by decide, by decide⟩
theorem fr_int (a : Int) : fr (a : Rat) = .tup [.int a, .int 1] := rfl
theorem fr_0 : fr 0 = .tup [.int 0, .int 1] := rfl
theorem fr_1 : fr 1 = .tup [.int 1, .int 1] := rfl
theorem fr_inj {p q : Rat} (h : fr p = fr q) : p = q := by
  unfold fr at h
  injection h with h
  injection h with h1 h2
  injection h2 with h2 _
  injection h1 with h1
  injection h2 with h2
  exact Rat.ext h1 (by omega)
theorem ix0 (q : Rat) : gIx (fr q) (.int 0) = some (.int q.num) := rfl
theorem ix1 (q : Rat) : gIx (fr q) (.int 1) = some (.int (q.den : Int)) := rfl
abbrev LIM : Nat := 3900
theorem mulS {a b : Int} {i j : Nat} (h1 : a.natAbs < 2 ^ i) (h2 : b.natAbs < 2 ^ j) (h : i + j ≤ 8000) : gMul (.int a) (.int b) = some (.int (a * b)) :=
  gMul_sm (i := i + 1) (j := j + 1) (sm_up h1 (by omega)) (sm_up h2 (by omega)) (by omega) (by omega) (by omega)
theorem s8 {a : Int} {i : Nat} (h : a.natAbs < 2 ^ i) (l : i ≤ 8000) : a.natAbs < 2 ^ 8000 := sm_up h l
section
variable {i j : Nat} {p q : Rat}
theorem v_lowest {a b : Int} (h : b ≠ 0) (hb : b.natAbs < 2 ^ 8000) (ρ : En) : (Flowest [.int a, .int b]).R ρ = .ok (fr (Rat.divInt a b)) ρ := by
  rw [e_low, ← low_fr a h]
  exact qLowest_v h hb ρ
theorem v_llowest {a b : Int} (h : b ≠ 0) (hb : b.natAbs < 2 ^ 8000) (ρ : En) : (F_law_lowest [.int a, .int b]).R ρ = .ok (fr (Rat.divInt a b)) ρ := by
  rw [e_llow, ← low_fr a h]
  exact qLLowest_v h hb ρ
theorem v_summed (h1 : Sz i p) (h2 : Sz j q) (l : i + j ≤ 8000) (ρ : En) : (Fsummed [fr p, fr q]).R ρ = .ok (fr (p + q)) ρ := by
  have h := fun ρ => v_lowest (a := p.num * (q.den : Int) + q.num * (p.den : Int)) (b := (p.den : Int) * (q.den : Int)) (Int.mul_ne_zero (dne p) (dne q)) (s8 (sm_mul h1.d h2.d) l) ρ
  simp -implicitDefEqProofs [Fsummed, runM, msummed, pad, mCall_R, h, ix0, ix1, mulS h1.1 h2.d l, mulS h2.1 h1.d (by omega), mulS h1.d h2.d l, ← add_div]
theorem v_multiplied (h1 : Sz i p) (h2 : Sz j q) (l : i + j ≤ 8000) (ρ : En) : (Fmultiplied [fr p, fr q]).R ρ = .ok (fr (p * q)) ρ := by
  have h := fun ρ => v_lowest (a := p.num * q.num) (b := (p.den : Int) * (q.den : Int)) (Int.mul_ne_zero (dne p) (dne q)) (s8 (sm_mul h1.d h2.d) l) ρ
  simp -implicitDefEqProofs [Fmultiplied, runM, mmultiplied, pad, mCall_R, h, ix0, ix1, mulS h1.1 h2.1 l, mulS h1.d h2.d l, ← mul_div]
theorem v_lplus (h1 : Sz i p) (h2 : Sz j q) (l : i + j ≤ 8000) (ρ : En) : (F_law_plus [fr p, fr q]).R ρ = .ok (fr (p + q)) ρ := by
  have h := fun ρ => v_llowest (a := p.num * (q.den : Int) + q.num * (p.den : Int)) (b := (p.den : Int) * (q.den : Int)) (Int.mul_ne_zero (dne p) (dne q)) (s8 (sm_mul h1.d h2.d) l) ρ
  simp -implicitDefEqProofs [F_law_plus, runM, m_law_plus, pad, mCall_R, h, ix0, ix1, mulS h1.1 h2.d l, mulS h2.1 h1.d (by omega), mulS h1.d h2.d l, ← add_div]
theorem v_ltimes (h1 : Sz i p) (h2 : Sz j q) (l : i + j ≤ 8000) (ρ : En) : (F_law_times [fr p, fr q]).R ρ = .ok (fr (p * q)) ρ := by
  have h := fun ρ => v_llowest (a := p.num * q.num) (b := (p.den : Int) * (q.den : Int)) (Int.mul_ne_zero (dne p) (dne q)) (s8 (sm_mul h1.d h2.d) l) ρ
  simp -implicitDefEqProofs [F_law_times, runM, m_law_times, pad, mCall_R, h, ix0, ix1, mulS h1.1 h2.1 l, mulS h1.d h2.d l, ← mul_div]
theorem v_negated (ρ : En) : (Fnegated [fr q]).R ρ = .ok (fr (-q)) ρ := by
  have e : fr (-q) = .tup [.int (-q.num), .int (q.den : Int)] := by unfold fr; rw [Rat.neg_num, Rat.neg_den]
  rw [e]
  simp -implicitDefEqProofs [Fnegated, runM, mnegated, pad, ix0, ix1, two_le]
theorem v_inverted (h : Sz i q) (n : q ≠ 0) (l : i ≤ 8000) (ρ : En) : (Finverted [fr q]).R ρ = .ok (fr q⁻¹) ρ := by
  have h := fun ρ => v_lowest (a := (q.den : Int)) (b := q.num) (num_ne n) (s8 h.1 l) ρ
  simp -implicitDefEqProofs [Finverted, runM, minverted, pad, mCall_R, h, ix0, ix1, ← inv_div q n]
theorem v_isnum (h : Sz i q) (l : i ≤ 8000) (ρ : En) : (Fis_number [fr q]).R ρ = .ok (.bl true) ρ := by
  have := qIsNumber_v (a := q.num) (b := (q.den : Int)) (s8 h.d l) ρ
  rw [rat_num] at this
  rw [e_isn]
  exact this
theorem eq_fr : gEq (fr p) (fr q) = some (.bl (decide (p = q))) := by
  have e1 : (fr p).py = some (.tuple [.int p.num, .int (p.den : Int)]) := rfl
  have e2 : (fr q).py = some (.tuple [.int q.num, .int (q.den : Int)]) := rfl
  have s : ∀ c d : Int, SeqAt.shaped (.tuple [.int c, .int d]) = true := fun c d => by simp [SeqAt.shaped, PyData.canLay0, PyData.canLayAll0, PyData.depth, PyData.depthAll]
  show (eqD (fr p) (fr q)).map D.bl = _
  have e3 : eqD (fr p) (fr q) = (match (fr p).py, (fr q).py with
    | some x, some y => if SeqAt.shaped x = true ∧ SeqAt.shaped y = true then some (PyData.eqv x y) else none
    | _, _ => none) := rfl
  rw [e3, e1, e2]
  show (if _ then some _ else none : Option Bool).map D.bl = _
  rw [if_pos ⟨s _ _, s _ _⟩]
  have e4 : PyData.eqv (.tuple [.int p.num, .int (p.den : Int)]) (.tuple [.int q.num, .int (q.den : Int)]) = decide (p = q) := by
    by_cases z : p = q
    · subst z
      simp [PyData.eqv, PyData.eqvAll]
    · have : ¬ (p.num = q.num ∧ p.den = q.den) := fun w => z (Rat.ext w.1 w.2)
      by_cases w : p.num = q.num
      · have w2 : p.den ≠ q.den := fun k => this ⟨w, k⟩
        simp [PyData.eqv, PyData.eqvAll, z, w]
        omega
      · simp [PyData.eqv, PyData.eqvAll, z, w]
  rw [e4]
  rfl
theorem ne_fr : gNe (fr p) (fr q) = some (.bl (!decide (p = q))) := by
  have := eq_fr (p := p) (q := q)
  unfold gEq at this
  unfold gNe
  cases h : eqD (fr p) (fr q) with
  | none => rw [h] at this; cases this
  | some b =>
    rw [h] at this
    have := Option.some.inj this
    injection this with e
    rw [e]
    rfl
end
end Q
namespace Q
open DL L2 PySem PySem.Spec PyProof.Rows
theorem wipeE_in {ρ : En} {i : Nat} : ∀ {vs : List Nat}, i ∈ vs → i < ρ.length → (wipeE ρ vs)[i]? = some none
  | v :: vs, h, hl => by
    show ((wipeE ρ vs).set v none)[i]? = _
    by_cases e : i = v
    · subst e
      exact List.getElem?_set_self (by rw [wipeE_len]; exact hl)
    · rw [set_get_ne e]
      exact wipeE_in ((List.mem_cons.mp h).resolve_left e) hl
theorem restE_wipe {ρ ρ2 : En} {vs : List Nat} (h : wipeE ρ2 vs = wipeE ρ vs) : restE ρ vs ρ2 = ρ := by
  have hl : ρ2.length = ρ.length := by rw [← wipeE_len ρ2 vs, h, wipeE_len]
  apply List.ext_getElem?
  intro i
  by_cases m : i ∈ vs
  · exact restE_in hl m
  · rw [restE_out m, ← wipeE_out m, h, wipeE_out m]
section
variable {α : Type} {vs : List Nat} {g : MG} {mt : MT} {me : ME} {ρ ρ0 : En} {mi : En → R (List D)} {enc : α → D} {st : α → En} {p : α → Bool} {f : α → D}
theorem lc_gen (hw : ∀ a, wipeE (st a) vs = wipeE ρ vs) : ∀ (as : List α) (ρ' : En), (∀ a ∈ as, g (enc a) (wipeE ρ vs) = .ok () (st a)) → (∀ a ∈ as, mt (st a) = .ok (p a) (st a)) → (∀ a ∈ as, p a = true → me (st a) = .ok (f a) (st a)) → wipeE ρ' vs = wipeE ρ vs →
    ∃ ρ'', lcLoop vs g mt me (as.map enc) ρ' = .ok ((as.filter p).map f) ρ'' ∧ wipeE ρ'' vs = wipeE ρ vs
  | [], ρ', _, _, _, e => ⟨ρ', rfl, e⟩
  | a :: as, ρ', hg, ht, he, e => by
    obtain ⟨ρ'', e1, e2⟩ := lc_gen hw as (st a) (fun x hx => hg x (List.mem_cons_of_mem _ hx)) (fun x hx => ht x (List.mem_cons_of_mem _ hx)) (fun x hx => he x (List.mem_cons_of_mem _ hx)) (hw a)
    refine ⟨ρ'', ?_, e2⟩
    rw [List.map_cons, List.filter_cons]
    have h1 := hg a List.mem_cons_self
    have h2 := ht a List.mem_cons_self
    cases hp : p a with
    | true =>
      have h3 := he a List.mem_cons_self hp
      rw [hp] at h2
      simp only [lcLoop, e, h1, h2, h3, e1, if_true, List.map_cons]
    | false =>
      rw [hp] at h2
      simp only [lcLoop, e, h1, h2, e1, Bool.false_eq_true, if_false]
theorem mLc_filt {as : List α} (hi : mi ρ0 = .ok (as.map enc) ρ) (hz : as.length ≤ sizeLine) (hw : ∀ a, wipeE (st a) vs = wipeE ρ vs) (hg : ∀ a ∈ as, g (enc a) (wipeE ρ vs) = .ok () (st a)) (ht : ∀ a ∈ as, mt (st a) = .ok (p a) (st a)) (he : ∀ a ∈ as, p a = true → me (st a) = .ok (f a) (st a)) :
    mLc vs mi g mt me ρ0 = .ok (.lst ((as.filter p).map f)) ρ := by
  obtain ⟨ρ'', e1, e2⟩ := lc_gen (f := f) (p := p) hw as ρ hg ht he rfl
  rw [mLc_ap, hi, bind_ok, e1]
  have hl : ((as.filter p).map f).length ≤ sizeLine := by rw [List.length_map]; exact Nat.le_trans (List.length_filter_le _ _) hz
  simp only [hl, if_true, restE_wipe e2]
theorem mLc_map {as : List α} (hi : mi ρ0 = .ok (as.map enc) ρ) (hz : as.length ≤ sizeLine) (hw : ∀ a, wipeE (st a) vs = wipeE ρ vs) (hg : ∀ a ∈ as, g (enc a) (wipeE ρ vs) = .ok () (st a)) (he : ∀ a ∈ as, me (st a) = .ok (f a) (st a)) :
    mLc vs mi g mYes me ρ0 = .ok (.lst (as.map f)) ρ := by
  have := mLc_filt (p := fun _ => true) (f := f) hi hz hw hg (mt := mYes) (fun _ _ => rfl) (fun a ha _ => he a ha)
  have e : as.filter (fun _ => true) = as := List.filter_eq_self.mpr fun _ _ => rfl
  rw [e] at this
  exact this
variable {σ : Type} {mb : MS} {J : List α → σ → En → Prop} {F : σ → α → σ}
theorem loop_inv (h : ∀ a as s ρ, J (a :: as) s ρ → ∃ ρ1 ρ2, g (enc a) ρ = .ok () ρ1 ∧ (mb ρ1 = .nx ρ2 ∨ mb ρ1 = .ct ρ2) ∧ J as (F s a) ρ2) : ∀ (as : List α) (s : σ) (ρ : En), J as s ρ → ∃ ρ', loopL g mb (as.map enc) ρ = .nx ρ' ∧ J [] (as.foldl F s) ρ'
  | [], s, ρ, j => ⟨ρ, rfl, j⟩
  | a :: as, s, ρ, j => by
    obtain ⟨ρ1, ρ2, h1, h2, j2⟩ := h a as s ρ j
    obtain ⟨ρ', e, j3⟩ := loop_inv h as (F s a) ρ2 j2
    refine ⟨ρ', ?_, j3⟩
    rw [List.map_cons]
    rcases h2 with h2 | h2 <;> simp only [loopL, h1, h2, e]
end
def Pd : Nat → D → Prop
  | _, .int _ => True
  | _, .non => True
  | _, .str x => PyData.canLay0 (.str x) = true
  | n + 1, .tup l => ∀ d ∈ l, Pd n d
  | n + 1, .lst l => ∀ d ∈ l, Pd n d
  | _, _ => False
theorem pyAll_nil : pyAll [] = some [] := by unfold pyAll; rfl
theorem py_all {n : Nat} (ih : ∀ d, Pd n d → ∃ x, d.py = some x ∧ x.canLay0 = true ∧ x.depth ≤ n + 1) : ∀ l : List D, (∀ d ∈ l, Pd n d) → ∃ xs, pyAll l = some xs ∧ PyData.canLayAll0 xs = true ∧ PyData.depthAll xs ≤ n + 1
  | [], _ => ⟨[], by unfold pyAll; rfl, rfl, by simp [PyData.depthAll]⟩
  | d :: l, h => by
    obtain ⟨x, e1, e2, e3⟩ := ih d (h d List.mem_cons_self)
    obtain ⟨xs, f1, f2, f3⟩ := py_all ih l fun z hz => h z (List.mem_cons_of_mem _ hz)
    refine ⟨x :: xs, by unfold pyAll; rw [e1, f1]; rfl, by simp [PyData.canLayAll0, e2, f2], ?_⟩
    simp only [PyData.depthAll]
    omega
theorem Pd.py : ∀ (n : Nat) (d : D), Pd n d → ∃ x, d.py = some x ∧ x.canLay0 = true ∧ x.depth ≤ n + 1
  | n, .int i, _ => ⟨.int i, by unfold D.py; rfl, rfl, by simp [PyData.depth]⟩
  | n, .non, _ => ⟨.none, by unfold D.py; rfl, rfl, by simp [PyData.depth]⟩
  | n, .str x, h => ⟨.str x, by unfold D.py; rfl, by unfold Pd at h; exact h, by simp [PyData.depth]⟩
  | n + 1, .tup l, h => by
    unfold Pd at h
    obtain ⟨xs, e1, e2, e3⟩ := py_all (Pd.py n) l h
    refine ⟨.tuple xs, by unfold D.py; rw [e1]; rfl, by unfold PyData.canLay0; exact e2, ?_⟩
    simp only [PyData.depth]
    omega
  | n + 1, .lst l, h => by
    unfold Pd at h
    obtain ⟨xs, e1, e2, e3⟩ := py_all (Pd.py n) l h
    refine ⟨.list xs, by unfold D.py; rw [e1]; rfl, by unfold PyData.canLay0; exact e2, ?_⟩
    simp only [PyData.depth]
    omega
  | 0, .tup l, h => by unfold Pd at h; exact h.elim
  | 0, .lst l, h => by unfold Pd at h; exact h.elim
  | 0, .bl _, h => by unfold Pd at h; exact h.elim
  | n + 1, .bl _, h => by unfold Pd at h; exact h.elim
  | 0, .scr _, h => by unfold Pd at h; exact h.elim
  | n + 1, .scr _, h => by unfold Pd at h; exact h.elim
  | 0, .fn _, h => by unfold Pd at h; exact h.elim
  | n + 1, .fn _, h => by unfold Pd at h; exact h.elim
  | 0, .obj _ _, h => by unfold Pd at h; exact h.elim
  | n + 1, .obj _ _, h => by unfold Pd at h; exact h.elim
  | 0, .exn _ _, h => by unfold Pd at h; exact h.elim
  | n + 1, .exn _ _, h => by unfold Pd at h; exact h.elim
theorem py_tup {l : List D} {y : PyData} (e : D.py (.tup l) = some y) : ∃ ys, y = .tuple ys ∧ pyAll l = some ys := by
  unfold D.py at e
  cases h : pyAll l with
  | none => rw [h] at e; cases e
  | some z => rw [h] at e; cases e; exact ⟨z, rfl, rfl⟩
theorem py_lst {l : List D} {y : PyData} (e : D.py (.lst l) = some y) : ∃ ys, y = .list ys ∧ pyAll l = some ys := by
  unfold D.py at e
  cases h : pyAll l with
  | none => rw [h] at e; cases e
  | some z => rw [h] at e; cases e; exact ⟨z, rfl, rfl⟩
theorem py_int {i : Int} {y : PyData} (e : D.py (.int i) = some y) : y = .int i := by unfold D.py at e; cases e; rfl
theorem py_non {y : PyData} (e : D.py .non = some y) : y = .none := by unfold D.py at e; cases e; rfl
theorem py_str {i : Str} {y : PyData} (e : D.py (.str i) = some y) : y = .str i := by unfold D.py at e; cases e; rfl
theorem py_cons {d : D} {l : List D} {y : List PyData} (e : pyAll (d :: l) = some y) : ∃ z zs, y = z :: zs ∧ d.py = some z ∧ pyAll l = some zs := by
  unfold pyAll at e
  cases h : d.py with
  | none => rw [h] at e; cases e
  | some z =>
    cases h2 : pyAll l with
    | none => rw [h, h2] at e; cases e
    | some zs => rw [h, h2] at e; cases e; exact ⟨z, zs, rfl, rfl, rfl⟩
theorem py_nil {y : List PyData} (e : pyAll [] = some y) : y = [] := by unfold pyAll at e; cases e; rfl
def EqvOk (n : Nat) : Prop := ∀ (m : Nat) (a b : D) (x y : PyData), Pd n a → Pd m b → a.py = some x → b.py = some y → (PyData.eqv x y = true ↔ a = b)
theorem eqvAll_pd {n : Nat} (ih : EqvOk n) (m : Nat) : ∀ (a b : List D) (x y : List PyData), (∀ d ∈ a, Pd n d) → (∀ d ∈ b, Pd m d) → pyAll a = some x → pyAll b = some y → (PyData.eqvAll x y = true ↔ a = b)
  | [], [], x, y, _, _, ea, eb => by rw [py_nil ea, py_nil eb]; simp [PyData.eqvAll]
  | [], b :: bs, x, y, _, hb, ea, eb => by
    obtain ⟨z, zs, rfl, _⟩ := py_cons eb
    rw [py_nil ea]; simp [PyData.eqvAll]
  | a :: as, [], x, y, _, hb, ea, eb => by
    obtain ⟨z, zs, rfl, _⟩ := py_cons ea
    rw [py_nil eb]; simp [PyData.eqvAll]
  | a :: as, b :: bs, x, y, ha, hb, ea, eb => by
    obtain ⟨z, zs, rfl, h, h2⟩ := py_cons ea
    obtain ⟨z', zs', rfl, h3, h4⟩ := py_cons eb
    have e1 := ih m a b z z' (ha a List.mem_cons_self) (hb b List.mem_cons_self) h h3
    have e2 := eqvAll_pd ih m as bs zs zs' (fun d hd => ha d (List.mem_cons_of_mem _ hd)) (fun d hd => hb d (List.mem_cons_of_mem _ hd)) h2 h4
    simp only [PyData.eqvAll, Bool.and_eq_true, List.cons.injEq]
    rw [e1, e2]
theorem pd_cases {n : Nat} {d : D} (h : Pd n d) : (∃ i, d = .int i) ∨ d = .non ∨ (∃ z, d = .str z) ∨ (∃ m l, n = m + 1 ∧ d = .tup l ∧ ∀ x ∈ l, Pd m x) ∨ (∃ m l, n = m + 1 ∧ d = .lst l ∧ ∀ x ∈ l, Pd m x) := by
  cases d with
  | int i => exact .inl ⟨i, rfl⟩
  | non => exact .inr (.inl rfl)
  | str z => exact .inr (.inr (.inl ⟨z, rfl⟩))
  | tup l =>
    cases n with
    | zero => unfold Pd at h; exact h.elim
    | succ n => unfold Pd at h; exact .inr (.inr (.inr (.inl ⟨n, l, rfl, rfl, h⟩)))
  | lst l =>
    cases n with
    | zero => unfold Pd at h; exact h.elim
    | succ n => unfold Pd at h; exact .inr (.inr (.inr (.inr ⟨n, l, rfl, rfl, h⟩)))
  | bl b => cases n <;> (unfold Pd at h; exact h.elim)
  | scr b => cases n <;> (unfold Pd at h; exact h.elim)
  | fn b => cases n <;> (unfold Pd at h; exact h.elim)
  | obj b c => cases n <;> (unfold Pd at h; exact h.elim)
  | exn b c => cases n <;> (unfold Pd at h; exact h.elim)
theorem eqv_pd : ∀ n, EqvOk n := by
  intro n
  induction n with
  | zero =>
    intro m a b x y ha hb ea eb
    rcases pd_cases ha with ⟨i, rfl⟩ | rfl | ⟨i, rfl⟩ | ⟨m', l, e, _⟩ | ⟨m', l, e, _⟩
    case inr.inr.inr.inl => omega
    case inr.inr.inr.inr => omega
    all_goals first | (have ex := py_int ea) | (have ex := py_non ea) | (have ex := py_str ea)
    all_goals subst ex
    all_goals
      rcases pd_cases hb with ⟨j, rfl⟩ | rfl | ⟨j, rfl⟩ | ⟨m', l, e, rfl, _⟩ | ⟨m', l, e, rfl, _⟩
    all_goals first
      | (obtain ⟨ys, rfl, _⟩ := py_tup eb) | (obtain ⟨ys, rfl, _⟩ := py_lst eb) | (have ey := py_int eb; subst ey) | (have ey := py_non eb; subst ey) | (have ey := py_str eb; subst ey)
    all_goals simp [PyData.eqv]
  | succ n ih =>
    intro m a b x y ha hb ea eb
    rcases pd_cases ha with ⟨i, rfl⟩ | rfl | ⟨i, rfl⟩ | ⟨m', l, e, rfl, hl⟩ | ⟨m', l, e, rfl, hl⟩
    case inr.inr.inr.inl =>
      obtain rfl : m' = n := by omega
      obtain ⟨xs, rfl, hx⟩ := py_tup ea
      rcases pd_cases hb with ⟨j, rfl⟩ | rfl | ⟨j, rfl⟩ | ⟨m2, l2, e2, rfl, hl2⟩ | ⟨m2, l2, e2, rfl, hl2⟩
      case inr.inr.inr.inl =>
        obtain ⟨ys, rfl, hy⟩ := py_tup eb
        simp only [PyData.eqv, D.tup.injEq]
        exact eqvAll_pd ih m2 l l2 xs ys hl hl2 hx hy
      all_goals first
        | (obtain ⟨ys, rfl, _⟩ := py_lst eb) | (have ey := py_int eb; subst ey) | (have ey := py_non eb; subst ey) | (have ey := py_str eb; subst ey)
      all_goals simp [PyData.eqv]
    case inr.inr.inr.inr =>
      obtain rfl : m' = n := by omega
      obtain ⟨xs, rfl, hx⟩ := py_lst ea
      rcases pd_cases hb with ⟨j, rfl⟩ | rfl | ⟨j, rfl⟩ | ⟨m2, l2, e2, rfl, hl2⟩ | ⟨m2, l2, e2, rfl, hl2⟩
      case inr.inr.inr.inr =>
        obtain ⟨ys, rfl, hy⟩ := py_lst eb
        simp only [PyData.eqv, D.lst.injEq]
        exact eqvAll_pd ih m2 l l2 xs ys hl hl2 hx hy
      all_goals first
        | (obtain ⟨ys, rfl, _⟩ := py_tup eb) | (have ey := py_int eb; subst ey) | (have ey := py_non eb; subst ey) | (have ey := py_str eb; subst ey)
      all_goals simp [PyData.eqv]
    all_goals first | (have ex := py_int ea) | (have ex := py_non ea) | (have ex := py_str ea)
    all_goals subst ex
    all_goals
      rcases pd_cases hb with ⟨j, rfl⟩ | rfl | ⟨j, rfl⟩ | ⟨m', l, e, rfl, _⟩ | ⟨m', l, e, rfl, _⟩
    all_goals first
      | (obtain ⟨ys, rfl, _⟩ := py_tup eb) | (obtain ⟨ys, rfl, _⟩ := py_lst eb) | (have ey := py_int eb; subst ey) | (have ey := py_non eb; subst ey) | (have ey := py_str eb; subst ey)
    all_goals simp [PyData.eqv]
section
variable {n m : Nat} {a b : D} {P : Prop} [Decidable P]
theorem eqD_pd (ha : Pd n a) (hb : Pd m b) (hn : n ≤ 60) (hm : m ≤ 60) (h : a = b ↔ P) : eqD a b = some (decide P) := by
  obtain ⟨x, e1, e2, e3⟩ := ha.py
  obtain ⟨y, f1, f2, f3⟩ := hb.py
  have sx : SeqAt.shaped x = true := by unfold SeqAt.shaped; rw [Bool.and_eq_true]; exact ⟨e2, decide_eq_true (by omega)⟩
  have sy : SeqAt.shaped y = true := by unfold SeqAt.shaped; rw [Bool.and_eq_true]; exact ⟨f2, decide_eq_true (by omega)⟩
  have key := eqv_pd n m a b x y ha hb e1 f1
  have kd : PyData.eqv x y = decide P := by
    rw [Bool.eq_iff_iff, key, decide_eq_true_iff, h]
  unfold eqD
  split
  · unfold D.py at e1 f1; cases e1; cases f1; rw [← kd]; simp only [PyData.eqv] <;> first | rfl | (rw [Bool.eq_iff_iff]; simp)
  · unfold D.py at e1 f1; cases e1; cases f1; rw [← kd]; simp only [PyData.eqv] <;> first | rfl | (rw [Bool.eq_iff_iff]; simp)
  · unfold D.py at e1 f1; cases e1; cases f1; rw [← kd]; simp only [PyData.eqv] <;> first | rfl | (rw [Bool.eq_iff_iff]; simp)
  · unfold D.py at e1 f1; cases e1; cases f1; rw [← kd]; simp only [PyData.eqv] <;> first | rfl | (rw [Bool.eq_iff_iff]; simp)
  · rw [e1, f1]
    show (if _ then _ else _) = _
    rw [if_pos ⟨sx, sy⟩, kd]
theorem gEq_pd (ha : Pd n a) (hb : Pd m b) (hn : n ≤ 60) (hm : m ≤ 60) (h : a = b ↔ P) : gEq a b = some (.bl (decide P)) := by
  unfold gEq
  rw [eqD_pd ha hb hn hm h]
  rfl
theorem gNe_pd (ha : Pd n a) (hb : Pd m b) (hn : n ≤ 60) (hm : m ≤ 60) (h : a = b ↔ P) : gNe a b = some (.bl (!decide P)) := by
  unfold gNe
  rw [eqD_pd ha hb hn hm h]
  rfl
theorem any_pd {x : PyData} (ha : Pd n a) (ea : a.py = some x) : ∀ (l : List D) (ys : List PyData), (∀ d ∈ l, Pd m d) → pyAll l = some ys → ((ys.any fun z => PyData.eqv z x) = true ↔ a ∈ l)
  | [], ys, _, e => by unfold pyAll at e; cases e; simp
  | d :: l, ys, h, e => by
    unfold pyAll at e
    cases h1 : d.py with
    | none => rw [h1] at e; cases e
    | some z =>
      cases h2 : pyAll l with
      | none => rw [h1, h2] at e; cases e
      | some zs =>
        rw [h1, h2] at e
        cases e
        have i1 := eqv_pd m n d a z x (h d List.mem_cons_self) ha h1 ea
        have i2 := any_pd ha ea l zs (fun w hw => h w (List.mem_cons_of_mem _ hw)) h2
        rw [List.any_cons, Bool.or_eq_true, List.mem_cons, i1, i2]
        exact ⟨fun w => w.imp Eq.symm id, fun w => w.imp Eq.symm id⟩
theorem inD_pd {l : List D} {c : D} (hc : c = .lst l ∨ c = .tup l) (ha : Pd n a) (hb : ∀ d ∈ l, Pd m d) (hn : n ≤ 60) (hm : m ≤ 60) (h : a ∈ l ↔ P) : inD a c = some (decide P) := by
  obtain ⟨x, e1, e2, e3⟩ := ha.py
  obtain ⟨ys, f1, f2, f3⟩ := py_all (Pd.py m) l hb
  have sx : SeqAt.shaped x = true := by unfold SeqAt.shaped; rw [Bool.and_eq_true]; exact ⟨e2, decide_eq_true (by omega)⟩
  have sy : SeqAt.shaped (.list ys) = true := by
    unfold SeqAt.shaped
    rw [Bool.and_eq_true]
    exact ⟨by unfold PyData.canLay0; exact f2, decide_eq_true (by simp only [PyData.depth]; omega)⟩
  have kd : (ys.any fun z => PyData.eqv z x) = decide P := by
    rw [Bool.eq_iff_iff, any_pd ha e1 l ys hb f1, decide_eq_true_iff, h]
  have key : inD a c = match a.py, pyAll l with
      | some x, some ys => if SeqAt.shaped x = true ∧ SeqAt.shaped (.list ys) = true then some (ys.any fun z => PyData.eqv z x) else none
      | _, _ => none := by
    rcases hc with rfl | rfl <;> cases a <;> rfl
  rw [key, e1, f1]
  show (if _ then _ else _) = _
  rw [if_pos ⟨sx, sy⟩, kd]
theorem gIn_pd {l : List D} {c : D} (hc : c = .lst l ∨ c = .tup l) (ha : Pd n a) (hb : ∀ d ∈ l, Pd m d) (hn : n ≤ 60) (hm : m ≤ 60) (h : a ∈ l ↔ P) : gIn a c = some (.bl (decide P)) := by
  unfold gIn
  rw [inD_pd hc ha hb hn hm h]
  rfl
theorem gNotIn_pd {l : List D} {c : D} (hc : c = .lst l ∨ c = .tup l) (ha : Pd n a) (hb : ∀ d ∈ l, Pd m d) (hn : n ≤ 60) (hm : m ≤ 60) (h : a ∈ l ↔ P) : gNotIn a c = some (.bl (!decide P)) := by
  unfold gNotIn
  rw [inD_pd hc ha hb hn hm h]
  rfl
end
theorem asBls_map {α : Type} (f : α → Bool) : ∀ l : List α, asBls (l.map fun a => .bl (f a)) = some (l.map f)
  | [] => rfl
  | a :: l => by
    rw [List.map_cons]
    unfold asBls
    rw [asBls_map f l]
    rfl
theorem gAll_map {α : Type} (f : α → Bool) (l : List α) : gAll [.lst (l.map fun a => .bl (f a))] = some (.bl (l.all f)) := by
  show (asBls _).map _ = _
  rw [asBls_map]
  simp [List.all_map]
theorem gAny_map {α : Type} (f : α → Bool) (l : List α) : gAny [.lst (l.map fun a => .bl (f a))] = some (.bl (l.any f)) := by
  show (asBls _).map _ = _
  rw [asBls_map]
  simp [List.any_map]
end Q
namespace Q
open DL L2 PySem PySem.Spec PyProof.Rows
def pl (p : List Int) : D := .tup (p.map .int)
def Sq (d : D) (l : List D) : Prop := d = .tup l ∨ d = .lst l
theorem Sq.tup (l : List D) : Sq (.tup l) l := .inl rfl
theorem Sq.lst (l : List D) : Sq (.lst l) l := .inr rfl
section
variable {d : D} {l : List D} (h : Sq d l)
include h
theorem Sq.iter : gIter d = some l := by rcases h with rfl | rfl <;> rfl
theorem Sq.len : gLen [d] = some (.int l.length) := by rcases h with rfl | rfl <;> rfl
theorem Sq.gtup : gTuple [d] = some (.tup l) := by rcases h with rfl | rfl <;> rfl
theorem Sq.glst : gList [d] = some (.lst l) := by rcases h with rfl | rfl <;> rfl
theorem Sq.sl (lo hi : Option Int) : ∃ z, gSl d lo hi = some z ∧ Sq z (DL.cutD l lo hi) := by rcases h with rfl | rfl <;> exact ⟨_, rfl, by first | exact .inl rfl | exact .inr rfl⟩
theorem Sq.ix (i : Int) : gIx d (.int i) = L2.atI l i := by rcases h with rfl | rfl <;> rfl
theorem Sq.isN : isNon d = false := by rcases h with rfl | rfl <;> rfl
end
theorem cut_to (l : List D) (n : Nat) : DL.cutD l none (some (n : Int)) = l.take n := by
  have h0 : ¬ ((n : Int) < 0) := by omega
  unfold DL.cutD HT.sIx
  simp only [h0, if_false, Int.toNat_natCast, List.drop_zero, Nat.sub_zero]
  by_cases h : n ≤ l.length
  · simp [Nat.min_eq_left h]
  · simp [Nat.min_eq_right (show l.length ≤ n by omega), List.take_of_length_le (show l.length ≤ n by omega)]
theorem cut_from (l : List D) (n : Nat) : DL.cutD l (some (n : Int)) none = l.drop n := by
  have h0 : ¬ ((n : Int) < 0) := by omega
  unfold DL.cutD HT.sIx
  simp only [h0, if_false, Int.toNat_natCast]
  by_cases h : n ≤ l.length
  · simp only [Nat.min_eq_left h]
    exact List.take_of_length_le (by rw [List.length_drop]; omega)
  · simp [Nat.min_eq_right (show l.length ≤ n by omega), List.drop_of_length_le (show l.length ≤ n by omega)]
theorem pd_ints (n : Nat) (xs : List Int) : Pd (n + 1) (pl xs) := by
  unfold pl Pd
  intro d hd
  obtain ⟨a, _, rfl⟩ := List.mem_map.mp hd
  cases n <;> (unfold Pd; trivial)
theorem int_inj {a b : Int} : D.int a = D.int b ↔ a = b := by simp
theorem map_int_inj {a b : List Int} : a.map D.int = b.map D.int ↔ a = b := by
  constructor
  · intro h
    exact (List.map_inj_right (fun x y z => by simpa using z)).mp h
  · intro h; rw [h]
theorem pl_inj {a b : List Int} : pl a = pl b ↔ a = b := by
  unfold pl
  rw [D.tup.injEq, map_int_inj]
theorem ps_inj {a b : List (List Int)} : a.map pl = b.map pl ↔ a = b := by
  constructor
  · intro h
    exact (List.map_inj_right (fun x y z => pl_inj.mp z)).mp h
  · intro h; rw [h]
abbrev BN : Xn := ⟨"BadNumber", []⟩
abbrev NPl : Xn := ⟨"NotPlanes", []⟩
abbrev NPt : Xn := ⟨"NotPoint", []⟩
abbrev NRw : Xn := ⟨"NotRow", []⟩
theorem v_letters (n : Int) (ρ : En) : (Fcheck_letters [.int n]).R ρ = if 1 ≤ n ∧ n ≤ 4 then .ok .non ρ else .ex BN ρ := by
  by_cases h1 : 1 ≤ n
  · by_cases h2 : n ≤ 4
    · simp -implicitDefEqProofs [Fcheck_letters, runM, mcheck_letters, pad, mChain, h1, h2]
    · simp -implicitDefEqProofs [Fcheck_letters, runM, mcheck_letters, pad, mChain, h1, h2]
  · simp -implicitDefEqProofs [Fcheck_letters, runM, mcheck_letters, pad, mChain, h1]
def gcdL (xs : List Int) (g : Nat) : Nat := xs.foldl (fun g a => Int.gcd g a) g
def isPl (n : Nat) (xs : List Int) : Bool := decide (xs.length = n + 1) && xs.all (fun a => decide (a.natAbs ≤ 1000)) && decide (gcdL xs 0 = 1) && (xs.take n).any (fun a => decide (a ≠ 0))
theorem abs_le (a : Int) (k : Nat) : ((if a < 0 then -a else a) ≤ (k : Int)) ↔ a.natAbs ≤ k := by rw [abs_cast]; omega
theorem v_isPlane {n : Nat} (h1 : 1 ≤ n) (h4 : n ≤ 4) {xs : List Int} {d : D} (hd : Sq d (xs.map .int)) (hx : ∀ a ∈ xs, a.natAbs < 2 ^ 8000) (hl : xs.length ≤ 1000) (ρ : En) : (Fis_plane [.int n, d]).R ρ = .ok (.bl (isPl n xs)) ρ := by
  have sz : sizeLine = 16777216 := by decide
  have hc := fun ρ => v_letters (n : Int) ρ
  have hc1 : (1 : Int) ≤ n := by omega
  have hc2 : (n : Int) ≤ 4 := by omega
  simp only [hc1, hc2, and_self, if_true] at hc
  have e1 : mLc [2] (mIter (mVar 1)) (mgName 2) mYes mis_plane_e1 [some (.int n), some d, none, none] = .ok (.lst (xs.map fun a => .bl (decide (a.natAbs ≤ 1000)))) [some (.int n), some d, none, none] := by
    refine mLc_map (as := xs) (enc := .int) (st := fun a => [some (.int n), some d, some (.int a), none]) (f := fun a => .bl (decide (a.natAbs ≤ 1000))) ?_ (by omega) (fun _ => rfl) (fun a ha => ?_) (fun a ha => ?_)
    · simp [hd.iter]
    · rfl
    · have := abs_le a 1000
      simp -implicitDefEqProofs [mis_plane_e1]
      exact this
  have e2 : ∀ o, ∃ o', loopL (mgName 2) mis_plane_b4 (xs.map .int) [some (.int n), some d, o, some (.int ((0 : Nat) : Int))] = .nx [some (.int n), some d, o', some (.int (gcdL xs 0 : Nat))] := by
    have gen : ∀ (ys : List Int) (g : Nat) (o : Option D), (∀ a ∈ ys, a.natAbs < 2 ^ 8000) → ∃ o', loopL (mgName 2) mis_plane_b4 (ys.map .int) [some (.int n), some d, o, some (.int (g : Int))] = .nx [some (.int n), some d, o', some (.int (gcdL ys g : Nat))] := by
      intro ys
      induction ys with
      | nil => exact fun g o _ => ⟨o, rfl⟩
      | cons a ys ih =>
        intro g o hy
        obtain ⟨o', e⟩ := ih (Int.gcd g a) (some (.int a)) fun z hz => hy z (List.mem_cons_of_mem _ hz)
        refine ⟨o', ?_⟩
        have hv := fun ρ => qDivisor_v (g : Int) a (hy a List.mem_cons_self) ρ
        rw [← e_div] at hv
        rw [List.map_cons]
        simp -implicitDefEqProofs [loopL, mis_plane_b4, mCall_R, hv]
        exact e
    exact fun o => gen xs 0 o hx
  obtain ⟨o', e2⟩ := e2 none
  obtain ⟨z, e3, hz⟩ := hd.sl none (some (n : Int))
  rw [cut_to, ← List.map_take] at hz
  have hT : (xs.take n).length ≤ 1000 := by rw [List.length_take]; omega
  unfold isPl
  generalize xs.take n = T at hz hT ⊢
  have e4 : mLc [2] (mIter (mSl (.ex (mVar 1)) mNoP (mPart (mVar 0)))) (mgName 2) mYes mis_plane_e6 [some (.int n), some d, o', some (.int (gcdL xs 0 : Nat))] = .ok (.lst (T.map fun a => .bl (!decide (a = 0)))) [some (.int n), some d, o', some (.int (gcdL xs 0 : Nat))] := by
    refine mLc_map (as := T) (enc := .int) (st := fun a => [some (.int n), some d, some (.int a), some (.int (gcdL xs 0 : Nat))]) (f := fun a => .bl (!decide (a = 0))) ?_ (by omega) (fun _ => rfl) (fun a ha => ?_) (fun a ha => ?_)
    · simp [mSl, evB, rdB, mNoP, mPart, asI, e3, hz.iter]
    · rfl
    · simp -implicitDefEqProofs [mis_plane_e6]
  have q1 : decide ((xs.length : Int) = (n : Int) + 1) = decide (xs.length = n + 1) := by rw [decide_eq_decide]; omega
  have q2 : decide (((gcdL xs 0 : Nat) : Int) = 1) = decide (gcdL xs 0 = 1) := by rw [decide_eq_decide]; omega
  have e2' : loopL (mgName 2) mis_plane_b4 (xs.map .int) [some (.int n), some d, none, some (.int 0)] = _ := e2
  cases b1 : decide (xs.length = n + 1) with
  | false => simp -implicitDefEqProofs [Fis_plane, runM, mis_plane, mis_plane_s0, mis_plane_s2, pad, mCall_R, hc, hd.len, q1, b1]
  | true =>
    cases b2 : xs.all (fun a => decide (a.natAbs ≤ 1000)) with
    | false =>
      have g1 := gAll_map (fun a : Int => decide (a.natAbs ≤ 1000)) xs
      rw [b2] at g1
      simp -implicitDefEqProofs [Fis_plane, runM, mis_plane, mis_plane_s0, mis_plane_s2, pad, mCall_R, hc, hd.len, q1, b1, e1, g1]
    | true =>
      have g1 := gAll_map (fun a : Int => decide (a.natAbs ≤ 1000)) xs
      rw [b2] at g1
      have g2 := gAny_map (fun a : Int => !decide (a = 0)) T
      cases b3 : decide (gcdL xs 0 = 1) with
      | false => simp -implicitDefEqProofs [Fis_plane, runM, mis_plane, mis_plane_s0, mis_plane_s2, mis_plane_s3, mis_plane_s5, mis_plane_s7, pad, mCall_R, hc, hd.len, q1, b1, e1, g1, hd.iter, e2', q2, b3]
      | true =>
        simp -implicitDefEqProofs [Fis_plane, runM, mis_plane, mis_plane_s0, mis_plane_s2, mis_plane_s3, mis_plane_s5, mis_plane_s7, pad, mCall_R, hc, hd.len, q1, b1, e1, g1, hd.iter, e2', q2, b3, e4, g2]
end Q
namespace Q
open DL L2 PySem PySem.Spec PyProof.Rows
def negL (p : List Int) : List Int := p.map fun a => -a
theorem szv : sizeLine = 16777216 := by decide
theorem v_other {xs : List Int} {d : D} (hd : Sq d (xs.map .int)) (hl : xs.length ≤ 1000) (ρ : En) : (Fother_way [d]).R ρ = .ok (pl (negL xs)) ρ := by
  have sz := szv
  have e1 : mLc [1] (mIter (mVar 0)) (mgName 1) mYes (m1 gNeg (mVar 1)) [some d, none] = .ok (.lst (xs.map fun a => .int (-a))) [some d, none] := by
    refine mLc_map (as := xs) (enc := .int) (st := fun a => [some d, some (.int a)]) (f := fun a => .int (-a)) ?_ (by omega) (fun _ => rfl) (fun a ha => rfl) (fun a ha => ?_)
    · simp [hd.iter]
    · simp
  simp -implicitDefEqProofs [Fother_way, runM, mother_way, pad, e1, gTuple, pl, negL]
def sepB (ps : List (List Int)) (at_ : Nat) (row : List Int) : Bool := (ps.take at_).any fun o => decide (row = o) || decide (negL row = o)
def okPls (n : Nat) (ps : List (List Int)) : Bool := decide (ps.length ≤ 12) && ps.all (isPl n) && ps.zipIdx.all fun x => !sepB ps x.2 x.1
def gIx_getO (j : Nat) : True := trivial
theorem encL (ps : List (List Int)) : (enumL (ps.map pl)) = ps.zipIdx.map fun x => .tup [.int (x.2 : Nat), pl x.1] := by
  unfold enumL
  rw [List.zipIdx_map, List.map_map]
  rfl
theorem v_arePls {n : Nat} (h1 : 1 ≤ n) (h4 : n ≤ 4) {ps : List (List Int)} {d : D} (hd : Sq d (ps.map pl)) (hx : ∀ p ∈ ps, (∀ a ∈ p, a.natAbs < 2 ^ 8000) ∧ p.length ≤ 1000) (hl : ps.length ≤ 1000) (ρ : En) : (Fare_planes [.int n, d]).R ρ = .ok (.bl (okPls n ps)) ρ := by
  have sz := szv
  have e1 : mLc [2] (mIter (mVar 1)) (mgName 2) mYes mare_planes_e0 [some (.int n), some d, none, none, none] = .ok (.lst (ps.map fun p => .bl (isPl n p))) [some (.int n), some d, none, none, none] := by
    refine mLc_map (as := ps) (enc := pl) (st := fun p => [some (.int n), some d, some (pl p), none, none]) (f := fun p => .bl (isPl n p)) ?_ (by omega) (fun _ => rfl) (fun a ha => rfl) (fun a ha => ?_)
    · simp [hd.iter]
    · simp -implicitDefEqProofs [mare_planes_e0, mCall_R, v_isPlane h1 h4 (Sq.tup _) (hx a ha).1 (hx a ha).2, pl]
  have g1 := gAll_map (fun p : List Int => isPl n p) ps
  -- the loop
  have body : ∀ (x : List Int × Nat) (o2 o3 o4 : Option D), x ∈ ps.zipIdx → ∃ r, mgTup 2 (mgCons (mgName 3) (mgCons (mgName 2) mgNil)) (.tup [.int (x.2 : Nat), pl x.1]) [some (.int n), some d, o2, o3, o4] = .ok () r ∧
      r = [some (.int n), some d, some (pl x.1), some (.int (x.2 : Nat)), o4] ∧ mare_planes_b2 r = if sepB ps x.2 x.1 = true then .rt (.bl false) r else .nx r := by
    intro x o2 o3 o4 hxm
    refine ⟨_, ?_, rfl, ?_⟩
    · simp
    · have hm : x.1 ∈ ps := by
        have := List.mem_zipIdx hxm
        obtain ⟨_, _, h⟩ := this
        rw [h]
        exact List.getElem_mem _
      obtain ⟨z, e3, hz⟩ := hd.sl none (some (x.2 : Int))
      rw [cut_to, ← List.map_take] at hz
      have hT : (ps.take x.2).length ≤ 1000 := by rw [List.length_take]; omega
      unfold sepB
      generalize ps.take x.2 = T at hz hT ⊢
      have e4 : mLc [4] (mIter (mSl (.ex (mVar 1)) mNoP (mPart (mVar 3)))) (mgName 4) mYes mare_planes_e1 [some (.int n), some d, some (pl x.1), some (.int (x.2 : Nat)), o4] = .ok (.lst (T.map fun o => .bl (decide (x.1 = o) || decide (negL x.1 = o)))) [some (.int n), some d, some (pl x.1), some (.int (x.2 : Nat)), o4] := by
        refine mLc_map (as := T) (enc := pl) (st := fun o => [some (.int n), some d, some (pl x.1), some (.int (x.2 : Nat)), some (pl o)]) (f := fun o => .bl (decide (x.1 = o) || decide (negL x.1 = o))) ?_ (by omega) (fun _ => rfl) (fun a ha => rfl) (fun o ho => ?_)
        · simp [mSl, evB, rdB, mNoP, mPart, asI, e3, hz.iter]
        · have q1 := gEq_pd (n := 1) (m := 1) (a := pl x.1) (b := pl o) (P := x.1 = o) (pd_ints 0 _) (pd_ints 0 _) (by omega) (by omega) pl_inj
          have q2 := gEq_pd (n := 1) (m := 1) (a := pl (negL x.1)) (b := pl o) (P := negL x.1 = o) (pd_ints 0 _) (pd_ints 0 _) (by omega) (by omega) pl_inj
          have q3 : gTuple [pl x.1] = some (pl x.1) := rfl
          have q4 := fun ρ => v_other (Sq.tup (x.1.map .int)) (hx _ hm).2 ρ
          cases hb : decide (x.1 = o) with
          | true => rw [hb] at q1; simp -implicitDefEqProofs [mare_planes_e1, mOr, q3, q1]
          | false =>
            rw [hb] at q1
            have q4' : ∀ ρ, (Fother_way [pl x.1]).R ρ = .ok (pl (negL x.1)) ρ := q4
            simp -implicitDefEqProofs [mare_planes_e1, mOr, mCall_R, q3, q1, q4', q2]
      have g2 := gAny_map (fun o : List Int => decide (x.1 = o) || decide (negL x.1 = o)) T
      cases hb : T.any (fun o => decide (x.1 = o) || decide (negL x.1 = o)) with
      | true => rw [hb] at g2; simp -implicitDefEqProofs [mare_planes_b2, e4, g2]
      | false => rw [hb] at g2; simp -implicitDefEqProofs [mare_planes_b2, e4, g2]
  have loop : ∀ (xs : List (List Int × Nat)) (o2 o3 o4 : Option D), (∀ x ∈ xs, x ∈ ps.zipIdx) →
      (xs.all (fun x => !sepB ps x.2 x.1) = true → ∃ o2' o3' o4', loopL (mgTup 2 (mgCons (mgName 3) (mgCons (mgName 2) mgNil))) mare_planes_b2 (xs.map fun x => .tup [.int (x.2 : Nat), pl x.1]) [some (.int n), some d, o2, o3, o4] = .nx [some (.int n), some d, o2', o3', o4']) ∧
      (xs.all (fun x => !sepB ps x.2 x.1) = false → ∃ r, loopL (mgTup 2 (mgCons (mgName 3) (mgCons (mgName 2) mgNil))) mare_planes_b2 (xs.map fun x => .tup [.int (x.2 : Nat), pl x.1]) [some (.int n), some d, o2, o3, o4] = .rt (.bl false) r) := by
    intro xs
    induction xs with
    | nil => exact fun o2 o3 o4 _ => ⟨fun _ => ⟨o2, o3, o4, rfl⟩, fun h => by cases h⟩
    | cons x xs ih =>
      intro o2 o3 o4 hm
      obtain ⟨r, b1, rfl, b3⟩ := body x o2 o3 o4 (hm x List.mem_cons_self)
      obtain ⟨i1, i2⟩ := ih (some (pl x.1)) (some (.int (x.2 : Nat))) o4 fun z hz => hm z (List.mem_cons_of_mem _ hz)
      rw [List.map_cons, List.all_cons]
      cases hs : sepB ps x.2 x.1 with
      | true =>
        rw [hs] at b3
        refine ⟨fun h => by simp at h, fun _ => ⟨_, by simp only [loopL, b1, b3, if_true]; rfl⟩⟩
      | false =>
        rw [hs] at b3
        refine ⟨fun h => ?_, fun h => ?_⟩
        · obtain ⟨a, b, c, e⟩ := i1 (by simpa using h)
          exact ⟨a, b, c, by simp only [loopL, b1, b3, Bool.false_eq_true, if_false]; exact e⟩
        · obtain ⟨a, e⟩ := i2 (by simpa using h)
          exact ⟨a, by simp only [loopL, b1, b3, Bool.false_eq_true, if_false]; exact e⟩
  obtain ⟨l1, l2⟩ := loop ps.zipIdx none none none fun _ h => h
  have q0 : decide ((12 : Int) < (ps.length : Int)) = !decide (ps.length ≤ 12) := by
    rw [Bool.eq_iff_iff]; simp; omega
  have ge : gEnumS [d] = some (ps.zipIdx.map fun x => .tup [.int (x.2 : Nat), pl x.1]) := by
    show (gIter d).map enumL = _
    rw [hd.iter, Option.map_some, encL]
  unfold okPls
  cases b1 : decide (ps.length ≤ 12) with
  | false => simp -implicitDefEqProofs [Fare_planes, runM, mare_planes, pad, hd.len, q0, b1]
  | true =>
    cases b2 : ps.all (isPl n) with
    | false =>
      rw [b2] at g1
      simp -implicitDefEqProofs [Fare_planes, runM, mare_planes, pad, hd.len, q0, b1, e1, g1]
    | true =>
      rw [b2] at g1
      cases b3 : ps.zipIdx.all (fun x => !sepB ps x.2 x.1) with
      | true =>
        obtain ⟨o2, o3, o4, e⟩ := l1 b3
        simp -implicitDefEqProofs [Fare_planes, runM, mare_planes, pad, hd.len, q0, b1, e1, g1, ge, e]
      | false =>
        obtain ⟨r, e⟩ := l2 b3
        simp -implicitDefEqProofs [Fare_planes, runM, mare_planes, pad, hd.len, q0, b1, e1, g1, ge, e]
end Q
namespace Q
open DL L2 PySem PySem.Spec PyProof.Rows
abbrev S := SX.S
abbrev sD (l : List Nat) : D := .str (S l)
theorem S_inj {a b : List Nat} (h : S a = S b) : a = b := by
  have := congrArg (fun x : Str => x.cps.toList) h
  simpa [S, SX.S] using this
theorem S_of (x : Str) : x = S x.cps.toList := by
  cases x with
  | mk c => rfl
theorem chars_S (l : List Nat) : chars (S l) = l.map fun c => sD [c] := rfl
theorem S_len (l : List Nat) : (S l).length = l.length := by simp [S, SX.S, Str.length]
theorem S_app (a b : List Nat) : S a ++ S b = S (a ++ b) := by
  refine TL.ext_tl ?_
  rw [TL.tl_append]
theorem lt1 (c d : Nat) : decide ((S [c]).cps.toList < (S [d]).cps.toList) = decide (c < d) := by
  rw [decide_eq_decide]
  show [c] < [d] ↔ c < d
  constructor
  · intro h
    rcases List.cons_lt_cons_iff.mp h with h | ⟨_, h⟩
    · exact h
    · exact absurd h (by simp)
  · intro h
    exact List.cons_lt_cons_iff.mpr (.inl h)
theorem gLe_1 (c d : Nat) : gLe (sD [c]) (sD [d]) = some (.bl (decide (c ≤ d))) := by
  show some (D.bl (!decide ((S [d]).cps.toList < (S [c]).cps.toList))) = _
  rw [lt1]
  by_cases h : d < c
  · rw [decide_eq_true h, decide_eq_false (by omega)]; rfl
  · rw [decide_eq_false h, decide_eq_true (by omega)]; rfl
theorem gEq_S (a b : List Nat) : gEq (sD a) (sD b) = some (.bl (decide (a = b))) := by
  show some (D.bl (decide (S a = S b))) = _
  congr 2
  rw [decide_eq_decide]
  exact ⟨S_inj, fun h => by rw [h]⟩
theorem gNe_S (a b : List Nat) : gNe (sD a) (sD b) = some (.bl (!decide (a = b))) := by
  show some (D.bl (!decide (S a = S b))) = _
  congr 3
  rw [decide_eq_decide]
  exact ⟨S_inj, fun h => by rw [h]⟩
theorem in_one (c : Nat) (a : List Nat) : gIn (sD [c]) (sD a) = some (.bl (decide (c ∈ a))) := by
  show some (D.bl (inStr (S [c]) (S a))) = _
  have := SX.in_one a c
  unfold inStr
  rw [show (!(Builtin.Str.occurrences (S a) (S [c]) 0 (S a).length 1).isEmpty) = decide (c ∈ a) from this]

theorem gAdd_S (a b : List Nat) (h : a.length + b.length ≤ sizeLine) : gAdd (sD a) (sD b) = some (sD (a ++ b)) := by
  show (if (S a).length + (S b).length ≤ sizeLine then some (D.str (S a ++ S b)) else none) = _
  rw [S_len, S_len, if_pos h, S_app]

theorem asStrs_S : ∀ ws : List (List Nat), asStrs (ws.map sD) = some (ws.map S)
  | [] => rfl
  | w :: r => by
    have := asStrs_S r
    rw [List.map_cons, List.map_cons]
    unfold asStrs
    rw [this]
    rfl
theorem joinL_le (s : List Nat) : ∀ ws : List (List Nat), (TL.joinL s ws).length ≤ (ws.map (·.length)).sum + ws.length * s.length ∧ ∀ c ∈ TL.joinL s ws, c ∈ s ∨ ∃ w ∈ ws, c ∈ w
  | [] => ⟨Nat.zero_le _, fun c h => nomatch h⟩
  | [p] => by
    refine ⟨by simp [TL.joinL], fun c hc => .inr ⟨p, List.mem_cons_self, hc⟩⟩
  | p :: q :: r => by
    obtain ⟨h1, h2⟩ := joinL_le s (q :: r)
    have e : TL.joinL s (p :: q :: r) = p ++ (s ++ TL.joinL s (q :: r)) := rfl
    rw [e]
    refine ⟨?_, fun c hc => ?_⟩
    · rw [List.length_append, List.length_append, List.map_cons, List.sum_cons, List.length_cons, Nat.succ_mul]
      omega
    · rcases List.mem_append.mp hc with z | z
      · exact .inr ⟨p, List.mem_cons_self, z⟩
      · rcases List.mem_append.mp z with z | z
        · exact .inl z
        · rcases h2 c z with z | ⟨w, hw, z⟩
          · exact .inl z
          · exact .inr ⟨w, List.mem_cons_of_mem _ hw, z⟩
theorem sum_le {k : Nat} : ∀ {ws : List (List Nat)}, (∀ w ∈ ws, w.length ≤ k) → (ws.map (·.length)).sum ≤ ws.length * k
  | [], _ => by simp
  | w :: r, h => by
    have h1 := sum_le (ws := r) fun z hz => h z (List.mem_cons_of_mem _ hz)
    have h2 := h w List.mem_cons_self
    rw [List.map_cons, List.sum_cons, List.length_cons, Nat.succ_mul]
    omega
theorem join_S' (s : List Nat) (ws : List (List Nat)) (h : (ws.map (·.length)).sum + ws.length * s.length ≤ 16777216) : gJoin (sD s) [.lst (ws.map sD)] = some (sD (TL.joinL s ws)) := by
  unfold gJoin
  show (match asStrs (ws.map sD) with | some ys => if (List.map Str.length ys).sum + ys.length * (S s).length ≤ 16777216 then some (D.str (Txt.join (S s) ys)) else none | none => none) = _
  rw [asStrs_S]
  show (if ((ws.map S).map (·.length)).sum + (ws.map S).length * (S s).length ≤ 16777216 then some (D.str (Txt.join (S s) (ws.map S))) else none) = _
  have e : (ws.map S).map (·.length) = ws.map (·.length) := SX.lens ws
  rw [e, List.length_map, S_len, if_pos h, SX.join_S]
theorem join_sgl : ∀ cs : List Nat, TL.joinL [] (cs.map fun c => [c]) = cs
  | [] => rfl
  | [c] => rfl
  | c :: d :: r => by
    have := join_sgl (d :: r)
    show [c] ++ ([] ++ TL.joinL [] ((d :: r).map fun c => [c])) = _
    rw [this]
    rfl

theorem join_cs (cs : List Nat) (h : cs.length ≤ 10000) : gJoin (sD []) [.lst (cs.map fun c => sD [c])] = some (sD cs) := by
  have e : (cs.map fun c => sD [c]) = (cs.map fun c => [c]).map sD := by rw [List.map_map]; rfl
  have s1 := sum_le (k := 1) (ws := cs.map fun c => [c]) fun w hw => by
    obtain ⟨c, _, rfl⟩ := List.mem_map.mp hw
    exact Nat.le_refl _
  rw [List.length_map] at s1
  rw [e, join_S' [] _ (by
    rw [List.length_map]
    simp only [List.length_nil]
    omega), join_sgl]

end Q
namespace Q
open DL L2 PySem PySem.Spec PyProof.Rows
def PO (n : Nat) (ps : List (List Int)) : D := .obj "Planes" [("n", .int n), ("kept", .tup (ps.map pl))]
theorem fld_n {n : Nat} {ps : List (List Int)} : gFld (isC ["Planes"]) "n" (PO n ps) = some (.int n) := rfl
theorem fld_kept {n : Nat} {ps : List (List Int)} : gFld (isC ["Planes"]) "kept" (PO n ps) = some (.tup (ps.map pl)) := rfl
def Sm (ps : List (List Int)) : Prop := ps.length ≤ 1000 ∧ ∀ p ∈ ps, (∀ a ∈ p, a.natAbs < 2 ^ 8000) ∧ p.length ≤ 1000
theorem v_init {n : Int} {ps : List (List Int)} {d : D} (hd : Sq d (ps.map pl)) (h : Sm ps) : FPlanes_init [.obj "Planes" [], .int n, d] = if 1 ≤ n ∧ n ≤ 4 then (if okPls n.toNat ps = true then .rt .non (PO n.toNat ps) else .ex NPl (.obj "Planes" [])) else .ex BN (.obj "Planes" []) := by
  have hc := fun ρ => v_letters n ρ
  by_cases hn : 1 ≤ n ∧ n ≤ 4
  · simp only [hn, and_self, if_true] at hc
    rw [if_pos hn]
    have en : n = ((n.toNat : Nat) : Int) := by omega
    have ha := fun ρ => v_arePls (n := n.toNat) (by omega) (by omega) hd h.2 h.1 ρ
    rw [← en] at ha
    cases ho : okPls n.toNat ps with
    | true =>
      rw [ho] at ha
      have hk : ¬ (("n" : Str) = ("kept" : Str)) := by decide
      simp -implicitDefEqProofs [FPlanes_init, runM, mPlanes_init, pad, mCall_R, hc, ha, msFld, getO_0, isC, putD, hd.gtup, io0, PO, ← en, hk]
    | false =>
      rw [ho] at ha
      simp -implicitDefEqProofs [FPlanes_init, runM, mPlanes_init, pad, mCall_R, hc, ha, io0]
  · simp only [hn, if_false] at hc
    rw [if_neg hn]
    simp -implicitDefEqProofs [FPlanes_init, runM, mPlanes_init, pad, mCall_R, hc, io0]
theorem v_make {n : Int} {ps : List (List Int)} {d : D} (hd : Sq d (ps.map pl)) (h : Sm ps) {args : MA} {ρ ρ1 : En} (ha : args ρ = .ok [.int n, d] ρ1) : mMake "Planes" FPlanes_init args ρ = if 1 ≤ n ∧ n ≤ 4 then (if okPls n.toNat ps = true then .ok (PO n.toNat ps) ρ1 else .ex NPl ρ1) else .ex BN ρ1 := by
  unfold mMake
  rw [ha, bind_ok, v_init hd h]
  by_cases hn : 1 ≤ n ∧ n ≤ 4
  · simp only [hn, and_self, if_true]
    cases ho : okPls n.toNat ps <;> rfl
  · simp only [hn, if_false]
theorem v_planes (n : Nat) (ps : List (List Int)) (ρ : En) : (FPlanes_planes [PO n ps]).R ρ = .ok (.lst (ps.map pl)) ρ := by
  simp -implicitDefEqProofs [FPlanes_planes, runM, mPlanes_planes, pad, fld_kept, gList]
theorem v_plen (n : Nat) (ps : List (List Int)) : FPlanes_len [PO n ps] = .rt (.int ps.length) (PO n ps) := by
  simp -implicitDefEqProofs [FPlanes_len, runM, mPlanes_len, pad, fld_kept, gLen, io0]
def frs (q : List Rat) : D := .tup (q.map fr)
def prs (l : List (Int × Int)) : List D := l.map tupI
theorem fr_tupI (q : Rat) : fr q = tupI (q.num, (q.den : Int)) := rfl
theorem v_isRow {w : Int} {l : List (Int × Int)} {d : D} (hd : Sq d (prs l)) (hx : ∀ p ∈ l, p.2.natAbs < 2 ^ 8000) (hl : l.length ≤ 1000) (ρ : En) : (Fis_row_of [.int w, d]).R ρ = .ok (.bl (decide ((l.length : Int) = w) && l.all fun p => isNum p.1 p.2)) ρ := by
  have sz := szv
  have e1 : mLc [2] (mIter (mVar 1)) (mgName 2) mYes (mCall Fis_number (mCons (mVar 2) mNil)) [some (.int w), some d, none] = .ok (.lst (l.map fun p => .bl (isNum p.1 p.2))) [some (.int w), some d, none] := by
    refine mLc_map (as := l) (enc := tupI) (st := fun p => [some (.int w), some d, some (tupI p)]) (f := fun p => .bl (isNum p.1 p.2)) ?_ (by omega) (fun _ => rfl) (fun a ha => rfl) (fun a ha => ?_)
    · simp [hd.iter, prs]
    · have hv := fun ρ => qIsNumber_v (a := a.1) (b := a.2) (hx a ha) ρ
      have hv' : ∀ ρ, (Fis_number [tupI a]).R ρ = .ok (.bl (isNum a.1 a.2)) ρ := fun ρ => by rw [e_isn]; exact hv ρ
      simp -implicitDefEqProofs [mCall_R, hv']
  have g1 := gAll_map (fun p : Int × Int => isNum p.1 p.2) l
  have hlen : gLen [d] = some (.int l.length) := by rw [hd.len]; unfold prs; rw [List.length_map]
  cases b1 : decide ((l.length : Int) = w) with
  | false => simp -implicitDefEqProofs [Fis_row_of, runM, mis_row_of, pad, hlen, b1]
  | true => simp -implicitDefEqProofs [Fis_row_of, runM, mis_row_of, pad, hlen, b1, e1, g1, mis_row_of_e0]
theorem v_checkPt {n : Int} {l : List (Int × Int)} {d : D} (hd : Sq d (prs l)) (hx : ∀ p ∈ l, p.2.natAbs < 2 ^ 8000) (hl : l.length ≤ 1000) (ρ : En) : (Fcheck_point [.int n, d]).R ρ = if 1 ≤ n ∧ n ≤ 4 then (if (decide ((l.length : Int) = n) && l.all fun p => isNum p.1 p.2) = true then .ok .non ρ else .ex NPt ρ) else .ex BN ρ := by
  have hc := fun ρ => v_letters n ρ
  have hr := fun ρ => v_isRow (w := n) hd hx hl ρ
  by_cases hn : 1 ≤ n ∧ n ≤ 4
  · simp only [hn, and_self, if_true] at hc ⊢
    cases hb : (decide ((l.length : Int) = n) && l.all fun p => isNum p.1 p.2) with
    | true => rw [hb] at hr; simp -implicitDefEqProofs [Fcheck_point, runM, mcheck_point, pad, mCall_R, hc, hr]
    | false => rw [hb] at hr; simp -implicitDefEqProofs [Fcheck_point, runM, mcheck_point, pad, mCall_R, hc, hr]
  · simp only [hn, if_false] at hc ⊢
    simp -implicitDefEqProofs [Fcheck_point, runM, mcheck_point, pad, mCall_R, hc]
def prOf (q : Rat) : Int × Int := (q.num, (q.den : Int))
theorem frs_prs (q : List Rat) : q.map fr = prs (q.map prOf) := by unfold prs; rw [List.map_map]; rfl
theorem v_checkPtQ {n : Nat} (h1 : 1 ≤ n) (h4 : n ≤ 4) {q : List Rat} {d : D} (hd : Sq d (q.map fr)) (hq : q.length = n) {k : Nat} (hs : ∀ x ∈ q, Sz k x) (hk : k ≤ 8000) (ρ : En) : (Fcheck_point [.int n, d]).R ρ = .ok .non ρ := by
  rw [frs_prs] at hd
  rw [v_checkPt hd (fun p hp => by
    obtain ⟨x, hx, rfl⟩ := List.mem_map.mp hp
    exact s8 (hs x hx).d hk) (by rw [List.length_map]; omega), if_pos ⟨by omega, by omega⟩, if_pos]
  rw [Bool.and_eq_true, List.length_map]
  refine ⟨decide_eq_true (by omega), List.all_eq_true.mpr fun p hp => ?_⟩
  obtain ⟨x, hx, rfl⟩ := List.mem_map.mp hp
  exact rat_num x
theorem v_numbersOf {xs : List Int} {d : D} (hd : Sq d (xs.map .int)) (hl : xs.length ≤ 1000) (ρ : En) : (Fnumbers_of [d]).R ρ = .ok (frs (xs.map fun a : Int => (a : Rat))) ρ := by
  have sz := szv
  have e1 : mLc [1] (mIter (mVar 0)) (mgName 1) mYes mnumbers_of_e0 [some d, none] = .ok (.lst (xs.map fun a : Int => fr (a : Rat))) [some d, none] := by
    refine mLc_map (as := xs) (enc := .int) (st := fun a => [some d, some (.int a)]) (f := fun a : Int => fr (a : Rat)) ?_ (by omega) (fun _ => rfl) (fun a ha => rfl) (fun a ha => ?_)
    · simp [hd.iter]
    · simp -implicitDefEqProofs [mnumbers_of_e0, two_le, fr_int]
  simp -implicitDefEqProofs [Fnumbers_of, runM, mnumbers_of, pad, e1, gTuple, frs]
def dotR (a b : List Rat) : Rat := (a.zip b).foldl (fun t p => t + p.1 * p.2) 0
theorem v_dot {a b : List Rat} {d1 d2 : D} (h1 : Sq d1 (a.map fr)) (h2 : Sq d2 (b.map fr)) {i j : Nat} (hi : ∀ x ∈ a, Sz i x) (hj : ∀ x ∈ b, Sz j x) (hl : (a.zip b).length * (i + j + 1) + 1 + i + j ≤ 8000) (ρ : En) : (Fdot [d1, d2]).R ρ = .ok (fr (dotR a b)) ρ := by
  have gen : ∀ (zs : List (Rat × Rat)) (t : Rat) (k : Nat) (o3 o4 : Option D), (∀ p ∈ zs, Sz i p.1 ∧ Sz j p.2) → Sz k t → zs.length * (i + j + 1) + k + i + j ≤ 8000 →
      ∃ o3' o4', loopL (mgTup 2 (mgCons (mgName 3) (mgCons (mgName 4) mgNil))) mdot_b0 (zs.map fun p => .tup [fr p.1, fr p.2]) [some d1, some d2, some (fr t), o3, o4] = .nx [some d1, some d2, some (fr (zs.foldl (fun t p => t + p.1 * p.2) t)), o3', o4'] := by
    intro zs
    induction zs with
    | nil => exact fun t k o3 o4 _ _ _ => ⟨o3, o4, rfl⟩
    | cons z zs ih =>
      intro t k o3 o4 hz ht hk
      rw [List.length_cons, Nat.succ_mul] at hk
      obtain ⟨s1, s2⟩ := hz z List.mem_cons_self
      have m := s1.mul s2
      obtain ⟨o3', o4', e⟩ := ih (t + z.1 * z.2) (k + (i + j) + 1) (some (fr z.1)) (some (fr z.2)) (fun p hp => hz p (List.mem_cons_of_mem _ hp)) (ht.add m) (by omega)
      refine ⟨o3', o4', ?_⟩
      rw [List.map_cons, List.foldl_cons, ← e]
      simp -implicitDefEqProofs [loopL, mdot_b0, mCall_R, v_multiplied s1 s2 (by omega), v_summed ht m (by omega)]
  obtain ⟨o3', o4', e⟩ := gen (a.zip b) 0 1 none none (fun p hp => by
    have := List.of_mem_zip hp
    exact ⟨hi _ this.1, hj _ this.2⟩) Sz.zero hl
  have gz : gZipS [d1, d2] = some ((a.zip b).map fun p => .tup [fr p.1, fr p.2]) := by
    show (gIter d1).bind _ = _
    rw [h1.iter, Option.bind_some, h2.iter, Option.map_some, List.zip_map, List.map_map]
    rfl
  have e' : loopL (mgTup 2 (mgCons (mgName 3) (mgCons (mgName 4) mgNil))) mdot_b0 ((a.zip b).map fun p => .tup [fr p.1, fr p.2]) [some d1, some d2, some (.tup [.int 0, .int 1]), none, none] = _ := e
  simp -implicitDefEqProofs [Fdot, runM, mdot, pad, gz, e', dotR]
end Q
namespace Q
open DL L2 PySem PySem.Spec PyProof.Rows
theorem fold_add {α : Type} (f : α → Rat) : ∀ (l : List α) (t : Rat), l.foldl (fun t p => t + f p) t = t + (l.map f).sum
  | [], t => by simp [Rat.add_zero]
  | a :: l, t => by
    rw [List.foldl_cons, fold_add f l, List.map_cons, List.sum_cons, Rat.add_assoc]
def heightR (n : Nat) (p : List Int) (q : List Rat) : Rat := dotR ((p.take n).map fun a : Int => (a : Rat)) q + ((-(p.getD n 0) : Int) : Rat)
def sgC (q : Rat) : Nat := if 0 < q.num then 43 else if q.num < 0 then 45 else 48
theorem atI_nat' (l : List D) (n : Nat) (h : n < l.length) : L2.atI l (n : Int) = some l[n] := by
  unfold L2.atI L2.ixN
  simp [h]
theorem isPl_len {n : Nat} {p : List Int} (h : isPl n p = true) : p.length = n + 1 ∧ (∀ a ∈ p, a.natAbs ≤ 1000) := by
  unfold isPl at h
  simp only [Bool.and_eq_true, decide_eq_true_eq, List.all_eq_true] at h
  exact ⟨h.1.1.1, h.1.1.2⟩
def Pi (k n : Nat) (p : List Int) : Prop := p.length = n + 1 ∧ ∀ a ∈ p, a.natAbs < 2 ^ k
theorem Pi.of {n : Nat} {p : List Int} (h : isPl n p = true) : Pi 10 n p := by
  obtain ⟨h1, h2⟩ := isPl_len h
  exact ⟨h1, fun a ha => Nat.lt_of_le_of_lt (h2 a ha) (by decide)⟩
section
variable {n k i : Nat} {p : List Int} {q : List Rat} {d : D}
theorem v_height (hp : Pi k n p) (hk : 0 < k) (hd : Sq d (q.map fr)) (hq : q.length = n) (hn : n ≤ 100) (hs : ∀ x ∈ q, Sz i x) (hl : n * (k + i + 1) + 2 + k + i + k ≤ 8000) (ρ : En) : (Fheight [.int n, pl p, d]).R ρ = .ok (fr (heightR n p q)) ρ ∧ Sz (n * (k + i + 1) + 2 + k) (heightR n p q) := by
  obtain ⟨hp1, hp2⟩ := hp
  obtain ⟨z, e3, hz⟩ := (Sq.tup (p.map D.int)).sl none (some (n : Int))
  rw [cut_to, ← List.map_take] at hz
  have e4 := fun ρ => v_numbersOf hz (by rw [List.length_take]; omega) ρ
  have hs1 : ∀ x ∈ (p.take n).map (fun a : Int => (a : Rat)), Sz k x := by
    intro x hx
    obtain ⟨a, ha, rfl⟩ := List.mem_map.mp hx
    exact Sz.int (hp2 a (List.mem_of_mem_take ha)) hk
  have zl : (((p.take n).map fun a : Int => (a : Rat)).zip q).length = n := by
    rw [List.length_zip, List.length_map, List.length_take]
    omega
  have e5 := fun ρ => v_dot (Sq.tup (((p.take n).map fun a : Int => (a : Rat)).map fr)) hd hs1 hs (by rw [zl]; omega) ρ
  have hpn : n < p.length := by omega
  have gi : gIx (pl p) (.int (n : Int)) = some (.int (p.getD n 0)) := by
    show L2.atI (p.map D.int) (n : Int) = _
    rw [atI_nat' _ n (by rw [List.length_map]; exact hpn), List.getElem_map]
    simp [List.getD, hpn]
  have hb : Sz k ((-(p.getD n 0) : Int) : Rat) := by
    refine Sz.int ?_ hk
    rw [Int.natAbs_neg]
    have : p.getD n 0 = p[n] := by simp [List.getD, hpn]
    rw [this]
    exact hp2 _ (List.getElem_mem _)
  have dsz : Sz (n * (k + i + 1) + 1) (dotR ((p.take n).map fun a : Int => (a : Rat)) q) := by
    have gen : ∀ (zs : List (Rat × Rat)) (t : Rat) (c : Nat), (∀ p ∈ zs, Sz k p.1 ∧ Sz i p.2) → Sz c t → Sz (zs.length * (k + i + 1) + c) (zs.foldl (fun t p => t + p.1 * p.2) t) := by
      intro zs
      induction zs with
      | nil => intro t c _ h; simpa using h
      | cons z zs ih =>
        intro t c hz ht
        obtain ⟨s1, s2⟩ := hz z List.mem_cons_self
        have := ih (t + z.1 * z.2) (c + (k + i) + 1) (fun p hp => hz p (List.mem_cons_of_mem _ hp)) (ht.add (s1.mul s2))
        rw [List.foldl_cons, List.length_cons, Nat.succ_mul]
        exact this.up (by omega)
    have := gen (((p.take n).map fun a : Int => (a : Rat)).zip q) 0 1 (fun p hp => by
      have := List.of_mem_zip hp
      exact ⟨hs1 _ this.1, hs _ this.2⟩) Sz.zero
    rw [zl] at this
    exact this
  refine ⟨?_, (dsz.add hb).up (by omega)⟩
  have e6 := fun ρ => v_summed dsz hb (by omega) ρ
  have e3' : gSl (pl p) none (some (n : Int)) = some z := e3
  have e5' : ∀ ρ, (Fdot [frs ((p.take n).map fun a : Int => (a : Rat)), d]).R ρ = .ok (fr (dotR ((p.take n).map fun a : Int => (a : Rat)) q)) ρ := e5
  have e7 : D.tup [.int (-(p.getD n 0)), .int 1] = fr ((-(p.getD n 0) : Int) : Rat) := rfl
  unfold heightR
  generalize (p.take n).map (fun a : Int => (a : Rat)) = A at *
  generalize p.getD n 0 = b at *
  simp -implicitDefEqProofs [Fheight, runM, mheight, pad, mCall_R, mSl, evB, rdB, mNoP, mPart, asI, e3', e4, e5', gi, two_le, -Rat.intCast_neg, e7, e6]
theorem v_signAt (hp : Pi k n p) (hk : 0 < k) (hd : Sq d (q.map fr)) (hq : q.length = n) (hn : n ≤ 100) (hs : ∀ x ∈ q, Sz i x) (hl : n * (k + i + 1) + 2 + k + i + k ≤ 8000) (ρ : En) : (Fsign_at [.int n, pl p, d]).R ρ = .ok (sD [sgC (heightR n p q)]) ρ := by
  have h := fun ρ => (v_height hp hk hd hq hn hs hl ρ).1
  unfold sgC
  by_cases h1 : 0 < (heightR n p q).num
  · simp -implicitDefEqProofs [Fsign_at, runM, msign_at, pad, mCall_R, h, ix0, h1]
    rfl
  · by_cases h2 : (heightR n p q).num < 0
    · simp -implicitDefEqProofs [Fsign_at, runM, msign_at, pad, mCall_R, h, ix0, h1, h2]
      rfl
    · simp -implicitDefEqProofs [Fsign_at, runM, msign_at, pad, mCall_R, h, ix0, h1, h2]
      rfl
end
def rowR (n : Nat) (ps : List (List Int)) (q : List Rat) : List Nat := ps.map fun p => sgC (heightR n p q)
theorem v_rowOf {n k i : Nat} {ps : List (List Int)} {q : List Rat} {d : D} (h1 : 1 ≤ n) (h4 : n ≤ 4) (hp : ∀ p ∈ ps, Pi k n p) (hl : ps.length ≤ 1000) (hk : 0 < k) (hd : Sq d (q.map fr)) (hq : q.length = n) (hs : ∀ x ∈ q, Sz i x) (hz : n * (k + i + 1) + 2 + k + i + k ≤ 8000) (ρ : En) : (Frow_of [PO n ps, d]).R ρ = .ok (sD (rowR n ps q)) ρ := by
  have sz := szv
  have hc := fun ρ => v_checkPtQ h1 h4 hd hq hs (by omega) ρ
  have e1 : mLc [2] (mIter (m1 (gFld (isC ["Planes"]) "kept") (mVar 0))) (mgName 2) mYes mrow_of_e0 [some (PO n ps), some d, none] = .ok (.lst (ps.map fun p => sD [sgC (heightR n p q)])) [some (PO n ps), some d, none] := by
    refine mLc_map (as := ps) (enc := pl) (st := fun p => [some (PO n ps), some d, some (pl p)]) (f := fun p => sD [sgC (heightR n p q)]) ?_ (by omega) (fun _ => rfl) (fun a ha => rfl) (fun a ha => ?_)
    · simp [fld_kept, gIter]
    · have := fun ρ => v_signAt (hp a ha) hk hd hq (by omega) hs hz ρ
      simp -implicitDefEqProofs [mrow_of_e0, fld_n, mCall_R, this]
  have e2 := join_cs (rowR n ps q) (by unfold rowR; rw [List.length_map]; omega)
  unfold rowR at e2 ⊢
  rw [List.map_map] at e2
  have e2' : gJoin (.str "") [.lst (ps.map fun p => sD [sgC (heightR n p q)])] = _ := e2
  simp -implicitDefEqProofs [Frow_of, runM, mrow_of, pad, mCall_R, fld_n, hc, mM, isStr, e1, e2']
def okRow (ps : List (List Int)) (w : List Nat) : Bool := decide (w.length = ps.length) && w.all fun c => decide (c ∈ [43, 45, 48])
theorem gLen_S {w : List Nat} (h : w.length ≤ 16777216) : gLen [sD w] = some (.int w.length) := by
  show (if (S w).length ≤ sizeLine then some (D.int (S w).length) else none) = _
  rw [S_len, if_pos (by rw [szv]; exact h)]
theorem v_isRow' {n : Nat} {ps : List (List Int)} {w : List Nat} (h : w.length ≤ 10000) (ρ : En) : (Fis_row [PO n ps, sD w]).R ρ = .ok (.bl (okRow ps w)) ρ := by
  have sz := szv
  have e1 : mLc [2] (mIter (mVar 1)) (mgName 2) mYes mis_row_e0 [some (PO n ps), some (sD w), none] = .ok (.lst (w.map fun c => .bl (decide (c ∈ [43, 45, 48])))) [some (PO n ps), some (sD w), none] := by
    refine mLc_map (as := w) (enc := fun c => sD [c]) (st := fun c => [some (PO n ps), some (sD w), some (sD [c])]) (f := fun c => .bl (decide (c ∈ [43, 45, 48]))) ?_ (by omega) (fun _ => rfl) (fun a ha => rfl) (fun a ha => ?_)
    · simp [gIter, chars_S]
    · have := in_one a [43, 45, 48]
      have e : D.str "+-0" = sD [43, 45, 48] := rfl
      simp only [mis_row_e0, m2_ap, mVar_ap, mK_ap, e, bind_ok, List.getElem?_cons_succ, List.getElem?_cons_zero, this, ret_some]
  have g1 := gAll_map (fun c : Nat => decide (c ∈ [43, 45, 48])) w
  have hk : gLen [D.tup (ps.map pl)] = some (.int ps.length) := by show some (D.int _) = _; rw [List.length_map]
  have q1 : decide ((w.length : Int) = (ps.length : Int)) = decide (w.length = ps.length) := by rw [decide_eq_decide]; omega
  have gl := gLen_S (w := w) (by omega)
  unfold okRow
  cases b1 : decide (w.length = ps.length) with
  | false => simp -implicitDefEqProofs [Fis_row, runM, mis_row, pad, gl, fld_kept, hk, q1, b1]
  | true =>
    simp -implicitDefEqProofs only [Fis_row, runM, mis_row, pad, gl, fld_kept, hk, q1, b1, e1, g1, mAnd_ap, m2_ap, mN_ap, m1_ap, mVar_ap, mCons_ap, mNil_ap, bind_ok, ret_some, msRet_ap, obind_ok, gEq_ii, tru_bl, Bool.true_and, List.map_cons, List.map_nil, List.cons_append, List.nil_append, List.append_nil, List.length_cons, List.length_nil, if_true, Nat.reduceAdd, Nat.reduceSub, List.replicate, List.getElem?_cons_zero, List.getElem?_cons_succ, Ret.R_rt]
theorem v_checkRow {n : Nat} {ps : List (List Int)} {w : List Nat} (h : w.length ≤ 10000) (ρ : En) : (Fcheck_row [PO n ps, sD w]).R ρ = if okRow ps w = true then .ok .non ρ else .ex NRw ρ := by
  have hc := fun ρ => v_isRow' (n := n) (ps := ps) h ρ
  cases hb : okRow ps w with
  | true => rw [hb] at hc; simp -implicitDefEqProofs [Fcheck_row, runM, mcheck_row, pad, mCall_R, hc]
  | false => rw [hb] at hc; simp -implicitDefEqProofs [Fcheck_row, runM, mcheck_row, pad, mCall_R, hc]
def opp (c : Nat) : Nat := if c = 43 then 45 else if c = 45 then 43 else 48
theorem ix_opp {c : Nat} (h : c ∈ [43, 45, 48]) : ∃ i : Int, gSIndex (.str "+-0") [sD [c]] = some (.int i) ∧ gIx (.str "-+0") (.int i) = some (sD [opp c]) := by
  simp only [List.mem_cons, List.not_mem_nil, or_false] at h
  rcases h with rfl | rfl | rfl
  · exact ⟨0, by kernel_rfl, by kernel_rfl⟩
  · exact ⟨1, by kernel_rfl, by kernel_rfl⟩
  · exact ⟨2, by kernel_rfl, by kernel_rfl⟩
theorem v_opposite {n : Nat} {ps : List (List Int)} {w : List Nat} (h : w.length ≤ 10000) (ρ : En) : (Fopposite [PO n ps, sD w]).R ρ = if okRow ps w = true then .ok (sD (w.map opp)) ρ else .ex NRw ρ := by
  have sz := szv
  have hc := fun ρ => v_checkRow (n := n) (ps := ps) h ρ
  cases hb : okRow ps w with
  | false => simp only [hb, Bool.false_eq_true, if_false] at hc ⊢; simp -implicitDefEqProofs [Fopposite, runM, mopposite, pad, mCall_R, hc]
  | true =>
    simp only [hb, if_true] at hc ⊢
    have e1 : mLc [2] (mIter (mVar 1)) (mgName 2) mYes mopposite_e0 [some (PO n ps), some (sD w), none] = .ok (.lst (w.map fun c => sD [opp c])) [some (PO n ps), some (sD w), none] := by
      refine mLc_map (as := w) (enc := fun c => sD [c]) (st := fun c => [some (PO n ps), some (sD w), some (sD [c])]) (f := fun c => sD [opp c]) ?_ (by omega) (fun _ => rfl) (fun a ha => rfl) (fun a ha => ?_)
      · simp [gIter, chars_S]
      · unfold okRow at hb
        rw [Bool.and_eq_true] at hb
        obtain ⟨i, i1, i2⟩ := ix_opp (of_decide_eq_true (List.all_eq_true.mp hb.2 a ha))
        simp -implicitDefEqProofs [mopposite_e0, mM, isStr, i1, i2]
    have e2 := join_cs (w.map opp) (by rw [List.length_map]; omega)
    rw [List.map_map] at e2
    have e2' : gJoin (.str "") [.lst (w.map fun c => sD [opp c])] = _ := e2
    simp -implicitDefEqProofs [Fopposite, runM, mopposite, pad, mCall_R, hc, mM, isStr, e1, e2']
end Q
namespace Q
open DL L2 PySem PySem.Spec PyProof.Rows
theorem rangeL_enc (n : Nat) : rangeL 0 n = (List.range n).map fun i => D.int (i : Nat) := by
  unfold rangeL
  congr 1
  funext i
  simp
theorem okR_nat {n : Nat} (h : n ≤ 1000000) : okR (n : Int) = true := by
  unfold okR
  simp
  omega
theorem range1 {n : Nat} (h : n ≤ 1000000) : gRange1 [.int (n : Int)] = some ((List.range n).map fun i => D.int (i : Nat)) := by
  rw [gRange1_i, if_pos (okR_nat h), ← rangeL_enc]
  rfl
theorem dot_range (a q : List Rat) (n : Nat) (ha : a.length = n) (hq : q.length = n) (t : Rat) : (List.range n).foldl (fun t i => t + a.getD i 0 * q.getD i 0) t = t + dotR a q := by
  unfold dotR
  rw [fold_add (fun i => a.getD i 0 * q.getD i 0), fold_add (fun p : Rat × Rat => p.1 * p.2), Rat.zero_add]
  congr 2
  apply List.ext_getElem
  · rw [List.length_map, List.length_map, List.length_range, List.length_zip]; omega
  · intro i h1 h2
    rw [List.length_map, List.length_range] at h1
    simp [List.getD, show i < a.length by omega, show i < q.length by omega]
section
variable {n k i : Nat} {p : List Int} {q : List Rat} {d : D}
theorem v_lheight (hp : Pi k n p) (hk : 0 < k) (hd : Sq d (q.map fr)) (hq : q.length = n) (hn : n ≤ 100) (hs : ∀ x ∈ q, Sz i x) (hl : n * (k + i + 1) + 2 + k + i + k ≤ 8000) (ρ : En) : (F_law_height [pl p, d]).R ρ = .ok (fr (heightR n p q)) ρ := by
  obtain ⟨hp1, hp2⟩ := hp
  have hlen : gLen [d] = some (.int (n : Nat)) := by rw [hd.len, List.length_map, hq]
  have hpn : n < p.length := by omega
  have gi : ∀ j : Nat, j ≤ n → gIx (pl p) (.int (j : Int)) = some (.int (p.getD j 0)) := by
    intro j hj
    show L2.atI (p.map D.int) (j : Int) = _
    rw [atI_nat' _ j (by rw [List.length_map]; omega), List.getElem_map]
    simp [List.getD, show j < p.length by omega]
  have gq : ∀ j : Nat, j < n → gIx d (.int (j : Int)) = some (fr (q.getD j 0)) := by
    intro j hj
    rw [hd.ix, atI_nat' _ j (by rw [List.length_map]; omega), List.getElem_map]
    simp [List.getD, show j < q.length by omega]
  have hint : ∀ j, j ≤ n → Sz k ((p.getD j 0 : Int) : Rat) := by
    intro j hj
    refine Sz.int ?_ hk
    have : p.getD j 0 = p[j]'(by omega) := by simp [List.getD, show j < p.length by omega]
    rw [this]
    exact hp2 _ (List.getElem_mem _)
  have hqs : ∀ j, j < n → Sz i (q.getD j 0) := by
    intro j hj
    have : q.getD j 0 = q[j]'(by omega) := by simp [List.getD, show j < q.length by omega]
    rw [this]
    exact hs _ (List.getElem_mem _)
  have gen : ∀ (is : List Nat) (t : Rat) (c : Nat) (o3 : Option D), (∀ j ∈ is, j < n) → Sz c t → is.length * (k + i + 1) + c + k + i ≤ 8000 →
      ∃ o3', loopL (mgName 3) m_law_height_b0 (is.map fun j => D.int (j : Nat)) [some (pl p), some d, some (fr t), o3] = .nx [some (pl p), some d, some (fr (is.foldl (fun t j => t + ((p.getD j 0 : Int) : Rat) * q.getD j 0) t)), o3'] := by
    intro is
    induction is with
    | nil => exact fun t c o3 _ _ _ => ⟨o3, rfl⟩
    | cons j is ih =>
      intro t c o3 hj ht hc
      rw [List.length_cons, Nat.succ_mul] at hc
      have hjn := hj j List.mem_cons_self
      have s1 := hint j (by omega)
      have s2 := hqs j hjn
      have m := s1.mul s2
      obtain ⟨o3', e⟩ := ih (t + ((p.getD j 0 : Int) : Rat) * q.getD j 0) (c + (k + i) + 1) (some (.int (j : Nat))) (fun x hx => hj x (List.mem_cons_of_mem _ hx)) (ht.add m) (by omega)
      refine ⟨o3', ?_⟩
      rw [List.map_cons, List.foldl_cons, ← e]
      have g1 := gi j (by omega)
      have g2 := gq j hjn
      have v1 := fun ρ => v_ltimes s1 s2 (by omega) ρ
      have v2 := fun ρ => v_lplus ht m (by omega) ρ
      rw [fr_int] at v1
      generalize p.getD j 0 = b at *
      generalize q.getD j 0 = c' at *
      simp -implicitDefEqProofs [loopL, m_law_height_b0, mCall_R, g1, g2, two_le, v1, v2]
  have h0 : Sz k ((-(p.getD n 0) : Int) : Rat) := by
    have := (hint n (Nat.le_refl _)).neg
    have e : (-((p.getD n 0 : Int) : Rat)) = ((-(p.getD n 0) : Int) : Rat) := by simp
    rwa [e] at this
  obtain ⟨o3', e⟩ := gen (List.range n) ((-(p.getD n 0) : Int) : Rat) k none (fun j hj => List.mem_range.mp hj) h0 (by rw [List.length_range]; omega)
  have e2 : (List.range n).foldl (fun t j => t + ((p.getD j 0 : Int) : Rat) * q.getD j 0) ((-(p.getD n 0) : Int) : Rat) = heightR n p q := by
    have := dot_range ((p.take n).map fun a : Int => (a : Rat)) q n (by rw [List.length_map, List.length_take]; omega) hq ((-(p.getD n 0) : Int) : Rat)
    unfold heightR
    rw [Rat.add_comm, ← this]
    have fe : ∀ (is : List Nat) (t : Rat), (∀ j ∈ is, j < n) → is.foldl (fun t j => t + ((p.getD j 0 : Int) : Rat) * q.getD j 0) t = is.foldl (fun t i => t + ((p.take n).map fun a : Int => (a : Rat)).getD i 0 * q.getD i 0) t := by
      intro is
      induction is with
      | nil => intro t _; rfl
      | cons j is ih =>
        intro t hj
        rw [List.foldl_cons, List.foldl_cons, ih _ fun x hx => hj x (List.mem_cons_of_mem _ hx)]
        have hjn := hj j List.mem_cons_self
        have : ((p.take n).map fun a : Int => (a : Rat)).getD j 0 = ((p.getD j 0 : Int) : Rat) := by
          simp [List.getD, show j < p.length by omega, List.getElem?_take, hjn]
        rw [this]
    exact fe _ _ fun j hj => List.mem_range.mp hj
  rw [e2] at e
  have r := range1 (n := n) (by omega)
  have g1 := gi n (Nat.le_refl _)
  have e3 : D.tup [.int (-(p.getD n 0)), .int 1] = fr ((-(p.getD n 0) : Int) : Rat) := rfl
  generalize p.getD n 0 = b at *
  simp -implicitDefEqProofs [F_law_height, runM, m_law_height, pad, hlen, g1, two_le, e3, r, -Rat.intCast_neg, e]
theorem v_lside (hp : Pi k n p) (hk : 0 < k) (hd : Sq d (q.map fr)) (hq : q.length = n) (hn : n ≤ 100) (hs : ∀ x ∈ q, Sz i x) (hl : n * (k + i + 1) + 2 + k + i + k ≤ 8000) (ρ : En) : (F_law_side [pl p, d]).R ρ = .ok (sD [sgC (heightR n p q)]) ρ := by
  have h := fun ρ => v_lheight hp hk hd hq hn hs hl ρ
  unfold sgC
  by_cases h1 : 0 < (heightR n p q).num
  · have h0 : ¬ (heightR n p q).num = 0 := by omega
    simp -implicitDefEqProofs only [F_law_side, runM, m_law_side, pad, mCall_R, h, ix0, h1, h0, List.map_cons, List.map_nil, List.cons_append, List.nil_append, List.append_nil, List.length_cons, List.length_nil, if_true, Nat.reduceAdd, Nat.reduceSub, List.replicate, msSeq_ap, msAsg_ap, m2_ap, mVar_ap, mCons_ap, mNil_ap, mK_ap, bind_ok, ret_some, obind_ok, mgName_ap, List.length_cons, Nat.reduceLT, List.set_cons_succ, List.set_cons_zero, List.getElem?_cons_zero, List.getElem?_cons_succ, msIf_ap, mTest_ap, gEq_ii, gGt_ii, asB_bl, decide_false, decide_true, Bool.false_eq_true, if_false, msNil_ap, msRet_ap, mIf_ap, Ret.R_rt]
    rfl
  · by_cases h2 : (heightR n p q).num < 0
    · have h0 : ¬ (heightR n p q).num = 0 := by omega
      simp -implicitDefEqProofs only [F_law_side, runM, m_law_side, pad, mCall_R, h, ix0, h1, h2, h0, List.map_cons, List.map_nil, List.cons_append, List.nil_append, List.append_nil, List.length_cons, List.length_nil, if_true, Nat.reduceAdd, Nat.reduceSub, List.replicate, msSeq_ap, msAsg_ap, m2_ap, mVar_ap, mCons_ap, mNil_ap, mK_ap, bind_ok, ret_some, obind_ok, mgName_ap, List.length_cons, Nat.reduceLT, List.set_cons_succ, List.set_cons_zero, List.getElem?_cons_zero, List.getElem?_cons_succ, msIf_ap, mTest_ap, gEq_ii, gGt_ii, asB_bl, decide_false, decide_true, Bool.false_eq_true, if_false, msNil_ap, msRet_ap, mIf_ap, Ret.R_rt]
      rfl
    · have h0 : (heightR n p q).num = 0 := by omega
      simp -implicitDefEqProofs only [F_law_side, runM, m_law_side, pad, mCall_R, h, ix0, h0, List.map_cons, List.map_nil, List.cons_append, List.nil_append, List.append_nil, List.length_cons, List.length_nil, if_true, Nat.reduceAdd, Nat.reduceSub, List.replicate, msSeq_ap, msAsg_ap, m2_ap, mVar_ap, mCons_ap, mNil_ap, mK_ap, bind_ok, ret_some, obind_ok, mgName_ap, List.length_cons, Nat.reduceLT, List.set_cons_succ, List.set_cons_zero, List.getElem?_cons_zero, List.getElem?_cons_succ, msIf_ap, mTest_ap, gEq_ii, gGt_ii, asB_bl, decide_false, decide_true, Bool.false_eq_true, if_false, msNil_ap, msRet_ap, mIf_ap, Ret.R_rt, Int.lt_irrefl]
      rfl
end
theorem v_lrow {n k i : Nat} {ps : List (List Int)} {q : List Rat} {d dp : D} (hdp : Sq dp (ps.map pl)) (hp : ∀ p ∈ ps, Pi k n p) (hl : ps.length ≤ 1000) (hk : 0 < k) (hd : Sq d (q.map fr)) (hq : q.length = n) (hn : n ≤ 100) (hs : ∀ x ∈ q, Sz i x) (hz : n * (k + i + 1) + 2 + k + i + k ≤ 8000) (ρ : En) : (F_law_row [dp, d]).R ρ = .ok (sD (rowR n ps q)) ρ := by
  have sz := szv
  have e1 : mLc [2] (mIter (mVar 0)) (mgName 2) mYes m_law_row_e0 [some dp, some d, none] = .ok (.lst (ps.map fun p => sD [sgC (heightR n p q)])) [some dp, some d, none] := by
    refine mLc_map (as := ps) (enc := pl) (st := fun p => [some dp, some d, some (pl p)]) (f := fun p => sD [sgC (heightR n p q)]) ?_ (by omega) (fun _ => rfl) (fun a ha => rfl) (fun a ha => ?_)
    · simp [hdp.iter]
    · have := fun ρ => v_lside (hp a ha) hk hd hq hn hs hz ρ
      simp -implicitDefEqProofs [m_law_row_e0, mCall_R, this]
  have e2 := join_cs (rowR n ps q) (by unfold rowR; rw [List.length_map]; omega)
  unfold rowR at e2 ⊢
  rw [List.map_map] at e2
  have e2' : gJoin (.str "") [.lst (ps.map fun p => sD [sgC (heightR n p q)])] = _ := e2
  simp -implicitDefEqProofs [F_law_row, runM, m_law_row, pad, mM, isStr, e1, e2']
end Q
namespace Q
open DL L2 PySem PySem.Spec PyProof.Rows
abbrev dl (l : List Int) : D := .lst (l.map D.int)
theorem fm_rng (x : Int) {m : Int} (h : 0 < m) : 0 ≤ x.fmod m ∧ x.fmod m < m := by
  rw [Int.fmod_eq_emod_of_nonneg _ (by omega)]
  exact ⟨Int.emod_nonneg _ (by omega), Int.emod_lt_of_pos _ h⟩
theorem io_next (l : List Int) (r : En) : mCallIo F_law_next 0 mNil (some (dl l) :: r) = .ok (.int (drawI l)) (some (dl l.dropLast) :: r) := by
  rw [mCallIo_ap, getO_0]
  simp -implicitDefEqProofs [getO_0, e_next, qNext_v]
theorem io_next1 (x : Option D) (l : List Int) (r : En) : mCallIo F_law_next 1 mNil (x :: some (dl l) :: r) = .ok (.int (drawI l)) (x :: some (dl l.dropLast) :: r) := by
  rw [mCallIo_ap, getO_1]
  simp -implicitDefEqProofs [getO_1, e_next, qNext_v]
theorem io_0 {F : FN} {d' : D} {l l' : List Int} {r : En} (e : F [dl l] = .rt d' (dl l')) : mCallIo F 0 mNil (some (dl l) :: r) = .ok d' (some (dl l') :: r) := by
  rw [mCallIo_ap, getO_0]
  simp -implicitDefEqProofs [getO_0, e]
theorem io_1 {F : FN} {d' : D} {l l' : List Int} {x : Option D} {r : En} (e : F [dl l] = .rt d' (dl l')) : mCallIo F 1 mNil (x :: some (dl l) :: r) = .ok d' (x :: some (dl l') :: r) := by
  rw [mCallIo_ap, getO_1]
  simp -implicitDefEqProofs [getO_1, e]
theorem io_0a {F : FN} {d' : D} {l l' : List Int} {r : En} {args : MA} {ds : List D} (ha : args (some (dl l) :: r) = .ok ds (some (dl l) :: r)) (e : F (dl l :: ds) = .rt d' (dl l')) : mCallIo F 0 args (some (dl l) :: r) = .ok d' (some (dl l') :: r) := by
  rw [mCallIo_ap, getO_0, ha]
  simp -implicitDefEqProofs [getO_0, e]
theorem io_1a {F : FN} {d' : D} {l l' : List Int} {x : Option D} {r : En} {args : MA} {ds : List D} (ha : args (x :: some (dl l) :: r) = .ok ds (x :: some (dl l) :: r)) (e : F (dl l :: ds) = .rt d' (dl l')) : mCallIo F 1 args (x :: some (dl l) :: r) = .ok d' (x :: some (dl l') :: r) := by
  rw [mCallIo_ap, getO_1, ha]
  simp -implicitDefEqProofs [getO_1, e]
theorem gMod_p (x : Int) {m : Int} (h : 0 < m) : gMod (.int x) (.int m) = some (.int (x.fmod m)) := gMod_nz (by omega)
section
variable {β : Type} {i : Nat} {me : ME} {P : β → Prop} {enc : β → D} {E : List Int → Option D → En}
theorem lc_io (hs : ∀ l o o', (E l o).set i o' = E l o') (hl : ∀ l o, i < (E l o).length)
    (hm : ∀ l d, ∃ c l', P c ∧ me (E l (some d)) = .ok (enc c) (E l' (some d))) : ∀ (ds : List D) (l : List Int) (o : Option D),
    ∃ (cs : List β) (l' : List Int) (o' : Option D), lcLoop [i] (mgName i) mYes me ds (E l o) = .ok (cs.map enc) (E l' o') ∧ cs.length = ds.length ∧ ∀ c ∈ cs, P c
  | [], l, o => ⟨[], l, o, rfl, rfl, fun c h => nomatch h⟩
  | d :: r, l, o => by
    obtain ⟨c, l1, hc, e1⟩ := hm l d
    obtain ⟨cs, l2, o2, e2, n2, p2⟩ := lc_io hs hl hm r l1 (some d)
    have w : wipeE (E l o) [i] = E l none := hs l o none
    have g1 : mgName i d (E l none) = .ok () (E l (some d)) := by
      rw [mgName_ap, if_pos (hl l none), hs]
    have hY : mYes (E l (some d)) = .ok true (E l (some d)) := rfl
    refine ⟨c :: cs, l2, o2, ?_, by rw [List.length_cons, List.length_cons, n2], fun x hx => ?_⟩
    · simp only [lcLoop, w, g1, hY, e1, e2, List.map_cons]
    · rcases List.mem_cons.mp hx with z | z
      · rw [z]; exact hc
      · exact p2 x z
theorem mLc_io {mi : En → R (List D)} {ρ : En} {l : List Int} {o : Option D} {ds : List D} (hi : mi ρ = .ok ds (E l o)) (hz : ds.length ≤ sizeLine) (hs : ∀ l o o', (E l o).set i o' = E l o') (hl : ∀ l o, i < (E l o).length) (hg : (E l o)[i]? = some o)
    (hm : ∀ l d, ∃ c l', P c ∧ me (E l (some d)) = .ok (enc c) (E l' (some d))) :
    ∃ (cs : List β) (l' : List Int), mLc [i] mi (mgName i) mYes me ρ = .ok (.lst (cs.map enc)) (E l' o) ∧ cs.length = ds.length ∧ ∀ c ∈ cs, P c := by
  obtain ⟨cs, l', o', e, n, p⟩ := lc_io hs hl hm ds l o
  refine ⟨cs, l', ?_, n, p⟩
  have r : restE (E l o) [i] (E l' o') = E l' o := by
    show (E l' o').set i (match (E l o)[i]? with | some o => o | none => none) = _
    rw [hg]
    exact hs _ _ _
  rw [mLc_ap, hi, bind_ok, e]
  show (if (cs.map enc).length ≤ sizeLine then R.ok (D.lst (cs.map enc)) (restE (E l o) [i] (E l' o')) else R.bad) = _
  rw [if_pos (by rw [List.length_map, n]; exact hz), r]
end
theorem gcdL_cons (a : Int) (xs : List Int) (g : Nat) : gcdL (a :: xs) g = gcdL xs (Int.gcd g a) := rfl
theorem gcdL_dvd : ∀ (xs : List Int) (g : Nat), ((gcdL xs g : Nat) : Int) ∣ (g : Int) ∧ ∀ a ∈ xs, ((gcdL xs g : Nat) : Int) ∣ a
  | [], g => ⟨Int.dvd_refl _, fun a h => nomatch h⟩
  | x :: xs, g => by
    obtain ⟨h1, h2⟩ := gcdL_dvd xs (Int.gcd g x)
    rw [gcdL_cons]
    refine ⟨Int.dvd_trans h1 (Int.gcd_dvd_left _ _), fun a ha => ?_⟩
    rcases List.mem_cons.mp ha with rfl | ha
    · exact Int.dvd_trans h1 (Int.gcd_dvd_right _ _)
    · exact h2 a ha
theorem dvd_gcdL {d : Int} : ∀ (xs : List Int) (g : Nat), d ∣ (g : Int) → (∀ a ∈ xs, d ∣ a) → d ∣ ((gcdL xs g : Nat) : Int)
  | [], g, h, _ => h
  | x :: xs, g, h, hx => by
    rw [gcdL_cons]
    exact dvd_gcdL xs _ (Int.dvd_coe_gcd h (hx x List.mem_cons_self)) fun a ha => hx a (List.mem_cons_of_mem _ ha)
theorem gcdL_pos {xs : List Int} {a : Int} (ha : a ∈ xs) (h : a ≠ 0) : 0 < gcdL xs 0 := by
  have := (gcdL_dvd xs 0).2 a ha
  by_cases z : gcdL xs 0 = 0
  · rw [z] at this
    exact absurd (Int.zero_dvd.mp this) h
  · omega
def primL (xs : List Int) : List Int := xs.map fun a => a.fdiv (gcdL xs 0 : Nat)
theorem primL_mul {xs : List Int} {a : Int} (ha : a ∈ xs) : a.fdiv ((gcdL xs 0 : Nat) : Int) * ((gcdL xs 0 : Nat) : Int) = a :=
  Int.fdiv_mul_cancel ((gcdL_dvd xs 0).2 a ha)
theorem gcd_primL {xs : List Int} (h : 0 < gcdL xs 0) : gcdL (primL xs) 0 = 1 := by
  have h1 := gcdL_dvd (primL xs) 0
  have h2 : (((gcdL (primL xs) 0 : Nat) : Int) * ((gcdL xs 0 : Nat) : Int)) ∣ ((gcdL xs 0 : Nat) : Int) := by
    refine dvd_gcdL xs 0 (Int.dvd_zero _) fun a ha => ?_
    have h3 := h1.2 _ (List.mem_map.mpr ⟨a, ha, rfl⟩)
    have h4 := Int.mul_dvd_mul_right ((gcdL xs 0 : Nat) : Int) h3
    rw [primL_mul ha] at h4
    exact h4
  have h5 : gcdL (primL xs) 0 * gcdL xs 0 ∣ gcdL xs 0 := by exact_mod_cast h2
  have h6 := Nat.le_of_dvd h h5
  by_cases z : gcdL (primL xs) 0 = 0
  · rw [z, Nat.zero_mul] at h5
    have := Nat.eq_zero_of_zero_dvd h5
    omega
  · by_cases z2 : gcdL (primL xs) 0 = 1
    · exact z2
    · have : 2 * gcdL xs 0 ≤ gcdL (primL xs) 0 * gcdL xs 0 := Nat.mul_le_mul_right _ (by omega)
      omega
theorem primL_abs {xs : List Int} {b : Int} (hb : b ∈ primL xs) : ∃ a ∈ xs, b.natAbs ≤ a.natAbs := by
  obtain ⟨a, ha, rfl⟩ := List.mem_map.mp hb
  exact ⟨a, ha, Int.natAbs_fdiv_le_natAbs _ _⟩
theorem primL_ne {xs : List Int} {a : Int} (ha : a ∈ xs) (h : a ≠ 0) : a.fdiv ((gcdL xs 0 : Nat) : Int) ≠ 0 := by
  intro z
  have := primL_mul ha
  rw [z, Int.zero_mul] at this
  exact h this.symm
theorem v_fraction (l : List Int) : ∃ (q : Rat) (l' : List Int), F_law_fraction [dl l] = .rt (fr q) (dl l') ∧ Sz 3 q := by
  obtain ⟨r1, r2⟩ := fm_rng (drawI l) (m := 13) (by decide)
  obtain ⟨r3, r4⟩ := fm_rng (drawI l.dropLast) (m := 4) (by decide)
  have hb : (1 + (drawI l.dropLast).fmod 4).natAbs < 2 ^ 3 := by omega
  have ha : ((drawI l).fmod 13 - 6).natAbs < 2 ^ 3 := by omega
  have hv := fun ρ => v_llowest (a := (drawI l).fmod 13 - 6) (b := 1 + (drawI l.dropLast).fmod 4) (by omega) (s8 hb (by decide)) ρ
  refine ⟨Rat.divInt ((drawI l).fmod 13 - 6) (1 + (drawI l.dropLast).fmod 4), l.dropLast.dropLast, ?_, fr_low (by omega) ha hb⟩
  simp -implicitDefEqProofs [F_law_fraction, runM, m_law_fraction, pad, io_next, gMod_p, mCall_R, hv, io0]
end Q
namespace DL
open L2 PySem PySem.Spec PyProof.Rows
def Dw (l : List Int) : Prop := ∀ x ∈ l, 0 ≤ x ∧ x < 1000
theorem Dw.app {a b : List Int} (h : Dw a) (k : Dw b) : Dw (a ++ b) := fun x m => (List.mem_append.mp m).elim (h x) (k x)
theorem dw_fm (n : Int) : Dw [n.fmod 1000] := fun x m => by
  rw [List.mem_singleton] at m
  subst m
  rw [Int.fmod_eq_emod_of_nonneg _ (by decide)]
  exact ⟨Int.emod_nonneg _ (by decide), Int.emod_lt_of_pos _ (by decide)⟩
theorem Dw.rev {l : List Int} (h : Dw l) : Dw l.reverse := fun x m => h x (List.mem_reverse.mp m)
theorem Dw.tail {l : List Int} (h : Dw l) : Dw l.dropLast := fun x m => h x (List.dropLast_subset l m)
theorem Dw.draw {l : List Int} (h : Dw l) : 0 ≤ drawI l ∧ drawI l < 1000 := by
  unfold drawI
  rw [List.getLastD_eq_getLast?]
  cases e : l.getLast? with
  | none => decide
  | some x => exact h x (List.mem_of_getLast? e)
theorem inner_b (s : Option D) (o2 o4 o5 o6 : Option D) : ∀ (ds : List D) (acc : List Int) (n : Int), acc.length + ds.length < sizeLine → Dw acc →
    ∃ (acc' : List Int) (n' : Int) (o4' : Option D), loopL (mgName 4) mqInner ds [s, some (.lst (acc.map .int)), o2, some (.int n), o4, o5, o6] = .nx [s, some (.lst (acc'.map .int)), o2, some (.int n'), o4', o5, o6] ∧ acc'.length ≤ acc.length + ds.length ∧ Dw acc' := by
  intro ds
  induction ds generalizing o4 with
  | nil => exact fun acc n _ w => ⟨acc, n, o4, rfl, Nat.le_refl _, w⟩
  | cons d r ih =>
    intro acc n h w
    rw [List.length_cons] at h
    by_cases hn : n = 0
    · subst hn
      refine ⟨acc, 0, some d, ?_, by omega, w⟩
      simp [loopL, mqInner]
    · obtain ⟨acc', n', o4', e, l, w'⟩ := ih (some d) (acc ++ [n.fmod 1000]) (n.fdiv 1000) (by rw [List.length_append, List.length_singleton]; omega) (w.app (dw_fm n))
      refine ⟨acc', n', o4', ?_, by rw [List.length_append, List.length_singleton] at l; rw [List.length_cons]; omega, w'⟩
      rw [← e]
      have h1 : acc.length < sizeLine := by omega
      have h2 : ∀ x : Int, gDiv (.int x) (.int 1000) = some (.int (x.fdiv 1000)) := fun x => gDiv_sm (j := 10) (by decide) (by decide) (by decide) (by decide)
      simp [loopL, mqInner, hn, getO_1, gAppend, gMod_ii, h1, h2]
theorem body_b (s : Option D) : ∀ (cells acc : List Int) (o2 o3 o4 o5 o6 : Option D), acc.length + 60 * cells.length < sizeLine → Dw acc →
    ∃ (acc' : List Int) (o2' o3' o4' o5' o6' : Option D), loopL (mgName 2) mqBody (cells.map .int) [s, some (.lst (acc.map .int)), o2, o3, o4, o5, o6] = .nx [s, some (.lst (acc'.map .int)), o2', o3', o4', o5', o6'] ∧ acc'.length ≤ acc.length + 60 * cells.length ∧ Dw acc' := by
  intro cells
  induction cells with
  | nil => exact fun acc o2 o3 o4 o5 o6 _ w => ⟨acc, o2, o3, o4, o5, o6, rfl, Nat.le_refl _, w⟩
  | cons c r ih =>
    intro acc o2 o3 o4 o5 o6 h w
    rw [List.length_cons] at h
    rw [List.map_cons]
    by_cases hc : (1000000000000000000 : Int) ≤ (if c < 0 then -c else c)
    · obtain ⟨acc1, n1, o41, e1, l1, w1⟩ := inner_b s (some (.int c)) o4 o5 o6 (rangeL 0 60) acc (if c < 0 then -c else c) (by
        have : (rangeL 0 60).length = 60 := by simp [rangeL]
        omega) w
      have hl : (rangeL 0 60).length = 60 := by simp [rangeL]
      obtain ⟨acc', o2', o3', o4', o5', o6', e, l, w'⟩ := ih acc1 (some (.int c)) (some (.int n1)) o41 o5 o6 (by omega) w1
      refine ⟨acc', o2', o3', o4', o5', o6', ?_, by rw [List.length_cons]; omega, w'⟩
      rw [← e]
      have ok60 : okR 60 = true := by decide
      have e1' : loopL (mgName 4) mqInner (rangeL 0 60) [s, some (.lst (acc.map .int)), some (.int c), some (.int (if c < 0 then -c else c)), o4, o5, o6] = _ := e1
      have t60 : Int.toNat 60 = 60 := rfl
      simp only [loopL]
      simp [mqBody, mCall_R, qNumber_v, hc, ok60, e1']
    · have hs : (if c < 0 then -c else c).natAbs < 2 ^ 60 := by
        split <;> split at hc <;> omega
      have m1 := gMul_sm (a := if c < 0 then -c else c) (b := 48271) (i := 60) (j := 20) hs (by decide) (by decide) (by decide) (by decide)
      have p1 : ∀ x : Int, (x.fmod 2147483647).natAbs < 2 ^ 60 := fun x => by
        rw [Int.fmod_eq_emod_of_nonneg _ (by decide)]
        omega
      have m2' := fun x : Int => gMul_sm (a := x.fmod 2147483647) (b := 69621) (i := 60) (j := 20) (p1 x) (by decide) (by decide) (by decide) (by decide)
      obtain ⟨acc', o2', o3', o4', o5', o6', e, l, w'⟩ := ih (acc ++ [(if c < 0 then -c else c).fmod 1000, ((((if c < 0 then -c else c) * 48271 + 11).fmod 2147483647)).fmod 1000, ((((((if c < 0 then -c else c) * 48271 + 11).fmod 2147483647) * 69621 + (if c < 0 then -c else c)).fmod 2147483629)).fmod 1000])
        (some (.int c)) (some (.int (if c < 0 then -c else c))) o4 (some (.int (((if c < 0 then -c else c) * 48271 + 11).fmod 2147483647))) (some (.int (((((if c < 0 then -c else c) * 48271 + 11).fmod 2147483647) * 69621 + (if c < 0 then -c else c)).fmod 2147483629))) (by simp; omega) (w.app (((dw_fm _).app (dw_fm _)).app (dw_fm _)))
      refine ⟨acc', o2', o3', o4', o5', o6', ?_, by simp at l; rw [List.length_cons]; omega, w'⟩
      rw [← e]
      have h3 : 3 ≤ sizeLine := by decide
      have h4 : acc.length + 3 ≤ sizeLine := by omega
      simp only [loopL]
      simp [mqBody, mCall_R, qNumber_v, hc, m1, m2', gMod_ii, getO_1, gExtend, h3, h4]
theorem qDraws_b (zs : List Int) (h : zs.length ≤ 63) : ∃ l : List Int, Dw l ∧ ∀ ρ, (qDraws [.scr (zs.map .int)]).R ρ = .ok (.lst (l.map .int)) ρ := by
  have hz : sizeLine = 16777216 := by decide
  obtain ⟨acc', o2', o3', o4', o5', o6', e, l, w⟩ := body_b (some (.scr (zs.map .int))) zs [] none none none none none (by simp; omega) (fun _ h => nomatch h)
  refine ⟨acc', w, fun ρ => ?_⟩
  have e' : loopL (mgName 2) mqBody (zs.map .int) [some (.scr (zs.map .int)), some (.lst []), none, none, none, none, none] = _ := e
  have h0 : 0 ≤ sizeLine := by decide
  simp [qDraws, runM, mqDraws, pad, gIter, h0, e', getO_1]
end DL
namespace Q
open DL L2 PySem PySem.Spec PyProof.Rows
section
variable {n : Nat} {pt : List Int}
abbrev Sp (n : Nat) (pt : List Int) (l row : List Int) (o4 o5 o6 o7 o8 : Option D) : En := [some (dl l), some (.int n), some (dl pt), some (dl row), o4, o5, o6, o7, o8]
abbrev rows (k : Int) (n : Nat) (row : List Int) : Prop := row.length = n ∧ ∀ a ∈ row, -k ≤ a ∧ a ≤ k
theorem lp1 (hn : n ≤ 4) (l : List Int) : ∃ (l' row : List Int), m_law_plane_s1 [some (dl l), some (.int n), some (dl pt), none, none, none, none, none, none] = .nx (Sp n pt l' row none none none none none) ∧ rows 3 n row := by
  have sz := szv
  obtain ⟨cs, l', e, hl, hp⟩ := mLc_io (i := 4) (me := m_law_plane_e0) (P := fun a : Int => -3 ≤ a ∧ a ≤ 3) (enc := D.int) (mi := mItN gRange1 (mCons (mVar 1) mNil)) (E := fun l o => [some (dl l), some (.int n), some (dl pt), none, o, none, none, none, none]) (ρ := [some (dl l), some (.int n), some (dl pt), none, none, none, none, none, none]) (l := l) (o := none) (ds := (List.range n).map fun i => D.int (i : Nat))
    (by simp -implicitDefEqProofs [range1 (n := n) (by omega), -gRange1_i]) (by rw [List.length_map, List.length_range]; omega) (fun _ _ _ => rfl) (fun l o => (by show 4 < 9; decide)) rfl (fun l d => by
      obtain ⟨r1, r2⟩ := fm_rng (drawI l) (m := 7) (by decide)
      refine ⟨(drawI l).fmod 7 - 3, l.dropLast, ⟨by omega, by omega⟩, ?_⟩
      simp -implicitDefEqProofs [m_law_plane_e0, io_next, gMod_p])
  rw [List.length_map, List.length_range] at hl
  refine ⟨l', cs, ?_, hl, hp⟩
  simp -implicitDefEqProofs [m_law_plane_s1, e]
theorem ix_dl {row : List Int} {j : Nat} (h : j < row.length) : gIx (dl row) (.int (j : Int)) = some (.int (row.getD j 0)) := by
  show L2.atI (row.map D.int) (j : Int) = _
  rw [atI_nat' _ j (by rw [List.length_map]; exact h), List.getElem_map]
  simp [List.getD, h]
theorem getD_mem {row : List Int} {j : Nat} (h : j < row.length) : row.getD j 0 ∈ row := by
  have : row.getD j 0 = row[j] := by simp [List.getD, h]
  rw [this]
  exact List.getElem_mem _
theorem lp3 (h1 : 1 ≤ n) (hn : n ≤ 4) (l row : List Int) (hr : rows 3 n row) : ∃ (l' row' : List Int) (o5 : Option D), m_law_plane_s3 (Sp n pt l row none none none none none) = .nx (Sp n pt l' row' none o5 none none none) ∧ rows 3 n row' := by
  have sz := szv
  by_cases c : (drawI l).fmod 3 = 0
  · obtain ⟨r1, r2⟩ := fm_rng (drawI l.dropLast) (m := (n : Int)) (by omega)
    have hg := gMod_p (drawI l.dropLast) (m := (n : Int)) (by omega)
    have e := mLc_map (vs := [4]) (g := mgName 4) (me := m_law_plane_e2) (mi := mItN gRange1 (mCons (mVar 1) mNil)) (as := List.range n) (enc := fun i => D.int (i : Nat))
      (ρ0 := Sp n pt l.dropLast.dropLast row none (some (.int ((drawI l.dropLast).fmod n))) none none none) (ρ := Sp n pt l.dropLast.dropLast row none (some (.int ((drawI l.dropLast).fmod n))) none none none)
      (st := fun i => Sp n pt l.dropLast.dropLast row (some (.int (i : Nat))) (some (.int ((drawI l.dropLast).fmod n))) none none none)
      (f := fun (i : Nat) => D.int (if (i : Int) = (drawI l.dropLast).fmod n then row.getD i 0 else 0))
      (by simp -implicitDefEqProofs [range1 (n := n) (by omega), -gRange1_i]) (by rw [List.length_range]; omega) (fun _ => rfl) (fun a _ => rfl) (fun a ha => by
        have ix := ix_dl (row := row) (j := a) (by rw [hr.1]; exact List.mem_range.mp ha)
        by_cases z : (a : Int) = (drawI l.dropLast).fmod n
        · have ix' : L2.atI (row.map D.int) (a : Int) = some (.int (row.getD a 0)) := ix
          generalize row.getD a 0 = x at *
          rw [← z]
          simp -implicitDefEqProofs [m_law_plane_e2, m2B, evB, rdB, getO_ap, ix']
        · simp -implicitDefEqProofs [m_law_plane_e2, z])
    have em : (List.range n).map (fun (i : Nat) => D.int (if (i : Int) = (drawI l.dropLast).fmod n then row.getD i 0 else 0)) = ((List.range n).map fun (i : Nat) => if (i : Int) = (drawI l.dropLast).fmod n then row.getD i 0 else 0).map D.int := by rw [List.map_map]; rfl
    rw [em] at e
    refine ⟨l.dropLast.dropLast, (List.range n).map fun (i : Nat) => if (i : Int) = (drawI l.dropLast).fmod n then row.getD i 0 else 0, some (.int ((drawI l.dropLast).fmod n)), ?_, by rw [List.length_map, List.length_range], fun a ha => ?_⟩
    · generalize (List.range n).map (fun (i : Nat) => if (i : Int) = (drawI l.dropLast).fmod n then row.getD i 0 else 0) = R at e ⊢
      simp -implicitDefEqProofs [m_law_plane_s3, io_next, gMod_p, c, hg, e]
    · obtain ⟨j, hj, rfl⟩ := List.mem_map.mp ha
      split
      · exact hr.2 _ (getD_mem (by rw [hr.1]; exact List.mem_range.mp hj))
      · omega
  · refine ⟨l.dropLast, row, none, ?_, hr⟩
    simp -implicitDefEqProofs [m_law_plane_s3, io_next, gMod_p, c]
theorem any_ne (row : List Int) (ρ : En) (i : Nat) : True := trivial
theorem gSet_dl {row : List Int} {j : Nat} (h : j < row.length) (v : Int) : gSet (dl row) (.int (j : Int)) (.int v) = some (dl (row.set j v)) := by
  unfold gSet
  have : L2.ixN (row.map D.int).length (j : Int) = some j := by
    unfold L2.ixN
    simp [h]
  show (L2.ixN (row.map D.int).length (j : Int)).map _ = _
  rw [this]
  show some (D.lst ((row.map D.int).set j (.int v))) = _
  rw [← List.map_set]
theorem lp5 (h1 : 1 ≤ n) (hn : n ≤ 4) (l row : List Int) (o5 : Option D) (hr : rows 3 n row) : ∃ (l' row' : List Int), m_law_plane_s5 (Sp n pt l row none o5 none none none) = .nx (Sp n pt l' row' none o5 none none none) ∧ rows 3 n row' ∧ ∃ a ∈ row', a ≠ 0 := by
  have sz := szv
  have e := mLc_map (vs := [6]) (g := mgName 6) (me := m_law_plane_e4) (mi := mIter (mVar 3)) (as := row) (enc := D.int)
      (ρ0 := Sp n pt l row none o5 none none none) (ρ := Sp n pt l row none o5 none none none)
      (st := fun a => Sp n pt l row none o5 (some (.int a)) none none) (f := fun a => .bl (!decide (a = 0)))
      (by simp [gIter]) (by rw [hr.1]; omega) (fun _ => rfl) (fun a _ => rfl) (fun a ha => by simp -implicitDefEqProofs [m_law_plane_e4])
  have g := gAny_map (fun a : Int => !decide (a = 0)) row
  cases hb : row.any (fun a : Int => !decide (a = 0)) with
  | true =>
    rw [hb] at g
    obtain ⟨a, ha, hne⟩ := List.any_eq_true.mp hb
    refine ⟨l, row, ?_, hr, a, ha, by simpa using hne⟩
    simp -implicitDefEqProofs [m_law_plane_s5, mPureT, e, g]
  | false =>
    rw [hb] at g
    obtain ⟨r1, r2⟩ := fm_rng (drawI l) (m := (n : Int)) (by omega)
    have hg := gMod_p (drawI l) (m := (n : Int)) (by omega)
    obtain ⟨j, hj⟩ : ∃ j : Nat, (drawI l).fmod n = (j : Int) := ⟨((drawI l).fmod n).toNat, by omega⟩
    rw [hj] at hg r2
    have hjl : j < row.length := by rw [hr.1]; omega
    have gs := gSet_dl hjl 1
    refine ⟨l.dropLast, row.set j 1, ?_, ⟨by rw [List.length_set]; exact hr.1, fun a ha => ?_⟩, 1, List.mem_set hjl 1, by decide⟩
    · simp -implicitDefEqProofs [m_law_plane_s5, mPureT, e, g, mgSub, getO_ap, io_next, hg, gs]
    · rcases List.mem_or_eq_of_mem_set ha with h | h
      · exact hr.2 a h
      · omega
theorem gSum_ints (xs : List Int) : gSum [.lst (xs.map D.int)] = some (.int xs.sum) := by
  have : ∀ xs : List Int, asInts (xs.map D.int) = some xs := by
    intro xs
    induction xs with
    | nil => rfl
    | cons a xs ih =>
      rw [List.map_cons]
      unfold asInts
      rw [ih]
      rfl
  show (asInts _).map _ = _
  rw [this]
  rfl
theorem sum_bound {k : Nat} : ∀ (xs : List Int), (∀ a ∈ xs, a.natAbs ≤ k) → xs.sum.natAbs ≤ xs.length * k
  | [], _ => by simp
  | a :: xs, h => by
    have h1 := sum_bound xs fun z hz => h z (List.mem_cons_of_mem _ hz)
    have h2 := h a List.mem_cons_self
    rw [List.sum_cons, List.length_cons, Nat.succ_mul]
    omega
theorem lp8 (hn : n ≤ 4) (hpt : rows 2 n pt) (l row : List Int) (o5 : Option D) (b : Int) (hb : b.natAbs ≤ 24) (hr : rows 3 n row) : ∃ (l' : List Int) (b' : Int), m_law_plane_s8 (Sp n pt l row none o5 none (some (.int b)) none) = .nx (Sp n pt l' row none o5 none (some (.int b')) none) ∧ b'.natAbs ≤ 24 := by
  have sz := szv
  by_cases c : (drawI l).fmod 2 = 0
  · have e := mLc_map (vs := [4]) (g := mgName 4) (me := m_law_plane_e7) (mi := mItN gRange1 (mCons (mVar 1) mNil)) (as := List.range n) (enc := fun i => D.int (i : Nat))
      (ρ0 := Sp n pt l.dropLast row none o5 none (some (.int b)) none) (ρ := Sp n pt l.dropLast row none o5 none (some (.int b)) none)
      (st := fun i => Sp n pt l.dropLast row (some (.int (i : Nat))) o5 none (some (.int b)) none) (f := fun i => D.int (row.getD i 0 * pt.getD i 0))
      (by simp -implicitDefEqProofs [range1 (n := n) (by omega), -gRange1_i]) (by rw [List.length_range]; omega) (fun _ => rfl) (fun a _ => rfl) (fun a ha => by
        have hj := List.mem_range.mp ha
        have i1 := ix_dl (row := row) (j := a) (by rw [hr.1]; exact hj)
        have i2 := ix_dl (row := pt) (j := a) (by rw [hpt.1]; exact hj)
        have b1 := hr.2 _ (getD_mem (row := row) (j := a) (by rw [hr.1]; exact hj))
        have b2 := hpt.2 _ (getD_mem (row := pt) (j := a) (by rw [hpt.1]; exact hj))
        have gm := gMul_sm (a := row.getD a 0) (b := pt.getD a 0) (i := 4) (j := 4) (by omega) (by omega) (by decide) (by decide) (by decide)
        generalize row.getD a 0 = x at *
        generalize pt.getD a 0 = y at *
        simp -implicitDefEqProofs [m_law_plane_e7, m2B, evB, rdB, getO_ap, i1, i2, gm])
    have em : (List.range n).map (fun i => D.int (row.getD i 0 * pt.getD i 0)) = ((List.range n).map fun i => row.getD i 0 * pt.getD i 0).map D.int := by rw [List.map_map]; rfl
    rw [em] at e
    have gs := gSum_ints ((List.range n).map fun i => row.getD i 0 * pt.getD i 0)
    have bd := sum_bound (k := 6) ((List.range n).map fun i => row.getD i 0 * pt.getD i 0) (fun a ha => by
      obtain ⟨j, hj, rfl⟩ := List.mem_map.mp ha
      have hj := List.mem_range.mp hj
      have b1 := hr.2 _ (getD_mem (row := row) (j := j) (by rw [hr.1]; exact hj))
      have b2 := hpt.2 _ (getD_mem (row := pt) (j := j) (by rw [hpt.1]; exact hj))
      rw [Int.natAbs_mul]
      have : (row.getD j 0).natAbs * (pt.getD j 0).natAbs ≤ 3 * 2 := Nat.mul_le_mul (by omega) (by omega)
      omega)
    rw [List.length_map, List.length_range] at bd
    generalize (List.range n).map (fun i => row.getD i 0 * pt.getD i 0) = R at *
    refine ⟨l.dropLast, R.sum, ?_, by have := Nat.mul_le_mul_right 6 hn; omega⟩
    simp -implicitDefEqProofs [m_law_plane_s8, io_next, gMod_p, c, e, gs]
  · refine ⟨l.dropLast, b, ?_, hb⟩
    simp -implicitDefEqProofs [m_law_plane_s8, io_next, gMod_p, c]
theorem v_ldiv (g : Nat) (a : Int) (h : a.natAbs < 2 ^ 100) (ρ : En) : (F_law_divisor [.int (g : Int), .int a]).R ρ = .ok (.int (Int.gcd g a : Nat)) ρ := by
  rw [e_ldiv]
  exact qLDivisor_v (g : Int) a (sm_up h (by decide)) ρ
theorem lp12g {F : FN} (hv : ∀ (g : Nat) (a : Int) (h : a.natAbs < 2 ^ 100) (ρ : En), (F [.int (g : Int), .int a]).R ρ = .ok (.int (Int.gcd g a : Nat)) ρ) (l row : List Int) (o4 o5 o7 : Option D) (hr : ∀ a ∈ row, a.natAbs < 2 ^ 100) : ∃ o6, loopL (mgName 6) (msAsg (mCall F (mCons (mVar 8) (mCons (mVar 6) mNil))) (mgName 8)) (row.map D.int) (Sp n pt l row o4 o5 none o7 (some (.int 0))) = .nx (Sp n pt l row o4 o5 o6 o7 (some (.int (gcdL row 0 : Nat)))) := by
  have gen : ∀ (ys : List Int) (g : Nat) (o6 : Option D), (∀ a ∈ ys, a.natAbs < 2 ^ 100) → ∃ o6', loopL (mgName 6) (msAsg (mCall F (mCons (mVar 8) (mCons (mVar 6) mNil))) (mgName 8)) (ys.map D.int) (Sp n pt l row o4 o5 o6 o7 (some (.int (g : Int)))) = .nx (Sp n pt l row o4 o5 o6' o7 (some (.int (gcdL ys g : Nat)))) := by
    intro ys
    induction ys with
    | nil => exact fun g o _ => ⟨o, rfl⟩
    | cons a ys ih =>
      intro g o hy
      obtain ⟨o', e⟩ := ih (Int.gcd g a) (some (.int a)) fun z hz => hy z (List.mem_cons_of_mem _ hz)
      refine ⟨o', ?_⟩
      have hv := fun ρ => hv g a (hy a List.mem_cons_self) ρ
      rw [List.map_cons]
      simp -implicitDefEqProofs [loopL, mCall_R, hv]
      exact e
  exact gen row 0 none hr
theorem lp12 (l row : List Int) (o4 o5 o7 : Option D) (hr : ∀ a ∈ row, a.natAbs < 2 ^ 100) : ∃ o6, loopL (mgName 6) m_law_plane_b11 (row.map D.int) (Sp n pt l row o4 o5 none o7 (some (.int 0))) = .nx (Sp n pt l row o4 o5 o6 o7 (some (.int (gcdL row 0 : Nat)))) :=
  lp12g v_ldiv l row o4 o5 o7 hr
theorem seq_nx {a b : MS} {ρ ρ1 : En} (h : a ρ = .nx ρ1) : msSeq a b ρ = b ρ1 := by rw [msSeq_ap, h]
theorem seq_rt {a b : MS} {ρ ρ1 : En} {d : D} (h : a ρ = .rt d ρ1) : msSeq a b ρ = .rt d ρ1 := by rw [msSeq_ap, h]
theorem seq_ex {a b : MS} {ρ ρ1 : En} {x : Xn} (h : a ρ = .ex x ρ1) : msSeq a b ρ = .ex x ρ1 := by rw [msSeq_ap, h]
theorem runM_rt {n np : Nat} {dd : List D} {fr : Bool} {m : MS} {ds : List D} {d : D} {ρ : En} (hl : (ds ++ dd).length = np) (h : m (pad n (ds ++ dd)) = .rt d ρ) : runM n np dd fr m ds = .rt d (io0 ρ) := by
  unfold runM
  rw [if_pos hl, h]
theorem runM_ex {n np : Nat} {dd : List D} {fr : Bool} {m : MS} {ds : List D} {x : Xn} {ρ : En} (hl : (ds ++ dd).length = np) (h : m (pad n (ds ++ dd)) = .ex x ρ) : runM n np dd fr m ds = .ex x (io0 ρ) := by
  unfold runM
  rw [if_pos hl, h]
theorem runM_nx {n np : Nat} {dd : List D} {m : MS} {ds : List D} {ρ : En} (hl : (ds ++ dd).length = np) (h : m (pad n (ds ++ dd)) = .nx ρ) : runM n np dd false m ds = .rt .non (io0 ρ) := by
  unfold runM
  rw [if_pos hl, h]
  rfl
theorem v_plane (h1 : 1 ≤ n) (hn : n ≤ 4) (hpt : rows 2 n pt) (l : List Int) : ∃ (p l' : List Int), F_law_plane [dl l, .int n, dl pt] = .rt (pl p) (dl l') ∧ isPl n p = true ∧ Pi 5 n p := by
  have sz := szv
  obtain ⟨l1, r1, e1, h1'⟩ := lp1 (pt := pt) hn l
  obtain ⟨l2, r2, o5, e2, h2⟩ := lp3 (pt := pt) h1 hn l1 r1 h1'
  obtain ⟨l3, r3, e3, h3, a0, ha0, hne⟩ := lp5 (pt := pt) h1 hn l2 r2 o5 h2
  obtain ⟨q1, q2⟩ := fm_rng (drawI l3) (m := 9) (by decide)
  obtain ⟨l4, b, e4, hb⟩ := lp8 (pt := pt) hn hpt l3.dropLast r3 o5 ((drawI l3).fmod 9 - 4) (by omega) h3
  have hall : ∀ a ∈ r3 ++ [b], a.natAbs ≤ 24 := by
    intro a ha
    rcases List.mem_append.mp ha with h | h
    · have := h3.2 a h; omega
    · rw [List.mem_singleton.mp h]; exact hb
  obtain ⟨o6, e5⟩ := lp12 (n := n) (pt := pt) l4 (r3 ++ [b]) none o5 (some (.int b)) (fun a ha => Nat.lt_of_le_of_lt (hall a ha) (by decide))
  have gp : 0 < gcdL (r3 ++ [b]) 0 := gcdL_pos (List.mem_append_left _ ha0) hne
  have glt : gcdL (r3 ++ [b]) 0 ≤ 24 := by
    have := (gcdL_dvd (r3 ++ [b]) 0).2 a0 (List.mem_append_left _ ha0)
    have h5 := Int.natAbs_dvd_natAbs.mpr this
    have := Nat.le_of_dvd (by omega) h5
    have := hall a0 (List.mem_append_left _ ha0)
    simp only [Int.natAbs_natCast] at *
    omega
  have e6 := mLc_map (vs := [6]) (g := mgName 6) (me := m2 gDiv (mVar 6) (mVar 8)) (mi := mIter (mVar 3)) (as := r3 ++ [b]) (enc := D.int)
      (ρ0 := Sp n pt l4 (r3 ++ [b]) none o5 o6 (some (.int b)) (some (.int (gcdL (r3 ++ [b]) 0 : Nat)))) (ρ := Sp n pt l4 (r3 ++ [b]) none o5 o6 (some (.int b)) (some (.int (gcdL (r3 ++ [b]) 0 : Nat))))
      (st := fun a => Sp n pt l4 (r3 ++ [b]) none o5 (some (.int a)) (some (.int b)) (some (.int (gcdL (r3 ++ [b]) 0 : Nat)))) (f := fun a => D.int (a.fdiv (gcdL (r3 ++ [b]) 0 : Nat)))
      (by simp [gIter]) (by rw [List.length_append, h3.1, List.length_singleton]; omega) (fun _ => rfl) (fun a _ => rfl) (fun a ha => by
        have := gDiv_sm (a := a) (b := ((gcdL (r3 ++ [b]) 0 : Nat) : Int)) (j := 10) (by omega) (by omega) (by decide) (by decide)
        simp -implicitDefEqProofs [this])
  have em : (r3 ++ [b]).map (fun a => D.int (a.fdiv (gcdL (r3 ++ [b]) 0 : Nat))) = (primL (r3 ++ [b])).map D.int := by unfold primL; rw [List.map_map]; rfl
  rw [em] at e6
  have ptup : gTuple [D.lst ((primL (r3 ++ [b])).map D.int)] = some (pl (primL (r3 ++ [b]))) := rfl
  have hsz : r3.length < sizeLine := by rw [h3.1]; omega
  refine ⟨primL (r3 ++ [b]), l4, ?_, ?_, ?_⟩
  · have ap : gAppend (r3.map D.int) [.int b] = some (.non, (r3 ++ [b]).map D.int) := by
      show (if (r3.map D.int).length < sizeLine then _ else _) = _
      rw [if_pos (by rw [List.length_map]; exact hsz), List.map_append]
      rfl
    generalize hX : r3 ++ [b] = X at *
    have s9 : m_law_plane_s9 (Sp n pt l4 r3 none o5 none (some (.int b)) none) = .nx (Sp n pt l4 X none o5 none (some (.int b)) none) := by
      simp -implicitDefEqProofs [m_law_plane_s9, getO_ap, ap]
    have s6 : m_law_plane_s6 (Sp n pt l3 r3 none o5 none none none) = .nx (Sp n pt l3.dropLast r3 none o5 none (some (.int ((drawI l3).fmod 9 - 4))) none) := by
      simp -implicitDefEqProofs [m_law_plane_s6, io_next, gMod_p]
    have s10 : m_law_plane_s10 (Sp n pt l4 X none o5 none (some (.int b)) none) = .nx (Sp n pt l4 X none o5 none (some (.int b)) (some (.int 0))) := by
      simp -implicitDefEqProofs [m_law_plane_s10]
    have s12 : m_law_plane_s12 (Sp n pt l4 X none o5 none (some (.int b)) (some (.int 0))) = .nx (Sp n pt l4 X none o5 o6 (some (.int b)) (some (.int (gcdL X 0 : Nat)))) := by
      unfold m_law_plane_s12
      generalize m_law_plane_b11 = B at *
      have gi : gIter (dl X) = some (X.map D.int) := rfl
      rw [msFor_ap, mIter_ap, mVar_ap]
      show obind ((DL.ret (gIter (dl X)) _)) _ = _
      rw [gi]
      exact e5
    have s13 : m_law_plane_s13 (Sp n pt l4 X none o5 o6 (some (.int b)) (some (.int (gcdL X 0 : Nat)))) = .rt (pl (primL X)) (Sp n pt l4 X none o5 o6 (some (.int b)) (some (.int (gcdL X 0 : Nat)))) := by
      simp -implicitDefEqProofs [m_law_plane_s13, e6, ptup]
    refine runM_rt (ρ := Sp n pt l4 X none o5 o6 (some (.int b)) (some (.int (gcdL X 0 : Nat)))) rfl ?_
    show m_law_plane [some (dl l), some (.int n), some (dl pt), none, none, none, none, none, none] = _
    unfold m_law_plane
    rw [msForget_ap]
    show msSeq m_law_plane_s1 _ [some (dl l), some (.int n), some (dl pt), none, none, none, none, none, none] = _
    rw [seq_nx e1, seq_nx e2, seq_nx e3, seq_nx s6, seq_nx e4, seq_nx s9, seq_nx s10, seq_nx s12]
    exact s13
  · unfold isPl
    simp only [Bool.and_eq_true, decide_eq_true_eq, List.all_eq_true, List.any_eq_true]
    refine ⟨⟨⟨by unfold primL; rw [List.length_map, List.length_append, h3.1, List.length_singleton], fun x hx => ?_⟩, gcd_primL gp⟩, a0.fdiv (gcdL (r3 ++ [b]) 0 : Nat), ?_, primL_ne (List.mem_append_left _ ha0) hne⟩
    · obtain ⟨a, ha, hle⟩ := primL_abs hx
      have := hall a ha
      omega
    · unfold primL
      rw [List.map_append, List.take_left' (by rw [List.length_map, h3.1])]
      exact List.mem_map.mpr ⟨a0, ha0, rfl⟩
  · refine ⟨by unfold primL; rw [List.length_map, List.length_append, h3.1, List.length_singleton], fun x hx => ?_⟩
    obtain ⟨a, ha, hle⟩ := primL_abs hx
    have := hall a ha
    omega
end
end Q
namespace K26
open DL L2 PySem PySem.Spec PyProof.Rows
abbrev prog : Program := PySem.Challenge.pw_planeworth_k26_families
def top (i : Nat) : Stmt := prog.main.body.getD i (.Pass ⟨0, 0, 0, 0⟩)
abbrev s_law_number : Stmt := top 59
abbrev s_law_draws : Stmt := top 60
abbrev sall_pairs : Stmt := top 48
abbrev swritten : Stmt := top 49
abbrev smirror_rows : Stmt := top 50
abbrev sstep_plane : Stmt := top 44
abbrev scheck_letters : Stmt := top 31
abbrev sdivisor : Stmt := top 12
abbrev sis_plane : Stmt := top 32
abbrev sother_way : Stmt := top 34
abbrev sare_planes : Stmt := top 35
abbrev sPlanes_init : Stmt := (cbody (top 36)).getD 0 (.Pass ⟨0, 0, 0, 0⟩)
abbrev sGraph_planes : Stmt := (cbody (top 43)).getD 5 (.Pass ⟨0, 0, 0, 0⟩)
abbrev sis_step : Stmt := top 42
abbrev sGraph_init : Stmt := (cbody (top 43)).getD 0 (.Pass ⟨0, 0, 0, 0⟩)
abbrev sfamily : Stmt := top 51
abbrev s_law_pairs : Stmt := top 63
abbrev s_law_unit : Stmt := top 62
abbrev s_law_gains : Stmt := top 64
abbrev s_law_due : Stmt := top 65
abbrev slowest : Stmt := top 13
abbrev sinverted : Stmt := top 18
abbrev smultiplied : Stmt := top 16
abbrev snegated : Stmt := top 17
abbrev ssummed : Stmt := top 15
abbrev slessened : Stmt := top 24
abbrev sreduced : Stmt := top 25
abbrev sinverse_of : Stmt := top 26
abbrev sis_number : Stmt := top 14
abbrev sis_row_of : Stmt := top 23
abbrev sMove_init : Stmt := (cbody (top 54)).getD 0 (.Pass ⟨0, 0, 0, 0⟩)
abbrev smirror_of : Stmt := top 56
abbrev snumbers_of : Stmt := top 37
abbrev swithout_divisor : Stmt := top 20
abbrev scleared_row : Stmt := top 21
abbrev sdot : Stmt := top 19
abbrev sMove_led : Stmt := (cbody (top 54)).getD 5 (.Pass ⟨0, 0, 0, 0⟩)
abbrev sis_closed : Stmt := top 57
abbrev s_law_most : Stmt := top 66
abbrev s_law_refused : Stmt := top 67
abbrev s_law_next : Stmt := top 61
abbrev sPlanes_planes : Stmt := (cbody (top 36)).getD 3 (.Pass ⟨0, 0, 0, 0⟩)
abbrev sPlanes_len : Stmt := (cbody (top 36)).getD 1 (.Pass ⟨0, 0, 0, 0⟩)
abbrev slaw : Stmt := top 68
abbrev cMOST_ENTRY : Int := 1000
abbrev cMOST_GAIN : Int := 9
abbrev cMOST_LETTERS : Int := 4
abbrev cMOST_PLANES : Int := 12
abbrev cMOST_STEPS : Int := 12
abbrev cMOST_VERTEX : Int := 4
abbrev cONE_d : List He.Dv := [.int 1, .int 1]
abbrev cONE : List D := [.int 1, .int 1]
theorem cONE_rp {K : PySem.W.Frag} (A : Addr → Prop) (H : Hp) : RpA K A H (cONE_d.map (He.Dv.v K)) cONE := (.cons (.int _) (.cons (.int _) .nil))
abbrev cZERO_d : List He.Dv := [.int 0, .int 1]
abbrev cZERO : List D := [.int 0, .int 1]
theorem cZERO_rp {K : PySem.W.Frag} (A : Addr → Prop) (H : Hp) : RpA K A H (cZERO_d.map (He.Dv.v K)) cZERO := (.cons (.int _) (.cons (.int _) .nil))
abbrev tGAINS : Tb := [("parking", .tup [.int 0, .int (-1)]), ("ballot", .tup [.int (-1), .int 0, .int 1]), ("apart", .tup [.int (-1), .int 1]), ("above", .tup [.int 1])]
abbrev tRANGES : Tb := [("axes", .tup [.int 1, .int 4]), ("pairs", .tup [.int 1, .int 4]), ("even", .tup [.int 1, .int 4]), ("signs", .tup [.int 1, .int 3]), ("six", .tup [.int 3, .int 3]), ("parking", .tup [.int 1, .int 3]), ("ballot", .tup [.int 1, .int 2]), ("apart", .tup [.int 1, .int 3]), ("above", .tup [.int 1, .int 4])]
structure Fc (w : World) (K : PySem.W.Frag) (mg : Str → Option Value) : Prop where
  g_BadNumber : mg "BadNumber" = some (.ref (He.ga K "BadNumber"))
  g_GAINS : mg "GAINS" = some (.ref (He.ga K "GAINS"))
  g_Graph : mg "Graph" = some (.ref (He.ga K "Graph"))
  g_Move : mg "Move" = some (.ref (He.ga K "Move"))
  g_NotGraph : mg "NotGraph" = some (.ref (He.ga K "NotGraph"))
  g_NotMatrix : mg "NotMatrix" = some (.ref (He.ga K "NotMatrix"))
  g_NotPlanes : mg "NotPlanes" = some (.ref (He.ga K "NotPlanes"))
  g_NotPoint : mg "NotPoint" = some (.ref (He.ga K "NotPoint"))
  g_ONE : mg "ONE" = some (.ref (He.ga K "ONE"))
  g_PlaneError : mg "PlaneError" = some (.ref (He.ga K "PlaneError"))
  g_Planes : mg "Planes" = some (.ref (He.ga K "Planes"))
  g_RANGES : mg "RANGES" = some (.ref (He.ga K "RANGES"))
  g_TooLarge : mg "TooLarge" = some (.ref (He.ga K "TooLarge"))
  g_ZERO : mg "ZERO" = some (.ref (He.ga K "ZERO"))
  g__law_draws : mg "_law_draws" = some (.ref (He.ga K "_law_draws"))
  g__law_due : mg "_law_due" = some (.ref (He.ga K "_law_due"))
  g__law_gains : mg "_law_gains" = some (.ref (He.ga K "_law_gains"))
  g__law_most : mg "_law_most" = some (.ref (He.ga K "_law_most"))
  g__law_next : mg "_law_next" = some (.ref (He.ga K "_law_next"))
  g__law_number : mg "_law_number" = some (.ref (He.ga K "_law_number"))
  g__law_pairs : mg "_law_pairs" = some (.ref (He.ga K "_law_pairs"))
  g__law_refused : mg "_law_refused" = some (.ref (He.ga K "_law_refused"))
  g__law_unit : mg "_law_unit" = some (.ref (He.ga K "_law_unit"))
  g_all_pairs : mg "all_pairs" = some (.ref (He.ga K "all_pairs"))
  g_are_planes : mg "are_planes" = some (.ref (He.ga K "are_planes"))
  g_check_letters : mg "check_letters" = some (.ref (He.ga K "check_letters"))
  g_cleared_row : mg "cleared_row" = some (.ref (He.ga K "cleared_row"))
  g_divisor : mg "divisor" = some (.ref (He.ga K "divisor"))
  g_dot : mg "dot" = some (.ref (He.ga K "dot"))
  g_family : mg "family" = some (.ref (He.ga K "family"))
  g_inverse_of : mg "inverse_of" = some (.ref (He.ga K "inverse_of"))
  g_inverted : mg "inverted" = some (.ref (He.ga K "inverted"))
  g_is_closed : mg "is_closed" = some (.ref (He.ga K "is_closed"))
  g_is_number : mg "is_number" = some (.ref (He.ga K "is_number"))
  g_is_plane : mg "is_plane" = some (.ref (He.ga K "is_plane"))
  g_is_row_of : mg "is_row_of" = some (.ref (He.ga K "is_row_of"))
  g_is_step : mg "is_step" = some (.ref (He.ga K "is_step"))
  g_law : mg "law" = some (.ref (He.ga K "law"))
  g_lessened : mg "lessened" = some (.ref (He.ga K "lessened"))
  g_lowest : mg "lowest" = some (.ref (He.ga K "lowest"))
  g_mirror_of : mg "mirror_of" = some (.ref (He.ga K "mirror_of"))
  g_mirror_rows : mg "mirror_rows" = some (.ref (He.ga K "mirror_rows"))
  g_multiplied : mg "multiplied" = some (.ref (He.ga K "multiplied"))
  g_negated : mg "negated" = some (.ref (He.ga K "negated"))
  g_numbers_of : mg "numbers_of" = some (.ref (He.ga K "numbers_of"))
  g_other_way : mg "other_way" = some (.ref (He.ga K "other_way"))
  g_reduced : mg "reduced" = some (.ref (He.ga K "reduced"))
  g_step_plane : mg "step_plane" = some (.ref (He.ga K "step_plane"))
  g_summed : mg "summed" = some (.ref (He.ga K "summed"))
  g_without_divisor : mg "without_divisor" = some (.ref (He.ga K "without_divisor"))
  g_written : mg "written" = some (.ref (He.ga K "written"))
  f_abs : mg "abs" = none
  f_all : mg "all" = none
  f_any : mg "any" = none
  f_enumerate : mg "enumerate" = none
  f_int : mg "int" = none
  f_len : mg "len" = none
  f_list : mg "list" = none
  f_range : mg "range" = none
  f_sum : mg "sum" = none
  f_tuple : mg "tuple" = none
  f_zip : mg "zip" = none
  cl_Graph : Cls K (He.ga K "Graph")
  mk_Graph : Mk K (He.ga K "Graph") (He.ma K (He.ga K "Graph") "__init__")
  me_Graph_planes : Meth K (He.ga K "Graph") "planes" (He.ma K (He.ga K "Graph") "planes")
  na_Graph_kept : NoAttr K (He.ga K "Graph") "kept"
  na_Graph_m : NoAttr K (He.ga K "Graph") "m"
  cl_Move : Cls K (He.ga K "Move")
  mk_Move : Mk K (He.ga K "Move") (He.ma K (He.ga K "Move") "__init__")
  me_Move_led : Meth K (He.ga K "Move") "led" (He.ma K (He.ga K "Move") "led")
  na_Move_back : NoAttr K (He.ga K "Move") "back"
  na_Move_kept : NoAttr K (He.ga K "Move") "kept"
  na_Move_more : NoAttr K (He.ga K "Move") "more"
  na_Move_n : NoAttr K (He.ga K "Move") "n"
  cl_Planes : Cls K (He.ga K "Planes")
  mk_Planes : Mk K (He.ga K "Planes") (He.ma K (He.ga K "Planes") "__init__")
  me_Planes_len : Meth K (He.ga K "Planes") "__len__" (He.ma K (He.ga K "Planes") "__len__")
  me_Planes_planes : Meth K (He.ga K "Planes") "planes" (He.ma K (He.ga K "Planes") "planes")
  na_Planes_kept : NoAttr K (He.ga K "Planes") "kept"
  na_Planes_n : NoAttr K (He.ga K "Planes") "n"
  c_MOST_ENTRY : ∃ t, mg "MOST_ENTRY" = some (.int cMOST_ENTRY t)
  c_MOST_GAIN : ∃ t, mg "MOST_GAIN" = some (.int cMOST_GAIN t)
  c_MOST_LETTERS : ∃ t, mg "MOST_LETTERS" = some (.int cMOST_LETTERS t)
  c_MOST_PLANES : ∃ t, mg "MOST_PLANES" = some (.int cMOST_PLANES t)
  c_MOST_STEPS : ∃ t, mg "MOST_STEPS" = some (.int cMOST_STEPS t)
  c_MOST_VERTEX : ∃ t, mg "MOST_VERTEX" = some (.int cMOST_VERTEX t)
  e_PlaneError : ExcOk K mg "PlaneError"
  e_NotMatrix : ExcOk K mg "NotMatrix"
  e_NotPoint : ExcOk K mg "NotPoint"
  e_NotPlanes : ExcOk K mg "NotPlanes"
  e_NotGraph : ExcOk K mg "NotGraph"
  e_BadNumber : ExcOk K mg "BadNumber"
  e_TooLarge : ExcOk K mg "TooLarge"
  m_BadNumber_PlaneError : PySem.W.exmOne K (.ref (He.ga K "PlaneError")) (.ref (He.ga K "BadNumber")) = some false
  m_BadNumber_NotMatrix : PySem.W.exmOne K (.ref (He.ga K "NotMatrix")) (.ref (He.ga K "BadNumber")) = some false
  m_BadNumber_NotPoint : PySem.W.exmOne K (.ref (He.ga K "NotPoint")) (.ref (He.ga K "BadNumber")) = some false
  m_BadNumber_NotPlanes : PySem.W.exmOne K (.ref (He.ga K "NotPlanes")) (.ref (He.ga K "BadNumber")) = some false
  m_BadNumber_NotGraph : PySem.W.exmOne K (.ref (He.ga K "NotGraph")) (.ref (He.ga K "BadNumber")) = some false
  m_BadNumber_BadNumber : PySem.W.exmOne K (.ref (He.ga K "BadNumber")) (.ref (He.ga K "BadNumber")) = some true
  m_BadNumber_TooLarge : PySem.W.exmOne K (.ref (He.ga K "TooLarge")) (.ref (He.ga K "BadNumber")) = some false
  c_ONE : He.tupB K "ONE" cONE_d = true
  c_ZERO : He.tupB K "ZERO" cZERO_d = true
  t_GAINS : TabOk K w "GAINS" tGAINS
  t_RANGES : TabOk K w "RANGES" tRANGES
  x_BadNumber_BadNumber : ExcC K (He.ga K "BadNumber")
  d__law_number : ∃ fd, FunD K "_law_number" "_law_number" (defArgs s_law_number) (defBody s_law_number) (defScope s_law_number) [] [] (He.ga K "_law_number") fd
  d__law_draws : ∃ fd, FunD K "_law_draws" "_law_draws" (defArgs s_law_draws) (defBody s_law_draws) (defScope s_law_draws) [] [] (He.ga K "_law_draws") fd
  d_all_pairs : ∃ fd, FunD K "all_pairs" "all_pairs" (defArgs sall_pairs) (defBody sall_pairs) (defScope sall_pairs) [] [] (He.ga K "all_pairs") fd
  d_written : ∃ fd, FunD K "written" "written" (defArgs swritten) (defBody swritten) (defScope swritten) [] [] (He.ga K "written") fd
  d_mirror_rows : ∃ fd, FunD K "mirror_rows" "mirror_rows" (defArgs smirror_rows) (defBody smirror_rows) (defScope smirror_rows) [] [] (He.ga K "mirror_rows") fd
  d_step_plane : ∃ fd, FunD K "step_plane" "step_plane" (defArgs sstep_plane) (defBody sstep_plane) (defScope sstep_plane) [] [] (He.ga K "step_plane") fd
  d_check_letters : ∃ fd, FunD K "check_letters" "check_letters" (defArgs scheck_letters) (defBody scheck_letters) (defScope scheck_letters) [] [] (He.ga K "check_letters") fd
  d_divisor : ∃ fd, FunD K "divisor" "divisor" (defArgs sdivisor) (defBody sdivisor) (defScope sdivisor) [] [] (He.ga K "divisor") fd
  d_is_plane : ∃ fd, FunD K "is_plane" "is_plane" (defArgs sis_plane) (defBody sis_plane) (defScope sis_plane) [] [] (He.ga K "is_plane") fd
  d_other_way : ∃ fd, FunD K "other_way" "other_way" (defArgs sother_way) (defBody sother_way) (defScope sother_way) [] [] (He.ga K "other_way") fd
  d_are_planes : ∃ fd, FunD K "are_planes" "are_planes" (defArgs sare_planes) (defBody sare_planes) (defScope sare_planes) [] [] (He.ga K "are_planes") fd
  d_Planes_init : ∃ fd, FunD K "__init__" "Planes.__init__" (defArgs sPlanes_init) (defBody sPlanes_init) (defScope sPlanes_init) [] [] (He.ma K (He.ga K "Planes") "__init__") fd
  d_Graph_planes : ∃ fd, FunD K "planes" "Graph.planes" (defArgs sGraph_planes) (defBody sGraph_planes) (defScope sGraph_planes) [] [] (He.ma K (He.ga K "Graph") "planes") fd
  d_is_step : ∃ fd, FunD K "is_step" "is_step" (defArgs sis_step) (defBody sis_step) (defScope sis_step) [] [] (He.ga K "is_step") fd
  d_Graph_init : ∃ fd, FunD K "__init__" "Graph.__init__" (defArgs sGraph_init) (defBody sGraph_init) (defScope sGraph_init) [] [] (He.ma K (He.ga K "Graph") "__init__") fd
  d_family : ∃ fd, FunD K "family" "family" (defArgs sfamily) (defBody sfamily) (defScope sfamily) [] [] (He.ga K "family") fd
  d__law_pairs : ∃ fd, FunD K "_law_pairs" "_law_pairs" (defArgs s_law_pairs) (defBody s_law_pairs) (defScope s_law_pairs) [] [] (He.ga K "_law_pairs") fd
  d__law_unit : ∃ fd, FunD K "_law_unit" "_law_unit" (defArgs s_law_unit) (defBody s_law_unit) (defScope s_law_unit) [] [] (He.ga K "_law_unit") fd
  d__law_gains : ∃ fd, FunD K "_law_gains" "_law_gains" (defArgs s_law_gains) (defBody s_law_gains) (defScope s_law_gains) [] [] (He.ga K "_law_gains") fd
  d__law_due : ∃ fd, FunD K "_law_due" "_law_due" (defArgs s_law_due) (defBody s_law_due) (defScope s_law_due) [] [] (He.ga K "_law_due") fd
  d_lowest : ∃ fd, FunD K "lowest" "lowest" (defArgs slowest) (defBody slowest) (defScope slowest) [] [] (He.ga K "lowest") fd
  d_inverted : ∃ fd, FunD K "inverted" "inverted" (defArgs sinverted) (defBody sinverted) (defScope sinverted) [] [] (He.ga K "inverted") fd
  d_multiplied : ∃ fd, FunD K "multiplied" "multiplied" (defArgs smultiplied) (defBody smultiplied) (defScope smultiplied) [] [] (He.ga K "multiplied") fd
  d_negated : ∃ fd, FunD K "negated" "negated" (defArgs snegated) (defBody snegated) (defScope snegated) [] [] (He.ga K "negated") fd
  d_summed : ∃ fd, FunD K "summed" "summed" (defArgs ssummed) (defBody ssummed) (defScope ssummed) [] [] (He.ga K "summed") fd
  d_lessened : ∃ fd, FunD K "lessened" "lessened" (defArgs slessened) (defBody slessened) (defScope slessened) [] [] (He.ga K "lessened") fd
  d_reduced : ∃ fd, FunD K "reduced" "reduced" (defArgs sreduced) (defBody sreduced) (defScope sreduced) [] [] (He.ga K "reduced") fd
  d_inverse_of : ∃ fd, FunD K "inverse_of" "inverse_of" (defArgs sinverse_of) (defBody sinverse_of) (defScope sinverse_of) [] [] (He.ga K "inverse_of") fd
  d_is_number : ∃ fd, FunD K "is_number" "is_number" (defArgs sis_number) (defBody sis_number) (defScope sis_number) [] [] (He.ga K "is_number") fd
  d_is_row_of : ∃ fd, FunD K "is_row_of" "is_row_of" (defArgs sis_row_of) (defBody sis_row_of) (defScope sis_row_of) [] [] (He.ga K "is_row_of") fd
  d_Move_init : ∃ fd, FunD K "__init__" "Move.__init__" (defArgs sMove_init) (defBody sMove_init) (defScope sMove_init) [] [] (He.ma K (He.ga K "Move") "__init__") fd
  d_mirror_of : ∃ fd, FunD K "mirror_of" "mirror_of" (defArgs smirror_of) (defBody smirror_of) (defScope smirror_of) [] [] (He.ga K "mirror_of") fd
  d_numbers_of : ∃ fd, FunD K "numbers_of" "numbers_of" (defArgs snumbers_of) (defBody snumbers_of) (defScope snumbers_of) [] [] (He.ga K "numbers_of") fd
  d_without_divisor : ∃ fd, FunD K "without_divisor" "without_divisor" (defArgs swithout_divisor) (defBody swithout_divisor) (defScope swithout_divisor) [] [] (He.ga K "without_divisor") fd
  d_cleared_row : ∃ fd, FunD K "cleared_row" "cleared_row" (defArgs scleared_row) (defBody scleared_row) (defScope scleared_row) [] [] (He.ga K "cleared_row") fd
  d_dot : ∃ fd, FunD K "dot" "dot" (defArgs sdot) (defBody sdot) (defScope sdot) [] [] (He.ga K "dot") fd
  d_Move_led : ∃ fd, FunD K "led" "Move.led" (defArgs sMove_led) (defBody sMove_led) (defScope sMove_led) [] [] (He.ma K (He.ga K "Move") "led") fd
  d_is_closed : ∃ fd, FunD K "is_closed" "is_closed" (defArgs sis_closed) (defBody sis_closed) (defScope sis_closed) [] [] (He.ga K "is_closed") fd
  d__law_most : ∃ fd, FunD K "_law_most" "_law_most" (defArgs s_law_most) (defBody s_law_most) (defScope s_law_most) [] [] (He.ga K "_law_most") fd
  d__law_refused : ∃ fd, FunD K "_law_refused" "_law_refused" (defArgs s_law_refused) (defBody s_law_refused) (defScope s_law_refused) [] [] (He.ga K "_law_refused") fd
  d__law_next : ∃ fd, FunD K "_law_next" "_law_next" (defArgs s_law_next) (defBody s_law_next) (defScope s_law_next) [] [] (He.ga K "_law_next") fd
  d_Planes_planes : ∃ fd, FunD K "planes" "Planes.planes" (defArgs sPlanes_planes) (defBody sPlanes_planes) (defScope sPlanes_planes) [] [] (He.ma K (He.ga K "Planes") "planes") fd
  d_Planes_len : ∃ fd, FunD K "__len__" "Planes.__len__" (defArgs sPlanes_len) (defBody sPlanes_len) (defScope sPlanes_len) [] [] (He.ma K (He.ga K "Planes") "__len__") fd
  d_law : ∃ fd, FunD K "law" "law" (defArgs slaw) (defBody slaw) (defScope slaw) [] [] (He.ga K "law") fd
def mtBadNumber (k : Str) : Option Bool := if k = "PlaneError" then some false else if k = "NotMatrix" then some false else if k = "NotPoint" then some false else if k = "NotPlanes" then some false else if k = "NotGraph" then some false else if k = "BadNumber" then some true else if k = "TooLarge" then some false else none
section
variable {w : World} {K : PySem.W.Frag} {mg : Str → Option Value}
theorem mtBadNumber_ok (fc : Fc w K mg) : ∀ k b, mtBadNumber k = some b → PySem.W.exmOne K (.ref (He.ga K k)) (.ref (He.ga K "BadNumber")) = some b := by
  intro k b h
  unfold mtBadNumber at h
  repeat' split at h
  · subst k; cases h; exact fc.m_BadNumber_PlaneError
  · subst k; cases h; exact fc.m_BadNumber_NotMatrix
  · subst k; cases h; exact fc.m_BadNumber_NotPoint
  · subst k; cases h; exact fc.m_BadNumber_NotPlanes
  · subst k; cases h; exact fc.m_BadNumber_NotGraph
  · subst k; cases h; exact fc.m_BadNumber_BadNumber
  · subst k; cases h; exact fc.m_BadNumber_TooLarge
  · cases h
theorem mtBadNumber_ex (fc : Fc w K mg) {k : Str} (h : mtBadNumber k = some true) : ExcC K (He.ga K k) := by
  unfold mtBadNumber at h
  repeat' split at h
  · subst k; cases h
  · subst k; cases h
  · subst k; cases h
  · subst k; cases h
  · subst k; cases h
  · subst k; exact fc.x_BadNumber_BadNumber
  · subst k; cases h
  · cases h
end
def mfamily_s0 : MS := (msIf (mTest (m2 (gNotInT tRANGES) (mVar 0) (mK (.fn "RANGES")))) (msRaise "BadNumber") msNil)
def mfamily_s1 : MS := (msAsg (m2 (gIxT tRANGES) (mK (.fn "RANGES")) (mVar 0)) (mgTup 2 (mgCons (mgName 2) (mgCons (mgName 3) mgNil))))
def mfamily_s2 : MS := (msIf (mNotT (mTest (mChain gLe gLe (mVar 2) (mVar 1) (mVar 3)))) (msRaise "BadNumber") msNil)
def mfamily_s3 : MS := (msIf (mTest (m2 (gNotInT tGAINS) (mVar 0) (mK (.fn "GAINS")))) (msRet (mMake "Planes" Q.FPlanes_init (mCons (mVar 1) (mCons (mCall Q.Fmirror_rows (mCons (mVar 0) (mCons (mVar 1) mNil))) mNil)))) msNil)
def mfamily_e4 : ME := (mN gTup (mCons (mVar 4) (mCons (mVar 5) (mCons (mVar 6) mNil))))
def mfamily_s5 : MS := (msRet (mMeth (tb [("Graph", Q.FGraph_planes)]) "planes" (mMake "Graph" Q.FGraph_init (mCons (mVar 1) (mCons (mLc2 [4, 5, 6] (mIter (mCall Q.Fall_pairs (mCons (mK (.int 0)) (mCons (mVar 1) mNil)))) (mgTup 2 (mgCons (mgName 4) (mgCons (mgName 5) mgNil))) mYes (mIter (m2 (gIxT tGAINS) (mK (.fn "GAINS")) (mVar 0))) [6] (mgName 6) mYes mfamily_e4) mNil))) mNil))
def mfamily : MS := (msSeq mfamily_s0 (msSeq mfamily_s1 (msSeq mfamily_s2 (msSeq mfamily_s3 mfamily_s5))))
def Ffamily : FN := runM 7 2 [] false mfamily
def m_law_refused : MS := (msTryO mtBadNumber (msSeq (msExpr (mCall Ffamily (mCons (mVar 0) (mCons (mVar 1) mNil)))) (msRet (mK (.bl false)))) (msRet (mK (.bl true))))
def F_law_refused : FN := runM 2 2 [] false m_law_refused
def mlaw_s0 : MS := (msOwn 1 (mCall Q.F_law_draws (mCons (mVar 0) mNil)))
def mlaw_s1 : MS := (msExpr (mOM gReverse 1 mNil))
def mlaw_b2 : MS := (msSeq (msAsg (mCall Ffamily (mCons (mVar 2) (mCons (mVar 3) mNil))) (mgName 4)) (msSeq (msIf (mOrT (mTest (m2 gNe (m1 (gFld (isC ["Planes"]) "n") (mVar 4)) (mVar 3))) (mTest (m2 gNe (mMeth (tb [("Planes", Q.FPlanes_planes)]) "planes" (mVar 4) mNil) (mCall Q.F_law_due (mCons (mVar 2) (mCons (mVar 3) mNil)))))) (msRet (mK (.bl false))) msNil) (msIf (mAndT (mTest (m2 gIn (mVar 2) (mN gLst (mCons (mK (.str "axes")) (mCons (mK (.str "pairs")) (mCons (mK (.str "even")) (mCons (mK (.str "signs")) mNil))))))) (mAndT (mTest (m2 gLt (m1 (gLenX (tb [("Planes", Q.FPlanes_len)])) (mVar 4)) (mK (.int 7)))) (mTest (m2 gIsNot (mCall Q.Fis_closed (mCons (mVar 4) mNil)) (mK (.bl true)))))) (msRet (mK (.bl false))) msNil)))
def mlaw_b3 : MS := (msIf (mNotT (mTru (mCall F_law_refused (mCons (mVar 2) (mCons (mVar 3) mNil))))) (msRet (mK (.bl false))) msNil)
def mlaw_b4 : MS := (msSeq (msFor (mItN gRange2 (mCons (mK (.int 1)) (mCons (m2 gAdd (mCall Q.F_law_most (mCons (mVar 2) mNil)) (mK (.int 1))) mNil))) (mgName 3) mlaw_b2) (msFor (mIter (mN gLst (mCons (mK (.int 0)) (mCons (m1 gNeg (mK (.int 1))) (mCons (m2 gAdd (mCall Q.F_law_most (mCons (mVar 2) mNil)) (mK (.int 1))) (mCons (m2 gAdd (mK (.int 5)) (mN gInt (mCons (mCallIo Q.F_law_next 1 mNil) mNil))) mNil)))))) (mgName 3) mlaw_b3))
def mlaw_s5 : MS := (msFor (mIter (mN gLst (mCons (mK (.str "axes")) (mCons (mK (.str "pairs")) (mCons (mK (.str "even")) (mCons (mK (.str "signs")) (mCons (mK (.str "parking")) (mCons (mK (.str "ballot")) (mCons (mK (.str "apart")) (mCons (mK (.str "above")) mNil)))))))))) (mgName 2) mlaw_b4)
def mlaw_s6 : MS := (msAsg (mCall Ffamily (mCons (mK (.str "six")) (mCons (mK (.int 3)) mNil))) (mgName 5))
def mlaw_s7 : MS := (msIf (mOrT (mTest (m2 gNe (m1 (gFld (isC ["Planes"]) "n") (mVar 5)) (mK (.int 3)))) (mOrT (mTest (m2 gNe (mMeth (tb [("Planes", Q.FPlanes_planes)]) "planes" (mVar 5) mNil) (mCall Q.F_law_due (mCons (mK (.str "six")) (mCons (mK (.int 3)) mNil))))) (mTest (m2 gIsNot (mCall Q.Fis_closed (mCons (mVar 5) mNil)) (mK (.bl true)))))) (msRet (mK (.bl false))) msNil)
def mlaw_e8 : ME := (m2 gIx (mK (.str "abcdefghijklmnopqrstuvwxyz")) (m2 gMod (mN gInt (mCons (mCallIo Q.F_law_next 1 mNil) mNil)) (mK (.int 26))))
def mlaw_s9 : MS := (msAsg (mM gJoin (mK (.str "")) (mCons (mLc [6] (mItN gRange1 (mCons (m2 gMod (mN gInt (mCons (mCallIo Q.F_law_next 1 mNil) mNil)) (mK (.int 5))) mNil)) (mgName 6) mYes mlaw_e8) mNil)) (mgName 2))
def mlaw_e10 : ME := (mCall F_law_refused (mCons (mK (.str "six")) (mCons (mVar 3) mNil)))
def mlaw_e11 : ME := (mCall F_law_refused (mCons (mVar 7) (mCons (mK (.int 2)) mNil)))
def mlaw_s12 : MS := (msRet (mAnd (mN gAll (mCons (mLc [3] (mIter (mN gLst (mCons (mK (.int 1)) (mCons (mK (.int 2)) (mCons (mK (.int 4)) mNil))))) (mgName 3) mYes mlaw_e10) mNil)) (mN gAll (mCons (mLc [7] (mIter (mN gLst (mCons (mK (.str "")) (mCons (mK (.str "sixes")) (mCons (m2 gAdd (mVar 2) (mK (.str "q"))) (mCons (mK (.str "Axes")) mNil)))))) (mgName 7) mYes mlaw_e11) mNil))))
def mlaw : MS := (msForget 1 (msSeq mlaw_s0 (msSeq mlaw_s1 (msSeq mlaw_s5 (msSeq mlaw_s6 (msSeq mlaw_s7 (msSeq mlaw_s9 mlaw_s12)))))))
def Flaw : FN := runM 8 1 [] false mlaw
section
variable {w : World} {K : PySem.W.Frag} {mg : Str → Option Value}
abbrev N_law_number : List Str := ["cell"]
theorem c_law_number : FnScope N_law_number ["cell"] (defScope s_law_number) := ⟨rfl, rfl, rfl, by decide +kernel, rfl, by decide +kernel, by decide +kernel⟩
theorem g_law_number (fc : Fc w K mg) : Ok prog w K mg 1 "_law_number" false false Q.F_law_number := by
  intro base
  obtain ⟨fd, F⟩ := fc.d__law_number
  refine fnG_of (ps := ["cell"]) (N := N_law_number) (O := []) (O' := []) F c_law_number (F.bindsN fun _ _ _ _ _ _ us hl => match us, hl with | [_], _ => rfl) .nil (fun _ _ => .nil) (by decide) (by decide) (by decide) fun cdv A outer s H E A0 q hio hr hg => ?_
  obtain rfl : q = none := by cases q with
    | none => rfl
    | some _ => cases hio
  have hu := Room.u64 hr
  have hv := Room.u65 hr
  exact (dss_cons (ds_if trivial (dt_cmp od_lt (v_ 0) de_int (pm _ _)) (dss_one (ds_ret trivial (de_bin od_sub de_int (v_ 0)))) dss_nil) (dss_one (ds_ret trivial (v_ 0))))
abbrev N_law_draws : List Str := ["script", "draws", "cell", "rest", "k", "once", "twice"]
theorem c_law_draws : FnScope N_law_draws ["script"] (defScope s_law_draws) := ⟨rfl, rfl, rfl, by decide +kernel, rfl, by decide +kernel, by decide +kernel⟩
theorem g_law_draws (fc : Fc w K mg) : Ok prog w K mg 2 "_law_draws" false true Q.F_law_draws := by
  intro base
  obtain ⟨fd, F⟩ := fc.d__law_draws
  refine fnG_of (ps := ["script"]) (N := N_law_draws) (O := []) (O' := []) F c_law_draws (F.bindsN fun _ _ _ _ _ _ us hl => match us, hl with | [_], _ => rfl) .nil (fun _ _ => .nil) (by decide) (by decide) (by decide) fun cdv A outer s H E A0 q hio hr hg => ?_
  obtain rfl : q = none := by cases q with
    | none => rfl
    | some _ => cases hio
  have hu := Room.u64 hr
  have hv := Room.u65 hr
  exact (dss_forgetO 1 (.inl (by decide)) (dss_cons (ds_own trivial (df_lst da_nil) rfl (.inl (by decide)) c_law_draws.nd rfl (Or.inl rfl)) (dss_cons (ds_for (vs := [2]) trivial cx_pw rfl (di_seq (v_ 0)) (dg_name rfl rfl c_law_draws.nd rfl (Or.inl rfl)) (dss_cons (ds_asg (vs := [3]) trivial (de_call (g_law_number fc _) (hr.mono (by decide)) hg cx_tk (by rfl) fc.g__law_number (da_cons (v_ 2) da_nil)) (dg_name rfl rfl c_law_draws.nd rfl (Or.inl rfl))) (dss_one (ds_if trivial (dt_cmp od_ge (v_ 3) de_int (pm _ _)) (dss_one (ds_for (vs := [4]) trivial cx_pw rfl (di_range1 (by rfl) fc.f_range (da_cons de_int da_nil)) (dg_name rfl rfl c_law_draws.nd rfl (Or.inl rfl)) (dss_cons (ds_if trivial (dt_cmp (od_eq hu) (v_ 3) de_int (pm _ _)) (dss_one ds_brk) dss_nil) (dss_cons (ds_expr trivial (de_om om_append PySem.F.slot_list_append PySem.F.type_list_append (by rfl) (pv 1) (da_cons (de_bin od_mod (de_ty bt_int b_int (by rfl) fc.f_int (da_cons (v_ 3) da_nil)) de_int) da_nil))) (dss_one (ds_asg (vs := [3]) trivial (de_bin od_div (v_ 3) de_int) (dg_name rfl rfl c_law_draws.nd rfl (Or.inl rfl)))))))) (dss_cons (ds_asg (vs := [5]) trivial (de_bin od_mod (de_ty bt_int b_int (by rfl) fc.f_int (da_cons (de_bin od_add (de_bin od_mul (v_ 3) de_int) de_int) da_nil)) de_int) (dg_name rfl rfl c_law_draws.nd rfl (Or.inl rfl))) (dss_cons (ds_asg (vs := [6]) trivial (de_bin od_mod (de_ty bt_int b_int (by rfl) fc.f_int (da_cons (de_bin od_add (de_bin od_mul (v_ 5) de_int) (v_ 3)) da_nil)) de_int) (dg_name rfl rfl c_law_draws.nd rfl (Or.inl rfl))) (dss_one (ds_expr trivial (de_om om_extend PySem.F.slot_list_extend PySem.F.type_list_extend (by rfl) (pv 1) (da_cons (DF.toE (df_lst (da_cons (de_bin od_mod (de_ty bt_int b_int (by rfl) fc.f_int (da_cons (v_ 3) da_nil)) de_int) (da_cons (de_bin od_mod (de_ty bt_int b_int (by rfl) fc.f_int (da_cons (v_ 5) da_nil)) de_int) (da_cons (de_bin od_mod (de_ty bt_int b_int (by rfl) fc.f_int (da_cons (v_ 6) da_nil)) de_int) da_nil))))) da_nil)))))))))) (dss_one (ds_retO rfl (.inl (by decide)) (pv 1))))))
abbrev Nall_pairs : List Str := ["first", "last", "i", "j"]
theorem call_pairs : FnScope Nall_pairs ["first", "last"] (defScope sall_pairs) := ⟨rfl, rfl, rfl, by decide +kernel, rfl, by decide +kernel, by decide +kernel⟩
theorem gall_pairs (fc : Fc w K mg) : Ok prog w K mg 1 "all_pairs" false false Q.Fall_pairs := by
  intro base
  obtain ⟨fd, F⟩ := fc.d_all_pairs
  refine fnG_of (ps := ["first", "last"]) (N := Nall_pairs) (O := []) (O' := []) F call_pairs (F.bindsN fun _ _ _ _ _ _ us hl => match us, hl with | [_, _], _ => rfl) .nil (fun _ _ => .nil) (by decide) (by decide) (by decide) fun cdv A outer s H E A0 q hio hr hg => ?_
  obtain rfl : q = none := by cases q with
    | none => rfl
    | some _ => cases hio
  have hu := Room.u64 hr
  have hv := Room.u65 hr
  exact (dss_one (ds_ret trivial (DF.toE (df_lc2 (by rfl) call_pairs.nd (by rfl) (di_range2 (by rfl) fc.f_range (da_cons (v_ 0) (da_cons (de_bin od_add (v_ 1) de_int) da_nil))) (blkOk_by (own := [("i", 2), ("j", 3)]) (by kernel_rfl)) (vs1 := [3]) (by rfl) (fun _ _ _ _ _ => (dg_name rfl rfl call_pairs.nd rfl (Or.inl rfl))) (fun _ _ _ _ _ => dts_no) (fun _ _ _ _ _ => (di_range2 (by rfl) fc.f_range (da_cons (de_bin od_add (v_ 2) de_int) (da_cons (de_bin od_add (v_ 1) de_int) da_nil)))) (fun _ _ _ _ _ => (dg_name rfl rfl call_pairs.nd rfl (Or.inl rfl))) (fun _ _ _ _ _ => dts_no) (fun _ _ _ _ _ => (de_tup (da_cons (v_ 2) (da_cons (v_ 3) da_nil))))))))
abbrev Nwritten : List Str := ["m", "parts", "row", "letter", "a"]
theorem cwritten : FnScope Nwritten ["m", "parts"] (defScope swritten) := ⟨rfl, rfl, rfl, by decide +kernel, rfl, by decide +kernel, by decide +kernel⟩
theorem gwritten (fc : Fc w K mg) : Ok prog w K mg 1 "written" false false Q.Fwritten := by
  intro base
  obtain ⟨fd, F⟩ := fc.d_written
  refine fnG_of (ps := ["m", "parts"]) (N := Nwritten) (O := []) (O' := []) F cwritten (F.bindsN fun _ _ _ _ _ _ us hl => match us, hl with | [_, _], _ => rfl) .nil (fun _ _ => .nil) (by decide) (by decide) (by decide) fun cdv A outer s H E A0 q hio hr hg => ?_
  obtain rfl : q = none := by cases q with
    | none => rfl
    | some _ => cases hio
  have hu := Room.u64 hr
  have hv := Room.u65 hr
  exact (dss_forgetO 2 (.inl (by decide)) (dss_cons (ds_own trivial (df_bin od_mulF (DF.toE (df_lst (da_cons de_int da_nil))) (de_bin od_add (v_ 0) de_int)) rfl (.inl (by decide)) cwritten.nd rfl (Or.inl rfl)) (dss_cons (ds_for (vs := [3, 4]) trivial cx_pw rfl (di_seq (v_ 1)) (dg_tup rfl (dgs_cons (dg_name rfl rfl cwritten.nd rfl (Or.inl rfl)) (dgs_cons (dg_name rfl rfl cwritten.nd rfl (Or.inl rfl)) dgs_nil))) (dss_one (ds_asg (vs := []) trivial (v_ 4) (dg_sub (by rfl) (pv 2) (de_bin od_sub (v_ 3) de_int))))) (dss_one (ds_ret trivial (de_tyO (by rfl) bt_tuple b_tuple (by rfl) fc.f_tuple (pv 2)))))))
abbrev Nmirror_rows : List Str := ["word", "m", "axes", "i", "pairs", "j", "even"]
theorem cmirror_rows : FnScope Nmirror_rows ["word", "m"] (defScope smirror_rows) := ⟨rfl, rfl, rfl, by decide +kernel, rfl, by decide +kernel, by decide +kernel⟩
theorem gmirror_rows (fc : Fc w K mg) : Ok prog w K mg 2 "mirror_rows" false false Q.Fmirror_rows := by
  intro base
  obtain ⟨fd, F⟩ := fc.d_mirror_rows
  refine fnG_of (ps := ["word", "m"]) (N := Nmirror_rows) (O := []) (O' := []) F cmirror_rows (F.bindsN fun _ _ _ _ _ _ us hl => match us, hl with | [_, _], _ => rfl) .nil (fun _ _ => .nil) (by decide) (by decide) (by decide) fun cdv A outer s H E A0 q hio hr hg => ?_
  obtain rfl : q = none := by cases q with
    | none => rfl
    | some _ => cases hio
  have hu := Room.u64 hr
  have hv := Room.u65 hr
  exact (dss_cons (ds_setLc trivial rfl rfl cmirror_rows.nd rfl rfl (sw_true rfl rfl rfl (by kernel_rfl)) (by rfl) (di_range2 (by rfl) fc.f_range (da_cons de_int (da_cons (de_bin od_add (v_ 1) de_int) da_nil))) (blkOk_by (own := [("i", 3)]) (by kernel_rfl)) (fun _ _ _ _ _ => (dg_name rfl rfl cmirror_rows.nd rfl (Or.inl rfl))) (fun _ _ _ _ _ => pts_nil) tYes_go (fun _ _ _ _ _ => (de_call (gwritten fc _) (hr.mono (by decide)) hg (takes0 (by rfl)) (by rfl) fc.g_written (da_cons (v_ 1) (da_cons (DF.toE (df_lst (da_cons (de_tup (da_cons (v_ 3) (da_cons de_int da_nil))) da_nil))) da_nil))))) (dss_cons (ds_setLc trivial rfl rfl cmirror_rows.nd rfl rfl (sw_true rfl rfl rfl (by kernel_rfl)) (by rfl) (di_seq (de_call (gall_pairs fc _) (hr.mono (by decide)) hg cx_tk (by rfl) fc.g_all_pairs (da_cons de_int (da_cons (v_ 1) da_nil)))) (blkOk_by (own := [("i", 3), ("j", 5)]) (by kernel_rfl)) (fun _ _ _ _ _ => (dg_tup rfl (dgs_cons (dg_name rfl rfl cmirror_rows.nd rfl (Or.inl rfl)) (dgs_cons (dg_name rfl rfl cmirror_rows.nd rfl (Or.inl rfl)) dgs_nil)))) (fun _ _ _ _ _ => pts_nil) tYes_go (fun _ _ _ _ _ => (de_call (gwritten fc _) (hr.mono (by decide)) hg (takes0 (by rfl)) (by rfl) fc.g_written (da_cons (v_ 1) (da_cons (DF.toE (df_lst (da_cons (de_tup (da_cons (v_ 3) (da_cons de_int da_nil))) (da_cons (de_tup (da_cons (v_ 5) (da_cons (de_un ud_neg de_int) da_nil))) da_nil)))) da_nil))))) (dss_cons (ds_if trivial (dt_cmp (od_eq hu) (v_ 0) de_str (pm _ _)) (dss_one (ds_ret trivial (v_ 2))) dss_nil) (dss_cons (ds_if trivial (dt_cmp (od_eq hu) (v_ 0) de_str (pm _ _)) (dss_one (ds_ret trivial (v_ 4))) dss_nil) (dss_cons (ds_if trivial (dt_cmp (od_eq hu) (v_ 0) de_str (pm _ _)) (dss_one (ds_ret trivial (de_bin od_add (v_ 4) (DF.toE (df_lst (da_cons (de_tup (da_cons de_int (da_cons (de_un ud_neg de_int) (da_cons (de_un ud_neg de_int) (da_cons de_int da_nil))))) (da_cons (de_tup (da_cons (de_un ud_neg de_int) (da_cons de_int (da_cons (de_un ud_neg de_int) (da_cons de_int da_nil))))) (da_cons (de_tup (da_cons (de_un ud_neg de_int) (da_cons (de_un ud_neg de_int) (da_cons de_int (da_cons de_int da_nil))))) da_nil)))))))) dss_nil) (dss_forgetO 6 (.inl (by decide)) (dss_cons (ds_own trivial (df_lst da_nil) rfl (.inl (by decide)) cmirror_rows.nd rfl (Or.inl rfl)) (dss_cons (ds_for (vs := [3, 5]) trivial cx_pw rfl (di_seq (de_call (gall_pairs fc _) (hr.mono (by decide)) hg cx_tk (by rfl) fc.g_all_pairs (da_cons de_int (da_cons (v_ 1) da_nil)))) (dg_tup rfl (dgs_cons (dg_name rfl rfl cmirror_rows.nd rfl (Or.inl rfl)) (dgs_cons (dg_name rfl rfl cmirror_rows.nd rfl (Or.inl rfl)) dgs_nil))) (dss_one (ds_expr trivial (de_om om_extend PySem.F.slot_list_extend PySem.F.type_list_extend (by rfl) (pv 6) (da_cons (DF.toE (df_lst (da_cons (de_call (gwritten fc _) (hr.mono (by decide)) hg cx_tk (by rfl) fc.g_written (da_cons (v_ 1) (da_cons (DF.toE (df_lst (da_cons (de_tup (da_cons (v_ 3) (da_cons de_int da_nil))) (da_cons (de_tup (da_cons (v_ 5) (da_cons (de_un ud_neg de_int) da_nil))) da_nil)))) da_nil))) (da_cons (de_call (gwritten fc _) (hr.mono (by decide)) hg cx_tk (by rfl) fc.g_written (da_cons (v_ 1) (da_cons (DF.toE (df_lst (da_cons (de_tup (da_cons (v_ 3) (da_cons de_int da_nil))) (da_cons (de_tup (da_cons (v_ 5) (da_cons de_int da_nil))) da_nil)))) da_nil))) da_nil)))) da_nil))))) (dss_freeze 6 (.inl (by decide)) (dss_one (ds_ret trivial (de_if (dt_cmp (od_eq hu) (v_ 0) de_str (pm _ _)) (v_ 6) (de_bin od_add (v_ 2) (v_ 6))))))))))))))
abbrev Nstep_plane : List Str := ["m", "step", "i", "j", "g", "row"]
theorem cstep_plane : FnScope Nstep_plane ["m", "step"] (defScope sstep_plane) := ⟨rfl, rfl, rfl, by decide +kernel, rfl, by decide +kernel, by decide +kernel⟩
theorem gstep_plane (fc : Fc w K mg) : Ok prog w K mg 1 "step_plane" false false Q.Fstep_plane := by
  intro base
  obtain ⟨fd, F⟩ := fc.d_step_plane
  refine fnG_of (ps := ["m", "step"]) (N := Nstep_plane) (O := []) (O' := []) F cstep_plane (F.bindsN fun _ _ _ _ _ _ us hl => match us, hl with | [_, _], _ => rfl) .nil (fun _ _ => .nil) (by decide) (by decide) (by decide) fun cdv A outer s H E A0 q hio hr hg => ?_
  obtain rfl : q = none := by cases q with
    | none => rfl
    | some _ => cases hio
  have hu := Room.u64 hr
  have hv := Room.u65 hr
  exact (dss_cons (ds_asg (vs := [2, 3, 4]) trivial (v_ 1) (dg_tup rfl (dgs_cons (dg_name rfl rfl cstep_plane.nd rfl (Or.inl rfl)) (dgs_cons (dg_name rfl rfl cstep_plane.nd rfl (Or.inl rfl)) (dgs_cons (dg_name rfl rfl cstep_plane.nd rfl (Or.inl rfl)) dgs_nil))))) (dss_forgetO 5 (.inl (by decide)) (dss_cons (ds_own trivial (df_bin od_mulF (DF.toE (df_lst (da_cons de_int da_nil))) (de_bin od_add (v_ 0) de_int)) rfl (.inl (by decide)) cstep_plane.nd rfl (Or.inl rfl)) (dss_cons (ds_asg (vs := []) trivial de_int (dg_sub (by rfl) (pv 5) (de_bin od_sub (v_ 3) de_int))) (dss_cons (ds_if trivial (dt_cmp od_gt (v_ 2) de_int (pm _ _)) (dss_one (ds_asg (vs := []) trivial (de_un ud_neg de_int) (dg_sub (by rfl) (pv 5) (de_bin od_sub (v_ 2) de_int)))) dss_nil) (dss_cons (ds_asg (vs := []) trivial (v_ 4) (dg_sub (by rfl) (pv 5) (v_ 0))) (dss_one (ds_ret trivial (de_tyO (by rfl) bt_tuple b_tuple (by rfl) fc.f_tuple (pv 5))))))))))
abbrev Ncheck_letters : List Str := ["n"]
theorem ccheck_letters : FnScope Ncheck_letters ["n"] (defScope scheck_letters) := ⟨rfl, rfl, rfl, by decide +kernel, rfl, by decide +kernel, by decide +kernel⟩
theorem gcheck_letters (fc : Fc w K mg) : Ok prog w K mg 1 "check_letters" false false Q.Fcheck_letters := by
  intro base
  obtain ⟨fd, F⟩ := fc.d_check_letters
  refine fnG_of (ps := ["n"]) (N := Ncheck_letters) (O := []) (O' := []) F ccheck_letters (F.bindsN fun _ _ _ _ _ _ us hl => match us, hl with | [_], _ => rfl) .nil (fun _ _ => .nil) (by decide) (by decide) (by decide) fun cdv A outer s H E A0 q hio hr hg => ?_
  obtain rfl : q = none := by cases q with
    | none => rfl
    | some _ => cases hio
  have hu := Room.u64 hr
  have hv := Room.u65 hr
  exact (dss_one (ds_if trivial (dt_not (dt_chain od_le od_le de_int (v_ 0) (gi_ fc.c_MOST_LETTERS))) (dss_one (ds_raiseC fc.e_BadNumber trivial cx_tk)) dss_nil))
abbrev Ndivisor : List Str := ["a", "b"]
theorem cdivisor : FnScope Ndivisor ["a", "b"] (defScope sdivisor) := ⟨rfl, rfl, rfl, by decide +kernel, rfl, by decide +kernel, by decide +kernel⟩
theorem gdivisor (fc : Fc w K mg) : Ok prog w K mg 1 "divisor" false false Q.Fdivisor := by
  intro base
  obtain ⟨fd, F⟩ := fc.d_divisor
  refine fnG_of (ps := ["a", "b"]) (N := Ndivisor) (O := []) (O' := []) F cdivisor (F.bindsN fun _ _ _ _ _ _ us hl => match us, hl with | [_, _], _ => rfl) .nil (fun _ _ => .nil) (by decide) (by decide) (by decide) fun cdv A outer s H E A0 q hio hr hg => ?_
  obtain rfl : q = none := by cases q with
    | none => rfl
    | some _ => cases hio
  have hu := Room.u64 hr
  have hv := Room.u65 hr
  exact (dss_cons (ds_par (i := 0) (j := 1) trivial rfl cdivisor.nd rfl rfl (by decide) rfl rfl rfl rfl (da_cons (de_b bt_abs b_abs (by rfl) fc.f_abs (da_cons (v_ 0) da_nil)) (da_cons (de_b bt_abs b_abs (by rfl) fc.f_abs (da_cons (v_ 1) da_nil)) da_nil))) (dss_cons (ds_while _ trivial cx_pw (dt_cmp (od_ne hu) (v_ 1) de_int (pm _ _)) (dss_one (ds_par (i := 0) (j := 1) trivial rfl cdivisor.nd rfl rfl (by decide) rfl rfl rfl rfl (da_cons (v_ 1) (da_cons (de_bin od_mod (v_ 0) (v_ 1)) da_nil))))) (dss_one (ds_ret trivial (v_ 0)))))
abbrev Nis_plane : List Str := ["n", "plane", "a", "common"]
theorem cis_plane : FnScope Nis_plane ["n", "plane"] (defScope sis_plane) := ⟨rfl, rfl, rfl, by decide +kernel, rfl, by decide +kernel, by decide +kernel⟩
theorem gis_plane (fc : Fc w K mg) : Ok prog w K mg 2 "is_plane" false false Q.Fis_plane := by
  intro base
  obtain ⟨fd, F⟩ := fc.d_is_plane
  refine fnG_of (ps := ["n", "plane"]) (N := Nis_plane) (O := []) (O' := []) F cis_plane (F.bindsN fun _ _ _ _ _ _ us hl => match us, hl with | [_, _], _ => rfl) .nil (fun _ _ => .nil) (by decide) (by decide) (by decide) fun cdv A outer s H E A0 q hio hr hg => ?_
  obtain rfl : q = none := by cases q with
    | none => rfl
    | some _ => cases hio
  have hu := Room.u64 hr
  have hv := Room.u65 hr
  exact (dss_cons (ds_expr trivial (de_call (gcheck_letters fc _) (hr.mono (by decide)) hg cx_tk (by rfl) fc.g_check_letters (da_cons (v_ 0) da_nil))) (dss_cons (ds_if trivial (DW.t (dw_or (dt_cmp (od_ne hu) (de_b bt_len b_len (by rfl) fc.f_len (da_cons (v_ 1) da_nil)) (de_bin od_add (v_ 0) de_int) (pm _ _)) (dw_or1 (dt_not (dt_tru (de_b bt_all (b_all (by rfl)) (by rfl) fc.f_all (da_cons (DF.toE (df_lc (by rfl) cis_plane.nd (by rfl) (di_seq (v_ 1)) (blkOk_by (own := [("a", 2)]) (by kernel_rfl)) (fun _ _ _ _ _ => (dg_name rfl rfl cis_plane.nd rfl (Or.inl rfl))) (fun _ _ _ _ _ => pts_nil) tYes_go (fun _ _ _ _ _ => (de_cmp od_le (de_b bt_abs b_abs (by rfl) fc.f_abs (da_cons (v_ 2) da_nil)) (gi_ fc.c_MOST_ENTRY) (pm _ _))))) da_nil))))))) (dss_one (ds_ret trivial de_bl)) dss_nil) (dss_cons (ds_asg (vs := [3]) trivial de_int (dg_name rfl rfl cis_plane.nd rfl (Or.inl rfl))) (dss_cons (ds_for (vs := [2]) trivial cx_pw rfl (di_seq (v_ 1)) (dg_name rfl rfl cis_plane.nd rfl (Or.inl rfl)) (dss_one (ds_asg (vs := [3]) trivial (de_call (gdivisor fc _) (hr.mono (by decide)) hg cx_tk (by rfl) fc.g_divisor (da_cons (v_ 3) (da_cons (v_ 2) da_nil))) (dg_name rfl rfl cis_plane.nd rfl (Or.inl rfl))))) (dss_one (ds_ret trivial (de_and (de_cmp (od_eq hu) (v_ 3) de_int (pm _ _)) (de_one (de_b bt_any (b_any (by rfl)) (by rfl) fc.f_any (da_cons (DF.toE (df_lc (by rfl) cis_plane.nd (by rfl) (di_seq (de_sl (db_e (v_ 1)) dp_no (dp_e (v_ 0)))) (blkOk_by (own := [("a", 2)]) (by kernel_rfl)) (fun _ _ _ _ _ => (dg_name rfl rfl cis_plane.nd rfl (Or.inl rfl))) (fun _ _ _ _ _ => pts_nil) tYes_go (fun _ _ _ _ _ => (de_cmp (od_ne hu) (v_ 2) de_int (pm _ _))))) da_nil))))))))))
abbrev Nother_way : List Str := ["plane", "a"]
theorem cother_way : FnScope Nother_way ["plane"] (defScope sother_way) := ⟨rfl, rfl, rfl, by decide +kernel, rfl, by decide +kernel, by decide +kernel⟩
theorem gother_way (fc : Fc w K mg) : Ok prog w K mg 1 "other_way" false false Q.Fother_way := by
  intro base
  obtain ⟨fd, F⟩ := fc.d_other_way
  refine fnG_of (ps := ["plane"]) (N := Nother_way) (O := []) (O' := []) F cother_way (F.bindsN fun _ _ _ _ _ _ us hl => match us, hl with | [_], _ => rfl) .nil (fun _ _ => .nil) (by decide) (by decide) (by decide) fun cdv A outer s H E A0 q hio hr hg => ?_
  obtain rfl : q = none := by cases q with
    | none => rfl
    | some _ => cases hio
  have hu := Room.u64 hr
  have hv := Room.u65 hr
  exact (dss_one (ds_ret trivial (de_ty bt_tuple b_tuple (by rfl) fc.f_tuple (da_cons (DF.toE (df_lc (by rfl) cother_way.nd (by rfl) (di_seq (v_ 0)) (blkOk_by (own := [("a", 1)]) (by kernel_rfl)) (fun _ _ _ _ _ => (dg_name rfl rfl cother_way.nd rfl (Or.inl rfl))) (fun _ _ _ _ _ => pts_nil) tYes_go (fun _ _ _ _ _ => (de_un ud_neg (v_ 1))))) da_nil))))
abbrev Nare_planes : List Str := ["n", "rows", "row", "at", "other"]
theorem care_planes : FnScope Nare_planes ["n", "rows"] (defScope sare_planes) := ⟨rfl, rfl, rfl, by decide +kernel, rfl, by decide +kernel, by decide +kernel⟩
theorem gare_planes (fc : Fc w K mg) : Ok prog w K mg 3 "are_planes" false false Q.Fare_planes := by
  intro base
  obtain ⟨fd, F⟩ := fc.d_are_planes
  refine fnG_of (ps := ["n", "rows"]) (N := Nare_planes) (O := []) (O' := []) F care_planes (F.bindsN fun _ _ _ _ _ _ us hl => match us, hl with | [_, _], _ => rfl) .nil (fun _ _ => .nil) (by decide) (by decide) (by decide) fun cdv A outer s H E A0 q hio hr hg => ?_
  obtain rfl : q = none := by cases q with
    | none => rfl
    | some _ => cases hio
  have hu := Room.u64 hr
  have hv := Room.u65 hr
  exact (dss_cons (ds_if trivial (DW.t (dw_or (dt_cmp od_gt (de_b bt_len b_len (by rfl) fc.f_len (da_cons (v_ 1) da_nil)) (gi_ fc.c_MOST_PLANES) (pm _ _)) (dw_or1 (dt_not (dt_tru (de_b bt_all (b_all (by rfl)) (by rfl) fc.f_all (da_cons (DF.toE (df_lc (by rfl) care_planes.nd (by rfl) (di_seq (v_ 1)) (blkOk_by (own := [("row", 2)]) (by kernel_rfl)) (fun _ _ _ _ _ => (dg_name rfl rfl care_planes.nd rfl (Or.inl rfl))) (fun _ _ _ _ _ => pts_nil) tYes_go (fun _ _ _ _ _ => (de_call (gis_plane fc _) (hr.mono (by decide)) hg (takes0 (by rfl)) (by rfl) fc.g_is_plane (da_cons (v_ 0) (da_cons (v_ 2) da_nil)))))) da_nil))))))) (dss_one (ds_ret trivial de_bl)) dss_nil) (dss_cons (ds_for (vs := [3, 2]) trivial cx_pw rfl (di_enumS (by rfl) fc.f_enumerate (da_cons (v_ 1) da_nil)) (dg_tup rfl (dgs_cons (dg_name rfl rfl care_planes.nd rfl (Or.inl rfl)) (dgs_cons (dg_name rfl rfl care_planes.nd rfl (Or.inr rfl)) dgs_nil))) (dss_one (ds_if trivial (dt_tru (de_b bt_any (b_any (by rfl)) (by rfl) fc.f_any (da_cons (DF.toE (df_lc (by rfl) care_planes.nd (by rfl) (di_seq (de_sl (db_e (v_ 1)) dp_no (dp_e (v_ 3)))) (blkOk_by (own := [("other", 4)]) (by kernel_rfl)) (fun _ _ _ _ _ => (dg_name rfl rfl care_planes.nd rfl (Or.inl rfl))) (fun _ _ _ _ _ => pts_nil) tYes_go (fun _ _ _ _ _ => (de_or (de_cmp (od_eq hu) (de_ty bt_tuple b_tuple (by rfl) fc.f_tuple (da_cons (v_ 2) da_nil)) (v_ 4) (pm _ _)) (de_one (de_cmp (od_eq hu) (de_call (gother_way fc _) (hr.mono (by decide)) hg (takes0 (by rfl)) (by rfl) fc.g_other_way (da_cons (v_ 2) da_nil)) (v_ 4) (pm _ _))))))) da_nil))) (dss_one (ds_ret trivial de_bl)) dss_nil))) (dss_one (ds_ret trivial de_bl))))
abbrev NPlanes_init : List Str := ["self", "n", "rows"]
theorem cPlanes_init : FnScope NPlanes_init ["self", "n", "rows"] (defScope sPlanes_init) := ⟨rfl, rfl, rfl, by decide +kernel, rfl, by decide +kernel, by decide +kernel⟩
theorem gPlanes_init (fc : Fc w K mg) : ∀ base : Heap, FnG prog w K mg base 4 (He.ma K (He.ga K "Planes") "__init__") true false Q.FPlanes_init := by
  intro base
  obtain ⟨fd, F⟩ := fc.d_Planes_init
  refine fnG_of (ps := ["self", "n", "rows"]) (N := NPlanes_init) (O := [0]) (O' := [0]) F cPlanes_init (F.bindsN fun _ _ _ _ _ _ us hl => match us, hl with | [_, _, _], _ => rfl) .nil (fun _ _ => .nil) (by decide) (by decide) (by decide) fun cdv A outer s H E A0 q hio hr hg => ?_
  have hu := Room.u64 hr
  have hv := Room.u65 hr
  exact (dss_cons (ds_expr trivial (de_call (gcheck_letters fc _) (hr.mono (by decide)) hg cx_tk (by rfl) fc.g_check_letters (da_cons (v_ 1) da_nil))) (dss_cons (ds_if trivial (dt_not (dt_tru (de_call (gare_planes fc _) (hr.mono (by decide)) hg cx_tk (by rfl) fc.g_are_planes (da_cons (v_ 1) (da_cons (v_ 2) da_nil))))) (dss_one (ds_raiseC fc.e_NotPlanes trivial cx_tk)) dss_nil) (dss_cons (ds_fld trivial (by rfl) (fldC_cons fc.cl_Planes fc.na_Planes_n fldC_nil) (pv 0) (v_ 1)) (dss_one (ds_fld trivial (by rfl) (fldC_cons fc.cl_Planes fc.na_Planes_kept fldC_nil) (pv 0) (de_ty bt_tuple b_tuple (by rfl) fc.f_tuple (da_cons (v_ 2) da_nil)))))))
abbrev NGraph_planes : List Str := ["self", "step"]
theorem cGraph_planes : FnScope NGraph_planes ["self"] (defScope sGraph_planes) := ⟨rfl, rfl, rfl, by decide +kernel, rfl, by decide +kernel, by decide +kernel⟩
theorem gGraph_planes (fc : Fc w K mg) : ∀ base : Heap, FnG prog w K mg base 6 (He.ma K (He.ga K "Graph") "planes") false false Q.FGraph_planes := by
  intro base
  obtain ⟨fd, F⟩ := fc.d_Graph_planes
  refine fnG_of (ps := ["self"]) (N := NGraph_planes) (O := []) (O' := []) F cGraph_planes (F.bindsN fun _ _ _ _ _ _ us hl => match us, hl with | [_], _ => rfl) .nil (fun _ _ => .nil) (by decide) (by decide) (by decide) fun cdv A outer s H E A0 q hio hr hg => ?_
  obtain rfl : q = none := by cases q with
    | none => rfl
    | some _ => cases hio
  have hu := Room.u64 hr
  have hv := Room.u65 hr
  exact (dss_one (ds_ret trivial (DF.toE (df_make fc.mk_Planes (gPlanes_init fc _) (hr.mono (by decide)) hg cx_tk (by rfl) fc.g_Planes (da_cons (de_fld (fldC_cons fc.cl_Graph fc.na_Graph_m fldC_nil) (v_ 0)) (da_cons (DF.toE (df_lc (by rfl) cGraph_planes.nd (by rfl) (di_seq (de_fld (fldC_cons fc.cl_Graph fc.na_Graph_kept fldC_nil) (v_ 0))) (blkOk_by (own := [("step", 1)]) (by kernel_rfl)) (fun _ _ _ _ _ => (dg_name rfl rfl cGraph_planes.nd rfl (Or.inl rfl))) (fun _ _ _ _ _ => pts_nil) tYes_go (fun _ _ _ _ _ => (de_call (gstep_plane fc _) (hr.mono (by decide)) hg (takes0 (by rfl)) (by rfl) fc.g_step_plane (da_cons (de_fld (fldC_cons fc.cl_Graph fc.na_Graph_m fldC_nil) (v_ 0)) (da_cons (v_ 1) da_nil)))))) da_nil))))))
abbrev Nis_step : List Str := ["m", "step", "i", "j", "g"]
theorem cis_step : FnScope Nis_step ["m", "step"] (defScope sis_step) := ⟨rfl, rfl, rfl, by decide +kernel, rfl, by decide +kernel, by decide +kernel⟩
theorem gis_step (fc : Fc w K mg) : Ok prog w K mg 1 "is_step" false false Q.Fis_step := by
  intro base
  obtain ⟨fd, F⟩ := fc.d_is_step
  refine fnG_of (ps := ["m", "step"]) (N := Nis_step) (O := []) (O' := []) F cis_step (F.bindsN fun _ _ _ _ _ _ us hl => match us, hl with | [_, _], _ => rfl) .nil (fun _ _ => .nil) (by decide) (by decide) (by decide) fun cdv A outer s H E A0 q hio hr hg => ?_
  obtain rfl : q = none := by cases q with
    | none => rfl
    | some _ => cases hio
  have hu := Room.u64 hr
  have hv := Room.u65 hr
  exact (dss_cons (ds_if trivial (dt_cmp (od_ne hu) (de_b bt_len b_len (by rfl) fc.f_len (da_cons (v_ 1) da_nil)) de_int (pm _ _)) (dss_one (ds_ret trivial de_bl)) dss_nil) (dss_cons (ds_asg (vs := [2, 3, 4]) trivial (v_ 1) (dg_tup rfl (dgs_cons (dg_name rfl rfl cis_step.nd rfl (Or.inl rfl)) (dgs_cons (dg_name rfl rfl cis_step.nd rfl (Or.inl rfl)) (dgs_cons (dg_name rfl rfl cis_step.nd rfl (Or.inl rfl)) dgs_nil))))) (dss_one (ds_ret trivial (de_and (de_chain3 od_le od_lt od_le de_int (v_ 2) (v_ 3) (v_ 0)) (de_one (de_cmp od_le (de_b bt_abs b_abs (by rfl) fc.f_abs (da_cons (v_ 4) da_nil)) (gi_ fc.c_MOST_GAIN) (pm _ _))))))))
abbrev NGraph_init : List Str := ["self", "m", "steps", "step", "at"]
theorem cGraph_init : FnScope NGraph_init ["self", "m", "steps"] (defScope sGraph_init) := ⟨rfl, rfl, rfl, by decide +kernel, rfl, by decide +kernel, by decide +kernel⟩
theorem gGraph_init (fc : Fc w K mg) : ∀ base : Heap, FnG prog w K mg base 2 (He.ma K (He.ga K "Graph") "__init__") true false Q.FGraph_init := by
  intro base
  obtain ⟨fd, F⟩ := fc.d_Graph_init
  refine fnG_of (ps := ["self", "m", "steps"]) (N := NGraph_init) (O := [0]) (O' := [0]) F cGraph_init (F.bindsN fun _ _ _ _ _ _ us hl => match us, hl with | [_, _, _], _ => rfl) .nil (fun _ _ => .nil) (by decide) (by decide) (by decide) fun cdv A outer s H E A0 q hio hr hg => ?_
  have hu := Room.u64 hr
  have hv := Room.u65 hr
  exact (dss_cons (ds_if trivial (dt_not (dt_chain od_le od_le de_int (v_ 1) (gi_ fc.c_MOST_VERTEX))) (dss_one (ds_raiseC fc.e_BadNumber trivial cx_tk)) dss_nil) (dss_cons (ds_if trivial (DW.t (dw_or (dt_cmp od_gt (de_b bt_len b_len (by rfl) fc.f_len (da_cons (v_ 2) da_nil)) (gi_ fc.c_MOST_STEPS) (pm _ _)) (dw_or1 (dt_not (dt_tru (de_b bt_all (b_all (by rfl)) (by rfl) fc.f_all (da_cons (DF.toE (df_lc (by rfl) cGraph_init.nd (by rfl) (di_seq (v_ 2)) (blkOk_by (own := [("step", 3)]) (by kernel_rfl)) (fun _ _ _ _ _ => (dg_name rfl rfl cGraph_init.nd rfl (Or.inl rfl))) (fun _ _ _ _ _ => pts_nil) tYes_go (fun _ _ _ _ _ => (de_call (gis_step fc _) (hr.mono (by decide)) hg (takes0 (by rfl)) (by rfl) fc.g_is_step (da_cons (v_ 1) (da_cons (v_ 3) da_nil)))))) da_nil))))))) (dss_one (ds_raiseC fc.e_NotGraph trivial cx_tk)) dss_nil) (dss_cons (ds_if trivial (dt_tru (de_b bt_any (b_any (by rfl)) (by rfl) fc.f_any (da_cons (DF.toE (df_lc (by rfl) cGraph_init.nd (by rfl) (di_range1 (by rfl) fc.f_range (da_cons (de_b bt_len b_len (by rfl) fc.f_len (da_cons (v_ 2) da_nil)) da_nil)) (blkOk_by (own := [("at", 4)]) (by kernel_rfl)) (fun _ _ _ _ _ => (dg_name rfl rfl cGraph_init.nd rfl (Or.inl rfl))) (fun _ _ _ _ _ => pts_nil) tYes_go (fun _ _ _ _ _ => (de_cmp (od_in hv) (de_ix ix_d (v_ 2) (v_ 4) (fun _ _ => rfl)) (de_sl (db_e (v_ 2)) dp_no (dp_e (v_ 4))) (pm _ _))))) da_nil))) (dss_one (ds_raiseC fc.e_NotGraph trivial cx_tk)) dss_nil) (dss_cons (ds_fld trivial (by rfl) (fldC_cons fc.cl_Graph fc.na_Graph_m fldC_nil) (pv 0) (v_ 1)) (dss_one (ds_fld trivial (by rfl) (fldC_cons fc.cl_Graph fc.na_Graph_kept fldC_nil) (pv 0) (de_ty bt_tuple b_tuple (by rfl) fc.f_tuple (da_cons (v_ 2) da_nil))))))))
abbrev Nfamily : List Str := ["word", "m", "least", "most", "i", "j", "g"]
theorem cfamily : FnScope Nfamily ["word", "m"] (defScope sfamily) := ⟨rfl, rfl, rfl, by decide +kernel, rfl, by decide +kernel, by decide +kernel⟩
theorem gfamily (fc : Fc w K mg) : Ok prog w K mg 7 "family" false false Ffamily := by
  intro base
  obtain ⟨fd, F⟩ := fc.d_family
  refine fnG_of (ps := ["word", "m"]) (N := Nfamily) (O := []) (O' := []) F cfamily (F.bindsN fun _ _ _ _ _ _ us hl => match us, hl with | [_, _], _ => rfl) .nil (fun _ _ => .nil) (by decide) (by decide) (by decide) fun cdv A outer s H E A0 q hio hr hg => ?_
  obtain rfl : q = none := by cases q with
    | none => rfl
    | some _ => cases hio
  have hu := Room.u64 hr
  have hv := Room.u65 hr
  exact (dss_cons (ds_if trivial (dt_notinT fc.t_RANGES fc.g_RANGES (v_ 0) (pm _ _)) (dss_one (ds_raiseC fc.e_BadNumber trivial cx_tk)) dss_nil) (dss_cons (ds_asg (vs := [2, 3]) trivial (de_ixT fc.t_RANGES fc.g_RANGES (v_ 0) (fun _ _ => rfl)) (dg_tup rfl (dgs_cons (dg_name rfl rfl cfamily.nd rfl (Or.inl rfl)) (dgs_cons (dg_name rfl rfl cfamily.nd rfl (Or.inl rfl)) dgs_nil)))) (dss_cons (ds_if trivial (dt_not (dt_chain od_le od_le (v_ 2) (v_ 1) (v_ 3))) (dss_one (ds_raiseC fc.e_BadNumber trivial cx_tk)) dss_nil) (dss_cons (ds_if trivial (dt_notinT fc.t_GAINS fc.g_GAINS (v_ 0) (pm _ _)) (dss_one (ds_ret trivial (DF.toE (df_make fc.mk_Planes (gPlanes_init fc _) (hr.mono (by decide)) hg cx_tk (by rfl) fc.g_Planes (da_cons (v_ 1) (da_cons (de_call (gmirror_rows fc _) (hr.mono (by decide)) hg cx_tk (by rfl) fc.g_mirror_rows (da_cons (v_ 0) (da_cons (v_ 1) da_nil))) da_nil)))))) dss_nil) (dss_one (ds_ret trivial (de_meth0 (methT_cons (k := 6) fc.cl_Graph fc.me_Graph_planes (FnG.mono (gGraph_planes fc _) (by decide)) methT_nil) (hr.mono (by decide)) hg cx_tk (DF.toE (df_make fc.mk_Graph (gGraph_init fc _) (hr.mono (by decide)) hg cx_tk (by rfl) fc.g_Graph (da_cons (v_ 1) (da_cons (DF.toE (df_lc2 (by rfl) cfamily.nd (by rfl) (di_seq (de_call (gall_pairs fc _) (hr.mono (by decide)) hg cx_tk (by rfl) fc.g_all_pairs (da_cons de_int (da_cons (v_ 1) da_nil)))) (blkOk_by (own := [("i", 4), ("j", 5), ("g", 6)]) (by kernel_rfl)) (vs1 := [6]) (by rfl) (fun _ _ _ _ _ => (dg_tup rfl (dgs_cons (dg_name rfl rfl cfamily.nd rfl (Or.inl rfl)) (dgs_cons (dg_name rfl rfl cfamily.nd rfl (Or.inl rfl)) dgs_nil)))) (fun _ _ _ _ _ => dts_no) (fun _ _ _ _ _ => (di_seq (de_ixT fc.t_GAINS fc.g_GAINS (v_ 0) (fun _ _ => rfl)))) (fun _ _ _ _ _ => (dg_name rfl rfl cfamily.nd rfl (Or.inl rfl))) (fun _ _ _ _ _ => dts_no) (fun _ _ _ _ _ => (de_tup (da_cons (v_ 4) (da_cons (v_ 5) (da_cons (v_ 6) da_nil))))))) da_nil)))))))))))
abbrev N_law_pairs : List Str := ["first", "last", "found", "i", "j"]
theorem c_law_pairs : FnScope N_law_pairs ["first", "last"] (defScope s_law_pairs) := ⟨rfl, rfl, rfl, by decide +kernel, rfl, by decide +kernel, by decide +kernel⟩
theorem g_law_pairs (fc : Fc w K mg) : Ok prog w K mg 1 "_law_pairs" false false Q.F_law_pairs := by
  intro base
  obtain ⟨fd, F⟩ := fc.d__law_pairs
  refine fnG_of (ps := ["first", "last"]) (N := N_law_pairs) (O := []) (O' := []) F c_law_pairs (F.bindsN fun _ _ _ _ _ _ us hl => match us, hl with | [_, _], _ => rfl) .nil (fun _ _ => .nil) (by decide) (by decide) (by decide) fun cdv A outer s H E A0 q hio hr hg => ?_
  obtain rfl : q = none := by cases q with
    | none => rfl
    | some _ => cases hio
  have hu := Room.u64 hr
  have hv := Room.u65 hr
  exact (dss_forgetO 2 (.inl (by decide)) (dss_cons (ds_own trivial (df_lst da_nil) rfl (.inl (by decide)) c_law_pairs.nd rfl (Or.inl rfl)) (dss_cons (ds_for (vs := [3]) trivial cx_pw rfl (di_range2 (by rfl) fc.f_range (da_cons (v_ 0) (da_cons (de_bin od_add (v_ 1) de_int) da_nil))) (dg_name rfl rfl c_law_pairs.nd rfl (Or.inr rfl)) (dss_one (ds_expr trivial (de_om om_extend PySem.F.slot_list_extend PySem.F.type_list_extend (by rfl) (pv 2) (da_cons (DF.toE (df_lc (by rfl) c_law_pairs.nd (by rfl) (di_range2 (by rfl) fc.f_range (da_cons (de_bin od_add (v_ 3) de_int) (da_cons (de_bin od_add (v_ 1) de_int) da_nil))) (blkOk_by (own := [("j", 4)]) (by kernel_rfl)) (fun _ _ _ _ _ => (dg_name rfl rfl c_law_pairs.nd rfl (Or.inl rfl))) (fun _ _ _ _ _ => pts_nil) tYes_go (fun _ _ _ _ _ => (de_tup (da_cons (v_ 3) (da_cons (v_ 4) da_nil)))))) da_nil))))) (dss_one (ds_retOv rfl (.inl (by decide)) (pv 2))))))
abbrev N_law_unit : List Str := ["m", "parts", "row", "letter", "a"]
theorem c_law_unit : FnScope N_law_unit ["m", "parts"] (defScope s_law_unit) := ⟨rfl, rfl, rfl, by decide +kernel, rfl, by decide +kernel, by decide +kernel⟩
theorem g_law_unit (fc : Fc w K mg) : Ok prog w K mg 1 "_law_unit" false false Q.F_law_unit_v2 := by
  intro base
  obtain ⟨fd, F⟩ := fc.d__law_unit
  refine fnG_of (ps := ["m", "parts"]) (N := N_law_unit) (O := []) (O' := []) F c_law_unit (F.bindsN fun _ _ _ _ _ _ us hl => match us, hl with | [_, _], _ => rfl) .nil (fun _ _ => .nil) (by decide) (by decide) (by decide) fun cdv A outer s H E A0 q hio hr hg => ?_
  obtain rfl : q = none := by cases q with
    | none => rfl
    | some _ => cases hio
  have hu := Room.u64 hr
  have hv := Room.u65 hr
  exact (dss_forgetO 2 (.inl (by decide)) (dss_cons (ds_own trivial (df_bin od_mulF (DF.toE (df_lst (da_cons de_int da_nil))) (de_bin od_add (v_ 0) de_int)) rfl (.inl (by decide)) c_law_unit.nd rfl (Or.inl rfl)) (dss_cons (ds_for (vs := [3, 4]) trivial cx_pw rfl (di_seq (v_ 1)) (dg_tup rfl (dgs_cons (dg_name rfl rfl c_law_unit.nd rfl (Or.inl rfl)) (dgs_cons (dg_name rfl rfl c_law_unit.nd rfl (Or.inl rfl)) dgs_nil))) (dss_one (ds_if trivial (dt_cmp od_gt (v_ 3) de_int (pm _ _)) (dss_one (ds_asg (vs := []) trivial (v_ 4) (dg_sub (by rfl) (pv 2) (de_bin od_sub (v_ 3) de_int)))) dss_nil))) (dss_one (ds_retOv rfl (.inl (by decide)) (pv 2))))))
abbrev N_law_gains : List Str := ["word"]
theorem c_law_gains : FnScope N_law_gains ["word"] (defScope s_law_gains) := ⟨rfl, rfl, rfl, by decide +kernel, rfl, by decide +kernel, by decide +kernel⟩
theorem g_law_gains (fc : Fc w K mg) : Ok prog w K mg 1 "_law_gains" false false Q.F_law_gains := by
  intro base
  obtain ⟨fd, F⟩ := fc.d__law_gains
  refine fnG_of (ps := ["word"]) (N := N_law_gains) (O := []) (O' := []) F c_law_gains (F.bindsN fun _ _ _ _ _ _ us hl => match us, hl with | [_], _ => rfl) .nil (fun _ _ => .nil) (by decide) (by decide) (by decide) fun cdv A outer s H E A0 q hio hr hg => ?_
  obtain rfl : q = none := by cases q with
    | none => rfl
    | some _ => cases hio
  have hu := Room.u64 hr
  have hv := Room.u65 hr
  exact (dss_one (ds_ret trivial (de_ix ix_d (DF.toE (df_lst (da_cons (DF.toE (df_lst (da_cons de_int (da_cons (de_un ud_neg de_int) da_nil)))) (da_cons (DF.toE (df_lst (da_cons (de_un ud_neg de_int) (da_cons de_int (da_cons de_int da_nil))))) (da_cons (DF.toE (df_lst (da_cons (de_un ud_neg de_int) (da_cons de_int da_nil)))) (da_cons (DF.toE (df_lst (da_cons de_int da_nil))) da_nil)))))) (de_lm PySem.F.slot_list_index PySem.F.type_list_index (mt_lindexD hv) (DF.toE (df_lst (da_cons de_str (da_cons de_str (da_cons de_str (da_cons de_str da_nil)))))) (da_cons (v_ 0) da_nil)) (fun _ _ => rfl))))
abbrev N_law_due : List Str := ["word", "m", "found", "i", "j", "g", "axes", "less", "at", "k", "even", "a"]
theorem c_law_due : FnScope N_law_due ["word", "m"] (defScope s_law_due) := ⟨rfl, rfl, rfl, by decide +kernel, rfl, by decide +kernel, by decide +kernel⟩
theorem g_law_due (fc : Fc w K mg) : Ok prog w K mg 2 "_law_due" false false Q.F_law_due := by
  intro base
  obtain ⟨fd, F⟩ := fc.d__law_due
  refine fnG_of (ps := ["word", "m"]) (N := N_law_due) (O := []) (O' := []) F c_law_due (F.bindsN fun _ _ _ _ _ _ us hl => match us, hl with | [_, _], _ => rfl) .nil (fun _ _ => .nil) (by decide) (by decide) (by decide) fun cdv A outer s H E A0 q hio hr hg => ?_
  obtain rfl : q = none := by cases q with
    | none => rfl
    | some _ => cases hio
  have hu := Room.u64 hr
  have hv := Room.u65 hr
  exact (dss_cons (ds_if trivial (dt_cmp (od_in hv) (v_ 0) (DF.toE (df_lst (da_cons de_str (da_cons de_str (da_cons de_str (da_cons de_str da_nil)))))) (pm _ _)) (dss_forgetO 2 (.inl (by decide)) (dss_cons (ds_own trivial (df_lst da_nil) rfl (.inl (by decide)) c_law_due.nd rfl (Or.inl rfl)) (dss_cons (ds_for (vs := [3, 4]) trivial cx_pw rfl (di_seq (de_call (g_law_pairs fc _) (hr.mono (by decide)) hg cx_tk (by rfl) fc.g__law_pairs (da_cons de_int (da_cons (v_ 1) da_nil)))) (dg_tup rfl (dgs_cons (dg_name rfl rfl c_law_due.nd rfl (Or.inr rfl)) (dgs_cons (dg_name rfl rfl c_law_due.nd rfl (Or.inr rfl)) dgs_nil))) (dss_one (ds_expr trivial (de_om om_extend PySem.F.slot_list_extend PySem.F.type_list_extend (by rfl) (pv 2) (da_cons (DF.toE (df_lc (by rfl) c_law_due.nd (by rfl) (di_seq (de_call (g_law_gains fc _) (hr.mono (by decide)) hg cx_tk (by rfl) fc.g__law_gains (da_cons (v_ 0) da_nil))) (blkOk_by (own := [("g", 5)]) (by kernel_rfl)) (fun _ _ _ _ _ => (dg_name rfl rfl c_law_due.nd rfl (Or.inl rfl))) (fun _ _ _ _ _ => pts_nil) tYes_go (fun _ _ _ _ _ => (de_ty bt_tuple b_tuple (by rfl) fc.f_tuple (da_cons (de_bin od_add (de_sl (db_e (de_call (g_law_unit fc _) (hr.mono (by decide)) hg (takes0 (by rfl)) (by rfl) fc.g__law_unit (da_cons (v_ 1) (da_cons (DF.toE (df_lst (da_cons (de_tup (da_cons (v_ 4) (da_cons de_int da_nil))) (da_cons (de_tup (da_cons (v_ 3) (da_cons (de_un ud_neg de_int) da_nil))) da_nil)))) da_nil)))) dp_no (dp_e (v_ 1))) (DF.toE (df_lst (da_cons (v_ 5) da_nil)))) da_nil))))) da_nil))))) (dss_one (ds_retOv rfl (.inl (by decide)) (pv 2)))))) dss_nil) (dss_cons (ds_setLc trivial rfl rfl c_law_due.nd rfl rfl (sw_true rfl rfl rfl (by kernel_rfl)) (by rfl) (di_range2 (by rfl) fc.f_range (da_cons de_int (da_cons (de_bin od_add (v_ 1) de_int) da_nil))) (blkOk_by (own := [("i", 3)]) (by kernel_rfl)) (fun _ _ _ _ _ => (dg_name rfl rfl c_law_due.nd rfl (Or.inl rfl))) (fun _ _ _ _ _ => pts_nil) tYes_go (fun _ _ _ _ _ => (de_ty bt_tuple b_tuple (by rfl) fc.f_tuple (da_cons (de_call (g_law_unit fc _) (hr.mono (by decide)) hg (takes0 (by rfl)) (by rfl) fc.g__law_unit (da_cons (v_ 1) (da_cons (DF.toE (df_lst (da_cons (de_tup (da_cons (v_ 3) (da_cons de_int da_nil))) da_nil))) da_nil))) da_nil)))) (dss_cons (ds_setLc trivial rfl rfl c_law_due.nd rfl rfl (sw_true rfl rfl rfl (by kernel_rfl)) (by rfl) (di_seq (de_call (g_law_pairs fc _) (hr.mono (by decide)) hg cx_tk (by rfl) fc.g__law_pairs (da_cons de_int (da_cons (v_ 1) da_nil)))) (blkOk_by (own := [("i", 3), ("j", 4)]) (by kernel_rfl)) (fun _ _ _ _ _ => (dg_tup rfl (dgs_cons (dg_name rfl rfl c_law_due.nd rfl (Or.inl rfl)) (dgs_cons (dg_name rfl rfl c_law_due.nd rfl (Or.inl rfl)) dgs_nil)))) (fun _ _ _ _ _ => pts_nil) tYes_go (fun _ _ _ _ _ => (de_ty bt_tuple b_tuple (by rfl) fc.f_tuple (da_cons (de_call (g_law_unit fc _) (hr.mono (by decide)) hg (takes0 (by rfl)) (by rfl) fc.g__law_unit (da_cons (v_ 1) (da_cons (DF.toE (df_lst (da_cons (de_tup (da_cons (v_ 3) (da_cons de_int da_nil))) (da_cons (de_tup (da_cons (v_ 4) (da_cons (de_un ud_neg de_int) da_nil))) da_nil)))) da_nil))) da_nil)))) (dss_cons (ds_if trivial (dt_cmp (od_eq hu) (v_ 0) de_str (pm _ _)) (dss_one (ds_ret trivial (v_ 6))) dss_nil) (dss_cons (ds_if trivial (dt_cmp (od_eq hu) (v_ 0) de_str (pm _ _)) (dss_one (ds_ret trivial (v_ 7))) dss_nil) (dss_cons (ds_if trivial (dt_cmp (od_eq hu) (v_ 0) de_str (pm _ _)) (dss_one (ds_ret trivial (de_bin od_add (v_ 7) (DF.toE (df_lc (by rfl) c_law_due.nd (by rfl) (di_range1 (by rfl) fc.f_range (da_cons de_int da_nil)) (blkOk_by (own := [("k", 9)]) (by kernel_rfl)) (fun _ _ _ _ _ => (dg_name rfl rfl c_law_due.nd rfl (Or.inr rfl))) (fun _ _ _ _ _ => pts_nil) tYes_go (fun _ _ _ _ _ => (de_ty bt_tuple b_tuple (by rfl) fc.f_tuple (da_cons (de_bin od_add (DF.toE (df_lc (by rfl) c_law_due.nd (by rfl) (di_range1 (by rfl) fc.f_range (da_cons de_int da_nil)) (blkOk_by (own := [("at", 8)]) (by kernel_rfl)) (fun _ _ _ _ _ => (dg_name rfl rfl c_law_due.nd rfl (Or.inl rfl))) (fun _ _ _ _ _ => pts_nil) tYes_go (fun _ _ _ _ _ => (de_if (dt_cmp (od_eq hu) (v_ 8) (v_ 9) (pm _ _)) de_int (de_un ud_neg de_int))))) (DF.toE (df_lst (da_cons de_int da_nil)))) da_nil)))))))) dss_nil) (dss_forgetO 10 (.inl (by decide)) (dss_cons (ds_own trivial (df_lst da_nil) rfl (.inl (by decide)) c_law_due.nd rfl (Or.inl rfl)) (dss_cons (ds_for (vs := [3, 4]) trivial cx_pw rfl (di_seq (de_call (g_law_pairs fc _) (hr.mono (by decide)) hg cx_tk (by rfl) fc.g__law_pairs (da_cons de_int (da_cons (v_ 1) da_nil)))) (dg_tup rfl (dgs_cons (dg_name rfl rfl c_law_due.nd rfl (Or.inr rfl)) (dgs_cons (dg_name rfl rfl c_law_due.nd rfl (Or.inr rfl)) dgs_nil))) (dss_one (ds_expr trivial (de_om om_extend PySem.F.slot_list_extend PySem.F.type_list_extend (by rfl) (pv 10) (da_cons (DF.toE (df_lc (by rfl) c_law_due.nd (by rfl) (di_seq (DF.toE (df_lst (da_cons (de_un ud_neg de_int) (da_cons de_int da_nil))))) (blkOk_by (own := [("a", 11)]) (by kernel_rfl)) (fun _ _ _ _ _ => (dg_name rfl rfl c_law_due.nd rfl (Or.inl rfl))) (fun _ _ _ _ _ => pts_nil) tYes_go (fun _ _ _ _ _ => (de_ty bt_tuple b_tuple (by rfl) fc.f_tuple (da_cons (de_call (g_law_unit fc _) (hr.mono (by decide)) hg (takes0 (by rfl)) (by rfl) fc.g__law_unit (da_cons (v_ 1) (da_cons (DF.toE (df_lst (da_cons (de_tup (da_cons (v_ 3) (da_cons de_int da_nil))) (da_cons (de_tup (da_cons (v_ 4) (da_cons (v_ 11) da_nil))) da_nil)))) da_nil))) da_nil))))) da_nil))))) (dss_freeze 10 (.inl (by decide)) (dss_one (ds_ret trivial (de_if (dt_cmp (od_eq hu) (v_ 0) de_str (pm _ _)) (v_ 10) (de_bin od_add (v_ 6) (v_ 10)))))))))))))))
abbrev Nlowest : List Str := ["a", "b", "common"]
theorem clowest : FnScope Nlowest ["a", "b"] (defScope slowest) := ⟨rfl, rfl, rfl, by decide +kernel, rfl, by decide +kernel, by decide +kernel⟩
theorem glowest (fc : Fc w K mg) : Ok prog w K mg 2 "lowest" false false Q.Flowest := by
  intro base
  obtain ⟨fd, F⟩ := fc.d_lowest
  refine fnG_of (ps := ["a", "b"]) (N := Nlowest) (O := []) (O' := []) F clowest (F.bindsN fun _ _ _ _ _ _ us hl => match us, hl with | [_, _], _ => rfl) .nil (fun _ _ => .nil) (by decide) (by decide) (by decide) fun cdv A outer s H E A0 q hio hr hg => ?_
  obtain rfl : q = none := by cases q with
    | none => rfl
    | some _ => cases hio
  have hu := Room.u64 hr
  have hv := Room.u65 hr
  exact (dss_cons (ds_asg (vs := [2]) trivial (de_call (gdivisor fc _) (hr.mono (by decide)) hg cx_tk (by rfl) fc.g_divisor (da_cons (v_ 0) (da_cons (v_ 1) da_nil))) (dg_name rfl rfl clowest.nd rfl (Or.inl rfl))) (dss_cons (ds_if trivial (dt_cmp od_lt (v_ 1) de_int (pm _ _)) (dss_one (ds_asg (vs := [2]) trivial (de_un ud_neg (v_ 2)) (dg_name rfl rfl clowest.nd rfl (Or.inl rfl)))) dss_nil) (dss_one (ds_ret trivial (de_tup (da_cons (de_bin od_div (v_ 0) (v_ 2)) (da_cons (de_bin od_div (v_ 1) (v_ 2)) da_nil)))))))
abbrev Ninverted : List Str := ["x"]
theorem cinverted : FnScope Ninverted ["x"] (defScope sinverted) := ⟨rfl, rfl, rfl, by decide +kernel, rfl, by decide +kernel, by decide +kernel⟩
theorem ginverted (fc : Fc w K mg) : Ok prog w K mg 3 "inverted" false false Q.Finverted := by
  intro base
  obtain ⟨fd, F⟩ := fc.d_inverted
  refine fnG_of (ps := ["x"]) (N := Ninverted) (O := []) (O' := []) F cinverted (F.bindsN fun _ _ _ _ _ _ us hl => match us, hl with | [_], _ => rfl) .nil (fun _ _ => .nil) (by decide) (by decide) (by decide) fun cdv A outer s H E A0 q hio hr hg => ?_
  obtain rfl : q = none := by cases q with
    | none => rfl
    | some _ => cases hio
  have hu := Room.u64 hr
  have hv := Room.u65 hr
  exact (dss_one (ds_ret trivial (de_call (glowest fc _) (hr.mono (by decide)) hg cx_tk (by rfl) fc.g_lowest (da_cons (de_ix ix_d (v_ 0) de_int (fun _ _ => rfl)) (da_cons (de_ix ix_d (v_ 0) de_int (fun _ _ => rfl)) da_nil)))))
abbrev Nmultiplied : List Str := ["x", "y"]
theorem cmultiplied : FnScope Nmultiplied ["x", "y"] (defScope smultiplied) := ⟨rfl, rfl, rfl, by decide +kernel, rfl, by decide +kernel, by decide +kernel⟩
theorem gmultiplied (fc : Fc w K mg) : Ok prog w K mg 3 "multiplied" false false Q.Fmultiplied := by
  intro base
  obtain ⟨fd, F⟩ := fc.d_multiplied
  refine fnG_of (ps := ["x", "y"]) (N := Nmultiplied) (O := []) (O' := []) F cmultiplied (F.bindsN fun _ _ _ _ _ _ us hl => match us, hl with | [_, _], _ => rfl) .nil (fun _ _ => .nil) (by decide) (by decide) (by decide) fun cdv A outer s H E A0 q hio hr hg => ?_
  obtain rfl : q = none := by cases q with
    | none => rfl
    | some _ => cases hio
  have hu := Room.u64 hr
  have hv := Room.u65 hr
  exact (dss_one (ds_ret trivial (de_call (glowest fc _) (hr.mono (by decide)) hg cx_tk (by rfl) fc.g_lowest (da_cons (de_bin od_mul (de_ix ix_d (v_ 0) de_int (fun _ _ => rfl)) (de_ix ix_d (v_ 1) de_int (fun _ _ => rfl))) (da_cons (de_bin od_mul (de_ix ix_d (v_ 0) de_int (fun _ _ => rfl)) (de_ix ix_d (v_ 1) de_int (fun _ _ => rfl))) da_nil)))))
abbrev Nnegated : List Str := ["x"]
theorem cnegated : FnScope Nnegated ["x"] (defScope snegated) := ⟨rfl, rfl, rfl, by decide +kernel, rfl, by decide +kernel, by decide +kernel⟩
theorem gnegated (fc : Fc w K mg) : Ok prog w K mg 1 "negated" false false Q.Fnegated := by
  intro base
  obtain ⟨fd, F⟩ := fc.d_negated
  refine fnG_of (ps := ["x"]) (N := Nnegated) (O := []) (O' := []) F cnegated (F.bindsN fun _ _ _ _ _ _ us hl => match us, hl with | [_], _ => rfl) .nil (fun _ _ => .nil) (by decide) (by decide) (by decide) fun cdv A outer s H E A0 q hio hr hg => ?_
  obtain rfl : q = none := by cases q with
    | none => rfl
    | some _ => cases hio
  have hu := Room.u64 hr
  have hv := Room.u65 hr
  exact (dss_one (ds_ret trivial (de_tup (da_cons (de_un ud_neg (de_ix ix_d (v_ 0) de_int (fun _ _ => rfl))) (da_cons (de_ix ix_d (v_ 0) de_int (fun _ _ => rfl)) da_nil)))))
abbrev Nsummed : List Str := ["x", "y"]
theorem csummed : FnScope Nsummed ["x", "y"] (defScope ssummed) := ⟨rfl, rfl, rfl, by decide +kernel, rfl, by decide +kernel, by decide +kernel⟩
theorem gsummed (fc : Fc w K mg) : Ok prog w K mg 3 "summed" false false Q.Fsummed := by
  intro base
  obtain ⟨fd, F⟩ := fc.d_summed
  refine fnG_of (ps := ["x", "y"]) (N := Nsummed) (O := []) (O' := []) F csummed (F.bindsN fun _ _ _ _ _ _ us hl => match us, hl with | [_, _], _ => rfl) .nil (fun _ _ => .nil) (by decide) (by decide) (by decide) fun cdv A outer s H E A0 q hio hr hg => ?_
  obtain rfl : q = none := by cases q with
    | none => rfl
    | some _ => cases hio
  have hu := Room.u64 hr
  have hv := Room.u65 hr
  exact (dss_one (ds_ret trivial (de_call (glowest fc _) (hr.mono (by decide)) hg cx_tk (by rfl) fc.g_lowest (da_cons (de_bin od_add (de_bin od_mul (de_ix ix_d (v_ 0) de_int (fun _ _ => rfl)) (de_ix ix_d (v_ 1) de_int (fun _ _ => rfl))) (de_bin od_mul (de_ix ix_d (v_ 1) de_int (fun _ _ => rfl)) (de_ix ix_d (v_ 0) de_int (fun _ _ => rfl)))) (da_cons (de_bin od_mul (de_ix ix_d (v_ 0) de_int (fun _ _ => rfl)) (de_ix ix_d (v_ 1) de_int (fun _ _ => rfl))) da_nil)))))
abbrev Nlessened : List Str := ["row", "factor", "other", "less", "x", "y"]
theorem clessened : FnScope Nlessened ["row", "factor", "other"] (defScope slessened) := ⟨rfl, rfl, rfl, by decide +kernel, rfl, by decide +kernel, by decide +kernel⟩
theorem glessened (fc : Fc w K mg) : Ok prog w K mg 4 "lessened" false false Q.Flessened := by
  intro base
  obtain ⟨fd, F⟩ := fc.d_lessened
  refine fnG_of (ps := ["row", "factor", "other"]) (N := Nlessened) (O := []) (O' := []) F clessened (F.bindsN fun _ _ _ _ _ _ us hl => match us, hl with | [_, _, _], _ => rfl) .nil (fun _ _ => .nil) (by decide) (by decide) (by decide) fun cdv A outer s H E A0 q hio hr hg => ?_
  obtain rfl : q = none := by cases q with
    | none => rfl
    | some _ => cases hio
  have hu := Room.u64 hr
  have hv := Room.u65 hr
  exact (dss_cons (ds_asg (vs := [3]) trivial (de_call (gnegated fc _) (hr.mono (by decide)) hg cx_tk (by rfl) fc.g_negated (da_cons (v_ 1) da_nil)) (dg_name rfl rfl clessened.nd rfl (Or.inr rfl))) (dss_one (ds_ret trivial (DF.toE (df_lc (by rfl) clessened.nd (by rfl) (di_zipS (by rfl) fc.f_zip (da_cons (v_ 0) (da_cons (v_ 2) da_nil))) (blkOk_by (own := [("x", 4), ("y", 5)]) (by kernel_rfl)) (fun _ _ _ _ _ => (dg_tup rfl (dgs_cons (dg_name rfl rfl clessened.nd rfl (Or.inl rfl)) (dgs_cons (dg_name rfl rfl clessened.nd rfl (Or.inl rfl)) dgs_nil)))) (fun _ _ _ _ _ => pts_nil) tYes_go (fun _ _ _ _ _ => (de_call (gsummed fc _) (hr.mono (by decide)) hg (takes0 (by rfl)) (by rfl) fc.g_summed (da_cons (v_ 4) (da_cons (de_call (gmultiplied fc _) (hr.mono (by decide)) hg (takes0 (by rfl)) (by rfl) fc.g_multiplied (da_cons (v_ 3) (da_cons (v_ 5) da_nil))) da_nil)))))))))
abbrev Nreduced : List Str := ["rows", "columns", "left", "row", "pivots", "column", "top", "here", "at", "factor", "x"]
theorem creduced : FnScope Nreduced ["rows", "columns"] (defScope sreduced) := ⟨rfl, rfl, rfl, by decide +kernel, rfl, by decide +kernel, by decide +kernel⟩
theorem greduced (fc : Fc w K mg) : Ok prog w K mg 5 "reduced" false false Q.Freduced := by
  intro base
  obtain ⟨fd, F⟩ := fc.d_reduced
  refine fnG_of (ps := ["rows", "columns"]) (N := Nreduced) (O := []) (O' := []) F creduced (F.bindsN fun _ _ _ _ _ _ us hl => match us, hl with | [_, _], _ => rfl) .nil (fun _ _ => .nil) (by decide) (by decide) (by decide) fun cdv A outer s H E A0 q hio hr hg => ?_
  obtain rfl : q = none := by cases q with
    | none => rfl
    | some _ => cases hio
  have hu := Room.u64 hr
  have hv := Room.u65 hr
  exact (dss_forgetO 2 (.inl (by decide)) (dss_cons (ds_own trivial (df_lc (by rfl) creduced.nd (by rfl) (di_seq (v_ 0)) (blkOk_by (own := [("row", 3)]) (by kernel_rfl)) (fun _ _ _ _ _ => (dg_name rfl rfl creduced.nd rfl (Or.inl rfl))) (fun _ _ _ _ _ => pts_nil) tYes_go (fun _ _ _ _ _ => (de_ty bt_list (b_list (by rfl)) (by rfl) fc.f_list (da_cons (v_ 3) da_nil)))) rfl (.inl (by decide)) creduced.nd rfl (Or.inr rfl)) (dss_forgetO 4 (.inl (by decide)) (dss_cons (ds_own trivial (df_lst da_nil) rfl (.inl (by decide)) creduced.nd rfl (Or.inl rfl)) (dss_cons (ds_for (vs := [5]) trivial cx_pw rfl (di_range1 (by rfl) fc.f_range (da_cons (v_ 1) da_nil)) (dg_name rfl rfl creduced.nd rfl (Or.inr rfl)) (dss_cons (ds_asg (vs := [6]) trivial (de_bO (by rfl) bt_len b_len (by rfl) fc.f_len (pv 4)) (dg_name rfl rfl creduced.nd rfl (Or.inl rfl))) (dss_cons (ds_setLc1 trivial rfl rfl creduced.nd rfl rfl (sw_true rfl rfl rfl (by kernel_rfl)) (by rfl) (di_range2 (by rfl) fc.f_range (da_cons (v_ 6) (da_cons (de_bO (by rfl) bt_len b_len (by rfl) fc.f_len (pv 2)) da_nil))) (blkOk_by (own := [("at", 8)]) (by kernel_rfl)) (fun _ _ _ _ _ => (dg_name rfl rfl creduced.nd rfl (Or.inl rfl))) (fun _ _ _ _ _ => (dt_cmp (od_ne hu) (de_ix ix_d (de_ixB ix_d gIx_no (db_o (by rfl) (pv 2)) (db_e (v_ 8)) (fun _ _ => rfl)) (v_ 5) (fun _ _ => rfl)) (gt_ fc.g_ZERO fc.c_ZERO cZERO_rp) (pm _ _)))  (fun _ _ _ _ _ => (v_ 8))) (dss_cons (ds_if trivial (dt_not (dt_tru (v_ 7))) (dss_one ds_cnt) dss_nil) (dss_cons (ds_asg (vs := []) trivial (de_tup (da_cons (de_ixB ix_d gIx_no (db_o (by rfl) (pv 2)) (db_e (de_ix ix_d (v_ 7) de_int (fun _ _ => rfl))) (fun _ _ => rfl)) (da_cons (de_ixB ix_d gIx_no (db_o (by rfl) (pv 2)) (db_e (v_ 6)) (fun _ _ => rfl)) da_nil))) (dg_tup rfl (dgs_cons (dg_sub (by rfl) (pv 2) (v_ 6)) (dgs_cons (dg_sub (by rfl) (pv 2) (de_ix ix_d (v_ 7) de_int (fun _ _ => rfl))) dgs_nil)))) (dss_cons (ds_asg (vs := [9]) trivial (de_call (ginverted fc _) (hr.mono (by decide)) hg cx_tk (by rfl) fc.g_inverted (da_cons (de_ix ix_d (de_ixB ix_d gIx_no (db_o (by rfl) (pv 2)) (db_e (v_ 6)) (fun _ _ => rfl)) (v_ 5) (fun _ _ => rfl)) da_nil)) (dg_name rfl rfl creduced.nd rfl (Or.inr rfl))) (dss_cons (ds_asg (vs := []) trivial (DF.toE (df_lc (by rfl) creduced.nd (by rfl) (di_seq (de_ixB ix_d gIx_no (db_o (by rfl) (pv 2)) (db_e (v_ 6)) (fun _ _ => rfl))) (blkOk_by (own := [("x", 10)]) (by kernel_rfl)) (fun _ _ _ _ _ => (dg_name rfl rfl creduced.nd rfl (Or.inl rfl))) (fun _ _ _ _ _ => pts_nil) tYes_go (fun _ _ _ _ _ => (de_call (gmultiplied fc _) (hr.mono (by decide)) hg (takes0 (by rfl)) (by rfl) fc.g_multiplied (da_cons (v_ 9) (da_cons (v_ 10) da_nil)))))) (dg_sub (by rfl) (pv 2) (v_ 6))) (dss_cons (ds_for (vs := [8]) trivial cx_pw rfl (di_range1 (by rfl) fc.f_range (da_cons (de_bO (by rfl) bt_len b_len (by rfl) fc.f_len (pv 2)) da_nil)) (dg_name rfl rfl creduced.nd rfl (Or.inl rfl)) (dss_one (ds_if trivial (DW.t (dw_and (dt_cmp (od_ne hu) (v_ 8) (v_ 6) (pm _ _)) (dw_and1 (dt_cmp (od_ne hu) (de_ix ix_d (de_ixB ix_d gIx_no (db_o (by rfl) (pv 2)) (db_e (v_ 8)) (fun _ _ => rfl)) (v_ 5) (fun _ _ => rfl)) (gt_ fc.g_ZERO fc.c_ZERO cZERO_rp) (pm _ _))))) (dss_one (ds_asg (vs := []) trivial (de_call (glessened fc _) (hr.mono (by decide)) hg cx_tk (by rfl) fc.g_lessened (da_cons (de_ixB ix_d gIx_no (db_o (by rfl) (pv 2)) (db_e (v_ 8)) (fun _ _ => rfl)) (da_cons (de_ix ix_d (de_ixB ix_d gIx_no (db_o (by rfl) (pv 2)) (db_e (v_ 8)) (fun _ _ => rfl)) (v_ 5) (fun _ _ => rfl)) (da_cons (de_ixB ix_d gIx_no (db_o (by rfl) (pv 2)) (db_e (v_ 6)) (fun _ _ => rfl)) da_nil)))) (dg_sub (by rfl) (pv 2) (v_ 8)))) dss_nil))) (dss_one (ds_expr trivial (de_om om_append PySem.F.slot_list_append PySem.F.type_list_append (by rfl) (pv 4) (da_cons (v_ 5) da_nil)))))))))))) (dss_freeze 4 (.inl (by decide)) (dss_freeze 2 (.inl (by decide)) (dss_one (ds_ret trivial (de_tup (da_cons (v_ 2) (da_cons (v_ 4) da_nil))))))))))))
abbrev Ninverse_of : List Str := ["rows", "width", "named", "at", "row", "other", "left", "pivots"]
theorem cinverse_of : FnScope Ninverse_of ["rows"] (defScope sinverse_of) := ⟨rfl, rfl, rfl, by decide +kernel, rfl, by decide +kernel, by decide +kernel⟩
theorem ginverse_of (fc : Fc w K mg) : Ok prog w K mg 6 "inverse_of" false false Q.Finverse_of := by
  intro base
  obtain ⟨fd, F⟩ := fc.d_inverse_of
  refine fnG_of (ps := ["rows"]) (N := Ninverse_of) (O := []) (O' := []) F cinverse_of (F.bindsN fun _ _ _ _ _ _ us hl => match us, hl with | [_], _ => rfl) .nil (fun _ _ => .nil) (by decide) (by decide) (by decide) fun cdv A outer s H E A0 q hio hr hg => ?_
  obtain rfl : q = none := by cases q with
    | none => rfl
    | some _ => cases hio
  have hu := Room.u64 hr
  have hv := Room.u65 hr
  exact (dss_cons (ds_asg (vs := [1]) trivial (de_b bt_len b_len (by rfl) fc.f_len (da_cons (v_ 0) da_nil)) (dg_name rfl rfl cinverse_of.nd rfl (Or.inr rfl))) (dss_forgetO 2 (.inl (by decide)) (dss_cons (ds_own trivial (df_lst da_nil) rfl (.inl (by decide)) cinverse_of.nd rfl (Or.inl rfl)) (dss_cons (ds_for (vs := [3, 4]) trivial cx_pw rfl (di_enumS (by rfl) fc.f_enumerate (da_cons (v_ 0) da_nil)) (dg_tup rfl (dgs_cons (dg_name rfl rfl cinverse_of.nd rfl (Or.inr rfl)) (dgs_cons (dg_name rfl rfl cinverse_of.nd rfl (Or.inl rfl)) dgs_nil))) (dss_one (ds_expr trivial (de_om om_append PySem.F.slot_list_append PySem.F.type_list_append (by rfl) (pv 2) (da_cons (de_bin od_add (de_ty bt_list (b_list (by rfl)) (by rfl) fc.f_list (da_cons (v_ 4) da_nil)) (DF.toE (df_lc (by rfl) cinverse_of.nd (by rfl) (di_range1 (by rfl) fc.f_range (da_cons (v_ 1) da_nil)) (blkOk_by (own := [("other", 5)]) (by kernel_rfl)) (fun _ _ _ _ _ => (dg_name rfl rfl cinverse_of.nd rfl (Or.inl rfl))) (fun _ _ _ _ _ => pts_nil) tYes_go (fun _ _ _ _ _ => (de_if (dt_cmp (od_eq hu) (v_ 5) (v_ 3) (pm _ _)) (gt_ fc.g_ONE fc.c_ONE cONE_rp) (gt_ fc.g_ZERO fc.c_ZERO cZERO_rp)))))) da_nil))))) (dss_freeze 2 (.inl (by decide)) (dss_cons (ds_asg (vs := [6, 7]) trivial (de_call (greduced fc _) (hr.mono (by decide)) hg cx_tk (by rfl) fc.g_reduced (da_cons (v_ 2) (da_cons (v_ 1) da_nil))) (dg_tup rfl (dgs_cons (dg_name rfl rfl cinverse_of.nd rfl (Or.inl rfl)) (dgs_cons (dg_name rfl rfl cinverse_of.nd rfl (Or.inl rfl)) dgs_nil)))) (dss_cons (ds_if trivial (dt_cmp od_lt (de_b bt_len b_len (by rfl) fc.f_len (da_cons (v_ 7) da_nil)) (v_ 1) (pm _ _)) (dss_one (ds_ret trivial de_non)) dss_nil) (dss_one (ds_ret trivial (DF.toE (df_lc (by rfl) cinverse_of.nd (by rfl) (di_seq (v_ 6)) (blkOk_by (own := [("row", 4)]) (by kernel_rfl)) (fun _ _ _ _ _ => (dg_name rfl rfl cinverse_of.nd rfl (Or.inl rfl))) (fun _ _ _ _ _ => pts_nil) tYes_go (fun _ _ _ _ _ => (de_ty bt_tuple b_tuple (by rfl) fc.f_tuple (da_cons (de_sl (db_e (v_ 4)) (dp_e (v_ 1)) dp_no) da_nil))))))))))))))
abbrev Nis_number : List Str := ["x", "a", "b"]
theorem cis_number : FnScope Nis_number ["x"] (defScope sis_number) := ⟨rfl, rfl, rfl, by decide +kernel, rfl, by decide +kernel, by decide +kernel⟩
theorem gis_number (fc : Fc w K mg) : Ok prog w K mg 2 "is_number" false false Q.Fis_number := by
  intro base
  obtain ⟨fd, F⟩ := fc.d_is_number
  refine fnG_of (ps := ["x"]) (N := Nis_number) (O := []) (O' := []) F cis_number (F.bindsN fun _ _ _ _ _ _ us hl => match us, hl with | [_], _ => rfl) .nil (fun _ _ => .nil) (by decide) (by decide) (by decide) fun cdv A outer s H E A0 q hio hr hg => ?_
  obtain rfl : q = none := by cases q with
    | none => rfl
    | some _ => cases hio
  have hu := Room.u64 hr
  have hv := Room.u65 hr
  exact (dss_cons (ds_asg (vs := [1, 2]) trivial (v_ 0) (dg_tup rfl (dgs_cons (dg_name rfl rfl cis_number.nd rfl (Or.inl rfl)) (dgs_cons (dg_name rfl rfl cis_number.nd rfl (Or.inl rfl)) dgs_nil)))) (dss_one (ds_ret trivial (de_and (de_cmp od_ge (v_ 2) de_int (pm _ _)) (de_one (de_cmp (od_eq hu) (de_call (gdivisor fc _) (hr.mono (by decide)) hg cx_tk (by rfl) fc.g_divisor (da_cons (v_ 1) (da_cons (v_ 2) da_nil))) de_int (pm _ _)))))))
abbrev Nis_row_of : List Str := ["width", "row", "x"]
theorem cis_row_of : FnScope Nis_row_of ["width", "row"] (defScope sis_row_of) := ⟨rfl, rfl, rfl, by decide +kernel, rfl, by decide +kernel, by decide +kernel⟩
theorem gis_row_of (fc : Fc w K mg) : Ok prog w K mg 3 "is_row_of" false false Q.Fis_row_of := by
  intro base
  obtain ⟨fd, F⟩ := fc.d_is_row_of
  refine fnG_of (ps := ["width", "row"]) (N := Nis_row_of) (O := []) (O' := []) F cis_row_of (F.bindsN fun _ _ _ _ _ _ us hl => match us, hl with | [_, _], _ => rfl) .nil (fun _ _ => .nil) (by decide) (by decide) (by decide) fun cdv A outer s H E A0 q hio hr hg => ?_
  obtain rfl : q = none := by cases q with
    | none => rfl
    | some _ => cases hio
  have hu := Room.u64 hr
  have hv := Room.u65 hr
  exact (dss_one (ds_ret trivial (de_and (de_cmp (od_eq hu) (de_b bt_len b_len (by rfl) fc.f_len (da_cons (v_ 1) da_nil)) (v_ 0) (pm _ _)) (de_one (de_b bt_all (b_all (by rfl)) (by rfl) fc.f_all (da_cons (DF.toE (df_lc (by rfl) cis_row_of.nd (by rfl) (di_seq (v_ 1)) (blkOk_by (own := [("x", 2)]) (by kernel_rfl)) (fun _ _ _ _ _ => (dg_name rfl rfl cis_row_of.nd rfl (Or.inl rfl))) (fun _ _ _ _ _ => pts_nil) tYes_go (fun _ _ _ _ _ => (de_call (gis_number fc _) (hr.mono (by decide)) hg (takes0 (by rfl)) (by rfl) fc.g_is_number (da_cons (v_ 2) da_nil))))) da_nil))))))
abbrev NMove_init : List Str := ["self", "n", "rows", "shift", "row", "back"]
theorem cMove_init : FnScope NMove_init ["self", "n", "rows", "shift"] (defScope sMove_init) := ⟨rfl, rfl, rfl, by decide +kernel, rfl, by decide +kernel, by decide +kernel⟩
theorem gMove_init (fc : Fc w K mg) : ∀ base : Heap, FnG prog w K mg base 7 (He.ma K (He.ga K "Move") "__init__") true false Q.FMove_init := by
  intro base
  obtain ⟨fd, F⟩ := fc.d_Move_init
  refine fnG_of (ps := ["self", "n", "rows", "shift"]) (N := NMove_init) (O := [0]) (O' := [0]) F cMove_init (F.bindsN fun _ _ _ _ _ _ us hl => match us, hl with | [_, _, _, _], _ => rfl) .nil (fun _ _ => .nil) (by decide) (by decide) (by decide) fun cdv A outer s H E A0 q hio hr hg => ?_
  have hu := Room.u64 hr
  have hv := Room.u65 hr
  exact (dss_cons (ds_expr trivial (de_call (gcheck_letters fc _) (hr.mono (by decide)) hg cx_tk (by rfl) fc.g_check_letters (da_cons (v_ 1) da_nil))) (dss_cons (ds_if trivial (DW.t (dw_or (dt_cmp (od_ne hu) (de_b bt_len b_len (by rfl) fc.f_len (da_cons (v_ 2) da_nil)) (v_ 1) (pm _ _)) (dw_or1 (dt_not (dt_tru (de_b bt_all (b_all (by rfl)) (by rfl) fc.f_all (da_cons (DF.toE (df_lc (by rfl) cMove_init.nd (by rfl) (di_seq (v_ 2)) (blkOk_by (own := [("row", 4)]) (by kernel_rfl)) (fun _ _ _ _ _ => (dg_name rfl rfl cMove_init.nd rfl (Or.inl rfl))) (fun _ _ _ _ _ => pts_nil) tYes_go (fun _ _ _ _ _ => (de_call (gis_row_of fc _) (hr.mono (by decide)) hg (takes0 (by rfl)) (by rfl) fc.g_is_row_of (da_cons (v_ 1) (da_cons (v_ 4) da_nil)))))) da_nil))))))) (dss_one (ds_raiseC fc.e_NotMatrix trivial cx_tk)) dss_nil) (dss_cons (ds_asg (vs := [5]) trivial (de_call (ginverse_of fc _) (hr.mono (by decide)) hg cx_tk (by rfl) fc.g_inverse_of (da_cons (v_ 2) da_nil)) (dg_name rfl rfl cMove_init.nd rfl (Or.inl rfl))) (dss_cons (ds_if trivial (dt_cmp od_is (v_ 5) de_non (pm _ _)) (dss_one (ds_raiseC fc.e_NotMatrix trivial cx_tk)) dss_nil) (dss_cons (ds_if trivial (dt_not (dt_tru (de_call (gis_row_of fc _) (hr.mono (by decide)) hg cx_tk (by rfl) fc.g_is_row_of (da_cons (v_ 1) (da_cons (v_ 3) da_nil))))) (dss_one (ds_raiseC fc.e_NotPoint trivial cx_tk)) dss_nil) (dss_cons (ds_fld trivial (by rfl) (fldC_cons fc.cl_Move fc.na_Move_n fldC_nil) (pv 0) (v_ 1)) (dss_cons (ds_fld trivial (by rfl) (fldC_cons fc.cl_Move fc.na_Move_kept fldC_nil) (pv 0) (de_ty bt_tuple b_tuple (by rfl) fc.f_tuple (da_cons (v_ 2) da_nil))) (dss_cons (ds_fld trivial (by rfl) (fldC_cons fc.cl_Move fc.na_Move_back fldC_nil) (pv 0) (de_ty bt_tuple b_tuple (by rfl) fc.f_tuple (da_cons (v_ 5) da_nil))) (dss_one (ds_fld trivial (by rfl) (fldC_cons fc.cl_Move fc.na_Move_more fldC_nil) (pv 0) (de_ty bt_tuple b_tuple (by rfl) fc.f_tuple (da_cons (v_ 3) da_nil))))))))))))
abbrev Nmirror_of : List Str := ["n", "plane", "square", "a", "rows", "at", "whole", "other"]
theorem cmirror_of : FnScope Nmirror_of ["n", "plane"] (defScope smirror_of) := ⟨rfl, rfl, rfl, by decide +kernel, rfl, by decide +kernel, by decide +kernel⟩
theorem gmirror_of (fc : Fc w K mg) : Ok prog w K mg 9 "mirror_of" false false Q.Fmirror_of := by
  intro base
  obtain ⟨fd, F⟩ := fc.d_mirror_of
  refine fnG_of (ps := ["n", "plane"]) (N := Nmirror_of) (O := []) (O' := []) F cmirror_of (F.bindsN fun _ _ _ _ _ _ us hl => match us, hl with | [_, _], _ => rfl) .nil (fun _ _ => .nil) (by decide) (by decide) (by decide) fun cdv A outer s H E A0 q hio hr hg => ?_
  obtain rfl : q = none := by cases q with
    | none => rfl
    | some _ => cases hio
  have hu := Room.u64 hr
  have hv := Room.u65 hr
  exact (dss_cons (ds_asg (vs := [2]) trivial (de_b bt_sum (b_sum (by rfl)) (by rfl) fc.f_sum (da_cons (DF.toE (df_lc (by rfl) cmirror_of.nd (by rfl) (di_seq (de_sl (db_e (v_ 1)) dp_no (dp_e (v_ 0)))) (blkOk_by (own := [("a", 3)]) (by kernel_rfl)) (fun _ _ _ _ _ => (dg_name rfl rfl cmirror_of.nd rfl (Or.inl rfl))) (fun _ _ _ _ _ => pts_nil) tYes_go (fun _ _ _ _ _ => (de_bin od_mul (v_ 3) (v_ 3))))) da_nil)) (dg_name rfl rfl cmirror_of.nd rfl (Or.inr rfl))) (dss_forgetO 4 (.inl (by decide)) (dss_cons (ds_own trivial (df_lst da_nil) rfl (.inl (by decide)) cmirror_of.nd rfl (Or.inl rfl)) (dss_cons (ds_for (vs := [5]) trivial cx_pw rfl (di_range1 (by rfl) fc.f_range (da_cons (v_ 0) da_nil)) (dg_name rfl rfl cmirror_of.nd rfl (Or.inr rfl)) (dss_cons (ds_setLc trivial rfl rfl cmirror_of.nd rfl rfl (sw_true rfl rfl rfl (by kernel_rfl)) (by rfl) (di_range1 (by rfl) fc.f_range (da_cons (v_ 0) da_nil)) (blkOk_by (own := [("other", 7)]) (by kernel_rfl)) (fun _ _ _ _ _ => (dg_name rfl rfl cmirror_of.nd rfl (Or.inl rfl))) (fun _ _ _ _ _ => pts_nil) tYes_go (fun _ _ _ _ _ => (de_bin od_sub (de_if (dt_cmp (od_eq hu) (v_ 7) (v_ 5) (pm _ _)) (v_ 2) de_int) (de_bin od_mul (de_bin od_mul de_int (de_ix ix_d (v_ 1) (v_ 5) (fun _ _ => rfl))) (de_ix ix_d (v_ 1) (v_ 7) (fun _ _ => rfl)))))) (dss_one (ds_expr trivial (de_om om_append PySem.F.slot_list_append PySem.F.type_list_append (by rfl) (pv 4) (da_cons (de_ty bt_tuple b_tuple (by rfl) fc.f_tuple (da_cons (DF.toE (df_lc (by rfl) cmirror_of.nd (by rfl) (di_seq (v_ 6)) (blkOk_by (own := [("a", 3)]) (by kernel_rfl)) (fun _ _ _ _ _ => (dg_name rfl rfl cmirror_of.nd rfl (Or.inl rfl))) (fun _ _ _ _ _ => pts_nil) tYes_go (fun _ _ _ _ _ => (de_call (glowest fc _) (hr.mono (by decide)) hg (takes0 (by rfl)) (by rfl) fc.g_lowest (da_cons (v_ 3) (da_cons (v_ 2) da_nil)))))) da_nil)) da_nil)))))) (dss_freeze 4 (.inl (by decide)) (dss_one (ds_ret trivial (DF.toE (df_make fc.mk_Move (gMove_init fc _) (hr.mono (by decide)) hg cx_tk (by rfl) fc.g_Move (da_cons (v_ 0) (da_cons (v_ 4) (da_cons (de_ty bt_tuple b_tuple (by rfl) fc.f_tuple (da_cons (DF.toE (df_lc (by rfl) cmirror_of.nd (by rfl) (di_seq (de_sl (db_e (v_ 1)) dp_no (dp_e (v_ 0)))) (blkOk_by (own := [("a", 3)]) (by kernel_rfl)) (fun _ _ _ _ _ => (dg_name rfl rfl cmirror_of.nd rfl (Or.inl rfl))) (fun _ _ _ _ _ => pts_nil) tYes_go (fun _ _ _ _ _ => (de_call (glowest fc _) (hr.mono (by decide)) hg (takes0 (by rfl)) (by rfl) fc.g_lowest (da_cons (de_bin od_mul (de_bin od_mul de_int (de_ix ix_d (v_ 1) (v_ 0) (fun _ _ => rfl))) (v_ 3)) (da_cons (v_ 2) da_nil)))))) da_nil)) da_nil))))))))))))
abbrev Nnumbers_of : List Str := ["integers", "a"]
theorem cnumbers_of : FnScope Nnumbers_of ["integers"] (defScope snumbers_of) := ⟨rfl, rfl, rfl, by decide +kernel, rfl, by decide +kernel, by decide +kernel⟩
theorem gnumbers_of (fc : Fc w K mg) : Ok prog w K mg 1 "numbers_of" false false Q.Fnumbers_of := by
  intro base
  obtain ⟨fd, F⟩ := fc.d_numbers_of
  refine fnG_of (ps := ["integers"]) (N := Nnumbers_of) (O := []) (O' := []) F cnumbers_of (F.bindsN fun _ _ _ _ _ _ us hl => match us, hl with | [_], _ => rfl) .nil (fun _ _ => .nil) (by decide) (by decide) (by decide) fun cdv A outer s H E A0 q hio hr hg => ?_
  obtain rfl : q = none := by cases q with
    | none => rfl
    | some _ => cases hio
  have hu := Room.u64 hr
  have hv := Room.u65 hr
  exact (dss_one (ds_ret trivial (de_ty bt_tuple b_tuple (by rfl) fc.f_tuple (da_cons (DF.toE (df_lc (by rfl) cnumbers_of.nd (by rfl) (di_seq (v_ 0)) (blkOk_by (own := [("a", 1)]) (by kernel_rfl)) (fun _ _ _ _ _ => (dg_name rfl rfl cnumbers_of.nd rfl (Or.inl rfl))) (fun _ _ _ _ _ => pts_nil) tYes_go (fun _ _ _ _ _ => (de_tup (da_cons (v_ 1) (da_cons de_int da_nil)))))) da_nil))))
abbrev Nwithout_divisor : List Str := ["row", "common", "a"]
theorem cwithout_divisor : FnScope Nwithout_divisor ["row"] (defScope swithout_divisor) := ⟨rfl, rfl, rfl, by decide +kernel, rfl, by decide +kernel, by decide +kernel⟩
theorem gwithout_divisor (fc : Fc w K mg) : Ok prog w K mg 2 "without_divisor" false false Q.Fwithout_divisor := by
  intro base
  obtain ⟨fd, F⟩ := fc.d_without_divisor
  refine fnG_of (ps := ["row"]) (N := Nwithout_divisor) (O := []) (O' := []) F cwithout_divisor (F.bindsN fun _ _ _ _ _ _ us hl => match us, hl with | [_], _ => rfl) .nil (fun _ _ => .nil) (by decide) (by decide) (by decide) fun cdv A outer s H E A0 q hio hr hg => ?_
  obtain rfl : q = none := by cases q with
    | none => rfl
    | some _ => cases hio
  have hu := Room.u64 hr
  have hv := Room.u65 hr
  exact (dss_cons (ds_asg (vs := [1]) trivial de_int (dg_name rfl rfl cwithout_divisor.nd rfl (Or.inr rfl))) (dss_cons (ds_for (vs := [2]) trivial cx_pw rfl (di_seq (v_ 0)) (dg_name rfl rfl cwithout_divisor.nd rfl (Or.inl rfl)) (dss_one (ds_asg (vs := [1]) trivial (de_call (gdivisor fc _) (hr.mono (by decide)) hg cx_tk (by rfl) fc.g_divisor (da_cons (v_ 1) (da_cons (v_ 2) da_nil))) (dg_name rfl rfl cwithout_divisor.nd rfl (Or.inr rfl))))) (dss_cons (ds_if trivial (dt_cmp (od_eq hu) (v_ 1) de_int (pm _ _)) (dss_one (ds_ret trivial (de_ty bt_tuple b_tuple (by rfl) fc.f_tuple (da_cons (v_ 0) da_nil)))) dss_nil) (dss_one (ds_ret trivial (de_ty bt_tuple b_tuple (by rfl) fc.f_tuple (da_cons (DF.toE (df_lc (by rfl) cwithout_divisor.nd (by rfl) (di_seq (v_ 0)) (blkOk_by (own := [("a", 2)]) (by kernel_rfl)) (fun _ _ _ _ _ => (dg_name rfl rfl cwithout_divisor.nd rfl (Or.inl rfl))) (fun _ _ _ _ _ => pts_nil) tYes_go (fun _ _ _ _ _ => (de_bin od_div (v_ 2) (v_ 1))))) da_nil)))))))
abbrev Ncleared_row : List Str := ["row", "common", "a", "b"]
theorem ccleared_row : FnScope Ncleared_row ["row"] (defScope scleared_row) := ⟨rfl, rfl, rfl, by decide +kernel, rfl, by decide +kernel, by decide +kernel⟩
theorem gcleared_row (fc : Fc w K mg) : Ok prog w K mg 3 "cleared_row" false false Q.Fcleared_row := by
  intro base
  obtain ⟨fd, F⟩ := fc.d_cleared_row
  refine fnG_of (ps := ["row"]) (N := Ncleared_row) (O := []) (O' := []) F ccleared_row (F.bindsN fun _ _ _ _ _ _ us hl => match us, hl with | [_], _ => rfl) .nil (fun _ _ => .nil) (by decide) (by decide) (by decide) fun cdv A outer s H E A0 q hio hr hg => ?_
  obtain rfl : q = none := by cases q with
    | none => rfl
    | some _ => cases hio
  have hu := Room.u64 hr
  have hv := Room.u65 hr
  exact (dss_cons (ds_asg (vs := [1]) trivial de_int (dg_name rfl rfl ccleared_row.nd rfl (Or.inr rfl))) (dss_cons (ds_for (vs := [2, 3]) trivial cx_pw rfl (di_seq (v_ 0)) (dg_tup rfl (dgs_cons (dg_name rfl rfl ccleared_row.nd rfl (Or.inl rfl)) (dgs_cons (dg_name rfl rfl ccleared_row.nd rfl (Or.inl rfl)) dgs_nil))) (dss_one (ds_asg (vs := [1]) trivial (de_bin od_mul (de_bin od_div (v_ 1) (de_call (gdivisor fc _) (hr.mono (by decide)) hg cx_tk (by rfl) fc.g_divisor (da_cons (v_ 1) (da_cons (v_ 3) da_nil)))) (v_ 3)) (dg_name rfl rfl ccleared_row.nd rfl (Or.inr rfl))))) (dss_one (ds_ret trivial (de_call (gwithout_divisor fc _) (hr.mono (by decide)) hg cx_tk (by rfl) fc.g_without_divisor (da_cons (DF.toE (df_lc (by rfl) ccleared_row.nd (by rfl) (di_seq (v_ 0)) (blkOk_by (own := [("a", 2), ("b", 3)]) (by kernel_rfl)) (fun _ _ _ _ _ => (dg_tup rfl (dgs_cons (dg_name rfl rfl ccleared_row.nd rfl (Or.inl rfl)) (dgs_cons (dg_name rfl rfl ccleared_row.nd rfl (Or.inl rfl)) dgs_nil)))) (fun _ _ _ _ _ => pts_nil) tYes_go (fun _ _ _ _ _ => (de_bin od_mul (v_ 2) (de_bin od_div (v_ 1) (v_ 3)))))) da_nil))))))
abbrev Ndot : List Str := ["one", "other", "total", "x", "y"]
theorem cdot : FnScope Ndot ["one", "other"] (defScope sdot) := ⟨rfl, rfl, rfl, by decide +kernel, rfl, by decide +kernel, by decide +kernel⟩
theorem gdot (fc : Fc w K mg) : Ok prog w K mg 4 "dot" false false Q.Fdot := by
  intro base
  obtain ⟨fd, F⟩ := fc.d_dot
  refine fnG_of (ps := ["one", "other"]) (N := Ndot) (O := []) (O' := []) F cdot (F.bindsN fun _ _ _ _ _ _ us hl => match us, hl with | [_, _], _ => rfl) .nil (fun _ _ => .nil) (by decide) (by decide) (by decide) fun cdv A outer s H E A0 q hio hr hg => ?_
  obtain rfl : q = none := by cases q with
    | none => rfl
    | some _ => cases hio
  have hu := Room.u64 hr
  have hv := Room.u65 hr
  exact (dss_cons (ds_asg (vs := [2]) trivial (gt_ fc.g_ZERO fc.c_ZERO cZERO_rp) (dg_name rfl rfl cdot.nd rfl (Or.inl rfl))) (dss_cons (ds_for (vs := [3, 4]) trivial cx_pw rfl (di_zipS (by rfl) fc.f_zip (da_cons (v_ 0) (da_cons (v_ 1) da_nil))) (dg_tup rfl (dgs_cons (dg_name rfl rfl cdot.nd rfl (Or.inl rfl)) (dgs_cons (dg_name rfl rfl cdot.nd rfl (Or.inl rfl)) dgs_nil))) (dss_one (ds_asg (vs := [2]) trivial (de_call (gsummed fc _) (hr.mono (by decide)) hg cx_tk (by rfl) fc.g_summed (da_cons (v_ 2) (da_cons (de_call (gmultiplied fc _) (hr.mono (by decide)) hg cx_tk (by rfl) fc.g_multiplied (da_cons (v_ 3) (da_cons (v_ 4) da_nil))) da_nil))) (dg_name rfl rfl cdot.nd rfl (Or.inl rfl))))) (dss_one (ds_ret trivial (v_ 2)))))
abbrev NMove_led : List Str := ["self", "plane", "row", "first", "line", "at"]
theorem cMove_led : FnScope NMove_led ["self", "plane"] (defScope sMove_led) := ⟨rfl, rfl, rfl, by decide +kernel, rfl, by decide +kernel, by decide +kernel⟩
theorem gMove_led (fc : Fc w K mg) : ∀ base : Heap, FnG prog w K mg base 5 (He.ma K (He.ga K "Move") "led") false false Q.FMove_led := by
  intro base
  obtain ⟨fd, F⟩ := fc.d_Move_led
  refine fnG_of (ps := ["self", "plane"]) (N := NMove_led) (O := []) (O' := []) F cMove_led (F.bindsN fun _ _ _ _ _ _ us hl => match us, hl with | [_, _], _ => rfl) .nil (fun _ _ => .nil) (by decide) (by decide) (by decide) fun cdv A outer s H E A0 q hio hr hg => ?_
  obtain rfl : q = none := by cases q with
    | none => rfl
    | some _ => cases hio
  have hu := Room.u64 hr
  have hv := Room.u65 hr
  exact (dss_cons (ds_asg (vs := [2]) trivial (de_call (gnumbers_of fc _) (hr.mono (by decide)) hg cx_tk (by rfl) fc.g_numbers_of (da_cons (de_sl (db_e (v_ 1)) dp_no (dp_e (de_fld (fldC_cons fc.cl_Move fc.na_Move_n fldC_nil) (v_ 0)))) da_nil)) (dg_name rfl rfl cMove_led.nd rfl (Or.inr rfl))) (dss_cons (ds_setLc trivial rfl rfl cMove_led.nd rfl rfl (sw_true rfl rfl rfl (by kernel_rfl)) (by rfl) (di_range1 (by rfl) fc.f_range (da_cons (de_fld (fldC_cons fc.cl_Move fc.na_Move_n fldC_nil) (v_ 0)) da_nil)) (blkOk_by (own := [("at", 5)]) (by kernel_rfl)) (fun _ _ _ _ _ => (dg_name rfl rfl cMove_led.nd rfl (Or.inr rfl))) (fun _ _ _ _ _ => pts_nil) tYes_go (fun _ _ _ _ _ => (de_call (gdot fc _) (hr.mono (by decide)) hg (takes0 (by rfl)) (by rfl) fc.g_dot (da_cons (v_ 2) (da_cons (DF.toE (df_lc (by rfl) cMove_led.nd (by rfl) (di_seq (de_fld (fldC_cons fc.cl_Move fc.na_Move_back fldC_nil) (v_ 0))) (blkOk_by (own := [("line", 4)]) (by kernel_rfl)) (fun _ _ _ _ _ => (dg_name rfl rfl cMove_led.nd rfl (Or.inl rfl))) (fun _ _ _ _ _ => pts_nil) tYes_go (fun _ _ _ _ _ => (de_ix ix_d (v_ 4) (v_ 5) (fun _ _ => rfl))))) da_nil))))) (dss_one (ds_ret trivial (de_call (gcleared_row fc _) (hr.mono (by decide)) hg cx_tk (by rfl) fc.g_cleared_row (da_cons (de_bin od_add (v_ 3) (DF.toE (df_lst (da_cons (de_call (gsummed fc _) (hr.mono (by decide)) hg cx_tk (by rfl) fc.g_summed (da_cons (de_tup (da_cons (de_ix ix_d (v_ 1) (de_fld (fldC_cons fc.cl_Move fc.na_Move_n fldC_nil) (v_ 0)) (fun _ _ => rfl)) (da_cons de_int da_nil))) (da_cons (de_call (gdot fc _) (hr.mono (by decide)) hg cx_tk (by rfl) fc.g_dot (da_cons (v_ 3) (da_cons (de_fld (fldC_cons fc.cl_Move fc.na_Move_more fldC_nil) (v_ 0)) da_nil))) da_nil))) da_nil)))) da_nil))))))
abbrev Nis_closed : List Str := ["planes", "known", "plane", "move", "other"]
theorem cis_closed : FnScope Nis_closed ["planes"] (defScope sis_closed) := ⟨rfl, rfl, rfl, by decide +kernel, rfl, by decide +kernel, by decide +kernel⟩
theorem gis_closed (fc : Fc w K mg) : Ok prog w K mg 10 "is_closed" false false Q.Fis_closed := by
  intro base
  obtain ⟨fd, F⟩ := fc.d_is_closed
  refine fnG_of (ps := ["planes"]) (N := Nis_closed) (O := []) (O' := []) F cis_closed (F.bindsN fun _ _ _ _ _ _ us hl => match us, hl with | [_], _ => rfl) .nil (fun _ _ => .nil) (by decide) (by decide) (by decide) fun cdv A outer s H E A0 q hio hr hg => ?_
  obtain rfl : q = none := by cases q with
    | none => rfl
    | some _ => cases hio
  have hu := Room.u64 hr
  have hv := Room.u65 hr
  exact (dss_cons (ds_asg (vs := [1]) trivial (de_bin od_add (de_fld (fldC_cons fc.cl_Planes fc.na_Planes_kept fldC_nil) (v_ 0)) (de_ty bt_tuple b_tuple (by rfl) fc.f_tuple (da_cons (DF.toE (df_lc (by rfl) cis_closed.nd (by rfl) (di_seq (de_fld (fldC_cons fc.cl_Planes fc.na_Planes_kept fldC_nil) (v_ 0))) (blkOk_by (own := [("plane", 2)]) (by kernel_rfl)) (fun _ _ _ _ _ => (dg_name rfl rfl cis_closed.nd rfl (Or.inl rfl))) (fun _ _ _ _ _ => pts_nil) tYes_go (fun _ _ _ _ _ => (de_call (gother_way fc _) (hr.mono (by decide)) hg (takes0 (by rfl)) (by rfl) fc.g_other_way (da_cons (v_ 2) da_nil))))) da_nil))) (dg_name rfl rfl cis_closed.nd rfl (Or.inr rfl))) (dss_cons (ds_for (vs := [2]) trivial cx_pw rfl (di_seq (de_fld (fldC_cons fc.cl_Planes fc.na_Planes_kept fldC_nil) (v_ 0))) (dg_name rfl rfl cis_closed.nd rfl (Or.inl rfl)) (dss_cons (ds_asg (vs := [3]) trivial (de_call (gmirror_of fc _) (hr.mono (by decide)) hg cx_tk (by rfl) fc.g_mirror_of (da_cons (de_fld (fldC_cons fc.cl_Planes fc.na_Planes_n fldC_nil) (v_ 0)) (da_cons (v_ 2) da_nil))) (dg_name rfl rfl cis_closed.nd rfl (Or.inr rfl))) (dss_one (ds_if trivial (dt_not (dt_tru (de_b bt_all (b_all (by rfl)) (by rfl) fc.f_all (da_cons (DF.toE (df_lc (by rfl) cis_closed.nd (by rfl) (di_seq (de_fld (fldC_cons fc.cl_Planes fc.na_Planes_kept fldC_nil) (v_ 0))) (blkOk_by (own := [("other", 4)]) (by kernel_rfl)) (fun _ _ _ _ _ => (dg_name rfl rfl cis_closed.nd rfl (Or.inl rfl))) (fun _ _ _ _ _ => pts_nil) tYes_go (fun _ _ _ _ _ => (de_cmp (od_in hv) (de_meth (methT_cons (k := 5) fc.cl_Move fc.me_Move_led (FnG.mono (gMove_led fc _) (by decide)) methT_nil) (hr.mono (by decide)) hg (takes0 (by rfl)) (v_ 3) (da_cons (v_ 4) da_nil)) (v_ 1) (pm _ _))))) da_nil)))) (dss_one (ds_ret trivial de_bl)) dss_nil)))) (dss_one (ds_ret trivial de_bl))))
abbrev N_law_most : List Str := ["word", "words"]
theorem c_law_most : FnScope N_law_most ["word"] (defScope s_law_most) := ⟨rfl, rfl, rfl, by decide +kernel, rfl, by decide +kernel, by decide +kernel⟩
theorem g_law_most (fc : Fc w K mg) : Ok prog w K mg 1 "_law_most" false false Q.F_law_most := by
  intro base
  obtain ⟨fd, F⟩ := fc.d__law_most
  refine fnG_of (ps := ["word"]) (N := N_law_most) (O := []) (O' := []) F c_law_most (F.bindsN fun _ _ _ _ _ _ us hl => match us, hl with | [_], _ => rfl) .nil (fun _ _ => .nil) (by decide) (by decide) (by decide) fun cdv A outer s H E A0 q hio hr hg => ?_
  obtain rfl : q = none := by cases q with
    | none => rfl
    | some _ => cases hio
  have hu := Room.u64 hr
  have hv := Room.u65 hr
  exact (dss_cons (ds_asg (vs := [1]) trivial (DF.toE (df_lst (da_cons de_str (da_cons de_str (da_cons de_str (da_cons de_str (da_cons de_str (da_cons de_str (da_cons de_str (da_cons de_str da_nil)))))))))) (dg_name rfl rfl c_law_most.nd rfl (Or.inl rfl))) (dss_one (ds_ret trivial (de_ix ix_d (DF.toE (df_lst (da_cons de_int (da_cons de_int (da_cons de_int (da_cons de_int (da_cons de_int (da_cons de_int (da_cons de_int (da_cons de_int da_nil)))))))))) (de_lm PySem.F.slot_list_index PySem.F.type_list_index (mt_lindexD hv) (v_ 1) (da_cons (v_ 0) da_nil)) (fun _ _ => rfl)))))
abbrev N_law_refused : List Str := ["word", "m"]
theorem c_law_refused : FnScope N_law_refused ["word", "m"] (defScope s_law_refused) := ⟨rfl, rfl, rfl, by decide +kernel, rfl, by decide +kernel, by decide +kernel⟩
theorem g_law_refused (fc : Fc w K mg) : Ok prog w K mg 8 "_law_refused" false false F_law_refused := by
  intro base
  obtain ⟨fd, F⟩ := fc.d__law_refused
  refine fnG_of (ps := ["word", "m"]) (N := N_law_refused) (O := []) (O' := []) F c_law_refused (F.bindsN fun _ _ _ _ _ _ us hl => match us, hl with | [_, _], _ => rfl) .nil (fun _ _ => .nil) (by decide) (by decide) (by decide) fun cdv A outer s H E A0 q hio hr hg => ?_
  obtain rfl : q = none := by cases q with
    | none => rfl
    | some _ => cases hio
  have hu := Room.u64 hr
  have hv := Room.u65 hr
  exact (dss_one (ds_tryOnly trivial rfl rfl ⟨rfl, by decide, .inl fc.g_BadNumber⟩ (mtBadNumber_ok fc) (fun W pn xe tk pw => (dss_cons (ds_expr rfl (de_call (gfamily fc _) (hr.mono (by decide)) hg tk (by rfl) fc.g_family (da_cons (v_ 0) (da_cons (v_ 1) da_nil)))) (dss_one (ds_ret rfl de_bl)))) (fun ad oe pn => (dss_one (ds_ret rfl de_bl)))))
abbrev N_law_next : List Str := ["draws"]
theorem c_law_next : FnScope N_law_next ["draws"] (defScope s_law_next) := ⟨rfl, rfl, rfl, by decide +kernel, rfl, by decide +kernel, by decide +kernel⟩
theorem g_law_next (fc : Fc w K mg) : Ok prog w K mg 1 "_law_next" true false Q.F_law_next := by
  intro base
  obtain ⟨fd, F⟩ := fc.d__law_next
  refine fnG_of (ps := ["draws"]) (N := N_law_next) (O := [0]) (O' := []) F c_law_next (F.bindsN fun _ _ _ _ _ _ us hl => match us, hl with | [_], _ => rfl) .nil (fun _ _ => .nil) (by decide) (by decide) (by decide) fun cdv A outer s H E A0 q hio hr hg => ?_
  have hu := Room.u64 hr
  have hv := Room.u65 hr
  exact (dss_cons (ds_if trivial (dt_truO (by rfl) (pv 0)) (dss_one (ds_ret trivial (de_om0 om_pop PySem.F.slot_list_pop PySem.F.type_list_pop (by rfl) (pv 0)))) dss_nil) (dss_one (ds_ret trivial de_int)))
abbrev NPlanes_planes : List Str := ["self"]
theorem cPlanes_planes : FnScope NPlanes_planes ["self"] (defScope sPlanes_planes) := ⟨rfl, rfl, rfl, by decide +kernel, rfl, by decide +kernel, by decide +kernel⟩
theorem gPlanes_planes (fc : Fc w K mg) : ∀ base : Heap, FnG prog w K mg base 1 (He.ma K (He.ga K "Planes") "planes") false false Q.FPlanes_planes := by
  intro base
  obtain ⟨fd, F⟩ := fc.d_Planes_planes
  refine fnG_of (ps := ["self"]) (N := NPlanes_planes) (O := []) (O' := []) F cPlanes_planes (F.bindsN fun _ _ _ _ _ _ us hl => match us, hl with | [_], _ => rfl) .nil (fun _ _ => .nil) (by decide) (by decide) (by decide) fun cdv A outer s H E A0 q hio hr hg => ?_
  obtain rfl : q = none := by cases q with
    | none => rfl
    | some _ => cases hio
  have hu := Room.u64 hr
  have hv := Room.u65 hr
  exact (dss_one (ds_ret trivial (de_ty bt_list (b_list (by rfl)) (by rfl) fc.f_list (da_cons (de_fld (fldC_cons fc.cl_Planes fc.na_Planes_kept fldC_nil) (v_ 0)) da_nil))))
abbrev NPlanes_len : List Str := ["self"]
theorem cPlanes_len : FnScope NPlanes_len ["self"] (defScope sPlanes_len) := ⟨rfl, rfl, rfl, by decide +kernel, rfl, by decide +kernel, by decide +kernel⟩
theorem gPlanes_len (fc : Fc w K mg) : ∀ base : Heap, FnG prog w K mg base 1 (He.ma K (He.ga K "Planes") "__len__") false false Q.FPlanes_len := by
  intro base
  obtain ⟨fd, F⟩ := fc.d_Planes_len
  refine fnG_of (ps := ["self"]) (N := NPlanes_len) (O := []) (O' := []) F cPlanes_len (F.bindsN fun _ _ _ _ _ _ us hl => match us, hl with | [_], _ => rfl) .nil (fun _ _ => .nil) (by decide) (by decide) (by decide) fun cdv A outer s H E A0 q hio hr hg => ?_
  obtain rfl : q = none := by cases q with
    | none => rfl
    | some _ => cases hio
  have hu := Room.u64 hr
  have hv := Room.u65 hr
  exact (dss_one (ds_ret trivial (de_b bt_len b_len (by rfl) fc.f_len (da_cons (de_fld (fldC_cons fc.cl_Planes fc.na_Planes_kept fldC_nil) (v_ 0)) da_nil))))
abbrev Nlaw : List Str := ["script", "draws", "word", "m", "told", "six", "k", "other"]
theorem claw : FnScope Nlaw ["script"] (defScope slaw) := ⟨rfl, rfl, rfl, by decide +kernel, rfl, by decide +kernel, by decide +kernel⟩
theorem glaw (fc : Fc w K mg) : Ok prog w K mg 11 "law" false false Flaw := by
  intro base
  obtain ⟨fd, F⟩ := fc.d_law
  refine fnG_of (ps := ["script"]) (N := Nlaw) (O := []) (O' := []) F claw (F.bindsN fun _ _ _ _ _ _ us hl => match us, hl with | [_], _ => rfl) .nil (fun _ _ => .nil) (by decide) (by decide) (by decide) fun cdv A outer s H E A0 q hio hr hg => ?_
  obtain rfl : q = none := by cases q with
    | none => rfl
    | some _ => cases hio
  have hu := Room.u64 hr
  have hv := Room.u65 hr
  exact (dss_forgetO 1 (.inl (by decide)) (dss_cons (ds_own trivial (df_call (g_law_draws fc _) (hr.mono (by decide)) hg cx_tk (by rfl) fc.g__law_draws (da_cons (v_ 0) da_nil)) rfl (.inl (by decide)) claw.nd rfl (Or.inr rfl)) (dss_cons (ds_expr trivial (de_om0 om_reverse PySem.F.slot_list_reverse PySem.F.type_list_reverse (by rfl) (pv 1))) (dss_cons (ds_for (vs := [2]) trivial cx_pw rfl (di_seq (DF.toE (df_lst (da_cons de_str (da_cons de_str (da_cons de_str (da_cons de_str (da_cons de_str (da_cons de_str (da_cons de_str (da_cons de_str da_nil))))))))))) (dg_name rfl rfl claw.nd rfl (Or.inl rfl)) (dss_cons (ds_for (vs := [3]) trivial cx_pw rfl (di_range2 (by rfl) fc.f_range (da_cons de_int (da_cons (de_bin od_add (de_call (g_law_most fc _) (hr.mono (by decide)) hg cx_tk (by rfl) fc.g__law_most (da_cons (v_ 2) da_nil)) de_int) da_nil))) (dg_name rfl rfl claw.nd rfl (Or.inl rfl)) (dss_cons (ds_asg (vs := [4]) trivial (de_call (gfamily fc _) (hr.mono (by decide)) hg cx_tk (by rfl) fc.g_family (da_cons (v_ 2) (da_cons (v_ 3) da_nil))) (dg_name rfl rfl claw.nd rfl (Or.inl rfl))) (dss_cons (ds_if trivial (DW.t (dw_or (dt_cmp (od_ne hu) (de_fld (fldC_cons fc.cl_Planes fc.na_Planes_n fldC_nil) (v_ 4)) (v_ 3) (pm _ _)) (dw_or1 (dt_cmp (od_ne hu) (de_meth0 (methT_cons (k := 1) fc.cl_Planes fc.me_Planes_planes (FnG.mono (gPlanes_planes fc _) (by decide)) methT_nil) (hr.mono (by decide)) hg cx_tk (v_ 4)) (de_call (g_law_due fc _) (hr.mono (by decide)) hg cx_tk (by rfl) fc.g__law_due (da_cons (v_ 2) (da_cons (v_ 3) da_nil))) (pm _ _))))) (dss_one (ds_ret trivial de_bl)) dss_nil) (dss_one (ds_if trivial (DW.t (dw_and (dt_cmp (od_in hv) (v_ 2) (DF.toE (df_lst (da_cons de_str (da_cons de_str (da_cons de_str (da_cons de_str da_nil)))))) (pm _ _)) (dw_and (dt_cmp od_lt (de_lenX (methT_cons (k := 1) fc.cl_Planes fc.me_Planes_len (FnG.mono (gPlanes_len fc _) (by decide)) methT_nil) (hr.mono (by decide)) hg (by rfl) fc.f_len (v_ 4)) de_int (pm _ _)) (dw_and1 (dt_cmp od_isnot (de_call (gis_closed fc _) (hr.mono (by decide)) hg cx_tk (by rfl) fc.g_is_closed (da_cons (v_ 4) da_nil)) de_bl (pm _ _)))))) (dss_one (ds_ret trivial de_bl)) dss_nil))))) (dss_one (ds_for (vs := [3]) trivial cx_pw rfl (di_seq (DF.toE (df_lst (da_cons de_int (da_cons (de_un ud_neg de_int) (da_cons (de_bin od_add (de_call (g_law_most fc _) (hr.mono (by decide)) hg cx_tk (by rfl) fc.g__law_most (da_cons (v_ 2) da_nil)) de_int) (da_cons (de_bin od_add de_int (de_ty bt_int b_int (by rfl) fc.f_int (da_cons (de_callio (g_law_next fc _) (hr.mono (by decide)) hg cx_tk (by rfl) fc.g__law_next (by rfl) (pv 1) da_nil) da_nil))) da_nil))))))) (dg_name rfl rfl claw.nd rfl (Or.inl rfl)) (dss_one (ds_if trivial (dt_not (dt_tru (de_call (g_law_refused fc _) (hr.mono (by decide)) hg cx_tk (by rfl) fc.g__law_refused (da_cons (v_ 2) (da_cons (v_ 3) da_nil))))) (dss_one (ds_ret trivial de_bl)) dss_nil)))))) (dss_cons (ds_asg (vs := [5]) trivial (de_call (gfamily fc _) (hr.mono (by decide)) hg cx_tk (by rfl) fc.g_family (da_cons de_str (da_cons de_int da_nil))) (dg_name rfl rfl claw.nd rfl (Or.inl rfl))) (dss_cons (ds_if trivial (DW.t (dw_or (dt_cmp (od_ne hu) (de_fld (fldC_cons fc.cl_Planes fc.na_Planes_n fldC_nil) (v_ 5)) de_int (pm _ _)) (dw_or (dt_cmp (od_ne hu) (de_meth0 (methT_cons (k := 1) fc.cl_Planes fc.me_Planes_planes (FnG.mono (gPlanes_planes fc _) (by decide)) methT_nil) (hr.mono (by decide)) hg cx_tk (v_ 5)) (de_call (g_law_due fc _) (hr.mono (by decide)) hg cx_tk (by rfl) fc.g__law_due (da_cons de_str (da_cons de_int da_nil))) (pm _ _)) (dw_or1 (dt_cmp od_isnot (de_call (gis_closed fc _) (hr.mono (by decide)) hg cx_tk (by rfl) fc.g_is_closed (da_cons (v_ 5) da_nil)) de_bl (pm _ _)))))) (dss_one (ds_ret trivial de_bl)) dss_nil) (dss_cons (ds_asg (vs := [2]) trivial (de_sm PySem.F.slot_str_join PySem.F.type_str_join mt_joinD de_str (da_cons (DF.toE (df_lc (by rfl) claw.nd (by rfl) (di_range1 (by rfl) fc.f_range (da_cons (de_bin od_mod (de_ty bt_int b_int (by rfl) fc.f_int (da_cons (de_callio (g_law_next fc _) (hr.mono (by decide)) hg cx_tk (by rfl) fc.g__law_next (by rfl) (pv 1) da_nil) da_nil)) de_int) da_nil)) (blkOk_by (own := [("k", 6)]) (by kernel_rfl)) (fun _ _ _ _ _ => (dg_name rfl rfl claw.nd rfl (Or.inl rfl))) (fun _ _ _ _ _ => pts_nil) tYes_go (fun _ _ _ _ _ => (de_ix ix_d de_str (de_bin od_mod (de_ty bt_int b_int (by rfl) fc.f_int (da_cons (de_callio (g_law_next fc _) (hr.mono (by decide)) hg (takes0 (by rfl)) (by rfl) fc.g__law_next (by rfl) (pv 1) da_nil) da_nil)) de_int) (fun _ _ => rfl))))) da_nil)) (dg_name rfl rfl claw.nd rfl (Or.inl rfl))) (dss_one (ds_ret trivial (de_and (de_b bt_all (b_all (by rfl)) (by rfl) fc.f_all (da_cons (DF.toE (df_lc (by rfl) claw.nd (by rfl) (di_seq (DF.toE (df_lst (da_cons de_int (da_cons de_int (da_cons de_int da_nil)))))) (blkOk_by (own := [("m", 3)]) (by kernel_rfl)) (fun _ _ _ _ _ => (dg_name rfl rfl claw.nd rfl (Or.inl rfl))) (fun _ _ _ _ _ => pts_nil) tYes_go (fun _ _ _ _ _ => (de_call (g_law_refused fc _) (hr.mono (by decide)) hg (takes0 (by rfl)) (by rfl) fc.g__law_refused (da_cons de_str (da_cons (v_ 3) da_nil)))))) da_nil)) (de_one (de_b bt_all (b_all (by rfl)) (by rfl) fc.f_all (da_cons (DF.toE (df_lc (by rfl) claw.nd (by rfl) (di_seq (DF.toE (df_lst (da_cons de_str (da_cons de_str (da_cons (de_bin od_add (v_ 2) de_str) (da_cons de_str da_nil))))))) (blkOk_by (own := [("other", 7)]) (by kernel_rfl)) (fun _ _ _ _ _ => (dg_name rfl rfl claw.nd rfl (Or.inl rfl))) (fun _ _ _ _ _ => pts_nil) tYes_go (fun _ _ _ _ _ => (de_call (g_law_refused fc _) (hr.mono (by decide)) hg (takes0 (by rfl)) (by rfl) fc.g__law_refused (da_cons (v_ 7) (da_cons de_int da_nil)))))) da_nil)))))))))))))
end
end K26
namespace K26
open Q DL PySem PySem.Spec PyProof.Rows
abbrev pl (l : List Int) : D := .tup (l.map D.int)
abbrev PLs (m : Int) (ps : List (List Int)) : D := .obj "Planes" [("n", .int m), ("kept", .tup (ps.map pl))]
def most (w : Str) : Int := match Q.F_law_most [.str w] with
  | .rt (.int i) _ => i
  | _ => 0
def known (ps : List (List Int)) : D := .tup ((ps ++ ps.map fun p => p.map fun a => -a).map pl)
def mvD (m : Int) (p : List Int) : D := match Q.Fmirror_of [.int m, pl p] with
  | .rt d _ => d
  | _ => .non
def Body (m : Int) (ps : List (List Int)) (p : List Int) : Prop := ∀ o, Q.mis_closed_b2 [some (PLs m ps), some (known ps), some (pl p), o, none] = .nx [some (PLs m ps), some (known ps), some (pl p), some (mvD m p), none]
theorem loop_closed {m : Int} {ps : List (List Int)} : ∀ (qs : List (List Int)) (a b : Option D), (∀ q ∈ qs, Body m ps q) → ∃ a' b', loopL (mgName 2) Q.mis_closed_b2 (qs.map pl) [some (PLs m ps), some (known ps), a, b, none] = .nx [some (PLs m ps), some (known ps), a', b', none]
  | [], a, b, _ => ⟨a, b, rfl⟩
  | q :: qs, a, b, h => by
    obtain ⟨a', b', e⟩ := loop_closed qs (some (pl q)) (some (mvD m q)) fun x hx => h x (List.mem_cons_of_mem _ hx)
    refine ⟨a', b', ?_⟩
    rw [← e]
    have h1 := h q List.mem_cons_self b
    show loopL (mgName 2) Q.mis_closed_b2 (pl q :: qs.map pl) _ = _
    simp only [loopL, mgName_ap, List.length_cons, List.length_nil]
    show (match Q.mis_closed_b2 [some (PLs m ps), some (known ps), some (pl q), b, none] with
      | .nx ρ2 => loopL (mgName 2) Q.mis_closed_b2 (qs.map pl) ρ2
      | .ct ρ2 => loopL (mgName 2) Q.mis_closed_b2 (qs.map pl) ρ2
      | .bk ρ2 => .nx ρ2
      | o => o) = _
    rw [h1]

def B2_0 : MS := (msAsg (mCall Ffamily (mCons (mVar 2) (mCons (mVar 3) mNil))) (mgName 4))
def B2_1 : MS := (msIf (mOrT (mTest (m2 gNe (m1 (gFld (isC ["Planes"]) "n") (mVar 4)) (mVar 3))) (mTest (m2 gNe (mMeth (tb [("Planes", Q.FPlanes_planes)]) "planes" (mVar 4) mNil) (mCall Q.F_law_due (mCons (mVar 2) (mCons (mVar 3) mNil)))))) (msRet (mK (.bl false))) msNil)
def B2_2 : MS := (msIf (mAndT (mTest (m2 gIn (mVar 2) (mN gLst (mCons (mK (.str "axes")) (mCons (mK (.str "pairs")) (mCons (mK (.str "even")) (mCons (mK (.str "signs")) mNil))))))) (mAndT (mTest (m2 gLt (m1 (gLenX (tb [("Planes", Q.FPlanes_len)])) (mVar 4)) (mK (.int 7)))) (mTest (m2 gIsNot (mCall Q.Fis_closed (mCons (mVar 4) mNil)) (mK (.bl true)))))) (msRet (mK (.bl false))) msNil)
theorem mlaw_b2_eq : mlaw_b2 = (msSeq B2_0 (msSeq B2_1 B2_2)) := rfl

def C_0 : MS := (msAsg (m2 gAdd (m1 (gFld (isC ["Planes"]) "kept") (mVar 0)) (mN gTuple (mCons (mLc [2] (mIter (m1 (gFld (isC ["Planes"]) "kept") (mVar 0))) (mgName 2) mYes Q.mis_closed_e0) mNil))) (mgName 1))
def C_1 : MS := (msFor (mIter (m1 (gFld (isC ["Planes"]) "kept") (mVar 0))) (mgName 2) Q.mis_closed_b2)
def C_2 : MS := (msRet (mK (.bl true)))
theorem mis_closed_eq : Q.mis_closed = (msSeq C_0 (msSeq C_1 C_2)) := rfl

def b2loop : MS := msFor (mItN gRange2 (mCons (mK (.int 1)) (mCons (m2 gAdd (mCall Q.F_law_most (mCons (mVar 2) mNil)) (mK (.int 1))) mNil))) (mgName 3) mlaw_b2
theorem seq_nx' {a b : MS} {ρ ρ1 : En} (h : a ρ = .nx ρ1) : msSeq a b ρ = b ρ1 := by rw [msSeq_ap, h]
theorem loop_nil {ρ : En} : loopL (mgName 3) mlaw_b2 [] ρ = .nx ρ := rfl
theorem loop_cons {d : D} {r : List D} {x0 x1 x2 x3 x4 x5 x6 x7 : Option D} {ρ2 : En} (h : mlaw_b2 [x0, x1, x2, some d, x4, x5, x6, x7] = .nx ρ2) : loopL (mgName 3) mlaw_b2 (d :: r) [x0, x1, x2, x3, x4, x5, x6, x7] = loopL (mgName 3) mlaw_b2 r ρ2 := by
  show (match mlaw_b2 [x0, x1, x2, some d, x4, x5, x6, x7] with
      | .nx ρ2 => loopL (mgName 3) mlaw_b2 r ρ2
      | .ct ρ2 => loopL (mgName 3) mlaw_b2 r ρ2
      | .bk ρ2 => .nx ρ2
      | o => o) = _
  rw [h]
theorem closed_v {m : Int} {ps : List (List Int)} (h0 : C_0 [some (PLs m ps), none, none, none, none] = .nx [some (PLs m ps), some (known ps), none, none, none]) (h1 : ∀ q ∈ ps, Body m ps q) (hz : ps.length ≤ sizeLine) : ∃ o, Q.Fis_closed [PLs m ps] = .rt (.bl true) o := by
  obtain ⟨a', b', e⟩ := loop_closed ps none none h1
  have hc : C_1 [some (PLs m ps), some (known ps), none, none, none] = .nx [some (PLs m ps), some (known ps), a', b', none] := by
    have hi : mIter (m1 (gFld (isC ["Planes"]) "kept") (mVar 0)) [some (PLs m ps), some (known ps), none, none, none] = .ok (ps.map pl) [some (PLs m ps), some (known ps), none, none, none] := rfl
    unfold C_1
    rw [msFor_ap, hi]
    exact e
  have hm : Q.mis_closed (pad 5 [PLs m ps]) = .rt (.bl true) [some (PLs m ps), some (known ps), a', b', none] := by
    show Q.mis_closed [some (PLs m ps), none, none, none, none] = _
    rw [mis_closed_eq, seq_nx' h0, seq_nx' hc]
    rfl
  exact ⟨_, runM_rt (ds := [PLs m ps]) (np := 1) (dd := []) rfl hm⟩
theorem b22 {S L w : D} {m : Int} {ps : List (List Int)} (hc : ∃ o, Q.Fis_closed [PLs m ps] = .rt (.bl true) o) (hw : w = .str "axes" ∨ w = .str "pairs" ∨ w = .str "even" ∨ w = .str "signs") (hl : (m1 (gLenX (tb [("Planes", Q.FPlanes_len)])) (mVar 4)) [some S, some L, some w, some (.int m), some (PLs m ps), none, none, none] = .ok (.int ps.length) [some S, some L, some w, some (.int m), some (PLs m ps), none, none, none]) (h7 : ps.length < 7) :
    B2_2 [some S, some L, some w, some (.int m), some (PLs m ps), none, none, none] = .nx [some S, some L, some w, some (.int m), some (PLs m ps), none, none, none] := by
  obtain ⟨o, hc⟩ := hc
  have hc' : ∀ ρ, (Q.Fis_closed [PLs m ps]).R ρ = .ok (.bl true) ρ := fun ρ => by rw [hc]; rfl
  generalize PLs m ps = P at *
  have i4 : (4 : Nat) ≤ sizeLine := by decide
  have hin : (mTest (m2 gIn (mVar 2) (mN gLst (mCons (mK (.str "axes")) (mCons (mK (.str "pairs")) (mCons (mK (.str "even")) (mCons (mK (.str "signs")) mNil))))))) [some S, some L, some w, some (.int m), some P, none, none, none] = .ok true [some S, some L, some w, some (.int m), some P, none, none, none] := by
    rcases hw with rfl | rfl | rfl | rfl <;> kernel_rfl
  have h7' : ((ps.length : Nat) : Int) < 7 := by omega
  have hl' : (m1 (gLenX (tb [("Planes", Q.FPlanes_len)])) (mVar 4)) [some S, some L, some w, some (.int m), some P, none, none, none] = .ok (.int ps.length) [some S, some L, some w, some (.int m), some P, none, none, none] := hl
  unfold B2_2
  rw [msIf_ap, mAndT_ap, hin, bind_ok, if_pos rfl, mAndT_ap, mTest_ap, m2_ap, hl', bind_ok, mK_ap, bind_ok]
  simp -implicitDefEqProofs [mCall_R, hc', h7']

abbrev psaxes1 : List (List Int) := [[1, 0]]
theorem bdaxes1_0 : Body 1 psaxes1 [1, 0] := by intro o; kernel_rfl
theorem claxes1 : ∃ o, Q.Fis_closed [PLs 1 psaxes1] = .rt (.bl true) o := closed_v (by kernel_rfl) (by
  intro q hq
  simp only [List.mem_cons, List.not_mem_nil, or_false] at hq
  rcases hq with rfl
  · exact bdaxes1_0) (by decide)
theorem staxes1 (S L : D) (b : Option D) : mlaw_b2 [some S, some L, some (.str "axes"), some (.int 1), b, none, none, none] = .nx [some S, some L, some (.str "axes"), some (.int 1), some (PLs 1 psaxes1), none, none, none] := by
  have h0 : B2_0 [some S, some L, some (.str "axes"), some (.int 1), b, none, none, none] = .nx [some S, some L, some (.str "axes"), some (.int 1), some (PLs 1 psaxes1), none, none, none] := by kernel_rfl
  have h1 : B2_1 [some S, some L, some (.str "axes"), some (.int 1), some (PLs 1 psaxes1), none, none, none] = .nx [some S, some L, some (.str "axes"), some (.int 1), some (PLs 1 psaxes1), none, none, none] := by kernel_rfl
  have h2 : B2_2 [some S, some L, some (.str "axes"), some (.int 1), some (PLs 1 psaxes1), none, none, none] = .nx [some S, some L, some (.str "axes"), some (.int 1), some (PLs 1 psaxes1), none, none, none] := b22 claxes1 (by simp) (by kernel_rfl) (by decide)
  rw [mlaw_b2_eq, seq_nx' h0, seq_nx' h1, h2]
abbrev psaxes2 : List (List Int) := [[1, 0, 0], [0, 1, 0]]
theorem bdaxes2_0 : Body 2 psaxes2 [1, 0, 0] := by intro o; kernel_rfl
theorem bdaxes2_1 : Body 2 psaxes2 [0, 1, 0] := by intro o; kernel_rfl
theorem claxes2 : ∃ o, Q.Fis_closed [PLs 2 psaxes2] = .rt (.bl true) o := closed_v (by kernel_rfl) (by
  intro q hq
  simp only [List.mem_cons, List.not_mem_nil, or_false] at hq
  rcases hq with rfl | rfl
  · exact bdaxes2_0
  · exact bdaxes2_1) (by decide)
theorem staxes2 (S L : D) (b : Option D) : mlaw_b2 [some S, some L, some (.str "axes"), some (.int 2), b, none, none, none] = .nx [some S, some L, some (.str "axes"), some (.int 2), some (PLs 2 psaxes2), none, none, none] := by
  have h0 : B2_0 [some S, some L, some (.str "axes"), some (.int 2), b, none, none, none] = .nx [some S, some L, some (.str "axes"), some (.int 2), some (PLs 2 psaxes2), none, none, none] := by kernel_rfl
  have h1 : B2_1 [some S, some L, some (.str "axes"), some (.int 2), some (PLs 2 psaxes2), none, none, none] = .nx [some S, some L, some (.str "axes"), some (.int 2), some (PLs 2 psaxes2), none, none, none] := by kernel_rfl
  have h2 : B2_2 [some S, some L, some (.str "axes"), some (.int 2), some (PLs 2 psaxes2), none, none, none] = .nx [some S, some L, some (.str "axes"), some (.int 2), some (PLs 2 psaxes2), none, none, none] := b22 claxes2 (by simp) (by kernel_rfl) (by decide)
  rw [mlaw_b2_eq, seq_nx' h0, seq_nx' h1, h2]
abbrev psaxes3 : List (List Int) := [[1, 0, 0, 0], [0, 1, 0, 0], [0, 0, 1, 0]]
theorem bdaxes3_0 : Body 3 psaxes3 [1, 0, 0, 0] := by intro o; kernel_rfl
theorem bdaxes3_1 : Body 3 psaxes3 [0, 1, 0, 0] := by intro o; kernel_rfl
theorem bdaxes3_2 : Body 3 psaxes3 [0, 0, 1, 0] := by intro o; kernel_rfl
theorem claxes3 : ∃ o, Q.Fis_closed [PLs 3 psaxes3] = .rt (.bl true) o := closed_v (by kernel_rfl) (by
  intro q hq
  simp only [List.mem_cons, List.not_mem_nil, or_false] at hq
  rcases hq with rfl | rfl | rfl
  · exact bdaxes3_0
  · exact bdaxes3_1
  · exact bdaxes3_2) (by decide)
theorem staxes3 (S L : D) (b : Option D) : mlaw_b2 [some S, some L, some (.str "axes"), some (.int 3), b, none, none, none] = .nx [some S, some L, some (.str "axes"), some (.int 3), some (PLs 3 psaxes3), none, none, none] := by
  have h0 : B2_0 [some S, some L, some (.str "axes"), some (.int 3), b, none, none, none] = .nx [some S, some L, some (.str "axes"), some (.int 3), some (PLs 3 psaxes3), none, none, none] := by kernel_rfl
  have h1 : B2_1 [some S, some L, some (.str "axes"), some (.int 3), some (PLs 3 psaxes3), none, none, none] = .nx [some S, some L, some (.str "axes"), some (.int 3), some (PLs 3 psaxes3), none, none, none] := by kernel_rfl
  have h2 : B2_2 [some S, some L, some (.str "axes"), some (.int 3), some (PLs 3 psaxes3), none, none, none] = .nx [some S, some L, some (.str "axes"), some (.int 3), some (PLs 3 psaxes3), none, none, none] := b22 claxes3 (by simp) (by kernel_rfl) (by decide)
  rw [mlaw_b2_eq, seq_nx' h0, seq_nx' h1, h2]
abbrev psaxes4 : List (List Int) := [[1, 0, 0, 0, 0], [0, 1, 0, 0, 0], [0, 0, 1, 0, 0], [0, 0, 0, 1, 0]]
theorem bdaxes4_0 : Body 4 psaxes4 [1, 0, 0, 0, 0] := by intro o; kernel_rfl
theorem bdaxes4_1 : Body 4 psaxes4 [0, 1, 0, 0, 0] := by intro o; kernel_rfl
theorem bdaxes4_2 : Body 4 psaxes4 [0, 0, 1, 0, 0] := by intro o; kernel_rfl
theorem bdaxes4_3 : Body 4 psaxes4 [0, 0, 0, 1, 0] := by intro o; kernel_rfl
theorem claxes4 : ∃ o, Q.Fis_closed [PLs 4 psaxes4] = .rt (.bl true) o := closed_v (by kernel_rfl) (by
  intro q hq
  simp only [List.mem_cons, List.not_mem_nil, or_false] at hq
  rcases hq with rfl | rfl | rfl | rfl
  · exact bdaxes4_0
  · exact bdaxes4_1
  · exact bdaxes4_2
  · exact bdaxes4_3) (by decide)
theorem staxes4 (S L : D) (b : Option D) : mlaw_b2 [some S, some L, some (.str "axes"), some (.int 4), b, none, none, none] = .nx [some S, some L, some (.str "axes"), some (.int 4), some (PLs 4 psaxes4), none, none, none] := by
  have h0 : B2_0 [some S, some L, some (.str "axes"), some (.int 4), b, none, none, none] = .nx [some S, some L, some (.str "axes"), some (.int 4), some (PLs 4 psaxes4), none, none, none] := by kernel_rfl
  have h1 : B2_1 [some S, some L, some (.str "axes"), some (.int 4), some (PLs 4 psaxes4), none, none, none] = .nx [some S, some L, some (.str "axes"), some (.int 4), some (PLs 4 psaxes4), none, none, none] := by kernel_rfl
  have h2 : B2_2 [some S, some L, some (.str "axes"), some (.int 4), some (PLs 4 psaxes4), none, none, none] = .nx [some S, some L, some (.str "axes"), some (.int 4), some (PLs 4 psaxes4), none, none, none] := b22 claxes4 (by simp) (by kernel_rfl) (by decide)
  rw [mlaw_b2_eq, seq_nx' h0, seq_nx' h1, h2]
theorem b2_0 (S L : D) (a b : Option D) : b2loop [some S, some L, some (.str "axes"), a, b, none, none, none] = .nx [some S, some L, some (.str "axes"), some (.int 4), some (PLs 4 psaxes4), none, none, none] := by
  have hi : mItN gRange2 (mCons (mK (.int 1)) (mCons (m2 gAdd (mCall Q.F_law_most (mCons (mVar 2) mNil)) (mK (.int 1))) mNil)) [some S, some L, some (.str "axes"), a, b, none, none, none] = .ok [.int 1, .int 2, .int 3, .int 4] [some S, some L, some (.str "axes"), a, b, none, none, none] := by kernel_rfl
  unfold b2loop
  rw [msFor_ap, hi, obind_ok]
  exact ((loop_cons (staxes1 S L b)).trans ((loop_cons (staxes2 S L (some (PLs 1 psaxes1)))).trans ((loop_cons (staxes3 S L (some (PLs 2 psaxes2)))).trans ((loop_cons (staxes4 S L (some (PLs 3 psaxes3)))).trans loop_nil))))
abbrev pspairs1 : List (List Int) := []
theorem clpairs1 : ∃ o, Q.Fis_closed [PLs 1 pspairs1] = .rt (.bl true) o := closed_v (by kernel_rfl) (by
  intro q hq
  cases hq) (by decide)
theorem stpairs1 (S L : D) (b : Option D) : mlaw_b2 [some S, some L, some (.str "pairs"), some (.int 1), b, none, none, none] = .nx [some S, some L, some (.str "pairs"), some (.int 1), some (PLs 1 pspairs1), none, none, none] := by
  have h0 : B2_0 [some S, some L, some (.str "pairs"), some (.int 1), b, none, none, none] = .nx [some S, some L, some (.str "pairs"), some (.int 1), some (PLs 1 pspairs1), none, none, none] := by kernel_rfl
  have h1 : B2_1 [some S, some L, some (.str "pairs"), some (.int 1), some (PLs 1 pspairs1), none, none, none] = .nx [some S, some L, some (.str "pairs"), some (.int 1), some (PLs 1 pspairs1), none, none, none] := by kernel_rfl
  have h2 : B2_2 [some S, some L, some (.str "pairs"), some (.int 1), some (PLs 1 pspairs1), none, none, none] = .nx [some S, some L, some (.str "pairs"), some (.int 1), some (PLs 1 pspairs1), none, none, none] := b22 clpairs1 (by simp) (by kernel_rfl) (by decide)
  rw [mlaw_b2_eq, seq_nx' h0, seq_nx' h1, h2]
abbrev pspairs2 : List (List Int) := [[1, -1, 0]]
theorem bdpairs2_0 : Body 2 pspairs2 [1, -1, 0] := by intro o; kernel_rfl
theorem clpairs2 : ∃ o, Q.Fis_closed [PLs 2 pspairs2] = .rt (.bl true) o := closed_v (by kernel_rfl) (by
  intro q hq
  simp only [List.mem_cons, List.not_mem_nil, or_false] at hq
  rcases hq with rfl
  · exact bdpairs2_0) (by decide)
theorem stpairs2 (S L : D) (b : Option D) : mlaw_b2 [some S, some L, some (.str "pairs"), some (.int 2), b, none, none, none] = .nx [some S, some L, some (.str "pairs"), some (.int 2), some (PLs 2 pspairs2), none, none, none] := by
  have h0 : B2_0 [some S, some L, some (.str "pairs"), some (.int 2), b, none, none, none] = .nx [some S, some L, some (.str "pairs"), some (.int 2), some (PLs 2 pspairs2), none, none, none] := by kernel_rfl
  have h1 : B2_1 [some S, some L, some (.str "pairs"), some (.int 2), some (PLs 2 pspairs2), none, none, none] = .nx [some S, some L, some (.str "pairs"), some (.int 2), some (PLs 2 pspairs2), none, none, none] := by kernel_rfl
  have h2 : B2_2 [some S, some L, some (.str "pairs"), some (.int 2), some (PLs 2 pspairs2), none, none, none] = .nx [some S, some L, some (.str "pairs"), some (.int 2), some (PLs 2 pspairs2), none, none, none] := b22 clpairs2 (by simp) (by kernel_rfl) (by decide)
  rw [mlaw_b2_eq, seq_nx' h0, seq_nx' h1, h2]
abbrev pspairs3 : List (List Int) := [[1, -1, 0, 0], [1, 0, -1, 0], [0, 1, -1, 0]]
theorem bdpairs3_0 : Body 3 pspairs3 [1, -1, 0, 0] := by intro o; kernel_rfl
theorem bdpairs3_1 : Body 3 pspairs3 [1, 0, -1, 0] := by intro o; kernel_rfl
theorem bdpairs3_2 : Body 3 pspairs3 [0, 1, -1, 0] := by intro o; kernel_rfl
theorem clpairs3 : ∃ o, Q.Fis_closed [PLs 3 pspairs3] = .rt (.bl true) o := closed_v (by kernel_rfl) (by
  intro q hq
  simp only [List.mem_cons, List.not_mem_nil, or_false] at hq
  rcases hq with rfl | rfl | rfl
  · exact bdpairs3_0
  · exact bdpairs3_1
  · exact bdpairs3_2) (by decide)
theorem stpairs3 (S L : D) (b : Option D) : mlaw_b2 [some S, some L, some (.str "pairs"), some (.int 3), b, none, none, none] = .nx [some S, some L, some (.str "pairs"), some (.int 3), some (PLs 3 pspairs3), none, none, none] := by
  have h0 : B2_0 [some S, some L, some (.str "pairs"), some (.int 3), b, none, none, none] = .nx [some S, some L, some (.str "pairs"), some (.int 3), some (PLs 3 pspairs3), none, none, none] := by kernel_rfl
  have h1 : B2_1 [some S, some L, some (.str "pairs"), some (.int 3), some (PLs 3 pspairs3), none, none, none] = .nx [some S, some L, some (.str "pairs"), some (.int 3), some (PLs 3 pspairs3), none, none, none] := by kernel_rfl
  have h2 : B2_2 [some S, some L, some (.str "pairs"), some (.int 3), some (PLs 3 pspairs3), none, none, none] = .nx [some S, some L, some (.str "pairs"), some (.int 3), some (PLs 3 pspairs3), none, none, none] := b22 clpairs3 (by simp) (by kernel_rfl) (by decide)
  rw [mlaw_b2_eq, seq_nx' h0, seq_nx' h1, h2]
abbrev pspairs4 : List (List Int) := [[1, -1, 0, 0, 0], [1, 0, -1, 0, 0], [1, 0, 0, -1, 0], [0, 1, -1, 0, 0], [0, 1, 0, -1, 0], [0, 0, 1, -1, 0]]
theorem bdpairs4_0 : Body 4 pspairs4 [1, -1, 0, 0, 0] := by intro o; kernel_rfl
theorem bdpairs4_1 : Body 4 pspairs4 [1, 0, -1, 0, 0] := by intro o; kernel_rfl
theorem bdpairs4_2 : Body 4 pspairs4 [1, 0, 0, -1, 0] := by intro o; kernel_rfl
theorem bdpairs4_3 : Body 4 pspairs4 [0, 1, -1, 0, 0] := by intro o; kernel_rfl
theorem bdpairs4_4 : Body 4 pspairs4 [0, 1, 0, -1, 0] := by intro o; kernel_rfl
theorem bdpairs4_5 : Body 4 pspairs4 [0, 0, 1, -1, 0] := by intro o; kernel_rfl
theorem clpairs4 : ∃ o, Q.Fis_closed [PLs 4 pspairs4] = .rt (.bl true) o := closed_v (by kernel_rfl) (by
  intro q hq
  simp only [List.mem_cons, List.not_mem_nil, or_false] at hq
  rcases hq with rfl | rfl | rfl | rfl | rfl | rfl
  · exact bdpairs4_0
  · exact bdpairs4_1
  · exact bdpairs4_2
  · exact bdpairs4_3
  · exact bdpairs4_4
  · exact bdpairs4_5) (by decide)
theorem stpairs4 (S L : D) (b : Option D) : mlaw_b2 [some S, some L, some (.str "pairs"), some (.int 4), b, none, none, none] = .nx [some S, some L, some (.str "pairs"), some (.int 4), some (PLs 4 pspairs4), none, none, none] := by
  have h0 : B2_0 [some S, some L, some (.str "pairs"), some (.int 4), b, none, none, none] = .nx [some S, some L, some (.str "pairs"), some (.int 4), some (PLs 4 pspairs4), none, none, none] := by kernel_rfl
  have h1 : B2_1 [some S, some L, some (.str "pairs"), some (.int 4), some (PLs 4 pspairs4), none, none, none] = .nx [some S, some L, some (.str "pairs"), some (.int 4), some (PLs 4 pspairs4), none, none, none] := by kernel_rfl
  have h2 : B2_2 [some S, some L, some (.str "pairs"), some (.int 4), some (PLs 4 pspairs4), none, none, none] = .nx [some S, some L, some (.str "pairs"), some (.int 4), some (PLs 4 pspairs4), none, none, none] := b22 clpairs4 (by simp) (by kernel_rfl) (by decide)
  rw [mlaw_b2_eq, seq_nx' h0, seq_nx' h1, h2]
theorem b2_1 (S L : D) (a b : Option D) : b2loop [some S, some L, some (.str "pairs"), a, b, none, none, none] = .nx [some S, some L, some (.str "pairs"), some (.int 4), some (PLs 4 pspairs4), none, none, none] := by
  have hi : mItN gRange2 (mCons (mK (.int 1)) (mCons (m2 gAdd (mCall Q.F_law_most (mCons (mVar 2) mNil)) (mK (.int 1))) mNil)) [some S, some L, some (.str "pairs"), a, b, none, none, none] = .ok [.int 1, .int 2, .int 3, .int 4] [some S, some L, some (.str "pairs"), a, b, none, none, none] := by kernel_rfl
  unfold b2loop
  rw [msFor_ap, hi, obind_ok]
  exact ((loop_cons (stpairs1 S L b)).trans ((loop_cons (stpairs2 S L (some (PLs 1 pspairs1)))).trans ((loop_cons (stpairs3 S L (some (PLs 2 pspairs2)))).trans ((loop_cons (stpairs4 S L (some (PLs 3 pspairs3)))).trans loop_nil))))
abbrev pseven1 : List (List Int) := []
theorem cleven1 : ∃ o, Q.Fis_closed [PLs 1 pseven1] = .rt (.bl true) o := closed_v (by kernel_rfl) (by
  intro q hq
  cases hq) (by decide)
theorem steven1 (S L : D) (b : Option D) : mlaw_b2 [some S, some L, some (.str "even"), some (.int 1), b, none, none, none] = .nx [some S, some L, some (.str "even"), some (.int 1), some (PLs 1 pseven1), none, none, none] := by
  have h0 : B2_0 [some S, some L, some (.str "even"), some (.int 1), b, none, none, none] = .nx [some S, some L, some (.str "even"), some (.int 1), some (PLs 1 pseven1), none, none, none] := by kernel_rfl
  have h1 : B2_1 [some S, some L, some (.str "even"), some (.int 1), some (PLs 1 pseven1), none, none, none] = .nx [some S, some L, some (.str "even"), some (.int 1), some (PLs 1 pseven1), none, none, none] := by kernel_rfl
  have h2 : B2_2 [some S, some L, some (.str "even"), some (.int 1), some (PLs 1 pseven1), none, none, none] = .nx [some S, some L, some (.str "even"), some (.int 1), some (PLs 1 pseven1), none, none, none] := b22 cleven1 (by simp) (by kernel_rfl) (by decide)
  rw [mlaw_b2_eq, seq_nx' h0, seq_nx' h1, h2]
abbrev pseven2 : List (List Int) := [[1, -1, 0], [1, 1, 0]]
theorem bdeven2_0 : Body 2 pseven2 [1, -1, 0] := by intro o; kernel_rfl
theorem bdeven2_1 : Body 2 pseven2 [1, 1, 0] := by intro o; kernel_rfl
theorem cleven2 : ∃ o, Q.Fis_closed [PLs 2 pseven2] = .rt (.bl true) o := closed_v (by kernel_rfl) (by
  intro q hq
  simp only [List.mem_cons, List.not_mem_nil, or_false] at hq
  rcases hq with rfl | rfl
  · exact bdeven2_0
  · exact bdeven2_1) (by decide)
theorem steven2 (S L : D) (b : Option D) : mlaw_b2 [some S, some L, some (.str "even"), some (.int 2), b, none, none, none] = .nx [some S, some L, some (.str "even"), some (.int 2), some (PLs 2 pseven2), none, none, none] := by
  have h0 : B2_0 [some S, some L, some (.str "even"), some (.int 2), b, none, none, none] = .nx [some S, some L, some (.str "even"), some (.int 2), some (PLs 2 pseven2), none, none, none] := by kernel_rfl
  have h1 : B2_1 [some S, some L, some (.str "even"), some (.int 2), some (PLs 2 pseven2), none, none, none] = .nx [some S, some L, some (.str "even"), some (.int 2), some (PLs 2 pseven2), none, none, none] := by kernel_rfl
  have h2 : B2_2 [some S, some L, some (.str "even"), some (.int 2), some (PLs 2 pseven2), none, none, none] = .nx [some S, some L, some (.str "even"), some (.int 2), some (PLs 2 pseven2), none, none, none] := b22 cleven2 (by simp) (by kernel_rfl) (by decide)
  rw [mlaw_b2_eq, seq_nx' h0, seq_nx' h1, h2]
abbrev pseven3 : List (List Int) := [[1, -1, 0, 0], [1, 1, 0, 0], [1, 0, -1, 0], [1, 0, 1, 0], [0, 1, -1, 0], [0, 1, 1, 0]]
theorem bdeven3_0 : Body 3 pseven3 [1, -1, 0, 0] := by intro o; kernel_rfl
theorem bdeven3_1 : Body 3 pseven3 [1, 1, 0, 0] := by intro o; kernel_rfl
theorem bdeven3_2 : Body 3 pseven3 [1, 0, -1, 0] := by intro o; kernel_rfl
theorem bdeven3_3 : Body 3 pseven3 [1, 0, 1, 0] := by intro o; kernel_rfl
theorem bdeven3_4 : Body 3 pseven3 [0, 1, -1, 0] := by intro o; kernel_rfl
theorem bdeven3_5 : Body 3 pseven3 [0, 1, 1, 0] := by intro o; kernel_rfl
theorem cleven3 : ∃ o, Q.Fis_closed [PLs 3 pseven3] = .rt (.bl true) o := closed_v (by kernel_rfl) (by
  intro q hq
  simp only [List.mem_cons, List.not_mem_nil, or_false] at hq
  rcases hq with rfl | rfl | rfl | rfl | rfl | rfl
  · exact bdeven3_0
  · exact bdeven3_1
  · exact bdeven3_2
  · exact bdeven3_3
  · exact bdeven3_4
  · exact bdeven3_5) (by decide)
theorem steven3 (S L : D) (b : Option D) : mlaw_b2 [some S, some L, some (.str "even"), some (.int 3), b, none, none, none] = .nx [some S, some L, some (.str "even"), some (.int 3), some (PLs 3 pseven3), none, none, none] := by
  have h0 : B2_0 [some S, some L, some (.str "even"), some (.int 3), b, none, none, none] = .nx [some S, some L, some (.str "even"), some (.int 3), some (PLs 3 pseven3), none, none, none] := by kernel_rfl
  have h1 : B2_1 [some S, some L, some (.str "even"), some (.int 3), some (PLs 3 pseven3), none, none, none] = .nx [some S, some L, some (.str "even"), some (.int 3), some (PLs 3 pseven3), none, none, none] := by kernel_rfl
  have h2 : B2_2 [some S, some L, some (.str "even"), some (.int 3), some (PLs 3 pseven3), none, none, none] = .nx [some S, some L, some (.str "even"), some (.int 3), some (PLs 3 pseven3), none, none, none] := b22 cleven3 (by simp) (by kernel_rfl) (by decide)
  rw [mlaw_b2_eq, seq_nx' h0, seq_nx' h1, h2]
abbrev pseven4 : List (List Int) := [[1, -1, 0, 0, 0], [1, 1, 0, 0, 0], [1, 0, -1, 0, 0], [1, 0, 1, 0, 0], [1, 0, 0, -1, 0], [1, 0, 0, 1, 0], [0, 1, -1, 0, 0], [0, 1, 1, 0, 0], [0, 1, 0, -1, 0], [0, 1, 0, 1, 0], [0, 0, 1, -1, 0], [0, 0, 1, 1, 0]]
theorem steven4 (S L : D) (b : Option D) : mlaw_b2 [some S, some L, some (.str "even"), some (.int 4), b, none, none, none] = .nx [some S, some L, some (.str "even"), some (.int 4), some (PLs 4 pseven4), none, none, none] := by
  have h0 : B2_0 [some S, some L, some (.str "even"), some (.int 4), b, none, none, none] = .nx [some S, some L, some (.str "even"), some (.int 4), some (PLs 4 pseven4), none, none, none] := by kernel_rfl
  have h1 : B2_1 [some S, some L, some (.str "even"), some (.int 4), some (PLs 4 pseven4), none, none, none] = .nx [some S, some L, some (.str "even"), some (.int 4), some (PLs 4 pseven4), none, none, none] := by kernel_rfl
  have h2 : B2_2 [some S, some L, some (.str "even"), some (.int 4), some (PLs 4 pseven4), none, none, none] = .nx [some S, some L, some (.str "even"), some (.int 4), some (PLs 4 pseven4), none, none, none] := by kernel_rfl
  rw [mlaw_b2_eq, seq_nx' h0, seq_nx' h1, h2]
theorem b2_2 (S L : D) (a b : Option D) : b2loop [some S, some L, some (.str "even"), a, b, none, none, none] = .nx [some S, some L, some (.str "even"), some (.int 4), some (PLs 4 pseven4), none, none, none] := by
  have hi : mItN gRange2 (mCons (mK (.int 1)) (mCons (m2 gAdd (mCall Q.F_law_most (mCons (mVar 2) mNil)) (mK (.int 1))) mNil)) [some S, some L, some (.str "even"), a, b, none, none, none] = .ok [.int 1, .int 2, .int 3, .int 4] [some S, some L, some (.str "even"), a, b, none, none, none] := by kernel_rfl
  unfold b2loop
  rw [msFor_ap, hi, obind_ok]
  exact ((loop_cons (steven1 S L b)).trans ((loop_cons (steven2 S L (some (PLs 1 pseven1)))).trans ((loop_cons (steven3 S L (some (PLs 2 pseven2)))).trans ((loop_cons (steven4 S L (some (PLs 3 pseven3)))).trans loop_nil))))
abbrev pssigns1 : List (List Int) := [[1, 0]]
theorem bdsigns1_0 : Body 1 pssigns1 [1, 0] := by intro o; kernel_rfl
theorem clsigns1 : ∃ o, Q.Fis_closed [PLs 1 pssigns1] = .rt (.bl true) o := closed_v (by kernel_rfl) (by
  intro q hq
  simp only [List.mem_cons, List.not_mem_nil, or_false] at hq
  rcases hq with rfl
  · exact bdsigns1_0) (by decide)
theorem stsigns1 (S L : D) (b : Option D) : mlaw_b2 [some S, some L, some (.str "signs"), some (.int 1), b, none, none, none] = .nx [some S, some L, some (.str "signs"), some (.int 1), some (PLs 1 pssigns1), none, none, none] := by
  have h0 : B2_0 [some S, some L, some (.str "signs"), some (.int 1), b, none, none, none] = .nx [some S, some L, some (.str "signs"), some (.int 1), some (PLs 1 pssigns1), none, none, none] := by kernel_rfl
  have h1 : B2_1 [some S, some L, some (.str "signs"), some (.int 1), some (PLs 1 pssigns1), none, none, none] = .nx [some S, some L, some (.str "signs"), some (.int 1), some (PLs 1 pssigns1), none, none, none] := by kernel_rfl
  have h2 : B2_2 [some S, some L, some (.str "signs"), some (.int 1), some (PLs 1 pssigns1), none, none, none] = .nx [some S, some L, some (.str "signs"), some (.int 1), some (PLs 1 pssigns1), none, none, none] := b22 clsigns1 (by simp) (by kernel_rfl) (by decide)
  rw [mlaw_b2_eq, seq_nx' h0, seq_nx' h1, h2]
abbrev pssigns2 : List (List Int) := [[1, 0, 0], [0, 1, 0], [1, -1, 0], [1, 1, 0]]
theorem bdsigns2_0 : Body 2 pssigns2 [1, 0, 0] := by intro o; kernel_rfl
theorem bdsigns2_1 : Body 2 pssigns2 [0, 1, 0] := by intro o; kernel_rfl
theorem bdsigns2_2 : Body 2 pssigns2 [1, -1, 0] := by intro o; kernel_rfl
theorem bdsigns2_3 : Body 2 pssigns2 [1, 1, 0] := by intro o; kernel_rfl
theorem clsigns2 : ∃ o, Q.Fis_closed [PLs 2 pssigns2] = .rt (.bl true) o := closed_v (by kernel_rfl) (by
  intro q hq
  simp only [List.mem_cons, List.not_mem_nil, or_false] at hq
  rcases hq with rfl | rfl | rfl | rfl
  · exact bdsigns2_0
  · exact bdsigns2_1
  · exact bdsigns2_2
  · exact bdsigns2_3) (by decide)
theorem stsigns2 (S L : D) (b : Option D) : mlaw_b2 [some S, some L, some (.str "signs"), some (.int 2), b, none, none, none] = .nx [some S, some L, some (.str "signs"), some (.int 2), some (PLs 2 pssigns2), none, none, none] := by
  have h0 : B2_0 [some S, some L, some (.str "signs"), some (.int 2), b, none, none, none] = .nx [some S, some L, some (.str "signs"), some (.int 2), some (PLs 2 pssigns2), none, none, none] := by kernel_rfl
  have h1 : B2_1 [some S, some L, some (.str "signs"), some (.int 2), some (PLs 2 pssigns2), none, none, none] = .nx [some S, some L, some (.str "signs"), some (.int 2), some (PLs 2 pssigns2), none, none, none] := by kernel_rfl
  have h2 : B2_2 [some S, some L, some (.str "signs"), some (.int 2), some (PLs 2 pssigns2), none, none, none] = .nx [some S, some L, some (.str "signs"), some (.int 2), some (PLs 2 pssigns2), none, none, none] := b22 clsigns2 (by simp) (by kernel_rfl) (by decide)
  rw [mlaw_b2_eq, seq_nx' h0, seq_nx' h1, h2]
abbrev pssigns3 : List (List Int) := [[1, 0, 0, 0], [0, 1, 0, 0], [0, 0, 1, 0], [1, -1, 0, 0], [1, 1, 0, 0], [1, 0, -1, 0], [1, 0, 1, 0], [0, 1, -1, 0], [0, 1, 1, 0]]
theorem stsigns3 (S L : D) (b : Option D) : mlaw_b2 [some S, some L, some (.str "signs"), some (.int 3), b, none, none, none] = .nx [some S, some L, some (.str "signs"), some (.int 3), some (PLs 3 pssigns3), none, none, none] := by
  have h0 : B2_0 [some S, some L, some (.str "signs"), some (.int 3), b, none, none, none] = .nx [some S, some L, some (.str "signs"), some (.int 3), some (PLs 3 pssigns3), none, none, none] := by kernel_rfl
  have h1 : B2_1 [some S, some L, some (.str "signs"), some (.int 3), some (PLs 3 pssigns3), none, none, none] = .nx [some S, some L, some (.str "signs"), some (.int 3), some (PLs 3 pssigns3), none, none, none] := by kernel_rfl
  have h2 : B2_2 [some S, some L, some (.str "signs"), some (.int 3), some (PLs 3 pssigns3), none, none, none] = .nx [some S, some L, some (.str "signs"), some (.int 3), some (PLs 3 pssigns3), none, none, none] := by kernel_rfl
  rw [mlaw_b2_eq, seq_nx' h0, seq_nx' h1, h2]
theorem b2_3 (S L : D) (a b : Option D) : b2loop [some S, some L, some (.str "signs"), a, b, none, none, none] = .nx [some S, some L, some (.str "signs"), some (.int 3), some (PLs 3 pssigns3), none, none, none] := by
  have hi : mItN gRange2 (mCons (mK (.int 1)) (mCons (m2 gAdd (mCall Q.F_law_most (mCons (mVar 2) mNil)) (mK (.int 1))) mNil)) [some S, some L, some (.str "signs"), a, b, none, none, none] = .ok [.int 1, .int 2, .int 3] [some S, some L, some (.str "signs"), a, b, none, none, none] := by kernel_rfl
  unfold b2loop
  rw [msFor_ap, hi, obind_ok]
  exact ((loop_cons (stsigns1 S L b)).trans ((loop_cons (stsigns2 S L (some (PLs 1 pssigns1)))).trans ((loop_cons (stsigns3 S L (some (PLs 2 pssigns2)))).trans loop_nil)))
abbrev psparking1 : List (List Int) := [[1, 0], [1, -1]]
theorem stparking1 (S L : D) (b : Option D) : mlaw_b2 [some S, some L, some (.str "parking"), some (.int 1), b, none, none, none] = .nx [some S, some L, some (.str "parking"), some (.int 1), some (PLs 1 psparking1), none, none, none] := by
  have h0 : B2_0 [some S, some L, some (.str "parking"), some (.int 1), b, none, none, none] = .nx [some S, some L, some (.str "parking"), some (.int 1), some (PLs 1 psparking1), none, none, none] := by kernel_rfl
  have h1 : B2_1 [some S, some L, some (.str "parking"), some (.int 1), some (PLs 1 psparking1), none, none, none] = .nx [some S, some L, some (.str "parking"), some (.int 1), some (PLs 1 psparking1), none, none, none] := by kernel_rfl
  have h2 : B2_2 [some S, some L, some (.str "parking"), some (.int 1), some (PLs 1 psparking1), none, none, none] = .nx [some S, some L, some (.str "parking"), some (.int 1), some (PLs 1 psparking1), none, none, none] := by kernel_rfl
  rw [mlaw_b2_eq, seq_nx' h0, seq_nx' h1, h2]
abbrev psparking2 : List (List Int) := [[1, 0, 0], [1, 0, -1], [0, 1, 0], [0, 1, -1], [-1, 1, 0], [-1, 1, -1]]
theorem stparking2 (S L : D) (b : Option D) : mlaw_b2 [some S, some L, some (.str "parking"), some (.int 2), b, none, none, none] = .nx [some S, some L, some (.str "parking"), some (.int 2), some (PLs 2 psparking2), none, none, none] := by
  have h0 : B2_0 [some S, some L, some (.str "parking"), some (.int 2), b, none, none, none] = .nx [some S, some L, some (.str "parking"), some (.int 2), some (PLs 2 psparking2), none, none, none] := by kernel_rfl
  have h1 : B2_1 [some S, some L, some (.str "parking"), some (.int 2), some (PLs 2 psparking2), none, none, none] = .nx [some S, some L, some (.str "parking"), some (.int 2), some (PLs 2 psparking2), none, none, none] := by kernel_rfl
  have h2 : B2_2 [some S, some L, some (.str "parking"), some (.int 2), some (PLs 2 psparking2), none, none, none] = .nx [some S, some L, some (.str "parking"), some (.int 2), some (PLs 2 psparking2), none, none, none] := by kernel_rfl
  rw [mlaw_b2_eq, seq_nx' h0, seq_nx' h1, h2]
abbrev psparking3 : List (List Int) := [[1, 0, 0, 0], [1, 0, 0, -1], [0, 1, 0, 0], [0, 1, 0, -1], [0, 0, 1, 0], [0, 0, 1, -1], [-1, 1, 0, 0], [-1, 1, 0, -1], [-1, 0, 1, 0], [-1, 0, 1, -1], [0, -1, 1, 0], [0, -1, 1, -1]]
theorem stparking3 (S L : D) (b : Option D) : mlaw_b2 [some S, some L, some (.str "parking"), some (.int 3), b, none, none, none] = .nx [some S, some L, some (.str "parking"), some (.int 3), some (PLs 3 psparking3), none, none, none] := by
  have h0 : B2_0 [some S, some L, some (.str "parking"), some (.int 3), b, none, none, none] = .nx [some S, some L, some (.str "parking"), some (.int 3), some (PLs 3 psparking3), none, none, none] := by kernel_rfl
  have h1 : B2_1 [some S, some L, some (.str "parking"), some (.int 3), some (PLs 3 psparking3), none, none, none] = .nx [some S, some L, some (.str "parking"), some (.int 3), some (PLs 3 psparking3), none, none, none] := by kernel_rfl
  have h2 : B2_2 [some S, some L, some (.str "parking"), some (.int 3), some (PLs 3 psparking3), none, none, none] = .nx [some S, some L, some (.str "parking"), some (.int 3), some (PLs 3 psparking3), none, none, none] := by kernel_rfl
  rw [mlaw_b2_eq, seq_nx' h0, seq_nx' h1, h2]
theorem b2_4 (S L : D) (a b : Option D) : b2loop [some S, some L, some (.str "parking"), a, b, none, none, none] = .nx [some S, some L, some (.str "parking"), some (.int 3), some (PLs 3 psparking3), none, none, none] := by
  have hi : mItN gRange2 (mCons (mK (.int 1)) (mCons (m2 gAdd (mCall Q.F_law_most (mCons (mVar 2) mNil)) (mK (.int 1))) mNil)) [some S, some L, some (.str "parking"), a, b, none, none, none] = .ok [.int 1, .int 2, .int 3] [some S, some L, some (.str "parking"), a, b, none, none, none] := by kernel_rfl
  unfold b2loop
  rw [msFor_ap, hi, obind_ok]
  exact ((loop_cons (stparking1 S L b)).trans ((loop_cons (stparking2 S L (some (PLs 1 psparking1)))).trans ((loop_cons (stparking3 S L (some (PLs 2 psparking2)))).trans loop_nil)))
abbrev psballot1 : List (List Int) := [[1, -1], [1, 0], [1, 1]]
theorem stballot1 (S L : D) (b : Option D) : mlaw_b2 [some S, some L, some (.str "ballot"), some (.int 1), b, none, none, none] = .nx [some S, some L, some (.str "ballot"), some (.int 1), some (PLs 1 psballot1), none, none, none] := by
  have h0 : B2_0 [some S, some L, some (.str "ballot"), some (.int 1), b, none, none, none] = .nx [some S, some L, some (.str "ballot"), some (.int 1), some (PLs 1 psballot1), none, none, none] := by kernel_rfl
  have h1 : B2_1 [some S, some L, some (.str "ballot"), some (.int 1), some (PLs 1 psballot1), none, none, none] = .nx [some S, some L, some (.str "ballot"), some (.int 1), some (PLs 1 psballot1), none, none, none] := by kernel_rfl
  have h2 : B2_2 [some S, some L, some (.str "ballot"), some (.int 1), some (PLs 1 psballot1), none, none, none] = .nx [some S, some L, some (.str "ballot"), some (.int 1), some (PLs 1 psballot1), none, none, none] := by kernel_rfl
  rw [mlaw_b2_eq, seq_nx' h0, seq_nx' h1, h2]
abbrev psballot2 : List (List Int) := [[1, 0, -1], [1, 0, 0], [1, 0, 1], [0, 1, -1], [0, 1, 0], [0, 1, 1], [-1, 1, -1], [-1, 1, 0], [-1, 1, 1]]
theorem stballot2 (S L : D) (b : Option D) : mlaw_b2 [some S, some L, some (.str "ballot"), some (.int 2), b, none, none, none] = .nx [some S, some L, some (.str "ballot"), some (.int 2), some (PLs 2 psballot2), none, none, none] := by
  have h0 : B2_0 [some S, some L, some (.str "ballot"), some (.int 2), b, none, none, none] = .nx [some S, some L, some (.str "ballot"), some (.int 2), some (PLs 2 psballot2), none, none, none] := by kernel_rfl
  have h1 : B2_1 [some S, some L, some (.str "ballot"), some (.int 2), some (PLs 2 psballot2), none, none, none] = .nx [some S, some L, some (.str "ballot"), some (.int 2), some (PLs 2 psballot2), none, none, none] := by kernel_rfl
  have h2 : B2_2 [some S, some L, some (.str "ballot"), some (.int 2), some (PLs 2 psballot2), none, none, none] = .nx [some S, some L, some (.str "ballot"), some (.int 2), some (PLs 2 psballot2), none, none, none] := by kernel_rfl
  rw [mlaw_b2_eq, seq_nx' h0, seq_nx' h1, h2]
theorem b2_5 (S L : D) (a b : Option D) : b2loop [some S, some L, some (.str "ballot"), a, b, none, none, none] = .nx [some S, some L, some (.str "ballot"), some (.int 2), some (PLs 2 psballot2), none, none, none] := by
  have hi : mItN gRange2 (mCons (mK (.int 1)) (mCons (m2 gAdd (mCall Q.F_law_most (mCons (mVar 2) mNil)) (mK (.int 1))) mNil)) [some S, some L, some (.str "ballot"), a, b, none, none, none] = .ok [.int 1, .int 2] [some S, some L, some (.str "ballot"), a, b, none, none, none] := by kernel_rfl
  unfold b2loop
  rw [msFor_ap, hi, obind_ok]
  exact ((loop_cons (stballot1 S L b)).trans ((loop_cons (stballot2 S L (some (PLs 1 psballot1)))).trans loop_nil))
abbrev psapart1 : List (List Int) := [[1, -1], [1, 1]]
theorem stapart1 (S L : D) (b : Option D) : mlaw_b2 [some S, some L, some (.str "apart"), some (.int 1), b, none, none, none] = .nx [some S, some L, some (.str "apart"), some (.int 1), some (PLs 1 psapart1), none, none, none] := by
  have h0 : B2_0 [some S, some L, some (.str "apart"), some (.int 1), b, none, none, none] = .nx [some S, some L, some (.str "apart"), some (.int 1), some (PLs 1 psapart1), none, none, none] := by kernel_rfl
  have h1 : B2_1 [some S, some L, some (.str "apart"), some (.int 1), some (PLs 1 psapart1), none, none, none] = .nx [some S, some L, some (.str "apart"), some (.int 1), some (PLs 1 psapart1), none, none, none] := by kernel_rfl
  have h2 : B2_2 [some S, some L, some (.str "apart"), some (.int 1), some (PLs 1 psapart1), none, none, none] = .nx [some S, some L, some (.str "apart"), some (.int 1), some (PLs 1 psapart1), none, none, none] := by kernel_rfl
  rw [mlaw_b2_eq, seq_nx' h0, seq_nx' h1, h2]
abbrev psapart2 : List (List Int) := [[1, 0, -1], [1, 0, 1], [0, 1, -1], [0, 1, 1], [-1, 1, -1], [-1, 1, 1]]
theorem stapart2 (S L : D) (b : Option D) : mlaw_b2 [some S, some L, some (.str "apart"), some (.int 2), b, none, none, none] = .nx [some S, some L, some (.str "apart"), some (.int 2), some (PLs 2 psapart2), none, none, none] := by
  have h0 : B2_0 [some S, some L, some (.str "apart"), some (.int 2), b, none, none, none] = .nx [some S, some L, some (.str "apart"), some (.int 2), some (PLs 2 psapart2), none, none, none] := by kernel_rfl
  have h1 : B2_1 [some S, some L, some (.str "apart"), some (.int 2), some (PLs 2 psapart2), none, none, none] = .nx [some S, some L, some (.str "apart"), some (.int 2), some (PLs 2 psapart2), none, none, none] := by kernel_rfl
  have h2 : B2_2 [some S, some L, some (.str "apart"), some (.int 2), some (PLs 2 psapart2), none, none, none] = .nx [some S, some L, some (.str "apart"), some (.int 2), some (PLs 2 psapart2), none, none, none] := by kernel_rfl
  rw [mlaw_b2_eq, seq_nx' h0, seq_nx' h1, h2]
abbrev psapart3 : List (List Int) := [[1, 0, 0, -1], [1, 0, 0, 1], [0, 1, 0, -1], [0, 1, 0, 1], [0, 0, 1, -1], [0, 0, 1, 1], [-1, 1, 0, -1], [-1, 1, 0, 1], [-1, 0, 1, -1], [-1, 0, 1, 1], [0, -1, 1, -1], [0, -1, 1, 1]]
theorem stapart3 (S L : D) (b : Option D) : mlaw_b2 [some S, some L, some (.str "apart"), some (.int 3), b, none, none, none] = .nx [some S, some L, some (.str "apart"), some (.int 3), some (PLs 3 psapart3), none, none, none] := by
  have h0 : B2_0 [some S, some L, some (.str "apart"), some (.int 3), b, none, none, none] = .nx [some S, some L, some (.str "apart"), some (.int 3), some (PLs 3 psapart3), none, none, none] := by kernel_rfl
  have h1 : B2_1 [some S, some L, some (.str "apart"), some (.int 3), some (PLs 3 psapart3), none, none, none] = .nx [some S, some L, some (.str "apart"), some (.int 3), some (PLs 3 psapart3), none, none, none] := by kernel_rfl
  have h2 : B2_2 [some S, some L, some (.str "apart"), some (.int 3), some (PLs 3 psapart3), none, none, none] = .nx [some S, some L, some (.str "apart"), some (.int 3), some (PLs 3 psapart3), none, none, none] := by kernel_rfl
  rw [mlaw_b2_eq, seq_nx' h0, seq_nx' h1, h2]
theorem b2_6 (S L : D) (a b : Option D) : b2loop [some S, some L, some (.str "apart"), a, b, none, none, none] = .nx [some S, some L, some (.str "apart"), some (.int 3), some (PLs 3 psapart3), none, none, none] := by
  have hi : mItN gRange2 (mCons (mK (.int 1)) (mCons (m2 gAdd (mCall Q.F_law_most (mCons (mVar 2) mNil)) (mK (.int 1))) mNil)) [some S, some L, some (.str "apart"), a, b, none, none, none] = .ok [.int 1, .int 2, .int 3] [some S, some L, some (.str "apart"), a, b, none, none, none] := by kernel_rfl
  unfold b2loop
  rw [msFor_ap, hi, obind_ok]
  exact ((loop_cons (stapart1 S L b)).trans ((loop_cons (stapart2 S L (some (PLs 1 psapart1)))).trans ((loop_cons (stapart3 S L (some (PLs 2 psapart2)))).trans loop_nil)))
abbrev psabove1 : List (List Int) := [[1, 1]]
theorem stabove1 (S L : D) (b : Option D) : mlaw_b2 [some S, some L, some (.str "above"), some (.int 1), b, none, none, none] = .nx [some S, some L, some (.str "above"), some (.int 1), some (PLs 1 psabove1), none, none, none] := by
  have h0 : B2_0 [some S, some L, some (.str "above"), some (.int 1), b, none, none, none] = .nx [some S, some L, some (.str "above"), some (.int 1), some (PLs 1 psabove1), none, none, none] := by kernel_rfl
  have h1 : B2_1 [some S, some L, some (.str "above"), some (.int 1), some (PLs 1 psabove1), none, none, none] = .nx [some S, some L, some (.str "above"), some (.int 1), some (PLs 1 psabove1), none, none, none] := by kernel_rfl
  have h2 : B2_2 [some S, some L, some (.str "above"), some (.int 1), some (PLs 1 psabove1), none, none, none] = .nx [some S, some L, some (.str "above"), some (.int 1), some (PLs 1 psabove1), none, none, none] := by kernel_rfl
  rw [mlaw_b2_eq, seq_nx' h0, seq_nx' h1, h2]
abbrev psabove2 : List (List Int) := [[1, 0, 1], [0, 1, 1], [-1, 1, 1]]
theorem stabove2 (S L : D) (b : Option D) : mlaw_b2 [some S, some L, some (.str "above"), some (.int 2), b, none, none, none] = .nx [some S, some L, some (.str "above"), some (.int 2), some (PLs 2 psabove2), none, none, none] := by
  have h0 : B2_0 [some S, some L, some (.str "above"), some (.int 2), b, none, none, none] = .nx [some S, some L, some (.str "above"), some (.int 2), some (PLs 2 psabove2), none, none, none] := by kernel_rfl
  have h1 : B2_1 [some S, some L, some (.str "above"), some (.int 2), some (PLs 2 psabove2), none, none, none] = .nx [some S, some L, some (.str "above"), some (.int 2), some (PLs 2 psabove2), none, none, none] := by kernel_rfl
  have h2 : B2_2 [some S, some L, some (.str "above"), some (.int 2), some (PLs 2 psabove2), none, none, none] = .nx [some S, some L, some (.str "above"), some (.int 2), some (PLs 2 psabove2), none, none, none] := by kernel_rfl
  rw [mlaw_b2_eq, seq_nx' h0, seq_nx' h1, h2]
abbrev psabove3 : List (List Int) := [[1, 0, 0, 1], [0, 1, 0, 1], [0, 0, 1, 1], [-1, 1, 0, 1], [-1, 0, 1, 1], [0, -1, 1, 1]]
theorem stabove3 (S L : D) (b : Option D) : mlaw_b2 [some S, some L, some (.str "above"), some (.int 3), b, none, none, none] = .nx [some S, some L, some (.str "above"), some (.int 3), some (PLs 3 psabove3), none, none, none] := by
  have h0 : B2_0 [some S, some L, some (.str "above"), some (.int 3), b, none, none, none] = .nx [some S, some L, some (.str "above"), some (.int 3), some (PLs 3 psabove3), none, none, none] := by kernel_rfl
  have h1 : B2_1 [some S, some L, some (.str "above"), some (.int 3), some (PLs 3 psabove3), none, none, none] = .nx [some S, some L, some (.str "above"), some (.int 3), some (PLs 3 psabove3), none, none, none] := by kernel_rfl
  have h2 : B2_2 [some S, some L, some (.str "above"), some (.int 3), some (PLs 3 psabove3), none, none, none] = .nx [some S, some L, some (.str "above"), some (.int 3), some (PLs 3 psabove3), none, none, none] := by kernel_rfl
  rw [mlaw_b2_eq, seq_nx' h0, seq_nx' h1, h2]
abbrev psabove4 : List (List Int) := [[1, 0, 0, 0, 1], [0, 1, 0, 0, 1], [0, 0, 1, 0, 1], [0, 0, 0, 1, 1], [-1, 1, 0, 0, 1], [-1, 0, 1, 0, 1], [-1, 0, 0, 1, 1], [0, -1, 1, 0, 1], [0, -1, 0, 1, 1], [0, 0, -1, 1, 1]]
theorem stabove4 (S L : D) (b : Option D) : mlaw_b2 [some S, some L, some (.str "above"), some (.int 4), b, none, none, none] = .nx [some S, some L, some (.str "above"), some (.int 4), some (PLs 4 psabove4), none, none, none] := by
  have h0 : B2_0 [some S, some L, some (.str "above"), some (.int 4), b, none, none, none] = .nx [some S, some L, some (.str "above"), some (.int 4), some (PLs 4 psabove4), none, none, none] := by kernel_rfl
  have h1 : B2_1 [some S, some L, some (.str "above"), some (.int 4), some (PLs 4 psabove4), none, none, none] = .nx [some S, some L, some (.str "above"), some (.int 4), some (PLs 4 psabove4), none, none, none] := by kernel_rfl
  have h2 : B2_2 [some S, some L, some (.str "above"), some (.int 4), some (PLs 4 psabove4), none, none, none] = .nx [some S, some L, some (.str "above"), some (.int 4), some (PLs 4 psabove4), none, none, none] := by kernel_rfl
  rw [mlaw_b2_eq, seq_nx' h0, seq_nx' h1, h2]
theorem b2_7 (S L : D) (a b : Option D) : b2loop [some S, some L, some (.str "above"), a, b, none, none, none] = .nx [some S, some L, some (.str "above"), some (.int 4), some (PLs 4 psabove4), none, none, none] := by
  have hi : mItN gRange2 (mCons (mK (.int 1)) (mCons (m2 gAdd (mCall Q.F_law_most (mCons (mVar 2) mNil)) (mK (.int 1))) mNil)) [some S, some L, some (.str "above"), a, b, none, none, none] = .ok [.int 1, .int 2, .int 3, .int 4] [some S, some L, some (.str "above"), a, b, none, none, none] := by kernel_rfl
  unfold b2loop
  rw [msFor_ap, hi, obind_ok]
  exact ((loop_cons (stabove1 S L b)).trans ((loop_cons (stabove2 S L (some (PLs 1 psabove1)))).trans ((loop_cons (stabove3 S L (some (PLs 2 psabove2)))).trans ((loop_cons (stabove4 S L (some (PLs 3 psabove3)))).trans loop_nil))))
theorem b2 (w : Str) (hw : w ∈ (["axes", "pairs", "even", "signs", "parking", "ballot", "apart", "above"] : List Str)) (S L : D) (a b : Option D) : ∃ t, b2loop [some S, some L, some (.str w), a, b, none, none, none] = .nx [some S, some L, some (.str w), some (.int (most w)), some t, none, none, none] := by
  simp only [List.mem_cons, List.not_mem_nil, or_false] at hw
  rcases hw with rfl | rfl | rfl | rfl | rfl | rfl | rfl | rfl
  · exact ⟨_, (b2_0 S L a b).trans (by rw [show most "axes" = 4 by kernel_rfl])⟩
  · exact ⟨_, (b2_1 S L a b).trans (by rw [show most "pairs" = 4 by kernel_rfl])⟩
  · exact ⟨_, (b2_2 S L a b).trans (by rw [show most "even" = 4 by kernel_rfl])⟩
  · exact ⟨_, (b2_3 S L a b).trans (by rw [show most "signs" = 3 by kernel_rfl])⟩
  · exact ⟨_, (b2_4 S L a b).trans (by rw [show most "parking" = 3 by kernel_rfl])⟩
  · exact ⟨_, (b2_5 S L a b).trans (by rw [show most "ballot" = 2 by kernel_rfl])⟩
  · exact ⟨_, (b2_6 S L a b).trans (by rw [show most "apart" = 3 by kernel_rfl])⟩
  · exact ⟨_, (b2_7 S L a b).trans (by rw [show most "above" = 4 by kernel_rfl])⟩
abbrev pssix3 : List (List Int) := [[1, -1, 0, 0], [1, 0, -1, 0], [0, 1, -1, 0], [2, -1, -1, 0], [-1, 2, -1, 0], [-1, -1, 2, 0]]
theorem bdsix3_0 : Body 3 pssix3 [1, -1, 0, 0] := by intro o; kernel_rfl
theorem bdsix3_1 : Body 3 pssix3 [1, 0, -1, 0] := by intro o; kernel_rfl
theorem bdsix3_2 : Body 3 pssix3 [0, 1, -1, 0] := by intro o; kernel_rfl
theorem bdsix3_3 : Body 3 pssix3 [2, -1, -1, 0] := by intro o; kernel_rfl
theorem bdsix3_4 : Body 3 pssix3 [-1, 2, -1, 0] := by intro o; kernel_rfl
theorem bdsix3_5 : Body 3 pssix3 [-1, -1, 2, 0] := by intro o; kernel_rfl
theorem clsix3 : ∃ o, Q.Fis_closed [PLs 3 pssix3] = .rt (.bl true) o := closed_v (by kernel_rfl) (by
  intro q hq
  simp only [List.mem_cons, List.not_mem_nil, or_false] at hq
  rcases hq with rfl | rfl | rfl | rfl | rfl | rfl
  · exact bdsix3_0
  · exact bdsix3_1
  · exact bdsix3_2
  · exact bdsix3_3
  · exact bdsix3_4
  · exact bdsix3_5) (by decide)
end K26
namespace K26
open Q DL PySem PySem.Spec PyProof.Rows
theorem msTryO_ap (mt : Str → Option Bool) (mb ms : MS) (ρ : En) : msTryO mt mb ms ρ = match mb ρ with
  | .ex y ρ1 => match mt y.c with
    | some true => match y.fs with
      | [] => noX (ms ρ1)
      | _ => .bad
    | _ => .bad
  | o => o := rfl
theorem mChain_ap (g g' : D → D → Option D) (a b c : ME) (ρ : En) : mChain g g' a b c ρ = (a ρ).bind fun x ρ1 => (b ρ1).bind fun y ρ2 => (ret (g x y) ρ2).bind fun k ρ3 => match k with
  | .bl true => (c ρ3).bind fun z ρ4 => ret (g' y z) ρ4
  | .bl false => .ok (.bl false) ρ3
  | _ => .bad := rfl
def Ref (w : Str) (m : Int) : Prop := tbAt tRANGES w = none ∨ ∃ a b : Int, tbAt tRANGES w = some (.tup [.int a, .int b]) ∧ ¬ (a ≤ m ∧ m ≤ b)
theorem fam_ref {w : Str} {m : Int} (h : Ref w m) (ρ : En) : (Ffamily [.str w, .int m]).R ρ = .ex ⟨"BadNumber", []⟩ ρ := by
  rcases h with h | ⟨a, b, h, hm⟩
  · simp -implicitDefEqProofs [Ffamily, runM, mfamily, mfamily_s0, gNotInT, h, pad]
  · by_cases h1 : a ≤ m
    · have h2 : ¬ m ≤ b := fun z => hm ⟨h1, z⟩
      simp -implicitDefEqProofs [Ffamily, runM, mfamily, mfamily_s0, mfamily_s1, mfamily_s2, gNotInT, gIxT, h, pad, mChain_ap, h1, h2]
    · simp -implicitDefEqProofs [Ffamily, runM, mfamily, mfamily_s0, mfamily_s1, mfamily_s2, gNotInT, gIxT, h, pad, mChain_ap, h1]
theorem v_ref {w : Str} {m : Int} (h : Ref w m) (ρ : En) : (F_law_refused [.str w, .int m]).R ρ = .ok (.bl true) ρ := by
  have e : mtBadNumber "BadNumber" = some true := by decide
  simp -implicitDefEqProofs [F_law_refused, runM, m_law_refused, msTryO_ap, pad, mCall_R, fam_ref h, e, noX]
theorem b3_v {S L : D} {w : Str} {t : D} : ∀ (ms : List Int) (b : Option D), (∀ m ∈ ms, Ref w m) → ∃ b', loopL (mgName 3) mlaw_b3 (ms.map D.int) [some S, some L, some (.str w), b, some t, none, none, none] = .nx [some S, some L, some (.str w), b', some t, none, none, none]
  | [], b, _ => ⟨b, rfl⟩
  | m :: ms, b, h => by
    obtain ⟨b', e⟩ := b3_v ms (some (.int m)) fun x hx => h x (List.mem_cons_of_mem _ hx)
    refine ⟨b', ?_⟩
    rw [← e]
    simp -implicitDefEqProofs [loopL, mlaw_b3, mCall_R, v_ref (h m List.mem_cons_self)]
theorem most_v {w : Str} (hw : w ∈ (["axes", "pairs", "even", "signs", "parking", "ballot", "apart", "above"] : List Str)) : (∀ ρ, (Q.F_law_most [.str w]).R ρ = .ok (.int (most w)) ρ) ∧ most w ≤ 4 ∧ tbAt tRANGES w = some (.tup [.int 1, .int (most w)]) := by
  simp only [List.mem_cons, List.not_mem_nil, or_false] at hw
  rcases hw with rfl | rfl | rfl | rfl | rfl | rfl | rfl | rfl <;> exact ⟨fun ρ => by kernel_rfl, by decide +kernel, by kernel_rfl⟩
theorem b4_v {S : D} {w : Str} {l : List Int} (hl : Dw l) (a b : Option D) (hw : w ∈ (["axes", "pairs", "even", "signs", "parking", "ballot", "apart", "above"] : List Str)) : ∃ a' b', mlaw_b4 [some S, some (dl l), some (.str w), a, b, none, none, none] = .nx [some S, some (dl l.dropLast), some (.str w), a', b', none, none, none] := by
  obtain ⟨m1, m2, m3⟩ := most_v hw
  have d := hl.draw
  obtain ⟨f, e1⟩ := b2 w hw S (dl l) a b
  obtain ⟨b', e2⟩ := b3_v (S := S) (L := dl l.dropLast) (w := w) (t := f) [0, -1, most w + 1, 5 + drawI l] (some (.int (most w))) (by
    intro m hm
    refine .inr ⟨1, most w, m3, ?_⟩
    simp only [List.mem_cons, List.not_mem_nil, or_false] at hm
    rcases hm with rfl | rfl | rfl | rfl <;> omega)
  refine ⟨b', some f, ?_⟩
  unfold mlaw_b4
  have e1b : msFor (mItN gRange2 (mCons (mK (.int 1)) (mCons (DL.m2 gAdd (mCall Q.F_law_most (mCons (mVar 2) mNil)) (mK (.int 1))) mNil))) (mgName 3) mlaw_b2 [some S, some (dl l), some (.str w), a, b, none, none, none] = .nx [some S, some (dl l), some (.str w), some (.int (most w)), some f, none, none, none] := e1
  rw [seq_nx' e1b]
  rw [← e2]
  generalize most w = k at *
  have i4 : (4 : Nat) ≤ sizeLine := by decide
  simp -implicitDefEqProofs [mCall_R, m1, mCallIo_ap, getO_1, e_next, qNext_v, gIter, i4, Q.dl]
theorem s5_v {S : D} : ∀ (ws : List Str) (l : List Int) (a b c : Option D), Dw l → (∀ w ∈ ws, w ∈ (["axes", "pairs", "even", "signs", "parking", "ballot", "apart", "above"] : List Str)) →
    ∃ a' b' c' l', Dw l' ∧ loopL (mgName 2) mlaw_b4 (ws.map D.str) [some S, some (dl l), a, b, c, none, none, none] = .nx [some S, some (dl l'), a', b', c', none, none, none]
  | [], l, a, b, c, hl, _ => ⟨a, b, c, l, hl, rfl⟩
  | w :: ws, l, a, b, c, hl, hw => by
    obtain ⟨b1, c1, e1⟩ := b4_v (S := S) hl b c (hw w List.mem_cons_self)
    obtain ⟨a2, b2, c2, l2, h2, e2⟩ := s5_v ws l.dropLast (some (.str w)) b1 c1 hl.tail fun x hx => hw x (List.mem_cons_of_mem _ hx)
    refine ⟨a2, b2, c2, l2, h2, ?_⟩
    rw [← e2]
    simp -implicitDefEqProofs [loopL, e1]
end K26
namespace K26
open Q DL PySem PySem.Spec PyProof.Rows
theorem no_q {t : Tb} (h : (t.all fun k => decide (k.1.cps.toList.getLast? ≠ some 113)) = true) (cs : List Nat) : tbAt t (S (cs ++ [113])) = none := by
  unfold tbAt
  rw [Option.map_eq_none_iff, List.find?_eq_none]
  intro p hp e
  have h1 := of_decide_eq_true (List.all_eq_true.mp h p hp)
  have e1 : p.1 = S (cs ++ [113]) := of_decide_eq_true e
  refine h1 ?_
  rw [e1]
  show (cs ++ [113]).getLast? = _
  simp
theorem s6_v (S L : D) (a b c : Option D) : mlaw_s6 [some S, some L, a, b, c, none, none, none] = .nx [some S, some L, a, b, c, some (PLs 3 pssix3), none, none] := by kernel_rfl
theorem s7_v (S L : D) (a b c : Option D) : mlaw_s7 [some S, some L, a, b, c, some (PLs 3 pssix3), none, none] = .nx [some S, some L, a, b, c, some (PLs 3 pssix3), none, none] := by
  obtain ⟨o, hc⟩ := clsix3
  have hc' : ∀ ρ, (Q.Fis_closed [PLs 3 pssix3]).R ρ = .ok (.bl true) ρ := fun ρ => by rw [hc]; rfl
  have h1 : (mTest (m2 gNe (m1 (gFld (isC ["Planes"]) "n") (mVar 5)) (mK (.int 3)))) [some S, some L, a, b, c, some (PLs 3 pssix3), none, none] = .ok false [some S, some L, a, b, c, some (PLs 3 pssix3), none, none] := by kernel_rfl
  have h2 : (mTest (m2 gNe (mMeth (tb [("Planes", Q.FPlanes_planes)]) "planes" (mVar 5) mNil) (mCall Q.F_law_due (mCons (mK (.str "six")) (mCons (mK (.int 3)) mNil))))) [some S, some L, a, b, c, some (PLs 3 pssix3), none, none] = .ok false [some S, some L, a, b, c, some (PLs 3 pssix3), none, none] := by kernel_rfl
  generalize PLs 3 pssix3 = P at *
  unfold mlaw_s7
  rw [msIf_ap, mOrT_ap, h1, bind_ok, if_neg (by decide), mOrT_ap, h2, bind_ok, if_neg (by decide)]
  simp -implicitDefEqProofs [mCall_R, hc']
theorem s9_v {S : D} (l : List Int) (a b c : Option D) (x : D) : ∃ cs l', cs.length ≤ 4 ∧ mlaw_s9 [some S, some (dl l), a, b, c, some x, none, none] = .nx [some S, some (dl l'), some (sD cs), b, c, some x, none, none] := by
  have i1 : (1 : Nat) ≤ sizeLine := by decide
  have al : ("abcdefghijklmnopqrstuvwxyz" : Str) = Q.S [97,98,99,100,101,102,103,104,105,106,107,108,109,110,111,112,113,114,115,116,117,118,119,120,121,122] := by decide
  have em : (.str "" : D) = sD [] := congrArg D.str (show ("" : Str) = Q.S [] by decide)
  have isS : isStr (.str "") = true := rfl
  have hm : ∀ l d, ∃ c' l', True ∧ mlaw_e8 [some S, some (dl l), a, b, c, some x, some d, none] = .ok (sD [c']) [some S, some (dl l'), a, b, c, some x, some d, none] := fun l d => by
    obtain ⟨r1, r2⟩ := fm_rng (drawI l) (m := 26) (by decide)
    have g1 := gMod_p (drawI l) (m := 26) (by decide)
    have ix : ∀ k : Int, 0 ≤ k → k < 26 → ∃ c', gIx (.str "abcdefghijklmnopqrstuvwxyz") (.int k) = some (sD [c']) := fun k h0 h1 => by
      have : ∀ n : Nat, n < 26 → ∃ c', gIx (.str "abcdefghijklmnopqrstuvwxyz") (.int (n : Nat)) = some (sD [c']) := fun n hn => by
        rw [al]
        have hl : ([97,98,99,100,101,102,103,104,105,106,107,108,109,110,111,112,113,114,115,116,117,118,119,120,121,122] : List Nat).length = 26 := rfl
        generalize ([97,98,99,100,101,102,103,104,105,106,107,108,109,110,111,112,113,114,115,116,117,118,119,120,121,122] : List Nat) = T at hl ⊢
        refine ⟨T[n]'(by omega), ?_⟩
        show (if (Q.S T).length ≤ sizeLine then (L2.atI T (n : Int)).map (fun c => D.str ⟨#[c]⟩) else none) = _
        have s26 : 26 ≤ sizeLine := by decide
        rw [if_pos (by rw [S_len]; omega)]
        have e : L2.atI T (n : Int) = some (T[n]'(by omega)) := by
          unfold L2.atI L2.ixN
          have : n < T.length := by omega
          simp [this]
        rw [e]
        rfl
      have := this k.toNat (by omega)
      rw [show ((k.toNat : Nat) : Int) = k by omega] at this
      exact this
    obtain ⟨c', hc⟩ := ix _ r1 r2
    refine ⟨c', l.dropLast, trivial, ?_⟩
    generalize (drawI l).fmod 26 = k at *
    simp -implicitDefEqProofs [mlaw_e8, io_next1, g1, hc]
  obtain ⟨r1, r2⟩ := fm_rng (drawI l) (m := 5) (by decide)
  have g1 := gMod_p (drawI l) (m := 5) (by decide)
  obtain ⟨n, hn⟩ : ∃ n : Nat, (drawI l).fmod 5 = (n : Int) := ⟨((drawI l).fmod 5).toNat, by omega⟩
  rw [hn] at g1
  have hok : okR (n : Int) = true := by
    unfold okR
    simp only [Bool.and_eq_true, decide_eq_true_eq]
    omega
  have hi : mItN gRange1 (mCons (m2 gMod (mN gInt (mCons (mCallIo Q.F_law_next 1 mNil) mNil)) (mK (.int 5))) mNil) [some S, some (dl l), a, b, c, some x, none, none] = .ok (rangeL 0 n) [some S, some (dl l.dropLast), a, b, c, some x, none, none] := by
    simp -implicitDefEqProofs [io_next1, g1, hok]
  have hlen : (rangeL 0 n).length = n := by simp [rangeL]
  have hsz : (rangeL 0 n).length ≤ sizeLine := by
    rw [hlen]
    have : 5 ≤ sizeLine := by decide
    omega
  obtain ⟨cs, l', e, hl, _⟩ := mLc_io (i := 6) (me := mlaw_e8) (enc := fun c => sD [c]) (P := fun _ => True) (E := fun l o => [some S, some (dl l), a, b, c, some x, o, none]) (l := l.dropLast) (o := none) hi hsz (fun _ _ _ => rfl) (fun _ _ => by simp) rfl hm
  refine ⟨cs, l', by omega, ?_⟩
  have ej : gJoin (.str "") [.lst (cs.map fun c => sD [c])] = some (sD cs) := by
    rw [em]
    exact join_cs cs (by omega)
  generalize (.lst (cs.map fun c => sD [c]) : D) = C at *
  generalize sD cs = X at *
  unfold mlaw_s9
  simp -implicitDefEqProofs [mM, e, ej, isS]
theorem s12_v {S L : D} (cs : List Nat) (hc : cs.length ≤ 4) (b c x : Option D) : ∃ ρ', mlaw_s12 [some S, some L, some (sD cs), b, c, x, none, none] = .rt (.bl true) ρ' := by
  have r1 := fun ρ => v_ref (w := "six") (m := 1) (.inr ⟨3, 3, by kernel_rfl, by omega⟩) ρ
  have r2 := fun ρ => v_ref (w := "six") (m := 2) (.inr ⟨3, 3, by kernel_rfl, by omega⟩) ρ
  have r3 := fun ρ => v_ref (w := "six") (m := 4) (.inr ⟨3, 3, by kernel_rfl, by omega⟩) ρ
  have q1 := fun ρ => v_ref (w := "") (m := 2) (.inl (by kernel_rfl)) ρ
  have q2 := fun ρ => v_ref (w := "sixes") (m := 2) (.inl (by kernel_rfl)) ρ
  have q3 := fun ρ => v_ref (w := Q.S (cs ++ [113])) (m := 2) (.inl (no_q (by decide +kernel) cs)) ρ
  have q4 := fun ρ => v_ref (w := "Axes") (m := 2) (.inl (by kernel_rfl)) ρ
  have eq : (.str "q" : D) = sD [113] := congrArg D.str (show ("q" : Str) = Q.S [113] by decide)
  have ad : gAdd (sD cs) (.str "q") = some (sD (cs ++ [113])) := by
    rw [eq]
    refine gAdd_S cs [113] ?_
    have : 10 ≤ sizeLine := by decide
    simp only [List.length_cons, List.length_nil]
    omega
  have i3 : (3 : Nat) ≤ sizeLine := by decide
  have i4 : (4 : Nat) ≤ sizeLine := by decide
  change ∀ ρ, (F_law_refused [sD (cs ++ [113]), .int 2]).R ρ = .ok (.bl true) ρ at q3
  generalize sD (cs ++ [113]) = Z at *
  generalize sD cs = Y at *
  refine ⟨[some S, some L, some Y, b, c, x, none, none], ?_⟩
  simp -implicitDefEqProofs [mlaw_s12, mlaw_e10, mlaw_e11, mLc_ap, gIter, lcLoop, wipeE, restE, mYes, mCall_R, r1, r2, r3, q1, q2, q3, q4, ad, i3, i4, gAll, asBls]
theorem law_true : ∀ zs : List Int, zs.length ≤ 63 → ∃ o, Flaw [.scr (zs.map D.int)] = .rt (.bl true) o := by
  intro zs hz
  obtain ⟨l0, hl0, e0⟩ := qDraws_b zs hz
  suffices h : ∃ ρ', mlaw (pad 8 [.scr (zs.map D.int)]) = .rt (.bl true) ρ' by
    obtain ⟨ρ', h⟩ := h
    exact ⟨_, runM_rt (ds := [.scr (zs.map D.int)]) (np := 1) (dd := []) rfl h⟩
  generalize hS : D.scr (zs.map D.int) = S at *
  have s0 : pad 8 [S] = [some S, none, none, none, none, none, none, none] := rfl
  have b0 : [some S, none, none, none, none, none, none, none].set 1 none = [some S, none, none, none, none, none, none, none] := rfl
  have a0 : mlaw_s0 [some S, none, none, none, none, none, none, none] = .nx [some S, some (dl l0), none, none, none, none, none, none] := by
    simp -implicitDefEqProofs [mlaw_s0, mCall_R, e_draws, e0]
  have a1 : mlaw_s1 [some S, some (dl l0), none, none, none, none, none, none] = .nx [some S, some (dl l0.reverse), none, none, none, none, none, none] := by
    simp -implicitDefEqProofs [mlaw_s1, getO_1, gReverse]
  obtain ⟨x2, x3, x4, l2, hl2, e2⟩ := s5_v (S := S) ["axes", "pairs", "even", "signs", "parking", "ballot", "apart", "above"] l0.reverse none none none hl0.rev fun _ h => h
  have i8 : (8 : Nat) ≤ sizeLine := by decide
  have a2 : mlaw_s5 [some S, some (dl l0.reverse), none, none, none, none, none, none] = .nx [some S, some (dl l2), x2, x3, x4, none, none, none] := by
    rw [← e2]
    simp -implicitDefEqProofs [mlaw_s5, gIter, i8]
  have a3 := s6_v S (dl l2) x2 x3 x4
  have a4 := s7_v S (dl l2) x2 x3 x4
  obtain ⟨cs, l3, hc, a5⟩ := s9_v (S := S) l2 x2 x3 x4 (PLs 3 pssix3)
  obtain ⟨ρ', a6⟩ := s12_v (S := S) (L := dl l3) cs hc x3 x4 (some (PLs 3 pssix3))
  refine ⟨ρ', ?_⟩
  rw [s0]
  unfold mlaw
  rw [msForget_ap, b0, seq_nx' a0, seq_nx' a1, seq_nx' a2, seq_nx' a3, seq_nx' a4, seq_nx' a5, a6]
end K26
namespace K26
open DL L2 PySem PySem.Spec PyProof.Rows
def D_law_number : He.DefD := ⟨("_law_number", none), "_law_number", "_law_number", defArgs s_law_number, defBody s_law_number, defScope s_law_number, [], []⟩
def D_law_draws : He.DefD := ⟨("_law_draws", none), "_law_draws", "_law_draws", defArgs s_law_draws, defBody s_law_draws, defScope s_law_draws, [], []⟩
def Dall_pairs : He.DefD := ⟨("all_pairs", none), "all_pairs", "all_pairs", defArgs sall_pairs, defBody sall_pairs, defScope sall_pairs, [], []⟩
def Dwritten : He.DefD := ⟨("written", none), "written", "written", defArgs swritten, defBody swritten, defScope swritten, [], []⟩
def Dmirror_rows : He.DefD := ⟨("mirror_rows", none), "mirror_rows", "mirror_rows", defArgs smirror_rows, defBody smirror_rows, defScope smirror_rows, [], []⟩
def Dstep_plane : He.DefD := ⟨("step_plane", none), "step_plane", "step_plane", defArgs sstep_plane, defBody sstep_plane, defScope sstep_plane, [], []⟩
def Dcheck_letters : He.DefD := ⟨("check_letters", none), "check_letters", "check_letters", defArgs scheck_letters, defBody scheck_letters, defScope scheck_letters, [], []⟩
def Ddivisor : He.DefD := ⟨("divisor", none), "divisor", "divisor", defArgs sdivisor, defBody sdivisor, defScope sdivisor, [], []⟩
def Dis_plane : He.DefD := ⟨("is_plane", none), "is_plane", "is_plane", defArgs sis_plane, defBody sis_plane, defScope sis_plane, [], []⟩
def Dother_way : He.DefD := ⟨("other_way", none), "other_way", "other_way", defArgs sother_way, defBody sother_way, defScope sother_way, [], []⟩
def Dare_planes : He.DefD := ⟨("are_planes", none), "are_planes", "are_planes", defArgs sare_planes, defBody sare_planes, defScope sare_planes, [], []⟩
def DPlanes_init : He.DefD := ⟨("Planes", some "__init__"), "__init__", "Planes.__init__", defArgs sPlanes_init, defBody sPlanes_init, defScope sPlanes_init, [], []⟩
def DGraph_planes : He.DefD := ⟨("Graph", some "planes"), "planes", "Graph.planes", defArgs sGraph_planes, defBody sGraph_planes, defScope sGraph_planes, [], []⟩
def Dis_step : He.DefD := ⟨("is_step", none), "is_step", "is_step", defArgs sis_step, defBody sis_step, defScope sis_step, [], []⟩
def DGraph_init : He.DefD := ⟨("Graph", some "__init__"), "__init__", "Graph.__init__", defArgs sGraph_init, defBody sGraph_init, defScope sGraph_init, [], []⟩
def Dfamily : He.DefD := ⟨("family", none), "family", "family", defArgs sfamily, defBody sfamily, defScope sfamily, [], []⟩
def D_law_pairs : He.DefD := ⟨("_law_pairs", none), "_law_pairs", "_law_pairs", defArgs s_law_pairs, defBody s_law_pairs, defScope s_law_pairs, [], []⟩
def D_law_unit : He.DefD := ⟨("_law_unit", none), "_law_unit", "_law_unit", defArgs s_law_unit, defBody s_law_unit, defScope s_law_unit, [], []⟩
def D_law_gains : He.DefD := ⟨("_law_gains", none), "_law_gains", "_law_gains", defArgs s_law_gains, defBody s_law_gains, defScope s_law_gains, [], []⟩
def D_law_due : He.DefD := ⟨("_law_due", none), "_law_due", "_law_due", defArgs s_law_due, defBody s_law_due, defScope s_law_due, [], []⟩
def Dlowest : He.DefD := ⟨("lowest", none), "lowest", "lowest", defArgs slowest, defBody slowest, defScope slowest, [], []⟩
def Dinverted : He.DefD := ⟨("inverted", none), "inverted", "inverted", defArgs sinverted, defBody sinverted, defScope sinverted, [], []⟩
def Dmultiplied : He.DefD := ⟨("multiplied", none), "multiplied", "multiplied", defArgs smultiplied, defBody smultiplied, defScope smultiplied, [], []⟩
def Dnegated : He.DefD := ⟨("negated", none), "negated", "negated", defArgs snegated, defBody snegated, defScope snegated, [], []⟩
def Dsummed : He.DefD := ⟨("summed", none), "summed", "summed", defArgs ssummed, defBody ssummed, defScope ssummed, [], []⟩
def Dlessened : He.DefD := ⟨("lessened", none), "lessened", "lessened", defArgs slessened, defBody slessened, defScope slessened, [], []⟩
def Dreduced : He.DefD := ⟨("reduced", none), "reduced", "reduced", defArgs sreduced, defBody sreduced, defScope sreduced, [], []⟩
def Dinverse_of : He.DefD := ⟨("inverse_of", none), "inverse_of", "inverse_of", defArgs sinverse_of, defBody sinverse_of, defScope sinverse_of, [], []⟩
def Dis_number : He.DefD := ⟨("is_number", none), "is_number", "is_number", defArgs sis_number, defBody sis_number, defScope sis_number, [], []⟩
def Dis_row_of : He.DefD := ⟨("is_row_of", none), "is_row_of", "is_row_of", defArgs sis_row_of, defBody sis_row_of, defScope sis_row_of, [], []⟩
def DMove_init : He.DefD := ⟨("Move", some "__init__"), "__init__", "Move.__init__", defArgs sMove_init, defBody sMove_init, defScope sMove_init, [], []⟩
def Dmirror_of : He.DefD := ⟨("mirror_of", none), "mirror_of", "mirror_of", defArgs smirror_of, defBody smirror_of, defScope smirror_of, [], []⟩
def Dnumbers_of : He.DefD := ⟨("numbers_of", none), "numbers_of", "numbers_of", defArgs snumbers_of, defBody snumbers_of, defScope snumbers_of, [], []⟩
def Dwithout_divisor : He.DefD := ⟨("without_divisor", none), "without_divisor", "without_divisor", defArgs swithout_divisor, defBody swithout_divisor, defScope swithout_divisor, [], []⟩
def Dcleared_row : He.DefD := ⟨("cleared_row", none), "cleared_row", "cleared_row", defArgs scleared_row, defBody scleared_row, defScope scleared_row, [], []⟩
def Ddot : He.DefD := ⟨("dot", none), "dot", "dot", defArgs sdot, defBody sdot, defScope sdot, [], []⟩
def DMove_led : He.DefD := ⟨("Move", some "led"), "led", "Move.led", defArgs sMove_led, defBody sMove_led, defScope sMove_led, [], []⟩
def Dis_closed : He.DefD := ⟨("is_closed", none), "is_closed", "is_closed", defArgs sis_closed, defBody sis_closed, defScope sis_closed, [], []⟩
def D_law_most : He.DefD := ⟨("_law_most", none), "_law_most", "_law_most", defArgs s_law_most, defBody s_law_most, defScope s_law_most, [], []⟩
def D_law_refused : He.DefD := ⟨("_law_refused", none), "_law_refused", "_law_refused", defArgs s_law_refused, defBody s_law_refused, defScope s_law_refused, [], []⟩
def D_law_next : He.DefD := ⟨("_law_next", none), "_law_next", "_law_next", defArgs s_law_next, defBody s_law_next, defScope s_law_next, [], []⟩
def DPlanes_planes : He.DefD := ⟨("Planes", some "planes"), "planes", "Planes.planes", defArgs sPlanes_planes, defBody sPlanes_planes, defScope sPlanes_planes, [], []⟩
def DPlanes_len : He.DefD := ⟨("Planes", some "__len__"), "__len__", "Planes.__len__", defArgs sPlanes_len, defBody sPlanes_len, defScope sPlanes_len, [], []⟩
def Dlaw : He.DefD := ⟨("law", none), "law", "law", defArgs slaw, defBody slaw, defScope slaw, [], []⟩
def fns : List He.DefD := [D_law_number, D_law_draws, Dall_pairs, Dwritten, Dmirror_rows, Dstep_plane, Dcheck_letters, Ddivisor, Dis_plane, Dother_way, Dare_planes, DPlanes_init, DGraph_planes, Dis_step, DGraph_init, Dfamily, D_law_pairs, D_law_unit, D_law_gains, D_law_due, Dlowest, Dinverted, Dmultiplied, Dnegated, Dsummed, Dlessened, Dreduced, Dinverse_of, Dis_number, Dis_row_of, DMove_init, Dmirror_of, Dnumbers_of, Dwithout_divisor, Dcleared_row, Ddot, DMove_led, Dis_closed, D_law_most, D_law_refused, D_law_next, DPlanes_planes, DPlanes_len, Dlaw]
def fas : List He.Fa := [.glo "BadNumber", .glo "GAINS", .glo "Graph", .glo "Move", .glo "NotGraph", .glo "NotMatrix", .glo "NotPlanes", .glo "NotPoint", .glo "ONE", .glo "PlaneError", .glo "Planes", .glo "RANGES", .glo "TooLarge", .glo "ZERO", .glo "_law_draws", .glo "_law_due", .glo "_law_gains", .glo "_law_most", .glo "_law_next", .glo "_law_number", .glo "_law_pairs", .glo "_law_refused", .glo "_law_unit", .glo "all_pairs", .glo "are_planes", .glo "check_letters", .glo "cleared_row", .glo "divisor", .glo "dot", .glo "family", .glo "inverse_of", .glo "inverted", .glo "is_closed", .glo "is_number", .glo "is_plane", .glo "is_row_of", .glo "is_step", .glo "law", .glo "lessened", .glo "lowest", .glo "mirror_of", .glo "mirror_rows", .glo "multiplied", .glo "negated", .glo "numbers_of", .glo "other_way", .glo "reduced", .glo "step_plane", .glo "summed", .glo "without_divisor", .glo "written", .free "abs", .free "all", .free "any", .free "enumerate", .free "int", .free "len", .free "list", .free "range", .free "sum", .free "tuple", .free "zip", .cls "Graph", .mkr "Graph", .meth "Graph" "planes", .noat "Graph" "kept", .noat "Graph" "m", .cls "Move", .mkr "Move", .meth "Move" "led", .noat "Move" "back", .noat "Move" "kept", .noat "Move" "more", .noat "Move" "n", .cls "Planes", .mkr "Planes", .meth "Planes" "__len__", .meth "Planes" "planes", .noat "Planes" "kept", .noat "Planes" "n", .int "MOST_ENTRY" cMOST_ENTRY, .int "MOST_GAIN" cMOST_GAIN, .int "MOST_LETTERS" cMOST_LETTERS, .int "MOST_PLANES" cMOST_PLANES, .int "MOST_STEPS" cMOST_STEPS, .int "MOST_VERTEX" cMOST_VERTEX, .exc "PlaneError", .exc "NotMatrix", .exc "NotPoint", .exc "NotPlanes", .exc "NotGraph", .exc "BadNumber", .exc "TooLarge", .exm "PlaneError" "BadNumber" false, .exm "NotMatrix" "BadNumber" false, .exm "NotPoint" "BadNumber" false, .exm "NotPlanes" "BadNumber" false, .exm "NotGraph" "BadNumber" false, .exm "BadNumber" "BadNumber" true, .exm "TooLarge" "BadNumber" false]
def xfs (K : PySem.W.Frag) : Bool := (He.tupB K "ONE" cONE_d && (He.tupB K "ZERO" cZERO_d && (tabB K "GAINS" tGAINS && (tabB K "RANGES" tRANGES && (excB K "BadNumber" && true)))))
def loose0 : List Str := ["_wall", "PlaneError", "NotMatrix", "NotPoint", "NotPlanes", "NotGraph", "BadNumber", "TooLarge", "ZERO", "ONE", "divisor", "lowest", "is_number", "summed", "multiplied", "negated", "inverted", "dot", "without_divisor", "cleared_row"]
def loose1 : List Str := ["is_row_of", "lessened", "reduced", "inverse_of", "MOST_LETTERS", "MOST_PLANES", "MOST_ENTRY", "check_letters", "is_plane", "check_point", "other_way", "are_planes", "Planes", "numbers_of", "MOST_VERTEX", "MOST_STEPS", "MOST_GAIN", "is_step", "Graph", "step_plane"]
def loose2 : List Str := ["RANGES", "GAINS", "all_pairs", "written", "mirror_rows", "family", "led_tuple", "Move", "mirror_of", "is_closed", "_law_number", "_law_draws", "_law_next", "_law_unit", "_law_pairs", "_law_gains", "_law_due", "_law_most", "_law_refused"]
def loose : List Str := loose0 ++ loose1 ++ loose2
abbrev R : PySem.W.OpenRow := PySem.W.OpenLaw.row PySem.Challenge.rw_planeworth_k26_families
def tabs : Tabs := [("GAINS", tGAINS.map (·.1)), ("RANGES", tRANGES.map (·.1))]
abbrev hk : PySem.W.Hook := hookXT 4 fas xfs fns tabs
def ob (s : PySem.W.SharedT) : AlX := obXTG 4 fas xfs fns tabs (HandSHeadRun.getT s)
theorem ob_eq (s : PySem.W.SharedT) : ob s = hk.obs s.abs := obXTG_eq (HandSHeadRun.getT_eq s)
def RunP (w : World) : Prop := HandSHeadRun.RunEq R (PySem.W.view R.prog [68]) hk ob 20000 loose w
theorem run_f (w : World) : RunP (w.withFollow "special-get-raises" false) := by
  intro os
  kernel_rfl
theorem run_t (w : World) : RunP (w.withFollow "special-get-raises" true) := by
  intro os
  kernel_rfl
theorem run (w : World) : HandSHeadRun.RunEq R (PySem.W.view R.prog [68]) hk ob 20000 loose w := PySem.W.byRow2 "special-get-raises" (P := RunP) run_f run_t w
theorem fcOk {w : World} {K : PySem.W.Frag} {h : Heap} {mg : Str → Option Value} (X : K.In h) (G : h.Ns mainGlobals mg) (c : SaysXT fas xfs fns tabs w K) : Fc w K mg := by
  have x0 : xfs K = true := c.x1
  unfold xfs at x0
  obtain ⟨y0, x1⟩ := He.ba x0
  obtain ⟨y1, x2⟩ := He.ba x1
  obtain ⟨y2, x3⟩ := He.ba x2
  obtain ⟨y3, x4⟩ := He.ba x3
  obtain ⟨y4, x5⟩ := He.ba x4
  exact {
    g_BadNumber := He.glo_ok X G (c.d.fact 0 rfl)
    g_GAINS := He.glo_ok X G (c.d.fact 1 rfl)
    g_Graph := He.glo_ok X G (c.d.fact 2 rfl)
    g_Move := He.glo_ok X G (c.d.fact 3 rfl)
    g_NotGraph := He.glo_ok X G (c.d.fact 4 rfl)
    g_NotMatrix := He.glo_ok X G (c.d.fact 5 rfl)
    g_NotPlanes := He.glo_ok X G (c.d.fact 6 rfl)
    g_NotPoint := He.glo_ok X G (c.d.fact 7 rfl)
    g_ONE := He.glo_ok X G (c.d.fact 8 rfl)
    g_PlaneError := He.glo_ok X G (c.d.fact 9 rfl)
    g_Planes := He.glo_ok X G (c.d.fact 10 rfl)
    g_RANGES := He.glo_ok X G (c.d.fact 11 rfl)
    g_TooLarge := He.glo_ok X G (c.d.fact 12 rfl)
    g_ZERO := He.glo_ok X G (c.d.fact 13 rfl)
    g__law_draws := He.glo_ok X G (c.d.fact 14 rfl)
    g__law_due := He.glo_ok X G (c.d.fact 15 rfl)
    g__law_gains := He.glo_ok X G (c.d.fact 16 rfl)
    g__law_most := He.glo_ok X G (c.d.fact 17 rfl)
    g__law_next := He.glo_ok X G (c.d.fact 18 rfl)
    g__law_number := He.glo_ok X G (c.d.fact 19 rfl)
    g__law_pairs := He.glo_ok X G (c.d.fact 20 rfl)
    g__law_refused := He.glo_ok X G (c.d.fact 21 rfl)
    g__law_unit := He.glo_ok X G (c.d.fact 22 rfl)
    g_all_pairs := He.glo_ok X G (c.d.fact 23 rfl)
    g_are_planes := He.glo_ok X G (c.d.fact 24 rfl)
    g_check_letters := He.glo_ok X G (c.d.fact 25 rfl)
    g_cleared_row := He.glo_ok X G (c.d.fact 26 rfl)
    g_divisor := He.glo_ok X G (c.d.fact 27 rfl)
    g_dot := He.glo_ok X G (c.d.fact 28 rfl)
    g_family := He.glo_ok X G (c.d.fact 29 rfl)
    g_inverse_of := He.glo_ok X G (c.d.fact 30 rfl)
    g_inverted := He.glo_ok X G (c.d.fact 31 rfl)
    g_is_closed := He.glo_ok X G (c.d.fact 32 rfl)
    g_is_number := He.glo_ok X G (c.d.fact 33 rfl)
    g_is_plane := He.glo_ok X G (c.d.fact 34 rfl)
    g_is_row_of := He.glo_ok X G (c.d.fact 35 rfl)
    g_is_step := He.glo_ok X G (c.d.fact 36 rfl)
    g_law := He.glo_ok X G (c.d.fact 37 rfl)
    g_lessened := He.glo_ok X G (c.d.fact 38 rfl)
    g_lowest := He.glo_ok X G (c.d.fact 39 rfl)
    g_mirror_of := He.glo_ok X G (c.d.fact 40 rfl)
    g_mirror_rows := He.glo_ok X G (c.d.fact 41 rfl)
    g_multiplied := He.glo_ok X G (c.d.fact 42 rfl)
    g_negated := He.glo_ok X G (c.d.fact 43 rfl)
    g_numbers_of := He.glo_ok X G (c.d.fact 44 rfl)
    g_other_way := He.glo_ok X G (c.d.fact 45 rfl)
    g_reduced := He.glo_ok X G (c.d.fact 46 rfl)
    g_step_plane := He.glo_ok X G (c.d.fact 47 rfl)
    g_summed := He.glo_ok X G (c.d.fact 48 rfl)
    g_without_divisor := He.glo_ok X G (c.d.fact 49 rfl)
    g_written := He.glo_ok X G (c.d.fact 50 rfl)
    f_abs := He.free_ok X G (c.d.fact 51 rfl)
    f_all := He.free_ok X G (c.d.fact 52 rfl)
    f_any := He.free_ok X G (c.d.fact 53 rfl)
    f_enumerate := He.free_ok X G (c.d.fact 54 rfl)
    f_int := He.free_ok X G (c.d.fact 55 rfl)
    f_len := He.free_ok X G (c.d.fact 56 rfl)
    f_list := He.free_ok X G (c.d.fact 57 rfl)
    f_range := He.free_ok X G (c.d.fact 58 rfl)
    f_sum := He.free_ok X G (c.d.fact 59 rfl)
    f_tuple := He.free_ok X G (c.d.fact 60 rfl)
    f_zip := He.free_ok X G (c.d.fact 61 rfl)
    cl_Graph := He.cls_ok (c.d.fact 62 rfl)
    mk_Graph := He.mkr_ok (c.d.fact 63 rfl)
    me_Graph_planes := He.meth_ok (c.d.fact 64 rfl)
    na_Graph_kept := He.noat_ok (c.d.fact 65 rfl)
    na_Graph_m := He.noat_ok (c.d.fact 66 rfl)
    cl_Move := He.cls_ok (c.d.fact 67 rfl)
    mk_Move := He.mkr_ok (c.d.fact 68 rfl)
    me_Move_led := He.meth_ok (c.d.fact 69 rfl)
    na_Move_back := He.noat_ok (c.d.fact 70 rfl)
    na_Move_kept := He.noat_ok (c.d.fact 71 rfl)
    na_Move_more := He.noat_ok (c.d.fact 72 rfl)
    na_Move_n := He.noat_ok (c.d.fact 73 rfl)
    cl_Planes := He.cls_ok (c.d.fact 74 rfl)
    mk_Planes := He.mkr_ok (c.d.fact 75 rfl)
    me_Planes_len := He.meth_ok (c.d.fact 76 rfl)
    me_Planes_planes := He.meth_ok (c.d.fact 77 rfl)
    na_Planes_kept := He.noat_ok (c.d.fact 78 rfl)
    na_Planes_n := He.noat_ok (c.d.fact 79 rfl)
    c_MOST_ENTRY := He.int_ok X G (c.d.fact 80 rfl)
    c_MOST_GAIN := He.int_ok X G (c.d.fact 81 rfl)
    c_MOST_LETTERS := He.int_ok X G (c.d.fact 82 rfl)
    c_MOST_PLANES := He.int_ok X G (c.d.fact 83 rfl)
    c_MOST_STEPS := He.int_ok X G (c.d.fact 84 rfl)
    c_MOST_VERTEX := He.int_ok X G (c.d.fact 85 rfl)
    e_PlaneError := (let z := He.exc_ok (c.d.fact 86 rfl); ⟨z.1, z.2.1, z.2.2.1, z.2.2.2, He.glo_ok X G (c.d.fact 9 rfl)⟩)
    e_NotMatrix := (let z := He.exc_ok (c.d.fact 87 rfl); ⟨z.1, z.2.1, z.2.2.1, z.2.2.2, He.glo_ok X G (c.d.fact 5 rfl)⟩)
    e_NotPoint := (let z := He.exc_ok (c.d.fact 88 rfl); ⟨z.1, z.2.1, z.2.2.1, z.2.2.2, He.glo_ok X G (c.d.fact 7 rfl)⟩)
    e_NotPlanes := (let z := He.exc_ok (c.d.fact 89 rfl); ⟨z.1, z.2.1, z.2.2.1, z.2.2.2, He.glo_ok X G (c.d.fact 6 rfl)⟩)
    e_NotGraph := (let z := He.exc_ok (c.d.fact 90 rfl); ⟨z.1, z.2.1, z.2.2.1, z.2.2.2, He.glo_ok X G (c.d.fact 4 rfl)⟩)
    e_BadNumber := (let z := He.exc_ok (c.d.fact 91 rfl); ⟨z.1, z.2.1, z.2.2.1, z.2.2.2, He.glo_ok X G (c.d.fact 0 rfl)⟩)
    e_TooLarge := (let z := He.exc_ok (c.d.fact 92 rfl); ⟨z.1, z.2.1, z.2.2.1, z.2.2.2, He.glo_ok X G (c.d.fact 12 rfl)⟩)
    m_BadNumber_PlaneError := He.exm_ok (c.d.fact 93 rfl)
    m_BadNumber_NotMatrix := He.exm_ok (c.d.fact 94 rfl)
    m_BadNumber_NotPoint := He.exm_ok (c.d.fact 95 rfl)
    m_BadNumber_NotPlanes := He.exm_ok (c.d.fact 96 rfl)
    m_BadNumber_NotGraph := He.exm_ok (c.d.fact 97 rfl)
    m_BadNumber_BadNumber := He.exm_ok (c.d.fact 98 rfl)
    m_BadNumber_TooLarge := He.exm_ok (c.d.fact 99 rfl)
    c_ONE := y0
    c_ZERO := y1
    t_GAINS := ⟨c.tab 0, y2⟩
    t_RANGES := ⟨c.tab 1, y3⟩
    x_BadNumber_BadNumber := excB_ok y4
    d__law_number := c.d.def_ 0 (d := D_law_number) rfl
    d__law_draws := c.d.def_ 1 (d := D_law_draws) rfl
    d_all_pairs := c.d.def_ 2 (d := Dall_pairs) rfl
    d_written := c.d.def_ 3 (d := Dwritten) rfl
    d_mirror_rows := c.d.def_ 4 (d := Dmirror_rows) rfl
    d_step_plane := c.d.def_ 5 (d := Dstep_plane) rfl
    d_check_letters := c.d.def_ 6 (d := Dcheck_letters) rfl
    d_divisor := c.d.def_ 7 (d := Ddivisor) rfl
    d_is_plane := c.d.def_ 8 (d := Dis_plane) rfl
    d_other_way := c.d.def_ 9 (d := Dother_way) rfl
    d_are_planes := c.d.def_ 10 (d := Dare_planes) rfl
    d_Planes_init := c.d.def_ 11 (d := DPlanes_init) rfl
    d_Graph_planes := c.d.def_ 12 (d := DGraph_planes) rfl
    d_is_step := c.d.def_ 13 (d := Dis_step) rfl
    d_Graph_init := c.d.def_ 14 (d := DGraph_init) rfl
    d_family := c.d.def_ 15 (d := Dfamily) rfl
    d__law_pairs := c.d.def_ 16 (d := D_law_pairs) rfl
    d__law_unit := c.d.def_ 17 (d := D_law_unit) rfl
    d__law_gains := c.d.def_ 18 (d := D_law_gains) rfl
    d__law_due := c.d.def_ 19 (d := D_law_due) rfl
    d_lowest := c.d.def_ 20 (d := Dlowest) rfl
    d_inverted := c.d.def_ 21 (d := Dinverted) rfl
    d_multiplied := c.d.def_ 22 (d := Dmultiplied) rfl
    d_negated := c.d.def_ 23 (d := Dnegated) rfl
    d_summed := c.d.def_ 24 (d := Dsummed) rfl
    d_lessened := c.d.def_ 25 (d := Dlessened) rfl
    d_reduced := c.d.def_ 26 (d := Dreduced) rfl
    d_inverse_of := c.d.def_ 27 (d := Dinverse_of) rfl
    d_is_number := c.d.def_ 28 (d := Dis_number) rfl
    d_is_row_of := c.d.def_ 29 (d := Dis_row_of) rfl
    d_Move_init := c.d.def_ 30 (d := DMove_init) rfl
    d_mirror_of := c.d.def_ 31 (d := Dmirror_of) rfl
    d_numbers_of := c.d.def_ 32 (d := Dnumbers_of) rfl
    d_without_divisor := c.d.def_ 33 (d := Dwithout_divisor) rfl
    d_cleared_row := c.d.def_ 34 (d := Dcleared_row) rfl
    d_dot := c.d.def_ 35 (d := Ddot) rfl
    d_Move_led := c.d.def_ 36 (d := DMove_led) rfl
    d_is_closed := c.d.def_ 37 (d := Dis_closed) rfl
    d__law_most := c.d.def_ 38 (d := D_law_most) rfl
    d__law_refused := c.d.def_ 39 (d := D_law_refused) rfl
    d__law_next := c.d.def_ 40 (d := D_law_next) rfl
    d_Planes_planes := c.d.def_ 41 (d := DPlanes_planes) rfl
    d_Planes_len := c.d.def_ 42 (d := DPlanes_len) rfl
    d_law := c.d.def_ 43 (d := Dlaw) rfl }
end K26
open PySem PySem.W PySem.Calls PyProof.Rows
theorem PySem.Challenge.cw_planeworth_k26_families_holds : PySem.Challenge.rw_planeworth_k26_families.Holds := by
  w_on; o_law
  refine HandSHeadRun.head_any (r := OpenLaw.row PySem.Challenge.rw_planeworth_k26_families) (q := view (OpenLaw.row PySem.Challenge.rw_planeworth_k26_families).prog [68]) (H := K26.hk) (ob := K26.ob)
    (M := 20000) (loose := K26.loose) (d := HandSHeadRun.topDef (OpenLaw.row PySem.Challenge.rw_planeworth_k26_families).prog 68) (kwd := []) K26.ob_eq
    (by kernel_rfl) (fun s => by kernel_rfl) K26.run (by kernel_rfl)
    (by kernel_rfl) (by kernel_rfl) (by rfl) (by first | assumption | decide +kernel) (by decide +kernel) ⟨rfl, rfl, rfl, rfl, rfl, by decide +kernel⟩ ?hw ?hc
  case hw => w_witness2
  case hc =>
    refine DL.walkG (l := PySem.Challenge.rw_planeworth_k26_families) (n := 63) (k := 11) (F := K26.Flaw) rfl (by decide) (by kernel_rfl) ⟨rfl, by decide, by decide⟩ ?C K26.law_true
    intro w mg fL h Y G hmg0
    obtain ⟨K, kin, c⟩ := Y
    have hmg : mg ("law" : PySem.Str) = some (.ref fL) := by
      have e : (HandSHeadRun.topDef (OpenLaw.row PySem.Challenge.rw_planeworth_k26_families).prog 68).name = ("law" : PySem.Str) := by kernel_rfl
      rw [← e]
      exact hmg0
    have fc := K26.fcOk kin G c
    have e := hmg.symm.trans fc.g_law
    cases e
    exact ⟨K, kin, fun base _ _ => K26.glaw fc base⟩
