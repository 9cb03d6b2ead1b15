import PyProof.Rows.All
import Wide.All
import OpenK.AllK
import Wide.FinOn
import KE.KStateDown
import HandS.ForMost
import HandS.ForExc
import HandS.Flow
import HandS.Wide
import HandS.HeadHook2
import HandS.TupAny
import HandS.TupMul
import HandS.Deep
import HandS.Style
import HandS.ExcCtx
import HandS.Defaults
import HandS.SortInts
import HandS.RaiseMore
import HandS.StrMore
import HandS.Conv
import PyProof.ListStr
import HandS.ExcIs
import HandS.ExcOwn
import HandS.FStr
import HandS.Ends
import HandS.HeadEnd
import HandS.Replace
import PyProof.Rows.StrMul
import HandS.IsInst
import HandS.More
import OpenK.KOps
import HandS.Zip
import KE.GoesZip
import KE.GoesMore
import KE.KItemsList
import HandS.ExcValue
import HandS.HotCalls
import HandS.TryOnly
import HandS.HeadHook3
import HandS.RepeatKit
import HandS.SortRule
import HandS.Dict
import HandS.ExcInit
import HandS.ExcField
import HandS.ExcSuper
import KE.KExcSuper
import HandS.Codes
import PyProof.ReprBulk
import HandS.Head0
import HandS.Head1
import HandS.Head2
import HandS.Head3
import PySem.Challenge.RW_planeworth_k05_planes_and_lists
set_option Elab.async false
set_option linter.all false
set_option maxRecDepth 100000
set_option maxHeartbeats 0
namespace DL
open L2 PySem PySem.Spec PyProof.Rows
inductive D where
  | non | bl (b : Bool) | int (i : Int) | str (x : Str)
  | tup (l : List D) | lst (l : List D)
  | scr (l : List D)
  | fn (x : Str)
  | obj (c : Str) (fs : List (Str × D))
  | exn (c : Str) (fs : List (Str × D))
  | dct (t : Bool) (ks vs : List D)
structure Xn where
  c : Str
  fs : List (Str × D) := []
abbrev En := List (Option D)
inductive R (α : Type) where
  | ok (a : α) (r : En)
  | ex (x : Xn) (r : En)
  | bad
def R.bind {α β : Type} : R α → (α → En → R β) → R β
  | .ok a r, f => f a r
  | .ex x r, _ => .ex x r
  | .bad, _ => .bad
abbrev ME := En → R D
abbrev MT := En → R Bool
abbrev MA := En → R (List D)
def SqTA (K : PySem.W.Frag) (A : Addr → Prop) (H : Hp) (a : Addr) (xs : List V) : Prop :=
  (Rd H a (.tup xs) ∧ ¬ A a) ∨
    ∃ (o : Obj) (its : Array Value) (n : Nat), K.lookup a = some o ∧ o.cls = .type "tuple" ∧ o.data = .seq its n ∧ its.size ≤ sizeLine ∧ Vals xs its.toList
def SqLA (K : PySem.W.Frag) (A : Addr → Prop) (H : Hp) (a : Addr) (xs : List V) : Prop :=
  (Rd H a (.lst xs) ∧ ¬ A a) ∨
    ∃ (o : Obj) (its : Array Value) (n : Nat), K.lookup a = some o ∧ o.cls = .type "list" ∧ o.dict = none ∧ o.data = .seq its n ∧ its.size ≤ sizeLine ∧ Vals xs its.toList
theorem SqTA.sq {K : PySem.W.Frag} {A : Addr → Prop} {H : Hp} {a : Addr} {xs : List V} (h : SqTA K A H a xs) : SqT K H a xs := h.imp (fun z => z.1) id
theorem SqLA.sq {K : PySem.W.Frag} {A : Addr → Prop} {H : Hp} {a : Addr} {xs : List V} (h : SqLA K A H a xs) : SqL K H a xs := h.imp (fun z => z.1) id
def ExA (oe : Obj) (a : Addr) : HO := .ext fun h => h.get? a = some oe
def keyK : D → Option Key
  | .int i => some (.inl i)
  | .str x => some (.inr x)
  | _ => none
def keysT : List D → Option (List Key)
  | [] => some []
  | d :: r => match keyK d, keysT r with
    | some k, some ks => some (k :: ks)
    | _, _ => none
def keyT : D → Option (List Key)
  | .tup l => keysT l
  | _ => none
mutual
inductive Rp (K : PySem.W.Frag) (A : Addr → Prop) (H : Hp) : V → D → Prop where
  | non : Rp K A H .non .non
  | bl (b : Bool) : Rp K A H (.bl b) (.bl b)
  | int (i : Int) : Rp K A H (.int i) (.int i)
  | str (x : Str) : Rp K A H (.str x) (.str x)
  | tup {a : Addr} {xs : List V} {ds : List D} : SqTA K A H a xs → RpA K A H xs ds → Rp K A H (.ref a) (.tup ds)
  | lst {a : Addr} {xs : List V} {ds : List D} : H a = some (.lst xs) → ¬ A a → RpA K A H xs ds → Rp K A H (.ref a) (.lst ds)
  | scr {a : Addr} {xs : List V} {ds : List D} : SqLA K A H a xs → RpA K A H xs ds → Rp K A H (.ref a) (.scr ds)
  | fn (x : Str) : Rp K A H (.ref (He.ga K x)) (.fn x)
  | obj {a dx : Addr} {c : Str} {fs : List (Str × V)} {ds : List (Str × D)} : H a = some (.ins (He.ga K c) dx fs) → ¬ A a → RpF K A H fs ds → Rp K A H (.ref a) (.obj c ds)
  | exn {a : Addr} {c : Str} {oe : Obj} : H a = some (ExA oe a) → ¬ A a → Zc (.ref (He.ga K c)) none oe → (∃ vs, oe.data = .fields vs) → Rp K A H (.ref a) (.exn c [])
  | dK {a : Addr} {kvs : List (Key × V)} {ks vs : List D} : H a = some (.dK kvs) → ¬ A a → ks.map keyK = kvs.map (fun p => some p.1) → RpA K A H (kvs.map (·.2)) vs → Rp K A H (.ref a) (.dct false ks vs)
  | dT {a : Addr} {kvs : List (List Key × V)} {ks vs : List D} : H a = some (.dT kvs) → ¬ A a → ks.map keyT = kvs.map (fun p => some p.1) → RpA K A H (kvs.map (·.2)) vs → Rp K A H (.ref a) (.dct true ks vs)
inductive RpA (K : PySem.W.Frag) (A : Addr → Prop) (H : Hp) : List V → List D → Prop where
  | nil : RpA K A H [] []
  | cons {v : V} {vs : List V} {d : D} {ds : List D} : Rp K A H v d → RpA K A H vs ds → RpA K A H (v :: vs) (d :: ds)
inductive RpF (K : PySem.W.Frag) (A : Addr → Prop) (H : Hp) : List (Str × V) → List (Str × D) → Prop where
  | nil : RpF K A H [] []
  | cons {f : Str} {v : V} {vs : List (Str × V)} {d : D} {ds : List (Str × D)} : Rp K A H v d → RpF K A H vs ds → RpF K A H ((f, v) :: vs) ((f, d) :: ds)
end
section
variable {K : PySem.W.Frag} {A A' : Addr → Prop} {H H' : Hp}
def Tr (A A' : Addr → Prop) (H H' : Hp) : Prop := ∀ a o, H a = some o → ¬ A a → H' a = some o ∧ ¬ A' a
theorem Tr.rd (t : Tr A A' H H') {a : Addr} {u : HO} (h : Rd H a u) (n : ¬ A a) : Rd H' a u ∧ ¬ A' a := by
  rcases h with h | ⟨o, h⟩
  · exact ⟨.inl (t a _ h n).1, (t a _ h n).2⟩
  · exact ⟨.inr ⟨o, (t a _ h n).1⟩, (t a _ h n).2⟩
theorem SqTA.tr (t : Tr A A' H H') {a : Addr} {xs : List V} (h : SqTA K A H a xs) : SqTA K A' H' a xs := h.imp (fun z => t.rd z.1 z.2) id
theorem SqLA.tr (t : Tr A A' H H') {a : Addr} {xs : List V} (h : SqLA K A H a xs) : SqLA K A' H' a xs := h.imp (fun z => t.rd z.1 z.2) id
mutual
theorem Rp.tr (t : Tr A A' H H') : ∀ {v : V} {d : D}, Rp K A H v d → Rp K A' H' v d
  | _, _, .non => .non
  | _, _, .bl b => .bl b
  | _, _, .int i => .int i
  | _, _, .str x => .str x
  | _, _, .tup h q => .tup (h.tr t) (RpA.tr t q)
  | _, _, .lst h n q => .lst (t _ _ h n).1 (t _ _ h n).2 (RpA.tr t q)
  | _, _, .scr h q => .scr (h.tr t) (RpA.tr t q)
  | _, _, .fn x => .fn x
  | _, _, .obj h n q => .obj (t _ _ h n).1 (t _ _ h n).2 (RpF.tr t q)
  | _, _, .exn h n z f => .exn (t _ _ h n).1 (t _ _ h n).2 z f
  | _, _, .dK h n e q => .dK (t _ _ h n).1 (t _ _ h n).2 e (RpA.tr t q)
  | _, _, .dT h n e q => .dT (t _ _ h n).1 (t _ _ h n).2 e (RpA.tr t q)
theorem RpA.tr (t : Tr A A' H H') : ∀ {v : List V} {d : List D}, RpA K A H v d → RpA K A' H' v d
  | _, _, .nil => .nil
  | _, _, .cons h q => .cons (Rp.tr t h) (RpA.tr t q)
theorem RpF.tr (t : Tr A A' H H') : ∀ {v : List (Str × V)} {d : List (Str × D)}, RpF K A H v d → RpF K A' H' v d
  | _, _, .nil => .nil
  | _, _, .cons h q => .cons (Rp.tr t h) (RpF.tr t q)
end
theorem RpA.length : ∀ {vs : List V} {ds : List D}, RpA K A H vs ds → vs.length = ds.length
  | _, _, .nil => rfl
  | _, _, .cons _ q => by rw [List.length_cons, List.length_cons, RpA.length q]
theorem RpA.get : ∀ {vs : List V} {ds : List D} {i : Nat} {d : D}, RpA K A H vs ds → ds[i]? = some d → ∃ v, vs[i]? = some v ∧ Rp K A H v d
  | _, _, _, _, .nil, e => by simp at e
  | _, _, 0, _, .cons h _, e => by simp at e; subst e; exact ⟨_, rfl, h⟩
  | _, _, i + 1, _, .cons _ q, e => by
    obtain ⟨v, h1, h2⟩ := RpA.get (i := i) q (by simpa using e)
    exact ⟨v, by simpa using h1, h2⟩
theorem RpA.app : ∀ {vs ws : List V} {ds es : List D}, RpA K A H vs ds → RpA K A H ws es → RpA K A H (vs ++ ws) (ds ++ es)
  | _, _, _, _, .nil, q => q
  | _, _, _, _, .cons h t, q => .cons h (RpA.app t q)
theorem RpA.take : ∀ {vs : List V} {ds : List D} (n : Nat), RpA K A H vs ds → RpA K A H (vs.take n) (ds.take n)
  | _, _, 0, _ => .nil
  | _, _, _ + 1, .nil => .nil
  | _, _, n + 1, .cons h t => .cons h (RpA.take n t)
theorem RpA.drop : ∀ {vs : List V} {ds : List D} (n : Nat), RpA K A H vs ds → RpA K A H (vs.drop n) (ds.drop n)
  | _, _, 0, h => h
  | _, _, _ + 1, .nil => .nil
  | _, _, n + 1, .cons _ t => RpA.drop n t
theorem RpA.set : ∀ {vs : List V} {ds : List D} {v : V} {d : D} (n : Nat), RpA K A H vs ds → Rp K A H v d → RpA K A H (vs.set n v) (ds.set n d)
  | _, _, _, _, _, .nil, _ => .nil
  | _, _, _, _, 0, .cons _ t, q => .cons q t
  | _, _, _, _, n + 1, .cons h t, q => .cons h (RpA.set n t q)
theorem RpA.rev : ∀ {vs : List V} {ds : List D}, RpA K A H vs ds → RpA K A H vs.reverse ds.reverse
  | _, _, .nil => .nil
  | _, _, .cons h t => by
    rw [List.reverse_cons, List.reverse_cons]
    exact (RpA.rev t).app (.cons h .nil)
theorem RpA.dropLast {vs : List V} {ds : List D} (h : RpA K A H vs ds) : RpA K A H vs.dropLast ds.dropLast := by
  rw [List.dropLast_eq_take, List.dropLast_eq_take, h.length]
  exact h.take _
theorem RpA.ints : ∀ {vs : List V} {ns : List Int}, RpA K A H vs (ns.map D.int) → vs = ns.map V.int
  | vs, [], h => by cases h; rfl
  | vs, n :: ns, h => by
    rw [List.map_cons] at h
    cases h with
    | cons h t =>
      cases h
      rw [RpA.ints t, List.map_cons]
theorem RpA.of_ints : ∀ (ns : List Int), RpA K A H (ns.map V.int) (ns.map D.int)
  | [] => .nil
  | n :: ns => .cons (.int n) (RpA.of_ints ns)
theorem RpA.of_strs : ∀ (ns : List Str), RpA K A H (ns.map V.str) (ns.map D.str)
  | [] => .nil
  | n :: ns => .cons (.str n) (RpA.of_strs ns)
theorem RpA.bls : ∀ {vs : List V} {ns : List Bool}, RpA K A H vs (ns.map D.bl) → vs = ns.map V.bl
  | vs, [], h => by cases h; rfl
  | vs, n :: ns, h => by
    rw [List.map_cons] at h
    cases h with
    | cons h t =>
      cases h
      rw [RpA.bls t, List.map_cons]
end
inductive Own (K : PySem.W.Frag) (A : Addr → Prop) (H : Hp) (p : Addr) : D → Prop where
  | lst {vs : List V} {ds : List D} : H p = some (.lst vs) → RpA K A H vs ds → Own K A H p (.lst ds)
  | obj {dx : Addr} {c : Str} {fs : List (Str × V)} {ds : List (Str × D)} : H p = some (.ins (He.ga K c) dx fs) → RpF K A H fs ds → Own K A H p (.obj c ds)
  | dK {kvs : List (Key × V)} {ks vs : List D} : H p = some (.dK kvs) → ks.map keyK = kvs.map (fun p => some p.1) → RpA K A H (kvs.map (·.2)) vs → Own K A H p (.dct false ks vs)
  | dT {kvs : List (List Key × V)} {ks vs : List D} : H p = some (.dT kvs) → ks.map keyT = kvs.map (fun p => some p.1) → RpA K A H (kvs.map (·.2)) vs → Own K A H p (.dct true ks vs)
theorem Own.there {K : PySem.W.Frag} {A : Addr → Prop} {H : Hp} {p : Addr} {d : D} (h : Own K A H p d) : ∃ o, H p = some o := by
  cases h with
  | lst e _ => exact ⟨_, e⟩
  | obj e _ => exact ⟨_, e⟩
  | dK e _ _ => exact ⟨_, e⟩
  | dT e _ _ => exact ⟨_, e⟩
theorem Own.tr {K : PySem.W.Frag} {A A' : Addr → Prop} {H H' : Hp} {p : Addr} {d : D} (h : Own K A H p d) (t : Tr A A' H H') (hp : ∀ o, H p = some o → H' p = some o) : Own K A' H' p d := by
  cases h with
  | lst e q => exact .lst (hp _ e) (q.tr t)
  | obj e q => exact .obj (hp _ e) (q.tr t)
  | dK e k q => exact .dK (hp _ e) k (q.tr t)
  | dT e k q => exact .dT (hp _ e) k (q.tr t)
theorem Own.freeze {K : PySem.W.Frag} {A A' : Addr → Prop} {H : Hp} {p : Addr} {d : D} (h : Own K A H p d) (s : ∀ a, A' a → A a) (n : ¬ A' p) : Rp K A' H (.ref p) d := by
  have t : Tr A A' H H := fun a o e q => ⟨e, fun z => q (s a z)⟩
  cases h with
  | lst e q => exact .lst e n (q.tr t)
  | obj e q => exact .obj e n (q.tr t)
  | dK e k q => exact .dK e n k (q.tr t)
  | dT e k q => exact .dT e n k (q.tr t)
structure Gd where
  A0 : Addr → Prop
  H0 : Hp
  io : Option Addr
  px : Option (Nat × Addr × Str)
structure RelS (K : PySem.W.Frag) (G : Gd) (O : List Nat) (A : Addr → Prop) (ms : Nat → Option Addr) (σ : L2.St) (H : Hp) (ρ : En) : Prop where
  sub : ∀ a, G.A0 a → A a
  trk0 : ∀ a, G.A0 a → ∃ o, G.H0 a = some o
  trk : ∀ a, A a → ∃ o, H a = some o
  keep : ∀ a o, G.H0 a = some o → G.io ≠ some a → H a = some o
  len : σ.length = ρ.length
  fz : ∀ i d, ρ[i]? = some (some d) → i ∉ O → ∃ v, σ[i]? = some (some v) ∧ Rp K A H v d
  ow : ∀ i d, ρ[i]? = some (some d) → i ∈ O → ∃ p, ms i = some p ∧ σ[i]? = some (some (.ref p)) ∧ Own K A H p d
  inA : ∀ i p, i ∈ O → ms i = some p → A p
  ok : ∀ i p, i ∈ O → ms i = some p → (i = 0 ∧ G.io = some p) ∨ ((i ≠ 0 ∨ G.io = none) ∧ G.H0 p = none)
  dist : ∀ i j p, i ∈ O → j ∈ O → ms i = some p → ms j = some p → i = j
  px : ∀ i a c, G.px = some (i, a, c) → i ∈ O ∧ σ[i]? = some (some (.ref a))
  io : ∀ p, G.io = some p → 0 ∈ O ∧ G.A0 p ∧ ms 0 = some p ∧ ∃ d, ρ[0]? = some (some d)
def Kp (O : List Nat) (ms : Nat → Option Addr) (H H' : Hp) : Prop := ∀ a o, H a = some o → (∀ i ∈ O, ms i ≠ some a) → H' a = some o
section
variable {O : List Nat} {ms : Nat → Option Addr}
theorem Kp.refl {H : Hp} : Kp O ms H H := fun _ _ e _ => e
theorem Kp.trans {H H1 H2 : Hp} (a : Kp O ms H H1) (b : Kp O ms H1 H2) : Kp O ms H H2 := fun x o e n => b x o (a x o e n) n
theorem Kp.same {H H' : Hp} (k : Same H H') : Kp O ms H H' := fun a o e _ => k a o e
theorem Tr.same {A : Addr → Prop} {H H' : Hp} (k : Same H H') : Tr A A H H' := fun a o e n => ⟨k a o e, n⟩
theorem RelS.kt {K : PySem.W.Frag} {G : Gd} {A : Addr → Prop} {σ : L2.St} {H0 H H' : Hp} {ρ : En} (R : RelS K G O A ms σ H0 ρ) (k : Kp O ms H H') : Tr A A H H' := fun a o e n => ⟨k a o e fun i m z => n (R.inA i a m z), n⟩
theorem RelS.same {K : PySem.W.Frag} {G : Gd} {A : Addr → Prop} {σ : L2.St} {H H' : Hp} {ρ : En} (h : RelS K G O A ms σ H ρ) (k : Same H H') : RelS K G O A ms σ H' ρ where
  sub := h.sub
  trk0 := h.trk0
  trk := fun a q => let ⟨o, e⟩ := h.trk a q; ⟨o, k _ _ e⟩
  keep := fun a o e n => k _ _ (h.keep a o e n)
  len := h.len
  fz := fun i d e n => let ⟨v, e1, q⟩ := h.fz i d e n; ⟨v, e1, q.tr (Tr.same k)⟩
  ow := fun i d e n => let ⟨p, e0, e1, q⟩ := h.ow i d e n; ⟨p, e0, e1, q.tr (Tr.same k) fun o z => k _ _ z⟩
  inA := h.inA
  ok := h.ok
  dist := h.dist
  px := h.px
  io := h.io
end
def XRel (K : PySem.W.Frag) (A : Addr → Prop) (H : Hp) (x : Xn) (dx : Option Addr) : Prop :=
  (x.fs = [] ∧ dx = none) ∨ (x.fs ≠ [] ∧ ∃ d fs, dx = some d ∧ H d = some (.xd fs) ∧ RpF K A H fs x.fs)
section
variable (K : PySem.W.Frag) (G : Gd) (O : List Nat) (W : WX) (A : Addr → Prop) (ms : Nat → Option Addr) (σ : L2.St)
def RPost {α β : Type} (H : Hp) (rel : Hp → β → α → Prop) (Q : β → Hp → Prop) : R α → Prop
  | .ok d ρ' => ∀ v H', RelS K G O A ms σ H' ρ' → Kp O ms H H' → rel H' v d → Q v H'
  | .ex x ρ' => ∀ dx H', RelS K G O A ms σ H' ρ' → Kp O ms H H' → XRel K A H' x dx → W (.ref (He.ga K x.c)) dx σ H'
  | .bad => False
end
section
variable {K : PySem.W.Frag} {G : Gd} {O : List Nat} {W : WX} {A : Addr → Prop} {ms : Nat → Option Addr} {σ : L2.St} {H H1 : Hp}
theorem RPost.from {α β : Type} {rel : Hp → β → α → Prop} {Q : β → Hp → Prop} {r : R α} (k : Kp O ms H H1) (h : RPost K G O W A ms σ H rel Q r) : RPost K G O W A ms σ H1 rel Q r := by
  cases r with
  | ok d ρ => exact fun v H' R k' q => h v H' R (k.trans k') q
  | ex x ρ => exact fun dx H' R k' q => h dx H' R (k.trans k') q
  | bad => exact h
theorem RPost.mono {α β : Type} {rel : Hp → β → α → Prop} {Q Q' : β → Hp → Prop} {r : R α} (h : RPost K G O W A ms σ H rel Q r) (w : ∀ v H', Q v H' → Q' v H') : RPost K G O W A ms σ H rel Q' r := by
  cases r with
  | ok d ρ => exact fun v H' R k' q => w _ _ (h v H' R k' q)
  | ex x ρ => exact h
  | bad => exact h
theorem RPost.bind {α β γ δ : Type} {rel : Hp → β → α → Prop} {rel' : Hp → δ → γ → Prop} {Q : δ → Hp → Prop} {r : R α} {f : α → En → R γ} (h : RPost K G O W A ms σ H rel' Q (r.bind f)) :
    RPost K G O W A ms σ H rel (fun v H1 => ∃ d ρ1, RelS K G O A ms σ H1 ρ1 ∧ Kp O ms H H1 ∧ rel H1 v d ∧ RPost K G O W A ms σ H1 rel' Q (f d ρ1)) r := by
  cases r with
  | ok d ρ => exact fun v H' R k' q => ⟨d, ρ, R, k', q, RPost.from k' h⟩
  | ex x ρ => exact h
  | bad => exact h
end
def tE (K : PySem.W.Frag) (G : Gd) (O : List Nat) (W : WX) (m : ME) : TE := fun σ H Q => ∃ A ms ρ, RelS K G O A ms σ H ρ ∧ RPost K G O W A ms σ H (Rp K A) Q (m ρ)
def tT (K : PySem.W.Frag) (G : Gd) (O : List Nat) (W : WX) (m : MT) : TT := fun σ H Q => ∃ A ms ρ, RelS K G O A ms σ H ρ ∧ RPost K G O W A ms σ H (fun _ => Eq) Q (m ρ)
def tA (K : PySem.W.Frag) (G : Gd) (O : List Nat) (W : WX) (m : MA) : TA := fun σ H Q => ∃ A ms ρ, RelS K G O A ms σ H ρ ∧ RPost K G O W A ms σ H (RpA K A) Q (m ρ)
def DE (X : Cx) (G : Gd) (O : List Nat) (W : WX) (e : Expr) (m : ME) : Prop := PE X e (tE X.K G O W m)
def DT (X : Cx) (G : Gd) (O : List Nat) (W : WX) (e : Expr) (m : MT) : Prop := PT X e (tT X.K G O W m)
def DA (X : Cx) (G : Gd) (O : List Nat) (W : WX) (es : List Expr) (m : MA) : Prop := PA X es (tA X.K G O W m)
theorem pe_imp {X : Cx} {e : Expr} {t t' : TE} (h : PE X e t) (w : ∀ σ H Q, t' σ H Q → t σ H Q) : PE X e t' := ⟨fun pins s σ H Q I q => h.run pins s σ H Q I (w σ H Q q)⟩
theorem pt_imp {X : Cx} {e : Expr} {t t' : TT} (h : PT X e t) (w : ∀ σ H Q, t' σ H Q → t σ H Q) : PT X e t' := ⟨fun pins s σ H Q I q => h.run pins s σ H Q I (w σ H Q q)⟩
theorem pw_imp {X : Cx} {e : Expr} {t t' : TT} (h : PW X e t) (w : ∀ σ H Q, t' σ H Q → t σ H Q) : PW X e t' := ⟨fun wh pins s σ H Q I q => h.run wh pins s σ H Q I (w σ H Q q)⟩
theorem pa_imp {X : Cx} {es : List Expr} {t t' : TA} (h : PA X es t) (w : ∀ σ H Q, t' σ H Q → t σ H Q) : PA X es t' := ⟨fun pos pins s σ H Q I q => h.run pos pins s σ H Q I (w σ H Q q)⟩
theorem ps_imp {X : Cx} {st : Stmt} {t t' : TS} (h : PS X st t) (w : ∀ D σ H, t' D σ H → t D σ H) : PS X st t' := ⟨fun pins s σ H D I q => h.run pins s σ H D I (w D σ H q)⟩
theorem pss_imp {X : Cx} {st : List Stmt} {t t' : TS} (h : PSs X st t) (w : ∀ D σ H, t' D σ H → t D σ H) : PSs X st t' := ⟨fun pins s σ H D I q => h.run pins s σ H D I (w D σ H q)⟩
end DL
namespace DL
open L2 PySem PySem.Spec PyProof.Rows
def ret {α : Type} (d : Option α) (ρ : En) : R α := match d with
  | some d => .ok d ρ
  | none => .bad
def mVar (i : Nat) : ME := fun ρ => match ρ[i]? with
  | some (some d) => .ok d ρ
  | _ => .bad
def mK (d : D) : ME := fun ρ => .ok d ρ
def m1 (g : D → Option D) (a : ME) : ME := fun ρ => (a ρ).bind fun x ρ1 => ret (g x) ρ1
def m2 (g : D → D → Option D) (a b : ME) : ME := fun ρ => (a ρ).bind fun x ρ1 => (b ρ1).bind fun y ρ2 => ret (g x y) ρ2
def mIf (c : MT) (a b : ME) : ME := fun ρ => (c ρ).bind fun k ρ1 => if k = true then a ρ1 else b ρ1
def tru : D → Option Bool
  | .non => some false
  | .bl b => some b
  | .int i => some (i != 0)
  | .str y => if y.length ≤ sizeLine then some ((y.length : Int) != 0) else none
  | .tup l => some (!l.isEmpty)
  | .lst l => some (!l.isEmpty)
  | .scr l => some (!l.isEmpty)
  | _ => none
def mTru (a : ME) : MT := fun ρ => (a ρ).bind fun x ρ1 => ret (tru x) ρ1
def mAndT (a b : MT) : MT := fun ρ => (a ρ).bind fun k ρ1 => if k = true then b ρ1 else .ok false ρ1
def mOrT (a b : MT) : MT := fun ρ => (a ρ).bind fun k ρ1 => if k = true then .ok true ρ1 else b ρ1
def mNotT (a : MT) : MT := fun ρ => (a ρ).bind fun k ρ1 => .ok (!k) ρ1
def mAnd (a b : ME) : ME := fun ρ => (a ρ).bind fun x ρ1 => (ret (tru x) ρ1).bind fun k ρ2 => if k = true then b ρ2 else .ok x ρ2
def mOr (a b : ME) : ME := fun ρ => (a ρ).bind fun x ρ1 => (ret (tru x) ρ1).bind fun k ρ2 => if k = true then .ok x ρ2 else b ρ2
def mNil : MA := fun ρ => .ok [] ρ
def mCons (a : ME) (b : MA) : MA := fun ρ => (a ρ).bind fun x ρ1 => (b ρ1).bind fun xs ρ2 => .ok (x :: xs) ρ2
def mN (g : List D → Option D) (a : MA) : ME := fun ρ => (a ρ).bind fun xs ρ1 => ret (g xs) ρ1
def gTup (xs : List D) : Option D := if xs.length ≤ sizeLine then some (.tup xs) else none
def gLst (xs : List D) : Option D := if xs.length ≤ sizeLine then some (.lst xs) else none
def mChain (g g' : D → D → Option D) (a b c : ME) : ME := fun ρ => (a ρ).bind fun x ρ1 => (b ρ1).bind fun y ρ2 => (ret (g x y) ρ2).bind fun k ρ3 => match k with
  | .bl true => (c ρ3).bind fun z ρ4 => ret (g' y z) ρ4
  | .bl false => .ok (.bl false) ρ3
  | _ => .bad
def gAdd : D → D → Option D
  | .int i, .int j => some (.int (i + j))
  | .str x, .str y => if x.length + y.length ≤ sizeLine then some (.str (x ++ y)) else none
  | .tup xs, .tup ys => if xs.length + ys.length ≤ sizeLine then some (.tup (xs ++ ys)) else none
  | .lst xs, .lst ys => if xs.length + ys.length ≤ sizeLine then some (.lst (xs ++ ys)) else none
  | _, _ => none
def gSub : D → D → Option D
  | .int i, .int j => some (.int (i - j))
  | _, _ => none
def okMul (i j : Int) : Bool := decide (i.natAbs.log2 + j.natAbs.log2 < 100000000)
def gMul : D → D → Option D
  | .int i, .int j => if okMul i j = true then some (.int (i * j)) else none
  | .lst xs, .int k => if -(2 ^ 63) ≤ k ∧ k < 2 ^ 63 ∧ xs.length * k.toNat ≤ sizeLine then some (.lst (List.replicate k.toNat xs).flatten) else none
  | _, _ => none
def gDiv : D → D → Option D
  | .int i, .int j => if j ≠ 0 ∧ j.natAbs.log2 < 9000 then some (.int (i.fdiv j)) else none
  | _, _ => none
instance {i j : Int} : Decidable (CPow i j) := by unfold CPow; infer_instance
def gPow : D → D → Option D
  | .int i, .int j => if CPow i j then some (.int (i ^ j.toNat)) else none
  | _, _ => none
def gMod : D → D → Option D
  | .int i, .int j => if j ≠ 0 then some (.int (i.fmod j)) else none
  | _, _ => none
def gNeg : D → Option D
  | .int i => some (.int (-i))
  | _ => none
def gLt : D → D → Option D
  | .int i, .int j => some (.bl (decide (i < j)))
  | .str i, .str j => some (.bl (decide (i.cps.toList < j.cps.toList)))
  | _, _ => none
def gGt : D → D → Option D
  | .int i, .int j => some (.bl (decide (j < i)))
  | .str i, .str j => some (.bl (decide (j.cps.toList < i.cps.toList)))
  | _, _ => none
def gLe : D → D → Option D
  | .int i, .int j => some (.bl (decide (i ≤ j)))
  | .str i, .str j => some (.bl (!decide (j.cps.toList < i.cps.toList)))
  | _, _ => none
def gGe : D → D → Option D
  | .int i, .int j => some (.bl (decide (j ≤ i)))
  | .str i, .str j => some (.bl (!decide (i.cps.toList < j.cps.toList)))
  | _, _ => none
mutual
def D.py : D → Option PyData
  | .non => some .none
  | .bl b => some (.bool b)
  | .int i => some (.int i)
  | .str x => some (.str x)
  | .tup l => (pyAll l).map .tuple
  | .lst l => (pyAll l).map .list
  | _ => none
def pyAll : List D → Option (List PyData)
  | [] => some []
  | d :: ds => (D.py d).bind fun x => (pyAll ds).map fun xs => x :: xs
end
def eqD (a b : D) : Option Bool := match a, b with
  | .int i, .int j => some (decide (i = j))
  | .str i, .str j => some (decide (i = j))
  | .bl i, .bl j => some (decide (i = j))
  | .non, .non => some true
  | a, b => match a.py, b.py with
    | some x, some y => if SeqAt.shaped x = true ∧ SeqAt.shaped y = true then some (PyData.eqv x y) else none
    | _, _ => none
def gEq (a b : D) : Option D := (eqD a b).map D.bl
def gNe (a b : D) : Option D := (eqD a b).map fun k => D.bl (!k)
def isNon : D → Bool
  | .non => true
  | _ => false
def gIs : D → D → Option D
  | a, .non => some (.bl (isNon a))
  | .bl a, .bl b => some (.bl (decide (a = b)))
  | _, _ => none
def gIsNot : D → D → Option D
  | a, .non => some (.bl (!isNon a))
  | .bl a, .bl b => some (.bl (!decide (a = b)))
  | _, _ => none
def inStr (x y : Str) : Bool := !(Builtin.Str.occurrences y x 0 y.length 1).isEmpty
def inD (a : D) (l : D) : Option Bool := match a, l with
  | .str x, .str y => some (inStr x y)
  | a, .lst ds => match a.py, pyAll ds with
    | some x, some ys => if SeqAt.shaped x = true ∧ SeqAt.shaped (.list ys) = true then some (ys.any fun z => PyData.eqv z x) else none
    | _, _ => none
  | a, .tup ds => match a.py, pyAll ds with
    | some x, some ys => if SeqAt.shaped x = true ∧ SeqAt.shaped (.list ys) = true then some (ys.any fun z => PyData.eqv z x) else none
    | _, _ => none
  | _, _ => none
def gNotIn (a l : D) : Option D := (inD a l).map fun k => D.bl (!k)
def Trk (A : Addr → Prop) (H : Hp) : Prop := ∀ p, A p → ∃ o, H p = some o
theorem Trk.no {A : Addr → Prop} {H : Hp} (t : Trk A H) {p : Addr} (h : H p = none) : ¬ A p := fun q => by
  obtain ⟨o, e⟩ := t p q
  rw [h] at e
  cases e
theorem same_upd {H : Hp} {p : Addr} {o : HO} (h : H p = none) : Same H (upd H p o) := fun b x e => by
  rw [upd_ne (ne_of_none e h)]
  exact e
inductive RpB (K : PySem.W.Frag) (A : Addr → Prop) (H : Hp) : V → D → Prop where
  | of {v : V} {d : D} : Rp K A H v d → RpB K A H v d
  | own {p : Addr} {ws : List V} {cs : List D} : H p = some (.lst ws) → RpA K A H ws cs → RpB K A H (.ref p) (.lst cs)
  | ownK {p : Addr} {kvs : List (Key × V)} {ks vs : List D} : H p = some (.dK kvs) → ks.map keyK = kvs.map (fun p => some p.1) → RpA K A H (kvs.map (·.2)) vs → RpB K A H (.ref p) (.dct false ks vs)
  | ownT {p : Addr} {kvs : List (List Key × V)} {ks vs : List D} : H p = some (.dT kvs) → ks.map keyT = kvs.map (fun p => some p.1) → RpA K A H (kvs.map (·.2)) vs → RpB K A H (.ref p) (.dct true ks vs)
section
variable {K : PySem.W.Frag} {A : Addr → Prop} {H : Hp} {v : V}
theorem RpB.non (h : RpB K A H v .non) : v = .non := by cases h with | of h => cases h; rfl
theorem RpB.bl {b : Bool} (h : RpB K A H v (.bl b)) : v = .bl b := by cases h with | of h => cases h; rfl
theorem RpB.int {i : Int} (h : RpB K A H v (.int i)) : v = .int i := by cases h with | of h => cases h; rfl
theorem RpB.str {x : Str} (h : RpB K A H v (.str x)) : v = .str x := by cases h with | of h => cases h; rfl
theorem RpB.tup {ds : List D} (h : RpB K A H v (.tup ds)) : ∃ a xs, v = .ref a ∧ SqTA K A H a xs ∧ RpA K A H xs ds := by cases h with | of h => cases h with | tup h q => exact ⟨_, _, rfl, h, q⟩
theorem RpB.lst {ds : List D} (h : RpB K A H v (.lst ds)) : ∃ a xs, v = .ref a ∧ H a = some (.lst xs) ∧ RpA K A H xs ds := by
  cases h with
  | of h => cases h with | lst h n q => exact ⟨_, _, rfl, h, q⟩
  | own h q => exact ⟨_, _, rfl, h, q⟩
theorem RpB.scr {ds : List D} (h : RpB K A H v (.scr ds)) : ∃ a xs, v = .ref a ∧ SqLA K A H a xs ∧ RpA K A H xs ds := by cases h with | of h => cases h with | scr h q => exact ⟨_, _, rfl, h, q⟩
end
def rD1 (K : PySem.W.Frag) (g : D → Option D) : V → Hp → VK → Prop := fun x H Q => ∃ A a d, Trk A H ∧ RpB K A H x a ∧ g a = some d ∧ ∀ v H', Same H H' → Rp K A H' v d → Q v H'
def rD2 (K : PySem.W.Frag) (g : D → D → Option D) : R2 := fun x y H Q => ∃ A a b d, Trk A H ∧ RpB K A H x a ∧ RpB K A H y b ∧ g a b = some d ∧ ∀ v H', Same H H' → Rp K A H' v d → Q v H'
def Fr (K : PySem.W.Frag) (A : Addr → Prop) (H H' : Hp) (v : V) (d : D) : Prop := ∀ l, d = .lst l → ∃ p, v = .ref p ∧ H p = none ∧ Own K (fun a => A a ∨ a = p) H' p (.lst l)
def rF2 (K : PySem.W.Frag) (g : D → D → Option D) : R2 := fun x y H Q => ∃ A a b d, Trk A H ∧ RpB K A H x a ∧ RpB K A H y b ∧ g a b = some d ∧ ∀ v H', Same H H' → Rp K A H' v d → Fr K A H H' v d → Q v H'
def rDN (K : PySem.W.Frag) (g : List D → Option D) : List V → Hp → VK → Prop := fun xs H Q => ∃ A ds d, Trk A H ∧ (RpA K A H xs ds ∨ ∃ v c, xs = [v] ∧ ds = [c] ∧ RpB K A H v c) ∧ g ds = some d ∧ ∀ v H', Same H H' → Rp K A H' v d → Q v H'
def rFN (K : PySem.W.Frag) (g : List D → Option D) : List V → Hp → VK → Prop := fun xs H Q => ∃ A ds d, Trk A H ∧ (RpA K A H xs ds ∨ ∃ v c, xs = [v] ∧ ds = [c] ∧ RpB K A H v c) ∧ g ds = some d ∧ ∀ v H', Same H H' → Rp K A H' v d → Fr K A H H' v d → Q v H'
section
variable {K : PySem.W.Frag} {A : Addr → Prop} {H : Hp}
theorem new_tup {p : Addr} {xs : List V} {ds : List D} (t : Trk A H) (h : RpA K A H xs ds) (hp : H p = none) : Rp K A (upd H p (.tup xs)) (.ref p) (.tup ds) :=
  .tup (.inl ⟨.inl upd_same, t.no hp⟩) (h.tr (Tr.same (same_upd hp)))
theorem new_lst {p : Addr} {xs : List V} {ds : List D} (t : Trk A H) (h : RpA K A H xs ds) (hp : H p = none) : Rp K A (upd H p (.lst xs)) (.ref p) (.lst ds) :=
  .lst upd_same (t.no hp) (h.tr (Tr.same (same_upd hp)))
theorem RpA.nil_iff {xs : List V} {ds : List D} (h : RpA K A H xs ds) : xs = [] ↔ ds = [] := by
  cases h with
  | nil => simp
  | cons _ _ => simp
end
theorem ite_d {c : Prop} [Decidable c] {x d : D} (h : (if c then some x else none) = some d) : c ∧ x = d := by
  by_cases q : c
  · rw [if_pos q] at h
    exact ⟨q, Option.some.inj h⟩
  · rw [if_neg q] at h
    cases h
section
variable {X : Cx}
theorem new_own' {K : PySem.W.Frag} {A : Addr → Prop} {H : Hp} {p : Addr} {xs : List V} {ds : List D} (t : Trk A H) (h : RpA K A H xs ds) (hp : H p = none) : Own K (fun a => A a ∨ a = p) (upd H p (.lst xs)) p (.lst ds) :=
  .lst upd_same (h.tr fun a u e n => ⟨same_upd hp _ _ e, fun z => z.elim n fun z => by rw [z, hp] at e; cases e⟩)
theorem new_fr {K : PySem.W.Frag} {A : Addr → Prop} {H : Hp} {p : Addr} {xs : List V} {ds : List D} (t : Trk A H) (h : RpA K A H xs ds) (hp : H p = none) : Fr K A H (upd H p (.lst xs)) (.ref p) (.lst ds) := fun l e => by
  cases e
  exact ⟨p, rfl, hp, new_own' t h hp⟩
theorem no_fr {K : PySem.W.Frag} {A : Addr → Prop} {H H' : Hp} {v : V} {d : D} (h : ∀ l, d ≠ .lst l) : Fr K A H H' v d := fun l e => absurd e (h l)
theorem od_addF : OpR X (binaryOp .Add) (rF2 X.K gAdd) := by
  intro pins s σ H x y v u Q I rx ry ⟨A, a, b, d, t, pa, pb, e, q⟩
  cases a with
  | int i =>
    cases b with
    | int j =>
      cases e
      rw [pa.int] at rx
      rw [pb.int] at ry
      exact op_add pins s σ H _ _ v u Q I rx ry ⟨i, j, rfl, rfl, q _ _ (Same.refl _) (.int _) (no_fr fun _ => nofun)⟩
    | _ => cases e
  | str i =>
    cases b with
    | str j =>
      obtain ⟨hz, rfl⟩ := ite_d (x := .str (i ++ j)) e
      rw [pa.str] at rx
      rw [pb.str] at ry
      exact op_add_str pins s σ H _ _ v u Q I rx ry ⟨i, j, rfl, rfl, hz, q _ _ (Same.refl _) (.str _) (no_fr fun _ => nofun)⟩
    | _ => cases e
  | tup xs =>
    cases b with
    | tup ys =>
      obtain ⟨hz, rfl⟩ := ite_d (x := .tup (xs ++ ys)) e
      obtain ⟨a1, x1, rfl, ha, da⟩ := pa.tup
      obtain ⟨a2, x2, rfl, hb, db⟩ := pb.tup
      refine op_catA pins s σ H _ _ v u Q I rx ry ⟨_, _, _, _, rfl, rfl, ha.sq, hb.sq, by rw [da.length, db.length]; exact hz, fun z => ?_, fun _ z => ?_, fun _ _ p hp => ?_⟩
      · rw [da.nil_iff.mp z, List.nil_append] at q
        exact q _ _ (Same.refl _) (.tup hb db) (no_fr fun _ => nofun)
      · rw [db.nil_iff.mp z, List.append_nil] at q
        exact q _ _ (Same.refl _) (.tup ha da) (no_fr fun _ => nofun)
      · exact q _ _ (same_upd hp) (new_tup t (da.app db) hp) (no_fr fun _ => nofun)
    | _ => cases e
  | lst xs =>
    cases b with
    | lst ys =>
      obtain ⟨hz, rfl⟩ := ite_d (x := .lst (xs ++ ys)) e
      obtain ⟨a1, x1, rfl, ha, da⟩ := pa.lst
      obtain ⟨a2, x2, rfl, hb, db⟩ := pb.lst
      refine op_cat pins s σ H _ _ v u Q I rx ry ⟨_, _, _, _, rfl, rfl, ha, hb, by rw [da.length, db.length]; exact hz, fun p hp => ?_⟩
      exact q _ _ (same_upd hp) (new_lst t (da.app db) hp) (new_fr t (da.app db) hp)
    | _ => cases e
  | _ => cases b <;> cases e
theorem OpR.weak {f : Value → Value → Sem Value} {g : D → D → Option D} (h : OpR X f (rF2 X.K g)) : OpR X f (rD2 X.K g) := fun pins s σ H x y v u Q I rx ry ⟨A, a, b, d, t, pa, pb, e, q⟩ => h pins s σ H x y v u Q I rx ry ⟨A, a, b, d, t, pa, pb, e, fun v H' s r _ => q v H' s r⟩
theorem od_add : OpR X (binaryOp .Add) (rD2 X.K gAdd) := OpR.weak od_addF
theorem od_sub : OpR X (binaryOp .Sub) (rD2 X.K gSub) := by
  intro pins s σ H x y v u Q I rx ry ⟨A, a, b, d, t, pa, pb, e, q⟩
  cases a with
  | int i =>
    cases b with
    | int j =>
      cases e
      rw [pa.int] at rx
      rw [pb.int] at ry
      exact op_sub pins s σ H _ _ v u Q I rx ry ⟨i, j, rfl, rfl, q _ _ (Same.refl _) (.int _)⟩
    | _ => cases e
  | _ => cases b <;> cases e
theorem okMul_ok {i j : Int} (h : okMul i j = true) : IntMulOk i j := by
  have b : ∀ x : Int, Builtin.Int.intBits x ≤ x.natAbs.log2 + 1 := fun x => by
    unfold Builtin.Int.intBits
    split <;> omega
  have h1 := b i
  have h2 := b j
  have h3 : i.natAbs.log2 + j.natAbs.log2 < 100000000 := of_decide_eq_true h
  have e : bitsLine = 134217728 := by decide
  unfold IntMulOk
  intro z
  rw [Bool.and_eq_true] at z
  have z2 := z.2
  unfold Builtin.Int.intTooBig at z2
  have z3 := of_decide_eq_true z2
  rw [e] at z3
  omega
theorem RpA.rep {K : PySem.W.Frag} {A : Addr → Prop} {H : Hp} {xs : List V} {ds : List D} (h : RpA K A H xs ds) : ∀ n : Nat, RpA K A H (List.replicate n xs).flatten (List.replicate n ds).flatten
  | 0 => .nil
  | n + 1 => by
    rw [List.replicate_succ, List.replicate_succ, List.flatten_cons, List.flatten_cons]
    exact h.app (RpA.rep h n)
theorem od_mulF : OpR X (binaryOp .Mult) (rF2 X.K gMul) := by
  intro pins s σ H x y v u Q I rx ry ⟨A, a, b, d, t, pa, pb, e, q⟩
  cases a with
  | int i =>
    cases b with
    | int j =>
      obtain ⟨hz, rfl⟩ := ite_d (x := .int (i * j)) e
      rw [pa.int] at rx
      rw [pb.int] at ry
      obtain ⟨t1, rfl⟩ := rx
      obtain ⟨t2, rfl⟩ := ry
      exact mul_int ⟨.int (i * j), H, I.tok _, ⟨_, rfl⟩, q _ _ (Same.refl _) (.int _) (no_fr fun _ => nofun)⟩ (okMul_ok hz)
    | _ => cases e
  | lst xs =>
    cases b with
    | int k =>
      obtain ⟨hz, rfl⟩ := ite_d (x := .lst (List.replicate k.toNat xs).flatten) e
      obtain ⟨a1, x1, rfl, ha, da⟩ := pa.lst
      rw [pb.int] at ry
      refine op_rep pins s σ H _ _ v u Q I rx ry ⟨_, k, _, rfl, rfl, ha, hz.1, hz.2.1, by rw [da.length]; exact hz.2.2, fun p hp => ?_⟩
      exact q _ _ (same_upd hp) (new_lst t (da.rep _) hp) (new_fr t (da.rep _) hp)
    | _ => cases e
  | _ => cases b <;> cases e
theorem od_mul : OpR X (binaryOp .Mult) (rD2 X.K gMul) := OpR.weak od_mulF
theorem od_div : OpR X (binaryOp .FloorDiv) (rD2 X.K gDiv) := by
  intro pins s σ H x y v u Q I rx ry ⟨A, a, b, d, t, pa, pb, e, q⟩
  cases a with
  | int i =>
    cases b with
    | int j =>
      obtain ⟨hz, rfl⟩ := ite_d (x := .int (i.fdiv j)) e
      rw [pa.int] at rx
      rw [pb.int] at ry
      obtain ⟨t1, rfl⟩ := rx
      obtain ⟨t2, rfl⟩ := ry
      exact floordiv_int hz.1 ⟨.int (i.fdiv j), H, I.tok _, ⟨_, rfl⟩, q _ _ (Same.refl _) (.int _)⟩ (.inl (PyProof.noPylong_of_log2 hz.2))
    | _ => cases e
  | _ => cases b <;> cases e
theorem od_mod : OpR X (binaryOp .Mod) (rD2 X.K gMod) := by
  intro pins s σ H x y v u Q I rx ry ⟨A, a, b, d, t, pa, pb, e, q⟩
  cases a with
  | int i =>
    cases b with
    | int j =>
      obtain ⟨hz, rfl⟩ := ite_d (x := .int (i.fmod j)) e
      rw [pa.int] at rx
      rw [pb.int] at ry
      exact op_modN pins s σ H _ _ v u Q I rx ry ⟨i, j, rfl, rfl, hz, q _ _ (Same.refl _) (.int _)⟩
    | _ => cases e
  | _ => cases b <;> cases e
theorem od_pow : OpR X (binaryOp .Pow) (rD2 X.K gPow) := by
  intro pins s σ H x y v u Q I rx ry ⟨A, a, b, d, t, pa, pb, e, q⟩
  cases a with
  | int i =>
    cases b with
    | int j =>
      obtain ⟨hz, rfl⟩ := ite_d (x := .int (i ^ j.toNat)) e
      rw [pa.int] at rx
      rw [pb.int] at ry
      exact op_pow pins s σ H _ _ v u Q I rx ry ⟨i, j, rfl, rfl, hz, q _ _ (Same.refl _) (.int _)⟩
    | _ => cases e
  | _ => cases b <;> cases e
theorem ud_neg : UnR X (unaryOp .USub) (rD1 X.K gNeg) := by
  intro pins s σ H x v Q I rx ⟨A, a, d, t, pa, e, q⟩
  cases a with
  | int i =>
    cases e
    rw [pa.int] at rx
    exact un_neg pins s σ H _ v Q I rx ⟨i, rfl, q _ _ (Same.refl _) (.int _)⟩
  | _ => cases e
theorem od_lt : OpR X (compareOp .Lt) (rD2 X.K gLt) := by
  intro pins s σ H x y v u Q I rx ry ⟨A, a, b, d, t, pa, pb, e, q⟩
  cases a with
  | int i =>
    cases b with
    | int j =>
      cases e
      rw [pa.int] at rx
      rw [pb.int] at ry
      exact op_lt pins s σ H _ _ v u Q I rx ry ⟨i, j, rfl, rfl, q _ _ (Same.refl _) (.bl _)⟩
    | _ => cases e
  | str i =>
    cases b with
    | str j =>
      cases e
      rw [pa.str] at rx
      rw [pb.str] at ry
      exact op_lt_str pins s σ H _ _ v u Q I rx ry ⟨i, j, rfl, rfl, q _ _ (Same.refl _) (.bl _)⟩
    | _ => cases e
  | _ => cases b <;> cases e
theorem od_gt : OpR X (compareOp .Gt) (rD2 X.K gGt) := by
  intro pins s σ H x y v u Q I rx ry ⟨A, a, b, d, t, pa, pb, e, q⟩
  cases a with
  | int i =>
    cases b with
    | int j =>
      cases e
      rw [pa.int] at rx
      rw [pb.int] at ry
      exact op_gt pins s σ H _ _ v u Q I rx ry ⟨i, j, rfl, rfl, q _ _ (Same.refl _) (.bl _)⟩
    | _ => cases e
  | str i =>
    cases b with
    | str j =>
      cases e
      rw [pa.str] at rx
      rw [pb.str] at ry
      exact op_gt_str pins s σ H _ _ v u Q I rx ry ⟨i, j, rfl, rfl, q _ _ (Same.refl _) (.bl _)⟩
    | _ => cases e
  | _ => cases b <;> cases e
theorem od_le : OpR X (compareOp .LtE) (rD2 X.K gLe) := by
  intro pins s σ H x y v u Q I rx ry ⟨A, a, b, d, t, pa, pb, e, q⟩
  cases a with
  | int i =>
    cases b with
    | int j =>
      cases e
      rw [pa.int] at rx
      rw [pb.int] at ry
      exact op_le pins s σ H _ _ v u Q I rx ry ⟨i, j, rfl, rfl, q _ _ (Same.refl _) (.bl _)⟩
    | _ => cases e
  | str i =>
    cases b with
    | str j =>
      cases e
      rw [pa.str] at rx
      rw [pb.str] at ry
      exact op_le_str pins s σ H _ _ v u Q I rx ry ⟨i, j, rfl, rfl, q _ _ (Same.refl _) (.bl _)⟩
    | _ => cases e
  | _ => cases b <;> cases e
theorem od_ge : OpR X (compareOp .GtE) (rD2 X.K gGe) := by
  intro pins s σ H x y v u Q I rx ry ⟨A, a, b, d, t, pa, pb, e, q⟩
  cases a with
  | int i =>
    cases b with
    | int j =>
      cases e
      rw [pa.int] at rx
      rw [pb.int] at ry
      exact op_ge pins s σ H _ _ v u Q I rx ry ⟨i, j, rfl, rfl, q _ _ (Same.refl _) (.bl _)⟩
    | _ => cases e
  | str i =>
    cases b with
    | str j =>
      cases e
      rw [pa.str] at rx
      rw [pb.str] at ry
      exact op_ge_str pins s σ H _ _ v u Q I rx ry ⟨i, j, rfl, rfl, q _ _ (Same.refl _) (.bl _)⟩
    | _ => cases e
  | _ => cases b <;> cases e
mutual
theorem Rp.dp {K : PySem.W.Frag} {A : Addr → Prop} {H : Hp} : ∀ {v : V} {d : D} {x : PyData}, Rp K A H v d → d.py = some x → Dp K H v x
  | _, _, _, .non, e => by cases e; exact .non
  | _, _, _, .bl b, e => by cases e; exact .bl b
  | _, _, _, .int i, e => by cases e; exact .int i
  | _, _, _, .str i, e => by cases e; exact .str i
  | _, .tup ds, _, .tup h q, e => by
    unfold D.py at e
    cases hp : pyAll ds with
    | none => rw [hp] at e; cases e
    | some ys => rw [hp] at e; cases e; exact .tup h.sq (RpA.dp q hp)
  | _, .lst ds, _, .lst h n q, e => by
    unfold D.py at e
    cases hp : pyAll ds with
    | none => rw [hp] at e; cases e
    | some ys => rw [hp] at e; cases e; exact .lst (SqL.of h) (RpA.dp q hp)
  | _, _, _, .scr _ _, e => by unfold D.py at e; cases e
  | _, _, _, .fn _, e => by unfold D.py at e; cases e
  | _, _, _, .obj _ _ _, e => by unfold D.py at e; cases e
  | _, _, _, .exn _ _ _ _, e => by unfold D.py at e; cases e
  | _, _, _, .dK _ _ _ _, e => by unfold D.py at e; cases e
  | _, _, _, .dT _ _ _ _, e => by unfold D.py at e; cases e
theorem RpA.dp {K : PySem.W.Frag} {A : Addr → Prop} {H : Hp} : ∀ {v : List V} {d : List D} {x : List PyData}, RpA K A H v d → pyAll d = some x → DpAll K H v x
  | _, _, _, .nil, e => by cases e; exact .nil
  | _, d :: ds, _, .cons h q, e => by
    unfold pyAll at e
    cases h1 : d.py with
    | none => rw [h1] at e; cases e
    | some y =>
      rw [h1] at e
      cases h2 : pyAll ds with
      | none => rw [h2] at e; cases e
      | some ys => rw [h2] at e; cases e; exact .cons (Rp.dp h h1) (RpA.dp q h2)
end
theorem RpB.dp {K : PySem.W.Frag} {A : Addr → Prop} {H : Hp} {v : V} {d : D} {x : PyData} (h : RpB K A H v d) (e : d.py = some x) : Dp K H v x := by
  cases h with
  | of h => exact h.dp e
  | @own p ws cs h q =>
    unfold D.py at e
    cases hp : pyAll cs with
    | none => rw [hp] at e; cases e
    | some ys => rw [hp] at e; cases e; exact .lst (SqL.of h) (RpA.dp q hp)
  | ownK _ _ _ => unfold D.py at e; cases e
  | ownT _ _ _ => unfold D.py at e; cases e
theorem eqD_some {a b : D} {k : Bool} (e : eqD a b = some k) : (∃ i j, a = .int i ∧ b = .int j ∧ k = decide (i = j)) ∨ (∃ i j, a = .str i ∧ b = .str j ∧ k = decide (i = j)) ∨ (∃ i j, a = .bl i ∧ b = .bl j ∧ k = decide (i = j)) ∨ (a = .non ∧ b = .non ∧ k = true) ∨
    ∃ x y, a.py = some x ∧ b.py = some y ∧ SeqAt.shaped x = true ∧ SeqAt.shaped y = true ∧ k = PyData.eqv x y := by
  unfold eqD at e
  split at e
  · cases e; exact .inl ⟨_, _, rfl, rfl, rfl⟩
  · cases e; exact .inr (.inl ⟨_, _, rfl, rfl, rfl⟩)
  · cases e; exact .inr (.inr (.inl ⟨_, _, rfl, rfl, rfl⟩))
  · cases e; exact .inr (.inr (.inr (.inl ⟨rfl, rfl, rfl⟩)))
  · split at e
    · rename_i x y hx hy
      split at e
      · rename_i hs
        cases e
        exact .inr (.inr (.inr (.inr ⟨x, y, hx, hy, hs.1, hs.2, rfl⟩)))
      · cases e
    · cases e
theorem map_some {α β : Type} {o : Option α} {f : α → β} {z : β} (e : o.map f = some z) : ∃ k, o = some k ∧ z = f k := by
  cases o with
  | none => cases e
  | some k => cases e; exact ⟨k, rfl, rfl⟩
theorem decI {i j : Int} : decide (V.int i = V.int j) = decide (i = j) := by rw [decide_eq_decide]; simp
theorem decS {i j : Str} : decide (V.str i = V.str j) = decide (i = j) := by rw [decide_eq_decide]; simp
theorem decB {i j : Bool} : decide (V.bl i = V.bl j) = decide (i = j) := by rw [decide_eq_decide]; simp
theorem od_eq (hu : X.A.units + 64 < cLine) : OpR X (compareOp .Eq) (rD2 X.K gEq) := by
  intro pins s σ H x y v u Q I rx ry ⟨A, a, b, d, t, pa, pb, e, q⟩
  obtain ⟨k, e2, rfl⟩ := map_some e
  rcases eqD_some e2 with ⟨i, j, rfl, rfl, rfl⟩ | ⟨i, j, rfl, rfl, rfl⟩ | ⟨i, j, rfl, rfl, rfl⟩ | ⟨rfl, rfl, rfl⟩ | ⟨x', y', hx, hy, sx, sy, rfl⟩
  · rw [pa.int] at rx; rw [pb.int] at ry
    exact op_eq pins s σ H _ _ v u Q I rx ry ⟨rfl, by rw [decI]; exact q _ _ (Same.refl _) (.bl _)⟩
  · rw [pa.str] at rx; rw [pb.str] at ry
    exact op_eq pins s σ H _ _ v u Q I rx ry ⟨rfl, by rw [decS]; exact q _ _ (Same.refl _) (.bl _)⟩
  · rw [pa.bl] at rx; rw [pb.bl] at ry
    exact op_eq pins s σ H _ _ v u Q I rx ry ⟨rfl, by rw [decB]; exact q _ _ (Same.refl _) (.bl _)⟩
  · rw [pa.non] at rx; rw [pb.non] at ry
    exact op_eq pins s σ H _ _ v u Q I rx ry ⟨rfl, q _ _ (Same.refl _) (.bl _)⟩
  · exact op_eqD hu pins s σ H _ _ v u Q I rx ry ⟨x', y', pa.dp hx, pb.dp hy, sx, sy, q _ _ (Same.refl _) (.bl _)⟩
theorem od_ne (hu : X.A.units + 64 < cLine) : OpR X (compareOp .NotEq) (rD2 X.K gNe) := by
  intro pins s σ H x y v u Q I rx ry ⟨A, a, b, d, t, pa, pb, e, q⟩
  obtain ⟨k, e2, rfl⟩ := map_some e
  rcases eqD_some e2 with ⟨i, j, rfl, rfl, rfl⟩ | ⟨i, j, rfl, rfl, rfl⟩ | ⟨i, j, rfl, rfl, rfl⟩ | ⟨rfl, rfl, rfl⟩ | ⟨x', y', hx, hy, sx, sy, rfl⟩
  · rw [pa.int] at rx; rw [pb.int] at ry
    exact op_ne pins s σ H _ _ v u Q I rx ry ⟨rfl, by rw [decI]; exact q _ _ (Same.refl _) (.bl _)⟩
  · rw [pa.str] at rx; rw [pb.str] at ry
    exact op_ne pins s σ H _ _ v u Q I rx ry ⟨rfl, by rw [decS]; exact q _ _ (Same.refl _) (.bl _)⟩
  · rw [pa.bl] at rx; rw [pb.bl] at ry
    exact op_ne pins s σ H _ _ v u Q I rx ry ⟨rfl, by rw [decB]; exact q _ _ (Same.refl _) (.bl _)⟩
  · rw [pa.non] at rx; rw [pb.non] at ry
    exact op_ne pins s σ H _ _ v u Q I rx ry ⟨rfl, q _ _ (Same.refl _) (.bl _)⟩
  · exact op_neD hu pins s σ H _ _ v u Q I rx ry ⟨x', y', pa.dp hx, pb.dp hy, sx, sy, q _ _ (Same.refl _) (.bl _)⟩
theorem isNon_dec {K : PySem.W.Frag} {A : Addr → Prop} {H : Hp} {x : V} {a : D} (h : RpB K A H x a) : decide (x = V.non) = isNon a := by
  cases h with
  | of h => cases h <;> simp [isNon]
  | own _ _ => simp [isNon]
  | ownK _ _ _ => simp [isNon]
  | ownT _ _ _ => simp [isNon]
theorem od_is : OpR X (compareOp .Is) (rD2 X.K gIs) := by
  intro pins s σ H x y v u Q I rx ry ⟨A, a, b, d, t, pa, pb, e, q⟩
  cases b with
  | non =>
    have e' : some (D.bl (isNon a)) = some d := by
      rw [← e]
      cases a <;> rfl
    cases e'
    rw [pb.non] at ry
    exact op_isN pins s σ H _ _ v u Q I rx ry ⟨rfl, by rw [isNon_dec pa]; exact q _ _ (Same.refl _) (.bl _)⟩
  | bl k =>
    cases a with
    | bl j =>
      cases e
      rw [pa.bl] at rx
      rw [pb.bl] at ry
      exact op_isBl pins s σ H _ _ v u Q I rx ry ⟨j, k, rfl, rfl, q _ _ (Same.refl _) (.bl _)⟩
    | _ => cases e
  | _ => cases a <;> cases e
theorem od_isnot : OpR X (compareOp .IsNot) (rD2 X.K gIsNot) := by
  intro pins s σ H x y v u Q I rx ry ⟨A, a, b, d, t, pa, pb, e, q⟩
  cases b with
  | non =>
    have e' : some (D.bl (!isNon a)) = some d := by
      rw [← e]
      cases a <;> rfl
    cases e'
    rw [pb.non] at ry
    exact op_notN pins s σ H _ _ v u Q I rx ry ⟨rfl, by rw [isNon_dec pa]; exact q _ _ (Same.refl _) (.bl _)⟩
  | bl k =>
    cases a with
    | bl j =>
      cases e
      rw [pa.bl] at rx
      rw [pb.bl] at ry
      exact op_notBl pins s σ H _ _ v u Q I rx ry ⟨j, k, rfl, rfl, q _ _ (Same.refl _) (.bl _)⟩
    | _ => cases e
  | _ => cases a <;> cases e
theorem inD_some {a l : D} {k : Bool} (e : inD a l = some k) : (∃ x y, a = .str x ∧ l = .str y ∧ k = inStr x y) ∨
    ∃ ds x ys, (l = .lst ds ∨ l = .tup ds) ∧ a.py = some x ∧ pyAll ds = some ys ∧ SeqAt.shaped x = true ∧ SeqAt.shaped (.list ys) = true ∧ k = ys.any fun z => PyData.eqv z x := by
  unfold inD at e
  split at e
  · cases e; exact .inl ⟨_, _, rfl, rfl, rfl⟩
  · split at e
    · rename_i x y hx hy
      split at e
      · rename_i hs
        cases e
        exact .inr ⟨_, x, y, .inl rfl, hx, hy, hs.1, hs.2, rfl⟩
      · cases e
    · cases e
  · split at e
    · rename_i x y hx hy
      split at e
      · rename_i hs
        cases e
        exact .inr ⟨_, x, y, .inr rfl, hx, hy, hs.1, hs.2, rfl⟩
      · cases e
    · cases e
  · cases e
def rNotInT (K : PySem.W.Frag) : R2 := fun x y H Q => ∃ d ds, Dp K H x d ∧ Dp K H y (.tuple ds) ∧ SeqAt.shaped d = true ∧ SeqAt.shaped (.list ds) = true ∧ Q (.bl (!ds.any fun z => PyData.eqv z d)) H
theorem op_notInT (hu : X.A.units + 65 < cLine) : OpR X (compareOp .NotIn) (rNotInT X.K) := by
  intro pins s σ H x y v u Q I rx ry h
  obtain ⟨d, ds, hd, he, sd, se, q⟩ := h
  obtain ⟨as, r1⟩ := Dp.reads I d x v hd rx
  obtain ⟨bs, r2⟩ := Dp.reads I (.tuple ds) y u he ry
  exact SeqAt.notIn_tuple_reads r2 r1 (SeqAt.canLay_of_shaped se) (SeqAt.canLay_of_shaped sd) (room_in_shaped sd hu) ⟨.bl _, H, I, rfl, q⟩
theorem od_notin (hu : X.A.units + 65 < cLine) : OpR X (compareOp .NotIn) (rD2 X.K gNotIn) := by
  intro pins s σ H x y v u Q I rx ry ⟨A, a, b, d, t, pa, pb, e, q⟩
  obtain ⟨k, e2, rfl⟩ := map_some e
  rcases inD_some e2 with ⟨i, j, rfl, rfl, rfl⟩ | ⟨ds, x', ys, hl, hx, hy, sx, sy, rfl⟩
  · rw [pa.str] at rx; rw [pb.str] at ry
    exact op_notIn_str pins s σ H _ _ v u Q I rx ry ⟨i, j, rfl, rfl, q _ _ (Same.refl _) (.bl _)⟩
  · rcases hl with rfl | rfl
    · exact op_notInD hu pins s σ H _ _ v u Q I rx ry ⟨x', ys, pa.dp hx, pb.dp (by unfold D.py; rw [hy]; rfl), sx, sy, q _ _ (Same.refl _) (.bl _)⟩
    · exact op_notInT hu pins s σ H _ _ v u Q I rx ry ⟨x', ys, pa.dp hx, pb.dp (by unfold D.py; rw [hy]; rfl), sx, sy, q _ _ (Same.refl _) (.bl _)⟩
end
end DL
namespace DL
open L2 PySem PySem.Spec PyProof.Rows
section
variable {X : Cx} {G : Gd} {O : List Nat} {W : WX} {a b c e : Expr} {es : List Expr} {ma mb mc : ME} {pos : Pos}
theorem de_var (i : Nat) {x : Str} {pos : Pos} (hO : O.contains i = false) (hN : X.N[i]? = some x) (hv : Vis X.env.scope x) (hd : (x == ("__debug__" : Str)) = false := by decide)
    (hcd : (x == ("__classdict__" : Str)) = false := by decide) : DE X G O W (.Name x pos) (mVar i) := by
  refine pe_imp (pe_var hN hv hd hcd) fun σ H Q ⟨A, ms, ρ, R, q⟩ => ?_
  unfold mVar at q
  split at q
  · rename_i d h
    obtain ⟨v, h1, h2⟩ := R.fz i d h fun z => by rw [List.contains_iff_mem.mpr z] at hO; cases hO
    exact ⟨v, h1, q v H R Kp.refl h2⟩
  · exact q.elim
theorem de_c {e : Expr} {v : V} {d : D} (h : PE X e (tC v)) (r : ∀ A H, Rp X.K A H v d) : DE X G O W e (mK d) :=
  pe_imp h fun σ H Q ⟨A, ms, ρ, R, q⟩ => q v H R Kp.refl (r A H)
theorem de_int {i j pos} : DE X G O W (.Constant (.int i) j pos) (mK (.int i)) := de_c pe_int fun _ _ => .int i
theorem de_bl {b j pos} : DE X G O W (.Constant (.bool b) j pos) (mK (.bl b)) := de_c pe_bl fun _ _ => .bl b
theorem de_non {j pos} : DE X G O W (.Constant .none j pos) (mK .non) := de_c pe_non fun _ _ => .non
theorem de_str {x j pos} : DE X G O W (.Constant (.str x) j pos) (mK (.str x)) := de_c pe_str fun _ _ => .str x
theorem rp_of {α : Type} {g : Option α} {ρ : En} {K : PySem.W.Frag} {A : Addr → Prop} {ms : Nat → Option Addr} {σ : L2.St} {H : Hp} {β : Type} {rel : Hp → β → α → Prop} {Q : β → Hp → Prop} (R : RelS K G O A ms σ H ρ)
    (h : RPost K G O W A ms σ H rel Q (ret g ρ)) : ∃ d, g = some d ∧ ∀ v H', Same H H' → rel H' v d → Q v H' := by
  cases g with
  | none => exact h.elim
  | some d => exact ⟨d, rfl, fun v H' s r => h v H' (R.same s) (Kp.same s) r⟩
theorem de_un {op : UnaryOp} {g : D → Option D} (ho : UnR X (unaryOp op) (rD1 X.K g)) (ha : DE X G O W a ma) : DE X G O W (.UnaryOp op a pos) (m1 g ma) := by
  refine pe_imp (pe_un ho ha) fun σ H Q ⟨A, ms, ρ, R, q⟩ => ?_
  refine ⟨A, ms, ρ, R, q.bind.mono ?_⟩
  rintro x H1 ⟨d, ρ1, R1, k1, r1, q1⟩
  obtain ⟨z, hz, q2⟩ := rp_of R1 q1
  exact ⟨A, d, z, R1.trk, .of r1, hz, q2⟩
theorem op2_go {r : R2} {g : D → D → Option D} {K : PySem.W.Frag} (hr : ∀ x y H Q, rD2 K g x y H Q → r x y H Q) {σ : L2.St} {H : Hp} {Q : VK} (h : tE K G O W (m2 g ma mb) σ H Q) : tOp r (tE K G O W ma) (tE K G O W mb) σ H Q := by
  obtain ⟨A, ms, ρ, R, q⟩ := h
  refine ⟨A, ms, ρ, R, q.bind.mono ?_⟩
  rintro x H1 ⟨d, ρ1, R1, k1, r1, q1⟩
  refine ⟨A, ms, ρ1, R1, q1.bind.mono ?_⟩
  rintro y H2 ⟨d2, ρ2, R2', k2, r2, q2⟩
  obtain ⟨z, hz, q3⟩ := rp_of R2' q2
  exact hr _ _ _ _ ⟨A, d, d2, z, R2'.trk, .of (r1.tr (R1.kt k2)), .of r2, hz, q3⟩
theorem de_bin {op : Operator} {g : D → D → Option D} (ho : OpR X (binaryOp op) (rD2 X.K g)) (ha : DE X G O W a ma) (hb : DE X G O W b mb) : DE X G O W (.BinOp a op b pos) (m2 g ma mb) :=
  pe_imp (pe_op ho ha hb) fun _ _ _ h => op2_go (fun _ _ _ _ z => z) h
theorem de_cmp {op : CmpOp} {g : D → D → Option D} (ho : OpR X (compareOp op) (rD2 X.K g)) (ha : DE X G O W a ma) (hb : DE X G O W b mb) (hm : behindInMarks op b = false) : DE X G O W (.Compare a [op] [b] pos) (m2 g ma mb) :=
  pe_imp (pe_cmpR ho ha hb hm) fun _ _ _ h => op2_go (fun _ _ _ _ z => z) h
theorem de_ix {g : D → D → Option D} (hr : IxR X (rD2 X.K g)) (ha : DE X G O W a ma) (hb : DE X G O W b mb) (hs : PlainIx b) : DE X G O W (.Subscript a b pos) (m2 g ma mb) :=
  pe_imp (pe_ix hr ha hb hs) fun _ _ _ h => op2_go (fun _ _ _ _ z => z) h
theorem tru_ok' {K : PySem.W.Frag} {A : Addr → Prop} {H : Hp} {x : V} {d : D} {k : Bool} (h : Rp K A H x d) (e : tru d = some k) : TruV K x H k := by
  cases h with
  | non => cases e; rfl
  | bl b => cases e; rfl
  | int i => cases e; rfl
  | str y =>
    have e' : (if y.length ≤ sizeLine then some ((y.length : Int) != 0) else none) = some k := e
    split at e'
    · rename_i hz
      cases e'
      exact ⟨hz, rfl⟩
    · cases e'
  | tup h q =>
    cases e
    refine .inr (.inl ⟨_, h.sq, ?_⟩)
    have := q.nil_iff
    cases q <;> rfl
  | lst h n q =>
    cases e
    refine .inl ⟨_, SqL.of h, ?_⟩
    cases q <;> rfl
  | scr h q =>
    cases e
    refine .inl ⟨_, h.sq, ?_⟩
    cases q <;> rfl
  | fn _ => cases e
  | obj _ _ _ => cases e
  | exn _ _ _ _ => cases e
  | dK _ _ _ _ => cases e
  | dT _ _ _ _ => cases e
theorem dt_tru (ha : DE X G O W a ma) (he : ∀ whole, isTrue a X.env whole = (do let v ← whole; standAt a.pos; holding [v] (truthy v)) := by intro _; rfl) : DT X G O W a (mTru ma) := by
  refine pt_imp (pt_truth ha he) fun σ H Q ⟨A, ms, ρ, R, q⟩ => ?_
  refine ⟨A, ms, ρ, R, q.bind.mono ?_⟩
  rintro x H1 ⟨d, ρ1, R1, k1, r1, q1⟩
  obtain ⟨z, hz, q2⟩ := rp_of R1 q1
  exact ⟨z, tru_ok' r1 hz, q2 z H1 (Same.refl _) rfl⟩
def asB : D → Option Bool
  | .bl b => some b
  | _ => none
def mTest (m : ME) : MT := fun ρ => (m ρ).bind fun x ρ1 => ret (asB x) ρ1
theorem test_go {t : TE} {m : ME} {K : PySem.W.Frag} (ht : ∀ σ H Q, tE K G O W m σ H Q → t σ H Q) {σ : L2.St} {H : Hp} {Q : Bool → Hp → Prop} (h : tT K G O W (mTest m) σ H Q) : tTest t σ H Q := by
  obtain ⟨A, ms, ρ, R, q⟩ := h
  refine ht _ _ _ ⟨A, ms, ρ, R, q.bind.mono ?_⟩
  rintro x H1 ⟨d, ρ1, R1, k1, r1, q1⟩
  obtain ⟨z, hz, q2⟩ := rp_of R1 q1
  cases d with
  | bl k =>
    cases hz
    cases r1
    exact ⟨_, rfl, q2 _ H1 (Same.refl _) rfl⟩
  | _ => cases hz
theorem dt_cmp {op : CmpOp} {g : D → D → Option D} (ho : OpR X (compareOp op) (rD2 X.K g)) (ha : DE X G O W a ma) (hb : DE X G O W b mb) (hm : behindInMarks op b = false) : DT X G O W (.Compare a [op] [b] pos) (mTest (m2 g ma mb)) :=
  pt_imp (pt_cmpR ho ha hb hm) fun _ _ _ h => test_go (fun _ _ _ z => op2_go (fun _ _ _ _ z => z) z) h
theorem chain_go {g g' : D → D → Option D} {K : PySem.W.Frag} {σ : L2.St} {H : Hp} {Q : VK} (h : tE K G O W (mChain g g' ma mb mc) σ H Q) : tChain (rD2 K g) (rD2 K g') (tE K G O W ma) (tE K G O W mb) (tE K G O W mc) σ H Q := by
  obtain ⟨A, ms, ρ, R, q⟩ := h
  refine ⟨A, ms, ρ, R, q.bind.mono ?_⟩
  rintro x H1 ⟨d, ρ1, R1, k1, r1, q1⟩
  refine ⟨A, ms, ρ1, R1, q1.bind.mono ?_⟩
  rintro y H2 ⟨d2, ρ2, R2', k2, r2, q2⟩
  obtain ⟨z, hz, q3⟩ := rp_of (rel := Rp K A) R2' q2.bind
  refine ⟨A, d, d2, z, R2'.trk, .of (r1.tr (R1.kt k2)), .of r2, hz, fun v H3 s r => ?_⟩
  obtain ⟨d3, ρ3, R3, k3, r3, q4⟩ := q3 v H3 s r
  cases d3 with
  | bl k =>
    cases r3
    refine ⟨_, rfl, ?_⟩
    cases k with
    | true =>
      rw [if_pos rfl]
      refine ⟨A, ms, ρ3, R3, RPost.mono (RPost.bind q4) ?_⟩
      rintro w H4 ⟨d4, ρ4, R4, k4, r4, q5⟩
      obtain ⟨z2, hz2, q6⟩ := rp_of R4 q5
      exact ⟨A, d2, d4, z2, R4.trk, .of ((r2.tr (R2'.kt k3)).tr (R3.kt k4)), .of r4, hz2, q6⟩
    | false =>
      rw [if_neg Bool.false_ne_true]
      exact q4 _ H3 R3 Kp.refl (.bl false)
  | _ => exact q4.elim
theorem dt_chain {op op' : CmpOp} {g g' : D → D → Option D} (ho : OpR X (compareOp op) (rD2 X.K g)) (ho' : OpR X (compareOp op') (rD2 X.K g')) (ha : DE X G O W a ma) (hb : DE X G O W b mb) (hc : DE X G O W c mc)
    (hm : lastMarks [op, op'] [b, c] = false := by with_unfolding_all rfl) : DT X G O W (.Compare a [op, op'] [b, c] pos) (mTest (mChain g g' ma mb mc)) :=
  pt_imp (pt_chain ho ho' ha hb hc hm) fun _ _ _ h => test_go (fun _ _ _ z => chain_go z) h
def DW (X : Cx) (G : Gd) (O : List Nat) (W : WX) (e : Expr) (m : MT) : Prop := PW X e (tT X.K G O W m)
variable {ta tb tc : MT} {rest : List Expr}
theorem DW.t (h : DW X G O W e ta) : DT X G O W e ta := PW.pt h
theorem dw_and1 (ha : DT X G O W a ta) : DW X G O W (.BoolOp .And [a] pos) ta := pw_and1 ha
theorem dw_or1 (ha : DT X G O W a ta) : DW X G O W (.BoolOp .Or [a] pos) ta := pw_or1 ha
theorem dw_and (ha : DT X G O W a ta) (hb : DW X G O W (.BoolOp .And (b :: rest) pos) tb) : DW X G O W (.BoolOp .And (a :: b :: rest) pos) (mAndT ta tb) := by
  refine pw_imp (pw_and ha hb) fun σ H Q ⟨A, ms, ρ, R, q⟩ => ?_
  refine ⟨A, ms, ρ, R, q.bind.mono ?_⟩
  rintro k H1 ⟨d, ρ1, R1, k1, rfl, q1⟩
  cases k with
  | true => exact ⟨A, ms, ρ1, R1, q1⟩
  | false => exact q1 _ H1 R1 Kp.refl rfl
theorem dw_or (ha : DT X G O W a ta) (hb : DW X G O W (.BoolOp .Or (b :: rest) pos) tb) : DW X G O W (.BoolOp .Or (a :: b :: rest) pos) (mOrT ta tb) := by
  refine pw_imp (pw_or ha hb) fun σ H Q ⟨A, ms, ρ, R, q⟩ => ?_
  refine ⟨A, ms, ρ, R, q.bind.mono ?_⟩
  rintro k H1 ⟨d, ρ1, R1, k1, rfl, q1⟩
  cases k with
  | true => exact q1 _ H1 R1 Kp.refl rfl
  | false => exact ⟨A, ms, ρ1, R1, q1⟩
theorem dt_not (ha : DT X G O W a ta) : DT X G O W (.UnaryOp .Not a pos) (mNotT ta) := by
  refine pt_imp (pt_not ha) fun σ H Q ⟨A, ms, ρ, R, q⟩ => ?_
  refine ⟨A, ms, ρ, R, q.bind.mono ?_⟩
  rintro k H1 ⟨d, ρ1, R1, k1, rfl, q1⟩
  exact q1 _ H1 R1 Kp.refl rfl
theorem de_if (hc : DT X G O W c tc) (ha : DE X G O W a ma) (hb : DE X G O W b mb) : DE X G O W (.IfExp c a b pos) (mIf tc ma mb) := by
  refine pe_imp (pe_ifExp hc ha hb) fun σ H Q ⟨A, ms, ρ, R, q⟩ => ?_
  refine ⟨A, ms, ρ, R, q.bind.mono ?_⟩
  rintro k H1 ⟨d, ρ1, R1, k1, rfl, q1⟩
  cases k with
  | true => exact ⟨A, ms, ρ1, R1, q1⟩
  | false => exact ⟨A, ms, ρ1, R1, q1⟩
theorem de_one {op} (ha : DE X G O W a ma) : DE X G O W (.BoolOp op [a] pos) ma := pe_one ha
theorem de_and (ha : DE X G O W a ma) (hb : DE X G O W (.BoolOp .And (b :: rest) pos) mb) : DE X G O W (.BoolOp .And (a :: b :: rest) pos) (mAnd ma mb) := by
  refine pe_imp (pe_andT ha hb) fun σ H Q ⟨A, ms, ρ, R, q⟩ => ?_
  refine ⟨A, ms, ρ, R, q.bind.mono ?_⟩
  rintro x H1 ⟨d, ρ1, R1, k1, r1, q1⟩
  obtain ⟨k, hk, q2⟩ := rp_of (rel := fun _ => @Eq Bool) R1 q1.bind
  obtain ⟨_, ρ2, R2', k2, rfl, q3⟩ := q2 k H1 (Same.refl _) rfl
  refine ⟨k, tru_ok' r1 hk, ?_⟩
  cases k with
  | true => exact ⟨A, ms, ρ2, R2', q3⟩
  | false => exact q3 _ H1 R2' Kp.refl r1
theorem de_or (ha : DE X G O W a ma) (hb : DE X G O W (.BoolOp .Or (b :: rest) pos) mb) : DE X G O W (.BoolOp .Or (a :: b :: rest) pos) (mOr ma mb) := by
  refine pe_imp (pe_orT ha hb) fun σ H Q ⟨A, ms, ρ, R, q⟩ => ?_
  refine ⟨A, ms, ρ, R, q.bind.mono ?_⟩
  rintro x H1 ⟨d, ρ1, R1, k1, r1, q1⟩
  obtain ⟨k, hk, q2⟩ := rp_of (rel := fun _ => @Eq Bool) R1 q1.bind
  obtain ⟨_, ρ2, R2', k2, rfl, q3⟩ := q2 k H1 (Same.refl _) rfl
  refine ⟨k, tru_ok' r1 hk, ?_⟩
  cases k with
  | true => exact q3 _ H1 R2' Kp.refl r1
  | false => exact ⟨A, ms, ρ2, R2', q3⟩
variable {mr : MA}
theorem da_nil : DA X G O W [] mNil := pa_imp pa_nil fun σ H Q ⟨A, ms, ρ, R, q⟩ => q [] H R Kp.refl .nil
theorem da_cons (ha : DE X G O W e ma) (hr : DA X G O W es mr) (hs : starEach (e :: es) X.env = (false, eval e X.env) :: starEach es X.env := by rfl) : DA X G O W (e :: es) (mCons ma mr) := by
  refine pa_imp (pa_cons ha hr hs) fun σ H Q ⟨A, ms, ρ, R, q⟩ => ?_
  refine ⟨A, ms, ρ, R, q.bind.mono ?_⟩
  rintro x H1 ⟨d, ρ1, R1, k1, r1, q1⟩
  refine ⟨A, ms, ρ1, R1, RPost.mono (RPost.bind q1) ?_⟩
  rintro xs H2 ⟨ds, ρ2, R2', k2, r2, q2⟩
  exact q2 _ H2 R2' Kp.refl (.cons (r1.tr (R1.kt k2)) r2)
theorem de_tup {x1} (h : DA X G O W es mr) : DE X G O W (.Tuple es x1 pos) (mN gTup mr) := by
  refine pe_imp (pe_tup h) fun σ H Q ⟨A, ms, ρ, R, q⟩ => ?_
  refine ⟨A, ms, ρ, R, q.bind.mono ?_⟩
  rintro xs H1 ⟨ds, ρ1, R1, k1, r1, q1⟩
  obtain ⟨z, hz, q2⟩ := rp_of R1 q1
  obtain ⟨hl, rfl⟩ := ite_d (x := .tup ds) hz
  exact ⟨by rw [r1.length]; exact hl, fun p hp => q2 _ _ (same_upd hp) (new_tup R1.trk r1 hp)⟩
def FPost (K : PySem.W.Frag) (G : Gd) (O : List Nat) (W : WX) (A : Addr → Prop) (ms : Nat → Option Addr) (σ : L2.St) (H : Hp) (Q : VK) : R D → Prop
  | .ok d ρ' => ∀ p H', RelS K G O A ms σ H' ρ' → RelS K G O (fun a => A a ∨ a = p) ms σ H' ρ' → Kp O ms H H' → H p = none → Own K (fun a => A a ∨ a = p) H' p d → Q (.ref p) H'
  | .ex x ρ' => ∀ dx H', RelS K G O A ms σ H' ρ' → Kp O ms H H' → XRel K A H' x dx → W (.ref (He.ga K x.c)) dx σ H'
  | .bad => False
def tF (K : PySem.W.Frag) (G : Gd) (O : List Nat) (W : WX) (m : ME) : TE := fun σ H Q => ∃ A ms ρ, RelS K G O A ms σ H ρ ∧ FPost K G O W A ms σ H Q (m ρ)
def DF (X : Cx) (G : Gd) (O : List Nat) (W : WX) (e : Expr) (m : ME) : Prop := PE X e (tF X.K G O W m)
theorem RelS.less {K : PySem.W.Frag} {A A' : Addr → Prop} {ms : Nat → Option Addr} {σ : L2.St} {H : Hp} {ρ : En} (R : RelS K G O A ms σ H ρ) (hs : ∀ a, A' a → A a) (h0 : ∀ a, G.A0 a → A' a) (ho : ∀ i p, i ∈ O → ms i = some p → A' p) : RelS K G O A' ms σ H ρ where
  sub := h0
  trk0 := R.trk0
  trk := fun a q => R.trk a (hs a q)
  keep := R.keep
  len := R.len
  fz := fun i d e n => let ⟨v, e1, q⟩ := R.fz i d e n; ⟨v, e1, q.tr fun a o z n => ⟨z, fun k => n (hs a k)⟩⟩
  ow := fun i d e n => let ⟨p, e0, e1, q⟩ := R.ow i d e n; ⟨p, e0, e1, q.tr (fun a o z n => ⟨z, fun k => n (hs a k)⟩) fun o z => z⟩
  inA := ho
  ok := R.ok
  dist := R.dist
  px := R.px
  io := R.io
theorem RelS.grow {K : PySem.W.Frag} {A : Addr → Prop} {ms : Nat → Option Addr} {σ : L2.St} {H H' : Hp} {ρ : En} {p : Addr} {o : HO} (R : RelS K G O A ms σ H ρ) (hp : H p = none) (s : Same H H') (hp' : H' p = some o) : RelS K G O (fun a => A a ∨ a = p) ms σ H' ρ := by
  have t : Tr A (fun a => A a ∨ a = p) H H' := fun a u e n => ⟨s _ _ e, fun z => z.elim n fun z => by rw [z, hp] at e; cases e⟩
  have R' := R.same s
  exact {
    sub := fun a q => .inl (R.sub a q)
    trk0 := R.trk0
    trk := fun a q => q.elim (R'.trk a) fun z => ⟨o, z ▸ hp'⟩
    keep := R'.keep
    len := R.len
    fz := fun i d e n => let ⟨v, e1, q⟩ := R.fz i d e n; ⟨v, e1, q.tr t⟩
    ow := fun i d e n => let ⟨q, e0, e1, w⟩ := R.ow i d e n; ⟨q, e0, e1, w.tr t fun o z => s _ _ z⟩
    inA := fun i q m e => .inl (R.inA i q m e)
    ok := R.ok
    dist := R.dist
    px := R.px
    io := R.io }
theorem RelS.msne {K : PySem.W.Frag} {A : Addr → Prop} {ms : Nat → Option Addr} {σ : L2.St} {H : Hp} {ρ : En} {p : Addr} (R : RelS K G O A ms σ H ρ) (hp : H p = none) : ∀ i ∈ O, ms i ≠ some p := fun i m z => by
  obtain ⟨o, e⟩ := R.trk p (R.inA i p m z)
  rw [hp] at e
  cases e
theorem Kp.none {K : PySem.W.Frag} {A : Addr → Prop} {ms : Nat → Option Addr} {σ : L2.St} {H H1 : Hp} {ρ : En} {p : Addr} (R : RelS K G O A ms σ H1 ρ) (k : Kp O ms H H1) (hp : H1 p = none) : H p = none := by
  cases e : H p with
  | none => rfl
  | some o =>
    have := k p o e (R.msne hp)
    rw [hp] at this
    cases this
theorem new_own {K : PySem.W.Frag} {A : Addr → Prop} {H : Hp} {p : Addr} {xs : List V} {ds : List D} (t : Trk A H) (h : RpA K A H xs ds) (hp : H p = none) : Own K (fun a => A a ∨ a = p) (upd H p (.lst xs)) p (.lst ds) :=
  .lst upd_same (h.tr fun a u e n => ⟨same_upd hp _ _ e, fun z => z.elim n fun z => by rw [z, hp] at e; cases e⟩)
theorem DF.toE {e : Expr} {m : ME} (h : DF X G O W e m) : DE X G O W e m := by
  refine pe_imp h fun σ H Q ⟨A, ms, ρ, R, q⟩ => ⟨A, ms, ρ, R, ?_⟩
  cases hm : m ρ with
  | bad => rw [hm] at q; exact q.elim
  | ex x ρ1 => rw [hm] at q; exact q
  | ok d ρ1 =>
    rw [hm] at q
    intro p H' R' _ k hp ow
    have np : ¬ A p := Trk.no (fun a z => R.trk a z) hp
    exact q (.ref p) H' R' k (ow.freeze (fun a z => .inl z) np)
theorem df_lst {es : List Expr} {mr : MA} (h : DA X G O W es mr) : DF X G O W (.List es pos) (mN gLst mr) := by
  refine pe_imp (pe_lst h) fun σ H Q ⟨A, ms, ρ, R, q⟩ => ⟨A, ms, ρ, R, ?_⟩
  unfold mN at q
  cases hm : mr ρ with
  | bad => rw [hm] at q; exact q.elim
  | ex x ρ1 => rw [hm] at q; exact q
  | ok ds ρ1 =>
    rw [hm] at q
    intro xs H1 R1 k1 r1
    have q' : FPost X.K G O W A ms σ H Q (ret (gLst ds) ρ1) := q
    unfold gLst at q'
    split at q'
    · rename_i hz
      refine ⟨by rw [r1.length]; exact hz, fun p hp => ?_⟩
      refine q' p _ (R1.same (same_upd hp)) (R1.grow hp (same_upd hp) upd_same) (k1.trans (Kp.same (same_upd hp))) ?_ (new_own R1.trk r1 hp)
      exact Kp.none R1 k1 hp
    · exact q'.elim
end
end DL
namespace DL
open L2 PySem PySem.Spec PyProof.Rows
inductive Out where
  | nx (r : En) | rt (d : D) (r : En) | bk (r : En) | ct (r : En) | ex (x : Xn) (r : En) | bad
abbrev MS := En → Out
inductive Ret where
  | rt (d o : D) | ex (x : Xn) (o : D) | bad
abbrev FN := List D → Ret
def RetR (K : PySem.W.Frag) (A : Addr → Prop) (fr : Bool) (H H' : Hp) (q : Option Addr) (v : V) (d o : D) : Prop :=
  if fr = true then ∃ r, v = .ref r ∧ H r = none ∧ Own K (fun a => A a ∨ a = r) H' r d ∧ ∀ p, q = some p → Own K (fun a => A a ∨ a = r) H' p o
  else Rp K A H' v d ∧ ∀ p, q = some p → Own K A H' p o
def KI (q : Option Addr) (H H' : Hp) : Prop := ∀ a o, H a = some o → q ≠ some a → H' a = some o
def ArgR (K : PySem.W.Frag) (A : Addr → Prop) (H : Hp) (q : Option Addr) (vs : List V) (ds : List D) : Prop :=
  match q with
  | none => RpA K A H vs ds
  | some p => ∃ vs' d ds', vs = .ref p :: vs' ∧ ds = d :: ds' ∧ A p ∧ Own K A H p d ∧ RpA K A H vs' ds'
def spD (K : PySem.W.Frag) (io fr : Bool) (F : FN) : Sp := fun vs H Q E => ∃ (A : Addr → Prop) (q : Option Addr) (ds : List D), Trk A H ∧ q.isSome = io ∧ ArgR K A H q vs ds ∧
  match F ds with
  | .rt d o => ∀ v H', KI q H H' → RetR K A fr H H' q v d o → Q v H'
  | .ex x o => ∀ dx H', KI q H H' → (∀ p, q = some p → Own K A H' p o) → XRel K A H' x dx → E (.ref (He.ga K x.c)) dx H'
  | .bad => False
structure FnG (P : Program) (w : World) (K : PySem.W.Frag) (mg : Str → Option Value) (base : Heap) (k : Nat) (f : Addr) (io fr : Bool) (F : FN) : Prop where
  run : ∀ (A : Around) (outer : List Env) (s : Shared) (H : Hp) (us : List Value) (vs : List V) (Q : VK) (E : XK), Room k A → A.guards = some [] → Env0 P w K mg base A outer s H → Vals vs us →
    spD K io fr F vs H Q E → codeAny (model P w) A (.call (.ref f) ⟨us, []⟩) (CR (L2N.CX P w) outer P w H s Q E) s
  kp : PySem.W.keepIn K (.ref f) = true
theorem FnG.mono {P : Program} {w : World} {K : PySem.W.Frag} {mg : Str → Option Value} {base : Heap} {j k : Nat} {f : Addr} {io fr : Bool} {F : FN} (h : FnG P w K mg base j f io fr F) (l : j ≤ k) : FnG P w K mg base k f io fr F :=
  ⟨fun A outer s H us vs Q E hr => h.run A outer s H us vs Q E (hr.mono l), h.kp⟩
section
variable (K : PySem.W.Frag) (G : Gd)
def RetG (fr : Bool) (v : V) (H' : Hp) (d o : D) : Prop := KI G.io G.H0 H' ∧ RetR K G.A0 fr G.H0 H' G.io v d o
def io0 (ρ : En) : D := match ρ[0]? with
  | some (some d) => d
  | _ => .non
variable (XC : List Nat → Prop) (Ol O O' : List Nat) (W : WX) (fr : Bool) (A : Addr → Prop) (H : Hp)
def SPost (D0 : Ends) : Out → Prop
  | .nx ρ' => ∀ σ' H' A' ms', RelS K G O' A' ms' σ' H' ρ' → Tr A A' H H' → D0.nx σ' H'
  | .rt d ρ' => ∀ v H', RetG K G fr v H' d (io0 ρ') → D0.rt v H'
  | .bk ρ' => ∀ σ' H' A' ms', RelS K G Ol A' ms' σ' H' ρ' → Tr A A' H H' → D0.bk σ' H'
  | .ct ρ' => ∀ σ' H' A' ms', RelS K G Ol A' ms' σ' H' ρ' → Tr A A' H H' → D0.ct σ' H'
  | .ex x ρ' => ∀ dx σ' H' A' ms' O'', XC O'' → RelS K G O'' A' ms' σ' H' ρ' → Tr A A' H H' → XRel K A' H' x dx → W (.ref (He.ga K x.c)) dx σ' H'
  | .bad => False
def tS (m : MS) : TS := fun D0 σ H => ∃ A ms ρ, RelS K G O A ms σ H ρ ∧ SPost K G XC Ol O' W fr A H D0 (m ρ)
end
def DS (X : Cx) (G : Gd) (XC : List Nat → Prop) (Ol O O' : List Nat) (W : WX) (fr : Bool) (st : Stmt) (m : MS) : Prop := PS X st (tS X.K G XC Ol O O' W fr m)
def DSs (X : Cx) (G : Gd) (XC : List Nat → Prop) (Ol O O' : List Nat) (W : WX) (fr : Bool) (sts : List Stmt) (m : MS) : Prop := PSs X sts (tS X.K G XC Ol O O' W fr m)
theorem Tr.trans {A A1 A2 : Addr → Prop} {H H1 H2 : Hp} (a : Tr A A1 H H1) (b : Tr A1 A2 H1 H2) : Tr A A2 H H2 := fun x o e n => let ⟨e1, n1⟩ := a x o e n; b x o e1 n1
theorem Tr.refl {A : Addr → Prop} {H : Hp} : Tr A A H H := fun _ _ e n => ⟨e, n⟩
theorem SPost.from {K : PySem.W.Frag} {G : Gd} {XC : List Nat → Prop} {Ol O' : List Nat} {W : WX} {fr : Bool} {A A1 : Addr → Prop} {H H1 : Hp} {D0 : Ends} {r : Out} (t : Tr A A1 H H1) (h : SPost K G XC Ol O' W fr A H D0 r) : SPost K G XC Ol O' W fr A1 H1 D0 r := by
  cases r with
  | nx ρ => exact fun σ' H' A' ms' R k => h σ' H' A' ms' R (t.trans k)
  | rt d ρ => exact h
  | bk ρ => exact fun σ' H' A' ms' R k => h σ' H' A' ms' R (t.trans k)
  | ct ρ => exact fun σ' H' A' ms' R k => h σ' H' A' ms' R (t.trans k)
  | ex x ρ => exact fun dx σ' H' A' ms' O'' c R k => h dx σ' H' A' ms' O'' c R (t.trans k)
  | bad => exact h
def pad (n : Nat) (ds : List D) : En := ds.map some ++ List.replicate (n - ds.length) none
def runM (n np : Nat) (dd : List D) (fr : Bool) (m : MS) : FN := fun ds => if (ds ++ dd).length = np then match m (pad n (ds ++ dd)) with
  | .nx ρ => if fr = true then .bad else .rt .non (io0 ρ)
  | .rt d ρ => .rt d (io0 ρ)
  | .ex x ρ => .ex x (io0 ρ)
  | _ => .bad
  else .bad
theorem pad_get {n : Nat} {ds : List D} {i : Nat} {d : D} (h : (pad n ds)[i]? = some (some d)) : ds[i]? = some d := by
  unfold pad at h
  by_cases hi : i < ds.length
  · rw [List.getElem?_append_left (by rw [List.length_map]; exact hi), List.getElem?_map] at h
    cases e : ds[i]? with
    | none => rw [e] at h; cases h
    | some x => rw [e] at h; cases h; rfl
  · rw [List.getElem?_append_right (by rw [List.length_map]; omega), List.getElem?_replicate] at h
    split at h
    · cases h
    · cases h
theorem start_get {N : List Str} {vs : List V} {i : Nat} {v : V} (h : vs[i]? = some v) : (L2.start N vs)[i]? = some (some v) := by
  unfold L2.start
  have hi := (List.getElem?_eq_some_iff.mp h).1
  rw [List.getElem?_append_left (by rw [List.length_map]; exact hi), List.getElem?_map, h]
  rfl
theorem start_rel {K : PySem.W.Frag} {A : Addr → Prop} {H : Hp} {q : Option Addr} {N : List Str} {vs : List V} {ds : List D} {O : List Nat} {np : Nat} (t : Trk A H) (h : ArgR K A H q vs ds) (hn : ds.length = np) (hN : np ≤ N.length)
    (hO : ∀ i, i < np → i ∈ O → i = 0 ∧ q.isSome = true) (hq : q.isSome = true → 0 ∈ O) : RelS K ⟨A, H, q, none⟩ O A (fun i => if i = 0 then q else none) (L2.start N vs) H (pad N.length ds) := by
  have hl : vs.length = ds.length := by
    cases q with
    | none => exact RpA.length h
    | some p =>
      obtain ⟨vs', d, ds', rfl, rfl, _, _, r⟩ := h
      rw [List.length_cons, List.length_cons, r.length]
  have lt : ∀ {i : Nat} {d : D}, (pad N.length ds)[i]? = some (some d) → i < np := fun {i d} e => by
    have := (List.getElem?_eq_some_iff.mp (pad_get e)).1
    omega
  have at0 : ∀ {i : Nat} {p : Addr}, (if i = 0 then q else none) = some p → i = 0 ∧ q = some p := fun {i p} e => by
    by_cases h : i = 0
    · rw [if_pos h] at e; exact ⟨h, e⟩
    · rw [if_neg h] at e; cases e
  refine ⟨fun _ z => z, t, t, fun _ _ e _ => e, ?_, fun i d e n => ?_, fun i d e m => ?_, fun i p m e => ?_, fun i p m e => .inl (at0 e), fun i j p m m' e e' => (at0 e).1.trans (at0 e').1.symm, fun i a c e => ?_, fun p e => ?_⟩
  all_goals try (cases (show (none : Option (Nat × Addr × Str)) = some (_, _, _) from e); done)
  · unfold L2.start pad
    rw [List.length_append, List.length_append, List.length_map, List.length_map, List.length_replicate, List.length_replicate, hl]
  · have e1 := pad_get e
    cases q with
    | none =>
      obtain ⟨v, h1, h2⟩ := RpA.get h e1
      exact ⟨v, start_get h1, h2⟩
    | some p =>
      obtain ⟨vs', d0, ds', rfl, rfl, _, _, r⟩ := h
      cases i with
      | zero => exact absurd (hq rfl) n
      | succ i =>
        obtain ⟨v, h1, h2⟩ := r.get (i := i) (by simpa using e1)
        exact ⟨v, start_get (by simpa using h1), h2⟩
  · obtain ⟨rfl, z⟩ := hO i (lt e) m
    have e1 := pad_get e
    cases q with
    | none => cases z
    | some p =>
      obtain ⟨vs', d0, ds', rfl, rfl, ap, ow, r⟩ := h
      cases (show some d0 = some d from e1)
      exact ⟨p, rfl, start_get rfl, ow⟩
  · obtain ⟨_, z⟩ := at0 e
    cases q with
    | none => cases z
    | some p' =>
      cases z
      obtain ⟨vs', d0, ds', rfl, rfl, ap, ow, r⟩ := h
      exact ap
  · have e' : q = some p := e
    subst e'
    obtain ⟨vs', d0, ds', rfl, rfl, ap, ow, r⟩ := h
    refine ⟨hq rfl, ap, rfl, d0, ?_⟩
    unfold pad
    rfl
theorem RelS.ki {K : PySem.W.Frag} {G : Gd} {O : List Nat} {A : Addr → Prop} {ms : Nat → Option Addr} {σ : L2.St} {H : Hp} {ρ : En} (R : RelS K G O A ms σ H ρ) : KI G.io G.H0 H := R.keep
theorem RelS.ioOwn {K : PySem.W.Frag} {G : Gd} {O : List Nat} {A : Addr → Prop} {ms : Nat → Option Addr} {σ : L2.St} {H : Hp} {ρ : En} (R : RelS K G O A ms σ H ρ) {p : Addr} (e : G.io = some p) : Own K A H p (io0 ρ) := by
  obtain ⟨h1, h2, h3, d, h4⟩ := R.io p e
  obtain ⟨p', e0, _, w⟩ := R.ow 0 d h4 h1
  rw [h3] at e0
  cases e0
  unfold io0
  rw [h4]
  exact w
theorem Own.less {K : PySem.W.Frag} {A A' : Addr → Prop} {H : Hp} {p : Addr} {d : D} (h : Own K A H p d) (s : ∀ a, A' a → A a) : Own K A' H p d := h.tr (fun a o e n => ⟨e, fun z => n (s a z)⟩) fun _ z => z
theorem Rp.less {K : PySem.W.Frag} {A A' : Addr → Prop} {H : Hp} {v : V} {d : D} (h : Rp K A H v d) (s : ∀ a, A' a → A a) : Rp K A' H v d := h.tr fun a o e n => ⟨e, fun z => n (s a z)⟩
section
variable {P : Program} {w : World} {K : PySem.W.Frag} {mg : Str → Option Value} {base : Heap} {x qual : Str} {params : Arguments} {body : List Stmt} {scope : Scope} {dvs : List V} {kws : List (Str × V)} {f : Addr} {fd : FuncData}
theorem fnG_of {N ps : List Str} {k : Nat} {io fr : Bool} {ds : List Value} {dw : List V} {dd : List D} {O O' : List Nat} {m : MS} (F : FunD K x qual params body scope dvs kws f fd) (S : FnScope N ps scope) (hb : Binds K fd ps ds) (hd : Vals dw ds)
    (rd : ∀ A H, RpA K A H dw dd) (hN : ps.length ≤ N.length) (hO : ∀ i, i < ps.length → i ∈ O → i = 0 ∧ io = true) (hq : io = true → 0 ∈ O)
    (hbody : ∀ (cdv : Value) (A : Around) (outer : List Env) (s : Shared) (H : Hp) (E : XK) (A0 : Addr → Prop) (q : Option Addr), q.isSome = io → Room k (A.deeper (envOfC qual scope s.heap.objs.size f cdv)) → A.guards = some [] →
      DSs (cxOf (L2N.CX P w) P w K mg base N qual scope f cdv A outer s H E) ⟨A0, H, q, none⟩ (fun _ => True) [] O O' (fun cls d _ H' => E cls d H') fr body m) :
    FnG P w K mg base (k + 1) f io fr (runM N.length ps.length dd fr m) := by
  refine ⟨fun A outer s H us vs Q E hr hg e0 rv hsp => ?_, F.kp⟩
  obtain ⟨oc, od, dV, kV, doc, pm, an, cdv, ct, osl, rfl, lk, hcd, _, _⟩ := F.ex
  obtain ⟨A0, q, args, trk, hio, ar, post⟩ := hsp
  have KXh : K.In s.heap := e0.mod.kin.keeps fun b o e => (e0.bs b o e).1
  have limit : s.heap.NoLimit := e0.mod.nolimit.keeps fun b o e => (e0.bs b o e).1
  have ar2 : ArgR K A0 H q (vs ++ dw) (args ++ dd) := by
    cases q with
    | none => exact RpA.app ar (rd _ _)
    | some p =>
      obtain ⟨vs', d0, ds', rfl, rfl, ap, ow, r⟩ := ar
      exact ⟨_, _, _, rfl, rfl, ap, ow, r.app (rd _ _)⟩
  have alen : (vs ++ dw).length = (args ++ dd).length := by
    cases q with
    | none => exact RpA.length ar2
    | some p =>
      obtain ⟨vs', d0, ds', e1, e2, _, _, r⟩ := ar2
      rw [e1, e2, List.length_cons, List.length_cons, r.length]
  unfold runM at post
  by_cases hnp : (args ++ dd).length = ps.length
  · rw [if_pos hnp] at post
    have rv2 : Vals (vs ++ dw) (us ++ ds) := rv.append hd
    have hul : (us ++ ds).length = ps.length := by rw [← rv2.length, alen]; exact hnp
    have hvl : (vs ++ dw).length = ps.length := by rw [alen]; exact hnp
    have kinds : ∀ y ∈ ps.zip (us ++ ds), scope.names.lookup y.1 = some .local ∨ (scope.names.lookup y.1 = some .cell ∧ ((cellsFrom (s.heap.objs.size + 1) scope.names []).lookup y.1).isSome = true) := fun ⟨n, v⟩ hy => by
      rcases S.par n (List.of_mem_zip hy).1 with z | z
      · exact .inl z
      · exact .inr ⟨z, PySem.W.cellsFrom_some _ _ _ (.inl z)⟩
    refine codeAny_call_function hr.depth (KXh _ _ lk) rfl S.co S.gen rfl (PySem.W.codeRec_of KXh hcd) (hb s us KXh hul _ _ _ _ ?_)
    refine wpAny_newFunctionEnv_cells S.kind kinds fun env henv s1 made => ?_
    subst henv
    refine ⟨limit.keeps made.toInCall.keep, codeAny_func ?_⟩
    have I : Inv (cxOf (L2N.CX P w) P w K mg base N qual scope f cdv A outer s H E) [] (L2.start N (vs ++ dw)) H s1 := inv_start S hr.hd e0 hvl rv2 made
    have R := start_rel (N := N) (O := O) (np := ps.length) trk ar2 hnp hN (fun i h1 h2 => by rw [hio]; exact hO i h1 h2) (fun z => hq (by rw [← hio]; exact z))
    have body := hbody cdv A outer s H E A0 q hio (hr.deeper _) hg
    have goal : tS K ⟨A0, H, q, none⟩ (fun _ => True) [] O O' (fun cls d _ H' => E cls d H') fr m { nx := fun _ H' => Q .non H', rt := Q } (L2.start N (vs ++ dw)) H := by
      refine ⟨A0, _, _, R, ?_⟩
      cases hm : m (pad N.length (args ++ dd)) with
      | bad => rw [hm] at post; exact post.elim
      | bk ρ => rw [hm] at post; exact post.elim
      | ct ρ => rw [hm] at post; exact post.elim
      | rt d ρ =>
        rw [hm] at post
        exact fun v H' rg => post v H' rg.1 rg.2
      | nx ρ =>
        rw [hm] at post
        cases fr with
        | true => exact post.elim
        | false => exact fun σ' H' A' ms' R' _ => post .non H' R'.ki ⟨.non, fun p e => (R'.ioOwn e).less R'.sub⟩
      | ex y ρ =>
        rw [hm] at post
        refine fun dx σ' H' A' ms' O'' _ R' _ xr => post dx H' R'.ki (fun p e => (R'.ioOwn e).less R'.sub) ?_
        rcases xr with z | ⟨ne, d, fs, e1, e2, r⟩
        · exact .inl z
        · exact .inr ⟨ne, d, fs, e1, e2, r.tr fun a o e n => ⟨e, fun z => n (R'.sub a z)⟩⟩
    refine wpAny_mono (body.run [] s1 (L2.start N (vs ++ dw)) H _ I goal) (fun fl s' hs => ?_) fun e s' hs => hs
    have done : ∀ {σ' : L2.St} {H' : Hp} {v : V} {u : Value}, Inv (cxOf (L2N.CX P w) P w K mg base N qual scope f cdv A outer s H E) [] σ' H' s' → RelV v u → Q v H' → CE outer P w H s Q u s' :=
      fun {σ' H' v u} J rv q => ⟨v, H', J.os, J.bare, J.base, J.hok, rv, q⟩
    cases fl with
    | ret u =>
      obtain ⟨v, σ', H', J, rv, qq⟩ := hs
      exact done J rv qq
    | next =>
      obtain ⟨σ', H', J, qq⟩ := hs
      exact done (v := V.non) (u := Value.none) J rfl qq
    | brk =>
      obtain ⟨_, _, _, qq⟩ := hs
      exact qq.elim
    | cont =>
      obtain ⟨_, _, _, qq⟩ := hs
      exact qq.elim
  · rw [if_neg hnp] at post
    exact post.elim
end
section
variable {X : Cx} {G : Gd} {O : List Nat} {W : WX} {k : Nat} {f : Addr} {io fr : Bool} {F : FN} {x : Str} {p pos : Pos} {e : Expr} {es : List Expr} {mr : MA}
theorem run_fnG {pins : List (Addr × Obj)} {σ : L2.St} {H : Hp} {s : Shared} {Q : VK} {us : List Value} {vs : List V} (C : FnG X.prog X.w X.K X.mg X.base k f io fr F) (hr : Room k X.A) (hg : X.A.guards = some []) (tk : L2N.Takes X W)
    (I : Inv X pins σ H s) (r : Vals vs us) (h : spD X.K io fr F vs H Q (WE W σ)) : wpAny (model X.prog X.w) X.A (call (.ref f) us) (EP X pins σ Q) X.xe s := by
  refine wpAny_call (codeAny_mono (C.run X.A X.stack s H us vs Q (WE W σ) hr hg I.env0 r h) fun res s' hres => ?_)
  cases res with
  | error e => exact L2N.passAt tk σ pins H s e s' I hres
  | ok fl =>
    cases fl with
    | ret u => exact I.after hres
    | next => exact hres.elim
    | brk => exact hres.elim
    | cont => exact hres.elim
def tCallG (K : PySem.W.Frag) (io fr : Bool) (F : FN) (W : WX) (t : TA) : TE := fun σ H Q => t σ H fun vs H1 => spD K io fr F vs H1 Q (WE W σ)
theorem pe_callG {t : TA} (C : FnG X.prog X.w X.K X.mg X.base k f io fr F) (hr : Room k X.A) (hg : X.A.guards = some []) (tk : L2N.Takes X W) (hn : Gl X x) (hm : X.mg x = some (.ref f)) (ha : PA X (e :: es) t)
    (hdb : (x == ("__debug__" : Str)) = false := by decide) (he : starEach (e :: es) X.env = (false, eval e X.env) :: starEach es X.env := by rfl) (hpl : (backTo pos (starEach es X.env)).any (·.1) = false := by rfl) :
    PE X (.Call (.Name x p) (e :: es) [] pos) (tCallG X.K io fr F W t) := by
  refine ⟨fun pins s σ H Q I h => wpAny_Call_Name_kw (ld_glob I hn hm ?_ hdb)⟩
  exact PySem.W.callWith_K (h₀ := X.base) I.ok.mod.kin C.kp (thn (ha.run pos pins s σ H _ I h) fun us s1 ⟨vs, H1, I1, r, q⟩ => ⟨I1.kIn, run_fnG C hr hg tk I1 r q⟩) he hpl
def mCall (F : FN) (args : MA) : ME := fun ρ => (args ρ).bind fun ds ρ1 => match F ds with
  | .rt d _ => .ok d ρ1
  | .ex x _ => .ex x ρ1
  | .bad => .bad
theorem call_goE {K : PySem.W.Frag} {σ : L2.St} {H : Hp} {Q : VK} (h : tE K G O W (mCall F mr) σ H Q) : tCallG K false false F W (tA K G O W mr) σ H Q := by
  obtain ⟨A, ms, ρ, R, q⟩ := h
  refine ⟨A, ms, ρ, R, q.bind.mono ?_⟩
  rintro vs H1 ⟨ds, ρ1, R1, k1, r1, q1⟩
  refine ⟨A, none, ds, R1.trk, rfl, r1, ?_⟩
  cases hF : F ds with
  | bad => rw [hF] at q1; exact q1.elim
  | rt d o =>
    rw [hF] at q1
    intro v H' ki ⟨rr, _⟩
    have s : Same H1 H' := fun a o e => ki a o e (by simp)
    exact q1 v H' (R1.same s) (Kp.same s) rr
  | ex y o =>
    rw [hF] at q1
    intro dx H' ki _ xr
    have s : Same H1 H' := fun a o e => ki a o e (by simp)
    exact q1 dx H' (R1.same s) (Kp.same s) xr
theorem call_goF {K : PySem.W.Frag} {σ : L2.St} {H : Hp} {Q : VK} (h : tF K G O W (mCall F mr) σ H Q) : tCallG K false true F W (tA K G O W mr) σ H Q := by
  obtain ⟨A, ms, ρ, R, q⟩ := h
  refine ⟨A, ms, ρ, R, ?_⟩
  unfold mCall at q
  cases hm : mr ρ with
  | bad => rw [hm] at q; exact q.elim
  | ex x ρ1 => rw [hm] at q; exact q
  | ok ds ρ1 =>
    rw [hm] at q
    intro vs H1 R1 k1 r1
    refine ⟨A, none, ds, R1.trk, rfl, r1, ?_⟩
    have q1 : FPost K G O W A ms σ H Q (match F ds with
      | .rt d _ => .ok d ρ1
      | .ex x _ => .ex x ρ1
      | .bad => .bad) := q
    cases hF : F ds with
    | bad => rw [hF] at q1; exact q1.elim
    | rt d o =>
      rw [hF] at q1
      intro v H' ki rr
      have s : Same H1 H' := fun a o e => ki a o e (by simp)
      obtain ⟨r, rfl, hr, ow, _⟩ := (show ∃ r, v = .ref r ∧ H1 r = none ∧ Own K (fun a => A a ∨ a = r) H' r d ∧ _ from rr)
      obtain ⟨o', ho'⟩ := ow.there
      refine q1 r H' (R1.same s) (R1.grow hr s ho') (k1.trans (Kp.same s)) ?_ ow
      exact Kp.none R1 k1 hr
    | ex y o =>
      rw [hF] at q1
      intro dx H' ki _ xr
      have s : Same H1 H' := fun a o e => ki a o e (by simp)
      exact q1 dx H' (R1.same s) (k1.trans (Kp.same s)) xr
theorem de_call (C : FnG X.prog X.w X.K X.mg X.base k f false false F) (hr : Room k X.A) (hg : X.A.guards = some []) (tk : L2N.Takes X W) (hn : Gl X x) (hm : X.mg x = some (.ref f)) (ha : DA X G O W (e :: es) mr)
    (hdb : (x == ("__debug__" : Str)) = false := by decide) (he : starEach (e :: es) X.env = (false, eval e X.env) :: starEach es X.env := by rfl) (hpl : (backTo pos (starEach es X.env)).any (·.1) = false := by rfl) :
    DE X G O W (.Call (.Name x p) (e :: es) [] pos) (mCall F mr) := pe_imp (pe_callG C hr hg tk hn hm ha hdb he hpl) fun _ _ _ h => call_goE h
theorem df_call (C : FnG X.prog X.w X.K X.mg X.base k f false true F) (hr : Room k X.A) (hg : X.A.guards = some []) (tk : L2N.Takes X W) (hn : Gl X x) (hm : X.mg x = some (.ref f)) (ha : DA X G O W (e :: es) mr)
    (hdb : (x == ("__debug__" : Str)) = false := by decide) (he : starEach (e :: es) X.env = (false, eval e X.env) :: starEach es X.env := by rfl) (hpl : (backTo pos (starEach es X.env)).any (·.1) = false := by rfl) :
    DF X G O W (.Call (.Name x p) (e :: es) [] pos) (mCall F mr) := pe_imp (pe_callG C hr hg tk hn hm ha hdb he hpl) fun _ _ _ h => call_goF h
theorem tNil_go {K : PySem.W.Frag} {σ : L2.St} {H : Hp} {Q : List V → Hp → Prop} (h : tA K G O W mNil σ H Q) : tNil σ H Q := by
  obtain ⟨A, ms, ρ, R, q⟩ := h
  exact q [] H R Kp.refl .nil
end
end DL
namespace DL
open L2 PySem PySem.Spec PyProof.Rows
theorem set_get_ne {ρ : En} {i j : Nat} {o : Option D} (h : i ≠ j) : (ρ.set j o)[i]? = ρ[i]? := List.getElem?_set_ne (Ne.symm h)
theorem RelS.setOwn {K : PySem.W.Frag} {G : Gd} {O : List Nat} {A : Addr → Prop} {ms : Nat → Option Addr} {σ : L2.St} {H H' : Hp} {ρ : En} {j : Nat} {p : Addr} {c d : D} (R : RelS K G O A ms σ H ρ) (hj : j ∈ O) (hc : ρ[j]? = some (some c)) (hp : ms j = some p)
    (k : ∀ a o, H a = some o → a ≠ p → H' a = some o) (ow : Own K A H' p d) : RelS K G O A ms σ H' (ρ.set j (some d)) := by
  have hlt : j < ρ.length := (List.getElem?_eq_some_iff.mp hc).1
  have aj : A p := R.inA j p hj hp
  have t : Tr A A H H' := fun a o e n => ⟨k a o e fun z => n (z ▸ aj), n⟩
  exact {
    sub := R.sub
    trk0 := R.trk0
    trk := fun a z => by
      by_cases h : a = p
      · rw [h]; exact ow.there
      · obtain ⟨o, e⟩ := R.trk a z
        exact ⟨o, k a o e h⟩
    keep := fun a o e n => by
      refine k a o (R.keep a o e n) fun z => ?_
      rcases R.ok j p hj hp with ⟨_, w⟩ | ⟨_, w⟩
      · exact n (z ▸ w)
      · rw [z, w] at e; cases e
    len := by rw [List.length_set]; exact R.len
    fz := fun i z e n => by
      have h : i ≠ j := fun q => n (q ▸ hj)
      rw [set_get_ne h] at e
      obtain ⟨v, e1, q⟩ := R.fz i z e n
      exact ⟨v, e1, q.tr t⟩
    ow := fun i z e m => by
      by_cases h : i = j
      · subst h
        rw [List.getElem?_set_self hlt] at e
        cases e
        obtain ⟨p', e0, e1, _⟩ := R.ow i c hc hj
        rw [hp] at e0
        cases e0
        exact ⟨p, hp, e1, ow⟩
      · rw [set_get_ne h] at e
        obtain ⟨q, e0, e1, w⟩ := R.ow i z e m
        exact ⟨q, e0, e1, w.tr t fun o u => k _ _ u fun z => h (R.dist i j p m hj (z ▸ e0) hp)⟩
    inA := R.inA
    ok := R.ok
    dist := R.dist
    px := R.px
    io := fun q e => by
      obtain ⟨h1, h2, h3, z, h4⟩ := R.io q e
      by_cases h : j = 0
      · subst h
        exact ⟨h1, h2, h3, d, List.getElem?_set_self hlt⟩
      · exact ⟨h1, h2, h3, z, by rw [set_get_ne (Ne.symm h)]; exact h4⟩ }
theorem Kp.own {O : List Nat} {ms : Nat → Option Addr} {j : Nat} {p : Addr} {H H' : Hp} (m : j ∈ O) (e : ms j = some p) (k : ∀ b o, H b = some o → b ≠ p → H' b = some o) : Kp O ms H H' := fun b o h n => k b o h fun z => n j m (z ▸ e)
section
variable {X : Cx} {G : Gd} {O : List Nat} {W : WX} {k : Nat} {f : Addr} {fr : Bool} {F : FN} {x y : Str} {p py pos : Pos} {e : Expr} {es : List Expr} {mr : MA}
def getO (ρ : En) (j : Nat) : Option D := match ρ[j]? with
  | some (some d) => some d
  | _ => none
theorem getO_some {ρ : En} {j : Nat} {d : D} (h : getO ρ j = some d) : ρ[j]? = some (some d) := by
  unfold getO at h
  split at h
  · rename_i z hz
    cases h
    exact hz
  · cases h
def mCallIo (F : FN) (j : Nat) (args : MA) : ME := fun ρ => match getO ρ j with
  | none => .bad
  | some _ => (args ρ).bind fun ds ρ1 => match getO ρ1 j with
    | none => .bad
    | some c => match F (c :: ds) with
      | .rt d o => .ok d (ρ1.set j (some o))
      | .ex x o => .ex x (ρ1.set j (some o))
      | .bad => .bad
theorem callio_go {K : PySem.W.Frag} {j : Nat} (hj : j ∈ O) {σ : L2.St} {H : Hp} {Q : VK} (h : tE K G O W (mCallIo F j mr) σ H Q) : tCallG K true false F W (tCons (tVar j) (tA K G O W mr)) σ H Q := by
  obtain ⟨A, ms, ρ, R, q⟩ := h
  unfold mCallIo at q
  cases hc : getO ρ j with
  | none => rw [hc] at q; exact q.elim
  | some c =>
    rw [hc] at q
    have q' : RPost K G O W A ms σ H (Rp K A) Q ((mr ρ).bind fun ds ρ1 => match getO ρ1 j with
      | none => .bad
      | some c => match F (c :: ds) with
        | .rt d o => .ok d (ρ1.set j (some o))
        | .ex x o => .ex x (ρ1.set j (some o))
        | .bad => .bad) := q
    obtain ⟨p, hp, hv, _⟩ := R.ow j c (getO_some hc) hj
    refine ⟨.ref p, hv, A, ms, ρ, R, q'.bind.mono ?_⟩
    rintro vs H1 ⟨ds, ρ1, R1, k1, r1, q1⟩
    cases hc1 : getO ρ1 j with
    | none => rw [hc1] at q1; exact q1.elim
    | some c1 =>
      rw [hc1] at q1
      have b1 := getO_some hc1
      obtain ⟨p', hp', _, oj⟩ := R1.ow j c1 b1 hj
      rw [hp] at hp'
      cases hp'
      refine ⟨A, some p, c1 :: ds, R1.trk, rfl, ⟨vs, c1, ds, rfl, rfl, R.inA j p hj hp, oj, r1⟩, ?_⟩
      have q2 : RPost K G O W A ms σ H1 (Rp K A) Q (match F (c1 :: ds) with
        | .rt d o => .ok d (ρ1.set j (some o))
        | .ex x o => .ex x (ρ1.set j (some o))
        | .bad => .bad) := q1
      cases hF : F (c1 :: ds) with
      | bad => rw [hF] at q2; exact q2.elim
      | rt d o =>
        rw [hF] at q2
        intro v H' ki ⟨rr, oo⟩
        have kk : ∀ a u, H1 a = some u → a ≠ p → H' a = some u := fun a u e n => ki a u e fun z => n (Option.some.inj z).symm
        exact q2 v H' (R1.setOwn hj b1 hp kk (oo _ rfl)) (Kp.own hj hp kk) rr
      | ex z o =>
        rw [hF] at q2
        intro dx H' ki oo xr
        have kk : ∀ a u, H1 a = some u → a ≠ p → H' a = some u := fun a u e n => ki a u e fun z => n (Option.some.inj z).symm
        exact q2 dx H' (R1.setOwn hj b1 hp kk (oo _ rfl)) (Kp.own hj hp kk) xr
theorem de_callio {j : Nat} (C : FnG X.prog X.w X.K X.mg X.base k f true false F) (hr : Room k X.A) (hg : X.A.guards = some []) (tk : L2N.Takes X W) (hn : Gl X x) (hm : X.mg x = some (.ref f)) (hj : O.contains j = true) (hy : PE X (.Name y py) (tVar j)) (ha : DA X G O W es mr)
    (hs : starEach (.Name y py :: es) X.env = (false, eval (.Name y py) X.env) :: starEach es X.env := by rfl)
    (hdb : (x == ("__debug__" : Str)) = false := by decide) (hpl : (backTo pos (starEach es X.env)).any (·.1) = false := by rfl) :
    DE X G O W (.Call (.Name x p) (.Name y py :: es) [] pos) (mCallIo F j mr) :=
  pe_imp (pe_callG C hr hg tk hn hm (pa_cons hy ha hs) hdb hs hpl) fun _ _ _ h => callio_go (List.contains_iff_mem.mp hj) h
def rOM (K : PySem.W.Frag) (g : List D → List D → Option (D × List D)) : V → List V → Hp → VK → Prop := fun x vs H Q => ∃ (A : Addr → Prop) (p : Addr) (cs ds : List D) (ws : List V) (z : D) (cs' : List D), x = .ref p ∧ A p ∧ Trk A H ∧ H p = some (.lst ws) ∧ RpA K A H ws cs ∧ RpA K A H vs ds ∧
  g cs ds = some (z, cs') ∧ ∀ v H', (∀ a o, H a = some o → a ≠ p → H' a = some o) → (∃ ws', H' p = some (.lst ws') ∧ RpA K A H' ws' cs') → Rp K A H' v z → Q v H'
def mOM (g : List D → List D → Option (D × List D)) (j : Nat) (args : MA) : ME := fun ρ => match getO ρ j with
  | some (.lst _) => (args ρ).bind fun ds ρ1 => match getO ρ1 j with
    | some (.lst cs) => match g cs ds with
      | some (z, cs') => .ok z (ρ1.set j (some (.lst cs')))
      | none => .bad
    | _ => .bad
  | _ => .bad
theorem own_lst {K : PySem.W.Frag} {A : Addr → Prop} {H : Hp} {p : Addr} {cs : List D} (h : Own K A H p (.lst cs)) : ∃ ws, H p = some (.lst ws) ∧ RpA K A H ws cs := by
  cases h with
  | lst e q => exact ⟨_, e, q⟩
theorem om_go {g : List D → List D → Option (D × List D)} {r : V → List V → Hp → VK → Prop} {K : PySem.W.Frag} (hr : ∀ x vs H Q, rOM K g x vs H Q → r x vs H Q) {j : Nat} (hj : j ∈ O) {σ : L2.St} {H : Hp} {Q : VK} (h : tE K G O W (mOM g j mr) σ H Q) :
    ∃ v, σ[j]? = some (some v) ∧ tyV K "list" v H ∧ tA K G O W mr σ H fun xs H2 => r v xs H2 Q := by
  obtain ⟨A, ms, ρ, R, q⟩ := h
  unfold mOM at q
  split at q
  · rename_i c hc
    obtain ⟨p, hp, e1, oj⟩ := R.ow j _ (getO_some hc) hj
    obtain ⟨ws, hw, _⟩ := own_lst oj
    refine ⟨_, e1, .inl ⟨rfl, _, SqL.of hw⟩, A, ms, ρ, R, RPost.mono (RPost.bind q) ?_⟩
    rintro vs H1 ⟨ds, ρ1, R1, k1, r1, q1⟩
    split at q1
    · rename_i cs hc1
      have b1 := getO_some hc1
      obtain ⟨p', hp', _, oj1⟩ := R1.ow j _ b1 hj
      rw [hp] at hp'
      cases hp'
      obtain ⟨ws1, hw1, rw1⟩ := own_lst oj1
      split at q1
      · rename_i z cs' hg
        refine hr _ _ _ _ ⟨A, p, cs, ds, ws1, z, cs', rfl, R.inA j p hj hp, R1.trk, hw1, rw1, r1, hg, fun v H' kk ⟨ws', hw', rw'⟩ rv => ?_⟩
        exact q1 v H' (R1.setOwn hj b1 hp kk (.lst hw' rw')) (Kp.own hj hp kk) rv
      · exact q1.elim
    · exact q1.elim
  · exact q.elim
theorem de_om {j : Nat} {name : Str} {id : String} {apos cpos : Pos} {g : List D → List D → Option (D × List D)} (hm : MtR X id (rOM X.K g)) (slot : Slot "list" name id) (hty : typeOf (.builtin id) = pure (.type "method_descriptor")) (hj : O.contains j = true) (hy : PE X (.Name y py) (tVar j)) (ha : DA X G O W (e :: es) mr)
    (hbase : attributeBase (.Name y py) name X.env (eval (.Name y py) X.env) = eval (.Name y py) X.env := by rfl)
    (hfew : ((backTo cpos (starEach (e :: es) X.env)).all (fun x => !x.1) && (backToKw cpos (keywordEach [] X.env)).all (fun x => x.1.isSome)
      && decide ((e :: es).length + ([] : List Keyword).length + (if ([] : List Keyword).isEmpty then 0 else 1) < 30)) = true := by rfl)
    (hline : (apos.endLine == cpos.line) = true := by rfl) (hs : starEach (e :: es) X.env = (false, eval e X.env) :: starEach es X.env := by rfl) (hplain : (backTo cpos (starEach es X.env)).any (·.1) = false := by rfl) :
    DE X G O W (.Call (.Attribute (.Name y py) name apos) (e :: es) [] cpos) (mOM g j mr) :=
  pe_imp (pe_bm PySem.F.plainAttrs_list slot hty hm hy ha hbase hfew hline hs hplain) fun _ _ _ h => om_go (fun _ _ _ _ z => z) (List.contains_iff_mem.mp hj) h
theorem de_om0 {j : Nat} {name : Str} {id : String} {apos cpos : Pos} {g : List D → List D → Option (D × List D)} (hm : MtR X id (rOM X.K g)) (slot : Slot "list" name id) (hty : typeOf (.builtin id) = pure (.type "method_descriptor")) (hj : O.contains j = true) (hy : PE X (.Name y py) (tVar j))
    (hbase : attributeBase (.Name y py) name X.env (eval (.Name y py) X.env) = eval (.Name y py) X.env := by rfl) (hline : (apos.endLine == cpos.line) = true := by rfl) :
    DE X G O W (.Call (.Attribute (.Name y py) name apos) [] [] cpos) (mOM g j mNil) := by
  refine pe_imp (pe_bm0 PySem.F.plainAttrs_list slot hty hm hy hbase hline) fun σ H Q h => ?_
  obtain ⟨v, h1, h2, h3⟩ := om_go (fun _ _ _ _ z => z) (List.contains_iff_mem.mp hj) h
  exact ⟨v, h1, h2, tNil_go h3⟩
def gAppend (cs ds : List D) : Option (D × List D) := match ds with
  | [d] => if cs.length < sizeLine then some (.non, cs ++ [d]) else none
  | _ => none
def gExtend (cs ds : List D) : Option (D × List D) := match ds with
  | [.lst es] => if cs.length + es.length ≤ sizeLine then some (.non, cs ++ es) else none
  | _ => none
def gPop (cs ds : List D) : Option (D × List D) := match ds with
  | [] => (cs[cs.length - 1]?).map fun z => (z, cs.dropLast)
  | [.int i] => if -(2 ^ 63) ≤ i ∧ i < 2 ^ 63 then (seqIndex? i cs.length).bind fun k => (cs[k]?).map fun z => (z, cs.eraseIdx k) else none
  | _ => none
def gReverse (cs ds : List D) : Option (D × List D) := match ds with
  | [] => some (.non, cs.reverse)
  | _ => none
theorem upd_out {H : Hp} {p : Addr} {o : HO} : ∀ a u, H a = some u → a ≠ p → (upd H p o) a = some u := fun a u e n => by rw [upd_ne n]; exact e
theorem RpA.upd {K : PySem.W.Frag} {A : Addr → Prop} {H : Hp} {p : Addr} {o : HO} {vs : List V} {ds : List D} (h : RpA K A H vs ds) (a : A p) : RpA K A (L2.upd H p o) vs ds := h.tr fun b o e n => ⟨upd_out b o e fun z => n (z ▸ a), n⟩
theorem Rp.upd {K : PySem.W.Frag} {A : Addr → Prop} {H : Hp} {p : Addr} {o : HO} {v : V} {d : D} (h : Rp K A H v d) (a : A p) : Rp K A (L2.upd H p o) v d := h.tr fun b o e n => ⟨upd_out b o e fun z => n (z ▸ a), n⟩
theorem om_append : MtR X "list.append" (rOM X.K gAppend) := by
  rintro pins s σ H x vs v us Q I rx rv ⟨A, p, cs, ds, ws, z, cs', rfl, ap, t, hp, rc, rd, hg, q⟩
  unfold gAppend at hg
  split at hg
  · rename_i d
    split at hg
    · rename_i hz
      cases hg
      cases rd with
      | cons r1 r2 =>
        cases r2
        refine mt_append pins s σ H _ _ v us Q I rx rv ⟨p, ws, _, rfl, rfl, hp, by rw [rc.length]; exact hz, ?_⟩
        exact q _ _ upd_out ⟨_, upd_same, (rc.upd ap).app (.cons (r1.upd ap) .nil)⟩ .non
    · cases hg
  · cases hg
theorem om_extend : MtR X "list.extend" (rOM X.K gExtend) := by
  rintro pins s σ H x vs v us Q I rx rv ⟨A, p, cs, ds, ws, z, cs', rfl, ap, t, hp, rc, rd, hg, q⟩
  unfold gExtend at hg
  split at hg
  · split at hg
    · rename_i hz
      cases hg
      cases rd with
      | cons r1 r2 =>
        cases r2
        cases r1 with
        | lst hb nb rb =>
          refine mt_extend pins s σ H _ _ v us Q I rx rv ⟨p, _, ws, _, rfl, rfl, hp, hb, by rw [rc.length, rb.length]; exact hz, ?_⟩
          exact q _ _ upd_out ⟨_, upd_same, (rc.upd ap).app (rb.upd ap)⟩ .non
    · cases hg
  · cases hg
theorem RpA.eraseIdx {K : PySem.W.Frag} {A : Addr → Prop} {H : Hp} : ∀ {vs : List V} {ds : List D} (n : Nat), RpA K A H vs ds → RpA K A H (vs.eraseIdx n) (ds.eraseIdx n)
  | _, _, _, .nil => .nil
  | _, _, 0, .cons _ t => t
  | _, _, n + 1, .cons h t => .cons h (RpA.eraseIdx n t)
theorem om_pop : MtR X "list.pop" (rOM X.K gPop) := by
  rintro pins s σ H x vs v us Q I rx rv ⟨A, p, cs, ds, ws, z, cs', rfl, ap, t, hp, rc, rd, hg, q⟩
  unfold gPop at hg
  split at hg
  · cases rd
    obtain ⟨y, hy, e⟩ := map_some hg
    cases e
    have hl := rc.length
    obtain ⟨w, hw, rw⟩ := rc.get hy
    refine mt_pop pins s σ H _ _ v us Q I rx rv ⟨p, ws, w, rfl, rfl, hp, by rw [hl]; exact hw, ?_⟩
    exact q _ _ upd_out ⟨_, upd_same, rc.dropLast.upd ap⟩ (rw.upd ap)
  · rename_i i
    split at hg
    · rename_i hz
      cases hk : seqIndex? i cs.length with
      | none => rw [hk] at hg; cases hg
      | some k =>
        rw [hk] at hg
        obtain ⟨y, hy, e⟩ := map_some (show (cs[k]?).map (fun z => (z, cs.eraseIdx k)) = some (z, cs') from hg)
        cases e
        cases rd with
        | cons r1 r2 =>
          cases r2
          cases r1
          obtain ⟨w, hw, rw⟩ := rc.get hy
          refine mt_popAt pins s σ H _ _ v us Q I rx rv ⟨p, ws, i, k, w, rfl, rfl, hp, hz.1, hz.2, by rw [rc.length]; exact hk, hw, ?_⟩
          exact q _ _ upd_out ⟨_, upd_same, (rc.eraseIdx k).upd ap⟩ (rw.upd ap)
    · cases hg
  · cases hg
theorem om_reverse : MtR X "list.reverse" (rOM X.K gReverse) := by
  rintro pins s σ H x vs v us Q I rx rv ⟨A, p, cs, ds, ws, z, cs', rfl, ap, t, hp, rc, rd, hg, q⟩
  unfold gReverse at hg
  split at hg
  · cases hg
    cases rd
    refine mt_reverse pins s σ H _ _ v us Q I rx rv ⟨p, ws, rfl, rfl, hp, ?_⟩
    exact q _ _ upd_out ⟨_, upd_same, rc.rev.upd ap⟩ .non
  · cases hg
end
abbrev MG := D → En → R Unit
def SlEq (vs : List Nat) (σ σ' : L2.St) : Prop := σ'.length = σ.length ∧ ∀ i, i ∉ vs → σ'[i]? = σ[i]?
theorem SlEq.refl {vs : List Nat} {σ : L2.St} : SlEq vs σ σ := ⟨rfl, fun _ _ => rfl⟩
theorem SlEq.trans {vs : List Nat} {σ σ1 σ2 : L2.St} (a : SlEq vs σ σ1) (b : SlEq vs σ1 σ2) : SlEq vs σ σ2 := ⟨b.1.trans a.1, fun i h => (b.2 i h).trans (a.2 i h)⟩
theorem SlEq.mono {vs ws : List Nat} {σ σ' : L2.St} (a : SlEq vs σ σ') (h : ∀ i ∈ vs, i ∈ ws) : SlEq ws σ σ' := ⟨a.1, fun i n => a.2 i fun m => n (h i m)⟩
theorem SlEq.set {vs : List Nat} {σ : L2.St} {i : Nat} {o : Option V} (h : i ∈ vs) : SlEq vs σ (σ.set i o) := ⟨List.length_set, fun j n => List.getElem?_set_ne fun e => n (by rw [← e]; exact h)⟩
def GPost (K : PySem.W.Frag) (G : Gd) (O : List Nat) (vs : List Nat) (A : Addr → Prop) (ms : Nat → Option Addr) (σ : L2.St) (H : Hp) (Q : L2.St → Hp → Prop) : R Unit → Prop
  | .ok _ ρ' => ∀ σ' H', SlEq vs σ σ' → RelS K G O A ms σ' H' ρ' → Kp O ms H H' → Q σ' H'
  | _ => False
def tG (K : PySem.W.Frag) (G : Gd) (O : List Nat) (vs : List Nat) (g : MG) : TG := fun v σ H Q => ∃ A ms ρ d, RelS K G O A ms σ H ρ ∧ Rp K A H v d ∧ GPost K G O vs A ms σ H Q (g d ρ)
def tGs (K : PySem.W.Frag) (G : Gd) (O : List Nat) (vs : List Nat) (g : List D → En → R Unit) : TGs := fun us σ H Q => ∃ A ms ρ ds, RelS K G O A ms σ H ρ ∧ RpA K A H us ds ∧ GPost K G O vs A ms σ H Q (g ds ρ)
def DG (X : Cx) (G : Gd) (O : List Nat) (vs : List Nat) (tg : Expr) (g : MG) : Prop := PG X tg (tG X.K G O vs g)
def DGs (X : Cx) (G : Gd) (O : List Nat) (vs : List Nat) (ts : List Expr) (g : List D → En → R Unit) : Prop := PGs X ts (tGs X.K G O vs g)
theorem pg_imp {X : Cx} {e : Expr} {t t' : TG} (h : PG X e t) (w : ∀ v σ H Q, t' v σ H Q → t v σ H Q) : PG X e t' := ⟨fun pins s σ H v u Q I r q => h.run pins s σ H v u Q I r (w v σ H Q q)⟩
theorem pgs_imp {X : Cx} {e : List Expr} {t t' : TGs} (h : PGs X e t) (w : ∀ v σ H Q, t' v σ H Q → t v σ H Q) : PGs X e t' := ⟨fun pins s σ H v u Q I r q => h.run pins s σ H v u Q I r (w v σ H Q q)⟩
theorem GPost.from {K : PySem.W.Frag} {G : Gd} {O : List Nat} {vs : List Nat} {A : Addr → Prop} {ms : Nat → Option Addr} {σ σ1 : L2.St} {H H1 : Hp} {Q : L2.St → Hp → Prop} {r : R Unit} (e : SlEq vs σ σ1) (k : Kp O ms H H1) (h : GPost K G O vs A ms σ H Q r) : GPost K G O vs A ms σ1 H1 Q r := by
  cases r with
  | ok u ρ => exact fun σ' H' e' R k' => h σ' H' (e.trans e') R (k.trans k')
  | ex _ _ => exact h
  | bad => exact h
theorem RelS.put {K : PySem.W.Frag} {G : Gd} {O : List Nat} {A : Addr → Prop} {ms : Nat → Option Addr} {σ : L2.St} {H : Hp} {ρ : En} {i : Nat} {v : V} {d : D} (R : RelS K G O A ms σ H ρ) (hi : i ∉ O) (hlt : i < ρ.length) (r : Rp K A H v d) : RelS K G O A ms (σ.set i (some v)) H (ρ.set i (some d)) := by
  have ne : ∀ {j : Nat}, j ∈ O → j ≠ i := fun {j} m z => hi (z ▸ m)
  have g : ∀ {j : Nat} {z : D}, j ∈ O → (ρ.set i (some d))[j]? = some (some z) → ρ[j]? = some (some z) := fun {j z} m e => by rw [set_get_ne (ne m)] at e; exact e
  exact {
    sub := R.sub
    trk0 := R.trk0
    trk := R.trk
    keep := R.keep
    len := by rw [List.length_set, List.length_set]; exact R.len
    fz := fun j z e n => by
      by_cases h : j = i
      · subst h
        rw [List.getElem?_set_self hlt] at e
        cases e
        exact ⟨v, List.getElem?_set_self (by rw [R.len]; exact hlt), r⟩
      · rw [set_get_ne h] at e
        obtain ⟨w, e1, q⟩ := R.fz j z e n
        exact ⟨w, by rw [List.getElem?_set_ne (Ne.symm h)]; exact e1, q⟩
    ow := fun j z e m => by
      obtain ⟨p, e0, e1, q⟩ := R.ow j z (g m e) m
      exact ⟨p, e0, by rw [List.getElem?_set_ne (Ne.symm (ne m))]; exact e1, q⟩
    inA := R.inA
    ok := R.ok
    dist := R.dist
    px := fun j a c e => let ⟨m, q⟩ := R.px j a c e; ⟨m, by rw [List.getElem?_set_ne (Ne.symm (ne m))]; exact q⟩
    io := fun p e => by
      obtain ⟨h1, h2, h3, z, h4⟩ := R.io p e
      exact ⟨h1, h2, h3, z, by rw [set_get_ne (ne h1)]; exact h4⟩ }
def mgName (i : Nat) : MG := fun d ρ => if i < ρ.length then .ok () (ρ.set i (some d)) else .bad
def mgNil : List D → En → R Unit := fun ds ρ => match ds with
  | [] => .ok () ρ
  | _ => .bad
def mgCons (g : MG) (gs : List D → En → R Unit) : List D → En → R Unit := fun ds ρ => match ds with
  | d :: r => (g d ρ).bind fun _ ρ1 => gs r ρ1
  | [] => .bad
def mgTup (n : Nat) (gs : List D → En → R Unit) : MG := fun d ρ => match d with
  | .tup ds => if ds.length = n then gs ds ρ else .bad
  | _ => .bad
section
variable {X : Cx} {G : Gd} {O vs : List Nat} {W : WX} {x : Str} {pos : Pos} {e : Expr} {es : List Expr} {g : MG} {gs : List D → En → R Unit}
theorem dg_name {i : Nat} (hv : vs.contains i = true) (hO : O.contains i = false) (hN : X.N.Nodup) (hi : X.N[i]? = some x) (hx : Loc X.env.scope x) (hf : X.fn x = true ∨ X.env.scope.names.lookup x = some .local := by first | exact .inl rfl | exact .inr rfl | assumption) : DG X G O vs (.Name x pos) (mgName i) := by
  refine pg_imp (pg_name hN hi hx hf) fun v σ H Q ⟨A, ms, ρ, d, R, r, q⟩ => ?_
  unfold mgName at q
  split at q
  · rename_i hl
    exact q _ _ (SlEq.set (List.contains_iff_mem.mp hv)) (R.put (fun z => by rw [List.contains_iff_mem.mpr z] at hO; cases hO) hl r) Kp.refl
  · exact q.elim
theorem dgs_nil : DGs X G O vs [] mgNil := pgs_imp pgs_nil fun us σ H Q ⟨A, ms, ρ, ds, R, r, q⟩ => by
  cases r with
  | nil => exact ⟨rfl, q _ _ SlEq.refl R Kp.refl⟩
  | cons _ _ => exact q.elim
theorem dgs_cons (h1 : DG X G O vs e g) (h2 : DGs X G O vs es gs) (hs : (assignEach (e :: es) X.env).map (·.2) = assign e X.env :: (assignEach es X.env).map (·.2) := by rfl) : DGs X G O vs (e :: es) (mgCons g gs) := by
  refine pgs_imp (pgs_cons h1 h2 hs) fun us σ H Q ⟨A, ms, ρ, ds, R, r, q⟩ => ?_
  cases r with
  | nil => exact q.elim
  | @cons v vr d dr r1 r2 =>
    refine ⟨_, _, rfl, A, ms, ρ, d, R, r1, ?_⟩
    have q' : GPost X.K G O vs A ms σ H Q ((g d ρ).bind fun _ ρ1 => gs dr ρ1) := q
    cases hg : g d ρ with
    | bad => rw [hg] at q'; exact q'.elim
    | ex y ρ1 => rw [hg] at q'; exact q'.elim
    | ok u ρ1 =>
      rw [hg] at q'
      have q : GPost X.K G O vs A ms σ H Q (gs dr ρ1) := q'
      exact fun σ' H' e' R' k => ⟨A, ms, ρ1, dr, R', r2.tr (R.kt k), GPost.from e' k q⟩
theorem dg_tup {k n : Nat} (hc : X.calm = true) (h : DGs X G O vs es gs) (hn : (assignEach es X.env).length = n := by rfl) (hst : (assignEach es X.env).findIdx? (·.1) = none := by rfl) : DG X G O vs (.Tuple es k pos) (mgTup n gs) := by
  refine pg_imp (pg_tup hc h hn hst) fun v σ H Q ⟨A, ms, ρ, d, R, r, q⟩ => ?_
  unfold mgTup at q
  split at q
  · split at q
    · rename_i ds hl
      cases r with
      | tup h1 h2 => exact ⟨_, _, rfl, h1.sq, by rw [h2.length]; exact hl, A, ms, ρ, ds, R, h2, q⟩
    · exact q.elim
  · exact q.elim
def gSet : D → D → D → Option D
  | .lst cs, .int k, d => (L2.ixN cs.length k).map fun n => .lst (cs.set n d)
  | _, _, _ => none
def mgSub (j : Nat) (mi : ME) : MG := fun d ρ => match getO ρ j with
  | some (.lst _) => (mi ρ).bind fun i ρ1 => match getO ρ1 j with
    | some c => match gSet c i d with
      | some c' => .ok () (ρ1.set j (some c'))
      | none => .bad
    | none => .bad
  | _ => .bad
abbrev W0 : WX := fun _ _ _ _ => False
theorem dg_sub {j : Nat} {i : Expr} {mi : ME} {y : Str} {py : Pos} (hj : O.contains j = true) (hy : PE X (.Name y py) (tVar j)) (hi : DE X G O W0 i mi)
    (ha : ∀ v, assign (.Subscript (.Name y py) i pos) X.env v = (do
      let ov ← holding [v] (eval (.Name y py) X.env)
      let iv ← holding [v, ov] (eval i X.env)
      standAt pos
      holding [v, ov, iv] (setItem ov iv v)
      release [v, ov, iv] []) := by intro _; rfl) : DG X G O vs (.Subscript (.Name y py) i pos) (mgSub j mi) := by
  refine pg_imp (pg_sub hy hi set_list ha) fun v σ H Q ⟨A, ms, ρ, d, R, r, q⟩ => ?_
  have hj' := List.contains_iff_mem.mp hj
  unfold mgSub at q
  split at q
  · rename_i c hc
    obtain ⟨p, hp, hv, _⟩ := R.ow j _ (getO_some hc) hj'
    refine ⟨_, hv, A, ms, ρ, R, ?_⟩
    cases hm : mi ρ with
    | bad => rw [hm] at q; exact q.elim
    | ex y ρ1 => rw [hm] at q; exact q.elim
    | ok iv ρ1 =>
      rw [hm] at q
      intro iV H1 R1 k1 r1
      have q1 : GPost X.K G O vs A ms σ H Q (match getO ρ1 j with
        | some c => match gSet c iv d with
          | some c' => .ok () (ρ1.set j (some c'))
          | none => .bad
        | none => .bad) := q
      split at q1
      · rename_i c1 hc1
        split at q1
        · rename_i c2 hset
          cases c1 with
          | lst cs =>
            cases iv with
            | int kk =>
              obtain ⟨n, hn, rfl⟩ := map_some (show (L2.ixN cs.length kk).map (fun n => D.lst (cs.set n d)) = some c2 from hset)
              have b1 := getO_some hc1
              obtain ⟨p', hp', _, oj⟩ := R1.ow j _ b1 hj'
              rw [hp] at hp'
              cases hp'
              have aj := R.inA j p hj' hp
              obtain ⟨ws, hw, rw1⟩ := own_lst oj
              cases r1
              refine ⟨_, ws, kk, n, rfl, rfl, hw, by rw [rw1.length]; exact hn, ?_⟩
              refine q1 σ _ SlEq.refl (R1.setOwn hj' b1 hp upd_out (.lst upd_same ((rw1.upd aj).set n ((r.tr (R.kt k1)).upd aj)))) (k1.trans (Kp.own hj' hp upd_out))
            | _ => cases hset
          | _ => cases hset
        · exact q1.elim
      · exact q1.elim
  · exact q.elim
end
end DL
namespace DL
open L2 PySem PySem.Spec PyProof.Rows
def NPx (G : Gd) (j : Nat) : Prop := ∀ i a c, G.px = some (i, a, c) → i ≠ j
theorem NPx.no {G : Gd} {j : Nat} (h : G.px = none) : NPx G j := fun i a c e => by rw [h] at e; cases e
def obind {α : Type} (r : R α) (f : α → En → Out) : Out := match r with
  | .ok a ρ => f a ρ
  | .ex x ρ => .ex x ρ
  | .bad => .bad
def msNil : MS := fun ρ => .nx ρ
def msSeq (a b : MS) : MS := fun ρ => match a ρ with
  | .nx ρ1 => b ρ1
  | o => o
def msExpr (m : ME) : MS := fun ρ => obind (m ρ) fun _ ρ1 => .nx ρ1
def msAsg (m : ME) (g : MG) : MS := fun ρ => obind (m ρ) fun d ρ1 => match g d ρ1 with
  | .ok _ ρ2 => .nx ρ2
  | _ => .bad
def msOwn (i : Nat) (m : ME) : MS := fun ρ => obind (m ρ) fun d ρ1 => if i < ρ1.length then .nx (ρ1.set i (some d)) else .bad
def msRet (m : ME) : MS := fun ρ => obind (m ρ) fun d ρ1 => .rt d ρ1
def msRetN : MS := fun ρ => .rt .non ρ
def msRetO (j : Nat) : MS := fun ρ => match getO ρ j with
  | some d => .rt d ρ
  | none => .bad
def msIf (c : MT) (a b : MS) : MS := fun ρ => obind (c ρ) fun k ρ1 => if k = true then a ρ1 else b ρ1
def msBrk : MS := fun ρ => .bk ρ
def msCnt : MS := fun ρ => .ct ρ
def loopL (g : MG) (mb : MS) : List D → En → Out
  | [], ρ => .nx ρ
  | d :: r, ρ => match g d ρ with
    | .ok _ ρ1 => match mb ρ1 with
      | .nx ρ2 => loopL g mb r ρ2
      | .ct ρ2 => loopL g mb r ρ2
      | .bk ρ2 => .nx ρ2
      | o => o
    | _ => .bad
def msFor (mi : En → R (List D)) (g : MG) (mb : MS) : MS := fun ρ => obind (mi ρ) fun ds ρ1 => loopL g mb ds ρ1
def loopW (c : MT) (mb : MS) : Nat → En → Out
  | 0, _ => .bad
  | n + 1, ρ => match c ρ with
    | .ok true ρ1 => match mb ρ1 with
      | .nx ρ2 => loopW c mb n ρ2
      | .ct ρ2 => loopW c mb n ρ2
      | .bk ρ2 => .nx ρ2
      | o => o
    | .ok false ρ1 => .nx ρ1
    | .ex x ρ1 => .ex x ρ1
    | .bad => .bad
def msWhile (n : Nat) (c : MT) (mb : MS) : MS := loopW c mb n
section
variable {X : Cx} {G : Gd} {XC : List Nat → Prop} {Ol O O' O1 : List Nat} {W : WX} {fr : Bool} {st : Stmt} {sts rest : List Stmt} {ma mb mc : MS} {e c : Expr} {me : ME} {pos : Pos}
theorem dss_nil : DSs X G XC Ol O O W fr [] msNil := pss_imp pss_nil fun D0 σ H ⟨A, ms, ρ, R, q⟩ => q σ H A ms R Tr.refl
theorem dss_cons (h1 : DS X G XC Ol O O1 W fr st ma) (h2 : DSs X G XC Ol O1 O' W fr rest mb) : DSs X G XC Ol O O' W fr (st :: rest) (msSeq ma mb) := by
  refine pss_imp (pss_cons h1 h2) fun D0 σ H ⟨A, ms, ρ, R, q⟩ => ?_
  refine ⟨A, ms, ρ, R, ?_⟩
  unfold msSeq at q
  cases hm : ma ρ with
  | nx ρ1 =>
    rw [hm] at q
    exact fun σ' H' A' ms' R' t => ⟨A', ms', ρ1, R', SPost.from t q⟩
  | rt d ρ1 => rw [hm] at q; exact q
  | bk ρ1 => rw [hm] at q; exact q
  | ct ρ1 => rw [hm] at q; exact q
  | ex x ρ1 => rw [hm] at q; exact q
  | bad => rw [hm] at q; exact q.elim
theorem dss_one (h1 : DS X G XC Ol O O' W fr st ma) : DSs X G XC Ol O O' W fr [st] ma := pss_imp (pss_one h1) fun _ _ _ h => h
theorem eb {K : PySem.W.Frag} {α β : Type} {A : Addr → Prop} {ms : Nat → Option Addr} {σ : L2.St} {H : Hp} {D0 : Ends} {r : R α} {f : α → En → Out} {rel : Hp → β → α → Prop} {Q : β → Hp → Prop} (hx : XC O) (h : SPost K G XC Ol O' W fr A H D0 (obind r f))
    (w : ∀ a ρ1 v H1, r = .ok a ρ1 → RelS K G O A ms σ H1 ρ1 → Kp O ms H H1 → rel H1 v a → SPost K G XC Ol O' W fr A H1 D0 (f a ρ1) → Q v H1) : RPost K G O W A ms σ H rel Q r := by
  cases r with
  | ok a ρ1 => exact fun v H1 R k q => w a ρ1 v H1 rfl R k q (SPost.from (R.kt k) h)
  | ex x ρ1 => exact fun dx H1 R k xr => h dx σ H1 A ms O hx R (R.kt k) xr
  | bad => exact h
theorem ds_expr (hx : XC O) (he : DE X G O W e me) (hs : swapsWith e none pos.line X.env = pure false := by rfl) : DS X G XC Ol O O W fr (.Expr e pos) (msExpr me) := by
  refine ps_imp (ps_expr he hs) fun D0 σ H ⟨A, ms, ρ, R, q⟩ => ⟨A, ms, ρ, R, eb hx q ?_⟩
  exact fun a ρ1 v H1 _ R1 k r q1 => q1 σ H1 A ms R1 Tr.refl
theorem ds_brk : DS X G XC O O O' W fr (.Break pos) msBrk := ps_imp ps_break fun D0 σ H ⟨A, ms, ρ, R, q⟩ => q σ H A ms R Tr.refl
theorem ds_cnt : DS X G XC O O O' W fr (.Continue pos) msCnt := ps_imp ps_continue fun D0 σ H ⟨A, ms, ρ, R, q⟩ => q σ H A ms R Tr.refl
theorem ds_asg {tg : Expr} {g : MG} {vs : List Nat} (hx : XC O) (he : DE X G O W e me) (hg : DG X G O vs tg g) (hs : swapsWithSole [tg] e pos.line X.env = pure false := by rfl) (hw : swappedStores [tg] e X.env = pure none := by rfl) (h1 : (assignEach [tg] X.env).map (·.2) = [assign tg X.env] := by rfl) : DS X G XC Ol O O W fr (.Assign [tg] e pos) (msAsg me g) := by
  refine ps_imp (ps_asg he hg hs hw h1) fun D0 σ H ⟨A, ms, ρ, R, q⟩ => ⟨A, ms, ρ, R, eb hx q ?_⟩
  intro d ρ1 v H1 _ R1 k r q1
  refine ⟨A, ms, ρ1, d, R1, r, ?_⟩
  cases hg' : g d ρ1 with
  | ok u ρ2 =>
    rw [hg'] at q1
    exact fun σ' H' _ R' k' => q1 σ' H' A ms R' (R'.kt k')
  | ex y ρ2 => rw [hg'] at q1; exact q1.elim
  | bad => rw [hg'] at q1; exact q1.elim
theorem RelS.own {K : PySem.W.Frag} {A : Addr → Prop} {ms : Nat → Option Addr} {σ : L2.St} {H : Hp} {ρ : En} {i : Nat} {p : Addr} {d : D} (R : RelS K G O (fun a => A a ∨ a = p) ms σ H ρ) (hi : i ∈ O) (h0 : i ≠ 0 ∨ G.io = none) (hlt : i < ρ.length)
    (nm : ∀ j ∈ O, ms j ≠ some p) (hpx : NPx G i) (hp0 : G.H0 p = none) (ow : Own K (fun a => A a ∨ a = p) H p d) : RelS K G O (fun a => A a ∨ a = p) (fun j => if j = i then some p else ms j) (σ.set i (some (.ref p))) H (ρ.set i (some d)) := by
  have gne : ∀ {j : Nat} {z : D}, j ≠ i → (ρ.set i (some d))[j]? = some (some z) → ρ[j]? = some (some z) := fun {j z} n e => by rw [set_get_ne n] at e; exact e
  exact {
    sub := R.sub
    trk0 := R.trk0
    trk := R.trk
    keep := R.keep
    len := by rw [List.length_set, List.length_set]; exact R.len
    fz := fun j z e n => by
      have h : j ≠ i := fun q => n (q ▸ hi)
      obtain ⟨w, e1, q⟩ := R.fz j z (gne h e) n
      exact ⟨w, by rw [List.getElem?_set_ne (Ne.symm h)]; exact e1, q⟩
    ow := fun j z e m => by
      by_cases h : j = i
      · subst h
        rw [List.getElem?_set_self hlt] at e
        cases e
        exact ⟨p, if_pos rfl, List.getElem?_set_self (by rw [R.len]; exact hlt), ow⟩
      · obtain ⟨q, e0, e1, w⟩ := R.ow j z (gne h e) m
        exact ⟨q, (if_neg h).trans e0, by rw [List.getElem?_set_ne (Ne.symm h)]; exact e1, w⟩
    inA := fun j q m e => by
      by_cases h : j = i
      · rw [if_pos h] at e
        exact .inr (Option.some.inj e).symm
      · rw [if_neg h] at e
        exact R.inA j q m e
    ok := fun j q m e => by
      by_cases h : j = i
      · rw [if_pos h] at e
        cases e
        exact .inr ⟨h ▸ h0, hp0⟩
      · rw [if_neg h] at e
        exact R.ok j q m e
    dist := fun j j' q m m' e e' => by
      by_cases h : j = i
      · by_cases h' : j' = i
        · exact h.trans h'.symm
        · rw [if_pos h] at e
          rw [if_neg h'] at e'
          cases e
          exact absurd e' (nm j' m')
      · by_cases h' : j' = i
        · rw [if_neg h] at e
          rw [if_pos h'] at e'
          cases e'
          exact absurd e (nm j m)
        · rw [if_neg h] at e
          rw [if_neg h'] at e'
          exact R.dist j j' q m m' e e'
    px := fun j a c e => let ⟨m, q⟩ := R.px j a c e; ⟨m, by rw [List.getElem?_set_ne fun z => hpx j a c e z.symm]; exact q⟩
    io := fun q e => by
      obtain ⟨h1, h2, h3, z, h4⟩ := R.io q e
      have hi0 : (0 : Nat) ≠ i := fun w => by
        rcases h0 with k | k
        · exact k w.symm
        · rw [k] at e; cases e
      exact ⟨h1, h2, by rw [if_neg hi0]; exact h3, z, by rw [set_get_ne hi0]; exact h4⟩ }
theorem h0_none {K : PySem.W.Frag} {A : Addr → Prop} {ms : Nat → Option Addr} {σ : L2.St} {H : Hp} {ρ : En} {p : Addr} (R : RelS K G O A ms σ H ρ) (hp : H p = none) : G.H0 p = none := by
  cases e : G.H0 p with
  | none => rfl
  | some o =>
    by_cases q : G.io = some p
    · obtain ⟨_, h2, _⟩ := R.io p q
      obtain ⟨o', e'⟩ := R.trk p (R.sub p h2)
      rw [hp] at e'; cases e'
    · have := R.keep p o e q
      rw [hp] at this; cases this
theorem ds_own {i : Nat} {x : Str} {p : Pos} (hx : XC O) (he : DF X G O W e me) (hi : O.contains i = true) (h0 : i ≠ 0 ∨ G.io = none) (hN : X.N.Nodup) (hn : X.N[i]? = some x) (hl : Loc X.env.scope x)
    (hf : X.fn x = true ∨ X.env.scope.names.lookup x = some .local := by first | exact .inl rfl | exact .inr rfl | assumption)
    (hs : swapsWithSole [.Name x p] e pos.line X.env = pure false := by rfl) (hw : swappedStores [.Name x p] e X.env = pure none := by rfl) (hpx : NPx G i := by first | exact NPx.no rfl | assumption) : DS X G XC Ol O O W fr (.Assign [.Name x p] e pos) (msOwn i me) := by
  refine ps_imp (ps_asg he (pg_name hN hn hl hf) hs hw) fun D0 σ H ⟨A, ms, ρ, R, q⟩ => ⟨A, ms, ρ, R, ?_⟩
  unfold msOwn at q
  cases hm : me ρ with
  | bad => rw [hm] at q; exact q.elim
  | ex y ρ1 => rw [hm] at q; exact fun dx H1 R1 k xr => q dx σ H1 A ms O hx R1 (R1.kt k) xr
  | ok d ρ1 =>
    rw [hm] at q
    intro r H1 R1 R2 k hr ow
    have q' : SPost X.K G XC Ol O W fr A H D0 (if i < ρ1.length then .nx (ρ1.set i (some d)) else .bad) := q
    split at q'
    · rename_i hlt
      refine q' _ H1 _ _ (R2.own (List.contains_iff_mem.mp hi) h0 hlt (R.msne hr) hpx (h0_none R hr) ow) fun a o e n => ⟨(R1.kt k a o e n).1, fun z => z.elim n fun z => ?_⟩
      rw [z, hr] at e
      cases e
    · exact q'.elim
theorem ret_of {K : PySem.W.Frag} {A : Addr → Prop} {ms : Nat → Option Addr} {σ : L2.St} {H : Hp} {ρ : En} {v : V} {d : D} (R : RelS K G O A ms σ H ρ) (r : Rp K A H v d) : RetG K G false v H d (io0 ρ) := ⟨R.ki, r.less R.sub, fun p e => (R.ioOwn e).less R.sub⟩
theorem ds_ret (hx : XC O) (he : DE X G O W e me) : DS X G XC Ol O O' W false (.Return (some e) pos) (msRet me) := by
  refine ps_imp (ps_ret he) fun D0 σ H ⟨A, ms, ρ, R, q⟩ => ⟨A, ms, ρ, R, eb hx q ?_⟩
  exact fun d ρ1 v H1 _ R1 k r q1 => q1 v H1 (ret_of R1 r)
theorem ds_retF (hx : XC O) (he : DF X G O W e me) : DS X G XC Ol O O' W true (.Return (some e) pos) (msRet me) := by
  refine ps_imp (ps_ret he) fun D0 σ H ⟨A, ms, ρ, R, q⟩ => ⟨A, ms, ρ, R, ?_⟩
  unfold msRet at q
  cases hm : me ρ with
  | bad => rw [hm] at q; exact q.elim
  | ex y ρ1 => rw [hm] at q; exact fun dx H1 R1 k xr => q dx σ H1 A ms O hx R1 (R1.kt k) xr
  | ok d ρ1 =>
    rw [hm] at q
    intro r H1 R1 R2 k hr ow
    have less : ∀ a, (G.A0 a ∨ a = r) → (A a ∨ a = r) := fun a z => z.imp (R.sub a) id
    exact q (.ref r) H1 ⟨R1.ki, r, rfl, h0_none R hr, ow.less less, fun p e => (R2.ioOwn e).less less⟩
theorem ds_retO {j : Nat} {x : Str} {p : Pos} (hj : O.contains j = true) (h0 : j ≠ 0 ∨ G.io = none) (hy : PE X (.Name x p) (tVar j)) : DS X G XC Ol O O' W true (.Return (some (.Name x p)) pos) (msRetO j) := by
  refine ps_imp (ps_ret hy) fun D0 σ H ⟨A, ms, ρ, R, q⟩ => ?_
  unfold msRetO at q
  cases hc : getO ρ j with
  | none => rw [hc] at q; exact q.elim
  | some d =>
    rw [hc] at q
    have hj' := List.contains_iff_mem.mp hj
    have b := getO_some hc
    obtain ⟨p, e0, e1, oj⟩ := R.ow j d b hj'
    have aj := R.inA j p hj' e0
    have hp0 : G.H0 p = none := by
      rcases R.ok j p hj' e0 with ⟨z, w⟩ | ⟨_, w⟩
      · rcases h0 with k | k
        · exact absurd z k
        · rw [k] at w; cases w
      · exact w
    have less : ∀ a, (G.A0 a ∨ a = p) → A a := fun a z => z.elim (R.sub a) fun z => z ▸ aj
    exact ⟨_, e1, q (.ref p) H ⟨R.ki, p, rfl, hp0, oj.less less, fun p e => (R.ioOwn e).less less⟩⟩
theorem ds_if {mt : MT} {a b : List Stmt} (hx : XC O) (hc : DT X G O W c mt) (ha : DSs X G XC Ol O O' W fr a ma) (hb : DSs X G XC Ol O O' W fr b mb) : DS X G XC Ol O O' W fr (.If c a b pos) (msIf mt ma mb) := by
  refine ps_imp (ps_if hc ha hb) fun D0 σ H ⟨A, ms, ρ, R, q⟩ => ⟨A, ms, ρ, R, eb hx q ?_⟩
  intro k ρ1 v H1 _ R1 k1 r q1
  cases r
  cases k with
  | true => exact ⟨A, ms, ρ1, R1, q1⟩
  | false => exact ⟨A, ms, ρ1, R1, q1⟩
def ItOk (K : PySem.W.Frag) (A : Addr → Prop) (H : Hp) (J : It) (ds : List D) : Prop := ∀ A' H', Tr A A' H H' → Trk A' H' → (∀ i d, ds[i]? = some d → J.go i H' ∧ ∀ x H'', J.yld i H' x H'' → Same H' H'' ∧ Rp K A' H'' x d) ∧ J.stop ds.length H'
def tI (K : PySem.W.Frag) (G : Gd) (O : List Nat) (W : WX) (m : En → R (List D)) : TI := fun σ H Q => ∃ A ms ρ, RelS K G O A ms σ H ρ ∧ RPost K G O W A ms σ H (fun H' J ds => ItOk K A H' J ds) Q (m ρ)
def DI (X : Cx) (G : Gd) (O : List Nat) (W : WX) (tg e : Expr) (m : En → R (List D)) : Prop := PI X tg e (tI X.K G O W m)
theorem pi_imp {tg e : Expr} {t t' : TI} (h : PI X tg e t) (w : ∀ σ H Q, t' σ H Q → t σ H Q) : PI X tg e t' := ⟨fun pins s σ H R I q => h.run pins s σ H R I (w σ H R q)⟩
theorem ItOk.tr {K : PySem.W.Frag} {A A1 : Addr → Prop} {H H1 : Hp} {J : It} {ds : List D} (h : ItOk K A H J ds) (t : Tr A A1 H H1) : ItOk K A1 H1 J ds := fun A' H' t' => h A' H' (t.trans t')
theorem ds_for {tg iter : Expr} {vs : List Nat} {body : List Stmt} {mi : En → R (List D)} {g : MG} (hx : XC O) (hp : PassesOwn (model X.prog X.w) X.A X.env X.xe) (hc : X.calm = true) (hi : DI X G O W tg iter mi) (hg : DG X G O vs tg g) (hb : DSs X G XC O O O W fr body mb)
    (hs : ∀ x, foldedSetIterable iter X.env x = pure x := by intro _; rfl) : DS X G XC Ol O O W fr (.For tg iter body [] pos) (msFor mi g mb) := by
  refine ps_imp (ps_for hp hc hi hg hb hs) fun D0 σ H ⟨A, ms, ρ, R, q⟩ => ⟨A, ms, ρ, R, eb hx q ?_⟩
  intro ds ρ1 J H1 _ R1 k1 itok q1
  refine ⟨fun i m σ' H' => i ≤ ds.length ∧ m = ds.length - i ∧ ∃ A' ms' ρ', RelS X.K G O A' ms' σ' H' ρ' ∧ Tr A A' H1 H' ∧ SPost X.K G XC Ol O W fr A' H' D0 (loopL g mb (ds.drop i) ρ'),
    ⟨ds.length, Nat.zero_le _, rfl, A, ms, ρ1, R1, Tr.refl, q1⟩, ?_⟩
  rintro i m σ2 H2 ⟨hi, rfl, A2, ms2, ρ2, R2, t2, q2⟩
  obtain ⟨goes, stops⟩ := itok A2 H2 t2 R2.trk
  by_cases hlt : i < ds.length
  · have hd : ds[i]? = some ds[i] := List.getElem?_eq_getElem hlt
    obtain ⟨go, yl⟩ := goes i _ hd
    have e : ds.drop i = ds[i] :: ds.drop (i + 1) := List.drop_eq_getElem_cons hlt
    rw [e] at q2
    refine .inr ⟨go, fun σ' H' => i + 1 ≤ ds.length ∧ ∃ A' ms' ρ', RelS X.K G O A' ms' σ' H' ρ' ∧ Tr A A' H1 H' ∧ SPost X.K G XC Ol O W fr A' H' D0 (loopL g mb (ds.drop (i + 1)) ρ'), fun σ' H' ⟨w1, w2⟩ => ⟨ds.length - (i + 1), by omega, w1, rfl, w2⟩, fun x H3 hy => ?_⟩
    obtain ⟨s3, rx⟩ := yl x H3 hy
    refine ⟨A2, ms2, ρ2, ds[i], R2.same s3, rx, ?_⟩
    have q3 : SPost X.K G XC Ol O W fr A2 H3 D0 (match g ds[i] ρ2 with
      | .ok _ ρ1 => match mb ρ1 with
        | .nx ρ2 => loopL g mb (ds.drop (i + 1)) ρ2
        | .ct ρ2 => loopL g mb (ds.drop (i + 1)) ρ2
        | .bk ρ2 => .nx ρ2
        | o => o
      | _ => .bad) := SPost.from (Tr.same s3) q2
    have t3 : Tr A A2 H1 H3 := t2.trans (Tr.same s3)
    cases hgd : g ds[i] ρ2 with
    | bad => rw [hgd] at q3; exact q3.elim
    | ex y ρ3 => rw [hgd] at q3; exact q3.elim
    | ok u ρ3 =>
      rw [hgd] at q3
      intro σ4 H4 _ R4 k4
      refine ⟨A2, ms2, ρ3, R4, ?_⟩
      have t4 : Tr A A2 H1 H4 := t3.trans (R4.kt k4)
      have q4 := SPost.from (R4.kt k4) q3
      cases hm : mb ρ3 with
      | nx ρ5 =>
        simp only [hm] at q4
        exact fun σ' H' A' ms' R' t => ⟨hlt, A', ms', ρ5, R', t4.trans t, SPost.from t q4⟩
      | ct ρ5 =>
        simp only [hm] at q4
        exact fun σ' H' A' ms' R' t => ⟨hlt, A', ms', ρ5, R', t4.trans t, SPost.from t q4⟩
      | bk ρ5 =>
        simp only [hm] at q4
        exact fun σ' H' A' ms' R' t => q4 σ' H' A' ms' R' t
      | rt d ρ5 => simp only [hm] at q4; exact q4
      | ex y ρ5 => simp only [hm] at q4; exact q4
      | bad => simp only [hm] at q4; exact q4.elim
  · have e : i = ds.length := by omega
    subst e
    refine .inl ⟨stops, ?_⟩
    have q3 : SPost X.K G XC Ol O W fr A2 H2 D0 (loopL g mb (ds.drop ds.length) ρ2) := q2
    rw [List.drop_length] at q3
    exact q3 σ2 H2 A2 ms2 R2 Tr.refl
theorem ds_while {mt : MT} {body : List Stmt} (n : Nat) (hx : XC O) (hp : PassesOwn (model X.prog X.w) X.A X.env X.xe) (hc : DT X G O W c mt) (hb : DSs X G XC O O O W fr body mb) : DS X G XC Ol O O W fr (.While c body [] pos) (msWhile n mt mb) := by
  refine ps_imp (ps_while hp hc hb) fun D0 σ H ⟨A, ms, ρ, R, q⟩ => ?_
  refine ⟨fun m σ' H' => ∃ A' ms' ρ', RelS X.K G O A' ms' σ' H' ρ' ∧ SPost X.K G XC Ol O W fr A' H' D0 (loopW mt mb m ρ'), ⟨n, A, ms, ρ, R, q⟩, ?_⟩
  rintro m σ1 H1 ⟨A1, ms1, ρ1, R1, q1⟩
  cases m with
  | zero => exact q1.elim
  | succ m =>
    refine ⟨A1, ms1, ρ1, R1, ?_⟩
    have q2 : SPost X.K G XC Ol O W fr A1 H1 D0 (match mt ρ1 with
      | .ok true ρ1 => match mb ρ1 with
        | .nx ρ2 => loopW mt mb m ρ2
        | .ct ρ2 => loopW mt mb m ρ2
        | .bk ρ2 => .nx ρ2
        | o => o
      | .ok false ρ1 => .nx ρ1
      | .ex x ρ1 => .ex x ρ1
      | .bad => .bad) := q1
    cases hm : mt ρ1 with
    | bad => rw [hm] at q2; exact q2.elim
    | ex y ρ2 => rw [hm] at q2; exact fun dx H' R' k xr => q2 dx σ1 H' A1 ms1 O hx R' (R'.kt k) xr
    | ok b ρ2 =>
      rw [hm] at q2
      intro v H2 R2 k2 rv
      cases rv
      have q3 := SPost.from (R2.kt k2) q2
      cases b with
      | false => exact q3 σ1 H2 A1 ms1 R2 Tr.refl
      | true =>
        rw [if_pos rfl]
        refine ⟨fun σ' H' => ∃ A' ms' ρ', RelS X.K G O A' ms' σ' H' ρ' ∧ SPost X.K G XC Ol O W fr A' H' D0 (loopW mt mb m ρ'), fun σ' H' w => ⟨m, Nat.lt_succ_self _, w⟩, A1, ms1, ρ2, R2, ?_⟩
        cases hb' : mb ρ2 with
        | nx ρ5 =>
          simp only [hb'] at q3
          exact fun σ' H' A' ms' R' t => ⟨A', ms', ρ5, R', SPost.from t q3⟩
        | ct ρ5 =>
          simp only [hb'] at q3
          exact fun σ' H' A' ms' R' t => ⟨A', ms', ρ5, R', SPost.from t q3⟩
        | bk ρ5 =>
          simp only [hb'] at q3
          exact fun σ' H' A' ms' R' t => q3 σ' H' A' ms' R' t
        | rt d ρ5 => simp only [hb'] at q3; exact q3
        | ex y ρ5 => simp only [hb'] at q3; exact q3
        | bad => simp only [hb'] at q3; exact q3.elim
theorem RelS.freezeSlot {K : PySem.W.Frag} {A : Addr → Prop} {ms : Nat → Option Addr} {σ : L2.St} {H : Hp} {ρ : En} {j : Nat} (R : RelS K G O A ms σ H ρ) (hpx : NPx G j) (h0 : j ≠ 0 ∨ G.io = none) (hO : ∀ i, i ∈ O1 ↔ i ∈ O ∧ i ≠ j) :
    ∃ A', RelS K G O1 A' ms σ H ρ ∧ Tr A A' H H := by
  have io1 : ∀ p, G.io = some p → 0 ∈ O1 ∧ G.A0 p ∧ ms 0 = some p ∧ ∃ d, ρ[0]? = some (some d) := fun p e => by
    obtain ⟨h1, h2, h3, z, h4⟩ := R.io p e
    refine ⟨(hO 0).mpr ⟨h1, fun w => ?_⟩, h2, h3, z, h4⟩
    rcases h0 with k | k
    · exact k w.symm
    · rw [k] at e; cases e
  by_cases hb : j ∈ O ∧ ∃ d, ρ[j]? = some (some d)
  · obtain ⟨hj, d, hd⟩ := hb
    obtain ⟨p, e0, e1, oj⟩ := R.ow j d hd hj
    have hp0 : G.H0 p = none := by
      rcases R.ok j p hj e0 with ⟨z, w⟩ | ⟨_, w⟩
      · rcases h0 with k | k
        · exact absurd z k
        · rw [k] at w; cases w
      · exact w
    have less : ∀ a, (A a ∧ a ≠ p) → A a := fun a z => z.1
    refine ⟨fun a => A a ∧ a ≠ p, ?_, fun a o e n => ⟨e, fun z => n z.1⟩⟩
    exact {
      sub := fun a z => ⟨R.sub a z, fun q => by
        obtain ⟨o, w⟩ := R.trk0 _ z
        rw [q, hp0] at w; cases w⟩
      trk0 := R.trk0
      trk := fun a z => R.trk a z.1
      keep := R.keep
      len := R.len
      fz := fun i z e n => by
        by_cases h : i = j
        · subst h
          rw [hd] at e
          cases e
          exact ⟨_, e1, oj.freeze less fun z => z.2 rfl⟩
        · obtain ⟨v, e2, q⟩ := R.fz i z e fun m => n ((hO i).mpr ⟨m, h⟩)
          exact ⟨v, e2, q.less less⟩
      ow := fun i z e m => by
        obtain ⟨q, w0, w1, w2⟩ := R.ow i z e ((hO i).mp m).1
        exact ⟨q, w0, w1, w2.less less⟩
      inA := fun i q m e => ⟨R.inA i q ((hO i).mp m).1 e, fun z => ((hO i).mp m).2 (R.dist i j p ((hO i).mp m).1 hj (z ▸ e) e0)⟩
      ok := fun i q m e => R.ok i q ((hO i).mp m).1 e
      dist := fun i i' q m m' e e' => R.dist i i' q ((hO i).mp m).1 ((hO i').mp m').1 e e'
      px := fun i a c e => let ⟨m, q⟩ := R.px i a c e; ⟨(hO i).mpr ⟨m, hpx i a c e⟩, q⟩
      io := io1 }
  · refine ⟨A, ?_, Tr.refl⟩
    exact {
      sub := R.sub
      trk0 := R.trk0
      trk := R.trk
      keep := R.keep
      len := R.len
      fz := fun i z e n => by
        by_cases h : i = j
        · subst h
          by_cases m : i ∈ O
          · exact absurd ⟨m, z, e⟩ hb
          · exact R.fz i z e m
        · exact R.fz i z e fun m => n ((hO i).mpr ⟨m, h⟩)
      ow := fun i z e m => R.ow i z e ((hO i).mp m).1
      inA := fun i q m e => R.inA i q ((hO i).mp m).1 e
      ok := fun i q m e => R.ok i q ((hO i).mp m).1 e
      dist := fun i i' q m m' e e' => R.dist i i' q ((hO i).mp m).1 ((hO i').mp m').1 e e'
      px := fun i a c e => let ⟨m, q⟩ := R.px i a c e; ⟨(hO i).mpr ⟨m, hpx i a c e⟩, q⟩
      io := io1 }
theorem dss_freeze (j : Nat) (h0 : j ≠ 0 ∨ G.io = none) (h : DSs X G XC Ol (O.filter (· != j)) O' W fr sts ma) (hpx : NPx G j := by first | exact NPx.no rfl | assumption) : DSs X G XC Ol O O' W fr sts ma := by
  refine pss_imp h fun D0 σ H ⟨A, ms, ρ, R, q⟩ => ?_
  obtain ⟨A', R', t⟩ := R.freezeSlot (O1 := O.filter (· != j)) hpx h0 fun i => by simp [List.mem_filter]
  exact ⟨A', ms, ρ, R', SPost.from t q⟩
theorem RelS.forget {K : PySem.W.Frag} {A : Addr → Prop} {ms : Nat → Option Addr} {σ : L2.St} {H : Hp} {ρ : En} {j : Nat} (R : RelS K G O A ms σ H ρ) (hpx : NPx G j) (h0 : j ≠ 0 ∨ G.io = none) (hO : ∀ i, i ≠ j → (i ∈ O1 ↔ i ∈ O)) :
    RelS K G O1 A (fun i => if i = j then none else ms i) σ H (ρ.set j none) := by
  have ne : ∀ {i : Nat} {z : D}, (ρ.set j none)[i]? = some (some z) → i ≠ j := fun {i z} e h => by
    subst h
    by_cases hl : i < ρ.length
    · rw [List.getElem?_set_self hl] at e; cases e
    · rw [List.getElem?_eq_none (by rw [List.length_set]; omega)] at e; cases e
  have g : ∀ {i : Nat} {z : D}, (ρ.set j none)[i]? = some (some z) → ρ[i]? = some (some z) := fun {i z} e => by
    have e' := e
    rw [set_get_ne (ne e)] at e'
    exact e'
  have sm : ∀ {i : Nat} {p : Addr}, (if i = j then none else ms i) = some p → i ≠ j ∧ ms i = some p := fun {i p} e => by
    by_cases h : i = j
    · rw [if_pos h] at e; cases e
    · rw [if_neg h] at e; exact ⟨h, e⟩
  exact {
    sub := R.sub
    trk0 := R.trk0
    trk := R.trk
    keep := R.keep
    len := by rw [List.length_set]; exact R.len
    fz := fun i z e n => R.fz i z (g e) fun m => n ((hO i (ne e)).mpr m)
    ow := fun i z e m => by
      obtain ⟨p, e0, e1, w⟩ := R.ow i z (g e) ((hO i (ne e)).mp m)
      exact ⟨p, (if_neg (ne e)).trans e0, e1, w⟩
    inA := fun i p m e => R.inA i p ((hO i (sm e).1).mp m) (sm e).2
    ok := fun i p m e => R.ok i p ((hO i (sm e).1).mp m) (sm e).2
    dist := fun i i' p m m' e e' => R.dist i i' p ((hO i (sm e).1).mp m) ((hO i' (sm e').1).mp m') (sm e).2 (sm e').2
    px := fun i a c e => let ⟨m, q⟩ := R.px i a c e; ⟨(hO i (hpx i a c e)).mpr m, q⟩
    io := fun p e => by
      obtain ⟨h1, h2, h3, z, h4⟩ := R.io p e
      have n0 : (0 : Nat) ≠ j := fun w => by
        rcases h0 with k | k
        · exact k w.symm
        · rw [k] at e; cases e
      exact ⟨(hO 0 n0).mpr h1, h2, (if_neg n0).trans h3, z, by rw [set_get_ne n0]; exact h4⟩ }
def msForget (j : Nat) (m : MS) : MS := fun ρ => m (ρ.set j none)
theorem dss_forgetO (j : Nat) (h0 : j ≠ 0 ∨ G.io = none) (h : DSs X G XC Ol (j :: O) O' W fr sts ma) (hpx : NPx G j := by first | exact NPx.no rfl | assumption) : DSs X G XC Ol O O' W fr sts (msForget j ma) := by
  refine pss_imp h fun D0 σ H ⟨A, ms, ρ, R, q⟩ => ?_
  exact ⟨A, _, _, R.forget hpx h0 fun i hi => by simp [hi], q⟩
end
end DL
namespace DL
open L2 PySem PySem.Spec PyProof.Rows
def chars (s : Str) : List D := s.cps.toList.map fun c => .str ⟨#[c]⟩
def gIter : D → Option (List D)
  | .lst l => some l
  | .scr l => some l
  | .tup l => some l
  | .str s => some (chars s)
  | _ => none
def mIter (m : ME) : En → R (List D) := fun ρ => (m ρ).bind fun d ρ1 => ret (gIter d) ρ1
def rangeL (lo : Int) (n : Nat) : List D := (List.range n).map fun i => .int (lo + (i : Nat))
def okR (i : Int) : Bool := decide (-(2 ^ 62) ≤ i) && decide (i < 2 ^ 62)
def gRange1 : List D → Option (List D)
  | [.int j] => if okR j = true then some (rangeL 0 j.toNat) else none
  | _ => none
def gRange2 : List D → Option (List D)
  | [.int i, .int j] => if okR i = true ∧ okR j = true then some (rangeL i (j - i).toNat) else none
  | _ => none
def mItN (g : List D → Option (List D)) (args : MA) : En → R (List D) := fun ρ => (args ρ).bind fun ds ρ1 => ret (g ds) ρ1
def enumL (l : List D) : List D := l.zipIdx.map fun p => .tup [.int (p.2 : Nat), p.1]
section
variable {X : Cx} {G : Gd} {O : List Nat} {W : WX} {a b e : Expr} {es : List Expr} {me : ME} {mr : MA} {tg : Expr} {p pos tpos : Pos} {elts : List Expr} {kk : Nat}
theorem pi_or {t1 t2 : TI} (h1 : PI X tg e t1) (h2 : PI X tg e t2) : PI X tg e (fun σ H Q => t1 σ H Q ∨ t2 σ H Q) := ⟨fun pins s σ H Q I q => q.elim (h1.run pins s σ H Q I) (h2.run pins s σ H Q I)⟩
theorem sql_at {K : PySem.W.Frag} {A A' : Addr → Prop} {H H' : Hp} {a : Addr} {xs : List V} (h : SqLA K A H a xs) (t : Tr A A' H H') : SqL K H' a xs := (h.tr t).sq
theorem itok_list {K : PySem.W.Frag} {A : Addr → Prop} {H : Hp} {a : Addr} {xs : List V} {ds : List D} (h : SqLA K A H a xs) (r : RpA K A H xs ds) : ItOk K A H (Itl K a) ds := by
  intro A' H' t tk
  have h' := sql_at h t
  have hl := r.length
  refine ⟨fun i d e => ?_, ⟨xs, h', Nat.le_of_eq hl⟩⟩
  obtain ⟨v, e1, rv⟩ := r.get e
  refine ⟨⟨xs, v, h', e1⟩, fun x H'' ⟨eq, y⟩ => ?_⟩
  subst eq
  have := y xs h'
  rw [e1] at this
  cases this
  exact ⟨Same.refl _, rv.tr t⟩
theorem itok_tup {K : PySem.W.Frag} {A : Addr → Prop} {H : Hp} {a : Addr} {xs : List V} {ds : List D} (h : SqTA K A H a xs) (r : RpA K A H xs ds) : ItOk K A H (Itt K a) ds := by
  intro A' H' t tk
  have h' := (h.tr t).sq
  have hl := r.length
  refine ⟨fun i d e => ?_, ⟨xs, h', Nat.le_of_eq hl⟩⟩
  obtain ⟨v, e1, rv⟩ := r.get e
  refine ⟨⟨xs, v, h', e1⟩, fun x H'' ⟨eq, y⟩ => ?_⟩
  subst eq
  have := y xs h'
  rw [e1] at this
  cases this
  exact ⟨Same.refl _, rv.tr t⟩
theorem itok_str {K : PySem.W.Frag} {A : Addr → Prop} {H : Hp} (s : Str) : ItOk K A H (Its s) (chars s) := by
  intro A' H' t tk
  have hl : (chars s).length = s.cps.size := by unfold chars; rw [List.length_map, Array.length_toList]
  refine ⟨fun i d e => ?_, by show s.cps.size ≤ (chars s).length; omega⟩
  have hi := (List.getElem?_eq_some_iff.mp e).1
  refine ⟨by show i < s.cps.size; omega, fun x H'' ⟨eq, c, hc, hx⟩ => ?_⟩
  subst eq hx
  refine ⟨Same.refl _, ?_⟩
  unfold chars at e
  rw [List.getElem?_map, Array.getElem?_toList, hc] at e
  cases e
  exact .str _
theorem itok_rng {K : PySem.W.Frag} {A : Addr → Prop} {H : Hp} (lo : Int) (n : Nat) : ItOk K A H (Itr lo n) (rangeL lo n) := by
  intro A' H' t tk
  have hl : (rangeL lo n).length = n := by unfold rangeL; rw [List.length_map, List.length_range]
  refine ⟨fun i d e => ?_, by show n ≤ (rangeL lo n).length; omega⟩
  have hi := (List.getElem?_eq_some_iff.mp e).1
  refine ⟨by show i < n; omega, fun x H'' ⟨eq, hx⟩ => ?_⟩
  subst eq hx
  refine ⟨Same.refl _, ?_⟩
  unfold rangeL at e
  rw [List.getElem?_map, List.getElem?_range (by omega)] at e
  cases e
  exact .int _
theorem di_seq (he : DE X G O W e me) : DI X G O W tg e (mIter me) := by
  refine pi_imp (pi_or (pi_list he) (pi_or (pi_tup he) (pi_str he))) fun σ H Q ⟨A, ms, ρ, R, q⟩ => ?_
  unfold mIter at q
  cases hm : me ρ with
  | bad => rw [hm] at q; exact q.elim
  | ex x ρ1 =>
    rw [hm] at q
    exact .inl ⟨A, ms, ρ, R, by rw [hm]; exact q⟩
  | ok d ρ1 =>
    rw [hm] at q
    cases d with
    | lst l =>
      refine .inl ⟨A, ms, ρ, R, ?_⟩
      rw [hm]
      intro v H1 R1 k1 r1
      cases r1 with
      | lst h1 n1 rr => exact ⟨_, rfl, ⟨_, SqL.of h1⟩, q _ H1 R1 k1 (itok_list (.inl ⟨.inl h1, n1⟩) rr)⟩
    | scr l =>
      refine .inl ⟨A, ms, ρ, R, ?_⟩
      rw [hm]
      intro v H1 R1 k1 r1
      cases r1 with
      | scr h1 rr => exact ⟨_, rfl, ⟨_, h1.sq⟩, q _ H1 R1 k1 (itok_list h1 rr)⟩
    | tup l =>
      refine .inr (.inl ⟨A, ms, ρ, R, ?_⟩)
      rw [hm]
      intro v H1 R1 k1 r1
      cases r1 with
      | tup h1 rr => exact ⟨_, rfl, ⟨_, h1.sq⟩, q _ H1 R1 k1 (itok_tup h1 rr)⟩
    | str z =>
      refine .inr (.inr ⟨A, ms, ρ, R, ?_⟩)
      rw [hm]
      intro v H1 R1 k1 r1
      cases r1
      exact ⟨_, rfl, q _ H1 R1 k1 (itok_str z)⟩
    | _ => exact q.elim
theorem okR_ok {i : Int} (h : okR i = true) : -(2 ^ 62) ≤ i ∧ i < 2 ^ 62 := by
  unfold okR at h
  rw [Bool.and_eq_true] at h
  exact ⟨of_decide_eq_true h.1, of_decide_eq_true h.2⟩
theorem ite_l {α : Type} {c : Prop} [Decidable c] {x d : α} (h : (if c then some x else none) = some d) : c ∧ x = d := by
  by_cases q : c
  · rw [if_pos q] at h
    exact ⟨q, Option.some.inj h⟩
  · rw [if_neg q] at h
    cases h
theorem itn_go {t : TA} {g : List D → Option (List D)} {K : PySem.W.Frag} (ht : ∀ σ H Q, tA K G O W mr σ H Q → t σ H Q) {σ : L2.St} {H : Hp} {Q : It → Hp → Prop} {P : List V → Hp → Prop} (h : tI K G O W (mItN g mr) σ H Q)
    (w : ∀ A vs ds l H1, Trk A H1 → RpA K A H1 vs ds → g ds = some l → (∀ J, ItOk K A H1 J l → Q J H1) → P vs H1) : t σ H P := by
  obtain ⟨A, ms, ρ, R, q⟩ := h
  refine ht _ _ _ ⟨A, ms, ρ, R, q.bind.mono ?_⟩
  rintro vs H1 ⟨ds, ρ1, R1, k1, r1, q1⟩
  obtain ⟨l, hl, q2⟩ := rp_of (rel := fun H' J ds => ItOk K A H' J ds) R1 q1
  exact w A vs ds l H1 R1.trk r1 hl fun J it => q2 J H1 (Same.refl _) it
theorem di_range1 (hg : Gl X "range") (hm : X.mg "range" = none) (ha : DA X G O W [a] mr) (hs : starEach [a] X.env = [(false, eval a X.env)] := by rfl) : DI X G O W tg (.Call (.Name "range" p) [a] [] pos) (mItN gRange1 mr) := by
  refine pi_imp (pi_range1 hg hm ha hs) fun σ H Q h => itn_go (fun _ _ _ z => z) h fun A vs ds l H1 tk r hl q => ?_
  unfold gRange1 at hl
  split at hl
  · obtain ⟨hj, rfl⟩ := ite_l hl
    cases r with
    | cons r r' =>
      cases r'
      cases r
      exact ⟨_, rfl, (okR_ok hj).1, (okR_ok hj).2, q _ (itok_rng _ _)⟩
  · cases hl
theorem di_range2 (hg : Gl X "range") (hm : X.mg "range" = none) (ha : DA X G O W [a, b] mr) (hs : starEach [a, b] X.env = [(false, eval a X.env), (false, eval b X.env)] := by rfl) (hs2 : starEach [b] X.env = [(false, eval b X.env)] := by rfl) : DI X G O W tg (.Call (.Name "range" p) [a, b] [] pos) (mItN gRange2 mr) := by
  refine pi_imp (pi_range2 hg hm ha hs hs2) fun σ H Q h => itn_go (fun _ _ _ z => z) h fun A vs ds l H1 tk r hl q => ?_
  unfold gRange2 at hl
  split at hl
  · obtain ⟨hj, rfl⟩ := ite_l hl
    cases r with
    | cons r r' =>
      cases r' with
      | cons s s' =>
        cases s'
        cases r
        cases s
        exact ⟨_, _, rfl, ⟨(okR_ok hj.1).1, (okR_ok hj.1).2, (okR_ok hj.2).1, (okR_ok hj.2).2⟩, q _ (itok_rng _ _)⟩
  · cases hl
def wipeE (ρ : En) : List Nat → En
  | [] => ρ
  | v :: vs => (wipeE ρ vs).set v none
def restE (ρ0 : En) : List Nat → En → En
  | [], ρ => ρ
  | v :: vs, ρ => (restE ρ0 vs ρ).set v (match ρ0[v]? with
    | some o => o
    | none => none)
def lcLoop (vs : List Nat) (g : MG) (mt : MT) (me : ME) : List D → En → R (List D)
  | [], ρ => .ok [] ρ
  | d :: r, ρ => match g d (wipeE ρ vs) with
    | .ok _ ρ1 => match mt ρ1 with
      | .ok true ρ2 => match me ρ2 with
        | .ok y ρ3 => match lcLoop vs g mt me r ρ3 with
          | .ok ys ρ4 => .ok (y :: ys) ρ4
          | _ => .bad
        | _ => .bad
      | .ok false ρ2 => lcLoop vs g mt me r ρ2
      | _ => .bad
    | _ => .bad
def mLc (vs : List Nat) (mi : En → R (List D)) (g : MG) (mt : MT) (me : ME) : ME := fun ρ => (mi ρ).bind fun ds ρ1 => match lcLoop vs g mt me ds ρ1 with
  | .ok ys ρ2 => if ys.length ≤ sizeLine then .ok (.lst ys) (restE ρ1 vs ρ2) else .bad
  | _ => .bad
def mYes : MT := fun ρ => .ok true ρ
theorem RelS.unset {K : PySem.W.Frag} {A : Addr → Prop} {ms : Nat → Option Addr} {σ : L2.St} {H : Hp} {ρ : En} {i : Nat} (R : RelS K G O A ms σ H ρ) (hi : i ∉ O) : RelS K G O A ms (σ.set i none) H (ρ.set i none) := by
  have ne : ∀ {j : Nat}, j ∈ O → j ≠ i := fun {j} m z => hi (z ▸ m)
  have g : ∀ {j : Nat} {z : D}, j ∈ O → (ρ.set i none)[j]? = some (some z) → ρ[j]? = some (some z) := fun {j z} m e => by rw [set_get_ne (ne m)] at e; exact e
  exact {
    sub := R.sub
    trk0 := R.trk0
    trk := R.trk
    keep := R.keep
    len := by rw [List.length_set, List.length_set]; exact R.len
    fz := fun j z e n => by
      by_cases h : j = i
      · subst h
        by_cases hl : j < ρ.length
        · rw [List.getElem?_set_self hl] at e; cases e
        · rw [List.getElem?_eq_none (by rw [List.length_set]; omega)] at e; cases e
      · rw [set_get_ne h] at e
        obtain ⟨w, e1, q⟩ := R.fz j z e n
        exact ⟨w, by rw [List.getElem?_set_ne (Ne.symm h)]; exact e1, q⟩
    ow := fun j z e m => by
      obtain ⟨p, e0, e1, q⟩ := R.ow j z (g m e) m
      exact ⟨p, e0, by rw [List.getElem?_set_ne (Ne.symm (ne m))]; exact e1, q⟩
    inA := R.inA
    ok := R.ok
    dist := R.dist
    px := fun j a c e => let ⟨m, q⟩ := R.px j a c e; ⟨m, by rw [List.getElem?_set_ne (Ne.symm (ne m))]; exact q⟩
    io := fun p e => by
      obtain ⟨h1, h2, h3, z, h4⟩ := R.io p e
      exact ⟨h1, h2, h3, z, by rw [set_get_ne (ne h1)]; exact h4⟩ }
theorem RelS.wipe {K : PySem.W.Frag} {A : Addr → Prop} {ms : Nat → Option Addr} {σ : L2.St} {H : Hp} {ρ : En} (R : RelS K G O A ms σ H ρ) : ∀ vs : List Nat, (∀ i ∈ vs, i ∉ O) → RelS K G O A ms (L2.wipe σ vs) H (wipeE ρ vs)
  | [], _ => R
  | v :: vs, h => (RelS.wipe R vs fun i m => h i (List.mem_cons_of_mem _ m)).unset (h v List.mem_cons_self)
theorem restE_len (ρ0 ρ : En) : ∀ vs, (restE ρ0 vs ρ).length = ρ.length
  | [] => rfl
  | v :: vs => by unfold restE; rw [List.length_set, restE_len ρ0 ρ vs]
theorem restE_out {ρ0 ρ : En} {i : Nat} : ∀ {vs : List Nat}, i ∉ vs → (restE ρ0 vs ρ)[i]? = ρ[i]?
  | [], _ => rfl
  | v :: vs, h => by
    unfold restE
    rw [set_get_ne fun e => h (by rw [e]; exact List.mem_cons_self)]
    exact restE_out fun m => h (List.mem_cons_of_mem _ m)
theorem restE_in {ρ0 ρ : En} (hl : ρ.length = ρ0.length) {i : Nat} : ∀ {vs : List Nat}, i ∈ vs → (restE ρ0 vs ρ)[i]? = ρ0[i]?
  | v :: vs, h => by
    unfold restE
    by_cases e : i = v
    · subst e
      by_cases hi : i < ρ0.length
      · rw [List.getElem?_set_self (by rw [restE_len, hl]; exact hi), List.getElem?_eq_getElem hi]
      · rw [List.getElem?_eq_none (by rw [List.length_set, restE_len, hl]; omega), List.getElem?_eq_none (by omega)]
    · rw [set_get_ne e]
      exact restE_in hl ((List.mem_cons.mp h).resolve_left e)
theorem wipe_get {σ : L2.St} {i : Nat} : ∀ {vs : List Nat}, i ∉ vs → (L2.wipe σ vs)[i]? = σ[i]?
  | [], _ => rfl
  | v :: vs, h => by
    show ((L2.wipe σ vs).set v none)[i]? = _
    rw [List.getElem?_set_ne fun e => h (by rw [← e]; exact List.mem_cons_self)]
    exact wipe_get fun m => h (List.mem_cons_of_mem _ m)
theorem wipe_at {σ : L2.St} {i : Nat} : ∀ {vs : List Nat}, i ∈ vs → i < σ.length → (L2.wipe σ vs)[i]? = some none
  | v :: vs, h, hl => by
    show ((L2.wipe σ vs).set v none)[i]? = _
    by_cases e : i = v
    · subst e
      exact List.getElem?_set_self (by rw [L2.wipe_length]; exact hl)
    · rw [List.getElem?_set_ne fun q => e q.symm]
      exact wipe_at ((List.mem_cons.mp h).resolve_left e) hl
theorem wipe_eq {σ σ2 : L2.St} {vs : List Nat} (h : SlEq vs (L2.wipe σ vs) σ2) : L2.wipe σ2 vs = L2.wipe σ vs := by
  apply List.ext_getElem?
  intro i
  have hl : σ2.length = σ.length := by rw [h.1, L2.wipe_length]
  by_cases m : i ∈ vs
  · by_cases hi : i < σ.length
    · rw [wipe_at m (by rw [hl]; exact hi), wipe_at m hi]
    · rw [List.getElem?_eq_none (by rw [L2.wipe_length, hl]; omega), List.getElem?_eq_none (by rw [L2.wipe_length]; omega)]
  · rw [wipe_get m, h.2 i m]
theorem RelS.rest {K : PySem.W.Frag} {A A' : Addr → Prop} {ms : Nat → Option Addr} {σ : L2.St} {H1 H : Hp} {ρ0 ρ : En} {vs : List Nat} (hv : ∀ i ∈ vs, i ∉ O) (R0 : RelS K G O A' ms σ H1 ρ0) (t : Tr A' A H1 H) (R : RelS K G O A ms (L2.wipe σ vs) H (wipeE ρ vs)) (hl : ρ.length = ρ0.length) :
    RelS K G O A ms σ H (restE ρ0 vs ρ) := by
  have wE : ∀ {i : Nat}, i ∉ vs → (wipeE ρ vs)[i]? = ρ[i]? := fun {i} => by
    induction vs with
    | nil => exact fun _ => rfl
    | cons v vs ih =>
      intro h
      show ((wipeE ρ vs).set v none)[i]? = _
      rw [set_get_ne fun e => h (by rw [e]; exact List.mem_cons_self)]
      have : ∀ vs : List Nat, i ∉ vs → (wipeE ρ vs)[i]? = ρ[i]? := fun vs => by
        induction vs with
        | nil => exact fun _ => rfl
        | cons v vs ih2 =>
          intro h
          show ((wipeE ρ vs).set v none)[i]? = _
          rw [set_get_ne fun e => h (by rw [e]; exact List.mem_cons_self)]
          exact ih2 fun m => h (List.mem_cons_of_mem _ m)
      exact this vs fun m => h (List.mem_cons_of_mem _ m)
  have g : ∀ {i : Nat}, i ∈ O → (restE ρ0 vs ρ)[i]? = (wipeE ρ vs)[i]? := fun {i} m => by
    have nv : i ∉ vs := fun z => hv i z m
    rw [restE_out nv, wE nv]
  exact {
    sub := R.sub
    trk0 := R.trk0
    trk := R.trk
    keep := R.keep
    len := by rw [restE_len, hl]; exact R0.len
    fz := fun i d e n => by
      by_cases m : i ∈ vs
      · rw [restE_in hl m] at e
        obtain ⟨v, e1, q⟩ := R0.fz i d e n
        exact ⟨v, e1, q.tr t⟩
      · rw [restE_out m, ← wE m] at e
        obtain ⟨v, e1, q⟩ := R.fz i d e n
        rw [wipe_get m] at e1
        exact ⟨v, e1, q⟩
    ow := fun i d e m => by
      rw [g m] at e
      obtain ⟨p, e0, e1, q⟩ := R.ow i d e m
      rw [wipe_get fun z => hv i z m] at e1
      exact ⟨p, e0, e1, q⟩
    inA := R.inA
    ok := R.ok
    dist := R.dist
    px := R0.px
    io := fun p e => by
      obtain ⟨h1, h2, h3, z, h4⟩ := R.io p e
      exact ⟨h1, h2, h3, z, by rw [g h1]; exact h4⟩ }
end
end DL
namespace DL
open L2 PySem PySem.Spec PyProof.Rows
section
variable {X : Cx} {G : Gd} {O : List Nat} {W : WX}
theorem wipeE_out {ρ : En} {i : Nat} : ∀ {vs : List Nat}, i ∉ vs → (wipeE ρ vs)[i]? = ρ[i]?
  | [], _ => rfl
  | v :: vs, h => by
    show ((wipeE ρ vs).set v none)[i]? = _
    rw [set_get_ne fun e => h (by rw [e]; exact List.mem_cons_self)]
    exact wipeE_out fun m => h (List.mem_cons_of_mem _ m)
theorem wipeE_len (ρ : En) : ∀ vs, (wipeE ρ vs).length = ρ.length
  | [] => rfl
  | v :: vs => by
    show ((wipeE ρ vs).set v none).length = _
    rw [List.length_set, wipeE_len ρ vs]
theorem RelS.rewipe {K : PySem.W.Frag} {A : Addr → Prop} {ms : Nat → Option Addr} {σ σ2 : L2.St} {H : Hp} {ρ : En} {vs : List Nat} (hv : ∀ i ∈ vs, i ∉ O) (e : SlEq vs (L2.wipe σ vs) σ2) (R : RelS K G O A ms σ2 H ρ) : RelS K G O A ms (L2.wipe σ vs) H (wipeE ρ vs) := by
  rw [← wipe_eq e]
  exact R.wipe vs hv
theorem lc_goes {K : PySem.W.Frag} {A : Addr → Prop} {ms : Nat → Option Addr} {σ : L2.St} {H1 : Hp} {ρ1 ρf : En} {vs : List Nat} {g : MG} {mt : MT} {me : ME} {tt : TT} {J : It} {ds ys : List D} {Q : VK} (hv : ∀ i ∈ vs, i ∉ O)
    (htt : ∀ σ H Q, tT K G O W0 mt σ H Q → tt σ H Q) (R1 : RelS K G O A ms σ H1 ρ1) (it : ItOk K A H1 J ds) (hl : lcLoop vs g mt me ds ρ1 = .ok ys ρf) (hz : ys.length ≤ sizeLine)
    (q : ∀ p H', RelS K G O A ms σ H' (restE ρ1 vs ρf) → RelS K G O (fun a => A a ∨ a = p) ms σ H' (restE ρ1 vs ρf) → Kp O ms H1 H' → H1 p = none → Own K (fun a => A a ∨ a = p) H' p (.lst ys) → Q (.ref p) H') :
    ∀ L, H1 L = none → ∃ Wv : Nat → Nat → Hp → Prop, (∃ m, Wv 0 m (upd H1 L (.lst []))) ∧ ∀ i m H, Wv i m H →
      (J.stop i H ∧ Q (.ref L) H) ∨ (J.go i H ∧ ∃ Nx : Hp → Prop, (∀ H', Nx H' → ∃ m', m' < m ∧ Wv (i + 1) m' H') ∧ ∀ x H', J.yld i H x H' → tG K G O vs g x (L2.wipe σ vs) H' fun σ2 H2 => L2.wipe σ2 vs = L2.wipe σ vs ∧ tt σ2 H2 fun b H3 =>
        if b = true then tE K G O W0 me σ2 H3 fun y H4 => ∃ acc, H4 L = some (.lst acc) ∧ acc.length < sizeLine ∧ Nx (upd H4 L (.lst (acc ++ [y]))) else Nx H3) := by
  intro L hL
  have s0 : Same H1 (upd H1 L (.lst [])) := same_upd hL
  have t0 : Tr A (fun a => A a ∨ a = L) H1 (upd H1 L (.lst [])) := fun a u e n => ⟨s0 _ _ e, fun z => z.elim n fun z => by rw [z, hL] at e; cases e⟩
  have R2 : RelS K G O (fun a => A a ∨ a = L) ms σ (upd H1 L (.lst [])) ρ1 := R1.grow hL s0 upd_same
  have nL : ∀ i ∈ O, ms i ≠ some L := R1.msne hL
  refine ⟨fun i m H => i ≤ ds.length ∧ m = ds.length - i ∧ (∃ ρi acc y0 rest, RelS K G O (fun a => A a ∨ a = L) ms (L2.wipe σ vs) H (wipeE ρi vs) ∧ (∀ a o, (upd H1 L (.lst [])) a = some o → a ≠ L → (∀ i ∈ O, ms i ≠ some a) → H a = some o) ∧ H L = some (.lst acc) ∧ RpA K (fun a => A a ∨ a = L) H acc y0 ∧
    lcLoop vs g mt me (ds.drop i) ρi = .ok rest ρf ∧ ys = y0 ++ rest ∧ ρi.length = ρ1.length), ⟨ds.length, Nat.zero_le _, rfl, ρ1, [], [], ys, R2.wipe vs hv, fun _ _ e _ _ => e, upd_same, .nil, hl, rfl, rfl⟩, ?_⟩
  rintro i m H ⟨hi, rfl, ρi, acc, y0, rest, R, k, hacc, racc, hrest, hys, hlen⟩
  have kA : Tr A (fun a => A a ∨ a = L) H1 H := fun a u e n => by
    have nl : a ≠ L := fun z => by rw [z, hL] at e; cases e
    exact ⟨k a u (s0 _ _ e) nl fun i m z => n (R1.inA i a m z), fun z => z.elim n nl⟩
  obtain ⟨goes, stops⟩ := it _ H kA R.trk
  by_cases hlt : i < ds.length
  · have hd : ds[i]? = some ds[i] := List.getElem?_eq_getElem hlt
    obtain ⟨go, yl⟩ := goes i _ hd
    have e : ds.drop i = ds[i] :: ds.drop (i + 1) := List.drop_eq_getElem_cons hlt
    rw [e] at hrest
    refine .inr ⟨go, fun H' => (∃ ρi acc y0 rest, RelS K G O (fun a => A a ∨ a = L) ms (L2.wipe σ vs) H' (wipeE ρi vs) ∧ (∀ a o, (upd H1 L (.lst [])) a = some o → a ≠ L → (∀ i ∈ O, ms i ≠ some a) → H' a = some o) ∧ H' L = some (.lst acc) ∧ RpA K (fun a => A a ∨ a = L) H' acc y0 ∧
      lcLoop vs g mt me (ds.drop (i + 1)) ρi = .ok rest ρf ∧ ys = y0 ++ rest ∧ ρi.length = ρ1.length), fun H' w => ⟨ds.length - (i + 1), by omega, hlt, rfl, w⟩, fun x H3 hy => ?_⟩
    obtain ⟨s3, rx⟩ := yl x H3 hy
    have R3 := R.same s3
    refine ⟨_, ms, wipeE ρi vs, ds[i], R3, rx, ?_⟩
    unfold lcLoop at hrest
    cases hg : g ds[i] (wipeE ρi vs) with
    | bad => rw [hg] at hrest; cases hrest
    | ex y ρ2 => rw [hg] at hrest; cases hrest
    | ok u ρ2 =>
      rw [hg] at hrest
      intro σ4 H4 e4 R4 k4
      refine ⟨wipe_eq e4, htt _ _ _ ⟨_, ms, ρ2, R4, ?_⟩⟩
      cases hmt : mt ρ2 with
      | bad => simp only [hmt] at hrest; cases hrest
      | ex y ρ3 => simp only [hmt] at hrest; cases hrest
      | ok b ρ3 =>
        simp only [hmt] at hrest
        intro b' H5 R5 k5 hb
        cases hb
        have len5 : ρ3.length = ρ1.length := by rw [← R5.len, e4.1, L2.wipe_length, R1.len]
        have k5' : ∀ a o, (upd H1 L (.lst [])) a = some o → a ≠ L → (∀ i ∈ O, ms i ≠ some a) → H5 a = some o := fun a o h1 h2 h3 => k5 a o (k4 a o (s3 _ _ (k a o h1 h2 h3)) h3) h3
        have acc5 : H5 L = some (.lst acc) := k5 _ _ (k4 _ _ (s3 _ _ hacc) nL) nL
        have tr5 : Tr (fun a => A a ∨ a = L) (fun a => A a ∨ a = L) H H5 := ((Tr.same s3).trans (R.kt k4)).trans (R.kt k5)
        cases b with
        | false =>
          rw [if_neg Bool.false_ne_true]
          exact ⟨ρ3, acc, y0, rest, R5.rewipe hv e4, k5', acc5, racc.tr tr5, hrest, hys, len5⟩
        | true =>
          rw [if_pos rfl]
          refine ⟨_, ms, ρ3, R5, ?_⟩
          cases hme : me ρ3 with
          | bad => simp only [hme] at hrest; cases hrest
          | ex y ρ4 => simp only [hme] at hrest; cases hrest
          | ok y ρ4 =>
            simp only [hme] at hrest
            cases hr : lcLoop vs g mt me (ds.drop (i + 1)) ρ4 with
            | bad => simp only [hr] at hrest; cases hrest
            | ex z ρ5 => simp only [hr] at hrest; cases hrest
            | ok ys' ρ5 =>
              simp only [hr] at hrest
              cases hrest
              intro w H6 R6 k6 rw6
              have acc6 : H6 L = some (.lst acc) := k6 _ _ acc5 nL
              have al : (fun a => A a ∨ a = L) L := .inr rfl
              have lenacc : acc.length < sizeLine := by
                have := racc.length
                rw [hys, List.length_append, List.length_cons] at hz
                omega
              refine ⟨acc, acc6, lenacc, ρ4, acc ++ [w], y0 ++ [y], ys', ?_, ?_, upd_same, ?_, hr, by rw [hys]; simp, by rw [← R6.len, e4.1, L2.wipe_length, R1.len]⟩
              · -- the new list grew: no slot's own
                have R7 := R6.rewipe hv e4
                have tr7 : Tr (fun a => A a ∨ a = L) (fun a => A a ∨ a = L) H6 (upd H6 L (.lst (acc ++ [w]))) := fun a o e n => ⟨upd_out a o e fun z => n (.inr z), n⟩
                exact {
                  sub := R7.sub
                  trk0 := R7.trk0
                  trk := fun a z => by
                    by_cases h : a = L
                    · rw [h]; exact ⟨_, upd_same⟩
                    · obtain ⟨o, e⟩ := R7.trk a z
                      exact ⟨o, upd_out a o e h⟩
                  keep := fun a o e n => by
                    have := R7.keep a o e n
                    refine upd_out a o this fun z => ?_
                    have h0 := R1.keep a o e n
                    rw [z, hL] at h0
                    cases h0
                  len := R7.len
                  fz := fun j d e n => let ⟨v, e1, q⟩ := R7.fz j d e n; ⟨v, e1, q.tr tr7⟩
                  ow := fun j d e n => let ⟨p, e0, e1, q⟩ := R7.ow j d e n; ⟨p, e0, e1, q.tr tr7 fun o z => upd_out _ _ z fun h => nL j n (h ▸ e0)⟩
                  inA := R7.inA
                  ok := R7.ok
                  dist := R7.dist
                  px := R7.px
                  io := R7.io }
              · exact fun a o h1 h2 h3 => upd_out a o (k6 a o (k5' a o h1 h2 h3) h3) h2
              · exact ((racc.tr (tr5.trans (R5.kt k6))).upd al).app (.cons (rw6.upd al) .nil)
  · have e : i = ds.length := by omega
    subst e
    rw [List.drop_length] at hrest
    cases hrest
    rw [List.append_nil] at hys
    subst hys
    refine .inl ⟨stops, ?_⟩
    have Rf : RelS K G O (fun a => A a ∨ a = L) ms σ H (restE ρ1 vs ρf) := RelS.rest hv R1 kA R hlen
    have kf : Kp O ms H1 H := fun a o e n => k a o (s0 _ _ e) (fun z => by rw [z, hL] at e; cases e) n
    exact q L H (Rf.less (fun a z => .inl z) R1.sub fun j p m z => R1.inA j p m z) Rf kf hL (.lst hacc racc)
abbrev ownS (own : List (Str × Nat)) : List Nat := own.map (·.2)
theorem lc_go {K : PySem.W.Frag} {own : List (Str × Nat)} {mi : En → R (List D)} {g : MG} {mt : MT} {me : ME} {tt : TT} (hv : (ownS own).all (fun i => !O.contains i) = true) (htt : ∀ σ H Q, tT K G O W0 mt σ H Q → tt σ H Q) {σ : L2.St} {H : Hp} {Q : VK} (h : tF K G O W (mLc (ownS own) mi g mt me) σ H Q) :
    tLc (tI K G O W mi) (tG K G O (ownS own) g) tt (tE K G O W0 me) (own.map (·.2)) σ H Q := by
  have hv' : ∀ i ∈ ownS own, i ∉ O := fun i m z => by
    have := List.all_eq_true.mp hv i m
    rw [List.contains_iff_mem.mpr z] at this
    cases this
  obtain ⟨A, ms, ρ, R, q⟩ := h
  refine ⟨A, ms, ρ, R, ?_⟩
  unfold mLc at q
  cases hm : mi ρ with
  | bad => rw [hm] at q; exact q.elim
  | ex x ρ1 => rw [hm] at q; exact q
  | ok ds ρ1 =>
    rw [hm] at q
    intro J H1 R1 k1 itok
    have q1 : FPost K G O W A ms σ H Q (match lcLoop (ownS own) g mt me ds ρ1 with
      | .ok ys ρ2 => if ys.length ≤ sizeLine then .ok (.lst ys) (restE ρ1 (ownS own) ρ2) else .bad
      | _ => .bad) := q
    cases hl : lcLoop (ownS own) g mt me ds ρ1 with
    | bad => rw [hl] at q1; exact q1.elim
    | ex x ρ2 => rw [hl] at q1; exact q1.elim
    | ok ys ρ2 =>
      rw [hl] at q1
      have q2 : FPost K G O W A ms σ H Q (if ys.length ≤ sizeLine then .ok (.lst ys) (restE ρ1 (ownS own) ρ2) else .bad) := q1
      split at q2
      · rename_i hz
        exact lc_goes hv' htt R1 itok hl hz fun p H' r1 r2 k hp ow => q2 p H' r1 r2 (k1.trans k) (Kp.none R1 k1 hp) ow
      · exact q2.elim
theorem df_lc {elt tg iter : Expr} {ifs : List Expr} {scope : Scope} {own : List (Str × Nat)} {pos : Pos} {mi : En → R (List D)} {g : MG} {mt : MT} {me : ME} {tt : TT} (hc : X.calm = true) (hN : X.N.Nodup) (hv : (ownS own).all (fun i => !O.contains i) = true)
    (hi : DI X G O W tg iter mi) (ok : BlkOk X.N X.env.scope scope own)
    (hg : ∀ (s : Shared) (H : Hp) (C : Addr) (cl : List (Str × Addr)) (fp : List Addr), DG (X.blk s H scope (compEnvC scope cl C X.env) fp) G O (ownS own) tg g)
    (ht : ∀ (s : Shared) (H : Hp) (C : Addr) (cl : List (Str × Addr)) (fp : List Addr), PTs (X.blk s H scope (compEnvC scope cl C X.env) fp) ifs tt) (htt : ∀ σ H Q, tT X.K G O W0 mt σ H Q → tt σ H Q)
    (he : ∀ (s : Shared) (H : Hp) (C : Addr) (cl : List (Str × Addr)) (fp : List Addr), DE (X.blk s H scope (compEnvC scope cl C X.env) fp) G O W0 elt me) (hs : ∀ x, foldedSetIterable iter X.env x = pure x := by intro _; rfl) :
    DF X G O W (.ListComp elt [⟨tg, iter, ifs, 0⟩] scope pos) (mLc (ownS own) mi g mt me) :=
  pe_imp (pe_lc (te := tE X.K G O W0 me) (tt := tt) (g := tG X.K G O (ownS own) g) hc hN hi ok hg ht he hs) fun _ _ _ h => lc_go hv htt h
theorem tYes_go {K : PySem.W.Frag} : ∀ σ H Q, tT K G O W0 mYes σ H Q → tYes σ H Q := fun σ H Q ⟨A, ms, ρ, R, q⟩ => q true H R Kp.refl rfl
end
end DL
namespace DL
open L2 PySem PySem.Spec PyProof.Rows
inductive Bx where
  | ex (m : ME)
  | ow (j : Nat)
def evB : Bx → ME
  | .ex m => m
  | .ow j => fun ρ => match getO ρ j with
    | some d => .ok d ρ
    | none => .bad
def rdB (b : Bx) (d : D) (ρ : En) : Option D := match b with
  | .ex _ => some d
  | .ow j => getO ρ j
def m2B (g : D → D → Option D) (a b : Bx) : ME := fun ρ => (evB a ρ).bind fun x ρ1 => (evB b ρ1).bind fun y ρ2 => ret ((rdB a x ρ2).bind fun x' => g x' y) ρ2
def DB (X : Cx) (G : Gd) (O : List Nat) (W : WX) (e : Expr) (b : Bx) : Prop := match b with
  | .ex m => DE X G O W e m
  | .ow j => O.contains j = true ∧ PE X e (tVar j)
section
variable {X : Cx} {G : Gd} {O : List Nat} {W : WX} {a b c e : Expr} {es : List Expr} {ma mb mc : ME} {ba bb : Bx} {mr : MA} {pos p : Pos} {x : Str}
theorem db_e (h : DE X G O W e ma) : DB X G O W e (.ex ma) := h
theorem db_o {j : Nat} (hj : O.contains j = true) (hy : PE X e (tVar j)) : DB X G O W e (.ow j) := ⟨hj, hy⟩
def tBx (K : PySem.W.Frag) (G : Gd) (O : List Nat) (W : WX) : Bx → TE
  | .ex m => tE K G O W m
  | .ow j => tVar j
theorem DB.pe (h : DB X G O W e ba) : PE X e (tBx X.K G O W ba) := by
  cases ba with
  | ex m => exact h
  | ow j => exact h.2
theorem own_at {K : PySem.W.Frag} {A : Addr → Prop} {ms : Nat → Option Addr} {σ : L2.St} {H : Hp} {ρ : En} {j : Nat} {d : D} (R : RelS K G O A ms σ H ρ) (hj : O.contains j = true) (h : getO ρ j = some d) : ∃ p, ms j = some p ∧ σ[j]? = some (some (.ref p)) ∧ Own K A H p d := R.ow j d (getO_some h) (List.contains_iff_mem.mp hj)
theorem own_b {K : PySem.W.Frag} {A : Addr → Prop} {H : Hp} {q : Addr} {d : D} (h : Own K A H q d) (n : ∀ c fs, d ≠ .obj c fs) : RpB K A H (.ref q) d := by
  cases h with
  | lst e r => exact .own e r
  | dK e k r => exact .ownK e k r
  | dT e k r => exact .ownT e k r
  | obj _ _ => exact absurd rfl (n _ _)
theorem op2B_go {r : R2} {g : D → D → Option D} {K : PySem.W.Frag} (hA : ∀ j, ba = .ow j → O.contains j = true) (hB : ∀ j, bb = .ow j → O.contains j = true) (hl : ∀ c fs z, g (.obj c fs) z = none) (hr' : ∀ c fs z, g z (.obj c fs) = none)
    (hr : ∀ x y H Q, rD2 K g x y H Q → r x y H Q) {σ : L2.St} {H : Hp} {Q : VK} (h : tE K G O W (m2B g ba bb) σ H Q) : tOp r (tBx K G O W ba) (tBx K G O W bb) σ H Q := by
  obtain ⟨A, ms, ρ, R, q⟩ := h
  -- the second operand and the operation, the first one lying as x at the end
  have snd : ∀ (x : V) (d0 : D) (ρ1 : En) (H1 : Hp), RelS K G O A ms σ H1 ρ1 → Kp O ms H H1 →
      (∀ ρ2 H2 d', RelS K G O A ms σ H2 ρ2 → Kp O ms H1 H2 → rdB ba d0 ρ2 = some d' → (∀ c fs, d' ≠ .obj c fs) → RpB K A H2 x d') →
      RPost K G O W A ms σ H1 (Rp K A) Q ((evB bb ρ1).bind fun y ρ2 => ret ((rdB ba d0 ρ2).bind fun x' => g x' y) ρ2) → tBx K G O W bb σ H1 fun y H2 => r x y H2 Q := by
    intro x d0 ρ1 H1 R1 k1 hx q1
    have fin : ∀ (y : V) (d2 : D) (ρ2 : En) (H2 : Hp), RelS K G O A ms σ H2 ρ2 → Kp O ms H1 H2 → ((∀ c fs, d2 ≠ .obj c fs) → RpB K A H2 y d2) → RPost K G O W A ms σ H2 (Rp K A) Q (ret ((rdB ba d0 ρ2).bind fun x' => g x' d2) ρ2) → r x y H2 Q := by
      intro y d2 ρ2 H2 R2' k2 r2 q2
      obtain ⟨z, hz, q3⟩ := rp_of R2' q2
      cases hd : rdB ba d0 ρ2 with
      | none => rw [hd] at hz; cases hz
      | some d' =>
        rw [hd] at hz
        have hz' : g d' d2 = some z := hz
        have n1 : ∀ c fs, d' ≠ .obj c fs := fun c fs w => by rw [w, hl] at hz'; cases hz'
        have n2 : ∀ c fs, d2 ≠ .obj c fs := fun c fs w => by rw [w, hr'] at hz'; cases hz'
        exact hr _ _ _ _ ⟨A, d', d2, z, R2'.trk, hx ρ2 H2 d' R2' k2 hd n1, r2 n2, hz', q3⟩
    cases bb with
    | ex m =>
      refine ⟨A, ms, ρ1, R1, RPost.mono (RPost.bind q1) ?_⟩
      rintro y H2 ⟨d2, ρ2, R2', k2, r2, q2⟩
      exact fin y d2 ρ2 H2 R2' k2 (fun _ => .of r2) q2
    | ow j =>
      unfold evB at q1
      cases hj : getO ρ1 j with
      | none => simp only [hj] at q1; exact q1.elim
      | some d2 =>
        simp only [hj] at q1
        obtain ⟨pj, h1, h2, h3⟩ := own_at R1 (hB j rfl) hj
        refine ⟨_, h2, fin _ d2 ρ1 H1 R1 Kp.refl (fun n => ?_) q1⟩
        exact own_b h3 n
  cases ba with
  | ex m =>
    refine ⟨A, ms, ρ, R, RPost.mono (RPost.bind q) ?_⟩
    rintro x H1 ⟨d, ρ1, R1, k1, r1, q1⟩
    exact snd x d ρ1 H1 R1 k1 (fun ρ2 H2 d' R2' k2 e _ => by cases e; exact .of (r1.tr (R1.kt k2))) q1
  | ow j =>
    have q' : RPost K G O W A ms σ H (Rp K A) Q ((evB (.ow j) ρ).bind fun x ρ1 => (evB bb ρ1).bind fun y ρ2 => ret ((rdB (.ow j) x ρ2).bind fun x' => g x' y) ρ2) := q
    have e1 : evB (.ow j) ρ = (match getO ρ j with | some d => .ok d ρ | none => .bad) := rfl
    rw [e1] at q'
    cases hj : getO ρ j with
    | none => simp only [hj] at q'; exact q'.elim
    | some d =>
      simp only [hj] at q'
      obtain ⟨pj, h1, h2, h3⟩ := own_at R (hA j rfl) hj
      refine ⟨_, h2, snd _ d ρ H R Kp.refl (fun ρ2 H2 d' R2' k2 e n => ?_) q'⟩
      obtain ⟨pj', h1', h2', h3'⟩ := own_at R2' (hA j rfl) e
      rw [h1] at h1'
      cases h1'
      exact own_b h3' n
theorem DB.own (h : DB X G O W e ba) : ∀ j, ba = .ow j → O.contains j = true := fun j w => by subst w; exact h.1
structure NoObj (g : D → D → Option D) : Prop where
  l : ∀ c fs z, g (.obj c fs) z = none
  r : ∀ c fs z, g z (.obj c fs) = none
theorem de_ixB {g : D → D → Option D} (hr : IxR X (rD2 X.K g)) (n : NoObj g) (ha : DB X G O W a ba) (hb : DB X G O W b bb) (hs : PlainIx b) : DE X G O W (.Subscript a b pos) (m2B g ba bb) :=
  pe_imp (pe_ix hr ha.pe hb.pe hs) fun _ _ _ h => op2B_go ha.own hb.own n.l n.r (fun _ _ _ _ z => z) h
theorem dt_cmpB {op : CmpOp} {g : D → D → Option D} (ho : OpR X (compareOp op) (rD2 X.K g)) (n : NoObj g) (ha : DB X G O W a ba) (hb : DB X G O W b bb) (hm : behindInMarks op b = false) : DT X G O W (.Compare a [op] [b] pos) (mTest (m2B g ba bb)) :=
  pt_imp (pt_cmpR ho ha.pe hb.pe hm) fun _ _ _ h => test_go (fun _ _ _ z => op2B_go ha.own hb.own n.l n.r (fun _ _ _ _ z => z) z) h
def mTruO (j : Nat) : MT := fun ρ => match getO ρ j with
  | some (.lst l) => .ok (!l.isEmpty) ρ
  | _ => .bad
theorem dt_truO {j : Nat} (hj : O.contains j = true) (ha : PE X a (tVar j)) (he : ∀ whole, isTrue a X.env whole = (do let v ← whole; standAt a.pos; holding [v] (truthy v)) := by intro _; rfl) : DT X G O W a (mTruO j) := by
  refine pt_imp (pt_truth ha he) fun σ H Q ⟨A, ms, ρ, R, q⟩ => ?_
  unfold mTruO at q
  split at q
  · rename_i l h
    obtain ⟨pj, h1, h2, h3⟩ := own_at R hj h
    refine ⟨_, h2, !l.isEmpty, ?_, q _ H R Kp.refl rfl⟩
    cases h3 with
    | lst e r =>
      refine .inl ⟨_, SqL.of e, ?_⟩
      cases r <;> rfl
  · exact q.elim
def gIx (a b : D) : Option D := match a, b with
  | .lst l, .int i => L2.atI l i
  | .scr l, .int i => L2.atI l i
  | .tup l, .int i => L2.atI l i
  | .str z, .int i => if z.length ≤ sizeLine then (L2.atI z.cps.toList i).map fun c => .str ⟨#[c]⟩ else none
  | _, _ => none
theorem gIx_no : NoObj gIx := ⟨fun _ _ z => by cases z <;> rfl, fun _ _ z => by cases z <;> rfl⟩
theorem at_rp {K : PySem.W.Frag} {A : Addr → Prop} {H : Hp} {xs : List V} {ds : List D} {i : Int} {d : D} (h : RpA K A H xs ds) (e : L2.atI ds i = some d) : ∃ v, L2.atI xs i = some v ∧ Rp K A H v d := by
  unfold L2.atI at e ⊢
  rw [h.length]
  cases hj : ixN ds.length i with
  | none => rw [hj] at e; cases e
  | some j =>
    rw [hj] at e
    exact h.get (show ds[j]? = some d from e)
theorem ix_d : IxR X (rD2 X.K gIx) := by
  intro value slice pins s σ H x y v u Q I rx ry ⟨A, a, b, d, t, pa, pb, e, q⟩ hs
  cases a with
  | lst l =>
    cases b with
    | int i =>
      obtain ⟨p, xs, rfl, h1, r1⟩ := pa.lst
      obtain ⟨w, hw, rw'⟩ := at_rp r1 (show L2.atI l i = some d from e)
      rw [pb.int] at ry
      exact ix_list value slice pins s σ H _ _ v u Q I rx ry ⟨p, xs, i, w, rfl, rfl, SqL.of h1, hw, q w H (Same.refl _) rw'⟩ hs
    | _ => cases e
  | scr l =>
    cases b with
    | int i =>
      obtain ⟨p, xs, rfl, h1, r1⟩ := pa.scr
      obtain ⟨w, hw, rw'⟩ := at_rp r1 (show L2.atI l i = some d from e)
      rw [pb.int] at ry
      exact ix_list value slice pins s σ H _ _ v u Q I rx ry ⟨p, xs, i, w, rfl, rfl, h1.sq, hw, q w H (Same.refl _) rw'⟩ hs
    | _ => cases e
  | tup l =>
    cases b with
    | int i =>
      obtain ⟨p, xs, rfl, h1, r1⟩ := pa.tup
      obtain ⟨w, hw, rw'⟩ := at_rp r1 (show L2.atI l i = some d from e)
      rw [pb.int] at ry
      exact ix_tup value slice pins s σ H _ _ v u Q I rx ry ⟨p, xs, i, w, rfl, rfl, h1.sq, hw, q w H (Same.refl _) rw'⟩ hs
    | _ => cases e
  | str z =>
    cases b with
    | int i =>
      have e' : (if z.length ≤ sizeLine then (L2.atI z.cps.toList i).map (fun c => D.str ⟨#[c]⟩) else none) = some d := e
      split at e'
      · rename_i hz
        obtain ⟨c, hc, rfl⟩ := map_some e'
        rw [pa.str] at rx
        rw [pb.int] at ry
        exact ix_str value slice pins s σ H _ _ v u Q I rx ry ⟨z, i, c, rfl, rfl, hz, hc, q _ H (Same.refl _) (.str _)⟩ hs
      · cases e'
    | _ => cases e
  | _ => cases b <;> cases e
def cutD (xs : List D) (lo hi : Option Int) : List D := (xs.drop (HT.sIx xs.length 0 lo)).take (HT.sIx xs.length xs.length hi - HT.sIx xs.length 0 lo)
def gSl (d : D) (lo hi : Option Int) : Option D := match d with
  | .lst l => some (.lst (cutD l lo hi))
  | .tup l => some (.tup (cutD l lo hi))
  | .str z => if z.length ≤ sizeLine then some (.str (L2.cutS z lo hi)) else none
  | _ => none
theorem cut_rp {K : PySem.W.Frag} {A : Addr → Prop} {H : Hp} {xs : List V} {ds : List D} (h : RpA K A H xs ds) (lo hi : Option Int) : RpA K A H (L2.cutV xs lo hi) (cutD ds lo hi) := by
  unfold L2.cutV cutD
  rw [h.length]
  exact (h.drop _).take _
def rSlD (K : PySem.W.Frag) : V → Option Int → Option Int → Hp → VK → Prop := fun x lo hi H Q => ∃ A a d, Trk A H ∧ RpB K A H x a ∧ gSl a lo hi = some d ∧ ∀ v H', Same H H' → Rp K A H' v d → Fr K A H H' v d → Q v H'
theorem cutD_whole {l : List D} {lo hi : Option Int} (h : HT.sIx l.length 0 lo = 0 ∧ HT.sIx l.length l.length hi = l.length) : cutD l lo hi = l := by
  unfold cutD
  rw [h.1, h.2, List.drop_zero, Nat.sub_zero, List.take_length]
theorem sl_d : SlR X (rSlD X.K) := by
  intro pins s σ H x v vl vu lo hi sl Q I rx hs pl pu ⟨A, a, d, t, pa, e, q⟩
  cases a with
  | lst l =>
    cases e
    obtain ⟨p, xs, rfl, h1, r1⟩ := pa.lst
    exact sl_list pins s σ H _ v vl vu lo hi sl Q I rx hs pl pu ⟨p, xs, rfl, SqL.of h1, fun r hr => q _ _ (same_upd hr) (new_lst t (cut_rp r1 lo hi) hr) (new_fr t (cut_rp r1 lo hi) hr)⟩
  | tup l =>
    cases e
    obtain ⟨p, xs, rfl, h1, r1⟩ := pa.tup
    have hl := r1.length
    refine sl_tupA pins s σ H _ v vl vu lo hi sl Q I rx hs pl pu ⟨p, xs, rfl, h1.sq, fun w => ?_, fun _ r hr => q _ _ (same_upd hr) (new_tup t (cut_rp r1 lo hi) hr) (no_fr fun _ => nofun)⟩
    rw [hl] at w
    rw [cutD_whole w] at q
    exact q _ _ (Same.refl _) (.tup h1 r1) (no_fr fun _ => nofun)
  | str z =>
    obtain ⟨hz, rfl⟩ := ite_d (x := .str (L2.cutS z lo hi)) e
    rw [pa.str] at rx
    exact sl_str pins s σ H _ v vl vu lo hi sl Q I rx hs pl pu ⟨z, rfl, hz, q _ H (Same.refl _) (.str _) (no_fr fun _ => nofun)⟩
  | _ => cases e
abbrev MP := En → R (Option Int)
def mNoP : MP := fun ρ => .ok none ρ
def asI : D → Option (Option Int)
  | .int i => some (some i)
  | _ => none
def mPart (m : ME) : MP := fun ρ => (m ρ).bind fun d ρ1 => ret (asI d) ρ1
def tP (K : PySem.W.Frag) (G : Gd) (O : List Nat) (W : WX) (m : MP) : TO := fun σ H Q => ∃ A ms ρ, RelS K G O A ms σ H ρ ∧ RPost K G O W A ms σ H (fun _ => Eq) Q (m ρ)
def DP (X : Cx) (G : Gd) (O : List Nat) (W : WX) (e : Option Expr) (m : MP) : Prop := PO X e (tP X.K G O W m)
theorem po_imp {e : Option Expr} {t t' : TO} (h : PO X e t) (w : ∀ σ H Q, t' σ H Q → t σ H Q) : PO X e t' := ⟨fun pins s σ H Q I q => h.run pins s σ H Q I (w σ H Q q)⟩
theorem dp_no : DP X G O W none mNoP := po_imp po_none fun σ H Q ⟨A, ms, ρ, R, q⟩ => q none H R Kp.refl rfl
theorem dp_e (h : DE X G O W e ma) : DP X G O W (some e) (mPart ma) := by
  refine po_imp (po_some h) fun σ H Q ⟨A, ms, ρ, R, q⟩ => ⟨A, ms, ρ, R, RPost.mono (RPost.bind q) ?_⟩
  rintro x H1 ⟨d, ρ1, R1, k1, r1, q1⟩
  obtain ⟨z, hz, q2⟩ := rp_of (rel := fun _ => @Eq (Option Int)) R1 q1
  cases d with
  | int i =>
    cases hz
    cases r1
    exact ⟨i, rfl, q2 _ H1 (Same.refl _) rfl⟩
  | _ => cases hz
def mSl (b : Bx) (l h : MP) : ME := fun ρ => (evB b ρ).bind fun x ρ1 => (l ρ1).bind fun lo ρ2 => (h ρ2).bind fun hi ρ3 => ret ((rdB b x ρ3).bind fun x' => gSl x' lo hi) ρ3
theorem fpost_of {K : PySem.W.Frag} {A : Addr → Prop} {ms : Nat → Option Addr} {σ : L2.St} {H H1 : Hp} {Q : VK} {ρ1 : En} {d : D} {v : V} {H2 : Hp} (h : FPost K G O W A ms σ H Q (.ok d ρ1)) (R : RelS K G O A ms σ H1 ρ1) (k : Kp O ms H H1) (s : Same H1 H2) (hl : ∃ l, d = .lst l) (f : Fr K A H1 H2 v d) : Q v H2 := by
  obtain ⟨l, rfl⟩ := hl
  obtain ⟨p, rfl, hp, ow⟩ := f l rfl
  obtain ⟨o, e⟩ := ow.there
  exact h p H2 (R.same s) (R.grow hp s e) (k.trans (Kp.same s)) (Kp.none R k hp) ow
theorem FPost.from {K : PySem.W.Frag} {A : Addr → Prop} {ms : Nat → Option Addr} {σ : L2.St} {H H1 : Hp} {ρ1 : En} {Q : VK} {r : R D} (R : RelS K G O A ms σ H1 ρ1) (k : Kp O ms H H1) (h : FPost K G O W A ms σ H Q r) : FPost K G O W A ms σ H1 Q r := by
  cases r with
  | ok d ρ => exact fun p H' R1 R2 k' hp ow => h p H' R1 R2 (k.trans k') (Kp.none R k hp) ow
  | ex x ρ => exact fun dx H' R1 k' q => h dx H' R1 (k.trans k') q
  | bad => exact h
theorem FPost.bind {α β : Type} {K : PySem.W.Frag} {A : Addr → Prop} {ms : Nat → Option Addr} {σ : L2.St} {H : Hp} {Q : VK} {rel : Hp → β → α → Prop} {r : R α} {f : α → En → R D} (h : FPost K G O W A ms σ H Q (r.bind f)) :
    RPost K G O W A ms σ H rel (fun v H1 => ∃ d ρ1, RelS K G O A ms σ H1 ρ1 ∧ Kp O ms H H1 ∧ rel H1 v d ∧ FPost K G O W A ms σ H1 Q (f d ρ1)) r := by
  cases r with
  | ok d ρ => exact fun v H' R k' q => ⟨d, ρ, R, k', q, FPost.from R k' h⟩
  | ex x ρ => exact h
  | bad => exact h
def isL (d : D) : Option D := match d with
  | .lst l => some (.lst l)
  | _ => none
theorem fp_fin {K : PySem.W.Frag} {A : Addr → Prop} {ms : Nat → Option Addr} {σ : L2.St} {H1 H2 : Hp} {Q : VK} {ρ1 : En} {g : Option D} {d : D} {v : V} (h : FPost K G O W A ms σ H1 Q (ret (g.bind isL) ρ1)) (hg : g = some d) (R : RelS K G O A ms σ H1 ρ1) (s : Same H1 H2) (f : Fr K A H1 H2 v d) : Q v H2 := by
  subst hg
  cases d with
  | lst l => exact fpost_of (d := .lst l) h R Kp.refl s ⟨l, rfl⟩ f
  | _ => exact h.elim
theorem fp_some {K : PySem.W.Frag} {A : Addr → Prop} {ms : Nat → Option Addr} {σ : L2.St} {H1 : Hp} {Q : VK} {ρ1 : En} {g : Option D} (h : FPost K G O W A ms σ H1 Q (ret (g.bind isL) ρ1)) : ∃ l, g = some (.lst l) := by
  cases g with
  | none => exact h.elim
  | some d => cases d with
    | lst l => exact ⟨l, rfl⟩
    | _ => exact h.elim
def mL (m : ME) : ME := fun ρ => (m ρ).bind fun d ρ1 => ret (isL d) ρ1
variable {lo hi : Option Expr} {ml mh : MP} {p2 : Pos}
theorem sl_go {K : PySem.W.Frag} (hA : ∀ j, ba = .ow j → O.contains j = true) {σ : L2.St} {H : Hp} {Q : VK} (h : tE K G O W (mSl ba ml mh) σ H Q) : tSl (rSlD K) (tBx K G O W ba) (tP K G O W ml) (tP K G O W mh) σ H Q := by
  obtain ⟨A, ms, ρ, R, q⟩ := h
  have snd : ∀ (x : V) (d0 : D) (ρ1 : En) (H1 : Hp), RelS K G O A ms σ H1 ρ1 → (∀ ρ2 H2 d', RelS K G O A ms σ H2 ρ2 → Kp O ms H1 H2 → rdB ba d0 ρ2 = some d' → (∀ c fs, d' ≠ .obj c fs) → RpB K A H2 x d') →
      RPost K G O W A ms σ H1 (Rp K A) Q ((ml ρ1).bind fun lo ρ2 => (mh ρ2).bind fun hi ρ3 => ret ((rdB ba d0 ρ3).bind fun x' => gSl x' lo hi) ρ3) → tP K G O W ml σ H1 fun l H2 => tP K G O W mh σ H2 fun u H3 => rSlD K x l u H3 Q := by
    intro x d0 ρ1 H1 R1 hx q1
    refine ⟨A, ms, ρ1, R1, RPost.mono (RPost.bind q1) ?_⟩
    rintro l H2 ⟨lo, ρ2, R2', k2, rfl, q2⟩
    refine ⟨A, ms, ρ2, R2', RPost.mono (RPost.bind q2) ?_⟩
    rintro u H3 ⟨hi, ρ3, R3, k3, rfl, q3⟩
    obtain ⟨z, hz, q4⟩ := rp_of R3 q3
    cases hd : rdB ba d0 ρ3 with
    | none => rw [hd] at hz; cases hz
    | some d' =>
      rw [hd] at hz
      exact ⟨A, d', z, R3.trk, hx ρ3 H3 d' R3 (k2.trans k3) hd (fun c fs w => by subst w; cases hz), hz, fun v H' s r _ => q4 v H' s r⟩
  cases ba with
  | ex m =>
    refine ⟨A, ms, ρ, R, RPost.mono (RPost.bind q) ?_⟩
    rintro x H1 ⟨d, ρ1, R1, k1, r1, q1⟩
    exact snd x d ρ1 H1 R1 (fun ρ2 H2 d' R2' k2 e _ => by cases e; exact .of (r1.tr (R1.kt k2))) q1
  | ow j =>
    have q' : RPost K G O W A ms σ H (Rp K A) Q ((evB (.ow j) ρ).bind fun x ρ1 => (ml ρ1).bind fun lo ρ2 => (mh ρ2).bind fun hi ρ3 => ret ((rdB (.ow j) x ρ3).bind fun x' => gSl x' lo hi) ρ3) := q
    have e1 : evB (.ow j) ρ = (match getO ρ j with | some d => .ok d ρ | none => .bad) := rfl
    rw [e1] at q'
    cases hj : getO ρ j with
    | none => simp only [hj] at q'; exact q'.elim
    | some d =>
      simp only [hj] at q'
      obtain ⟨pj, h1, h2, h3⟩ := own_at R (hA j rfl) hj
      refine ⟨_, h2, snd _ d ρ H R (fun ρ2 H2 d' R2' k2 e n => ?_) q'⟩
      obtain ⟨pj', h1', h2', h3'⟩ := own_at R2' (hA j rfl) e
      rw [h1] at h1'
      cases h1'
      exact own_b h3' n
theorem de_sl (ha : DB X G O W a ba) (hl : DP X G O W lo ml) (hh : DP X G O W hi mh) : DE X G O W (.Subscript a (.Slice lo hi none p2) pos) (mSl ba ml mh) := pe_imp (pe_slice sl_d ha.pe hl hh) fun _ _ _ h => sl_go ha.own h
def m2F (g : D → D → Option D) (a b : ME) : ME := fun ρ => (a ρ).bind fun x ρ1 => (b ρ1).bind fun y ρ2 => ret ((g x y).bind isL) ρ2
theorem df_bin {op : Operator} {g : D → D → Option D} (ho : OpR X (binaryOp op) (rF2 X.K g)) (ha : DE X G O W a ma) (hb : DE X G O W b mb) : DF X G O W (.BinOp a op b pos) (m2F g ma mb) := by
  refine pe_imp (pe_op ho ha hb) fun σ H Q ⟨A, ms, ρ, R, q⟩ => ⟨A, ms, ρ, R, RPost.mono (FPost.bind q) ?_⟩
  rintro x H1 ⟨d, ρ1, R1, k1, r1, q1⟩
  refine ⟨A, ms, ρ1, R1, RPost.mono (FPost.bind q1) ?_⟩
  rintro y H2 ⟨d2, ρ2, R2', k2, r2, q2⟩
  obtain ⟨z, hz⟩ := fp_some q2
  exact ⟨A, d, d2, _, R2'.trk, .of (r1.tr (R1.kt k2)), .of r2, hz, fun v H' s r f => fp_fin q2 hz R2' s f⟩
theorem cN_go {g : List D → Option D} {K : PySem.W.Frag} {σ : L2.St} {H : Hp} {Q : VK} (h : tE K G O W (mN g mr) σ H Q) : tCB (rDN K g) (tA K G O W mr) σ H Q := by
  obtain ⟨A, ms, ρ, R, q⟩ := h
  refine ⟨A, ms, ρ, R, RPost.mono (RPost.bind q) ?_⟩
  rintro vs H1 ⟨ds, ρ1, R1, k1, r1, q1⟩
  obtain ⟨z, hz, q2⟩ := rp_of R1 q1
  exact ⟨A, ds, z, R1.trk, .inl r1, hz, q2⟩
def mNF (g : List D → Option D) (a : MA) : ME := fun ρ => (a ρ).bind fun xs ρ1 => ret ((g xs).bind isL) ρ1
theorem cF_go {g : List D → Option D} {K : PySem.W.Frag} {σ : L2.St} {H : Hp} {Q : VK} (h : tF K G O W (mNF g mr) σ H Q) : tCB (rFN K g) (tA K G O W mr) σ H Q := by
  obtain ⟨A, ms, ρ, R, q⟩ := h
  refine ⟨A, ms, ρ, R, RPost.mono (FPost.bind q) ?_⟩
  rintro vs H1 ⟨ds, ρ1, R1, k1, r1, q1⟩
  obtain ⟨z, hz⟩ := fp_some q1
  exact ⟨A, ds, _, R1.trk, .inl r1, hz, fun v H' s r f => fp_fin q1 hz R1 s f⟩
theorem rFN.weak {f : Value} {g : List D → Option D} (h : CallR X f (rFN X.K g)) : CallR X f (rDN X.K g) := fun pins s σ H xs us Q I r ⟨A, ds, d, t, p, e, q⟩ => h pins s σ H xs us Q I r ⟨A, ds, d, t, p, e, fun v H' s r _ => q v H' s r⟩
def mNO (g : List D → Option D) (j : Nat) : ME := fun ρ => match getO ρ j with
  | some (.lst l) => ret (g [.lst l]) ρ
  | _ => .bad
def tOwn1 (j : Nat) : TA := tCons (tVar j) tNil
theorem cNO_go {g : List D → Option D} {K : PySem.W.Frag} {j : Nat} (hj : O.contains j = true) {σ : L2.St} {H : Hp} {Q : VK} (h : tE K G O W (mNO g j) σ H Q) : tCB (rDN K g) (tOwn1 j) σ H Q := by
  obtain ⟨A, ms, ρ, R, q⟩ := h
  unfold mNO at q
  split at q
  · rename_i l hl
    obtain ⟨pj, h1, h2, h3⟩ := own_at R hj hl
    obtain ⟨z, hz, q2⟩ := rp_of R q
    exact ⟨_, h2, A, _, z, R.trk, .inr ⟨_, _, rfl, rfl, own_b h3 (fun _ _ => nofun)⟩, hz, q2⟩
  · exact q.elim
section
variable {id T : String} {g : List D → Option D} {j : Nat}
theorem de_b (hv : bootBuiltins x = some (.builtin id)) (hc : CallR X (.builtin id) (rDN X.K g)) (hg : Gl X x) (hm : X.mg x = none) (ha : DA X G O W (e :: es) mr) (hn : x ≠ "__name__" := by decide) (hdb : (x == ("__debug__" : Str)) = false := by decide)
    (he : starEach (e :: es) X.env = (false, eval e X.env) :: starEach es X.env := by rfl) (hpl : (backTo pos (starEach es X.env)).any (·.1) = false := by rfl) : DE X G O W (.Call (.Name x p) (e :: es) [] pos) (mN g mr) :=
  pe_imp (pe_callB hc hg hm hv ha hn hdb he hpl) fun _ _ _ h => cN_go h
theorem de_ty (hv : bootBuiltins x = some (.type T)) (hc : CallR X (.type T) (rDN X.K g)) (hg : Gl X x) (hm : X.mg x = none) (ha : DA X G O W (e :: es) mr) (hn : x ≠ "__name__" := by decide) (hdb : (x == ("__debug__" : Str)) = false := by decide)
    (he : starEach (e :: es) X.env = (false, eval e X.env) :: starEach es X.env := by rfl) (hpl : (backTo pos (starEach es X.env)).any (·.1) = false := by rfl) : DE X G O W (.Call (.Name x p) (e :: es) [] pos) (mN g mr) :=
  pe_imp (pe_callTy hc hg hm hv ha hn hdb he hpl) fun _ _ _ h => cN_go h
theorem df_ty (hv : bootBuiltins x = some (.type T)) (hc : CallR X (.type T) (rFN X.K g)) (hg : Gl X x) (hm : X.mg x = none) (ha : DA X G O W (e :: es) mr) (hn : x ≠ "__name__" := by decide) (hdb : (x == ("__debug__" : Str)) = false := by decide)
    (he : starEach (e :: es) X.env = (false, eval e X.env) :: starEach es X.env := by rfl) (hpl : (backTo pos (starEach es X.env)).any (·.1) = false := by rfl) : DF X G O W (.Call (.Name x p) (e :: es) [] pos) (mNF g mr) :=
  pe_imp (pe_callTy hc hg hm hv ha hn hdb he hpl) fun _ _ _ h => cF_go h
theorem pa_own (hy : PE X e (tVar j)) (hs : starEach [e] X.env = (false, eval e X.env) :: starEach [] X.env := by rfl) : PA X [e] (tOwn1 j) := pa_cons hy pa_nil hs
theorem de_bO (hj : O.contains j = true) (hv : bootBuiltins x = some (.builtin id)) (hc : CallR X (.builtin id) (rDN X.K g)) (hg : Gl X x) (hm : X.mg x = none) (hy : PE X e (tVar j)) (hn : x ≠ "__name__" := by decide) (hdb : (x == ("__debug__" : Str)) = false := by decide)
    (he : starEach [e] X.env = (false, eval e X.env) :: starEach [] X.env := by rfl) (hpl : (backTo pos (starEach [] X.env)).any (·.1) = false := by rfl) : DE X G O W (.Call (.Name x p) [e] [] pos) (mNO g j) :=
  pe_imp (pe_callB hc hg hm hv (pa_own hy he) hn hdb he hpl) fun _ _ _ h => cNO_go hj h
theorem de_tyO (hj : O.contains j = true) (hv : bootBuiltins x = some (.type T)) (hc : CallR X (.type T) (rDN X.K g)) (hg : Gl X x) (hm : X.mg x = none) (hy : PE X e (tVar j)) (hn : x ≠ "__name__" := by decide) (hdb : (x == ("__debug__" : Str)) = false := by decide)
    (he : starEach [e] X.env = (false, eval e X.env) :: starEach [] X.env := by rfl) (hpl : (backTo pos (starEach [] X.env)).any (·.1) = false := by rfl) : DE X G O W (.Call (.Name x p) [e] [] pos) (mNO g j) :=
  pe_imp (pe_callTy hc hg hm hv (pa_own hy he) hn hdb he hpl) fun _ _ _ h => cNO_go hj h
end
end
end DL
namespace DL
open L2 PySem PySem.Spec PyProof.Rows
def asInts : List D → Option (List Int)
  | [] => some []
  | .int i :: r => (asInts r).map (i :: ·)
  | _ :: _ => none
def asBls : List D → Option (List Bool)
  | [] => some []
  | .bl i :: r => (asBls r).map (i :: ·)
  | _ :: _ => none
theorem asInts_eq : ∀ {l : List D} {ns : List Int}, asInts l = some ns → l = ns.map D.int
  | [], _, e => by cases e; rfl
  | .int i :: r, _, e => by
    obtain ⟨k, hk, rfl⟩ := map_some (show (asInts r).map (i :: ·) = some _ from e)
    rw [asInts_eq hk]; rfl
  | .non :: _, _, e => by cases e
  | .bl _ :: _, _, e => by cases e
  | .str _ :: _, _, e => by cases e
  | .tup _ :: _, _, e => by cases e
  | .lst _ :: _, _, e => by cases e
  | .scr _ :: _, _, e => by cases e
  | .fn _ :: _, _, e => by cases e
  | .obj _ _ :: _, _, e => by cases e
  | .exn _ _ :: _, _, e => by cases e
theorem asBls_eq : ∀ {l : List D} {ns : List Bool}, asBls l = some ns → l = ns.map D.bl
  | [], _, e => by cases e; rfl
  | .bl i :: r, _, e => by
    obtain ⟨k, hk, rfl⟩ := map_some (show (asBls r).map (i :: ·) = some _ from e)
    rw [asBls_eq hk]; rfl
  | .non :: _, _, e => by cases e
  | .int _ :: _, _, e => by cases e
  | .str _ :: _, _, e => by cases e
  | .tup _ :: _, _, e => by cases e
  | .lst _ :: _, _, e => by cases e
  | .scr _ :: _, _, e => by cases e
  | .fn _ :: _, _, e => by cases e
  | .obj _ _ :: _, _, e => by cases e
  | .exn _ _ :: _, _, e => by cases e
theorem asBls_map (ns : List Bool) : asBls (ns.map D.bl) = some ns := by
  induction ns with
  | nil => rfl
  | cons n ns ih => rw [List.map_cons]; unfold asBls; rw [ih]; rfl
def gLen : List D → Option D
  | [.lst l] => some (.int l.length)
  | [.tup l] => some (.int l.length)
  | [.scr l] => some (.int l.length)
  | [.str z] => if z.length ≤ sizeLine then some (.int z.length) else none
  | _ => none
def gAbs : List D → Option D
  | [.int i] => some (.int (if i < 0 then -i else i))
  | _ => none
def gInt : List D → Option D
  | [.int i] => some (.int i)
  | [.bl k] => some (.int (if k then 1 else 0))
  | [.str a] => if a.length ≤ 640 then (PySem.intText? a).map D.int else none
  | _ => none
def shownD (d : D) : Option Str := match d.py with
  | some x => if x.showable = true ∧ x.shown.length ≤ sizeLine ∧ x.depth ≤ 60 then some x.shown else none
  | none => none
def gRepr : List D → Option D
  | [d] => (shownD d).map D.str
  | _ => none
def gStr : List D → Option D
  | [.str a] => some (.str a)
  | [.int i] => if i.natAbs.log2 < 1920 then some (.str (toString i)) else none
  | [.lst l] => (shownD (.lst l)).map D.str
  | [.tup l] => (shownD (.tup l)).map D.str
  | _ => none
def gAll : List D → Option D
  | [.lst l] => (asBls l).map fun bs => .bl (bs.all id)
  | _ => none
def gAny : List D → Option D
  | [.lst l] => (asBls l).map fun bs => .bl (bs.any id)
  | _ => none
def gSum : List D → Option D
  | [.lst l] => (asInts l).map fun ns => .int ns.sum
  | _ => none
def gList : List D → Option D
  | [.lst l] => some (.lst l)
  | [.tup l] => some (.lst l)
  | [.scr l] => some (.lst l)
  | [.str z] => if z.length ≤ sizeLine then some (.lst (chars z)) else none
  | _ => none
def gTuple : List D → Option D
  | [.lst l] => some (.tup l)
  | [.scr l] => some (.tup l)
  | [.tup l] => some (.tup l)
  | _ => none
theorem one_arg {K : PySem.W.Frag} {A : Addr → Prop} {H : Hp} {xs : List V} {a : D} (h : RpA K A H xs [a] ∨ ∃ v c, xs = [v] ∧ [a] = [c] ∧ RpB K A H v c) : ∃ v, xs = [v] ∧ RpB K A H v a := by
  rcases h with h | ⟨v, c, rfl, e, h⟩
  · cases h with
    | cons h t => cases t; exact ⟨_, rfl, .of h⟩
  · cases e; exact ⟨_, rfl, h⟩
section
variable {X : Cx}
theorem b_len : CallR X (.builtin "len") (rDN X.K gLen) := by
  intro pins s σ H xs us Q I r ⟨A, ds, d, t, p, e, q⟩
  unfold gLen at e
  split at e
  · rename_i l
    cases e
    obtain ⟨v, rfl, hv⟩ := one_arg p
    obtain ⟨a, ys, rfl, h, rr⟩ := hv.lst
    exact call_len_seq pins s σ H _ us Q I r ⟨a, ys, rfl, .inl (SqL.of h), by rw [rr.length]; exact q _ _ (Same.refl _) (.int _)⟩
  · rename_i l
    cases e
    obtain ⟨v, rfl, hv⟩ := one_arg p
    obtain ⟨a, ys, rfl, h, rr⟩ := hv.tup
    exact call_len_seq pins s σ H _ us Q I r ⟨a, ys, rfl, .inr h.sq, by rw [rr.length]; exact q _ _ (Same.refl _) (.int _)⟩
  · rename_i l
    cases e
    obtain ⟨v, rfl, hv⟩ := one_arg p
    obtain ⟨a, ys, rfl, h, rr⟩ := hv.scr
    exact call_len_seq pins s σ H _ us Q I r ⟨a, ys, rfl, .inl h.sq, by rw [rr.length]; exact q _ _ (Same.refl _) (.int _)⟩
  · rename_i z
    obtain ⟨hz, rfl⟩ := ite_d (x := .int z.length) e
    obtain ⟨v, rfl, hv⟩ := one_arg p
    rw [hv.str] at r
    exact call_len_str pins s σ H _ us Q I r ⟨z, rfl, hz, q _ _ (Same.refl _) (.int _)⟩
  · cases e
theorem b_abs : CallR X (.builtin "abs") (rDN X.K gAbs) := by
  intro pins s σ H xs us Q I r ⟨A, ds, d, t, p, e, q⟩
  unfold gAbs at e
  split at e
  · rename_i i
    cases e
    obtain ⟨v, rfl, hv⟩ := one_arg p
    rw [hv.int] at r
    exact call_abs pins s σ H _ us Q I r ⟨i, rfl, q _ _ (Same.refl _) (.int _)⟩
  · cases e
theorem b_int : CallR X (.type "int") (rDN X.K gInt) := by
  intro pins s σ H xs us Q I r ⟨A, ds, d, t, p, e, q⟩
  unfold gInt at e
  split at e
  · rename_i i
    cases e
    obtain ⟨v, rfl, hv⟩ := one_arg p
    rw [hv.int] at r
    exact call_int1 pins s σ H _ us Q I r (.inl ⟨i, rfl, q _ _ (Same.refl _) (.int _)⟩)
  · rename_i i
    cases e
    obtain ⟨v, rfl, hv⟩ := one_arg p
    rw [hv.bl] at r
    exact call_int1 pins s σ H _ us Q I r (.inr ⟨i, rfl, q _ _ (Same.refl _) (.int _)⟩)
  · rename_i a
    split at e
    · rename_i hz
      obtain ⟨n, hn, rfl⟩ := map_some e
      obtain ⟨v, rfl, hv⟩ := one_arg p
      rw [hv.str] at r
      exact call_int_str pins s σ H _ us Q I r ⟨a, n, rfl, hn, hz, q _ _ (Same.refl _) (.int _)⟩
    · cases e
  · cases e
mutual
theorem py_noDict : ∀ {d : D} {x : PyData}, d.py = some x → x.hasDict = false
  | .non, _, e => by cases e; simp only [PyData.hasDict]
  | .bl _, _, e => by cases e; simp only [PyData.hasDict]
  | .int _, _, e => by cases e; simp only [PyData.hasDict]
  | .str _, _, e => by cases e; simp only [PyData.hasDict]
  | .tup ds, _, e => by
    unfold D.py at e
    cases hp : pyAll ds with
    | none => rw [hp] at e; cases e
    | some ys => rw [hp] at e; cases e; simp only [PyData.hasDict]; exact pyAll_noDict hp
  | .lst ds, _, e => by
    unfold D.py at e
    cases hp : pyAll ds with
    | none => rw [hp] at e; cases e
    | some ys => rw [hp] at e; cases e; simp only [PyData.hasDict]; exact pyAll_noDict hp
  | .scr _, _, e => by unfold D.py at e; cases e
  | .fn _, _, e => by unfold D.py at e; cases e
  | .obj _ _, _, e => by unfold D.py at e; cases e
  | .exn _ _, _, e => by unfold D.py at e; cases e
theorem pyAll_noDict : ∀ {d : List D} {x : List PyData}, pyAll d = some x → PyData.hasDictAll x = false
  | [], _, e => by cases e; simp only [PyData.hasDictAll]
  | d :: ds, _, e => by
    unfold pyAll at e
    cases h1 : d.py with
    | none => rw [h1] at e; cases e
    | some y =>
      rw [h1] at e
      cases h2 : pyAll ds with
      | none => rw [h2] at e; cases e
      | some ys => rw [h2] at e; cases e; simp only [PyData.hasDictAll, py_noDict h1, pyAll_noDict h2, Bool.or_self]
end
theorem shownD_some {d : D} {z : Str} (e : shownD d = some z) : ∃ x, d.py = some x ∧ x.showable = true ∧ x.shown.length ≤ sizeLine ∧ x.depth ≤ 60 ∧ z = x.shown := by
  unfold shownD at e
  split at e
  · rename_i x hx
    split at e
    · rename_i h
      cases e
      exact ⟨x, hx, h.1, h.2.1, h.2.2, rfl⟩
    · cases e
  · cases e
theorem b_repr (hg : X.A.guards = some []) (hu : X.A.units + 64 < cLine) : CallR X (.builtin "repr") (rDN X.K gRepr) := by
  intro pins s σ H xs us Q I r ⟨A, ds, d, t, p, e, q⟩
  unfold gRepr at e
  split at e
  · rename_i c
    obtain ⟨z, hz, rfl⟩ := map_some e
    obtain ⟨v, rfl, hv⟩ := one_arg p
    obtain ⟨x, hx, h1, h2, h3, rfl⟩ := shownD_some hz
    have dp := hv.dp hx
    obtain ⟨u, rfl, ru⟩ := vals1 r
    have fin : ∀ h' tk u', (∀ b o, s.heap.get? b = some o → h'.get? b = some o) → EP X pins σ Q (.str x.shown u') { s with heap := h', toks := tk } := fun h' tk u' hk => ⟨.str x.shown, H, I.kept hk, ⟨_, rfl⟩, q _ _ (Same.refl _) (.str _)⟩
    have nd := py_noDict hx
    obtain ⟨as, rd⟩ := Dp.reads I x v u dp ru
    cases rd with
    | none =>
      refine PySem.P.repr_of_none ?_
      exact ⟨.str _, H, I.tok _, ⟨_, rfl⟩, q _ _ (Same.refl _) (.str _)⟩
    | bool b =>
      refine PySem.P.repr_of_bool ?_
      refine ⟨.str _, H, I.tok _, ⟨_, rfl⟩, ?_⟩
      have := q _ H (Same.refl _) (.str _)
      simpa [PyData.shown] using this
    | int i t =>
      refine PySem.P.repr_of_int (by simpa [PyData.showable] using h1) ?_
      refine ⟨.str _, H, I.tok _, ⟨_, rfl⟩, ?_⟩
      have := q _ H (Same.refl _) (.str _)
      simpa [PyData.shown] using this
    | str y t =>
      refine PySem.P.repr_of_str (Q := EP X pins σ Q) ?_ (by simpa [PyData.shown] using h2)
      refine ⟨.str _, H, I.tok _, ⟨_, rfl⟩, ?_⟩
      have := q _ H (Same.refl _) (.str _)
      simpa [PyData.shown] using this
    | list a1 a2 a3 a4 =>
      refine repr_of_reads' (h₀ := s.heap) (Reads.list a1 a2 a3 a4) h1 (PyData.noDict_hsm nd) hg (by omega) (fun _ _ z => z) (fun h' u' tk hk => fin h' tk u' hk) h2
    | tuple a1 a2 a3 a4 =>
      refine repr_of_reads' (h₀ := s.heap) (Reads.tuple a1 a2 a3 a4) h1 (PyData.noDict_hsm nd) hg (by omega) (fun _ _ z => z) (fun h' u' tk hk => fin h' tk u' hk) h2
    | dict => simp [PyData.hasDict] at nd
  · cases e
theorem str_seq (hg : X.A.guards = some []) (hu : X.A.units + 64 < cLine) {pins : List (Addr × Obj)} {s : Shared} {σ : L2.St} {H : Hp} {us : List Value} {Q : VK} {A : Addr → Prop} {v : V} {c : D} {z : Str} (I : Inv X pins σ H s) (r : Vals [v] us) (hv : RpB X.K A H v c) (hc : (∃ l, c = .lst l) ∨ ∃ l, c = .tup l)
    (hz : shownD c = some z) (q : ∀ v H', Same H H' → Rp X.K A H' v (.str z) → Q v H') : wpAny (model X.prog X.w) X.A (call (.type "str") us) (EP X pins σ Q) X.xe s := by
  obtain ⟨x, hx, h1, h2, h3, rfl⟩ := shownD_some hz
  have dp := hv.dp hx
  obtain ⟨u, rfl, ru⟩ := vals1 r
  have fin : ∀ h' tk u', (∀ b o, s.heap.get? b = some o → h'.get? b = some o) → EP X pins σ Q (.str x.shown u') { s with heap := h', toks := tk } := fun h' tk u' hk => ⟨.str x.shown, H, I.kept hk, ⟨_, rfl⟩, q _ _ (Same.refl _) (.str _)⟩
  have nd := py_noDict hx
  obtain ⟨as, rd⟩ := Dp.reads I x v u dp ru
  have ok : (∃ l, x = .list l) ∨ ∃ l, x = .tuple l := by
    rcases hc with ⟨l, rfl⟩ | ⟨l, rfl⟩
    · unfold D.py at hx
      obtain ⟨k, _, rfl⟩ := map_some hx
      exact .inl ⟨_, rfl⟩
    · unfold D.py at hx
      obtain ⟨k, _, rfl⟩ := map_some hx
      exact .inr ⟨_, rfl⟩
  cases rd with
  | list a1 a2 a3 a4 => exact str_of_reads (h₀ := s.heap) (Reads.list a1 a2 a3 a4) h1 (PyData.noDict_hsm nd) hg (by omega) (fun _ _ z => z) (fun h' u' tk hk => fin h' tk u' hk) h2
  | tuple a1 a2 a3 a4 => exact str_of_reads (h₀ := s.heap) (Reads.tuple a1 a2 a3 a4) h1 (PyData.noDict_hsm nd) hg (by omega) (fun _ _ z => z) (fun h' u' tk hk => fin h' tk u' hk) h2
  | _ =>
    rcases ok with ⟨l, ok⟩ | ⟨l, ok⟩ <;> cases ok
theorem b_str (hg : X.A.guards = some []) (hu : X.A.units + 64 < cLine) : CallR X (.type "str") (rDN X.K gStr) := by
  intro pins s σ H xs us Q I r ⟨A, ds, d, t, p, e, q⟩
  unfold gStr at e
  split at e
  · rename_i a
    cases e
    obtain ⟨v, rfl, hv⟩ := one_arg p
    rw [hv.str] at r
    exact SkE.call_str_str pins s σ H _ us Q I r ⟨a, rfl, q _ _ (Same.refl _) (.str _)⟩
  · rename_i i
    obtain ⟨hz, rfl⟩ := ite_d (x := .str (toString i)) e
    obtain ⟨v, rfl, hv⟩ := one_arg p
    rw [hv.int] at r
    exact call_str_int pins s σ H _ us Q I r ⟨i, rfl, hz, q _ _ (Same.refl _) (.str _)⟩
  · rename_i l
    obtain ⟨z, hz, rfl⟩ := map_some e
    obtain ⟨v, rfl, hv⟩ := one_arg p
    exact str_seq hg hu I r hv (.inl ⟨l, rfl⟩) hz q
  · rename_i l
    obtain ⟨z, hz, rfl⟩ := map_some e
    obtain ⟨v, rfl, hv⟩ := one_arg p
    exact str_seq hg hu I r hv (.inr ⟨l, rfl⟩) hz q
  · cases e
theorem b_all (hc : X.calm = true) : CallR X (.builtin "all") (rDN X.K gAll) := by
  intro pins s σ H xs us Q I r ⟨A, ds, d, t, p, e, q⟩
  unfold gAll at e
  split at e
  · rename_i l
    obtain ⟨bs, hb, rfl⟩ := map_some e
    obtain ⟨v, rfl, hv⟩ := one_arg p
    obtain ⟨a, ys, rfl, h, rr⟩ := hv.lst
    rw [asBls_eq hb] at rr
    rw [rr.bls] at h
    exact cr_all hc pins s σ H _ us Q I r ⟨a, bs, rfl, SqL.of h, q _ _ (Same.refl _) (.bl _)⟩
  · cases e
theorem b_any (hc : X.calm = true) : CallR X (.builtin "any") (rDN X.K gAny) := by
  intro pins s σ H xs us Q I r ⟨A, ds, d, t, p, e, q⟩
  unfold gAny at e
  split at e
  · rename_i l
    obtain ⟨bs, hb, rfl⟩ := map_some e
    obtain ⟨v, rfl, hv⟩ := one_arg p
    obtain ⟨a, ys, rfl, h, rr⟩ := hv.lst
    rw [asBls_eq hb] at rr
    rw [rr.bls] at h
    exact cr_any hc pins s σ H _ us Q I r ⟨a, bs, rfl, SqL.of h, q _ _ (Same.refl _) (.bl _)⟩
  · cases e
theorem b_sum (hc : X.calm = true) : CallR X (.builtin "sum") (rDN X.K gSum) := by
  intro pins s σ H xs us Q I r ⟨A, ds, d, t, p, e, q⟩
  unfold gSum at e
  split at e
  · rename_i l
    obtain ⟨bs, hb, rfl⟩ := map_some e
    obtain ⟨v, rfl, hv⟩ := one_arg p
    obtain ⟨a, ys, rfl, h, rr⟩ := hv.lst
    rw [asInts_eq hb] at rr
    rw [rr.ints] at h
    exact cr_sum hc pins s σ H _ us Q I r ⟨a, bs, rfl, SqL.of h, q _ _ (Same.refl _) (.int _)⟩
  · cases e
theorem b_listF (hc : X.calm = true) : CallR X (.type "list") (rFN X.K gList) := by
  intro pins s σ H xs us Q I r ⟨A, ds, d, t, p, e, q⟩
  unfold gList at e
  split at e
  · cases e
    obtain ⟨v, rfl, hv⟩ := one_arg p
    obtain ⟨a, ys, rfl, h, rr⟩ := hv.lst
    exact call_list_of pins s σ H _ us Q I r ⟨a, ys, rfl, .inl (SqL.of h), fun l hl => q _ _ (same_upd hl) (new_lst t rr hl) (new_fr t rr hl)⟩
  · cases e
    obtain ⟨v, rfl, hv⟩ := one_arg p
    obtain ⟨a, ys, rfl, h, rr⟩ := hv.tup
    exact call_list_of pins s σ H _ us Q I r ⟨a, ys, rfl, .inr h.sq, fun l hl => q _ _ (same_upd hl) (new_lst t rr hl) (new_fr t rr hl)⟩
  · cases e
    obtain ⟨v, rfl, hv⟩ := one_arg p
    obtain ⟨a, ys, rfl, h, rr⟩ := hv.scr
    exact call_list_of pins s σ H _ us Q I r ⟨a, ys, rfl, .inl h.sq, fun l hl => q _ _ (same_upd hl) (new_lst t rr hl) (new_fr t rr hl)⟩
  · rename_i z
    obtain ⟨hz, rfl⟩ := ite_d (x := .lst (chars z)) e
    obtain ⟨v, rfl, hv⟩ := one_arg p
    rw [hv.str] at r
    obtain ⟨u, rfl, ru⟩ := vals1 r
    obtain ⟨t0, rfl⟩ := ru
    have rr : RpA X.K A H ((z.cps.toList.map fun c => (⟨#[c]⟩ : Str)).map V.str) (chars z) := by
      have h := RpA.of_strs (K := X.K) (A := A) (H := H) (z.cps.toList.map fun c => (⟨#[c]⟩ : Str))
      unfold chars
      rw [List.map_map] at h ⊢
      rw [List.map_map] at h
      exact h
    have hl := I.hok.fresh (Nat.le_refl s.heap.objs.size)
    refine call_list_str (I.ok.hd hc) z t0 (fun h' tk acc c' hk e' hi => ?_) hz
    refine ⟨.ref s.heap.objs.size, upd H s.heap.objs.size (.lst ((z.cps.toList.map fun c => (⟨#[c]⟩ : Str)).map V.str)), I.laid hk (Nat.le_refl _) (show ObjOk X.prog X.w _ _ _ (.lst _) from ⟨?_, acc.toList, c', ?_, ?_⟩), rfl, q _ _ (same_upd hl) (new_lst t rr hl) (new_fr t rr hl)⟩
    · rw [List.length_map, List.length_map, Array.length_toList]
      exact hz
    · have e1 : acc.toList.length = z.cps.toList.length := by rw [Array.length_toList, Array.length_toList]; exact hi.1
      rw [List.map_map]
      refine vals_of_at (by rw [List.length_map, e1]) fun j x u hx hu => ?_
      rw [List.getElem?_map] at hx
      obtain ⟨c, k, hc2, rfl⟩ := hi.2 j u (by rw [← hu, Array.getElem?_toList])
      rw [Array.getElem?_toList, hc2] at hx
      cases hx
      exact ⟨k, rfl⟩
    · rw [Array.toArray_toList]
      exact e'
  · cases e
theorem b_list (hc : X.calm = true) : CallR X (.type "list") (rDN X.K gList) := rFN.weak (b_listF hc)
theorem b_tuple : CallR X (.type "tuple") (rDN X.K gTuple) := by
  intro pins s σ H xs us Q I r ⟨A, ds, d, t, p, e, q⟩
  unfold gTuple at e
  split at e
  · cases e
    obtain ⟨v, rfl, hv⟩ := one_arg p
    obtain ⟨a, ys, rfl, h, rr⟩ := hv.lst
    exact call_tuple_of pins s σ H _ us Q I r ⟨a, ys, rfl, .inl ⟨SqL.of h, fun l hl => q _ _ (same_upd hl) (new_tup t rr hl)⟩⟩
  · cases e
    obtain ⟨v, rfl, hv⟩ := one_arg p
    obtain ⟨a, ys, rfl, h, rr⟩ := hv.scr
    exact call_tuple_of pins s σ H _ us Q I r ⟨a, ys, rfl, .inl ⟨h.sq, fun l hl => q _ _ (same_upd hl) (new_tup t rr hl)⟩⟩
  · cases e
    obtain ⟨v, rfl, hv⟩ := one_arg p
    obtain ⟨a, ys, rfl, h, rr⟩ := hv.tup
    exact call_tuple_of pins s σ H _ us Q I r ⟨a, ys, rfl, .inr ⟨h.sq, q _ _ (Same.refl _) (.tup h rr)⟩⟩
  · cases e
end
theorem bt_len : bootBuiltins "len" = some (.builtin "len") := by decide +kernel
theorem bt_int : bootBuiltins "int" = some (.type "int") := by decide +kernel
theorem bt_str : bootBuiltins "str" = some (.type "str") := by decide +kernel
theorem bt_list : bootBuiltins "list" = some (.type "list") := by decide +kernel
theorem bt_tuple : bootBuiltins "tuple" = some (.type "tuple") := by decide +kernel
theorem bt_repr : bootBuiltins "repr" = some (.builtin "repr") := by decide +kernel
theorem bt_abs : bootBuiltins "abs" = some (.builtin "abs") := by decide +kernel
theorem bt_all : bootBuiltins "all" = some (.builtin "all") := by decide +kernel
theorem bt_any : bootBuiltins "any" = some (.builtin "any") := by decide +kernel
theorem bt_sum : bootBuiltins "sum" = some (.builtin "sum") := by decide +kernel
theorem bt_isinstance : bootBuiltins "isinstance" = some (.builtin "isinstance") := by decide +kernel
end DL
namespace DL
open L2 PySem PySem.Spec PyProof.Rows
section
variable {X : Cx} {G : Gd} {XC : List Nat → Prop} {Ol O O' O1 : List Nat} {W : WX} {fr : Bool} {a b c e : Expr} {es : List Expr} {ma mb mc me : ME} {mr : MA} {pos p : Pos} {x y : Str}
def putP : List Nat → List D → En → Out
  | [], [], ρ => .nx ρ
  | i :: is, d :: ds, ρ => if i < ρ.length then putP is ds (ρ.set i (some d)) else .bad
  | _, _, _ => .bad
def msPar (is : List Nat) (m : MA) : MS := fun ρ => obind (m ρ) fun ds ρ1 => putP is ds ρ1
theorem ds_par {i j : Nat} {px py pt : Pos} {kt k2 pt2} (hx : XC O) (hc : X.calm = true) (hN : X.N.Nodup) (hi : X.N[i]? = some x) (hj : X.N[j]? = some y) (hij : i ≠ j) (oi : O.contains i = false) (oj : O.contains j = false)
    (hlx : X.env.scope.names.lookup x = some .local) (hly : X.env.scope.names.lookup y = some .local) (ha : DA X G O W [a, b] mr)
    (hw : swappedStores [.Tuple [.Name x px, .Name y py] kt pt] (.Tuple [a, b] k2 pt2) X.env = pure (some [x, y]) := by rfl)
    (hs : swapsWithSole [.Tuple [.Name x px, .Name y py] kt pt] (.Tuple [a, b] k2 pt2) pos.line X.env = pure false := by rfl) :
    DS X G XC Ol O O W fr (.Assign [.Tuple [.Name x px, .Name y py] kt pt] (.Tuple [a, b] k2 pt2) pos) (msPar [i, j] mr) := by
  have ni : i ∉ O := fun z => by rw [List.contains_iff_mem.mpr z] at oi; cases oi
  have nj : j ∉ O := fun z => by rw [List.contains_iff_mem.mpr z] at oj; cases oj
  refine ps_imp (ps_par hc hN hi hj hij hlx hly ha hw hs) fun D0 σ H ⟨A, ms, ρ, R, q⟩ => ⟨A, ms, ρ, R, eb hx q ?_⟩
  intro ds ρ1 vs H1 _ R1 k1 r q1
  cases r with
  | nil => exact q1.elim
  | cons r1 r =>
    cases r with
    | nil =>
      simp only [putP] at q1
      split at q1 <;> exact q1.elim
    | cons r2 r =>
      cases r with
      | cons _ _ =>
        simp only [putP] at q1
        split at q1
        · split at q1 <;> exact q1.elim
        · exact q1.elim
      | nil =>
        simp only [putP] at q1
        split at q1
        · rename_i h1
          split at q1
          · rename_i h2
            exact ⟨_, _, rfl, q1 _ H1 A ms ((R1.put ni h1 r1).put nj h2 r2) Tr.refl⟩
          · exact q1.elim
        · exact q1.elim
def msRaise (c : Str) : MS := fun ρ => .ex ⟨c, []⟩ ρ
theorem ds_raise {C : Str} (hx : XC O) (hc : X.calm = true) (tk : L2N.Takes X W) (he : L2N.PMk X e (fun _ H Q => Q (.ref (He.ga X.K C)) none H)) : DS X G XC Ol O O' W fr (.Raise (some e) none pos) (msRaise C) := by
  refine ps_imp (L2N.ps_raise hc tk he) fun D0 σ H ⟨A, ms, ρ, R, q⟩ => ?_
  exact q none σ H A ms O hx R Tr.refl (.inl ⟨rfl, rfl⟩)
theorem pss_ex {ι : Type} {sts : List Stmt} {P : ι → Prop} {t : ι → TS} (h : ∀ i, P i → PSs X sts (t i)) : PSs X sts (fun D σ H => ∃ i, P i ∧ t i D σ H) := ⟨fun pins s σ H D I ⟨i, p, q⟩ => (h i p).run pins s σ H D I q⟩
def fgt (i : Nat) : Out → Out
  | .nx ρ => .nx (ρ.set i none)
  | .rt d ρ => .rt d ρ
  | .bk ρ => .bk (ρ.set i none)
  | .ct ρ => .ct (ρ.set i none)
  | .ex _ _ => .bad
  | .bad => .bad
def msTryAs (mt : Str → Option Bool) (i : Nat) (mb : MS) (ms : Str → MS) : MS := fun ρ => match mb ρ with
  | .ex y ρ1 => match mt y.c with
    | some true => match y.fs with
      | [] => if i < ρ1.length then fgt i (ms y.c (ρ1.set i none)) else .bad
      | _ => .bad
    | some false => .ex y ρ1
    | none => .bad
  | o => o
def Mt (X : Cx) (c : Value) (mt : Str → Option Bool) : Prop := ∀ y b, mt y = some b → PySem.W.exmOne X.K (.ref (He.ga X.K y)) c = some b
def Gd.at (G : Gd) (i : Nat) (a : Addr) (c : Str) : Gd := { G with px := some (i, a, c) }
theorem RelS.named {K : PySem.W.Frag} {A : Addr → Prop} {ms : Nat → Option Addr} {σ : L2.St} {H : Hp} {ρ : En} {i : Nat} {a : Addr} {c : Str} (R : RelS K G O A ms σ H ρ) (hi : i ∉ O) (hlt : i < ρ.length) (hn : G.px = none) (h0 : i ≠ 0 ∨ G.io = none) :
    RelS K (G.at i a c) (i :: O) A (fun j => if j = i then none else ms j) (σ.set i (some (.ref a))) H (ρ.set i none) := by
  have R1 := R.forget (O1 := i :: O) (NPx.no hn) h0 fun j hj => by simp [hj]
  have ne : ∀ {j : Nat} {z : D}, (ρ.set i none)[j]? = some (some z) → j ≠ i := fun {j z} e h => by
    subst h
    rw [List.getElem?_set_self hlt] at e; cases e
  exact {
    sub := R1.sub
    trk0 := R1.trk0
    trk := R1.trk
    keep := R1.keep
    len := by rw [List.length_set]; exact R1.len
    fz := fun j d e n => let ⟨v, e1, q⟩ := R1.fz j d e n; ⟨v, by rw [List.getElem?_set_ne (Ne.symm (ne e))]; exact e1, q⟩
    ow := fun j d e m => let ⟨p, e0, e1, q⟩ := R1.ow j d e m; ⟨p, e0, by rw [List.getElem?_set_ne (Ne.symm (ne e))]; exact e1, q⟩
    inA := R1.inA
    ok := R1.ok
    dist := R1.dist
    px := fun j a' c' e => by
      cases e
      exact ⟨List.mem_cons_self, List.getElem?_set_self (by rw [R.len]; exact hlt)⟩
    io := R1.io }
theorem RelS.unnamed {K : PySem.W.Frag} {A : Addr → Prop} {ms : Nat → Option Addr} {σ : L2.St} {H : Hp} {ρ : En} {i : Nat} {a : Addr} {c : Str} (R : RelS K (G.at i a c) (i :: O) A ms σ H ρ) (hi : i ∉ O) (hn : G.px = none) (h0 : i ≠ 0 ∨ G.io = none) :
    RelS K G O A (fun j => if j = i then none else ms j) (σ.set i none) H (ρ.set i none) := by
  have ne : ∀ {j : Nat} {z : D}, (ρ.set i none)[j]? = some (some z) → j ≠ i := fun {j z} e h => by
    subst h
    by_cases hl : j < ρ.length
    · rw [List.getElem?_set_self hl] at e; cases e
    · rw [List.getElem?_eq_none (by rw [List.length_set]; omega)] at e; cases e
  have g : ∀ {j : Nat} {z : D}, (ρ.set i none)[j]? = some (some z) → ρ[j]? = some (some z) := fun {j z} e => by
    have e' := e
    rw [set_get_ne (ne e)] at e'
    exact e'
  have sm : ∀ {j : Nat} {p : Addr}, (if j = i then none else ms j) = some p → j ≠ i ∧ ms j = some p := fun {j p} e => by
    by_cases h : j = i
    · rw [if_pos h] at e; cases e
    · rw [if_neg h] at e; exact ⟨h, e⟩
  exact {
    sub := R.sub
    trk0 := R.trk0
    trk := R.trk
    keep := R.keep
    len := by rw [List.length_set, List.length_set]; exact R.len
    fz := fun j d e n => by
      have nj := ne e
      obtain ⟨v, e1, q⟩ := R.fz j d (g e) fun m => (List.mem_cons.mp m).elim nj n
      exact ⟨v, by rw [List.getElem?_set_ne (Ne.symm nj)]; exact e1, q⟩
    ow := fun j d e m => by
      have nj := ne e
      obtain ⟨p, e0, e1, q⟩ := R.ow j d (g e) (List.mem_cons_of_mem _ m)
      exact ⟨p, (if_neg nj).trans e0, by rw [List.getElem?_set_ne (Ne.symm nj)]; exact e1, q⟩
    inA := fun j p m e => R.inA j p (List.mem_cons_of_mem _ m) (sm e).2
    ok := fun j p m e => R.ok j p (List.mem_cons_of_mem _ m) (sm e).2
    dist := fun j j' p m m' e e' => R.dist j j' p (List.mem_cons_of_mem _ m) (List.mem_cons_of_mem _ m') (sm e).2 (sm e').2
    px := fun j a' c' e => by rw [hn] at e; cases e
    io := fun p e => by
      obtain ⟨h1, h2, h3, z, h4⟩ := R.io p e
      have n0 : (0 : Nat) ≠ i := fun w => by
        rcases h0 with k | k
        · exact k w.symm
        · rw [k] at e; cases e
      exact ⟨(List.mem_cons.mp h1).resolve_left n0, h2, (if_neg n0).trans h3, z, by rw [set_get_ne n0]; exact h4⟩ }
theorem ds_tryAs {n : Str} {c : Value} {i : Nat} {body suite : List Stmt} {b₀ : Stmt} {np pos' : Pos} {mt : Str → Option Bool} {mb : MS} {ms : Str → MS} (hx : XC O) (hs : X.stack = X.env :: X.outer) (hf : X.env.frame = some X.env.locals) (hN : X.N.Nodup) (hi : X.N[i]? = some n) (hln : X.env.kindOf n = some .local) (hc : Names X x c) (tk : L2N.Takes X W)
    (hmt : Mt X c mt) (oi : O.contains i = false) (h0 : i ≠ 0 ∨ G.io = none) (hn : G.px = none)
    (hb : ∀ (W : WX) (pn : List (Addr × Obj)) (xe : Value → Shared → Prop), L2N.Takes (X.tr pn xe) W → PassesOwn (model X.prog X.w) X.A X.env xe → DSs (X.tr pn xe) G (fun o => o = O) Ol O O W fr body mb)
    (hsu : ∀ (a : Addr) (oe : Obj) (k : Str) (pn : List (Addr × Obj)), L2N.Zn (.ref (He.ga X.K k)) none oe → (∃ vs, oe.data = .fields vs) → mt k = some true → DSs (X.suite a ((a, oe) :: pn)) (G.at i a k) (fun o => o = i :: O) (i :: Ol) (i :: O) (i :: O) W0 fr (b₀ :: suite) (ms k))
    (nol : Ol.contains i = false) :
    DS X G XC Ol O O W fr (.Try body [.ExceptHandler (some (.Name x np)) (some n) (b₀ :: suite) pos'] [] [] pos) (msTryAs mt i mb ms) := by
  have ni : i ∉ O := fun z => by rw [List.contains_iff_mem.mpr z] at oi; cases oi
  have nl : i ∉ Ol := fun z => by rw [List.contains_iff_mem.mpr z] at nol; cases nol
  let ts : Addr → Value → Option Addr → TS := fun a cls d D σ H => ∃ k : Str, (cls = .ref (He.ga X.K k) ∧ d = none ∧ mt k = some true) ∧ tS X.K (G.at i a k) (fun o => o = i :: O) (i :: Ol) (i :: O) (i :: O) W0 fr (ms k) D σ H
  refine ps_imp (L2N.ps_try_as (ts := ts) (Wout := W) (tb := fun W => tS X.K G (fun o => o = O) Ol O O W fr mb) hs hf hN hi hln hc tk (fun W pn xe t p => hb W pn xe t p) (fun a oe cls d pn hz hd => ?_)) fun D0 σ H ⟨A, ms', ρ, R, q⟩ => ?_
  · refine pss_ex fun k ⟨e1, e2, e3⟩ => ?_
    subst e1 e2
    exact hsu a oe k pn hz hd e3
  · refine ⟨A, ms', ρ, R, ?_⟩
    unfold msTryAs at q
    cases hm : mb ρ with
    | nx ρ1 => rw [hm] at q; exact q
    | rt d ρ1 => rw [hm] at q; exact q
    | bk ρ1 => rw [hm] at q; exact q
    | ct ρ1 => rw [hm] at q; exact q
    | bad => rw [hm] at q; exact q.elim
    | ex y ρ1 =>
      rw [hm] at q
      intro dx σ1 H1 A1 ms1 O'' hO R1 t1 xr
      have hO' : O'' = O := hO
      subst hO'
      have q1 := SPost.from t1 q
      have q1 : SPost X.K G XC Ol O'' W fr A1 H1 D0 (match mt y.c with
        | some true => match y.fs with
          | [] => if i < ρ1.length then fgt i (ms y.c (ρ1.set i none)) else .bad
          | _ => .bad
        | some false => .ex y ρ1
        | none => .bad) := q1
      cases hb1 : mt y.c with
      | none => simp only [hb1] at q1; exact q1.elim
      | some b =>
        simp only [hb1] at q1
        refine ⟨b, hmt _ _ hb1, fun e1 a na => ?_, fun e1 => ?_⟩
        · subst e1
          obtain ⟨yc, yf⟩ := y
          cases yf with
          | cons _ _ => exact q1.elim
          | nil =>
            have q2 : SPost X.K G XC Ol O'' W fr A1 H1 D0 (if i < ρ1.length then fgt i (ms yc (ρ1.set i none)) else .bad) := q1
            have dn : dx = none := by
              rcases xr with ⟨_, z⟩ | ⟨z, _⟩
              · exact z
              · exact absurd rfl z
            subst dn
            split at q2
            · rename_i hlt
              refine ⟨yc, ⟨rfl, rfl, hb1⟩, A1, _, _, R1.named ni hlt hn h0, ?_⟩
              cases hr : ms yc (ρ1.set i none) with
              | nx ρ2 => rw [hr] at q2; exact fun σ' H' A' ms' R' t => q2 _ H' A' _ (R'.unnamed ni hn h0) t
              | bk ρ2 => rw [hr] at q2; exact fun σ' H' A' ms' R' t => q2 _ H' A' _ (R'.unnamed nl hn h0) t
              | ct ρ2 => rw [hr] at q2; exact fun σ' H' A' ms' R' t => q2 _ H' A' _ (R'.unnamed nl hn h0) t
              | rt d ρ2 => rw [hr] at q2; exact q2
              | ex z ρ2 => rw [hr] at q2; exact q2.elim
              | bad => rw [hr] at q2; exact q2.elim
            · exact q2.elim
        · subst e1
          have q2 : SPost X.K G XC Ol O'' W fr A1 H1 D0 (.ex y ρ1) := q1
          exact q2 dx σ1 H1 A1 ms1 O'' hx R1 Tr.refl xr
end
end DL
namespace DL
open L2 PySem PySem.Spec PyProof.Rows
section
variable {X : Cx} {G : Gd} {XC : List Nat → Prop} {Ol O O' O1 : List Nat} {W : WX} {fr : Bool} {a b c e o : Expr} {es : List Expr} {ma mb mc me mo : ME} {mr : MA} {pos p apos : Pos} {x y : Str}
theorem de_isE {i : Nat} {n C k : Str} {v : Bool} {ad : Addr} {np cp : Pos} (hpx : G.px = some (i, ad, k)) (hC : CallR X (.builtin "isinstance") (rIsE X.K (He.ga X.K k) ad)) (ht : PySem.W.kitOne X.K (.ref (He.ga X.K k)) (.ref (He.ga X.K C)) = some v)
    (hg : Gl X "isinstance") (hm : X.mg "isinstance" = none) (hN : X.N[i]? = some n) (hv : Vis X.env.scope n) (hcg : Gl X C) (hcm : X.mg C = some (.ref (He.ga X.K C)))
    (hd1 : (n == ("__debug__" : Str)) = false := by decide) (hd2 : (n == ("__classdict__" : Str)) = false := by decide) (hd3 : (C == ("__debug__" : Str)) = false := by decide)
    (he : starEach [.Name n np, .Name C cp] X.env = (false, eval (.Name n np) X.env) :: starEach [.Name C cp] X.env := by rfl) (he2 : starEach [.Name C cp] X.env = (false, eval (.Name C cp) X.env) :: starEach [] X.env := by rfl) (hpl : (backTo pos (starEach [.Name C cp] X.env)).any (·.1) = false := by rfl) :
    DE X G O W (.Call (.Name "isinstance" p) [.Name n np, .Name C cp] [] pos) (mK (.bl v)) := by
  refine pe_imp (pe_callB hC hg hm bt_isinstance (pa_cons (pe_var hN hv hd1 hd2) (pa_cons (pe_glob (v := .ref (He.ga X.K C)) hcg hcm rfl hd3) pa_nil he2) he) (by decide) (by decide) he hpl) fun σ H Q ⟨A, ms, ρ, R, q⟩ => ?_
  obtain ⟨_, h1⟩ := R.px i ad k hpx
  exact ⟨_, h1, .ref (He.ga X.K C), .ref (He.ga X.K C), v, rfl, fun u r => r, ht, q _ H R Kp.refl (.bl v)⟩
theorem FnG.weak {P : Program} {w : World} {K : PySem.W.Frag} {mg : Str → Option Value} {base : Heap} {k : Nat} {f : Addr} {F : FN} (h : FnG P w K mg base k f false true F) : FnG P w K mg base k f false false F := by
  refine ⟨fun A outer s H us vs Q E hr hg e0 rv ⟨A0, q, ds, t, hq, ar, post⟩ => h.run A outer s H us vs Q E hr hg e0 rv ⟨A0, q, ds, t, hq, ar, ?_⟩, h.kp⟩
  cases hF : F ds with
  | bad => rw [hF] at post; exact post.elim
  | ex x o => rw [hF] at post; exact post
  | rt d o =>
    rw [hF] at post
    intro v H' ki rr
    obtain ⟨r, rfl, hr, ow, oo⟩ := (show ∃ r, v = .ref r ∧ H r = none ∧ Own K (fun a => A0 a ∨ a = r) H' r d ∧ ∀ p, q = some p → Own K (fun a => A0 a ∨ a = r) H' p o from rr)
    have nr : ¬ A0 r := t.no hr
    exact post _ H' ki ⟨ow.freeze (fun a z => .inl z) nr, fun p e => (oo p e).less fun a z => .inl z⟩
def mCallV (tab : Str → Option FN) (f : ME) (args : MA) : ME := fun ρ => (f ρ).bind fun d ρ1 => match d with
  | .fn x => match tab x with
    | some F => mCall F args ρ1
    | none => .bad
  | _ => .bad
def isStr : D → Bool
  | .str _ => true
  | _ => false
end
end DL
namespace DL
open L2 PySem PySem.Spec PyProof.Rows
theorem lawG {P : Program} {w : World} {K : PySem.W.Frag} {mg mB : Str → Option Value} {k : Nat} {fL sc : Addr} {F : FN} {t0 : Shared} {ws : List Value} {zs : List Int} {o : D} (kin : K.In t0.heap) (nsG : t0.heap.Ns mainGlobals mg) (nsB : t0.heap.Ns builtinsNs mB)
    (bB : ∀ y : Str, y ≠ "__name__" → mB y = bootBuiltins y) (noL : t0.heap.NoLimit) (noG : t0.gens = #[]) (hsc : t0.heap.get? sc = some { cls := .type "list", data := .seq ws.toArray }) (itg : IntsAre ws zs) (few : zs.length ≤ sizeLine) (room : Room k callerA)
    (C : ∀ base : Heap, K.In base → base.Ns mainGlobals mg → FnG P w K mg base k fL false false F) (hF : F [.scr (zs.map D.int)] = .rt (.bl true) o) :
    codeAny (model P w) callerA (.call (.ref fL) ⟨[.ref sc], []⟩) (fun r t => r = .ok (.ret (.bool true)) ∧ OldK t0.heap t.heap ∧ t.os = t0.os ∧ AllBare t.gens) t0 := by
  have rz := vals_ints itg
  have lz := itg.length
  have main : ∀ J : Hp, Only J → SqL K J sc (zs.map V.int) → HOk P w J t0.heap → (∀ b, J b ≠ none → b = sc) → (J sc ≠ none → K.lookup sc = none) →
      codeAny (model P w) callerA (.call (.ref fL) ⟨[.ref sc], []⟩) (fun r t => r = .ok (.ret (.bool true)) ∧ OldK t0.heap t.heap ∧ t.os = t0.os ∧ AllBare t.gens) t0 := by
    intro J only sq ok1 at1 no1
    have keepB : ∀ {b : Addr} {ob : Obj}, t0.heap.get? b = some ob → J b = none → (hidT t0.heap J).get? b = some ob := fun x y => hidT_get x y
    have noDict : ∀ {b : Addr} {ob : Obj} {es : Array DictEntry} {ep : Nat}, t0.heap.get? b = some ob → ob.data = .dict es ep → J b = none := fun {b ob es ep} x y => by
      cases z : J b with
      | none => rfl
      | some u =>
        obtain rfl : b = sc := at1 b (by rw [z]; simp)
        rw [hsc] at x
        cases x
        cases (show Data.seq ws.toArray _ = Data.dict es ep from y)
    have nsT : ∀ {b : Addr} {m : Str → Option Value}, t0.heap.Ns b m → (hidT t0.heap J).Ns b m := fun {b m} ⟨ob, es, ep, x, y, r⟩ => ⟨ob, es, ep, keepB x (noDict x y), y, r⟩
    have kinB : K.In (hidT t0.heap J) := fun b ob x => keepB (kin b ob x) (by
      cases z : J b with
      | none => rfl
      | some u =>
        obtain rfl : b = sc := at1 b (by rw [z]; simp)
        rw [no1 (by rw [z]; simp)] at x
        cases x)
    have modB : Mod K mg (hidT t0.heap J) := ⟨kinB, nsT nsG, ⟨mB, nsT nsB, bB⟩, let ⟨m1, x, y⟩ := noL; ⟨m1, nsT x, y⟩⟩
    have env0 : Env0 P w K mg (hidT t0.heap J) callerA [] t0 J := ⟨rfl, modB, fun b ob x => of_hidT x, Nat.le_of_eq (hidT_size _ _), trivial, fun b hb => absurd (show b ∈ ([] : List Addr) from hb) List.not_mem_nil, ok1, .of_eq noG⟩
    have sp1 : spD K false false F [.ref sc] J (fun v _ => v = .bl true) (fun _ _ _ => False) := by
      refine ⟨fun _ => False, none, [.scr (zs.map D.int)], fun _ z => z.elim, rfl, ?_, ?_⟩
      · exact .cons (.scr (sq.imp (fun z => ⟨z, fun z => z⟩) id) (RpA.of_ints zs)) .nil
      · rw [hF]
        intro v J' _ rr
        have rr' : Rp K (fun _ => False) J' v (.bl true) := rr.1
        cases rr'
        rfl
    refine codeAny_mono ((C _ kinB (nsT nsG)).run callerA [] t0 J [.ref sc] [.ref sc] _ _ room rfl env0 (.cons rfl .nil) sp1) fun r t hr => ?_
    cases r with
    | error e =>
      obtain ⟨_, _, _, _, _, _, _, _, _, _, _, _, z⟩ := (show L2N.CX P w [] J t0 (fun _ _ _ => False) e t from hr)
      exact z.elim
    | ok fl =>
      cases fl with
      | next => exact hr.elim
      | brk => exact hr.elim
      | cont => exact hr.elim
      | ret u =>
        obtain ⟨v, J', os1, bare1, un1, ok2, rv, qv⟩ := hr
        obtain rfl : v = .bl true := qv
        obtain rfl : u = Value.bool true := rv
        refine ⟨rfl, OldK.of_keep fun b ob x => ?_, os1, bare1⟩
        cases z : J b with
        | none => exact un1.keep b ob x z (fun y => absurd (show b ∈ ([] : List Addr) from y) List.not_mem_nil) List.not_mem_nil
        | some u =>
          rcases only b with y | ⟨o1, xs, y⟩
          · rw [z] at y; cases y
          · obtain ⟨g1, _⟩ := ok1 b _ y
            obtain ⟨g2, _⟩ := ok2 b _ (un1.frzs b o1 _ y)
            rw [x] at g1
            cases g1
            exact g2
  cases lk : K.lookup sc with
  | some ob =>
    have x := kin sc ob lk
    rw [hsc] at x
    cases x
    exact main (fun _ => none) (fun _ => .inl rfl) (.inr ⟨_, ws.toArray, _, lk, rfl, rfl, rfl, by rw [List.size_toArray, lz]; exact few, by simpa using rz⟩) (fun b u z => by cases (show (none : Option HO) = some u from z)) (fun b z => absurd rfl z) fun z => absurd rfl z
  | none =>
    let ob : Obj := { cls := .type "list", data := .seq ws.toArray }
    refine main (fun b => if b = sc then some (.frz ob (.lst (zs.map V.int))) else none) (fun b => ?_) (.inl (.inr ⟨ob, if_pos rfl⟩)) (fun b u z => ?_) (fun b z => ?_) fun _ => lk
    · by_cases hb : b = sc
      · exact .inr ⟨_, _, if_pos hb⟩
      · exact .inl (if_neg hb)
    · by_cases hb : b = sc
      · cases (if_pos hb).symm.trans z
        subst hb
        exact ⟨hsc, by rw [List.length_map]; exact few, ws, _, rz, hsc⟩
      · cases (if_neg hb).symm.trans z
    · by_cases hb : b = sc
      · exact hb
      · exact absurd (if_neg hb) z
theorem walkG {l : PySem.W.OpenLaw} {n k : Nat} {q : Program} {loose : List Str} {XP : (Str → Option Value) → Heap → Prop} {YP : World → Heap → Prop} {d : DefRec} {F : FN} (hn : l.most = some n) (hn2 : n ≤ sizeLine) (hdf : d.params.defaults = []) (room : Room k callerA)
    (C : ∀ (w : World) (mg : Str → Option Value) (fL : Addr) (h : Heap), YP w h → h.Ns mainGlobals mg → mg d.name = some (.ref fL) → ∃ K : PySem.W.Frag, K.In h ∧ ∀ base : Heap, K.In base → base.Ns mainGlobals mg → FnG l.prog w K mg base k fL false false F)
    (hF : ∀ zs : List Int, zs.length ≤ n → ∃ o, F [.scr (zs.map D.int)] = .rt (.bl true) o) : PySem.W.WalkO q loose XP YP l.row.toRowW d [] (fun f vs => PySem.call f vs) := by
  refine Att.attach_call hn hdf fun w t1 t0 mg mB fL o pm cd doc sc ws zs G Y ho hd hcd hmg hobj hints hlen hg => ?_
  obtain ⟨K, kin, hC⟩ := C w mg fL _ Y G.T.g hmg
  obtain ⟨o', e⟩ := hF zs hlen
  exact lawG kin G.T.g G.T.b G.T.builtins G.T.nolimit hg hobj hints (Nat.le_trans hlen hn2) room hC e
abbrev Ok (P : Program) (w : World) (K : PySem.W.Frag) (mg : Str → Option Value) (k : Nat) (x : Str) (io fr : Bool) (F : FN) : Prop := ∀ base : Heap, FnG P w K mg base k (He.ga K x) io fr F
theorem Room.u64 {k : Nat} {A : Around} (r : Room k A) : A.units + 64 < cLine := by have := r.un; omega
theorem Room.u65 {k : Nat} {A : Around} (r : Room k A) : A.units + 65 < cLine := by have := r.un; omega
section
variable {X : Cx} {G : Gd} {XC : List Nat → Prop} {Ol O O' O1 : List Nat} {W : WX} {fr : Bool} {a b c e o : Expr} {es : List Expr} {ma mb mc me mo : ME} {mr : MA} {pos p apos : Pos} {x y : Str}
theorem v_ (i : Nat) {x : Str} {pos : Pos} (hO : O.contains i = false := by rfl) (hN : X.N[i]? = some x := by rfl) (hv : Vis X.env.scope x := by first | exact Or.inl rfl | exact Or.inr (Or.inl rfl) | exact Or.inr (Or.inr rfl))
    (hd : (x == ("__debug__" : Str)) = false := by decide) (hcd : (x == ("__classdict__" : Str)) = false := by decide) : DE X G O W (.Name x pos) (mVar i) := de_var i hO hN hv hd hcd
theorem gv_ {x : Str} {d : D} {v : V} {u : Value} (hm : X.mg x = some u) (ru : RelV v u) (hr : ∀ A H, Rp X.K A H v d) (hg : Gl X x := by rfl) (hd : (x == ("__debug__" : Str)) = false := by decide) : DE X G O W (.Name x pos) (mK d) := de_c (pe_glob hg hm ru hd) hr
theorem pm (op : CmpOp) (b : Expr) (h : behindInMarks op b = false := by rfl) : behindInMarks op b = false := h
end
end DL
namespace DL
open L2 PySem PySem.Spec PyProof.Rows
section
variable {X : Cx} {G : Gd} {XC : List Nat → Prop} {Ol O O' O1 : List Nat} {W : WX} {fr : Bool} {a b c e o : Expr} {es : List Expr} {ma mb mc me mo : ME} {mr : MA} {pos p apos : Pos} {x y : Str}
theorem tE_tF {K : PySem.W.Frag} {m : ME} {σ : L2.St} {H : Hp} {Q : VK} (h : tE K G O W m σ H Q) : tF K G O W m σ H Q := by
  obtain ⟨A, ms, ρ, R, q⟩ := h
  refine ⟨A, ms, ρ, R, ?_⟩
  cases hm : m ρ with
  | bad => rw [hm] at q; exact q.elim
  | ex x ρ1 => rw [hm] at q; exact q
  | ok d ρ1 =>
    rw [hm] at q
    intro p H' R' _ k hp ow
    have np : ¬ A p := Trk.no (fun a z => R.trk a z) hp
    exact q (.ref p) H' R' k (ow.freeze (fun a z => .inl z) np)
theorem put_post {K : PySem.W.Frag} {i : Nat} {D0 : Ends} {σ : L2.St} {H : Hp} (hx : XC O) (oi : O.contains i = false) (h : tS K G XC Ol O O W fr (msAsg me (mgName i)) D0 σ H) : tAsg (tE K G O W me) (gName i) D0 σ H := by
  obtain ⟨A, ms, ρ, R, q⟩ := h
  have ni : i ∉ O := fun z => by rw [List.contains_iff_mem.mpr z] at oi; cases oi
  refine ⟨A, ms, ρ, R, eb hx q ?_⟩
  intro d ρ1 v H1 _ R1 k r q1
  unfold mgName at q1
  split at q1
  · rename_i ρ2 he
    split at he
    · rename_i hlt
      cases he
      exact q1 _ H1 A ms (R1.put ni hlt r) Tr.refl
    · cases he
  · exact q1.elim
section
variable {i : Nat} {py spos : Pos} {elt tg iter : Expr} {ifs : List Expr} {scope : Scope} {own : List (Str × Nat)} {mi : En → R (List D)} {g : MG} {mt : MT} {tt : TT}
theorem ds_setLc (hx : XC O) (oi : O.contains i = false) (hc : X.calm = true) (hN : X.N.Nodup) (hy : X.N[i]? = some y) (hyl : X.env.scope.names.lookup y = some .local) (hsw : swapsWith (.ListComp elt [⟨tg, iter, ifs, 0⟩] scope pos) (some (.Name y py)) spos.line X.env = pure true) (hv : (ownS own).all (fun i => !O.contains i) = true)
    (hi : DI X G O W tg iter mi) (ok : BlkOk X.N X.env.scope scope own)
    (hg : ∀ (s : Shared) (H : Hp) (C : Addr) (cl : List (Str × Addr)) (fp : List Addr), DG (X.blk s H scope (compEnvC scope cl C X.env) fp) G O (ownS own) tg g)
    (ht : ∀ (s : Shared) (H : Hp) (C : Addr) (cl : List (Str × Addr)) (fp : List Addr), PTs (X.blk s H scope (compEnvC scope cl C X.env) fp) ifs tt) (htt : ∀ σ H Q, tT X.K G O W0 mt σ H Q → tt σ H Q)
    (he : ∀ (s : Shared) (H : Hp) (C : Addr) (cl : List (Str × Addr)) (fp : List Addr), DE (X.blk s H scope (compEnvC scope cl C X.env) fp) G O W0 elt me) (hs : ∀ x, foldedSetIterable iter X.env x = pure x := by intro _; rfl) :
    DS X G XC Ol O O W fr (.Assign [.Name y py] (.ListComp elt [⟨tg, iter, ifs, 0⟩] scope pos) spos) (msAsg (mLc (ownS own) mi g mt me) (mgName i)) :=
  ps_imp (ps_setLc (te := tE X.K G O W0 me) (tt := tt) (g := tG X.K G O (ownS own) g) hc hN hy hyl hsw hi ok hg ht he hs) fun D0 σ H h => lc_go (W := W) hv htt (tE_tF (put_post hx oi h))
end
theorem takes0 (h : X.xe = fun _ _ => False) : L2N.Takes X W0 := fun u s' ⟨_, _, _, _, _, _, _, _, _, _, _, _, _, _, _, _, z⟩ => z.elim
end
end DL
namespace DL
open L2 PySem PySem.Spec PyProof.Rows
abbrev XF := PySem.W.Frag → Bool
def obX (fa : List He.Fa) (xf : XF) (fn : List He.DefD) (K : PySem.W.Frag) : He.AlD := (xf K && ((fa.all fun f => f.ok K) && fn.all fun d => d.ok K), fn.map fun d => He.fnW K d.at_)
def SaysX (fa : List He.Fa) (xf : XF) (fn : List He.DefD) (K : PySem.W.Frag) : Prop := obX fa xf fn K = He.valD fn
def obXG (n : Nat) (fa : List He.Fa) (xf : XF) (fn : List He.DefD) (g : Addr → Option Obj) : He.AlD := obX fa xf fn (He.frG g (He.asD g n))
def hookX (n : Nat) (fa : List He.Fa) (xf : XF) (fn : List He.DefD) : PySem.W.Hook where
  α := He.AlD
  obs := fun t => obXG n fa xf fn t.heap.get?
  val := fun _ => He.valD fn
  says := fun _ hp => ∃ K : PySem.W.Frag, K.In hp ∧ SaysX fa xf fn K
  of := fun _ _ z => ⟨_, He.frG_in, z⟩
  keeps := fun _ _ _ ⟨K, z, c⟩ k => ⟨K, PySem.W.Frag.In.keeps z k, c⟩
theorem obXG_eq {n : Nat} {fa : List He.Fa} {xf : XF} {fn : List He.DefD} {g : Addr → Option Obj} {t : Shared} (h : ∀ a, g a = t.heap.get? a) : obXG n fa xf fn g = (hookX n fa xf fn).obs t := by
  have z : g = t.heap.get? := funext h
  rw [z] <;> rfl
section
variable {fa : List He.Fa} {xf : XF} {fn : List He.DefD} {K : PySem.W.Frag}
theorem SaysX.x1 (c : SaysX fa xf fn K) : xf K = true := (He.ba (show (xf K && ((fa.all fun f => f.ok K) && fn.all fun d => d.ok K)) = true from congrArg (fun z : He.AlD => z.1) c)).1
theorem SaysX.d (c : SaysX fa xf fn K) : He.SaysD fa fn K := by
  have c1 : (xf K && ((fa.all fun f => f.ok K) && fn.all fun d => d.ok K)) = true := congrArg (fun z : He.AlD => z.1) c
  have c2 : (fn.map fun d => He.fnW K d.at_) = fn.map He.DefD.val := congrArg (fun z : He.AlD => z.2) c
  exact Prod.ext (He.ba c1).2 c2
end
def excB (K : PySem.W.Frag) (x : Str) : Bool :=
  decide (PySem.W.findIn K (.ref (He.ga K x)) "__getattribute__" = some (some (.builtin "BaseException.__getattribute__"))) && (decide (PySem.W.findIn K (.ref (He.ga K x)) "__getattr__" = some none) && (decide (PySem.W.subIn K (.ref (He.ga K x)) (.type "BaseException") = some true) &&
    (PySem.W.hasDictIn K (He.ga K x) && (decide (PySem.W.findIn K (.ref (He.ga K x)) "__class__" = some (some (.builtin "object.__class__"))) && (decide (PySem.W.specialIn K (.builtin "object.__class__") "__get__" = some (some (.builtin "getset_descriptor.__get__"))) &&
      (decide (PySem.W.takesIn K (.builtin "object.__class__") = some true) && decide (PySem.W.mroIn K (He.ga K x) (.type "object") = some true)))))))
theorem excB_ok {K : PySem.W.Frag} {x : Str} (h : excB K x = true) : ExcC K (He.ga K x) := by
  unfold excB at h
  obtain ⟨h1, h⟩ := He.ba h
  obtain ⟨h2, h⟩ := He.ba h
  obtain ⟨h3, h⟩ := He.ba h
  obtain ⟨h4, h⟩ := He.ba h
  obtain ⟨h5, h⟩ := He.ba h
  obtain ⟨h6, h⟩ := He.ba h
  obtain ⟨h7, h8⟩ := He.ba h
  exact ⟨of_decide_eq_true h1, of_decide_eq_true h2, of_decide_eq_true h3, h4, of_decide_eq_true h5, of_decide_eq_true h6, of_decide_eq_true h7, of_decide_eq_true h8⟩
def kitB (K : PySem.W.Frag) (x y : Str) (b : Bool) : Bool := decide (PySem.W.kitOne K (.ref (He.ga K x)) (.ref (He.ga K y)) = some b)
theorem kitB_ok {K : PySem.W.Frag} {x y : Str} {b : Bool} (h : kitB K x y b = true) : PySem.W.kitOne K (.ref (He.ga K x)) (.ref (He.ga K y)) = some b := of_decide_eq_true h
theorem supB_ok {K : PySem.W.Frag} {x : Str} {vs : List He.Dv} (h : He.tupB K x vs = true) (A : Addr → Prop) (H : Hp) : SqTA K A H (He.ga K x) (vs.map (He.Dv.v K)) := by
  have h0 := He.tupB_ok h (fun _ => none)
  rcases h0 with h0 | h0
  · rcases h0 with z | ⟨o, z⟩ <;> cases z
  · exact .inr h0
section
variable {X : Cx} {G : Gd} {XC : List Nat → Prop} {Ol O O' O1 : List Nat} {W : WX} {fr : Bool} {a b c e o : Expr} {es : List Expr} {ma mb mc me mo : ME} {mr : MA} {pos p apos : Pos} {x y : Str}
theorem gi_ {x : Str} {i : Int} (hm : ∃ t, X.mg x = some (.int i t)) (hg : Gl X x := by rfl) (hd : (x == ("__debug__" : Str)) = false := by decide) : DE X G O W (.Name x pos) (mK (.int i)) := by
  obtain ⟨t, e⟩ := hm
  exact gv_ (v := .int i) e ⟨t, rfl⟩ (fun _ _ => .int i) hg hd
theorem gt_ {x : Str} {vs : List He.Dv} {ds : List D} (hm : X.mg x = some (.ref (He.ga X.K x))) (hS : He.tupB X.K x vs = true) (hR : ∀ A H, RpA X.K A H (vs.map (He.Dv.v X.K)) ds) (hg : Gl X x := by rfl) (hd : (x == ("__debug__" : Str)) = false := by decide) : DE X G O W (.Name x pos) (mK (.tup ds)) :=
  gv_ (v := .ref (He.ga X.K x)) hm rfl (fun A H => .tup (supB_ok hS A H) (hR A H)) hg hd
structure ExcOk (K : PySem.W.Frag) (mg : Str → Option Value) (C : Str) : Prop where
  ex : PySem.W.excIn K (He.ga K C) He.veBase "ValueError.__new__" = true
  kp : PySem.W.keepIn K (.ref (He.ga K C)) = true
  bs : PySem.W.subIn K (.ref (He.ga K C)) (.type "BaseException") = some true
  ty : PySem.W.typeIn K (.ref (He.ga K C)) = some (.type "type")
  gl : mg C = some (.ref (He.ga K C))
theorem ds_raiseC {C m : Str} {j : Nat} {p2 pos2 : Pos} (ec : ExcOk X.K X.mg C) (hx : XC O) (tk : L2N.Takes X W) (hc : X.calm = true := by rfl) (hg : Gl X C := by rfl) (hdb : (C == ("__debug__" : Str)) = false := by decide) : DS X G XC Ol O O' W fr (.Raise (some (.Call (.Name C p) [.Constant (.str m) j p2] [] pos2)) none pos) (msRaise C) :=
  ds_raise hx hc tk (L2N.pmk_own PySem.F.excBase_ValueError ec.ex ec.gl ec.kp (raises_own ec.bs ec.ty) hg hdb)
theorem callIsE {k : Str} {a : Addr} {oe : Obj} {pn : List (Addr × Obj)} (C : ExcC X.K (He.ga X.K k)) (hz : L2N.Zn (.ref (He.ga X.K k)) none oe) (hf : ∃ vs, oe.data = .fields vs) : CallR (X.suite a ((a, oe) :: pn)) (.builtin "isinstance") (rIsE X.K (He.ga X.K k) a) := call_isE C hz.zc hf
end
theorem no_gNotIn : NoObj gNotIn := ⟨fun c fs z => by cases z <;> rfl, fun c fs z => by cases z <;> rfl⟩
section
variable {P : Program} {w : World} {K : PySem.W.Frag} {mg : Str → Option Value} {base : Heap} {N : List Str} {qual : Str} {scope : Scope} {f : Addr} {cdv : Value} {A : Around} {outer : List Env} {s : Shared} {H : Hp} {E : XK}
theorem cx_tk : L2N.Takes (cxOf (L2N.CX P w) P w K mg base N qual scope f cdv A outer s H E) (fun cls d _ H' => E cls d H') := L2N.takes_of rfl rfl rfl rfl
theorem cx_pw : PassesOwn (model (cxOf (L2N.CX P w) P w K mg base N qual scope f cdv A outer s H E).prog (cxOf (L2N.CX P w) P w K mg base N qual scope f cdv A outer s H E).w) (cxOf (L2N.CX P w) P w K mg base N qual scope f cdv A outer s H E).A (cxOf (L2N.CX P w) P w K mg base N qual scope f cdv A outer s H E).env (cxOf (L2N.CX P w) P w K mg base N qual scope f cdv A outer s H E).xe := passes_of rfl
end
end DL
namespace DL
open L2 PySem PySem.Spec PyProof.Rows
def Ret.R (r : Ret) (ρ : En) : R D := match r with
  | .rt d _ => .ok d ρ
  | .ex x _ => .ex x ρ
  | .bad => .bad
theorem mCall_R (F : FN) (args : MA) (ρ : En) : mCall F args ρ = (args ρ).bind fun ds ρ1 => (F ds).R ρ1 := rfl
section
variable {ρ ρ1 : En} {d : D} {α β : Type} {x : Xn}
@[simp] theorem bind_ok (a : α) (r : En) (f : α → En → R β) : R.bind (.ok a r) f = f a r := rfl
@[simp] theorem bind_ex (x : Xn) (r : En) (f : α → En → R β) : R.bind (.ex x r : R α) f = .ex x r := rfl
@[simp] theorem obind_ok (a : α) (r : En) (f : α → En → Out) : obind (.ok a r) f = f a r := rfl
@[simp] theorem obind_ex (x : Xn) (r : En) (f : α → En → Out) : obind (.ex x r : R α) f = .ex x r := rfl
@[simp] theorem ret_some (a : α) : ret (some a) ρ = .ok a ρ := rfl
@[simp] theorem ret_none : ret (none : Option α) ρ = .bad := rfl
@[simp] theorem mK_ap : mK d ρ = .ok d ρ := rfl
@[simp] theorem mVar_ap (i : Nat) : mVar i ρ = match ρ[i]? with | some (some d) => .ok d ρ | _ => .bad := by unfold mVar; rfl
@[simp] theorem m1_ap (g : D → Option D) (a : ME) : m1 g a ρ = (a ρ).bind fun x ρ1 => ret (g x) ρ1 := rfl
@[simp] theorem m2_ap (g : D → D → Option D) (a b : ME) : m2 g a b ρ = (a ρ).bind fun x ρ1 => (b ρ1).bind fun y ρ2 => ret (g x y) ρ2 := rfl
@[simp] theorem mIf_ap (c : MT) (a b : ME) : mIf c a b ρ = (c ρ).bind fun k ρ1 => if k = true then a ρ1 else b ρ1 := by
  unfold mIf; cases c ρ with
  | ok k r => cases k <;> rfl
  | ex _ _ => rfl
  | bad => rfl
@[simp] theorem mTest_ap (m : ME) : mTest m ρ = (m ρ).bind fun x ρ1 => ret (asB x) ρ1 := rfl
@[simp] theorem asB_bl (b : Bool) : asB (.bl b) = some b := rfl
@[simp] theorem mTru_ap (m : ME) : mTru m ρ = (m ρ).bind fun x ρ1 => ret (tru x) ρ1 := rfl
@[simp] theorem mNotT_ap (m : MT) : mNotT m ρ = (m ρ).bind fun x ρ1 => .ok (!x) ρ1 := rfl
@[simp] theorem mAndT_ap (a b : MT) : mAndT a b ρ = (a ρ).bind fun k ρ1 => if k = true then b ρ1 else .ok false ρ1 := by
  unfold mAndT; cases a ρ with
  | ok k r => cases k <;> rfl
  | ex _ _ => rfl
  | bad => rfl
@[simp] theorem mOrT_ap (a b : MT) : mOrT a b ρ = (a ρ).bind fun k ρ1 => if k = true then .ok true ρ1 else b ρ1 := by
  unfold mOrT; cases a ρ with
  | ok k r => cases k <;> rfl
  | ex _ _ => rfl
  | bad => rfl
@[simp] theorem mNil_ap : mNil ρ = .ok [] ρ := rfl
@[simp] theorem mCons_ap (a : ME) (b : MA) : mCons a b ρ = (a ρ).bind fun x ρ1 => (b ρ1).bind fun xs ρ2 => .ok (x :: xs) ρ2 := rfl
@[simp] theorem mN_ap (g : List D → Option D) (a : MA) : mN g a ρ = (a ρ).bind fun xs ρ1 => ret (g xs) ρ1 := rfl
@[simp] theorem msNil_ap : msNil ρ = .nx ρ := rfl
@[simp] theorem msSeq_ap (a b : MS) : msSeq a b ρ = match a ρ with | .nx ρ1 => b ρ1 | o => o := rfl
@[simp] theorem msExpr_ap (m : ME) : msExpr m ρ = obind (m ρ) fun _ ρ1 => .nx ρ1 := rfl
@[simp] theorem msAsg_ap (m : ME) (g : MG) : msAsg m g ρ = obind (m ρ) fun d ρ1 => match g d ρ1 with | .ok _ ρ2 => .nx ρ2 | _ => .bad := rfl
@[simp] theorem msOwn_ap (i : Nat) (m : ME) : msOwn i m ρ = obind (m ρ) fun d ρ1 => if i < ρ1.length then .nx (ρ1.set i (some d)) else .bad := rfl
@[simp] theorem msRet_ap (m : ME) : msRet m ρ = obind (m ρ) fun d ρ1 => .rt d ρ1 := rfl
@[simp] theorem msRetN_ap : msRetN ρ = .rt .non ρ := rfl
@[simp] theorem msRetO_ap (j : Nat) : msRetO j ρ = match getO ρ j with | some d => .rt d ρ | none => .bad := rfl
@[simp] theorem msIf_ap (c : MT) (a b : MS) : msIf c a b ρ = obind (c ρ) fun k ρ1 => if k = true then a ρ1 else b ρ1 := rfl
@[simp] theorem msBrk_ap : msBrk ρ = .bk ρ := rfl
@[simp] theorem msCnt_ap : msCnt ρ = .ct ρ := rfl
@[simp] theorem msFor_ap (mi : En → R (List D)) (g : MG) (mb : MS) : msFor mi g mb ρ = obind (mi ρ) fun ds ρ1 => loopL g mb ds ρ1 := rfl
@[simp] theorem msWhile_ap (n : Nat) (c : MT) (mb : MS) : msWhile n c mb ρ = loopW c mb n ρ := rfl
@[simp] theorem msForget_ap (j : Nat) (m : MS) : msForget j m ρ = m (ρ.set j none) := rfl
@[simp] theorem msPar_ap (is : List Nat) (m : MA) : msPar is m ρ = obind (m ρ) fun ds ρ1 => putP is ds ρ1 := rfl
@[simp] theorem msRaise_ap (c : Str) : msRaise c ρ = .ex ⟨c, []⟩ ρ := rfl
@[simp] theorem mgName_ap (i : Nat) : mgName i d ρ = if i < ρ.length then .ok () (ρ.set i (some d)) else .bad := rfl
@[simp] theorem mgNil_ap : mgNil [] ρ = .ok () ρ := rfl
@[simp] theorem mgCons_ap (g : MG) (gs : List D → En → R Unit) (r : List D) : mgCons g gs (d :: r) ρ = (g d ρ).bind fun _ ρ1 => gs r ρ1 := rfl
@[simp] theorem mgTup_ap (n : Nat) (gs : List D → En → R Unit) (ds : List D) : mgTup n gs (.tup ds) ρ = if ds.length = n then gs ds ρ else .bad := rfl
@[simp] theorem putP_nil : putP [] [] ρ = .nx ρ := rfl
@[simp] theorem putP_cons (i : Nat) (is : List Nat) (ds : List D) : putP (i :: is) (d :: ds) ρ = if i < ρ.length then putP is ds (ρ.set i (some d)) else .bad := rfl
@[simp] theorem mItN_ap (g : List D → Option (List D)) (a : MA) : mItN g a ρ = (a ρ).bind fun ds ρ1 => ret (g ds) ρ1 := rfl
@[simp] theorem mIter_ap (m : ME) : mIter m ρ = (m ρ).bind fun d ρ1 => ret (gIter d) ρ1 := rfl
theorem getO_ap (j : Nat) : getO ρ j = match ρ[j]? with | some (some d) => some d | _ => none := by unfold getO; rfl
@[simp] theorem mOM_ap (g : List D → List D → Option (D × List D)) (j : Nat) (args : MA) : mOM g j args ρ = match getO ρ j with
  | some (.lst _) => (args ρ).bind fun ds ρ1 => match getO ρ1 j with
    | some (.lst cs) => match g cs ds with
      | some (z, cs') => .ok z (ρ1.set j (some (.lst cs')))
      | none => .bad
    | _ => .bad
  | _ => .bad := rfl
@[simp] theorem mTruO_ap (j : Nat) : mTruO j ρ = match getO ρ j with | some (.lst l) => .ok (!l.isEmpty) ρ | _ => .bad := rfl
theorem mCallIo_ap (F : FN) (j : Nat) (args : MA) : mCallIo F j args ρ = match getO ρ j with
  | none => .bad
  | some _ => (args ρ).bind fun ds ρ1 => match getO ρ1 j with
    | none => .bad
    | some c => match F (c :: ds) with
      | .rt d o => .ok d (ρ1.set j (some o))
      | .ex x o => .ex x (ρ1.set j (some o))
      | .bad => .bad := rfl
@[simp] theorem mCallV_ap (tab : Str → Option FN) (f : ME) (args : MA) : mCallV tab f args ρ = (f ρ).bind fun d ρ1 => match d with
  | .fn x => match tab x with
    | some F => mCall F args ρ1
    | none => .bad
  | _ => .bad := rfl
@[simp] theorem gTup_ap (xs : List D) : gTup xs = if xs.length ≤ sizeLine then some (.tup xs) else none := rfl
@[simp] theorem gLst_ap (xs : List D) : gLst xs = if xs.length ≤ sizeLine then some (.lst xs) else none := rfl
@[simp] theorem gAdd_ii (i j : Int) : gAdd (.int i) (.int j) = some (.int (i + j)) := rfl
@[simp] theorem gSub_ii (i j : Int) : gSub (.int i) (.int j) = some (.int (i - j)) := rfl
theorem gMul_ii (i j : Int) : gMul (.int i) (.int j) = if okMul i j = true then some (.int (i * j)) else none := rfl
theorem gDiv_ii (i j : Int) : gDiv (.int i) (.int j) = if j ≠ 0 ∧ j.natAbs.log2 < 9000 then some (.int (i.fdiv j)) else none := rfl
theorem gMod_ii (i j : Int) : gMod (.int i) (.int j) = if j ≠ 0 then some (.int (i.fmod j)) else none := rfl
@[simp] theorem gNeg_i (i : Int) : gNeg (.int i) = some (.int (-i)) := rfl
@[simp] theorem gLt_ii (i j : Int) : gLt (.int i) (.int j) = some (.bl (decide (i < j))) := rfl
@[simp] theorem gGt_ii (i j : Int) : gGt (.int i) (.int j) = some (.bl (decide (j < i))) := rfl
@[simp] theorem gLe_ii (i j : Int) : gLe (.int i) (.int j) = some (.bl (decide (i ≤ j))) := rfl
@[simp] theorem gGe_ii (i j : Int) : gGe (.int i) (.int j) = some (.bl (decide (j ≤ i))) := rfl
@[simp] theorem gEq_ii (i j : Int) : gEq (.int i) (.int j) = some (.bl (decide (i = j))) := rfl
@[simp] theorem gNe_ii (i j : Int) : gNe (.int i) (.int j) = some (.bl (!decide (i = j))) := rfl
@[simp] theorem gEq_ss (i j : Str) : gEq (.str i) (.str j) = some (.bl (decide (i = j))) := rfl
@[simp] theorem gNe_ss (i j : Str) : gNe (.str i) (.str j) = some (.bl (!decide (i = j))) := rfl
@[simp] theorem gIs_n (d : D) : gIs d .non = some (.bl (isNon d)) := by cases d <;> rfl
@[simp] theorem gIsNot_n (d : D) : gIsNot d .non = some (.bl (!isNon d)) := by cases d <;> rfl
@[simp] theorem gIs_b (a b : Bool) : gIs (.bl a) (.bl b) = some (.bl (decide (a = b))) := rfl
@[simp] theorem gIsNot_b (a b : Bool) : gIsNot (.bl a) (.bl b) = some (.bl (!decide (a = b))) := rfl
@[simp] theorem gInt_i (i : Int) : gInt [.int i] = some (.int i) := rfl
@[simp] theorem gInt_b (k : Bool) : gInt [.bl k] = some (.int (if k then 1 else 0)) := rfl
@[simp] theorem gAbs_i (i : Int) : gAbs [.int i] = some (.int (if i < 0 then -i else i)) := rfl
@[simp] theorem mAnd_ap (a b : ME) : mAnd a b ρ = (a ρ).bind fun x ρ1 => (ret (tru x) ρ1).bind fun k ρ2 => if k = true then b ρ2 else .ok x ρ2 := by
  unfold mAnd
  cases a ρ with
  | ok x r =>
    simp only [bind_ok]
    try (cases tru x with
    | none => rfl
    | some k => cases k <;> rfl)
  | ex _ _ => rfl
  | bad => rfl
@[simp] theorem tru_bl (b : Bool) : tru (.bl b) = some b := rfl
@[simp] theorem gIx_t (l : List D) (i : Int) : gIx (.tup l) (.int i) = L2.atI l i := rfl
@[simp] theorem gIx_l (l : List D) (i : Int) : gIx (.lst l) (.int i) = L2.atI l i := rfl
@[simp] theorem gRange1_i (j : Int) : gRange1 [.int j] = if okR j = true then some (rangeL 0 j.toNat) else none := rfl
@[simp] theorem Ret.R_rt (d o : D) : Ret.R (.rt d o) ρ = .ok d ρ := rfl
@[simp] theorem Ret.R_ex (x : Xn) (o : D) : Ret.R (.ex x o) ρ = .ex x ρ := rfl
theorem mLc_ap (vs : List Nat) (mi : En → R (List D)) (g : MG) (mt : MT) (me : ME) : mLc vs mi g mt me ρ = (mi ρ).bind fun ds ρ1 => match lcLoop vs g mt me ds ρ1 with
  | .ok ys ρ2 => if ys.length ≤ sizeLine then .ok (.lst ys) (restE ρ1 vs ρ2) else .bad
  | _ => .bad := rfl
theorem mTryAs_ap (mt : Str → Option Bool) (i : Nat) (mb : MS) (ms : Str → MS) : msTryAs mt i mb ms ρ = match mb ρ with
  | .ex y ρ1 => match mt y.c with
    | some true => match y.fs with
      | [] => if i < ρ1.length then fgt i (ms y.c (ρ1.set i none)) else .bad
      | _ => .bad
    | some false => .ex y ρ1
    | none => .bad
  | o => o := rfl
end
theorem lg {n k : Nat} (h : n < 2 ^ k) (hk : 0 < k) : n.log2 < k := by
  by_cases z : n = 0
  · subst z; simpa using hk
  · exact (Nat.log2_lt z).mpr h
theorem sm_mul {a b : Int} {i j : Nat} (h1 : a.natAbs < 2 ^ i) (h2 : b.natAbs < 2 ^ j) : (a * b).natAbs < 2 ^ (i + j) := by
  rw [Int.natAbs_mul, Nat.pow_add]
  exact Nat.mul_lt_mul'' h1 h2
theorem sm_add {a b : Int} {i : Nat} (h1 : a.natAbs < 2 ^ i) (h2 : b.natAbs < 2 ^ i) : (a + b).natAbs < 2 ^ (i + 1) := by
  have := Int.natAbs_add_le a b
  rw [Nat.pow_succ]
  omega
theorem sm_sub {a b : Int} {i : Nat} (h1 : a.natAbs < 2 ^ i) (h2 : b.natAbs < 2 ^ i) : (a - b).natAbs < 2 ^ (i + 1) := by
  rw [Nat.pow_succ]
  omega
theorem sm_up {a : Int} {i j : Nat} (h : a.natAbs < 2 ^ i) (l : i ≤ j) : a.natAbs < 2 ^ j := Nat.lt_of_lt_of_le h (Nat.pow_le_pow_right (by decide) l)
theorem okMul_of {a b : Int} {i j : Nat} (h1 : a.natAbs < 2 ^ i) (h2 : b.natAbs < 2 ^ j) (hi : 0 < i) (hj : 0 < j) (h : i + j < 100000000) : okMul a b = true := by
  unfold okMul
  have := lg h1 hi
  have := lg h2 hj
  exact decide_eq_true (by omega)
theorem gMul_sm {a b : Int} {i j : Nat} (h1 : a.natAbs < 2 ^ i) (h2 : b.natAbs < 2 ^ j) (hi : 0 < i) (hj : 0 < j) (h : i + j < 100000000) : gMul (.int a) (.int b) = some (.int (a * b)) := by rw [gMul_ii, if_pos (okMul_of h1 h2 hi hj h)]
theorem gDiv_sm {a b : Int} {j : Nat} (h0 : b ≠ 0) (h2 : b.natAbs < 2 ^ j) (hj : 0 < j) (h : j ≤ 9000) : gDiv (.int a) (.int b) = some (.int (a.fdiv b)) := by
  rw [gDiv_ii, if_pos ⟨h0, Nat.lt_of_lt_of_le (lg h2 hj) h⟩]
theorem gMod_nz {a b : Int} (h0 : b ≠ 0) : gMod (.int a) (.int b) = some (.int (a.fmod b)) := by rw [gMod_ii, if_pos h0]
end DL
namespace DL
open L2 PySem PySem.Spec PyProof.Rows
def mqNumber : MS := (msSeq (msIf (mTest (m2 gLt (mVar 0) (mK (.int 0)))) (msRet (m2 gSub (mK (.int 0)) (mVar 0))) msNil) (msRet (mVar 0)))
def qNumber : FN := runM 1 1 [] false mqNumber
def mqInner : MS := (msSeq (msIf (mTest (m2 gEq (mVar 3) (mK (.int 0)))) msBrk msNil) (msSeq (msExpr (mOM gAppend 1 (mCons (m2 gMod (mN gInt (mCons (mVar 3) mNil)) (mK (.int 1000))) mNil))) (msAsg (m2 gDiv (mVar 3) (mK (.int 1000))) (mgName 3))))
def mqBody : MS := (msSeq (msAsg (mCall qNumber (mCons (mVar 2) mNil)) (mgName 3)) (msIf (mTest (m2 gGe (mVar 3) (mK (.int 1000000000000000000)))) (msFor (mItN gRange1 (mCons (mK (.int 60)) mNil)) (mgName 4) mqInner) (msSeq (msAsg (m2 gMod (mN gInt (mCons (m2 gAdd (m2 gMul (mVar 3) (mK (.int 48271))) (mK (.int 11))) mNil)) (mK (.int 2147483647))) (mgName 5)) (msSeq (msAsg (m2 gMod (mN gInt (mCons (m2 gAdd (m2 gMul (mVar 5) (mK (.int 69621))) (mVar 3)) mNil)) (mK (.int 2147483629))) (mgName 6)) (msExpr (mOM gExtend 1 (mCons (mN gLst (mCons (m2 gMod (mN gInt (mCons (mVar 3) mNil)) (mK (.int 1000))) (mCons (m2 gMod (mN gInt (mCons (mVar 5) mNil)) (mK (.int 1000))) (mCons (m2 gMod (mN gInt (mCons (mVar 6) mNil)) (mK (.int 1000))) mNil)))) mNil)))))))
def mqDraws : MS := (msForget 1 (msSeq (msOwn 1 (mN gLst mNil)) (msSeq (msFor (mIter (mVar 0)) (mgName 2) mqBody) (msRetO 1))))
def qDraws : FN := runM 7 1 [] true mqDraws
def mqNext : MS := (msSeq (msIf (mTruO 0) (msRet (mOM gPop 0 mNil)) msNil) (msRet (mK (.int 0))))
def qNext : FN := runM 1 1 [] false mqNext
theorem qNumber_v (n : Int) (ρ : En) : (qNumber [.int n]).R ρ = .ok (.int (if n < 0 then -n else n)) ρ := by
  by_cases h : n < 0
  · simp [qNumber, runM, mqNumber, pad, h]
  · simp [qNumber, runM, mqNumber, pad, h]
theorem getO_1 (a : Option D) (d : D) (r : En) : getO (a :: some d :: r) 1 = some d := rfl
theorem getO_0 (d : D) (r : En) : getO (some d :: r) 0 = some d := rfl
def drawI (l : List Int) : Int := l.getLastD 0
theorem qNext_v (l : List Int) : qNext [.lst (l.map .int)] = .rt (.int (drawI l)) (.lst (l.dropLast.map .int)) := by
  rcases List.eq_nil_or_concat l with h | ⟨r, z, h⟩
  · subst h; rfl
  · subst h
    simp [qNext, runM, mqNext, pad, getO_0, gPop, drawI, io0]
theorem inner_v (s : Option D) (o2 o4 o5 o6 : Option D) : ∀ (ds : List D) (acc : List Int) (n : Int), acc.length + ds.length < sizeLine →
    ∃ (acc' : List Int) (n' : Int) (o4' : Option D), loopL (mgName 4) mqInner ds [s, some (.lst (acc.map .int)), o2, some (.int n), o4, o5, o6] = .nx [s, some (.lst (acc'.map .int)), o2, some (.int n'), o4', o5, o6] ∧ acc'.length ≤ acc.length + ds.length := by
  intro ds
  induction ds generalizing o4 with
  | nil => exact fun acc n _ => ⟨acc, n, o4, rfl, Nat.le_refl _⟩
  | cons d r ih =>
    intro acc n h
    rw [List.length_cons] at h
    by_cases hn : n = 0
    · subst hn
      refine ⟨acc, 0, some d, ?_, by omega⟩
      simp [loopL, mqInner]
    · obtain ⟨acc', n', o4', e, l⟩ := ih (some d) (acc ++ [n.fmod 1000]) (n.fdiv 1000) (by rw [List.length_append, List.length_singleton]; omega)
      refine ⟨acc', n', o4', ?_, by rw [List.length_append, List.length_singleton] at l; rw [List.length_cons]; omega⟩
      rw [← e]
      have h1 : acc.length < sizeLine := by omega
      have h2 : ∀ x : Int, gDiv (.int x) (.int 1000) = some (.int (x.fdiv 1000)) := fun x => gDiv_sm (j := 10) (by decide) (by decide) (by decide) (by decide)
      simp [loopL, mqInner, hn, getO_1, gAppend, gMod_ii, h1, h2]
theorem body_v (s : Option D) : ∀ (cells acc : List Int) (o2 o3 o4 o5 o6 : Option D), acc.length + 60 * cells.length < sizeLine →
    ∃ (acc' : List Int) (o2' o3' o4' o5' o6' : Option D), loopL (mgName 2) mqBody (cells.map .int) [s, some (.lst (acc.map .int)), o2, o3, o4, o5, o6] = .nx [s, some (.lst (acc'.map .int)), o2', o3', o4', o5', o6'] ∧ acc'.length ≤ acc.length + 60 * cells.length := by
  intro cells
  induction cells with
  | nil => exact fun acc o2 o3 o4 o5 o6 _ => ⟨acc, o2, o3, o4, o5, o6, rfl, Nat.le_refl _⟩
  | cons c r ih =>
    intro acc o2 o3 o4 o5 o6 h
    rw [List.length_cons] at h
    rw [List.map_cons]
    by_cases hc : (1000000000000000000 : Int) ≤ (if c < 0 then -c else c)
    · obtain ⟨acc1, n1, o41, e1, l1⟩ := inner_v s (some (.int c)) o4 o5 o6 (rangeL 0 60) acc (if c < 0 then -c else c) (by
        have : (rangeL 0 60).length = 60 := by simp [rangeL]
        omega)
      have hl : (rangeL 0 60).length = 60 := by simp [rangeL]
      obtain ⟨acc', o2', o3', o4', o5', o6', e, l⟩ := ih acc1 (some (.int c)) (some (.int n1)) o41 o5 o6 (by omega)
      refine ⟨acc', o2', o3', o4', o5', o6', ?_, by rw [List.length_cons]; omega⟩
      rw [← e]
      have ok60 : okR 60 = true := by decide
      have e1' : loopL (mgName 4) mqInner (rangeL 0 60) [s, some (.lst (acc.map .int)), some (.int c), some (.int (if c < 0 then -c else c)), o4, o5, o6] = _ := e1
      have t60 : Int.toNat 60 = 60 := rfl
      simp only [loopL]
      simp [mqBody, mCall_R, qNumber_v, hc, ok60, e1']
    · have hs : (if c < 0 then -c else c).natAbs < 2 ^ 60 := by
        split <;> split at hc <;> omega
      have m1 := gMul_sm (a := if c < 0 then -c else c) (b := 48271) (i := 60) (j := 20) hs (by decide) (by decide) (by decide) (by decide)
      have p1 : ∀ x : Int, (x.fmod 2147483647).natAbs < 2 ^ 60 := fun x => by
        rw [Int.fmod_eq_emod_of_nonneg _ (by decide)]
        omega
      have m2' := fun x : Int => gMul_sm (a := x.fmod 2147483647) (b := 69621) (i := 60) (j := 20) (p1 x) (by decide) (by decide) (by decide) (by decide)
      obtain ⟨acc', o2', o3', o4', o5', o6', e, l⟩ := ih (acc ++ [(if c < 0 then -c else c).fmod 1000, ((((if c < 0 then -c else c) * 48271 + 11).fmod 2147483647)).fmod 1000, ((((((if c < 0 then -c else c) * 48271 + 11).fmod 2147483647) * 69621 + (if c < 0 then -c else c)).fmod 2147483629)).fmod 1000])
        (some (.int c)) (some (.int (if c < 0 then -c else c))) o4 (some (.int (((if c < 0 then -c else c) * 48271 + 11).fmod 2147483647))) (some (.int (((((if c < 0 then -c else c) * 48271 + 11).fmod 2147483647) * 69621 + (if c < 0 then -c else c)).fmod 2147483629))) (by simp; omega)
      refine ⟨acc', o2', o3', o4', o5', o6', ?_, by simp at l; rw [List.length_cons]; omega⟩
      rw [← e]
      have h3 : 3 ≤ sizeLine := by decide
      have h4 : acc.length + 3 ≤ sizeLine := by omega
      simp only [loopL]
      simp [mqBody, mCall_R, qNumber_v, hc, m1, m2', gMod_ii, getO_1, gExtend, h3, h4]
theorem qDraws_v (zs : List Int) (h : zs.length ≤ 63) : ∃ l : List Int, ∀ ρ, (qDraws [.scr (zs.map .int)]).R ρ = .ok (.lst (l.map .int)) ρ := by
  have hz : sizeLine = 16777216 := by decide
  obtain ⟨acc', o2', o3', o4', o5', o6', e, l⟩ := body_v (some (.scr (zs.map .int))) zs [] none none none none none (by simp; omega)
  refine ⟨acc', fun ρ => ?_⟩
  have e' : loopL (mgName 2) mqBody (zs.map .int) [some (.scr (zs.map .int)), some (.lst []), none, none, none, none, none] = _ := e
  have h0 : 0 ≤ sizeLine := by decide
  simp [qDraws, runM, mqDraws, pad, gIter, h0, e', getO_1]
end DL
namespace DL
open L2 PySem PySem.Spec PyProof.Rows
theorem eu_step {b r k : Nat} (hb : b < 2 ^ (k + 1)) (hr : 0 < r) (hrb : r < b) : b % r < 2 ^ k := by
  have h1 := Nat.mod_lt b hr
  rw [Nat.pow_succ] at hb
  by_cases h : 2 * r ≤ b
  · omega
  · have e : b % r = b - r := by rw [Nat.mod_eq_sub_mod (by omega), Nat.mod_eq_of_lt (by omega)]
    omega
theorem fmod_nat (a b : Nat) : (a : Int).fmod (b : Int) = ((a % b : Nat) : Int) := by
  rw [Int.fmod_eq_emod_of_nonneg _ (Int.natCast_nonneg b)]
  exact (Int.natCast_emod a b).symm
def mEuC : MT := mTest (m2 gNe (mVar 1) (mK (.int 0)))
def mEuB : MS := msPar [0, 1] (mCons (mVar 1) (mCons (m2 gMod (mVar 0) (mVar 1)) mNil))
theorem eu_zero (a n : Nat) : loopW mEuC mEuB (n + 1) [some (.int (a : Int)), some (.int ((0 : Nat) : Int))] = .nx [some (.int (a : Int)), some (.int 0)] := by
  simp [loopW, mEuC]
theorem eu_one {a b n : Nat} (hb : b ≠ 0) : loopW mEuC mEuB (n + 1) [some (.int (a : Int)), some (.int (b : Int))] = loopW mEuC mEuB n [some (.int (b : Int)), some (.int ((a % b : Nat) : Int))] := by
  have h : (b : Int) ≠ 0 := by omega
  rw [← fmod_nat]
  simp [loopW, mEuC, mEuB, h, gMod_nz h, hb]
theorem eu_loop : ∀ (k a b n : Nat), b < 2 ^ k → 2 * k + 1 ≤ n → loopW mEuC mEuB n [some (.int (a : Int)), some (.int (b : Int))] = .nx [some (.int (Nat.gcd a b : Nat)), some (.int 0)]
  | k, a, b, 0, _, h => by omega
  | 0, a, b, n + 1, hb, h => by
    obtain rfl : b = 0 := by simpa using hb
    rw [Nat.gcd_zero_right]
    exact eu_zero a n
  | k + 1, a, b, n + 1, hb, h => by
    by_cases b0 : b = 0
    · subst b0
      rw [Nat.gcd_zero_right]
      exact eu_zero a n
    · rw [eu_one b0]
      have g1 : Nat.gcd a b = Nat.gcd b (a % b) := by rw [Nat.gcd_comm a b, Nat.gcd_rec b a, Nat.gcd_comm]
      by_cases r0 : a % b = 0
      · rw [g1, r0, Nat.gcd_zero_right]
        obtain ⟨m, rfl⟩ : ∃ m, n = m + 1 := ⟨n - 1, by omega⟩
        exact eu_zero b m
      · have hrb := Nat.mod_lt a (Nat.pos_of_ne_zero b0)
        obtain ⟨m, rfl⟩ : ∃ m, n = m + 1 := ⟨n - 1, by omega⟩
        rw [eu_one r0]
        have g2 : Nat.gcd b (a % b) = Nat.gcd (a % b) (b % (a % b)) := by rw [Nat.gcd_comm b, Nat.gcd_rec (a % b) b, Nat.gcd_comm]
        rw [g1, g2]
        exact eu_loop k (a % b) (b % (a % b)) m (eu_step hb (Nat.pos_of_ne_zero r0) hrb) (by omega)
def mqDivisor : MS := (msSeq (msPar [0, 1] (mCons (mN gAbs (mCons (mVar 0) mNil)) (mCons (mN gAbs (mCons (mVar 1) mNil)) mNil))) (msSeq (msWhile 1000000 mEuC mEuB) (msRet (mVar 0))))
def qDivisor : FN := runM 2 2 [] false mqDivisor
theorem abs_cast (a : Int) : (if a < 0 then -a else a) = ((a.natAbs : Nat) : Int) := by split <;> omega
theorem qDivisor_v (a b : Int) (hb : b.natAbs < 2 ^ 8000) (ρ : En) : (qDivisor [.int a, .int b]).R ρ = .ok (.int (Int.gcd a b : Nat)) ρ := by
  have e := eu_loop 8000 a.natAbs b.natAbs 1000000 hb (by decide)
  rw [Int.gcd_eq_natAbs_gcd_natAbs]
  simp [qDivisor, runM, mqDivisor, pad, abs_cast, e]
def mEv : MS := (msSeq (msIf (mTest (m2 gEq (mVar 3) (mK (.int 0)))) msBrk msNil) (msPar [2, 3] (mCons (mVar 3) (mCons (m2 gMod (mN gInt (mCons (mVar 2) mNil)) (mVar 3)) mNil))))
theorem ev_zero (x y : Option D) (a : Nat) (o : Option D) : ∀ ds : List D, ∃ o', loopL (mgName 4) mEv ds [x, y, some (.int (a : Int)), some (.int ((0 : Nat) : Int)), o] = .nx [x, y, some (.int (a : Int)), some (.int 0), o']
  | [] => ⟨o, rfl⟩
  | d :: r => ⟨some d, by simp [loopL, mEv]⟩
theorem ev_one (x y : Option D) {a b : Nat} (o : Option D) (hb : b ≠ 0) (d : D) (ds : List D) : loopL (mgName 4) mEv (d :: ds) [x, y, some (.int (a : Int)), some (.int (b : Int)), o] = loopL (mgName 4) mEv ds [x, y, some (.int (b : Int)), some (.int ((a % b : Nat) : Int)), some d] := by
  have h : (b : Int) ≠ 0 := by omega
  rw [← fmod_nat]
  simp [loopL, mEv, h, gMod_nz h, hb]
theorem ev_loop (x y : Option D) : ∀ (k a b : Nat) (o : Option D) (ds : List D), b < 2 ^ k → 2 * k ≤ ds.length → ∃ o', loopL (mgName 4) mEv ds [x, y, some (.int (a : Int)), some (.int (b : Int)), o] = .nx [x, y, some (.int (Nat.gcd a b : Nat)), some (.int 0), o']
  | 0, a, b, o, ds, hb, h => by
    obtain rfl : b = 0 := by simpa using hb
    rw [Nat.gcd_zero_right]
    exact ev_zero x y a o ds
  | k + 1, a, b, o, [], hb, h => by simp at h
  | k + 1, a, b, o, [_], hb, h => by simp at h; omega
  | k + 1, a, b, o, d :: d2 :: ds, hb, h => by
    by_cases b0 : b = 0
    · subst b0
      rw [Nat.gcd_zero_right]
      exact ev_zero x y a o _
    · rw [ev_one x y o b0]
      have g1 : Nat.gcd a b = Nat.gcd b (a % b) := by rw [Nat.gcd_comm a b, Nat.gcd_rec b a, Nat.gcd_comm]
      by_cases r0 : a % b = 0
      · rw [g1, r0, Nat.gcd_zero_right]
        exact ev_zero x y b _ _
      · have hrb := Nat.mod_lt a (Nat.pos_of_ne_zero b0)
        rw [ev_one x y _ r0]
        have g2 : Nat.gcd b (a % b) = Nat.gcd (a % b) (b % (a % b)) := by rw [Nat.gcd_comm b, Nat.gcd_rec (a % b) b, Nat.gcd_comm]
        rw [g1, g2]
        exact ev_loop x y k (a % b) (b % (a % b)) _ ds (eu_step hb (Nat.pos_of_ne_zero r0) hrb) (by simp at h; omega)
def mqLD (mi : En → R (List D)) : MS := (msSeq (msAsg (mN gAbs (mCons (mVar 0) mNil)) (mgName 2)) (msSeq (msAsg (mN gAbs (mCons (mVar 1) mNil)) (mgName 3)) (msSeq (msFor mi (mgName 4) mEv) (msRet (mVar 2)))))
def qLDivisor : FN := runM 5 2 [] false (mqLD (mItN gRange1 (mCons (m2 gPow (mK (.int 10)) (mK (.int 9))) mNil)))
theorem rangeL_length (i : Int) (n : Nat) : (rangeL i n).length = n := by simp [rangeL]
theorem mqLD_v {mi : En → R (List D)} {ds : List D} (hmi : ∀ ρ, mi ρ = .ok ds ρ) (hl : 16000 ≤ ds.length) (a b : Int) (hb : b.natAbs < 2 ^ 8000) (ρ : En) : (runM 5 2 [] false (mqLD mi) [.int a, .int b]).R ρ = .ok (.int (Int.gcd a b : Nat)) ρ := by
  obtain ⟨o', e⟩ := ev_loop (some (.int a)) (some (.int b)) 8000 a.natAbs b.natAbs none ds hb hl
  rw [Int.gcd_eq_natAbs_gcd_natAbs]
  simp [runM, mqLD, pad, abs_cast, hmi, e]
theorem p9 : gPow (.int 10) (.int 9) = some (.int 1000000000) := by
  have c : CPow 10 9 := by decide
  show (if CPow 10 9 then some (D.int (10 ^ (9 : Int).toNat)) else none) = _
  rw [if_pos c] <;> rfl
theorem r9 : ∃ ds, gRange1 [.int 1000000000] = some ds ∧ 16000 ≤ ds.length := by
  have ok9 : okR 1000000000 = true := by decide
  exact ⟨rangeL 0 (Int.toNat 1000000000), by rw [gRange1_i, if_pos ok9], by rw [rangeL_length]; decide⟩
theorem qLDivisor_v (a b : Int) (hb : b.natAbs < 2 ^ 8000) (ρ : En) : (qLDivisor [.int a, .int b]).R ρ = .ok (.int (Int.gcd a b : Nat)) ρ := by
  obtain ⟨ds, hds, hl⟩ := r9
  refine mqLD_v (fun ρ => ?_) hl a b hb ρ
  rw [mItN_ap, mCons_ap, m2_ap, mK_ap, bind_ok, mK_ap, bind_ok, p9, ret_some, bind_ok, mNil_ap, bind_ok, bind_ok, hds, ret_some]
def sgcd (a b : Int) : Int := if b < 0 then -(Int.gcd a b : Int) else (Int.gcd a b : Int)
def low (a b : Int) : Int × Int := (a.fdiv (sgcd a b), b.fdiv (sgcd a b))
def tupI (p : Int × Int) : D := .tup [.int p.1, .int p.2]
theorem sgcd_ne {a b : Int} (h : b ≠ 0) : sgcd a b ≠ 0 := by
  have : 0 < Int.gcd a b := Int.gcd_pos_of_ne_zero_right a h
  unfold sgcd
  split <;> omega
theorem gcd_le {a b : Int} (h : b ≠ 0) : Int.gcd a b ≤ b.natAbs := by
  rw [Int.gcd_eq_natAbs_gcd_natAbs]
  exact Nat.gcd_le_right _ (by omega)
theorem sgcd_sm {a b : Int} {k : Nat} (h : b ≠ 0) (hb : b.natAbs < 2 ^ k) : (sgcd a b).natAbs < 2 ^ k := by
  have := gcd_le (a := a) h
  unfold sgcd
  split <;> omega
def mqLowest (F : FN) (neg : ME) : MS := (msSeq (msAsg (mCall F (mCons (mVar 0) (mCons (mVar 1) mNil))) (mgName 2)) (msSeq (msIf (mTest (m2 gLt (mVar 1) (mK (.int 0)))) (msAsg neg (mgName 2)) msNil) (msRet (mN gTup (mCons (m2 gDiv (mVar 0) (mVar 2)) (mCons (m2 gDiv (mVar 1) (mVar 2)) mNil))))))
def qLowest : FN := runM 3 2 [] false (mqLowest qDivisor (m1 gNeg (mVar 2)))
def qLLowest : FN := runM 3 2 [] false (mqLowest qLDivisor (m2 gSub (mK (.int 0)) (mVar 2)))
theorem two_le : 2 ≤ sizeLine := by decide
theorem lowest_gen {F : FN} {neg : ME} {a b : Int} (h : b ≠ 0) (hb : b.natAbs < 2 ^ 8000) (hF : ∀ ρ, (F [.int a, .int b]).R ρ = .ok (.int (Int.gcd a b : Nat)) ρ) (hn : ∀ (x y : Option D) (z : Int), neg [x, y, some (.int z)] = .ok (.int (-z)) [x, y, some (.int z)]) (ρ : En) :
    (runM 3 2 [] false (mqLowest F neg) [.int a, .int b]).R ρ = .ok (tupI (low a b)) ρ := by
  have d1 := fun x : Int => gDiv_sm (a := x) (sgcd_ne (a := a) h) (sgcd_sm (a := a) h hb) (by decide) (by decide)
  by_cases n : b < 0
  · have e : sgcd a b = -(Int.gcd a b : Int) := if_pos n
    rw [e] at d1
    simp [runM, mqLowest, pad, mCall_R, hF, n, d1, two_le, tupI, low, e, hn]
  · have e : sgcd a b = (Int.gcd a b : Int) := if_neg n
    rw [e] at d1
    simp [runM, mqLowest, pad, mCall_R, hF, n, d1, two_le, tupI, low, e]
theorem qLowest_v {a b : Int} (h : b ≠ 0) (hb : b.natAbs < 2 ^ 8000) (ρ : En) : (qLowest [.int a, .int b]).R ρ = .ok (tupI (low a b)) ρ := lowest_gen h hb (qDivisor_v a b hb) (fun x y z => by simp) ρ
theorem qLLowest_v {a b : Int} (h : b ≠ 0) (hb : b.natAbs < 2 ^ 8000) (ρ : En) : (qLLowest [.int a, .int b]).R ρ = .ok (tupI (low a b)) ρ := lowest_gen h hb (qLDivisor_v a b hb) (fun x y z => by simp) ρ
def isNum (a b : Int) : Bool := decide (1 ≤ b) && decide (Int.gcd a b = 1)
theorem low_sm {a b : Int} {i j : Nat} (h1 : a.natAbs < 2 ^ i) (h2 : b.natAbs < 2 ^ j) : (low a b).1.natAbs < 2 ^ i ∧ (low a b).2.natAbs < 2 ^ j :=
  ⟨Nat.lt_of_le_of_lt (Int.natAbs_fdiv_le_natAbs _ _) h1, Nat.lt_of_le_of_lt (Int.natAbs_fdiv_le_natAbs _ _) h2⟩
theorem low_num {a b : Int} (h : b ≠ 0) : isNum (low a b).1 (low a b).2 = true := by
  have g0 : 0 < Int.gcd a b := Int.gcd_pos_of_ne_zero_right a h
  have da : (Int.gcd a b : Int) ∣ a := Int.gcd_dvd_left a b
  have db : (Int.gcd a b : Int) ∣ b := Int.gcd_dvd_right a b
  obtain ⟨x, hx⟩ := da
  obtain ⟨y, hy⟩ := db
  generalize hg : Int.gcd a b = g at *
  have gi : (g : Int) ≠ 0 := by omega
  have cop : Int.gcd x y = 1 := by
    have e : Int.gcd a b = g * Int.gcd x y := by
      rw [hx, hy, Int.gcd_mul_left]
      simp
    rw [hg] at e
    exact Nat.eq_of_mul_eq_mul_left g0 (by omega)
  unfold low sgcd isNum
  rw [hg]
  by_cases n : b < 0
  · rw [if_pos n]
    have e1 : a.fdiv (-(g : Int)) = -x := by
      have : a = (-x) * (-(g : Int)) := by rw [hx, Int.neg_mul_neg, Int.mul_comm]
      rw [this, Int.mul_fdiv_cancel _ (by omega)]
    have e2 : b.fdiv (-(g : Int)) = -y := by
      have : b = (-y) * (-(g : Int)) := by rw [hy, Int.neg_mul_neg, Int.mul_comm]
      rw [this, Int.mul_fdiv_cancel _ (by omega)]
    rw [e1, e2]
    have y0 : y < 0 := by
      by_cases q : 0 ≤ y
      · have : 0 ≤ (g : Int) * y := Int.mul_nonneg (by omega) q
        omega
      · omega
    simp [cop]
    omega
  · rw [if_neg n]
    have e1 : a.fdiv (g : Int) = x := by rw [hx, Int.mul_comm, Int.mul_fdiv_cancel _ gi]
    have e2 : b.fdiv (g : Int) = y := by rw [hy, Int.mul_comm, Int.mul_fdiv_cancel _ gi]
    rw [e1, e2]
    have y0 : 0 < y := by
      by_cases q : y ≤ 0
      · have : (g : Int) * y ≤ 0 := Int.mul_nonpos_of_nonneg_of_nonpos (by omega) q
        omega
      · omega
    simp [cop]
    omega
theorem int_len {a : Int} (h : a.natAbs < 2 ^ 1900) : (Str.ofString (toString a)).length ≤ 2000 := by
  have e := int_text_length_le (k := 1900) (by decide) (lg h (by decide))
  rw [PySem.ofString_length]; omega
end DL
namespace DL
open L2 PySem PySem.Spec PyProof.Rows
section
variable {X : Cx} {G : Gd} {O : List Nat} {W : WX} {a b e o : Expr} {es : List Expr} {ma me mo : ME} {mr : MA} {pos p apos : Pos} {c : Str} {j : Nat}
variable {XC : List Nat → Prop} {Ol O' : List Nat} {fr : Bool} {y : Str} {i : Nat} {py spos : Pos} {elt tg iter cnd : Expr} {scope : Scope} {own : List (Str × Nat)} {mi : En → R (List D)} {g : MG} {mt : MT}
theorem df_lc1 (hc : X.calm = true) (hN : X.N.Nodup) (hv : (ownS own).all (fun i => !O.contains i) = true) (hi : DI X G O W tg iter mi) (ok : BlkOk X.N X.env.scope scope own)
    (hg : ∀ (s : Shared) (H : Hp) (C : Addr) (cl : List (Str × Addr)) (fp : List Addr), DG (X.blk s H scope (compEnvC scope cl C X.env) fp) G O (ownS own) tg g)
    (ht : ∀ (s : Shared) (H : Hp) (C : Addr) (cl : List (Str × Addr)) (fp : List Addr), DT (X.blk s H scope (compEnvC scope cl C X.env) fp) G O W0 cnd mt)
    (he : ∀ (s : Shared) (H : Hp) (C : Addr) (cl : List (Str × Addr)) (fp : List Addr), DE (X.blk s H scope (compEnvC scope cl C X.env) fp) G O W0 elt me) (hs : ∀ x, foldedSetIterable iter X.env x = pure x := by intro _; rfl) :
    DF X G O W (.ListComp elt [⟨tg, iter, [cnd], 0⟩] scope pos) (mLc (ownS own) mi g mt me) := df_lc (tt := tT X.K G O W0 mt) hc hN hv hi ok hg (fun s H C cl fp => pts_one (ht s H C cl fp)) (fun _ _ _ z => z) he hs
theorem ds_setLc1 (hx : XC O) (oi : O.contains i = false) (hc : X.calm = true) (hN : X.N.Nodup) (hy : X.N[i]? = some y) (hyl : X.env.scope.names.lookup y = some .local) (hsw : swapsWith (.ListComp elt [⟨tg, iter, [cnd], 0⟩] scope pos) (some (.Name y py)) spos.line X.env = pure true) (hv : (ownS own).all (fun i => !O.contains i) = true)
    (hi : DI X G O W tg iter mi) (ok : BlkOk X.N X.env.scope scope own)
    (hg : ∀ (s : Shared) (H : Hp) (C : Addr) (cl : List (Str × Addr)) (fp : List Addr), DG (X.blk s H scope (compEnvC scope cl C X.env) fp) G O (ownS own) tg g)
    (ht : ∀ (s : Shared) (H : Hp) (C : Addr) (cl : List (Str × Addr)) (fp : List Addr), DT (X.blk s H scope (compEnvC scope cl C X.env) fp) G O W0 cnd mt)
    (he : ∀ (s : Shared) (H : Hp) (C : Addr) (cl : List (Str × Addr)) (fp : List Addr), DE (X.blk s H scope (compEnvC scope cl C X.env) fp) G O W0 elt me) (hs : ∀ x, foldedSetIterable iter X.env x = pure x := by intro _; rfl) :
    DS X G XC Ol O O W fr (.Assign [.Name y py] (.ListComp elt [⟨tg, iter, [cnd], 0⟩] scope pos) spos) (msAsg (mLc (ownS own) mi g mt me) (mgName i)) := ds_setLc (tt := tT X.K G O W0 mt) hx oi hc hN hy hyl hsw hv hi ok hg (fun s H C cl fp => pts_one (ht s H C cl fp)) (fun _ _ _ z => z) he hs
end
end DL
namespace DL
open L2 PySem PySem.Spec PyProof.Rows
end DL
namespace DL
open L2 PySem PySem.Spec PyProof.Rows
theorem own_postN {K : PySem.W.Frag} {G : Gd} {XC : List Nat → Prop} {Ol O : List Nat} {W : WX} {fr : Bool} {me : ME} {i : Nat} (hx : XC O) (hi : O.contains i = false) (h0 : i ≠ 0 ∨ G.io = none) (hpx : NPx G i) {D0 : Ends} {σ : L2.St} {H : Hp} (h : tS K G XC Ol O (i :: O) W fr (msOwn i me) D0 σ H) :
    tF K G O W me σ H fun v H1 => D0.nx (σ.set i (some v)) H1 := by
  obtain ⟨A, ms, ρ, R, q⟩ := h
  refine ⟨A, ms, ρ, R, ?_⟩
  unfold msOwn at q
  cases hm : me ρ with
  | bad => rw [hm] at q; exact q.elim
  | ex y ρ1 => rw [hm] at q; exact fun dx H1 R1 k xr => q dx σ H1 A ms O hx R1 (R1.kt k) xr
  | ok d ρ1 =>
    rw [hm] at q
    intro r H1 R1 R2 k hr ow
    have q' : SPost K G XC Ol (i :: O) W fr A H D0 (if i < ρ1.length then .nx (ρ1.set i (some d)) else .bad) := q
    split at q'
    · rename_i hlt
      have R3 := R2.forget (O1 := i :: O) hpx h0 fun j hj => by simp [hj]
      have nm : ∀ j ∈ i :: O, (if j = i then none else ms j) ≠ some r := fun j m e => by
        by_cases z : j = i
        · rw [if_pos z] at e; cases e
        · rw [if_neg z] at e
          exact R.msne hr j ((List.mem_cons.mp m).resolve_left z) e
      have R4 := R3.own List.mem_cons_self h0 (by rw [List.length_set]; exact hlt) nm hpx (h0_none R hr) ow
      rw [List.set_set] at R4
      refine q' _ H1 _ _ R4 fun a o e n => ⟨(R1.kt k a o e n).1, fun z => z.elim n fun z => ?_⟩
      rw [z, hr] at e
      cases e
    · exact q'.elim
section
variable {X : Cx} {G : Gd} {XC : List Nat → Prop} {Ol O : List Nat} {W : WX} {fr : Bool} {me : ME} {i : Nat} {y : Str} {pos : Pos}
variable {py spos : Pos} {elt tg iter : Expr} {ifs : List Expr} {scope : Scope} {own : List (Str × Nat)} {mi : En → R (List D)} {g : MG} {mt : MT} {tt : TT}
theorem ds_ownLcN (hx : XC O) (oi : O.contains i = false) (h0 : i ≠ 0 ∨ G.io = none) (hc : X.calm = true) (hN : X.N.Nodup) (hy : X.N[i]? = some y) (hyl : X.env.scope.names.lookup y = some .local) (hsw : swapsWith (.ListComp elt [⟨tg, iter, ifs, 0⟩] scope pos) (some (.Name y py)) spos.line X.env = pure true) (hv : (ownS own).all (fun i => !O.contains i) = true)
    (hi : DI X G O W tg iter mi) (ok : BlkOk X.N X.env.scope scope own)
    (hg : ∀ (s : Shared) (H : Hp) (C : Addr) (cl : List (Str × Addr)) (fp : List Addr), DG (X.blk s H scope (compEnvC scope cl C X.env) fp) G O (ownS own) tg g)
    (ht : ∀ (s : Shared) (H : Hp) (C : Addr) (cl : List (Str × Addr)) (fp : List Addr), PTs (X.blk s H scope (compEnvC scope cl C X.env) fp) ifs tt) (htt : ∀ σ H Q, tT X.K G O W0 mt σ H Q → tt σ H Q)
    (he : ∀ (s : Shared) (H : Hp) (C : Addr) (cl : List (Str × Addr)) (fp : List Addr), DE (X.blk s H scope (compEnvC scope cl C X.env) fp) G O W0 elt me) (hs : ∀ x, foldedSetIterable iter X.env x = pure x := by intro _; rfl)
    (hpx : NPx G i := by first | exact NPx.no rfl | assumption) :
    DS X G XC Ol O (i :: O) W fr (.Assign [.Name y py] (.ListComp elt [⟨tg, iter, ifs, 0⟩] scope pos) spos) (msOwn i (mLc (ownS own) mi g mt me)) :=
  ps_imp (ps_setLc (te := tE X.K G O W0 me) (tt := tt) (g := tG X.K G O (ownS own) g) hc hN hy hyl hsw hi ok hg ht he hs) fun D0 σ H h => lc_go (W := W) hv htt (own_postN hx oi h0 hpx h)
theorem ds_ownN {e : Expr} {x : Str} {p : Pos} (hx : XC O) (he : DF X G O W e me) (hi : O.contains i = false) (h0 : i ≠ 0 ∨ G.io = none) (hN : X.N.Nodup) (hn : X.N[i]? = some x) (hl : Loc X.env.scope x)
    (hf : X.fn x = true ∨ X.env.scope.names.lookup x = some .local := by first | exact .inl rfl | exact .inr rfl | assumption)
    (hs : swapsWithSole [.Name x p] e pos.line X.env = pure false := by rfl) (hw : swappedStores [.Name x p] e X.env = pure none := by rfl) (hpx : NPx G i := by first | exact NPx.no rfl | assumption) : DS X G XC Ol O (i :: O) W fr (.Assign [.Name x p] e pos) (msOwn i me) :=
  ps_imp (ps_asg he (pg_name hN hn hl hf) hs hw) fun D0 σ H h => own_postN hx hi h0 hpx h
end
end DL
namespace DL
open L2 PySem PySem.Spec PyProof.Rows
section
variable {K : PySem.W.Frag} {A A' : Addr → Prop} {H H' : Hp}
theorem RpF.look : ∀ {vs : List (Str × V)} {ds : List (Str × D)} {f : Str} {d : D}, RpF K A H vs ds → ds.lookup f = some d → ∃ v, vs.lookup f = some v ∧ Rp K A H v d
  | _, _, f, d, .nil, e => by cases e
  | _, _, f, d, .cons (f := g) h q, e => by
    by_cases z : f = g
    · subst z
      simp only [List.lookup, beq_self_eq_true] at e ⊢
      cases e
      exact ⟨_, rfl, h⟩
    · have zb : (f == g) = false := by simpa using z
      simp only [List.lookup, zb] at e ⊢
      exact RpF.look q e
theorem RpF.lookN : ∀ {vs : List (Str × V)} {ds : List (Str × D)} {f : Str}, RpF K A H vs ds → ds.lookup f = none → vs.lookup f = none
  | _, _, f, .nil, e => rfl
  | _, _, f, .cons (f := g) h q, e => by
    by_cases z : f = g
    · subst z
      simp only [List.lookup, beq_self_eq_true] at e
      cases e
    · have zb : (f == g) = false := by simpa using z
      simp only [List.lookup, zb] at e ⊢
      exact RpF.lookN q e
def putD (f : Str) (v : D) : List (Str × D) → List (Str × D)
  | [] => [(f, v)]
  | (g, x) :: r => if g = f then (g, v) :: r else (g, x) :: putD f v r
theorem RpF.put : ∀ {vs : List (Str × V)} {ds : List (Str × D)} {f : Str} {v : V} {d : D}, RpF K A H vs ds → Rp K A H v d → RpF K A H (putF f v vs) (putD f d ds)
  | _, _, f, v, d, .nil, q => .cons q .nil
  | _, _, f, v, d, .cons (f := g) h t, q => by
    unfold putF putD
    by_cases z : g = f
    · rw [if_pos z, if_pos z]; exact .cons q t
    · rw [if_neg z, if_neg z]; exact .cons h (RpF.put t q)
theorem RpF.length : ∀ {vs : List (Str × V)} {ds : List (Str × D)}, RpF K A H vs ds → vs.length = ds.length
  | _, _, .nil => rfl
  | _, _, .cons _ q => by rw [List.length_cons, List.length_cons, RpF.length q]
end
def FldC (K : PySem.W.Frag) (cls : Str → Bool) (f : Str) : Prop := ∀ c, cls c = true → Cls K (He.ga K c) ∧ NoAttr K (He.ga K c) f
def gFld (cls : Str → Bool) (f : Str) : D → Option D
  | .obj c fs => if cls c = true then fs.lookup f else none
  | _ => none
section
variable {X : Cx} {G : Gd} {XC : List Nat → Prop} {Ol O O' O1 : List Nat} {W : WX} {fr : Bool} {a b c e o : Expr} {es : List Expr} {ma mb mc me mo : ME} {mr : MA} {pos p apos cpos : Pos} {x y f m : Str} {py : Pos} {cls : Str → Bool}
theorem gFld_some {d z : D} (e : gFld cls f d = some z) : ∃ c fs, d = .obj c fs ∧ cls c = true ∧ fs.lookup f = some z := by
  cases d with
  | obj c fs =>
    have e' : (if cls c = true then fs.lookup f else none) = some z := e
    split at e'
    · rename_i h; exact ⟨c, fs, rfl, h, e'⟩
    · cases e'
  | _ => cases e
theorem de_fld (hc : FldC X.K cls f) (ha : DE X G O W e me) (hb : attributeBase e f X.env (eval e X.env) = eval e X.env := by rfl) : DE X G O W (.Attribute e f pos) (m1 (gFld cls f) me) := by
  refine pe_imp (pe_fld ha hb) fun σ H Q ⟨A, ms, ρ, R, q⟩ => ⟨A, ms, ρ, R, q.bind.mono ?_⟩
  rintro x H1 ⟨d, ρ1, R1, k1, r1, q1⟩
  obtain ⟨z, hz, q2⟩ := rp_of R1 q1
  obtain ⟨c, fs, rfl, h1, h2⟩ := gFld_some hz
  cases r1 with
  | obj ha na rf =>
    obtain ⟨v, hv, rv⟩ := rf.look h2
    obtain ⟨i1, i2⟩ := hc c h1
    exact ⟨_, _, _, _, v, rfl, ha, i1, i2, hv, q2 v H1 (Same.refl _) rv⟩
theorem own_obj {K : PySem.W.Frag} {A : Addr → Prop} {H : Hp} {p : Addr} {c : Str} {fs : List (Str × D)} (h : Own K A H p (.obj c fs)) : ∃ dx ws, H p = some (.ins (He.ga K c) dx ws) ∧ RpF K A H ws fs := by
  cases h with
  | obj e q => exact ⟨_, _, e, q⟩
def msFld (cls : Str → Bool) (f : Str) (j : Nat) (m : ME) : MS := fun ρ => obind (m ρ) fun d ρ1 => match getO ρ1 j with
  | some (.obj c fs) => if cls c = true ∧ fs.length < 1000 then .nx (ρ1.set j (some (.obj c (putD f d fs)))) else .bad
  | _ => .bad
theorem RpF.upd {K : PySem.W.Frag} {A : Addr → Prop} {H : Hp} {p : Addr} {o : HO} {vs : List (Str × V)} {ds : List (Str × D)} (h : RpF K A H vs ds) (a : A p) : RpF K A (L2.upd H p o) vs ds := h.tr fun b o e n => ⟨upd_out b o e fun z => n (z ▸ a), n⟩
theorem ds_fld {j : Nat} (hx : XC O) (hj : O.contains j = true) (hc : FldC X.K cls f) (hy : PE X (.Name y py) (tVar j)) (he : DE X G O W e me) (hs : swapsWith e (some (.Attribute (.Name y py) f p)) pos.line X.env = pure false := by rfl) :
    DS X G XC Ol O O W fr (.Assign [.Attribute (.Name y py) f p] e pos) (msFld cls f j me) := by
  refine ps_imp (ps_fld hy he hs) fun D0 σ H ⟨A, ms, ρ, R, q⟩ => ⟨A, ms, ρ, R, eb hx q ?_⟩
  intro d ρ1 v H1 _ R1 k1 r q1
  split at q1
  · rename_i c fs hd
    split at q1
    · rename_i hz
      obtain ⟨p, e0, e1, oj⟩ := own_at R1 hj hd
      obtain ⟨dx, ws, hp, rf⟩ := own_obj oj
      have hj' := List.contains_iff_mem.mp hj
      have ap := R1.inA j p hj' e0
      obtain ⟨i1, i2⟩ := hc c hz.1
      refine ⟨_, e1, p, _, dx, ws, rfl, hp, i1, i2, by rw [rf.length]; exact hz.2, ?_⟩
      refine q1 σ _ A ms (R1.setOwn hj' (getO_some hd) e0 upd_out (.obj upd_same ((rf.upd ap).put (r.upd ap)))) ?_
      exact fun a o e n => ⟨upd_out a o e fun z => n (z ▸ ap), n⟩
    · exact q1.elim
  · exact q1.elim
theorem make_guards {A : Around} {C : Addr} {us : List Value} {kw : List (Str × Value)} (h : A.guards = some []) : (A.under (.builtin "type.__call__" ⟨.ref C :: us, kw⟩)).guards = some [] := by
  first | exact h | simpa [Around.under, Code.guards, pushGuards, guardIds, Code.isGuard] using h
section
variable {k : Nat} {ff C : Addr} {F : FN} {pins : List (Addr × Obj)} {σ : L2.St} {H : Hp} {s : Shared} {Q : VK} {us : List Value} {vs : List V}
theorem run_makeG (M : Mk X.K C ff) (F0 : FnG X.prog X.w X.K X.mg X.base k ff true false F) (hr : Room (k + 1) X.A) (hg : X.A.guards = some []) (tk : L2N.Takes X W) (I : Inv X pins σ H s) (r : Vals vs us)
    (h : ∀ x dx, H x = none → H dx = none → dx ≠ x → spD X.K true false F (.ref x :: vs) (L2.upd (L2.upd H dx (.own x)) x (.ins C dx [])) (fun v H2 => v = .non ∧ Q (.ref x) H2) (WE W σ)) :
    wpAny (model X.prog X.w) X.A (call (.ref C) us) (EP X pins σ Q) X.xe s := by
  have hq := h (s.heap.objs.size + 1) s.heap.objs.size (I.hok.fresh (Nat.le_succ _)) (I.hok.fresh (Nat.le_refl _)) (Nat.ne_of_lt (Nat.lt_succ_self _))
  have I2 := Inv.made (C := C) I
  have r2 : Vals (V.ref (s.heap.objs.size + 1) :: vs) (Value.ref (s.heap.objs.size + 1) :: us) := .cons rfl r
  refine wpAny_call (make_map (f := ff) I.kIn M.makes M.init (beq_iff_eq.mp M.fn) (codeAny_mono (F0.run _ X.stack _ _ (Value.ref (s.heap.objs.size + 1) :: us) (V.ref (s.heap.objs.size + 1) :: vs) _ (WE W σ) (hr.make C us [])
    (make_guards hg) (I2.env0.make C us []) r2 hq) fun r s' hq' => ?_))
  cases r with
  | error e => exact L2N.passAt tk σ pins _ _ e s' I2 hq'
  | ok fl =>
    cases fl with
    | ret u =>
      obtain ⟨v, H', I3, rv, ev, q3⟩ := I2.after hq'
      subst ev
      exact ⟨rv, ⟨V.ref (s.heap.objs.size + 1), H', I3, rfl, q3⟩⟩
    | next => exact False.elim hq'
    | brk => exact False.elim hq'
    | cont => exact False.elim hq'
end
def mMake (c : Str) (F : FN) (args : MA) : ME := fun ρ => (args ρ).bind fun ds ρ1 => match F (.obj c [] :: ds) with
  | .rt .non o => .ok o ρ1
  | .ex x _ => .ex x ρ1
  | _ => .bad
def tMakeG (K : PySem.W.Frag) (C : Addr) (F : FN) (W : WX) (t : TA) : TE := fun σ H Q => t σ H fun vs H1 => ∀ x dx, H1 x = none → H1 dx = none → dx ≠ x →
  spD K true false F (.ref x :: vs) (L2.upd (L2.upd H1 dx (.own x)) x (.ins C dx [])) (fun v H2 => v = .non ∧ Q (.ref x) H2) (WE W σ)
section
variable {k : Nat} {ff C : Addr} {F : FN}
theorem pe_makeG {t : TA} (M : Mk X.K C ff) (F0 : FnG X.prog X.w X.K X.mg X.base k ff true false F) (hr : Room (k + 1) X.A) (hg : X.A.guards = some []) (tk : L2N.Takes X W) (hn : Gl X x) (hm : X.mg x = some (.ref C)) (ha : PA X (e :: es) t)
    (hdb : (x == ("__debug__" : Str)) = false := by decide) (he : starEach (e :: es) X.env = (false, eval e X.env) :: starEach es X.env := by rfl) (hpl : (backTo pos (starEach es X.env)).any (·.1) = false := by rfl) :
    PE X (.Call (.Name x p) (e :: es) [] pos) (tMakeG X.K C F W t) := by
  refine ⟨fun pins s σ H Q I h => wpAny_Call_Name_kw (ld_glob I hn hm ?_ hdb)⟩
  exact PySem.W.callWith_K (h₀ := X.base) I.ok.mod.kin M.kp (thn (ha.run pos pins s σ H _ I h) fun us s1 ⟨vs, H1, I1, r, q⟩ => ⟨I1.kIn, run_makeG M F0 hr hg tk I1 r q⟩) he hpl
theorem make_go {K : PySem.W.Frag} {σ : L2.St} {H : Hp} {Q : VK} (h : tF K G O W (mMake x F mr) σ H Q) : tMakeG K (He.ga K x) F W (tA K G O W mr) σ H Q := by
  obtain ⟨A, ms, ρ, R, q⟩ := h
  refine ⟨A, ms, ρ, R, RPost.mono (FPost.bind q) ?_⟩
  rintro vs H1 ⟨ds, ρ1, R1, k1, r1, q1⟩
  intro x0 dx hx0 hdx hne
  have s1 : Same H1 (L2.upd H1 dx (.own x0)) := same_upd hdx
  have hx1 : (L2.upd H1 dx (.own x0)) x0 = none := by rw [upd_ne (fun z => hne z.symm)]; exact hx0
  have s2 : Same H1 (L2.upd (L2.upd H1 dx (.own x0)) x0 (.ins (He.ga K x) dx [])) := fun b o e => same_upd hx1 _ _ (s1 _ _ e)
  have t2 : Tr A (fun a => A a ∨ a = x0) H1 (L2.upd (L2.upd H1 dx (.own x0)) x0 (.ins (He.ga K x) dx [])) := fun b o e n => ⟨s2 _ _ e, fun z => z.elim n fun z => by rw [z, hx0] at e; cases e⟩
  have R2 := R1.grow hx0 s2 (o := .ins (He.ga K x) dx []) upd_same
  refine ⟨fun a => A a ∨ a = x0, some x0, .obj x [] :: ds, R2.trk, rfl, ⟨vs, _, ds, rfl, rfl, .inr rfl, .obj upd_same .nil, r1.tr t2⟩, ?_⟩
  have fin : ∀ {H' : Hp}, KI (some x0) (L2.upd (L2.upd H1 dx (.own x0)) x0 (.ins (He.ga K x) dx [])) H' → Same H1 H' := fun {H'} ki b o e => ki b o (s2 _ _ e) fun z => by
    have z' := Option.some.inj z
    rw [← z', hx0] at e
    cases e
  cases hF : F (.obj x [] :: ds) with
  | bad => rw [hF] at q1; exact q1.elim
  | rt d o =>
    rw [hF] at q1
    cases d with
    | non =>
      intro v H' ki rr
      have rr' := (show Rp K (fun a => A a ∨ a = x0) H' v .non ∧ ∀ p, some x0 = some p → Own K (fun a => A a ∨ a = x0) H' p o from rr)
      have ow := rr'.2 x0 rfl
      obtain ⟨o', ho'⟩ := ow.there
      refine ⟨by cases rr'.1; rfl, ?_⟩
      have s := fin ki
      have q2 : FPost K G O W A ms σ H1 Q (.ok o ρ1) := q1
      exact q2 x0 H' (R1.same s) (R1.grow hx0 s ho') (Kp.same s) hx0 ow
    | _ => exact q1.elim
  | ex y o =>
    rw [hF] at q1
    intro dx' H' ki oo xr
    have s := fin ki
    have q2 : FPost K G O W A ms σ H1 Q (.ex y ρ1) := q1
    refine q2 dx' H' (R1.same s) (Kp.same s) ?_
    rcases xr with z | ⟨ne, d, fs, e1, e2, rf⟩
    · exact .inl z
    · exact .inr ⟨ne, d, fs, e1, e2, rf.tr fun a o e n => ⟨e, fun z => n (.inl z)⟩⟩
theorem df_make {C : Str} (M : Mk X.K (He.ga X.K C) ff) (F0 : FnG X.prog X.w X.K X.mg X.base k ff true false F) (hr : Room (k + 1) X.A) (hg : X.A.guards = some []) (tk : L2N.Takes X W) (hn : Gl X C) (hm : X.mg C = some (.ref (He.ga X.K C))) (ha : DA X G O W (e :: es) mr)
    (hdb : (C == ("__debug__" : Str)) = false := by decide) (he : starEach (e :: es) X.env = (false, eval e X.env) :: starEach es X.env := by rfl) (hpl : (backTo pos (starEach es X.env)).any (·.1) = false := by rfl) :
    DF X G O W (.Call (.Name C p) (e :: es) [] pos) (mMake C F mr) := pe_imp (pe_makeG M F0 hr hg tk hn hm ha hdb he hpl) fun _ _ _ h => make_go h
end
def MethT (P : Program) (w : World) (K : PySem.W.Frag) (mg : Str → Option Value) (base : Heap) (k : Nat) (m : Str) (io fr : Bool) (tab : Str → Option FN) : Prop :=
  ∀ c F, tab c = some F → Cls K (He.ga K c) ∧ ∃ f, Meth K (He.ga K c) m f ∧ FnG P w K mg base k f io fr F
def mMeth (tab : Str → Option FN) (m : Str) (o : ME) (args : MA) : ME := fun ρ => (o ρ).bind fun d ρ1 => match d with
  | .obj c fs => match tab c with
    | some F => if (fs.lookup m).isNone = true then (args ρ1).bind fun ds ρ2 => match F (d :: ds) with
        | .rt z _ => .ok z ρ2
        | .ex x _ => .ex x ρ2
        | .bad => .bad
      else .bad
    | none => .bad
  | _ => .bad
def tMethG (K : PySem.W.Frag) (P : Program) (w : World) (mg : Str → Option Value) (base : Heap) (k : Nat) (m : Str) (io fr : Bool) (W : WX) (ta : TE) (t : TA) : TE := fun σ H Q => ta σ H fun x H1 => ∃ a C dx fs f F, x = .ref a ∧ H1 a = some (.ins C dx fs) ∧ fs.lookup m = none ∧ Cls K C ∧ Meth K C m f ∧ FnG P w K mg base k f io fr F ∧
  t σ H1 fun vs H2 => spD K io fr F (x :: vs) H2 Q (WE W σ)
section
variable {k : Nat} {io fr' : Bool} {ta : TE} {t : TA} {tab : Str → Option FN}
theorem pe_methG {pl : Sem Bool} (he : PE X o ta) (hr : Room k X.A) (hg : X.A.guards = some []) (tk : L2N.Takes X W) (ha : PA X (e :: es) t)
    (hst : starEach (e :: es) X.env = (false, eval e X.env) :: starEach es X.env := by rfl) (hpl : (backTo cpos (starEach es X.env)).any (·.1) = false := by rfl)
    (ht : eval (.Call (.Attribute o m apos) (e :: es) [] cpos) X.env = (do
      let ov ← eval o X.env
      standAt apos.atName
      let (f, first) ← holding [ov] (getMethod ov m pl)
      callWith cpos f first (backTo cpos (starEach (e :: es) X.env)) (backToKw cpos (keywordEach [] X.env))) := by rfl) :
    PE X (.Call (.Attribute o m apos) (e :: es) [] cpos) (tMethG X.K X.prog X.w X.mg X.base k m io fr' W ta t) := by
  refine ⟨fun pins s σ H Q I h => ?_⟩
  refine PySem.W.methodCall_KW (pl := pl) (thn (he.run pins s σ H _ I h) fun u s1 ⟨x, H1, I1, rx, a, C, dx, fs, f, F, ex, ea, l, c, hm, F0, q⟩ => ?_) ht
  subst ex
  obtain rfl : u = Value.ref a := rx
  refine getmeth_ok I1 ea c hm l ?_
  refine PySem.W.callWith_K (first := [.ref a]) (h₀ := X.base) I.ok.mod.kin hm.kp (thn (ha.run cpos pins s1 σ H1 _ I1 q) fun us s2 ⟨vs, H2, I2, r, q2⟩ => ⟨I2.kIn, ?_⟩) hst hpl
  exact run_fnG (us := .ref a :: us) (vs := .ref a :: vs) F0 hr hg tk I2 (.cons rfl r) q2
theorem pe_methG0 {pl : Sem Bool} (he : PE X o ta) (hr : Room k X.A) (hg : X.A.guards = some []) (tk : L2N.Takes X W)
    (ht : eval (.Call (.Attribute o m apos) [] [] cpos) X.env = (do
      let ov ← eval o X.env
      standAt apos.atName
      let (f, first) ← holding [ov] (getMethod ov m pl)
      callWith cpos f first (backTo cpos (starEach [] X.env)) (backToKw cpos (keywordEach [] X.env))) := by rfl) :
    PE X (.Call (.Attribute o m apos) [] [] cpos) (tMethG X.K X.prog X.w X.mg X.base k m io fr' W ta tNil) := by
  refine ⟨fun pins s σ H Q I h => ?_⟩
  refine PySem.W.methodCall_KW (pl := pl) (thn (he.run pins s σ H _ I h) fun u s1 ⟨x, H1, I1, rx, a, C, dx, fs, f, F, ex, ea, l, c, hm, F0, q⟩ => ?_) ht
  subst ex
  obtain rfl : u = Value.ref a := rx
  refine getmeth_ok I1 ea c hm l ?_
  exact PySem.W.callWith_K0 (first := [.ref a]) I1.kIn hm.kp (run_fnG (us := [.ref a]) (vs := [.ref a]) F0 hr hg tk I1 (.cons rfl .nil) q)
theorem meth_go {P : Program} {w : World} {mg : Str → Option Value} {base : Heap} {K : PySem.W.Frag} (T : MethT P w K mg base k m false false tab) {σ : L2.St} {H : Hp} {Q : VK} (h : tE K G O W (mMeth tab m mo mr) σ H Q) : tMethG K P w mg base k m false false W (tE K G O W mo) (tA K G O W mr) σ H Q := by
  obtain ⟨A, ms, ρ, R, q⟩ := h
  refine ⟨A, ms, ρ, R, q.bind.mono ?_⟩
  rintro x H1 ⟨d, ρ1, R1, k1, r1, q1⟩
  cases d with
  | obj c fs =>
    cases ht : tab c with
    | none => simp only [ht] at q1; exact q1.elim
    | some F =>
      simp only [ht] at q1
      split at q1
      · rename_i hz
        obtain ⟨cc, f, hm, F0⟩ := T c F ht
        have r1' := r1
        cases r1 with
        | obj ha na rf =>
          have hno := rf.lookN (f := m) (by cases hl : fs.lookup m with | none => rfl | some z => rw [hl] at hz; cases hz)
          refine ⟨_, _, _, _, f, F, rfl, ha, hno, cc, hm, F0, A, ms, ρ1, R1, RPost.mono (RPost.bind q1) ?_⟩
          rintro vs H2 ⟨ds, ρ2, R2', k2, r2, q2⟩
          refine ⟨A, none, .obj c fs :: ds, R2'.trk, rfl, .cons (r1'.tr (R1.kt k2)) r2, ?_⟩
          cases hF : F (.obj c fs :: ds) with
          | bad => simp only [hF] at q2; exact q2.elim
          | rt d o =>
            simp only [hF] at q2
            intro v H' ki ⟨rr, _⟩
            have s : Same H2 H' := fun a o e => ki a o e (by simp)
            exact q2 v H' (R2'.same s) (Kp.same s) rr
          | ex y o =>
            simp only [hF] at q2
            intro dx H' ki _ xr
            have s : Same H2 H' := fun a o e => ki a o e (by simp)
            exact q2 dx H' (R2'.same s) (Kp.same s) xr
      · exact q1.elim
  | _ => exact q1.elim
theorem meth_goF {P : Program} {w : World} {mg : Str → Option Value} {base : Heap} {K : PySem.W.Frag} (T : MethT P w K mg base k m false true tab) {σ : L2.St} {H : Hp} {Q : VK} (h : tF K G O W (mMeth tab m mo mr) σ H Q) : tMethG K P w mg base k m false true W (tE K G O W mo) (tA K G O W mr) σ H Q := by
  obtain ⟨A, ms, ρ, R, q⟩ := h
  refine ⟨A, ms, ρ, R, RPost.mono (FPost.bind q) ?_⟩
  rintro x H1 ⟨d, ρ1, R1, k1, r1, q1⟩
  cases d with
  | obj c fs =>
    cases ht : tab c with
    | none => simp only [ht] at q1; exact q1.elim
    | some F =>
      simp only [ht] at q1
      split at q1
      · rename_i hz
        obtain ⟨cc, f, hm, F0⟩ := T c F ht
        have r1' := r1
        cases r1 with
        | obj ha na rf =>
          have hno := rf.lookN (f := m) (by cases hl : fs.lookup m with | none => rfl | some z => rw [hl] at hz; cases hz)
          refine ⟨_, _, _, _, f, F, rfl, ha, hno, cc, hm, F0, A, ms, ρ1, R1, RPost.mono (FPost.bind q1) ?_⟩
          rintro vs H2 ⟨ds, ρ2, R2', k2, r2, q2⟩
          refine ⟨A, none, .obj c fs :: ds, R2'.trk, rfl, .cons (r1'.tr (R1.kt k2)) r2, ?_⟩
          cases hF : F (.obj c fs :: ds) with
          | bad => simp only [hF] at q2; exact q2.elim
          | rt d o =>
            simp only [hF] at q2
            intro v H' ki rr
            have s : Same H2 H' := fun a o e => ki a o e (by simp)
            obtain ⟨r, rfl, hr, ow, _⟩ := (show ∃ r, v = .ref r ∧ H2 r = none ∧ Own K (fun a => A a ∨ a = r) H' r d ∧ _ from rr)
            obtain ⟨o', ho'⟩ := ow.there
            exact q2 r H' (R2'.same s) (R2'.grow hr s ho') (Kp.same s) hr ow
          | ex y o =>
            simp only [hF] at q2
            intro dx H' ki _ xr
            have s : Same H2 H' := fun a o e => ki a o e (by simp)
            exact q2 dx H' (R2'.same s) (Kp.same s) xr
      · exact q1.elim
  | _ => exact q1.elim
theorem de_meth {pl : Sem Bool} (T : MethT X.prog X.w X.K X.mg X.base k m false false tab) (hr : Room k X.A) (hg : X.A.guards = some []) (tk : L2N.Takes X W) (ho : DE X G O W o mo) (ha : DA X G O W (e :: es) mr)
    (hst : starEach (e :: es) X.env = (false, eval e X.env) :: starEach es X.env := by rfl) (hpl : (backTo cpos (starEach es X.env)).any (·.1) = false := by rfl)
    (ht : eval (.Call (.Attribute o m apos) (e :: es) [] cpos) X.env = (do
      let ov ← eval o X.env
      standAt apos.atName
      let (f, first) ← holding [ov] (getMethod ov m pl)
      callWith cpos f first (backTo cpos (starEach (e :: es) X.env)) (backToKw cpos (keywordEach [] X.env))) := by rfl) :
    DE X G O W (.Call (.Attribute o m apos) (e :: es) [] cpos) (mMeth tab m mo mr) := pe_imp (pe_methG ho hr hg tk ha hst hpl ht) fun _ _ _ h => meth_go T h
theorem tMethG_nil {K : PySem.W.Frag} {P : Program} {w : World} {mg : Str → Option Value} {base : Heap} {io fr' : Bool} {σ : L2.St} {H : Hp} {Q : VK} (h : tMethG K P w mg base k m io fr' W (tE K G O W mo) (tA K G O W mNil) σ H Q) : tMethG K P w mg base k m io fr' W (tE K G O W mo) tNil σ H Q := by
  obtain ⟨A, ms, ρ, R, q⟩ := h
  refine ⟨A, ms, ρ, R, q.mono ?_⟩
  rintro x H1 ⟨a, C, dx, fs, f, F, h1, h2, h3, h4, h5, h6, h7⟩
  exact ⟨a, C, dx, fs, f, F, h1, h2, h3, h4, h5, h6, tNil_go h7⟩
theorem de_meth0 {pl : Sem Bool} (T : MethT X.prog X.w X.K X.mg X.base k m false false tab) (hr : Room k X.A) (hg : X.A.guards = some []) (tk : L2N.Takes X W) (ho : DE X G O W o mo)
    (ht : eval (.Call (.Attribute o m apos) [] [] cpos) X.env = (do
      let ov ← eval o X.env
      standAt apos.atName
      let (f, first) ← holding [ov] (getMethod ov m pl)
      callWith cpos f first (backTo cpos (starEach [] X.env)) (backToKw cpos (keywordEach [] X.env))) := by rfl) :
    DE X G O W (.Call (.Attribute o m apos) [] [] cpos) (mMeth tab m mo mNil) := pe_imp (pe_methG0 ho hr hg tk ht) fun _ _ _ h => tMethG_nil (meth_go T h)
theorem df_meth0 {pl : Sem Bool} (T : MethT X.prog X.w X.K X.mg X.base k m false true tab) (hr : Room k X.A) (hg : X.A.guards = some []) (tk : L2N.Takes X W) (ho : DE X G O W o mo)
    (ht : eval (.Call (.Attribute o m apos) [] [] cpos) X.env = (do
      let ov ← eval o X.env
      standAt apos.atName
      let (f, first) ← holding [ov] (getMethod ov m pl)
      callWith cpos f first (backTo cpos (starEach [] X.env)) (backToKw cpos (keywordEach [] X.env))) := by rfl) :
    DF X G O W (.Call (.Attribute o m apos) [] [] cpos) (mMeth tab m mo mNil) := pe_imp (pe_methG0 ho hr hg tk ht) fun _ _ _ h => tMethG_nil (meth_goF T h)
end
end
end DL
namespace DL
open L2 PySem PySem.Spec PyProof.Rows
theorem takesF {X : Cx} : L2N.Takes X W0 := fun u s' ⟨_, _, _, _, _, _, _, _, _, _, _, _, _, _, _, _, z⟩ => z.elim
def G0 : Gd := ⟨fun _ => False, fun _ => none, none, none⟩
theorem RelS.pureO {K : PySem.W.Frag} {G : Gd} {O : List Nat} {A : Addr → Prop} {ms : Nat → Option Addr} {σ : L2.St} {H : Hp} {ρ : En} (R : RelS K G O A ms σ H ρ) : RelS K G0 [] (fun _ => False) ms σ H ρ where
  sub := fun _ z => z
  trk0 := fun _ z => z.elim
  trk := fun _ z => z.elim
  keep := fun a o e _ => by cases (show (none : Option HO) = some o from e)
  len := R.len
  fz := fun i d e _ => by
    by_cases m : i ∈ O
    · obtain ⟨p, e0, e1, w⟩ := R.ow i d e m
      exact ⟨_, e1, w.freeze (fun _ z => z.elim) (fun z => z)⟩
    · obtain ⟨v, e1, q⟩ := R.fz i d e m
      exact ⟨v, e1, q.less fun _ z => z.elim⟩
  ow := fun i d e m => by cases m
  inA := fun i p m => by cases m
  ok := fun i p m => by cases m
  dist := fun i j p m => by cases m
  px := fun i a c e => by cases (show (none : Option (Nat × Addr × Str)) = some (i, a, c) from e)
  io := fun p e => by cases (show (none : Option Addr) = some p from e)
theorem Kp.nil_same {ms : Nat → Option Addr} {H H' : Hp} (k : Kp [] ms H H') : Same H H' := fun a o e => k a o e fun i m => by cases m
def mPureT (m : MT) : MT := fun ρ => match m ρ with
  | .ok b _ => .ok b ρ
  | _ => .bad
section
variable {X : Cx} {G : Gd} {XC : List Nat → Prop} {Ol O O' O1 : List Nat} {W : WX} {fr : Bool} {a b c e o : Expr} {es : List Expr} {ma mb mc me mo : ME} {mr : MA} {pos p apos cpos : Pos} {x y f m : Str} {py : Pos} {cls : Str → Bool}
theorem dt_pure {mt : MT} (h : DT X G0 [] W0 e mt) : DT X G O W e (mPureT mt) := by
  refine pt_imp h fun σ H Q ⟨A, ms, ρ, R, q⟩ => ⟨fun _ => False, ms, ρ, R.pureO, ?_⟩
  unfold mPureT at q
  cases hm : mt ρ with
  | bad => rw [hm] at q; exact q.elim
  | ex y ρ1 => rw [hm] at q; exact q.elim
  | ok b ρ1 =>
    rw [hm] at q
    intro v H1 R1 k1 r1
    have s := Kp.nil_same k1
    exact q v H1 (R.same s) (Kp.same s) r1
section
variable {k : Nat} {ff : Addr} {F : FN} {pins : List (Addr × Obj)} {σ : L2.St} {H : Hp} {s : Shared} {Q : VK} {us : List Value} {vs : List V} {A : Around}
theorem run_fnG' (C : FnG X.prog X.w X.K X.mg X.base k ff false false F) (hr : Room k A) (hg : A.guards = some []) (hfr : Env0 X.prog X.w X.K X.mg X.base A X.stack s H)
    (I : Inv X pins σ H s) (r : Vals vs us) (h : spD X.K false false F vs H Q (WE W0 σ)) : wpAny (model X.prog X.w) A (call (.ref ff) us) (EP X pins σ Q) X.xe s := by
  refine wpAny_call (codeAny_mono (C.run A X.stack s H us vs Q (WE W0 σ) hr hg hfr r h) fun res s' hres => ?_)
  cases res with
  | error e => exact L2N.passAt takesF σ pins H s e s' I hres
  | ok fl =>
    cases fl with
    | ret u => exact I.after hres
    | next => exact hres.elim
    | brk => exact hres.elim
    | cont => exact hres.elim
end
def rLenX (X : Cx) (k : Nat) : List V → Hp → VK → Prop := fun xs H Q => rDN X.K gLen xs H Q ∨
  ∃ a C dx fs f F, xs = [.ref a] ∧ H a = some (.ins C dx fs) ∧ Meth X.K C "__len__" f ∧ FnG X.prog X.w X.K X.mg X.base k f false false F ∧ Room (k + 1) X.A ∧ X.A.guards = some [] ∧
    spD X.K false false F [.ref a] H (fun v H' => ∃ n, v = .int n ∧ (0 ≤ n ∧ n < 2 ^ 63) ∧ Q v H') (fun _ _ _ => False)
theorem spD.mono {K : PySem.W.Frag} {io fr : Bool} {F : FN} {vs : List V} {H : Hp} {Q Q' : VK} {E E' : XK} (h : spD K io fr F vs H Q E) (w : ∀ v H', Q v H' → Q' v H') (w2 : ∀ c d H', E c d H' → E' c d H') : spD K io fr F vs H Q' E' := by
  obtain ⟨A, q, ds, t, hio, ar, post⟩ := h
  refine ⟨A, q, ds, t, hio, ar, ?_⟩
  cases hF : F ds with
  | bad => rw [hF] at post; exact post.elim
  | rt d o => rw [hF] at post; exact fun v H' ki rr => w _ _ (post v H' ki rr)
  | ex y o => rw [hF] at post; exact fun dx H' ki oo xr => w2 _ _ _ (post dx H' ki oo xr)
theorem call_lenX {k : Nat} : CallR X (.builtin "len") (rLenX X k) := by
  intro pins s σ H xs us Q I r h
  rcases h with h | ⟨a, C, dx, fs, f, F, rfl, ha, hm, F0, hr, hg, sp⟩
  · exact b_len pins s σ H xs us Q I r h
  · cases r with
    | cons r1 r2 =>
      cases r2
      rename_i u
      obtain rfl : u = Value.ref a := r1
      obtain ⟨m, hF⟩ := I.fr
      obtain ⟨mA, J, _⟩ := ins_get I.hok ha
      obtain ⟨od, J, _⟩ := J.look
      refine PySem.W.len_K hF I.ok.mod.kin J hm.at_ hm.fn ?_
      refine wpAny_mono (run_fnG' (us := [.ref a]) (vs := [.ref a]) F0 hr.in1 hg I.env0.in1 I (.cons rfl .nil) (sp.mono (fun _ _ z => z) fun _ _ _ z => z.elim)) (fun v s' hq => ?_) fun _ _ z => z
      obtain ⟨z, H', I', rz, n, rfl, hn, q⟩ := hq
      obtain ⟨t, rfl⟩ := (show ∃ t, v = Value.int n t from rz)
      exact ⟨hn, .int n, H', I'.tok _, ⟨_, rfl⟩, q⟩
def lenR (d : D) : Ret → Option D
  | .rt (.int n) _ => if 0 ≤ n ∧ n < 2 ^ 63 then some (.int n) else none
  | _ => none
def gLenX (tab : Str → Option FN) (d : D) : Option D := match d with
  | .obj c fs => (tab c).bind fun F => lenR d (F [d])
  | d => gLen [d]
theorem de_lenX {k : Nat} {tab : Str → Option FN} (T : MethT X.prog X.w X.K X.mg X.base k "__len__" false false tab) (hr : Room (k + 1) X.A) (hg : X.A.guards = some []) (hn : Gl X "len") (hm : X.mg "len" = none) (ha : DE X G O W e me)
    (he : starEach [e] X.env = (false, eval e X.env) :: starEach [] X.env := by rfl) (hpl : (backTo pos (starEach [] X.env)).any (·.1) = false := by rfl) : DE X G O W (.Call (.Name "len" p) [e] [] pos) (m1 (gLenX tab) me) := by
  refine pe_imp (pe_callB (call_lenX (k := k)) hn hm bt_len (pa_cons ha pa_nil he) (by decide) (by decide) he hpl) fun σ H Q ⟨A, ms, ρ, R, q⟩ => ?_
  refine ⟨A, ms, ρ, R, RPost.mono (RPost.bind q) ?_⟩
  rintro x H1 ⟨d, ρ1, R1, k1, r1, q1⟩
  obtain ⟨z, hz, q2⟩ := rp_of R1 q1
  have plain : (∀ c fs, d ≠ .obj c fs) → rLenX X k [x] H1 Q := fun hd => by
    refine .inl ⟨A, [d], z, R1.trk, .inl (.cons r1 .nil), ?_, q2⟩
    rw [← hz]
    cases d with
    | obj c fs => exact absurd rfl (hd c fs)
    | _ => rfl
  cases d with
  | obj c fs =>
    refine .inr ?_
    have hz' : (tab c).bind (fun F => lenR (.obj c fs) (F [.obj c fs])) = some z := hz
    cases ht : tab c with
    | none => rw [ht] at hz'; cases hz'
    | some F =>
      rw [ht] at hz'
      obtain ⟨cc, f, hme, F0⟩ := T c F ht
      have r1' := r1
      cases r1 with
      | obj ha' na rf =>
        refine ⟨_, _, _, _, f, F, rfl, ha', hme, F0, hr, hg, A, none, [.obj c fs], R1.trk, rfl, .cons r1' .nil, ?_⟩
        have hz2 : lenR (.obj c fs) (F [.obj c fs]) = some z := hz'
        cases hF : F [.obj c fs] with
        | bad => rw [hF] at hz2; cases hz2
        | ex y o => rw [hF] at hz2; cases hz2
        | rt v o =>
          rw [hF] at hz2
          cases v with
          | int n =>
            obtain ⟨hn', rfl⟩ := ite_d (x := .int n) hz2
            intro v H' ki ⟨rr, _⟩
            cases rr
            exact ⟨n, rfl, hn', q2 _ _ (fun a o e => ki a o e (by simp)) (.int n)⟩
          | _ => cases hz2
  | _ => exact plain fun _ _ => nofun
def eqR : Ret → Option D
  | .rt (.bl k) _ => some (.bl k)
  | _ => none
def gEqX (tab : Str → Option FN) (a b : D) : Option D := match a, b with
  | .obj c fs, .obj c' gs => if c = c' then (tab c).bind fun F => eqR (F [.obj c fs, .obj c' gs]) else none
  | a, b => gEq a b
def rEqX (X : Cx) (k : Nat) : R2 := fun x y H Q => rD2 X.K gEq x y H Q ∨
  ∃ a a' C dx dx' fs gs f F, x = .ref a ∧ y = .ref a' ∧ H a = some (.ins C dx fs) ∧ H a' = some (.ins C dx' gs) ∧ Meth X.K C "__eq__" f ∧ FnG X.prog X.w X.K X.mg X.base k f false false F ∧ Room k X.A ∧ X.A.guards = some [] ∧
    spD X.K false false F [.ref a, .ref a'] H (fun v H' => ∃ b, v = .bl b ∧ Q v H') (fun _ _ _ => False)
theorem od_eqX (hu : X.A.units + 64 < cLine) {k : Nat} : OpR X (compareOp .Eq) (rEqX X k) := by
  intro pins s σ H x y v u Q I rx ry h
  rcases h with h | ⟨a, a', C, dx, dx', fs, gs, f, F, rfl, rfl, ha, ha', hm, F0, hr, hg, sp⟩
  · exact od_eq hu pins s σ H x y v u Q I rx ry h
  · obtain rfl : v = Value.ref a := rx
    obtain rfl : u = Value.ref a' := ry
    obtain ⟨m, hF⟩ := I.fr
    obtain ⟨mA, J, _⟩ := ins_get I.hok ha
    obtain ⟨od, J, _⟩ := J.look
    obtain ⟨mA', J', _⟩ := ins_get I.hok ha'
    obtain ⟨od', J', _⟩ := J'.look
    show wpAny (model X.prog X.w) X.A (richCompare .Eq (.ref a) (.ref a')) (EP X pins σ Q) X.xe s
    refine PySem.W.cmp_K (op := .Eq) (tb := .ref C) hr.units0 hF I.ok.mod.kin J J'.type (by simp [PySem.W.notFirst]) hm.at_ hm.fn ?_
    refine wpAny_mono (run_fnG' (us := [.ref a, .ref a']) (vs := [.ref a, .ref a']) F0 hr hg I.env0 I (.cons rfl (.cons rfl .nil)) (sp.mono (fun _ _ z => z) fun _ _ _ z => z.elim)) (fun v s' hq => ?_) fun _ _ z => z
    obtain ⟨z, H', I', rz, b, rfl, q⟩ := hq
    obtain rfl : v = Value.bool b := rz
    exact ⟨.bl b, H', I', rfl, q⟩
theorem eqX_go {k : Nat} {tab : Str → Option FN} (T : MethT X.prog X.w X.K X.mg X.base k "__eq__" false false tab) (hr : Room k X.A) (hg : X.A.guards = some []) {σ : L2.St} {H : Hp} {Q : VK} (h : tE X.K G O W (m2 (gEqX tab) ma mb) σ H Q) : tOp (rEqX X k) (tE X.K G O W ma) (tE X.K G O W mb) σ H Q := by
  obtain ⟨A, ms, ρ, R, q⟩ := h
  refine ⟨A, ms, ρ, R, q.bind.mono ?_⟩
  rintro x H1 ⟨d, ρ1, R1, k1, r1, q1⟩
  refine ⟨A, ms, ρ1, R1, q1.bind.mono ?_⟩
  rintro y H2 ⟨d2, ρ2, R2', k2, r2, q2⟩
  obtain ⟨z, hz, q3⟩ := rp_of R2' q2
  have r1' := r1.tr (R1.kt k2)
  have plain : gEq d d2 = some z → rEqX X k x y H2 Q := fun e => .inl ⟨A, d, d2, z, R2'.trk, .of r1', .of r2, e, q3⟩
  cases d with
  | obj c fs =>
    cases d2 with
    | obj c' gs =>
      have hz' : (if c = c' then (tab c).bind fun F => eqR (F [.obj c fs, .obj c' gs]) else none) = some z := hz
      split at hz'
      · rename_i hc
        subst hc
        cases ht : tab c with
        | none => rw [ht] at hz'; cases hz'
        | some F =>
          rw [ht] at hz'
          obtain ⟨cc, f, hme, F0⟩ := T c F ht
          have r1s := r1'
          have r2s := r2
          cases r1' with
          | obj ha na rf =>
            cases r2 with
            | obj hb nb rg =>
              refine .inr ⟨_, _, _, _, _, _, _, f, F, rfl, rfl, ha, hb, hme, F0, hr, hg, A, none, [.obj c fs, .obj c gs], R2'.trk, rfl, .cons r1s (.cons r2s .nil), ?_⟩
              have hz2 : eqR (F [.obj c fs, .obj c gs]) = some z := hz'
              cases hF : F [.obj c fs, .obj c gs] with
              | bad => rw [hF] at hz2; cases hz2
              | ex y o => rw [hF] at hz2; cases hz2
              | rt v o =>
                rw [hF] at hz2
                cases v with
                | bl n =>
                  cases hz2
                  intro v H' ki ⟨rr, _⟩
                  cases rr
                  exact ⟨n, rfl, q3 _ _ (fun a o e => ki a o e (by simp)) (.bl n)⟩
                | _ => cases hz2
      · cases hz'
    | _ => exact plain hz
  | _ => exact plain (by cases d2 <;> exact hz)
theorem dt_eqX {k : Nat} {tab : Str → Option FN} (T : MethT X.prog X.w X.K X.mg X.base k "__eq__" false false tab) (hr : Room k X.A) (hg : X.A.guards = some []) (hu : X.A.units + 64 < cLine) (ha : DE X G O W a ma) (hb : DE X G O W b mb) (hm : behindInMarks .Eq b = false) : DT X G O W (.Compare a [.Eq] [b] pos) (mTest (m2 (gEqX tab) ma mb)) :=
  pt_imp (pt_cmpR (od_eqX hu (k := k)) ha hb hm) fun _ _ _ h => test_go (fun _ _ _ z => eqX_go T hr hg z) h
end
end DL
namespace DL
open L2 PySem PySem.Spec PyProof.Rows
inductive Sr where
  | l (a : Addr) | t (a : Addr) | s (x : Str)
namespace Sr
def v : Sr → V
  | .l a => .ref a
  | .t a => .ref a
  | .s x => .str x
def has (K : PySem.W.Frag) : Sr → List V → Hp → Prop
  | .l a, xs, H => SqL K H a xs
  | .t a, xs, H => SqT K H a xs
  | .s z, xs, _ => xs = z.cps.toList.map fun c => .str ⟨#[c]⟩
def st : Sr → Addr → Nat → Heap → Prop
  | .l a, it, i, h => h.IsListIter it a i
  | .t a, it, i, h => h.IsTupleIter it a i
  | .s z, it, i, h => ∃ t, h.IsStrIter it (strIterType z) z t i
def fp : Sr → Addr → List Addr
  | .l a, it => [it, a]
  | .t a, it => [it, a]
  | .s _, it => [it]
def ap : Sr → Addr → Prop
  | .l a, b => a ≠ b
  | .t a, b => a ≠ b
  | .s _, _ => True
end Sr
theorem Draws.tuple {prog : Program} {w : World} {A : Around} (hh : A.handled = none) (it l : Addr) (hne : l ≠ it) (items : Array Value) :
    Draws prog w A it [it, l] items.size (fun i v => items[i]? = some v) (fun i h => h.IsTupleIter it l i ∧ h.IsTuple l items) where
  live := fun _ _ st => let ⟨o, ho, _⟩ := st.1; ⟨o, ho⟩
  frame := fun _ _ _ st hk => ⟨st.1.at fun o e => hk it (by simp) o e, st.2.at fun o e => hk l (by simp) o e⟩
  item := fun i s Q E hi st hQ => by
    refine RZ.nextOf_tuple_item st.1 st.2 (x := items[i]) (by simp [hi]) fun h' hit' hs' => ?_
    exact hQ _ h' s.toks (by simp [hi]) ⟨hit', st.2.at fun o e => hs'.extBut _ _ hne e⟩ hs'
  done := fun s Q E st hE => RZ.nextOf_tuple_end hh st.1 st.2 (by simp) hE
theorem vals_getR : ∀ {xs : List V} {us : List Value} {i : Nat} {u : Value}, Vals xs us → us[i]? = some u → ∃ x, xs[i]? = some x ∧ RelV x u
  | _, _, _, _, .nil, e => by simp at e
  | _, _, 0, _, .cons r _, e => by simp at e; subst e; exact ⟨_, rfl, r⟩
  | _, _, i + 1, x, .cons _ t, e => by
    obtain ⟨v, h1, h2⟩ := vals_getR (i := i) t (by simpa using e)
    exact ⟨v, by simpa using h1, h2⟩
theorem Sr.draws {X : Cx} {A : Around} (hh : A.handled = none) {pins : List (Addr × Obj)} {σ : L2.St} {H : Hp} {s : Shared} (I : Inv X pins σ H s) (r : Sr) (it : Addr) (ap : r.ap it) {xs : List V} (hx : r.has X.K xs H) {i : Nat} (hs : r.st it i s.heap) :
    ∃ (P : Nat → Value → Prop) (St : Nat → Heap → Prop), Draws X.prog X.w A it (r.fp it) xs.length P St ∧ St i s.heap ∧ (∀ j v, P j v → ∃ x, xs[j]? = some x ∧ RelV x v) ∧ ∀ j h, St j h → r.st it j h := by
  cases r with
  | l a =>
    obtain ⟨its, rv, p, _⟩ := I.list hx
    have hl : xs.length = its.toArray.size := by rw [rv.length, List.size_toArray]
    refine ⟨fun i v => its.toArray[i]? = some v, fun i h => h.IsListIter it a i ∧ h.IsList a its.toArray, by rw [hl]; exact Draws.list hh it a ap its.toArray, ⟨hs, p.isList⟩, fun j v e => ?_, fun j h z => z.1⟩
    exact vals_getR rv (by simpa using e)
  | t a =>
    obtain ⟨its, rv, p, _⟩ := I.tuple hx
    have hl : xs.length = its.toArray.size := by rw [rv.length, List.size_toArray]
    refine ⟨fun i v => its.toArray[i]? = some v, fun i h => h.IsTupleIter it a i ∧ h.IsTuple a its.toArray, by rw [hl]; exact Draws.tuple hh it a ap its.toArray, ⟨hs, p⟩, fun j v e => ?_, fun j h z => z.1⟩
    exact vals_getR rv (by simpa using e)
  | s z =>
    obtain ⟨t, ht⟩ := hs
    have hx' : xs = z.cps.toList.map fun c => .str ⟨#[c]⟩ := hx
    have hl : xs.length = z.cps.size := by rw [hx', List.length_map, Array.length_toList]
    have key : ∀ (j : Nat) (v : Value), (∃ (c : Nat) (u : Tok), z.cps[j]? = some c ∧ v = Value.str ⟨#[c]⟩ u) → ∃ x, xs[j]? = some x ∧ RelV x v := by
      rintro j v ⟨c, u, e, hv⟩
      refine ⟨.str ⟨#[c]⟩, ?_, ?_⟩
      · rw [hx', List.getElem?_map, Array.getElem?_toList, e]; rfl
      · subst hv; exact ⟨u, rfl⟩
    cases ha : z.cps.all (· < 128)
    · have e : strIterType z = "str_iterator" := by simp [strIterType, ha]
      rw [e] at ht
      exact ⟨fun i v => ∃ c u, z.cps[i]? = some c ∧ v = .str ⟨#[c]⟩ u, fun i h => h.IsStrIter it "str_iterator" z t i, by rw [hl]; exact Draws.strWide hh it z t, ht, key, fun j h q => by show ∃ t, h.IsStrIter it (strIterType z) z t j; rw [e]; exact ⟨t, q⟩⟩
    · have e : strIterType z = "str_ascii_iterator" := by simp [strIterType, ha]
      rw [e] at ht
      exact ⟨fun i v => ∃ c u, z.cps[i]? = some c ∧ v = .str ⟨#[c]⟩ u, fun i h => h.IsStrIter it "str_ascii_iterator" z t i, by rw [hl]; exact Draws.strAscii hh it z t, ht, key, fun j h q => by show ∃ t, h.IsStrIter it (strIterType z) z t j; rw [e]; exact ⟨t, q⟩⟩
theorem Sr.mem (r : Sr) (it : Addr) : it ∈ r.fp it := by cases r <;> simp [Sr.fp]
theorem Sr.nfp (r : Sr) {it b : Addr} (h : it ≠ b) (a : r.ap b) : b ∉ r.fp it := by
  cases r with
  | l c => simp only [Sr.fp, List.mem_cons, List.mem_nil_iff, or_false, not_or]; exact ⟨h.symm, fun z => a z.symm⟩
  | t c => simp only [Sr.fp, List.mem_cons, List.mem_nil_iff, or_false, not_or]; exact ⟨h.symm, fun z => a z.symm⟩
  | s c => simp only [Sr.fp, List.mem_cons, List.mem_nil_iff, or_false]; exact h.symm
theorem Sr.stk (r : Sr) {it : Addr} {i : Nat} {h h' : Heap} (s : r.st it i h) (k : ∀ o, h.get? it = some o → h'.get? it = some o) : r.st it i h' := by
  cases r with
  | l a => exact Heap.IsListIter.at s k
  | t a => exact Heap.IsTupleIter.at s k
  | s z =>
    obtain ⟨t, o, ho, q⟩ := s
    exact ⟨t, o, k o ho, q⟩
theorem Sr.sto (r : Sr) {it : Addr} {i : Nat} {h : Heap} (s : r.st it i h) : ∃ o, h.get? it = some o ∧ ∀ v, o.data ≠ .cell v := by
  cases r with
  | l a => obtain ⟨o, ho, _, d⟩ := s; exact ⟨o, ho, fun v q => by rw [d] at q; cases q⟩
  | t a => obtain ⟨o, ho, _, d⟩ := s; exact ⟨o, ho, fun v q => by rw [d] at q; cases q⟩
  | s z => obtain ⟨t, o, ho, _, d⟩ := s; exact ⟨o, ho, fun v q => by rw [d] at q; cases q⟩
theorem Sr.inj {X : Cx} {pins : List (Addr × Obj)} {σ : L2.St} {H : Hp} {s : Shared} (I : Inv X pins σ H s) (r : Sr) {xs ys : List V} (h : r.has X.K xs H) (h' : r.has X.K ys H) : xs = ys := by
  cases r with
  | l a => exact I.list_inj h h'
  | t a => exact I.tuple_inj h h'
  | s z => exact h.trans h'.symm
def ItzS (K : PySem.W.Frag) (a b : Sr) : It :=
  ⟨fun i H => ∃ (xs ys : List V) (x y : V), a.has K xs H ∧ b.has K ys H ∧ xs[i]? = some x ∧ ys[i]? = some y,
    fun i H v H' => ∃ T x y, v = .ref T ∧ H T = none ∧ H' = L2.upd H T (.tup [x, y]) ∧ (∀ xs, a.has K xs H → xs[i]? = some x) ∧ ∀ ys, b.has K ys H → ys[i]? = some y,
    fun i H => ∃ xs ys : List V, a.has K xs H ∧ b.has K ys H ∧ i ≤ xs.length ∧ i ≤ ys.length ∧ (i = xs.length ∨ i = ys.length)⟩
structure ZAp (z TI TO i1 i2 : Addr) (a b : Sr) : Prop where
  TIz : TI ≠ z
  TOz : TO ≠ z
  i1z : i1 ≠ z
  i2z : i2 ≠ z
  TITO : TI ≠ TO
  TIi1 : TI ≠ i1
  TIi2 : TI ≠ i2
  TOi1 : TO ≠ i1
  TOi2 : TO ≠ i2
  i12 : i1 ≠ i2
  az : a.ap z
  aTO : a.ap TO
  ai1 : a.ap i1
  ai2 : a.ap i2
  bz : b.ap z
  bTO : b.ap TO
  bi1 : b.ap i1
  bi2 : b.ap i2
theorem ZAp.sep {z TI TO i1 i2 : Addr} {a b : Sr} (D : ZAp z TI TO i1 i2 a b) : ZipSep2 z TI TO i1 i2 (a.fp i1) (b.fp i2) where
  TIz := D.TIz
  TOz := D.TOz
  TITO := D.TITO
  TIi1 := D.TIi1
  mem1 := a.mem i1
  zf1 := a.nfp D.i1z D.az
  Tf1 := a.nfp D.TOi1.symm D.aTO
  TIi2 := D.TIi2
  mem2 := b.mem i2
  zf2 := b.nfp D.i2z D.bz
  Tf2 := b.nfp D.TOi2.symm D.bTO
  sep1_2 := b.nfp D.i12.symm D.bi1
  sep2_1 := a.nfp D.i12 D.ai2
theorem turn_zipS {P : Program} {w : World} {K : PySem.W.Frag} {elts : List Expr} {kk : Nat} {tpos : Pos} {a b : Sr} {z TI TO i1 i2 : Addr} (D : ZAp z TI TO i1 i2 a b) :
    Turn P w K (.Tuple elts kk tpos) (ItzS K a b) [z, TI, TO, i1, i2] z (fun i h => IsZip h z TI TO .none ∧ IsPair h TI (.ref i1) (.ref i2) ∧ (∃ x y, IsPair h TO x y) ∧ a.st i1 i h ∧ b.st i2 i h) where
  mem := by simp
  obj := fun i h st c hc => by
    obtain ⟨hz, hTI, ⟨x, y, hTO⟩, s1, s2⟩ := st
    have e' : c = z ∨ c = TI ∨ c = TO ∨ c = i1 ∨ c = i2 := by simpa using hc
    rcases e' with q | q | q | q | q
    · rw [q]; exact ⟨_, hz, fun v q => nomatch q⟩
    · rw [q]; exact ⟨_, hTI, fun v q => nomatch q⟩
    · rw [q]; exact ⟨_, hTO, fun v q => nomatch q⟩
    · rw [q]; exact a.sto s1
    · rw [q]; exact b.sto s2
  keep := fun i h h' st k => by
    obtain ⟨hz, hTI, ⟨x, y, hTO⟩, h1, h2⟩ := st
    exact ⟨k z (by simp) _ hz, k TI (by simp) _ hTI, ⟨x, y, k TO (by simp) _ hTO⟩, a.stk h1 fun o q => k i1 (by simp) o q, b.stk h2 fun o q => k i2 (by simp) o q⟩
  item := by
    intro X hP hw hK hc i pins s σ H E I hf st hg
    subst hP hw hK
    obtain ⟨hz, hTI, ⟨x0, y0, hTO⟩, h1, h2⟩ := st
    obtain ⟨xs, ys, x, y, hqx, hqy, hx, hy⟩ := hg
    have hzl : z < s.heap.objs.size := Heap.lt_size hz
    obtain ⟨P1, St1, D1, t1, p1, f1⟩ := Sr.draws (A := X.A.in1) (I.ok.hd hc) I a i1 D.ai1 hqx h1
    obtain ⟨P2, St2, D2, t2, p2, f2⟩ := Sr.draws (A := X.A.in1) (I.ok.hd hc) I b i2 D.bi2 hqy h2
    refine wpAny_pyNext_zipD2_item D.sep D1 D2 hz hTI hTO t1 t2 (List.getElem?_eq_some_iff.mp hx).1 (List.getElem?_eq_some_iff.mp hy).1 fun u u2 h' tk q1 q2 z' TO' h1' h2' hT hsz hk => ?_
    obtain ⟨x', ex, ru⟩ := p1 _ _ q1
    obtain ⟨y', ey, ru2⟩ := p2 _ _ q2
    rw [hx] at ex
    rw [hy] at ey
    cases ex
    cases ey
    refine ⟨_, rfl, wpAny_letOwnedTupleGo_zip (s := { s with heap := h', toks := tk }) z' fun h'' z'' sb => ?_⟩
    have hT2 : h''.get? s.heap.objs.size = some { cls := .type "tuple", data := .seq #[u, u2] } := (sb.2 _ (Nat.ne_of_gt hzl)).trans hT
    have new : ObjOk X.prog X.w (L2.upd H s.heap.objs.size (.tup [x, y])) h'' s.heap.objs.size (.tup [x, y]) :=
      ⟨by show 2 ≤ sizeLine; decide, [u, u2], .cons ru (.cons ru2 .nil), ⟨_, hT2, rfl, _, rfl⟩⟩
    have I1 : Inv X pins σ (L2.upd H s.heap.objs.size (.tup [x, y])) { s with heap := h'', toks := tk } :=
      I.turnedNew (t' := tk) (ch := [z, TI, TO, i1, i2]) (fun c o hb q => (sb.2 c (fun q' => hb (by simp [q']))).trans (hk c o (fun q' => hb (by simp [q'])) (fun q' => hb (by simp [q'])) (fun q' => hb (by simp [q'])) (fun q' => hb (by simp [q'])) q)) hf (Nat.le_refl _) new
    refine ⟨.ref s.heap.objs.size, _, I1, rfl, ⟨_, x, y, rfl, I.hok.fresh (Nat.le_refl _), rfl, fun l hl => by rw [a.inj I hl hqx]; exact hx, fun l hl => by rw [b.inj I hl hqy]; exact hy⟩, ⟨z'', ?_, ⟨u, u2, ?_⟩, ?_, ?_⟩, fun c hcm => ?_⟩
    · exact (sb.2 _ D.TIz).trans (hk _ _ D.TIz D.TITO D.TIi1 D.TIi2 hTI)
    · exact (sb.2 _ D.TOz).trans TO'
    · exact a.stk (f1 _ _ h1') fun o q => (sb.2 _ D.i1z).trans q
    · exact b.stk (f2 _ _ h2') fun o q => (sb.2 _ D.i2z).trans q
    · have hlt : c < s.heap.objs.size := by
        have e' : c = z ∨ c = TI ∨ c = TO ∨ c = i1 ∨ c = i2 := by simpa using hcm
        rcases e' with q | q | q | q | q
        · rw [q]; exact hzl
        · rw [q]; exact Heap.lt_size hTI
        · rw [q]; exact Heap.lt_size hTO
        · rw [q]; obtain ⟨_, e1, _⟩ := a.sto h1; exact Heap.lt_size e1
        · rw [q]; obtain ⟨_, e2, _⟩ := b.sto h2; exact Heap.lt_size e2
      rw [upd_ne (Nat.ne_of_lt hlt)]
      exact (hf c hcm).1
  done := by
    intro X hP hw hK hc i pins s σ H E I hf st hg
    subst hP hw hK
    obtain ⟨hz, hTI, ⟨x0, y0, hTO⟩, h1, h2⟩ := st
    obtain ⟨xs, ys, hqx, hqy, hle1, hle2, hend⟩ := hg
    obtain ⟨P1, St1, D1, t1, p1, f1⟩ := Sr.draws (A := X.A.in1) (I.ok.hd hc) I a i1 D.ai1 hqx h1
    obtain ⟨P2, St2, D2, t2, p2, f2⟩ := Sr.draws (A := X.A.in1) (I.ok.hd hc) I b i2 D.bi2 hqy h2
    exact wpAny_pyNext_zipD2_end D.sep D1 D2 hz hTI hTO t1 t2 hle1 hle2 hend fun h' tk hk => ⟨rfl, I.turnedL (t' := tk) (ch := [z, TI, TO, i1, i2]) (fun c o hb q =>
      hk c o (fun q' => hb (by simp [q'])) (fun q' => hb (by simp [q'])) (fun q' => hb (by simp [q'])) (fun q' => hb (by simp [q'])) q) hf⟩
  self := fun A i s Q E st h => wpAny_pyIter_zip st.1 h
end DL
namespace DL
open L2 PySem PySem.Spec PyProof.Rows
def IterO (u : Value) (o : Obj) (h : Heap) : Prop := ∀ (h' : Heap), (∀ c x, h.get? c = some x → h'.get? c = some x) → ∀ (prog : Program) (w : World) (A : Around) (g : Array GenState) (d : Drawn) (tk : Nat) (os : OsState) (Q : Value → Shared → Prop) (E : Value → Shared → Prop),
  Q (.ref h'.objs.size) ⟨h'.push o, g, d, tk, os⟩ → wpAny (model prog w) A (pyIter u) Q E ⟨h', g, d, tk, os⟩
abbrev zipSH1 (h : Heap) (o1 : Obj) : Heap := h.push o1
abbrev zipSH2 (h : Heap) (o1 o2 : Obj) : Heap := (zipSH1 h o1).push o2
abbrev zipSH3 (h : Heap) (o1 o2 : Obj) : Heap := (zipSH2 h o1 o2).push { cls := .type "tuple", data := .seq #[.ref h.objs.size, .ref (zipSH1 h o1).objs.size] }
abbrev zipSH4 (h : Heap) (o1 o2 : Obj) : Heap := (zipSH3 h o1 o2).push { cls := .type "tuple", data := .seq #[.none, .none] }
abbrev zipSH5 (h : Heap) (o1 o2 : Obj) : Heap := (zipSH4 h o1 o2).push { cls := .type "zip", data := .fields #[.none, .bool false, .bool false, .ref (zipSH2 h o1 o2).objs.size, .ref (zipSH3 h o1 o2).objs.size] }
theorem meets_zipS_new (u1 u2 : Value) (o1 o2 : Obj) :
    Meets (Builtin.«zip.__new__» ⟨[.type "zip", u1, u2], []⟩) (fun _ R s => IterO u1 o1 s.heap ∧ IterO u2 o2 s.heap ∧
      R (.ok (.ret (.ref (zipSH4 s.heap o1 o2).objs.size))) { s with heap := zipSH5 s.heap o1 o2 }) :=
  .of_wp fun prog w A R s h => by
    obtain ⟨hp, g, d, tk, os⟩ := s
    obtain ⟨h1, h2, h⟩ := h
    have hsub := sub_zip
    have i1 := @h1 hp (fun _ _ x => x)
    have i2 := @h2 (hp.push o1) (fun _ _ x => Heap.get?_push_of_some _ x)
    wp_walk using i1 prog w _ _ _ _ _, i2 prog w _ _ _ _ _
    exact ⟨_, rfl, h⟩
section
variable {prog : Program} {w : World} {A : Around} {E : Value → Shared → Prop} {s : Shared}
theorem call_zipS {u1 u2 : Value} {o1 o2 : Obj} {Q : Value → Shared → Prop} (hl1 : IterO u1 o1 s.heap) (hl2 : IterO u2 o2 s.heap)
    (f1 : o1.isFreed = false) (f2 : o2.isFreed = false)
    (h : ∀ h', IsZip h' (s.heap.objs.size + 4) (s.heap.objs.size + 2) (s.heap.objs.size + 3) .none → IsPair h' (s.heap.objs.size + 2) (.ref s.heap.objs.size) (.ref (s.heap.objs.size + 1)) →
      IsPair h' (s.heap.objs.size + 3) .none .none → h'.get? s.heap.objs.size = some o1 → h'.get? (s.heap.objs.size + 1) = some o2 → h'.objs.size = s.heap.objs.size + 5 →
      (∀ c o, s.heap.get? c = some o → h'.get? c = some o) → Q (.ref (s.heap.objs.size + 4)) { s with heap := h' }) :
    wpAny (model prog w) A (call (.type "zip") [u1, u2]) Q E s := by
  refine callType_new F.called_zip (by decide) (F.typeCall_zip_2 _ _) (F.newCall_zip_2 _ _) (fun obj => F.args_object_init_3 obj _ _) F.entry_zip_new
    (meets_zipS_new u1 u2 o1 o2) ⟨hl1, hl2, ?_⟩
  have z1 : (zipSH1 s.heap o1).objs.size = s.heap.objs.size + 1 := Heap.size_push ..
  have z2 : (zipSH2 s.heap o1 o2).objs.size = s.heap.objs.size + 2 := by rw [Heap.size_push, z1]
  have z3 : (zipSH3 s.heap o1 o2).objs.size = s.heap.objs.size + 3 := by rw [Heap.size_push, z2]
  have z4 : (zipSH4 s.heap o1 o2).objs.size = s.heap.objs.size + 4 := by rw [Heap.size_push, z3]
  have z5 : (zipSH5 s.heap o1 o2).objs.size = s.heap.objs.size + 5 := by rw [Heap.size_push, z4]
  have g5 : (zipSH5 s.heap o1 o2).get? (zipSH4 s.heap o1 o2).objs.size = some _ := Heap.get?_push_size _ rfl
  have g4 : (zipSH5 s.heap o1 o2).get? (zipSH3 s.heap o1 o2).objs.size = some _ := Heap.get?_push_of_some _ (Heap.get?_push_size _ rfl)
  have g3 : (zipSH5 s.heap o1 o2).get? (zipSH2 s.heap o1 o2).objs.size = some _ := Heap.get?_push_of_some _ (Heap.get?_push_of_some _ (Heap.get?_push_size _ rfl))
  have g2 : (zipSH5 s.heap o1 o2).get? (zipSH1 s.heap o1).objs.size = some o2 := Heap.get?_push_of_some _ (Heap.get?_push_of_some _ (Heap.get?_push_of_some _ (Heap.get?_push_size _ f2)))
  have g1 : (zipSH5 s.heap o1 o2).get? s.heap.objs.size = some o1 := Heap.get?_push_of_some _ (Heap.get?_push_of_some _ (Heap.get?_push_of_some _ (Heap.get?_push_of_some _ (Heap.get?_push_size _ f1))))
  show _ ∧ _
  rw [z2, z3, z4] at g5
  rw [z1, z2] at g3
  rw [z3] at g4
  rw [z1] at g2
  rw [z4]
  exact ⟨⟨_, g5, rfl⟩, h _ g5 g3 g4 g1 g2 z5 fun c o x =>
    Heap.get?_push_of_some _ (Heap.get?_push_of_some _ (Heap.get?_push_of_some _ (Heap.get?_push_of_some _ (Heap.get?_push_of_some _ x))))⟩
end
theorem Sr.iter {X : Cx} {pins : List (Addr × Obj)} {σ : L2.St} {H : Hp} {s : Shared} (I : Inv X pins σ H s) (r : Sr) {xs : List V} (hx : r.has X.K xs H) {u : Value} (ru : RelV r.v u) :
    ∃ o, o.isFreed = false ∧ IterO u o s.heap ∧ (∀ it h, h.get? it = some o → r.st it 0 h) ∧ ∀ b, s.heap.objs.size ≤ b → r.ap b := by
  cases r with
  | l a =>
    obtain rfl : u = Value.ref a := ru
    obtain ⟨its, rv, p, _⟩ := I.list hx
    exact ⟨{ cls := .type "list_iterator", data := .fields #[.ref a, .int 0 0] }, rfl, fun h' k prog w A g d tk os Q E q => wpAny_pyIter_list (items := its.toArray) (p.isList.at fun o e => k _ _ e) q, fun it h e => ⟨_, e, rfl, rfl⟩, fun b hb z => by subst z; exact Nat.lt_irrefl _ (Nat.lt_of_lt_of_le p.lt hb)⟩
  | t a =>
    obtain rfl : u = Value.ref a := ru
    obtain ⟨its, rv, p, _⟩ := I.tuple hx
    refine ⟨{ cls := .type "tuple_iterator", data := .fields #[.ref a, .int 0 0] }, rfl, fun h' k prog w A g d tk os Q E q => wpAny_pyIter_tuple (items := its.toArray) (let ⟨o, ho, r⟩ := p; ⟨o, k _ _ ho, r⟩) q, fun it h e => ⟨_, e, rfl, rfl⟩, fun b hb z => ?_⟩
    obtain ⟨o, ho, _⟩ := (show s.heap.IsTuple a its.toArray from p)
    subst z
    exact Nat.lt_irrefl _ (Nat.lt_of_lt_of_le (Heap.lt_size ho) hb)
  | s z =>
    obtain ⟨t, rfl⟩ := (show ∃ t, u = Value.str z t from ru)
    exact ⟨{ cls := .type (strIterType z), data := .fields #[.str z t, .int 0 0] }, rfl, fun h' k prog w A g d tk os Q E q => wpAny_pyIter_strU q, fun it h e => ⟨t, _, e, rfl, rfl⟩, fun b hb => trivial⟩
def iZipS (K : PySem.W.Frag) (ta : TA) : TI := fun σ H R => ta σ H fun vs H1 => ∃ a b xs ys, vs = [Sr.v a, Sr.v b] ∧ a.has K xs H1 ∧ b.has K ys H1 ∧ R (ItzS K a b) H1
theorem pi_zipS {X : Cx} {e e2 : Expr} {ta : TA} {p pos tpos : Pos} {elts : List Expr} {kk : Nat} (hg : Gl X "zip") (hm : X.mg "zip" = none) (ha : PA X [e, e2] ta)
    (hs : starEach [e, e2] X.env = (false, eval e X.env) :: starEach [e2] X.env := by rfl) (hpl : (backTo pos (starEach [e2] X.env)).any (·.1) = false := by rfl) :
    PI X (.Tuple elts kk tpos) (.Call (.Name "zip" p) [e, e2] [] pos) (iZipS X.K ta) := by
  refine ⟨fun pins s σ H R I h => ?_⟩
  refine Call_ (ld_blt I hg hm PyProof.Rows.boot_zip (PyProof.Rows.callWith_type1 (thn (ha.run pos pins s σ H _ I h) fun us s1 ⟨vs, H1, I1, r1, q1⟩ => ?_) hs hpl))
  obtain ⟨a, b, xs, ys, ex, hqx, hqy, q⟩ := q1
  subst ex
  cases r1 with
  | cons r rr =>
    cases rr with
    | cons r' rr =>
      cases rr
      obtain ⟨o1, fr1, it1, st1, ap1⟩ := Sr.iter I1 a hqx r
      obtain ⟨o2, fr2, it2, st2, ap2⟩ := Sr.iter I1 b hqy r'
      refine call_zipS it1 it2 fr1 fr2 fun h' hz hTI hTO h1 h2 hsz hk => wpAny_pyIter_zip hz ?_
      have I2 : Inv X pins σ H1 { s1 with heap := h' } := I1.kept (t' := s1.toks) hk
      have D : ZAp (s1.heap.objs.size + 4) (s1.heap.objs.size + 2) (s1.heap.objs.size + 3) s1.heap.objs.size (s1.heap.objs.size + 1) a b :=
        { TIz := by intro z; have z' := congrArg (fun x : Nat => x) z; simp at z', TOz := by intro z; have z' := congrArg (fun x : Nat => x) z; simp at z', i1z := by intro z; have z' := congrArg (fun x : Nat => x) z; simp at z', i2z := by intro z; have z' := congrArg (fun x : Nat => x) z; simp at z', TITO := by intro z; have z' := congrArg (fun x : Nat => x) z; simp at z', TIi1 := by intro z; have z' := congrArg (fun x : Nat => x) z; simp at z', TIi2 := by intro z; have z' := congrArg (fun x : Nat => x) z; simp at z', TOi1 := by intro z; have z' := congrArg (fun x : Nat => x) z; simp at z', TOi2 := by intro z; have z' := congrArg (fun x : Nat => x) z; simp at z', i12 := by intro z; have z' := congrArg (fun x : Nat => x) z; simp at z'
          az := ap1 _ (by omega), aTO := ap1 _ (by omega), ai1 := ap1 _ (by omega), ai2 := ap1 _ (by omega), bz := ap2 _ (by omega), bTO := ap2 _ (by omega), bi1 := ap2 _ (by omega), bi2 := ap2 _ (by omega) }
      refine ⟨s1.heap.objs.size + 4, [s1.heap.objs.size + 4, s1.heap.objs.size + 2, s1.heap.objs.size + 3, s1.heap.objs.size, s1.heap.objs.size + 1], _, _, H1, rfl, I2, turn_zipS D, ⟨hz, hTI, ⟨_, _, hTO⟩, st1 _ _ h1, st2 _ _ h2⟩, fun c hcm => ?_, q⟩
      have e' : c = s1.heap.objs.size + 4 ∨ c = s1.heap.objs.size + 2 ∨ c = s1.heap.objs.size + 3 ∨ c = s1.heap.objs.size ∨ c = s1.heap.objs.size + 1 := by simpa using hcm
      have hle : s1.heap.objs.size ≤ c := by
        rcases e' with z | z | z | z | z
        · rw [z]; exact Nat.le_add_right _ _
        · rw [z]; exact Nat.le_add_right _ _
        · rw [z]; exact Nat.le_add_right _ _
        · rw [z]; exact Nat.le_refl _
        · rw [z]; exact Nat.le_add_right _ _
      exact I1.fpOk hle (I1.hok.fresh hle)
def gZipS : List D → Option (List D)
  | [a, b] => (gIter a).bind fun l => (gIter b).map fun r => (l.zip r).map fun p => .tup [p.1, p.2]
  | _ => none
theorem sr_of {K : PySem.W.Frag} {A : Addr → Prop} {H : Hp} {v : V} {d : D} {l : List D} (h : Rp K A H v d) (e : gIter d = some l) :
    ∃ (r : Sr) (xs : List V), v = r.v ∧ RpA K A H xs l ∧ ∀ A' H', Tr A A' H H' → r.has K xs H' := by
  cases h with
  | lst h1 n1 rr => cases e; exact ⟨.l _, _, rfl, rr, fun A' H' t => SqL.of (t _ _ h1 n1).1⟩
  | scr h1 rr => cases e; exact ⟨.l _, _, rfl, rr, fun A' H' t => (h1.tr t).sq⟩
  | tup h1 rr => cases e; exact ⟨.t _, _, rfl, rr, fun A' H' t => (h1.tr t).sq⟩
  | str z =>
    cases e
    refine ⟨.s z, _, rfl, ?_, fun A' H' t => rfl⟩
    unfold chars
    generalize z.cps.toList = cs
    induction cs with
    | nil => exact .nil
    | cons c cs ih => exact .cons (.str _) ih
  | _ => cases e
section
variable {X : Cx} {G : Gd} {O : List Nat} {W : WX} {a b e e2 : Expr} {es : List Expr} {me : ME} {mr : MA} {tg : Expr} {p pos tpos : Pos} {elts : List Expr} {kk : Nat}
theorem di_zipS (hg : Gl X "zip") (hm : X.mg "zip" = none) (ha : DA X G O W [e, e2] mr) (hs : starEach [e, e2] X.env = (false, eval e X.env) :: starEach [e2] X.env := by rfl) (hpl : (backTo pos (starEach [e2] X.env)).any (·.1) = false := by rfl) :
    DI X G O W (.Tuple elts kk tpos) (.Call (.Name "zip" p) [e, e2] [] pos) (mItN gZipS mr) := by
  refine pi_imp (pi_zipS hg hm ha hs hpl) fun σ H Q h => itn_go (fun _ _ _ z => z) h fun A vs ds l H1 tk r hl q => ?_
  unfold gZipS at hl
  split at hl
  · rename_i d1 d2
    cases h1 : gIter d1 with
    | none => rw [h1] at hl; cases hl
    | some zs =>
      cases h2 : gIter d2 with
      | none => rw [h1, h2] at hl; cases hl
      | some ws =>
        rw [h1, h2] at hl
        cases hl
        cases r with
        | cons r r' =>
          cases r' with
          | cons s s' =>
            cases s'
            obtain ⟨r1, xs, rfl, rx, hx⟩ := sr_of r h1
            obtain ⟨r2, ys, rfl, ry, hy⟩ := sr_of s h2
            refine ⟨r1, r2, xs, ys, rfl, hx _ _ Tr.refl, hy _ _ Tr.refl, q _ fun A' H' t tk' => ?_⟩
            have sx := hx _ _ t
            have sy := hy _ _ t
            have l1 := rx.length
            have l2 := ry.length
            refine ⟨fun i d e => ?_, ⟨xs, ys, sx, sy, by rw [List.length_map, List.length_zip]; omega, by rw [List.length_map, List.length_zip]; omega, by rw [List.length_map, List.length_zip]; omega⟩⟩
            have hi := (List.getElem?_eq_some_iff.mp e).1
            rw [List.length_map, List.length_zip] at hi
            have i1 : i < zs.length := by omega
            have i2 : i < ws.length := by omega
            have e2 : d = .tup [zs[i], ws[i]] := by
              rw [List.getElem?_map, List.getElem?_eq_getElem (by rw [List.length_zip]; omega), List.getElem_zip] at e
              have := Option.some.inj e
              rw [← this]
            obtain ⟨v, ev, rv⟩ := rx.get (List.getElem?_eq_getElem i1)
            obtain ⟨u, eu, ru⟩ := ry.get (List.getElem?_eq_getElem i2)
            refine ⟨⟨xs, ys, v, u, sx, sy, ev, eu⟩, ?_⟩
            rintro x H'' ⟨T, y, z, rfl, hT, rfl, hy', hz'⟩
            have q1 := hy' xs sx
            have q2 := hz' ys sy
            rw [ev] at q1
            rw [eu] at q2
            cases q1
            cases q2
            rw [e2]
            exact ⟨same_upd hT, new_tup tk' (.cons (rv.tr t) (.cons (ru.tr t) .nil)) hT⟩
  · cases hl
end
end DL
namespace DL
open L2 PySem PySem.Spec PyProof.Rows
def cbody : Stmt → List Stmt
  | .ClassDef _ _ _ b _ _ _ _ _ _ _ => b
  | _ => []
def IteS (K : PySem.W.Frag) (a : Sr) : It :=
  ⟨fun i H => ∃ (xs : List V) (x : V), a.has K xs H ∧ xs[i]? = some x,
    fun i H v H' => ∃ T x, v = .ref T ∧ H T = none ∧ H' = L2.upd H T (.tup [.int (i : Nat), x]) ∧ (∀ xs, a.has K xs H → xs[i]? = some x),
    fun i H => ∃ xs : List V, a.has K xs H ∧ i = xs.length⟩
theorem turn_enumS {P : Program} {w : World} {K : PySem.W.Frag} {elts : List Expr} {kk : Nat} {tpos : Pos} (a : Sr) (e it : Addr) (hne : e ≠ it) (ae : a.ap e) (ai : a.ap it) :
    Turn P w K (.Tuple elts kk tpos) (IteS K a) [e, it] e (fun i h => (∃ old, IsEnum h e it ((i : Nat) : Int) old) ∧ a.st it i h) where
  mem := by simp
  obj := fun i h st b hb => by
    obtain ⟨⟨old, he⟩, si⟩ := st
    have e' : b = e ∨ b = it := by simpa using hb
    rcases e' with z | z
    · rw [z]; exact ⟨_, he, fun v q => nomatch q⟩
    · rw [z]; exact a.sto si
  keep := fun i h h' st k => let ⟨⟨old, he⟩, hi⟩ := st; ⟨⟨old, k e (by simp) _ he⟩, a.stk hi fun o q => k it (by simp) o q⟩
  item := by
    intro X hP hw hK hc i pins s σ H E I hf st hg
    subst hP hw hK
    obtain ⟨⟨old, he⟩, hit⟩ := st
    obtain ⟨xs, x, hq, hx⟩ := hg
    have hel : e < s.heap.objs.size := Heap.lt_size he
    have hil : it < s.heap.objs.size := by obtain ⟨_, q, _⟩ := a.sto hit; exact Heap.lt_size q
    obtain ⟨P1, St1, D1, t1, p1, f1⟩ := Sr.draws (A := X.A.in1) (I.ok.hd hc) I a it ai hq hit
    refine wpAny_pyNext_enum_itemD D1 he t1 (List.getElem?_eq_some_iff.mp hx).1 hne (a.nfp hne.symm ae) fun u h' tk q1 ho hit' hT hsz hk => ?_
    obtain ⟨x', ex, ru⟩ := p1 _ _ q1
    rw [hx] at ex
    cases ex
    refine ⟨_, rfl, wpAny_letOwnedTupleGo_enum (s := { s with heap := h', toks := tk + 1 }) ho fun h'' he' sb => ?_⟩
    have hT2 : h''.get? s.heap.objs.size = some { cls := .type "tuple", data := .seq #[.int i tk, u] } := (sb.2 _ (Nat.ne_of_gt hel)).trans hT
    have new : ObjOk X.prog X.w (L2.upd H s.heap.objs.size (.tup [.int (i : Nat), x])) h'' s.heap.objs.size (.tup [.int (i : Nat), x]) :=
      ⟨by show 2 ≤ sizeLine; decide, [.int i tk, u], .cons ⟨_, rfl⟩ (.cons ru .nil), ⟨_, hT2, rfl, _, rfl⟩⟩
    have I1 : Inv X pins σ (L2.upd H s.heap.objs.size (.tup [.int (i : Nat), x])) { s with heap := h'', toks := tk + 1 } :=
      I.turnedNew (ch := [e, it]) (fun b ob hb q => (sb.2 b (fun z => hb (by simp [z]))).trans (hk b ob (fun z => hb (by simp [z])) (fun z => hb (by simp [z])) q)) hf (Nat.le_refl _) new
    refine ⟨.ref s.heap.objs.size, _, I1, rfl, ⟨_, x, rfl, I.hok.fresh (Nat.le_refl _), rfl, fun ys hy => by rw [a.inj I hy hq]; exact hx⟩, ⟨⟨u, ?_⟩, a.stk (f1 _ _ hit') fun o q => (sb.2 it (Ne.symm hne)).trans q⟩, fun b hb => ?_⟩
    · have e1 : ((i + 1 : Nat) : Int) = (i : Int) + 1 := by omega
      rw [e1]; exact he'
    · have hb' : b < s.heap.objs.size := by
        have e' : b = e ∨ b = it := by simpa using hb
        rcases e' with z | z
        · rw [z]; exact hel
        · rw [z]; exact hil
      rw [upd_ne (Nat.ne_of_lt hb')]
      exact (hf b hb).1
  done := by
    intro X hP hw hK hc i pins s σ H E I hf st hg
    subst hP hw hK
    obtain ⟨⟨old, he⟩, hit⟩ := st
    obtain ⟨xs, hq, rfl⟩ := hg
    obtain ⟨P1, St1, D1, t1, p1, f1⟩ := Sr.draws (A := X.A.in1) (I.ok.hd hc) I a it ai hq hit
    obtain ⟨f0, f1, f2, f3, f4, f5⟩ := hf it (by simp)
    exact wpAny_pyNext_enum_endD D1 he t1 fun h' eb => ⟨rfl, I.turned (t' := s.toks) (fun b o hb q => eb b o hb q) f0 f1 f3 f4 f5⟩
  self := fun A i s Q E st h => let ⟨⟨_, he⟩, _⟩ := st; wpAny_pyIter_enum he h
theorem meets_enumS_new (u : Value) (o : Obj) :
    Meets (Builtin.«enumerate.__new__» ⟨[.type "enumerate", u], []⟩) (fun _ R s => IterO u o s.heap ∧
      R (.ok (.ret (.ref (s.heap.push o).objs.size))) { s with heap := (s.heap.push o).push { cls := .type "enumerate", data := .fields #[.none, .bool false, .ref s.heap.objs.size, rawInt 0, .none, .none] } }) :=
  .of_wp fun prog w A R s h => by
    obtain ⟨hp, g, d, tk, os⟩ := s
    obtain ⟨h1, h⟩ := h
    have hsub := sub_enumerate
    have i1 := @h1 hp (fun _ _ x => x)
    wp_walk
    refine wpAny_stack_any fun st => wpAny_pure ?_
    split
    · rename_i c _ _ _ _ _
      cases (c == Value.type "enumerate")
      · wp_walk using i1 prog w _ _ _ _ _
        exact ⟨_, rfl, h⟩
      · wp_walk using i1 prog w _ _ _ _ _
        exact ⟨_, rfl, h⟩
    · wp_walk using i1 prog w _ _ _ _ _
      exact ⟨_, rfl, h⟩
theorem call_enumS {prog : Program} {w : World} {A : Around} {E : Value → Shared → Prop} {s : Shared} {u : Value} {o : Obj} {Q : Value → Shared → Prop} (hL : IterO u o s.heap) (fo : o.isFreed = false)
    (h : ∀ h', IsEnum h' (s.heap.objs.size + 1) s.heap.objs.size 0 .none → h'.get? s.heap.objs.size = some o → h'.objs.size = s.heap.objs.size + 2 →
      (∀ b o, s.heap.get? b = some o → h'.get? b = some o) → Q (.ref (s.heap.objs.size + 1)) { s with heap := h' }) :
    wpAny (model prog w) A (call (.type "enumerate") [u]) Q E s := by
  refine callType_new F.called_enumerate (by decide) (F.typeCall_enumerate_1 _) (F.newCall_enumerate_1 _) (fun obj => F.args_object_init_2 obj _) F.entry_enumerate_new
    (meets_enumS_new u o) ⟨hL, ?_⟩
  have hz : (s.heap.push o).objs.size = s.heap.objs.size + 1 := Heap.size_push ..
  show _ ∧ _
  rw [hz]
  have he : IsEnum ((s.heap.push o).push { cls := .type "enumerate", data := .fields #[.none, .bool false, .ref s.heap.objs.size, rawInt 0, .none, .none] }) (s.heap.objs.size + 1) s.heap.objs.size 0 .none := by
    have := Heap.get?_push_size (s.heap.push o) (o := { cls := .type "enumerate", data := .fields #[.none, .bool false, .ref s.heap.objs.size, rawInt 0, .none, .none] }) rfl
    rw [hz] at this; exact this
  exact ⟨⟨_, he, rfl⟩, h _ he (Heap.get?_push_of_some _ (Heap.get?_push_size _ fo)) (by rw [Heap.size_push, hz]) fun b o x => Heap.get?_push_of_some _ (Heap.get?_push_of_some _ x)⟩
def iEnumS (K : PySem.W.Frag) (ta : TA) : TI := fun σ H R => ta σ H fun vs H1 => ∃ a xs, vs = [Sr.v a] ∧ a.has K xs H1 ∧ R (IteS K a) H1
theorem pi_enumS {X : Cx} {e : Expr} {ta : TA} {p pos tpos : Pos} {elts : List Expr} {kk : Nat} (hg : Gl X "enumerate") (hm : X.mg "enumerate" = none) (ha : PA X [e] ta) (hs : starEach [e] X.env = [(false, eval e X.env)] := by rfl) :
    PI X (.Tuple elts kk tpos) (.Call (.Name "enumerate" p) [e] [] pos) (iEnumS X.K ta) := by
  refine ⟨fun pins s σ H R I h => ?_⟩
  refine Call_ (ld_blt I hg hm boot_enumerate (PyProof.Rows.callWith_type1 (thn (ha.run pos pins s σ H _ I h) fun us s1 ⟨vs, H1, I1, r1, q1⟩ => ?_) hs rfl))
  obtain ⟨a, xs, ex, hq, q⟩ := q1
  subst ex
  cases r1 with
  | cons r rr =>
    cases rr
    obtain ⟨o1, fr1, it1, st1, ap1⟩ := Sr.iter I1 a hq r
    refine call_enumS it1 fr1 fun h' he hit hsz hk => wpAny_pyIter_enum he ?_
    have I2 : Inv X pins σ H1 { s1 with heap := h' } := I1.kept (t' := s1.toks) hk
    refine ⟨s1.heap.objs.size + 1, [s1.heap.objs.size + 1, s1.heap.objs.size], _, _, H1, rfl, I2, turn_enumS a (s1.heap.objs.size + 1) s1.heap.objs.size (Nat.succ_ne_self _) (ap1 _ (Nat.le_add_right _ _)) (ap1 _ (Nat.le_refl _)), ⟨⟨.none, he⟩, st1 _ _ hit⟩, fun b hb => ?_, q⟩
    have e' : b = s1.heap.objs.size + 1 ∨ b = s1.heap.objs.size := by simpa using hb
    have hle : s1.heap.objs.size ≤ b := by
      rcases e' with z | z
      · rw [z]; exact Nat.le_add_right _ _
      · rw [z]; exact Nat.le_refl _
    exact I1.fpOk hle (I1.hok.fresh hle)
def gEnumS : List D → Option (List D)
  | [d] => (gIter d).map enumL
  | _ => none
section
variable {X : Cx} {G : Gd} {XC : List Nat → Prop} {Ol O O' O1 : List Nat} {W : WX} {fr : Bool} {a b c e o : Expr} {es : List Expr} {ma mb mc me mo : ME} {mr : MA} {pos p apos cpos : Pos} {x y f m : Str} {py : Pos} {tg : Expr} {tpos : Pos} {elts : List Expr} {kk : Nat}
theorem di_enumS (hg : Gl X "enumerate") (hm : X.mg "enumerate" = none) (ha : DA X G O W [e] mr) (hs : starEach [e] X.env = [(false, eval e X.env)] := by rfl) : DI X G O W (.Tuple elts kk tpos) (.Call (.Name "enumerate" p) [e] [] pos) (mItN gEnumS mr) := by
  refine pi_imp (pi_enumS hg hm ha hs) fun σ H Q h => itn_go (fun _ _ _ z => z) h fun A vs ds l H1 tk r hl q => ?_
  unfold gEnumS at hl
  split at hl
  · rename_i d1
    obtain ⟨zs, hz, rfl⟩ := map_some hl
    cases r with
    | cons r r' =>
      cases r'
      obtain ⟨r1, xs, rfl, rx, hx⟩ := sr_of r hz
      refine ⟨r1, xs, rfl, hx _ _ Tr.refl, q _ fun A' H' t tk' => ?_⟩
      have sx := hx _ _ t
      have hlen := rx.length
      have el : (enumL zs).length = zs.length := by unfold enumL; rw [List.length_map, List.length_zipIdx]
      refine ⟨fun i d e => ?_, ⟨xs, sx, by omega⟩⟩
      have hi := (List.getElem?_eq_some_iff.mp e).1
      rw [el] at hi
      have e2 : d = .tup [.int (i : Nat), zs[i]] := by
        unfold enumL at e
        rw [List.getElem?_map, List.getElem?_zipIdx, List.getElem?_eq_getElem hi] at e
        have := Option.some.inj e
        rw [← this]
        simp
      obtain ⟨v, ev, rv⟩ := rx.get (List.getElem?_eq_getElem hi)
      refine ⟨⟨xs, v, sx, ev⟩, ?_⟩
      rintro x H'' ⟨T, y, rfl, hT, rfl, hy⟩
      have := hy xs sx
      rw [ev] at this
      cases this
      rw [e2]
      exact ⟨same_upd hT, new_tup tk' (.cons (.int _) (.cons (rv.tr t) .nil)) hT⟩
  · cases hl
def gLR (i j : Int) : Option D := if okR i = true ∧ okR j = true ∧ (j - i).toNat ≤ 2 ^ 24 then some (.lst (rangeL i (j - i).toNat)) else none
def mListR1 (ma : ME) : ME := fun ρ => (ma ρ).bind fun d ρ1 => match d with
  | .int j => ret (gLR 0 j) ρ1
  | _ => .bad
theorem rg_rp {K : PySem.W.Frag} {A : Addr → Prop} {H : Hp} (a : Int) (n : Nat) : RpA K A H ((List.range n).map fun i => V.int (a + (i : Nat))) (rangeL a n) := by
  unfold rangeL
  generalize List.range n = l
  induction l with
  | nil => exact .nil
  | cons x l ih => exact .cons (.int _) ih
theorem lr_fin {K : PySem.W.Frag} {A : Addr → Prop} {ms : Nat → Option Addr} {σ : L2.St} {H1 : Hp} {Q : VK} {ρ1 : En} {i j : Int} (R : RelS K G O A ms σ H1 ρ1) (q : FPost K G O W A ms σ H1 Q (ret (gLR i j) ρ1)) : RgOk i j ∧ ∀ p, H1 p = none → Q (.ref p) (L2.upd H1 p (.lst (rgV i j))) := by
  unfold gLR at q
  split at q
  · rename_i h
    refine ⟨⟨(okR_ok h.1).1, (okR_ok h.1).2, (okR_ok h.2.1).1, (okR_ok h.2.1).2, h.2.2⟩, fun p hp => ?_⟩
    exact q p _ (R.same (same_upd hp)) (R.grow hp (same_upd hp) upd_same) (Kp.same (same_upd hp)) hp (new_own R.trk (rg_rp _ _) hp)
  · exact q.elim
theorem df_listR1 {p2 p3 : Pos} (hc : X.calm = true) (hg : Gl X "list") (hm : X.mg "list" = none) (hg2 : Gl X "range") (hm2 : X.mg "range" = none) (ha : DE X G O W a ma)
    (na : starEach [.Call (.Name "range" p2) [a] [] p3] X.env = (false, eval (.Call (.Name "range" p2) [a] [] p3) X.env) :: starEach [] X.env := by rfl) (na2 : starEach [a] X.env = (false, eval a X.env) :: starEach [] X.env := by rfl) :
    DF X G O W (.Call (.Name "list" p) [.Call (.Name "range" p2) [a] [] p3] [] pos) (mListR1 ma) := by
  refine pe_imp (pe_listRg hc hg hm (prg_1 hg2 hm2 ha na2) na) fun σ H Q ⟨A, ms, ρ, R, q⟩ => ⟨A, ms, ρ, R, RPost.mono (FPost.bind q) ?_⟩
  rintro x H1 ⟨d, ρ1, R1, k1, r1, q1⟩
  cases d with
  | int j =>
    cases r1
    exact ⟨j, rfl, lr_fin R1 q1⟩
  | _ => exact q1.elim
end
end DL
namespace DL
open L2 PySem PySem.Spec PyProof.Rows
def isC (cs : List Str) (c : Str) : Bool := cs.any fun x => decide (c = x)
def tb : List (Str × FN) → Str → Option FN
  | [], _ => none
  | (y, F) :: r, x => if x = y then some F else tb r x
section
variable {P : Program} {w : World} {K : PySem.W.Frag} {mg : Str → Option Value} {base : Heap} {k : Nat} {m f c x : Str} {fr : Bool} {cs : List Str} {F : FN} {l : List (Str × FN)} {T : String}
theorem isC_or {c x : Str} {cs : List Str} (h : isC (x :: cs) c = true) : c = x ∨ isC cs c = true := by
  unfold isC at *
  rw [List.any_cons, Bool.or_eq_true] at h
  exact h.imp (fun z => of_decide_eq_true z) id
theorem fldC_nil : FldC K (isC []) f := fun c h => by cases h
theorem fldC_cons (h1 : Cls K (He.ga K x)) (h2 : NoAttr K (He.ga K x) f) (h : FldC K (isC cs) f) : FldC K (isC (x :: cs)) f := fun c hc => by
  rcases isC_or hc with rfl | z
  · exact ⟨h1, h2⟩
  · exact h c z
theorem methT_nil : MethT P w K mg base k m false fr (tb []) := fun c F h => by cases h
theorem methT_cons {g : Addr} (h1 : Cls K (He.ga K x)) (h2 : Meth K (He.ga K x) m g) (h3 : FnG P w K mg base k g false fr F) (h : MethT P w K mg base k m false fr (tb l)) : MethT P w K mg base k m false fr (tb ((x, F) :: l)) := fun c F' hc => by
  have hc' : (if c = x then some F else tb l c) = some F' := hc
  split at hc'
  · rename_i z
    subst z
    cases hc'
    exact ⟨h1, g, h2, h3⟩
  · exact h c F' hc'
end
end DL
namespace DL
open L2 PySem PySem.Spec PyProof.Rows
theorem tuple_mulW1 (l : Addr) (items : Array Value) (n : Nat) (dd : Option Addr) (sl : Array (Option Value)) (u : Tok) :
    Meets (Builtin.«tuple.__mul__» ⟨[.ref l, .int 1 u], []⟩) (fun _ R s => s.heap.get? l = some { cls := .type "tuple", dict := dd, data := .seq items n, slots := sl } ∧
      R (.ok (.ret (Value.ref l))) s) :=
  .of_wp fun prog w A R s h => by
    obtain ⟨hp, g, d, tk, os⟩ := s
    obtain ⟨hl, h⟩ := h
    have f1 := AutoSeq1.idx_int
    have c1 : (items.isEmpty || (1 : Int) == 1) = true := by simp
    wp_walk using wpAny_loadPart' hl
    repeat (first
      | (refine wpAny_ite_false (by decide) ?_; wp_walk using wpAny_loadPart' hl)
      | (refine wpAny_ite_true c1 ?_; wp_walk using wpAny_loadPart' hl)
      | (refine wpAny_ite_true (by simp) ?_; wp_walk using wpAny_loadPart' hl))
    exact ⟨_, rfl, h⟩
theorem tuple_mulW0 (l : Addr) (items : Array Value) (n : Nat) (dd : Option Addr) (sl : Array (Option Value)) (u : Tok) (c1 : (items.isEmpty || (0 : Int) == 1) = false) (c2 : (decide ((0 : Int) ≤ 0) || items.isEmpty) = true) :
    Meets (Builtin.«tuple.__mul__» ⟨[.ref l, .int 0 u], []⟩) (fun _ R s => s.heap.get? l = some { cls := .type "tuple", dict := dd, data := .seq items n, slots := sl } ∧
      R (.ok (.ret (Value.ref s.heap.objs.size))) { s with heap := s.heap.push { cls := Value.type "tuple", data := Data.seq #[] }, toks := s.toks }) :=
  .of_wp fun prog w A R s h => by
    obtain ⟨hp, g, d, tk, os⟩ := s
    obtain ⟨hl, h⟩ := h
    have f1 := AutoSeq1.idx_int
    wp_walk using wpAny_loadPart' hl
    repeat (first
      | (refine wpAny_ite_false (by decide) ?_; wp_walk using wpAny_loadPart' hl)
      | (refine wpAny_ite_false (decide_eq_false (by rw [c1]; exact Bool.false_ne_true)) ?_; wp_walk using wpAny_loadPart' hl)
      | (refine wpAny_ite_true (decide_eq_true c2) ?_; wp_walk using wpAny_loadPart' hl))
    exact ⟨_, rfl, h⟩
def rRep1 (K : PySem.W.Frag) : R2 := fun x y H Q => ∃ l xs, x = .ref l ∧ y = .int 1 ∧ SqT K H l xs ∧ Q (.ref l) H
def rRep0 (K : PySem.W.Frag) : R2 := fun x y H Q => ∃ l xs, x = .ref l ∧ y = .int 0 ∧ SqT K H l xs ∧ xs ≠ [] ∧ ∀ p, H p = none → Q (.ref p) (upd H p (.tup []))
section
variable {X : Cx}
theorem op_rep1 : OpR X (binaryOp .Mult) (rRep1 X.K) := by
  intro pins s σ H x y v u Q I rx ry h
  obtain ⟨l, xs, rfl, rfl, hT, q⟩ := h
  cases rx
  obtain ⟨t, rfl⟩ := ry
  obtain ⟨its, r, ⟨⟨cls, dd, data, sl⟩, ho, hc, n, hd⟩, hs⟩ := I.tuple hT
  simp only at hc hd
  subst hc hd
  exact wpAny_binaryOp_repeat_ref (T := "tuple") (U := "int") (by decide) ⟨_, ho, rfl⟩ (fun s' => typeIs_int s' 1 t) noFill_tuple_mul F.fills_int_mul F.slot_int_rmul repeat_tuple F.slot_int_index.lookup
    (call_meets F.slot_int_rmul (typeIs_int s 1 t) F.entry_int_rmul (F.args_int_rmul_2 _ _) (int_rmul_tuple 1 t l its.toArray n dd sl)
      ⟨ho, rfl, ⟨_, ho, rfl⟩, call_meets F.slot_tuple_mul ⟨_, ho, rfl⟩ F.entry_tuple_mul (F.args_tuple_mul_2 _ _) (tuple_mulW1 l its.toArray n dd sl t) ⟨ho, ⟨.ref l, H, I, rfl, q⟩⟩⟩)
theorem op_rep0 : OpR X (binaryOp .Mult) (rRep0 X.K) := by
  intro pins s σ H x y v u Q I rx ry h
  obtain ⟨l, xs, rfl, rfl, hT, hne, q⟩ := h
  cases rx
  obtain ⟨t, rfl⟩ := ry
  obtain ⟨its, r, ⟨⟨cls, dd, data, sl⟩, ho, hc, n, hd⟩, hs⟩ := I.tuple hT
  simp only at hc hd
  subst hc hd
  have hle : its.length = xs.length := r.length.symm
  have hn : its ≠ [] := fun e => hne (by
    rw [e] at hle
    exact List.eq_nil_of_length_eq_zero hle.symm)
  have hi : its.toArray.isEmpty = false := by
    cases its with
    | nil => exact absurd rfl hn
    | cons a b => rfl
  refine wpAny_binaryOp_repeat_ref (T := "tuple") (U := "int") (by decide) ⟨_, ho, rfl⟩ (fun s' => typeIs_int s' 0 t) noFill_tuple_mul F.fills_int_mul F.slot_int_rmul repeat_tuple F.slot_int_index.lookup
    (call_meets F.slot_int_rmul (typeIs_int s 0 t) F.entry_int_rmul (F.args_int_rmul_2 _ _) (int_rmul_tuple 0 t l its.toArray n dd sl)
      ⟨ho, rfl, ⟨_, ho, rfl⟩, call_meets F.slot_tuple_mul ⟨_, ho, rfl⟩ F.entry_tuple_mul (F.args_tuple_mul_2 _ _) (tuple_mulW0 l its.toArray n dd sl t (by rw [hi]; rfl) (by simp)) ⟨ho, ?_⟩⟩)
  refine ⟨.ref s.heap.objs.size, _, I.laid (t' := s.toks) (o := .tup []) (fun b ob q => Heap.get?_push_of_some _ q) (Nat.le_refl _) ?_, rfl, q _ (I.hok.fresh (Nat.le_refl _))⟩
  exact ⟨by rw [sizeLine_eq]; exact Nat.zero_le _, [], .nil, IsTup.new _ _⟩
def gMulT : D → D → Option D
  | .tup xs, .int k => if 0 ≤ k ∧ k ≤ 1000 ∧ xs.length ≤ 1000 ∧ (!xs.isEmpty) = true then some (.tup (List.replicate k.toNat xs).flatten) else none
  | _, _ => none
theorem od_mulT : OpR X (binaryOp .Mult) (rD2 X.K gMulT) := by
  intro pins s σ H x y v u Q I rx ry ⟨A, a, b, d, t, pa, pb, e, q⟩
  cases a with
  | tup xs =>
    cases b with
    | int k =>
      obtain ⟨hz, rfl⟩ := ite_d (x := .tup (List.replicate k.toNat xs).flatten) e
      obtain ⟨a1, x1, rfl, ha, da⟩ := pa.tup
      rw [pb.int] at ry
      have hne : x1 ≠ [] := fun z => by
        have h1 := da.length
        rw [z] at h1
        have h2 := hz.2.2.2
        rw [List.eq_nil_of_length_eq_zero h1.symm] at h2
        cases h2
      rcases (by omega : k = 0 ∨ k = 1 ∨ 2 ≤ k) with rfl | rfl | h2
      · exact op_rep0 pins s σ H _ _ v u Q I rx ry ⟨_, _, rfl, rfl, ha.sq, hne, fun p hp => q _ _ (same_upd hp) (new_tup t .nil hp)⟩
      · refine op_rep1 pins s σ H _ _ v u Q I rx ry ⟨_, _, rfl, rfl, ha.sq, ?_⟩
        have e1 : (List.replicate (1 : Int).toNat xs).flatten = xs := by simp
        rw [e1] at q
        exact q _ _ (Same.refl _) (.tup ha da)
      · exact op_repT pins s σ H _ _ v u Q I rx ry ⟨_, k, _, rfl, rfl, ha.sq, hne, h2, hz.2.1, by rw [da.length]; exact hz.2.2.1, fun p hp => q _ _ (same_upd hp) (new_tup t (da.rep _) hp)⟩
    | _ => cases e
  | _ => cases b <;> cases e
end
end DL
namespace DL
open L2 PySem PySem.Spec PyProof.Rows
def IsZipF (h : Heap) (z TI TO T : Addr) (f : Bool) : Prop := h.get? z = some { cls := .type "zip", data := .fields #[rawInt T, .bool f, .bool false, .ref TI, .ref TO] }
end DL
namespace DL
open L2 PySem PySem.Spec PyProof.Rows
end DL
namespace DL
open L2 PySem PySem.Spec PyProof.Rows
section
variable {prog : Program} {w : World} {A : Around} {E : Value → Shared → Prop} {s : Shared} {z TI TO T i1 i2 : Addr} {fp1 fp2 : List Addr} {n1 n2 i : Nat} {P1 P2 : Nat → Value → Prop} {St1 St2 : Nat → Heap → Prop} {a1 a2 : Value} {f : Bool} {oT : Obj}
def Zs (z TI TO b0 : Addr) (h : Heap) : Prop := (IsZip h z TI TO .none ∧ ∃ a b, IsTupOf2 h TO a b) ∨ ∃ T f o, IsZipF h z TI TO T f ∧ b0 ≤ T ∧ h.get? T = some o
theorem Zs.keep {b0 : Addr} {h h' : Heap} (hz : Zs z TI TO b0 h) (k : ∀ c o, c = z ∨ c = TO ∨ b0 ≤ c → h.get? c = some o → h'.get? c = some o) : Zs z TI TO b0 h' := by
  rcases hz with ⟨a, x, y, b⟩ | ⟨T, f, o, a, b, c⟩
  · exact .inl ⟨k _ _ (.inl rfl) a, x, y, k _ _ (.inr (.inl rfl)) b⟩
  · exact .inr ⟨T, f, o, k _ _ (.inl rfl) a, b, k _ _ (.inr (.inr b)) c⟩
def AccZ (b0 : Addr) (P1 P2 : Nat → Value → Prop) (h : Heap) (acc : Array Value) (i : Nat) : Prop :=
  ∃ Ts : List Addr, Ts.length = i ∧ acc = (Ts.map Value.ref).toArray ∧ Ts.Pairwise (· < ·) ∧ ∀ (j : Nat) (T : Addr), Ts[j]? = some T → b0 ≤ T ∧ ∃ x y, IsTupOf2 h T x y ∧ P1 j x ∧ P2 j y
theorem AccZ.size {b0 : Addr} {h : Heap} {acc : Array Value} (a : AccZ b0 P1 P2 h acc i) : acc.size = i := by
  obtain ⟨Ts, e1, e2, _⟩ := a
  rw [e2, List.size_toArray, List.length_map, e1]
theorem AccZ.keep {b0 : Addr} {h h' : Heap} {acc : Array Value} (a : AccZ b0 P1 P2 h acc i) (k : ∀ c o, b0 ≤ c → h.get? c = some o → h'.get? c = some o) : AccZ b0 P1 P2 h' acc i :=
  let ⟨Ts, e1, e2, e3, e4⟩ := a
  ⟨Ts, e1, e2, e3, fun j T e => let ⟨b, x, y, t, p, q⟩ := e4 j T e; ⟨b, x, y, k _ _ b t, p, q⟩⟩
theorem AccZ.push {b0 : Addr} {h : Heap} {acc : Array Value} {x y : Value} {T : Addr} (a : AccZ b0 P1 P2 h acc i) (hT : b0 ≤ T) (ht : IsTupOf2 h T x y) (hx : P1 i x) (hy : P2 i y) (hlt : ∀ (c : Addr) (o : Obj), acc.toList.contains (.ref c) = true → c < T) : AccZ b0 P1 P2 h (acc.push (.ref T)) (i + 1) := by
  obtain ⟨Ts, e1, e2, e3, e4⟩ := a
  refine ⟨Ts ++ [T], by rw [List.length_append, e1]; rfl, by rw [e2]; simp, ?_, fun j U hj => ?_⟩
  · rw [List.pairwise_append]
    refine ⟨e3, List.pairwise_singleton _ _, fun c hc d hd => ?_⟩
    rw [List.mem_singleton.mp hd]
    refine hlt c { cls := .none, data := .seq #[] } ?_
    rw [e2]
    simp [List.contains_iff_mem, hc]
  · by_cases l : j < Ts.length
    · rw [List.getElem?_append_left l] at hj
      exact e4 j U hj
    · rw [List.getElem?_append_right (by omega)] at hj
      have hj0 : j - Ts.length = 0 := by
        have := (List.getElem?_eq_some_iff.mp hj).1
        simp at this
        omega
      rw [hj0] at hj
      cases hj
      have : j = i := by omega
      subst this
      exact ⟨hT, x, y, ht, hx, hy⟩
theorem AccZ.lt {b0 : Addr} {h : Heap} {acc : Array Value} (a : AccZ b0 P1 P2 h acc i) {c : Addr} (hc : acc.toList.contains (.ref c) = true) : c < h.objs.size := by
  obtain ⟨Ts, e1, e2, e3, e4⟩ := a
  rw [e2] at hc
  have hm : c ∈ Ts := by simpa [List.contains_iff_mem] using hc
  obtain ⟨j, hj⟩ := List.getElem?_of_mem hm
  obtain ⟨_, x, y, t, _⟩ := e4 j c hj
  exact Heap.lt_size t
theorem Zs.type {b0 : Addr} {h : Heap} (hz : Zs z TI TO b0 h) : ∃ o, h.get? z = some o ∧ o.cls = .type "zip" := by
  rcases hz with ⟨a, _⟩ | ⟨T, f, o, a, _⟩
  · exact ⟨_, a, rfl⟩
  · exact ⟨_, a, rfl⟩
end
end DL
namespace DL
open L2 PySem PySem.Spec PyProof.Rows
end DL
namespace DL
open L2 PySem PySem.Spec PyProof.Rows
end DL
namespace DL
open L2 PySem PySem.Spec PyProof.Rows
end DL
namespace DL
open L2 PySem PySem.Spec PyProof.Rows
end DL
namespace DL
open L2 PySem PySem.Spec PyProof.Rows
end DL
namespace DL
open HotX L2 PySem PySem.Spec PyProof.Rows
end DL
namespace DL
open L2 PySem PySem.Spec PyProof.Rows
end DL
namespace DL
open L2 PySem PySem.Spec PyProof.Rows
end DL
namespace DL
open L2 PySem PySem.Spec PyProof.Rows
end DL
namespace DL
open L2 PySem PySem.Spec PyProof.Rows
end DL
namespace DL
open L2 PySem PySem.Spec PyProof.Rows
end DL
namespace DL
open L2 PySem PySem.Spec PyProof.Rows
mutual
def relD (K : PySem.W.Frag) : Value → D → Bool
  | .none, .non => true
  | .bool b, .bl c => decide (b = c)
  | .int i _, .int j => decide (i = j)
  | .str x _, .str y => decide (x = y)
  | .ref a, .tup ds => match K.lookup a with
    | some ⟨.type c, _, .seq its _, _⟩ => decide (c = "tuple") && (decide (its.size ≤ sizeLine) && relDs K its.toList ds)
    | _ => false
  | .ref a, .scr ds => match K.lookup a with
    | some ⟨.type c, none, .seq its _, _⟩ => decide (c = "list") && (decide (its.size ≤ sizeLine) && relDs K its.toList ds)
    | _ => false
  | _, _ => false
def relDs (K : PySem.W.Frag) : List Value → List D → Bool
  | [], [] => true
  | u :: us, d :: ds => relD K u d && relDs K us ds
  | _, _ => false
end
abbrev Tb := List (Str × D)
def tabB (K : PySem.W.Frag) (x : Str) (t : Tb) : Bool := t.all fun q => match PySem.W.nsIn K (He.ga K x) q.1 with
  | some (some u) => relD K u q.2
  | _ => false
def TabOk (K : PySem.W.Frag) (w : World) (x : Str) (t : Tb) : Prop := He.dicW K (He.ga K x) = some (He.keysIn w.params (t.map (·.1))) ∧ tabB K x t = true
def tbAt (t : Tb) (z : Str) : Option D := (t.find? fun p => decide (p.1 = z)).map (·.2)
theorem keys_no {P : Params} {z : Str} : ∀ {l : List DictEntry} {ks : List Str}, l.map He.keyOf = He.keysIn P ks → z ∉ ks → l.find? (·.key.isStr z) = none ∧ l.any (·.refKey) = false
  | [], _, _, _ => ⟨rfl, rfl⟩
  | e :: r, [], h, _ => by cases h
  | e :: r, k :: ks, h, m => by
    have h1 : He.keyOf e :: r.map He.keyOf = some (k, PyData.keyHash P k) :: He.keysIn P ks := h
    injection h1 with h2 h3
    obtain ⟨r1, r2⟩ := keys_no h3 fun q => m (List.mem_cons_of_mem _ q)
    unfold He.keyOf at h2
    split at h2
    · rename_i x t q
      have h4 := Option.some.inj h2
      obtain ⟨h5, h6⟩ := Prod.mk.inj h4
      have ne : e.key.isStr z = false := by
        rw [q]
        show (x == z) = false
        have : x ≠ z := fun e => m (by rw [← e, h5]; exact List.mem_cons_self)
        simpa using this
      refine ⟨by rw [List.find?_cons, ne]; exact r1, ?_⟩
      rw [List.any_cons, r2]
      unfold DictEntry.refKey
      rw [q]
      rfl
    · cases h2
section
variable {K : PySem.W.Frag} {w : World} {x : Str} {t : Tb}
theorem TabOk.kd (h : TabOk K w x t) : ∃ es n, KDict K w (He.ga K x) es n ∧ es.toList.map He.keyOf = He.keysIn w.params (t.map (·.1)) := by
  obtain ⟨es, n, D⟩ := He.dicW_ok h.1
  refine ⟨es, n, D, ?_⟩
  have e := h.1
  unfold He.dicW at e
  rw [D.at_] at e
  have e1 : (match decide ("dict" = "dict") && ((#[] : Array (Option Value)).isEmpty && !(He.ga K x == sysModules)) with
    | true => some (es.toList.map He.keyOf)
    | false => none) = some (He.keysIn w.params (t.map (·.1))) := e
  rw [D.low] at e1
  exact Option.some.inj e1
theorem TabOk.no (h : TabOk K w x t) {z : Str} (hz : tbAt t z = none) : PySem.W.nsIn K (He.ga K x) z = some none := by
  obtain ⟨es, n, D, e⟩ := h.kd
  have m : z ∉ t.map (·.1) := fun m => by
    obtain ⟨p, hp, e⟩ := List.mem_map.mp m
    unfold tbAt at hz
    rw [Option.map_eq_none_iff, List.find?_eq_none] at hz
    exact hz p hp (decide_eq_true e)
  obtain ⟨r1, r2⟩ := keys_no e m
  unfold PySem.W.nsIn
  rw [D.at_]
  simp only [r1, r2]
  rfl
end
abbrev AlX := He.AlD × List (Option (List (Option (Str × Int))))
abbrev Tabs := List (Str × List Str)
def obXT (fa : List He.Fa) (xf : XF) (fn : List He.DefD) (ts : Tabs) (K : PySem.W.Frag) : AlX := (obX fa xf fn K, ts.map fun t => He.dicW K (He.ga K t.1))
def valXT (fn : List He.DefD) (ts : Tabs) (w : World) : AlX := (He.valD fn, ts.map fun t => some (He.keysIn w.params t.2))
def SaysXT (fa : List He.Fa) (xf : XF) (fn : List He.DefD) (ts : Tabs) (w : World) (K : PySem.W.Frag) : Prop := obXT fa xf fn ts K = valXT fn ts w
section
variable {fa : List He.Fa} {xf : XF} {fn : List He.DefD} {ts : Tabs} {w : World} {K : PySem.W.Frag}
theorem SaysXT.x (c : SaysXT fa xf fn ts w K) : SaysX fa xf fn K := congrArg (fun z : AlX => z.1) c
theorem SaysXT.x1 (c : SaysXT fa xf fn ts w K) : xf K = true := c.x.x1
theorem SaysXT.d (c : SaysXT fa xf fn ts w K) : He.SaysD fa fn K := c.x.d
end
end DL
namespace DL
open PySem
theorem u1 {n c : Nat} (h : n + 64 < c) : n + 1 < c := by omega
end DL
namespace DL
open L2 PySem PySem.Spec PyProof.Rows
structure FnX (P : Program) (w : World) (K : PySem.W.Frag) (mg : Str → Option Value) (base : Heap) (k : Nat) (f : Addr) (ok : Str → Prop) (F : Str → Ret) : Prop where
  run : ∀ (A : Around) (outer : List Env) (s : Shared) (H : Hp) (p : Addr × Obj) (c : Str) (Q : VK), L2H.RoomH k A → A.guards = some [] → L2H.Hot1 A p → L2H.PinOk outer H s p → L2N.Zn (.ref (He.ga K c)) none p.2 → (∃ vs, p.2.data = .fields vs) → ok c → Env0 P w K mg base A outer s H →
    (∃ A0 : Addr → Prop, (∀ a, A0 a → ∃ o, H a = some o) ∧ match F c with
      | .rt d _ => ∀ v H', Same H H' → Rp K A0 H' v d → Q v H'
      | _ => False) →
    codeAny (model P w) A (.call (.ref f) ⟨[.ref p.1], []⟩) (CR (L2N.CX P w) outer P w H s Q fun _ _ _ => False) s
  kp : PySem.W.keepIn K (.ref f) = true
theorem FnX.mono {P : Program} {w : World} {K : PySem.W.Frag} {mg : Str → Option Value} {base : Heap} {j k : Nat} {f : Addr} {ok : Str → Prop} {F : Str → Ret} (h : FnX P w K mg base j f ok F) (l : j ≤ k) : FnX P w K mg base k f ok F :=
  ⟨fun A outer s H p c Q hr => h.run A outer s H p c Q (hr.mono l), h.kp⟩
theorem npx {A0 : Addr → Prop} {H : Hp} {io : Option Addr} {i j : Nat} {a : Addr} {c : Str} (h : i ≠ j) : NPx ⟨A0, H, io, some (i, a, c)⟩ j := fun i' a' c' e => by cases e; exact h
end DL
namespace DL
open L2 PySem PySem.Spec PyProof.Rows
end DL
namespace DL
open L2 PySem PySem.Spec PyProof.Rows
section
variable {X : Cx}
theorem vals_ints : ∀ {ns : List Int} {us : List Value}, Vals (ns.map V.int) us → ∃ ts : List Tok, us.length = ns.length ∧ ∀ (i : Nat) (v : Value), us[i]? = some v → ∃ t, v = Value.int (ns.getD i 0) t
  | [], us, h => by
    cases h
    exact ⟨[], rfl, fun i v e => by simp at e⟩
  | n :: ns, us, h => by
    rw [List.map_cons] at h
    cases h with
    | cons r t =>
      obtain ⟨t0, rfl⟩ := r
      obtain ⟨_, h1, h2⟩ := vals_ints t
      refine ⟨[], by rw [List.length_cons, List.length_cons, h1], fun i v e => ?_⟩
      cases i with
      | zero => cases e; exact ⟨t0, rfl⟩
      | succ i => exact h2 i v (by simpa using e)
end
end DL
namespace CbK
open PySem PySem.Spec PyProof.Rows
section
variable {prog : Program} {w : World} {A : Around} {E : Value → Shared → Prop} {s : Shared}
theorem StopE.type {e : Value} {h : Heap} (q : CpRep.StopE e h) : ({ s with heap := h } : Shared).TypeIs e "StopIteration" := by
  obtain ⟨a, o, vs, rfl, ho, hc, _⟩ := q
  exact ⟨o, ho, hc⟩
end
end CbK
namespace DL
open L2 PySem PySem.Spec PyProof.Rows
end DL
namespace DL
open L2 PySem PySem.Spec PyProof.Rows
end DL
namespace DL
open PySem.W L2 PySem PySem.Spec PyProof.Rows
end DL
namespace DL
open L2 PySem PySem.Spec PyProof.Rows
section
variable {X : Cx} {G : Gd} {XC : List Nat → Prop} {Ol O O' : List Nat} {W : WX} {fr : Bool} {e : Expr} {me : ME} {mr : MA} {pos p : Pos} {x : Str}
theorem RelS.up {K : PySem.W.Frag} {A : Addr → Prop} {ms : Nat → Option Addr} {σ : L2.St} {H : Hp} {ρ : En} {d : Addr} {o : HO} (R : RelS K G O A ms σ H ρ) (h : H d = none) : RelS K G O A ms σ (upd H d o) ρ := R.same (same_upd h)
end
end DL
namespace DL
open L2 PySem PySem.Spec PyProof.Rows
abbrev FnC : Type := Option (Str × Str × Arguments × FuncBody × Scope × Addr × List Str × Addr)
def fnC (K : PySem.W.Frag) (f : Addr) : FnC := match K.lookup f with
  | some ⟨_, _, .func fd, _⟩ => some (fd.name, fd.qualname, fd.params, fd.body, fd.scope, fd.globals, fd.closure.map (·.1), fd.builtins)
  | _ => none
structure InD where
  c : Str
  val : FnC
abbrev AlY : Type := He.AlD × List FnC
def obY (fa : List He.Fa) (xf : XF) (fn : List He.DefD) (ins : List InD) (K : PySem.W.Frag) : AlY := (obX fa xf fn K, ins.map fun d => fnC K (He.ma K (He.ga K d.c) "__init__"))
def valY (fn : List He.DefD) (ins : List InD) : AlY := (He.valD fn, ins.map InD.val)
def SaysY (fa : List He.Fa) (xf : XF) (fn : List He.DefD) (ins : List InD) (K : PySem.W.Frag) : Prop := obY fa xf fn ins K = valY fn ins
section
variable {fa : List He.Fa} {xf : XF} {fn : List He.DefD} {ins : List InD} {K : PySem.W.Frag}
theorem SaysY.x (c : SaysY fa xf fn ins K) : SaysX fa xf fn K := congrArg (fun z : AlY => z.1) c
theorem SaysY.x1 (c : SaysY fa xf fn ins K) : xf K = true := c.x.x1
theorem SaysY.d (c : SaysY fa xf fn ins K) : He.SaysD fa fn K := c.x.d
end
end DL
namespace DL
open L2 PySem PySem.Spec PyProof.Rows
end DL
namespace DL
open L2 PySem PySem.Spec PyProof.Rows
def flatD : D → Bool
  | .int _ => true
  | .bl _ => true
  | .str _ => true
  | .non => true
  | _ => false
def noLD : D → Bool
  | .tup ds => ds.all flatD
  | .int _ => true
  | .bl _ => true
  | .str _ => true
  | .non => true
  | _ => false
def kindD : D → Nat
  | .int _ => 0
  | .bl _ => 1
  | .str _ => 2
  | .non => 3
  | _ => 4
def sepL : List D → List D → Bool
  | [], [] => false
  | x :: xs, y :: ys => decide (xs.length ≠ ys.length) || decide (kindD x ≠ kindD y)
  | _, _ => true
section
variable {K : PySem.W.Frag} {A B : Addr → Prop} {H H' : Hp}
theorem flat_any {v : V} {d : D} (h : Rp K A H v d) (f : flatD d = true) : Rp K B H' v d := by
  cases h with
  | non => exact .non
  | bl b => exact .bl b
  | int i => exact .int i
  | str x => exact .str x
  | _ => cases f
theorem flatA_any : ∀ {vs : List V} {ds : List D}, RpA K A H vs ds → ds.all flatD = true → RpA K B H' vs ds
  | _, _, .nil, _ => .nil
  | _, _, .cons h q, f => by
    rw [List.all_cons, Bool.and_eq_true] at f
    exact .cons (flat_any h f.1) (flatA_any q f.2)
theorem noL_any {v : V} {d : D} {q0 : Addr} {ws : List V} (hq : H q0 = some (.lst ws)) (hB : ∀ a, B a → A a ∨ a = q0) (h : Rp K A H v d) (f : noLD d = true) : Rp K B H v d := by
  cases h with
  | non => exact .non
  | bl b => exact .bl b
  | int i => exact .int i
  | str x => exact .str x
  | tup h q =>
    refine .tup ?_ (flatA_any q f)
    rcases h with ⟨h1, h2⟩ | h
    · refine .inl ⟨h1, fun z => ?_⟩
      rcases hB _ z with z | z
      · exact h2 z
      · subst z
        rcases h1 with e | ⟨o, e⟩
        · rw [hq] at e; cases e
        · rw [hq] at e; cases e
    · exact .inr h
  | _ => cases f
theorem noLA_any {q0 : Addr} {ws : List V} (hq : H q0 = some (.lst ws)) (hB : ∀ a, B a → A a ∨ a = q0) : ∀ {vs : List V} {ds : List D}, RpA K A H vs ds → ds.all noLD = true → RpA K B H vs ds
  | _, _, .nil, _ => .nil
  | _, _, .cons h q, f => by
    rw [List.all_cons, Bool.and_eq_true] at f
    exact .cons (noL_any hq hB h f.1) (noLA_any hq hB q f.2)
theorem kind_same {v : V} {x y : D} (h1 : Rp K A H v x) (h2 : Rp K A H v y) (f1 : noLD x = true) (f2 : noLD y = true) : kindD x = kindD y := by
  cases h1 with
  | non => cases h2 <;> first | rfl | cases f2
  | bl b => cases h2 <;> first | rfl | cases f2
  | int i => cases h2 <;> first | rfl | cases f2
  | str x => cases h2 <;> first | rfl | cases f2
  | tup _ _ => cases h2 <;> first | rfl | cases f2
  | _ => cases f1
theorem sep_ne {vs : List V} {xs ys : List D} (h1 : RpA K A H vs xs) (h2 : RpA K A H vs ys) (f1 : xs.all noLD = true) (f2 : ys.all noLD = true) (s : sepL xs ys = true) : False := by
  have l1 := h1.length
  have l2 := h2.length
  cases h1 with
  | nil =>
    cases h2 with
    | nil => cases s
  | cons a1 r1 =>
    cases h2 with
    | cons a2 r2 =>
      rw [List.all_cons, Bool.and_eq_true] at f1 f2
      have k := kind_same a1 a2 f1.1 f2.1
      simp only [List.length_cons] at l1 l2
      unfold sepL at s
      rw [Bool.or_eq_true] at s
      rcases s with s | s
      · exact of_decide_eq_true s (by omega)
      · exact of_decide_eq_true s k
end
theorem RelS.setOwnA {K : PySem.W.Frag} {G : Gd} {O : List Nat} {A A' : Addr → Prop} {ms : Nat → Option Addr} {σ : L2.St} {H H' : Hp} {ρ : En} {j : Nat} {p : Addr} {c d : D} (R : RelS K G O A ms σ H ρ) (hj : j ∈ O) (hc : ρ[j]? = some (some c)) (hp : ms j = some p)
    (k : ∀ a o, H a = some o → a ≠ p → H' a = some o) (hA : ∀ a, A a → A' a) (hA' : ∀ a, A' a → A a ∨ (H a = none ∧ ∃ o, H' a = some o)) (ow : Own K A' H' p d) : RelS K G O A' ms σ H' (ρ.set j (some d)) := by
  have hlt : j < ρ.length := (List.getElem?_eq_some_iff.mp hc).1
  have aj : A p := R.inA j p hj hp
  have t : Tr A A' H H' := fun a o e n => ⟨k a o e fun z => n (z ▸ aj), fun z => by
    rcases hA' a z with z | ⟨z, _⟩
    · exact n z
    · rw [e] at z; cases z⟩
  exact {
    sub := fun a z => hA a (R.sub a z)
    trk0 := R.trk0
    trk := fun a z => by
      rcases hA' a z with z | ⟨_, z⟩
      · by_cases h : a = p
        · rw [h]; exact ow.there
        · obtain ⟨o, e⟩ := R.trk a z
          exact ⟨o, k a o e h⟩
      · exact z
    keep := fun a o e n => by
      refine k a o (R.keep a o e n) fun z => ?_
      rcases R.ok j p hj hp with ⟨_, w⟩ | ⟨_, w⟩
      · exact n (z ▸ w)
      · rw [z, w] at e; cases e
    len := by rw [List.length_set]; exact R.len
    fz := fun i z e n => by
      have h : i ≠ j := fun q => n (q ▸ hj)
      rw [set_get_ne h] at e
      obtain ⟨v, e1, q⟩ := R.fz i z e n
      exact ⟨v, e1, q.tr t⟩
    ow := fun i z e m => by
      by_cases h : i = j
      · subst h
        rw [List.getElem?_set_self hlt] at e
        cases e
        obtain ⟨p', e0, e1, _⟩ := R.ow i c hc hj
        rw [hp] at e0
        cases e0
        exact ⟨p, hp, e1, ow⟩
      · rw [set_get_ne h] at e
        obtain ⟨q, e0, e1, w⟩ := R.ow i z e m
        exact ⟨q, e0, e1, w.tr t fun o u => k _ _ u fun z => h (R.dist i j p m hj (z ▸ e0) hp)⟩
    inA := fun i q m e => hA q (R.inA i q m e)
    ok := R.ok
    dist := R.dist
    px := R.px
    io := fun q e => by
      obtain ⟨h1, h2, h3, z, h4⟩ := R.io q e
      by_cases h : j = 0
      · subst h
        exact ⟨h1, h2, h3, d, List.getElem?_set_self hlt⟩
      · exact ⟨h1, h2, h3, z, by rw [set_get_ne (Ne.symm h)]; exact h4⟩ }
def msOwn2 (F : FN) (j i1 i2 : Nat) (args : MA) : MS := fun ρ => match getO ρ j with
  | none => .bad
  | some _ => obind (args ρ) fun ds ρ1 => match getO ρ1 j with
    | some (.lst cs) => if cs.all flatD = true ∧ ds.all flatD = true then (match F (.lst cs :: ds) with
      | .rt (.lst [.lst xs, .lst ys]) (.lst o) => if (xs.all noLD = true ∧ ys.all noLD = true ∧ sepL xs ys = true ∧ o.all flatD = true) ∧ i1 < ρ1.length ∧ i2 < ρ1.length then .nx (((ρ1.set j (some (.lst o))).set i1 (some (.lst xs))).set i2 (some (.lst ys))) else .bad
      | _ => .bad) else .bad
    | _ => .bad
section
variable {X : Cx} {G : Gd} {XC : List Nat → Prop} {Ol O : List Nat} {W : WX} {fr : Bool} {k : Nat} {f : Addr} {F : FN} {x y z1 z2 : Str} {p py pos pos1 pos2 pos3 pos4 : Pos} {es : List Expr} {mr : MA} {k2 : Nat}
theorem ds_own2 {j i1 i2 : Nat} (hx : XC O) (C : FnG X.prog X.w X.K X.mg X.base k f true false F) (hr : Room k X.A) (hg : X.A.guards = some []) (tk : L2N.Takes X W) (hn : Gl X x) (hm : X.mg x = some (.ref f)) (hj : O.contains j = true) (hy : PE X (.Name y py) (tVar j)) (ha : DA X G O W es mr)
    (h1 : O.contains i1 = true) (h2 : O.contains i2 = false) (h0 : i1 ≠ 0 ∨ G.io = none) (h12 : i1 ≠ j) (hN : X.N.Nodup) (hn1 : X.N[i1]? = some z1) (hl1 : Loc X.env.scope z1) (hn2 : X.N[i2]? = some z2) (hl2 : Loc X.env.scope z2) (hc : X.calm = true := by rfl) (hpx : NPx G i1 := by first | exact NPx.no rfl | assumption)
    (hf1 : X.fn z1 = true ∨ X.env.scope.names.lookup z1 = some .local := by first | exact .inl rfl | exact .inr rfl | assumption) (hf2 : X.fn z2 = true ∨ X.env.scope.names.lookup z2 = some .local := by first | exact .inl rfl | exact .inr rfl | assumption)
    (hs : starEach (.Name y py :: es) X.env = (false, eval (.Name y py) X.env) :: starEach es X.env := by rfl) (hdb : (x == ("__debug__" : Str)) = false := by decide) (hpl : (backTo pos (starEach es X.env)).any (·.1) = false := by rfl)
    (hs1 : swapsWithSole [.Tuple [.Name z1 pos1, .Name z2 pos2] k2 pos3] (.Call (.Name x p) (.Name y py :: es) [] pos) pos4.line X.env = pure false := by rfl) (hw1 : swappedStores [.Tuple [.Name z1 pos1, .Name z2 pos2] k2 pos3] (.Call (.Name x p) (.Name y py :: es) [] pos) X.env = pure none := by rfl)
    (ha1 : (assignEach [.Tuple [.Name z1 pos1, .Name z2 pos2] k2 pos3] X.env).map (·.2) = [assign (.Tuple [.Name z1 pos1, .Name z2 pos2] k2 pos3) X.env] := by rfl)
    (hq1 : (assignEach [.Name z1 pos1, .Name z2 pos2] X.env).map (·.2) = assign (.Name z1 pos1) X.env :: (assignEach [.Name z2 pos2] X.env).map (·.2) := by rfl) (hq2 : (assignEach [.Name z2 pos2] X.env).map (·.2) = assign (.Name z2 pos2) X.env :: (assignEach [] X.env).map (·.2) := by rfl)
    (hq3 : (assignEach [.Name z1 pos1, .Name z2 pos2] X.env).length = 2 := by rfl) (hq4 : (assignEach [.Name z1 pos1, .Name z2 pos2] X.env).findIdx? (·.1) = none := by rfl) :
    DS X G XC Ol O O W fr (.Assign [.Tuple [.Name z1 pos1, .Name z2 pos2] k2 pos3] (.Call (.Name x p) (.Name y py :: es) [] pos) pos4) (msOwn2 F j i1 i2 mr) := by
  have hj' := List.contains_iff_mem.mp hj
  have h1' := List.contains_iff_mem.mp h1
  have h2' : i2 ∉ O := fun z => by rw [List.contains_iff_mem.mpr z] at h2; cases h2
  refine ps_imp (ps_asg (pe_callG C hr hg tk hn hm (pa_cons hy ha hs) hdb rfl hpl) (pg_lst hc (pgs_cons (pg_name hN hn1 hl1 hf1) (pgs_cons (pg_name hN hn2 hl2 hf2) pgs_nil hq2) hq1) hq3 hq4) hs1 hw1 ha1) fun D0 σ H ⟨A, ms, ρ, R, q⟩ => ?_
  unfold msOwn2 at q
  cases hc0 : getO ρ j with
  | none => rw [hc0] at q; exact q.elim
  | some c =>
    rw [hc0] at q
    obtain ⟨pj, hp, hv, _⟩ := R.ow j c (getO_some hc0) hj'
    refine ⟨.ref pj, hv, A, ms, ρ, R, eb hx q ?_⟩
    intro ds ρ1 vs H1 _ R1 k1 r1 q1
    cases hc1 : getO ρ1 j with
    | none => rw [hc1] at q1; exact q1.elim
    | some c1 =>
      rw [hc1] at q1
      have b1 := getO_some hc1
      obtain ⟨p', hp', _, oj⟩ := R1.ow j c1 b1 hj'
      rw [hp] at hp'
      cases hp'
      cases c1 with
      | lst cs =>
        obtain ⟨wcs, hcs, rcs⟩ := own_lst oj
        have q2 : SPost X.K G XC Ol O W fr A H1 D0 (if cs.all flatD = true ∧ ds.all flatD = true then (match F (.lst cs :: ds) with
          | .rt (.lst [.lst xs, .lst ys]) (.lst o) => if (xs.all noLD = true ∧ ys.all noLD = true ∧ sepL xs ys = true ∧ o.all flatD = true) ∧ i1 < ρ1.length ∧ i2 < ρ1.length then .nx (((ρ1.set j (some (.lst o))).set i1 (some (.lst xs))).set i2 (some (.lst ys))) else .bad
          | _ => .bad) else .bad) := q1
        split at q2
        · rename_i fl
          refine ⟨fun a => ∃ o, H1 a = some o, some pj, .lst cs :: ds, fun a z => z, rfl, ⟨vs, .lst cs, ds, rfl, rfl, oj.there, .lst hcs (flatA_any rcs fl.1), flatA_any r1 fl.2⟩, ?_⟩
          split at q2
          · rename_i xs ys o hF
            rw [hF]
            intro v H' ki ⟨rr, oo⟩
            split at q2
            · rename_i cond
              obtain ⟨⟨f1, f2, sp, f3⟩, hl1', hl2'⟩ := cond
              have kk : ∀ a u, H1 a = some u → a ≠ pj → H' a = some u := fun a u e n => ki a u e fun z => n (Option.some.inj z).symm
              obtain ⟨wo, hwo, ro⟩ := own_lst (oo pj rfl)
              cases rr with
              | lst hp0 np0 rp0 =>
                cases rp0 with
                | cons ra rb =>
                  cases rb with
                  | cons rb rc =>
                    cases rc
                    cases ra with
                    | @lst q0 ws0 _ hq0 nq0 rq0 =>
                      cases rb with
                      | @lst q5 ws5 _ hq5 nq5 rq5 =>
                        have fr0 : H1 q0 = none := by
                          cases e : H1 q0 with
                          | none => rfl
                          | some u => exact absurd ⟨u, e⟩ nq0
                        have fr5 : H1 q5 = none := by
                          cases e : H1 q5 with
                          | none => rfl
                          | some u => exact absurd ⟨u, e⟩ nq5
                        have ne : q5 ≠ q0 := fun z => by
                          subst z
                          rw [hq0] at hq5
                          cases hq5
                          exact sep_ne rq0 rq5 f1 f2 sp
                        have hB : ∀ a, (A a ∨ a = q0) → (∃ o, H1 a = some o) ∨ a = q0 := fun a z => z.imp (R1.trk a) id
                        have R2 : RelS X.K G O (fun a => A a ∨ a = q0) ms σ H' (ρ1.set j (some (.lst o))) := R1.setOwnA hj' b1 hp kk (fun a z => .inl z) (fun a z => z.imp id fun z => by
                          subst z
                          exact ⟨fr0, _, hq0⟩) (.lst hwo (flatA_any ro f3))
                        have R3 := R2.own h1' h0 (by rw [List.length_set]; exact hl1') (R1.msne fr0) hpx (h0_none R1 fr0) (.lst hq0 (noLA_any hq0 hB rq0 f1))
                        have r5 : Rp X.K (fun a => A a ∨ a = q0) H' (.ref q5) (.lst ys) := .lst hq5 (fun z => z.elim (fun z => by
                          obtain ⟨u, e⟩ := R1.trk q5 z
                          rw [fr5] at e; cases e) ne) (noLA_any hq0 hB rq5 f2)
                        have R4 := R3.put h2' (by rw [List.length_set, List.length_set]; exact hl2') r5
                        have sq : SqL X.K H' _ [.ref q0, .ref q5] := SqL.of hp0
                        refine ⟨_, _, rfl, sq, rfl, _, _, rfl, _, _, rfl, rfl, ?_⟩
                        refine q2 _ H' _ _ R4 fun a u e n => ⟨kk a u e fun z => n (z ▸ R1.inA j pj hj' hp), fun z => z.elim n fun z => ?_⟩
                        subst z
                        rw [fr0] at e
                        cases e
            · exact q2.elim
          · exact q2.elim
        · exact q2.elim
      | _ => exact q1.elim
end
def noL2 : D → Bool
  | .tup ds => ds.all noLD
  | d => flatD d
def noLO : D → Bool
  | .obj _ fs => fs.all fun p => noL2 p.2
  | _ => false
section
variable {K : PySem.W.Frag} {A B : Addr → Prop} {H : Hp}
theorem noL2_any {v : V} {d : D} {q0 : Addr} {ws : List V} (hq : H q0 = some (.lst ws)) (hB : ∀ a, B a → A a ∨ a = q0) (h : Rp K A H v d) (f : noL2 d = true) : Rp K B H v d := by
  cases h with
  | non => exact .non
  | bl b => exact .bl b
  | int i => exact .int i
  | str x => exact .str x
  | tup h q =>
    refine .tup ?_ (noLA_any hq hB q f)
    rcases h with ⟨h1, h2⟩ | h
    · refine .inl ⟨h1, fun z => ?_⟩
      rcases hB _ z with z | z
      · exact h2 z
      · subst z
        rcases h1 with e | ⟨o, e⟩
        · rw [hq] at e; cases e
        · rw [hq] at e; cases e
    · exact .inr h
  | _ => cases f
theorem noLF_any {q0 : Addr} {ws : List V} (hq : H q0 = some (.lst ws)) (hB : ∀ a, B a → A a ∨ a = q0) : ∀ {vs : List (Str × V)} {ds : List (Str × D)}, RpF K A H vs ds → (ds.all fun p => noL2 p.2) = true → RpF K B H vs ds
  | _, _, .nil, _ => .nil
  | _, _, .cons h q, f => by
    rw [List.all_cons, Bool.and_eq_true] at f
    exact .cons (noL2_any hq hB h f.1) (noLF_any hq hB q f.2)
theorem noLO_any {p : Addr} {d : D} {q0 : Addr} {ws : List V} (hq : H q0 = some (.lst ws)) (hB : ∀ a, B a → A a ∨ a = q0) (h : Own K A H p d) (f : noLO d = true) : Own K B H p d := by
  cases h with
  | obj e q => exact .obj e (noLF_any hq hB q f)
  | _ => cases f
end
def mMakeO (c : Str) (F : FN) (m : ME) (j : Nat) : ME := fun ρ => (m ρ).bind fun d ρ1 => match getO ρ1 j with
  | some (.lst cs) => match F [.obj c [], d, .lst cs] with
    | .rt .non o => if noLO o = true then .ok o ρ1 else .bad
    | _ => .bad
  | _ => .bad
section
variable {X : Cx} {G : Gd} {O : List Nat} {W : WX} {k : Nat} {ff : Addr} {F : FN} {x y : Str} {p py pos : Pos} {e : Expr} {me : ME} {j : Nat}
theorem makeO_go {K : PySem.W.Frag} {σ : L2.St} {H : Hp} {Q : VK} (hj : j ∈ O) (h : tF K G O W (mMakeO x F me j) σ H Q) : tMakeG K (He.ga K x) F W (tCons (tE K G O W me) (tCons (tVar j) tNil)) σ H Q := by
  obtain ⟨A, ms, ρ, R, q⟩ := h
  refine ⟨A, ms, ρ, R, RPost.mono (FPost.bind q) ?_⟩
  rintro v1 H1 ⟨d1, ρ1, R1, k1, r1, q1⟩
  cases hc1 : getO ρ1 j with
  | none => rw [hc1] at q1; exact q1.elim
  | some c1 =>
    rw [hc1] at q1
    obtain ⟨pj, hp, hv, oj⟩ := R1.ow j c1 (getO_some hc1) hj
    cases c1 with
    | lst cs =>
      obtain ⟨wcs, hcs, rcs⟩ := own_lst oj
      refine ⟨.ref pj, hv, ?_⟩
      intro x0 dx hx0 hdx hne
      have npx : pj ≠ x0 := fun z => by rw [z, hx0] at hcs; cases hcs
      have s1 : Same H1 (L2.upd H1 dx (.own x0)) := same_upd hdx
      have hx1 : (L2.upd H1 dx (.own x0)) x0 = none := by rw [upd_ne (fun z => hne z.symm)]; exact hx0
      have s2 : Same H1 (L2.upd (L2.upd H1 dx (.own x0)) x0 (.ins (He.ga K x) dx [])) := fun b o e => same_upd hx1 _ _ (s1 _ _ e)
      have t2 : Tr A (fun a => (A a ∧ a ≠ pj) ∨ a = x0) H1 (L2.upd (L2.upd H1 dx (.own x0)) x0 (.ins (He.ga K x) dx [])) := fun b o e n => ⟨s2 _ _ e, fun z => z.elim (fun z => n z.1) fun z => by rw [z, hx0] at e; cases e⟩
      have trk2 : Trk (fun a => (A a ∧ a ≠ pj) ∨ a = x0) (L2.upd (L2.upd H1 dx (.own x0)) x0 (.ins (He.ga K x) dx [])) := fun a z => by
        rcases z with z | z
        · obtain ⟨o, e⟩ := R1.trk a z.1
          exact ⟨o, s2 _ _ e⟩
        · rw [z]; exact ⟨_, upd_same⟩
      have rl : Rp K (fun a => (A a ∧ a ≠ pj) ∨ a = x0) (L2.upd (L2.upd H1 dx (.own x0)) x0 (.ins (He.ga K x) dx [])) (.ref pj) (.lst cs) := .lst (s2 _ _ hcs) (fun z => z.elim (fun z => z.2 rfl) npx) (rcs.tr t2)
      refine ⟨fun a => (A a ∧ a ≠ pj) ∨ a = x0, some x0, [.obj x [], d1, .lst cs], trk2, rfl, ⟨[v1, .ref pj], _, [d1, .lst cs], rfl, rfl, .inr rfl, .obj upd_same .nil, .cons (r1.tr t2) (.cons rl .nil)⟩, ?_⟩
      have fin : ∀ {H' : Hp}, KI (some x0) (L2.upd (L2.upd H1 dx (.own x0)) x0 (.ins (He.ga K x) dx [])) H' → Same H1 H' := fun {H'} ki b o e => ki b o (s2 _ _ e) fun z => by
        have z' := Option.some.inj z
        rw [← z', hx0] at e
        cases e
      have q2 : FPost K G O W A ms σ H1 Q (match F [.obj x [], d1, .lst cs] with
        | .rt .non o => if noLO o = true then .ok o ρ1 else .bad
        | _ => .bad) := q1
      cases hF : F [.obj x [], d1, .lst cs] with
      | bad => rw [hF] at q2; exact q2.elim
      | ex y o => rw [hF] at q2; exact q2.elim
      | rt d o =>
        rw [hF] at q2
        cases d with
        | non =>
          have q3 : FPost K G O W A ms σ H1 Q (if noLO o = true then .ok o ρ1 else .bad) := q2
          split at q3
          · rename_i nl
            intro v H' ki rr
            have rr' := (show Rp K (fun a => (A a ∧ a ≠ pj) ∨ a = x0) H' v .non ∧ ∀ p, some x0 = some p → Own K (fun a => (A a ∧ a ≠ pj) ∨ a = x0) H' p o from rr)
            have s := fin ki
            have ow : Own K (fun a => A a ∨ a = x0) H' x0 o := noLO_any (s _ _ hcs) (fun a z => z.elim (fun z => by
              by_cases e : a = pj
              · exact .inr e
              · exact .inl (.inl ⟨z, e⟩)) fun z => .inl (.inr z)) (rr'.2 x0 rfl) nl
            obtain ⟨o', ho'⟩ := ow.there
            refine ⟨by cases rr'.1; rfl, ?_⟩
            exact q3 x0 H' (R1.same s) (R1.grow hx0 s ho') (Kp.same s) hx0 ow
          · exact q3.elim
        | _ => exact q2.elim
    | _ => exact q1.elim
theorem df_makeO {C : Str} (M : Mk X.K (He.ga X.K C) ff) (F0 : FnG X.prog X.w X.K X.mg X.base k ff true false F) (hr : Room (k + 1) X.A) (hg : X.A.guards = some []) (tk : L2N.Takes X W) (hn : Gl X C) (hm : X.mg C = some (.ref (He.ga X.K C))) (he0 : DE X G O W e me) (hj : O.contains j = true) (hy : PE X (.Name y py) (tVar j))
    (hdb : (C == ("__debug__" : Str)) = false := by decide) (he : starEach [e, .Name y py] X.env = (false, eval e X.env) :: starEach [.Name y py] X.env := by rfl) (he2 : starEach [.Name y py] X.env = (false, eval (.Name y py) X.env) :: starEach [] X.env := by rfl) (hpl : (backTo pos (starEach [.Name y py] X.env)).any (·.1) = false := by rfl) :
    DF X G O W (.Call (.Name C p) [e, .Name y py] [] pos) (mMakeO C F me j) := pe_imp (pe_makeG M F0 hr hg tk hn hm (pa_cons he0 (pa_cons hy pa_nil he2) he) hdb he hpl) fun _ _ _ h => makeO_go (List.contains_iff_mem.mp hj) h
end
end DL
namespace Q
open DL L2 PySem PySem.Spec PyProof.Rows
def m_law_number : MS := (msSeq (msIf (mTest (m2 gLt (mVar 0) (mK (.int 0)))) (msRet (m2 gSub (mK (.int 0)) (mVar 0))) msNil) (msRet (mVar 0)))
def F_law_number : FN := runM 1 1 [] false m_law_number
def m_law_draws_b0 : MS := (msSeq (msIf (mTest (m2 gEq (mVar 3) (mK (.int 0)))) msBrk msNil) (msSeq (msExpr (mOM gAppend 1 (mCons (m2 gMod (mN gInt (mCons (mVar 3) mNil)) (mK (.int 1000))) mNil))) (msAsg (m2 gDiv (mVar 3) (mK (.int 1000))) (mgName 3))))
def m_law_draws_b1 : MS := (msSeq (msAsg (mCall Q.F_law_number (mCons (mVar 2) mNil)) (mgName 3)) (msIf (mTest (m2 gGe (mVar 3) (mK (.int 1000000000000000000)))) (msFor (mItN gRange1 (mCons (mK (.int 60)) mNil)) (mgName 4) m_law_draws_b0) (msSeq (msAsg (m2 gMod (mN gInt (mCons (m2 gAdd (m2 gMul (mVar 3) (mK (.int 48271))) (mK (.int 11))) mNil)) (mK (.int 2147483647))) (mgName 5)) (msSeq (msAsg (m2 gMod (mN gInt (mCons (m2 gAdd (m2 gMul (mVar 5) (mK (.int 69621))) (mVar 3)) mNil)) (mK (.int 2147483629))) (mgName 6)) (msExpr (mOM gExtend 1 (mCons (mN gLst (mCons (m2 gMod (mN gInt (mCons (mVar 3) mNil)) (mK (.int 1000))) (mCons (m2 gMod (mN gInt (mCons (mVar 5) mNil)) (mK (.int 1000))) (mCons (m2 gMod (mN gInt (mCons (mVar 6) mNil)) (mK (.int 1000))) mNil)))) mNil)))))))
def m_law_draws : MS := (msForget 1 (msSeq (msOwn 1 (mN gLst mNil)) (msSeq (msFor (mIter (mVar 0)) (mgName 2) m_law_draws_b1) (msRetO 1))))
def F_law_draws : FN := runM 7 1 [] true m_law_draws
def m_law_divisor_b0 : MS := (msSeq (msIf (mTest (m2 gEq (mVar 3) (mK (.int 0)))) msBrk msNil) (msPar [2, 3] (mCons (mVar 3) (mCons (m2 gMod (mN gInt (mCons (mVar 2) mNil)) (mVar 3)) mNil))))
def m_law_divisor : MS := (msSeq (msAsg (mN gAbs (mCons (mVar 0) mNil)) (mgName 2)) (msSeq (msAsg (mN gAbs (mCons (mVar 1) mNil)) (mgName 3)) (msSeq (msFor (mItN gRange1 (mCons (m2 gPow (mK (.int 10)) (mK (.int 9))) mNil)) (mgName 4) m_law_divisor_b0) (msRet (mVar 2)))))
def F_law_divisor : FN := runM 5 2 [] false m_law_divisor
def m_law_next : MS := (msSeq (msIf (mTruO 0) (msRet (mOM gPop 0 mNil)) msNil) (msRet (mK (.int 0))))
def F_law_next : FN := runM 1 1 [] false m_law_next
def m_law_plane_e0 : ME := (m2 gSub (m2 gMod (mN gInt (mCons (mCallIo Q.F_law_next 0 mNil) mNil)) (mK (.int 7))) (mK (.int 3)))
def m_law_plane_s1 : MS := (msOwn 3 (mLc [4] (mItN gRange1 (mCons (mVar 1) mNil)) (mgName 4) mYes m_law_plane_e0))
def m_law_plane_e2 : ME := (mIf (mTest (m2 gEq (mVar 4) (mVar 5))) (m2B gIx (.ow 3) (.ex (mVar 4))) (mK (.int 0)))
def m_law_plane_s3 : MS := (msIf (mTest (m2 gEq (m2 gMod (mN gInt (mCons (mCallIo Q.F_law_next 0 mNil) mNil)) (mK (.int 3))) (mK (.int 0)))) (msSeq (msAsg (m2 gMod (mN gInt (mCons (mCallIo Q.F_law_next 0 mNil) mNil)) (mVar 1)) (mgName 5)) (msOwn 3 (mLc [4] (mItN gRange1 (mCons (mVar 1) mNil)) (mgName 4) mYes m_law_plane_e2))) msNil)
def m_law_plane_e4 : ME := (m2 gNe (mVar 6) (mK (.int 0)))
def m_law_plane_s5 : MS := (msIf (mPureT (mNotT (mTru (mN gAny (mCons (mLc [6] (mIter (mVar 3)) (mgName 6) mYes m_law_plane_e4) mNil))))) (msAsg (mK (.int 1)) (mgSub 3 (m2 gMod (mN gInt (mCons (mCallIo Q.F_law_next 0 mNil) mNil)) (mVar 1)))) msNil)
def m_law_plane_s6 : MS := (msAsg (m2 gSub (m2 gMod (mN gInt (mCons (mCallIo Q.F_law_next 0 mNil) mNil)) (mK (.int 9))) (mK (.int 4))) (mgName 7))
def m_law_plane_e7 : ME := (m2 gMul (m2B gIx (.ow 3) (.ex (mVar 4))) (m2 gIx (mVar 2) (mVar 4)))
def m_law_plane_s8 : MS := (msIf (mTest (m2 gEq (m2 gMod (mN gInt (mCons (mCallIo Q.F_law_next 0 mNil) mNil)) (mK (.int 2))) (mK (.int 0)))) (msAsg (mN gSum (mCons (mLc [4] (mItN gRange1 (mCons (mVar 1) mNil)) (mgName 4) mYes m_law_plane_e7) mNil)) (mgName 7)) msNil)
def m_law_plane_s9 : MS := (msExpr (mOM gAppend 3 (mCons (mVar 7) mNil)))
def m_law_plane_s10 : MS := (msAsg (mK (.int 0)) (mgName 8))
def m_law_plane_b11 : MS := (msAsg (mCall Q.F_law_divisor (mCons (mVar 8) (mCons (mVar 6) mNil))) (mgName 8))
def m_law_plane_s12 : MS := (msFor (mIter (mVar 3)) (mgName 6) m_law_plane_b11)
def m_law_plane_s13 : MS := (msRet (mN gTuple (mCons (mLc [6] (mIter (mVar 3)) (mgName 6) mYes (m2 gDiv (mVar 6) (mVar 8))) mNil)))
def m_law_plane : MS := (msForget 3 (msSeq m_law_plane_s1 (msSeq m_law_plane_s3 (msSeq m_law_plane_s5 (msSeq m_law_plane_s6 (msSeq m_law_plane_s8 (msSeq m_law_plane_s9 (msSeq m_law_plane_s10 (msSeq m_law_plane_s12 m_law_plane_s13)))))))))
def F_law_plane : FN := runM 9 3 [] false m_law_plane
def m_law_planes_e0 : ME := (m2 gSub (m2 gMod (mN gInt (mCons (mCallIo Q.F_law_next 0 mNil) mNil)) (mK (.int 5))) (mK (.int 2)))
def m_law_planes_e1 : ME := (m2 gSub (mK (.int 0)) (mVar 7))
def m_law_planes_b2 : MS := (msSeq (msAsg (mCallIo Q.F_law_plane 0 (mCons (mVar 1) (mCons (mVar 3) mNil))) (mgName 6)) (msIf (mAndT (mTest (m2B gNotIn (.ex (mVar 6)) (.ow 5))) (mTest (m2B gNotIn (.ex (mN gTuple (mCons (mLc [7] (mIter (mVar 6)) (mgName 7) mYes m_law_planes_e1) mNil))) (.ow 5)))) (msExpr (mOM gAppend 5 (mCons (mVar 6) mNil))) msNil))
def m_law_planes : MS := (msSeq (msAsg (mLc [4] (mItN gRange1 (mCons (mVar 1) mNil)) (mgName 4) mYes m_law_planes_e0) (mgName 3)) (msForget 5 (msSeq (msOwn 5 (mN gLst mNil)) (msSeq (msFor (mItN gRange1 (mCons (m2 gMod (mN gInt (mCons (mCallIo Q.F_law_next 0 mNil) mNil)) (m2 gAdd (mVar 2) (mK (.int 1)))) mNil)) (mgName 4) m_law_planes_b2) (msRet (mN gLst (mCons (mVar 5) (mCons (mVar 3) mNil))))))))
def F_law_planes : FN := runM 8 3 [] false m_law_planes
def m_law_lowest : MS := (msSeq (msAsg (mCall Q.F_law_divisor (mCons (mVar 0) (mCons (mVar 1) mNil))) (mgName 2)) (msSeq (msIf (mTest (m2 gLt (mVar 1) (mK (.int 0)))) (msAsg (m2 gSub (mK (.int 0)) (mVar 2)) (mgName 2)) msNil) (msRet (mN gTup (mCons (m2 gDiv (mVar 0) (mVar 2)) (mCons (m2 gDiv (mVar 1) (mVar 2)) mNil))))))
def F_law_lowest : FN := runM 3 2 [] false m_law_lowest
def mcheck_letters : MS := (msIf (mNotT (mTest (mChain gLe gLe (mK (.int 1)) (mVar 0) (mK (.int 4))))) (msRaise "BadNumber") msNil)
def Fcheck_letters : FN := runM 1 1 [] false mcheck_letters
def mdivisor_b0 : MS := (msPar [0, 1] (mCons (mVar 1) (mCons (m2 gMod (mVar 0) (mVar 1)) mNil)))
def mdivisor_c1 : MT := (mTest (m2 gNe (mVar 1) (mK (.int 0))))
def mdivisor : MS := (msSeq (msPar [0, 1] (mCons (mN gAbs (mCons (mVar 0) mNil)) (mCons (mN gAbs (mCons (mVar 1) mNil)) mNil))) (msSeq (msWhile 1000000 mdivisor_c1 mdivisor_b0) (msRet (mVar 0))))
def Fdivisor : FN := runM 2 2 [] false mdivisor
def mis_plane_s0 : MS := (msExpr (mCall Q.Fcheck_letters (mCons (mVar 0) mNil)))
def mis_plane_e1 : ME := (m2 gLe (mN gAbs (mCons (mVar 2) mNil)) (mK (.int 1000)))
def mis_plane_s2 : MS := (msIf (mOrT (mTest (m2 gNe (mN gLen (mCons (mVar 1) mNil)) (m2 gAdd (mVar 0) (mK (.int 1))))) (mNotT (mTru (mN gAll (mCons (mLc [2] (mIter (mVar 1)) (mgName 2) mYes mis_plane_e1) mNil))))) (msRet (mK (.bl false))) msNil)
def mis_plane_s3 : MS := (msAsg (mK (.int 0)) (mgName 3))
def mis_plane_b4 : MS := (msAsg (mCall Q.Fdivisor (mCons (mVar 3) (mCons (mVar 2) mNil))) (mgName 3))
def mis_plane_s5 : MS := (msFor (mIter (mVar 1)) (mgName 2) mis_plane_b4)
def mis_plane_e6 : ME := (m2 gNe (mVar 2) (mK (.int 0)))
def mis_plane_s7 : MS := (msRet (mAnd (m2 gEq (mVar 3) (mK (.int 1))) (mN gAny (mCons (mLc [2] (mIter (mSl (.ex (mVar 1)) mNoP (mPart (mVar 0)))) (mgName 2) mYes mis_plane_e6) mNil))))
def mis_plane : MS := (msSeq mis_plane_s0 (msSeq mis_plane_s2 (msSeq mis_plane_s3 (msSeq mis_plane_s5 mis_plane_s7))))
def Fis_plane : FN := runM 4 2 [] false mis_plane
def mother_way : MS := (msRet (mN gTuple (mCons (mLc [1] (mIter (mVar 0)) (mgName 1) mYes (m1 gNeg (mVar 1))) mNil)))
def Fother_way : FN := runM 2 1 [] false mother_way
def mare_planes_e0 : ME := (mCall Q.Fis_plane (mCons (mVar 0) (mCons (mVar 2) mNil)))
def mare_planes_e1 : ME := (mOr (m2 gEq (mN gTuple (mCons (mVar 2) mNil)) (mVar 4)) (m2 gEq (mCall Q.Fother_way (mCons (mVar 2) mNil)) (mVar 4)))
def mare_planes_b2 : MS := (msIf (mTru (mN gAny (mCons (mLc [4] (mIter (mSl (.ex (mVar 1)) mNoP (mPart (mVar 3)))) (mgName 4) mYes mare_planes_e1) mNil))) (msRet (mK (.bl false))) msNil)
def mare_planes : MS := (msSeq (msIf (mOrT (mTest (m2 gGt (mN gLen (mCons (mVar 1) mNil)) (mK (.int 12)))) (mNotT (mTru (mN gAll (mCons (mLc [2] (mIter (mVar 1)) (mgName 2) mYes mare_planes_e0) mNil))))) (msRet (mK (.bl false))) msNil) (msSeq (msFor (mItN gEnumS (mCons (mVar 1) mNil)) (mgTup 2 (mgCons (mgName 3) (mgCons (mgName 2) mgNil))) mare_planes_b2) (msRet (mK (.bl true)))))
def Fare_planes : FN := runM 5 2 [] false mare_planes
def mPlanes_init : MS := (msSeq (msExpr (mCall Q.Fcheck_letters (mCons (mVar 1) mNil))) (msSeq (msIf (mNotT (mTru (mCall Q.Fare_planes (mCons (mVar 1) (mCons (mVar 2) mNil))))) (msRaise "NotPlanes") msNil) (msSeq (msFld (isC ["Planes"]) "n" 0 (mVar 1)) (msFld (isC ["Planes"]) "kept" 0 (mN gTuple (mCons (mVar 2) mNil))))))
def FPlanes_init : FN := runM 3 3 [] false mPlanes_init
def mlowest : MS := (msSeq (msAsg (mCall Q.Fdivisor (mCons (mVar 0) (mCons (mVar 1) mNil))) (mgName 2)) (msSeq (msIf (mTest (m2 gLt (mVar 1) (mK (.int 0)))) (msAsg (m1 gNeg (mVar 2)) (mgName 2)) msNil) (msRet (mN gTup (mCons (m2 gDiv (mVar 0) (mVar 2)) (mCons (m2 gDiv (mVar 1) (mVar 2)) mNil))))))
def Flowest : FN := runM 3 2 [] false mlowest
def msummed : MS := (msRet (mCall Q.Flowest (mCons (m2 gAdd (m2 gMul (m2 gIx (mVar 0) (mK (.int 0))) (m2 gIx (mVar 1) (mK (.int 1)))) (m2 gMul (m2 gIx (mVar 1) (mK (.int 0))) (m2 gIx (mVar 0) (mK (.int 1))))) (mCons (m2 gMul (m2 gIx (mVar 0) (mK (.int 1))) (m2 gIx (mVar 1) (mK (.int 1)))) mNil))))
def Fsummed : FN := runM 2 2 [] false msummed
def mmultiplied : MS := (msRet (mCall Q.Flowest (mCons (m2 gMul (m2 gIx (mVar 0) (mK (.int 0))) (m2 gIx (mVar 1) (mK (.int 0)))) (mCons (m2 gMul (m2 gIx (mVar 0) (mK (.int 1))) (m2 gIx (mVar 1) (mK (.int 1)))) mNil))))
def Fmultiplied : FN := runM 2 2 [] false mmultiplied
def mnumbers_of_e0 : ME := (mN gTup (mCons (mVar 1) (mCons (mK (.int 1)) mNil)))
def mnumbers_of : MS := (msRet (mN gTuple (mCons (mLc [1] (mIter (mVar 0)) (mgName 1) mYes mnumbers_of_e0) mNil)))
def Fnumbers_of : FN := runM 2 1 [] false mnumbers_of
def m_law_times : MS := (msRet (mCall Q.F_law_lowest (mCons (m2 gMul (m2 gIx (mVar 0) (mK (.int 0))) (m2 gIx (mVar 1) (mK (.int 0)))) (mCons (m2 gMul (m2 gIx (mVar 0) (mK (.int 1))) (m2 gIx (mVar 1) (mK (.int 1)))) mNil))))
def F_law_times : FN := runM 2 2 [] false m_law_times
def mPlanes_len : MS := (msRet (mN gLen (mCons (m1 (gFld (isC ["Planes"]) "kept") (mVar 0)) mNil)))
def FPlanes_len : FN := runM 1 1 [] false mPlanes_len
def mequations_e0 : ME := (m2 gIx (m1 (gFld (isC ["Planes"]) "kept") (mVar 0)) (mVar 3))
def mequations_e1 : ME := (mN gTup (mCons (m2 gIx (mVar 4) (m1 (gFld (isC ["Planes"]) "n") (mVar 0))) (mCons (mK (.int 1)) mNil)))
def mequations_e2 : ME := (mCall Q.Fnumbers_of (mCons (mSl (.ex (mVar 4)) mNoP (mPart (m1 (gFld (isC ["Planes"]) "n") (mVar 0)))) mNil))
def mequations : MS := (msSeq (msAsg (mLc [3] (mIter (mVar 1)) (mgName 3) mYes mequations_e0) (mgName 2)) (msRet (mN gTup (mCons (mLc [4] (mIter (mVar 2)) (mgName 4) mYes mequations_e2) (mCons (mLc [4] (mIter (mVar 2)) (mgName 4) mYes mequations_e1) mNil)))))
def Fequations : FN := runM 5 2 [] false mequations
def minverted : MS := (msRet (mCall Q.Flowest (mCons (m2 gIx (mVar 0) (mK (.int 1))) (mCons (m2 gIx (mVar 0) (mK (.int 0))) mNil))))
def Finverted : FN := runM 1 1 [] false minverted
def mnegated : MS := (msRet (mN gTup (mCons (m1 gNeg (m2 gIx (mVar 0) (mK (.int 0)))) (mCons (m2 gIx (mVar 0) (mK (.int 1))) mNil))))
def Fnegated : FN := runM 1 1 [] false mnegated
def mlessened_e0 : ME := (mCall Q.Fsummed (mCons (mVar 4) (mCons (mCall Q.Fmultiplied (mCons (mVar 3) (mCons (mVar 5) mNil))) mNil)))
def mlessened : MS := (msSeq (msAsg (mCall Q.Fnegated (mCons (mVar 1) mNil)) (mgName 3)) (msRet (mLc [4, 5] (mItN gZipS (mCons (mVar 0) (mCons (mVar 2) mNil))) (mgTup 2 (mgCons (mgName 4) (mgCons (mgName 5) mgNil))) mYes mlessened_e0)))
def Flessened : FN := runM 6 3 [] false mlessened
def mreduced_e0 : ME := (mN gList (mCons (mVar 3) mNil))
def mreduced_t1 : MT := (mTest (m2 gNe (m2 gIx (m2B gIx (.ow 2) (.ex (mVar 8))) (mVar 5)) (mK (.tup [.int 0, .int 1]))))
def mreduced_e2 : ME := (mCall Q.Fmultiplied (mCons (mVar 9) (mCons (mVar 10) mNil)))
def mreduced_b3 : MS := (msIf (mAndT (mTest (m2 gNe (mVar 8) (mVar 6))) (mTest (m2 gNe (m2 gIx (m2B gIx (.ow 2) (.ex (mVar 8))) (mVar 5)) (mK (.tup [.int 0, .int 1]))))) (msAsg (mCall Q.Flessened (mCons (m2B gIx (.ow 2) (.ex (mVar 8))) (mCons (m2 gIx (m2B gIx (.ow 2) (.ex (mVar 8))) (mVar 5)) (mCons (m2B gIx (.ow 2) (.ex (mVar 6))) mNil)))) (mgSub 2 (mVar 8))) msNil)
def mreduced_b4 : MS := (msSeq (msAsg (mNO gLen 4) (mgName 6)) (msSeq (msAsg (mLc [8] (mItN gRange2 (mCons (mVar 6) (mCons (mNO gLen 2) mNil))) (mgName 8) mreduced_t1 (mVar 8)) (mgName 7)) (msSeq (msIf (mNotT (mTru (mVar 7))) msCnt msNil) (msSeq (msAsg (mN gTup (mCons (m2B gIx (.ow 2) (.ex (m2 gIx (mVar 7) (mK (.int 0))))) (mCons (m2B gIx (.ow 2) (.ex (mVar 6))) mNil))) (mgTup 2 (mgCons (mgSub 2 (mVar 6)) (mgCons (mgSub 2 (m2 gIx (mVar 7) (mK (.int 0)))) mgNil)))) (msSeq (msAsg (mCall Q.Finverted (mCons (m2 gIx (m2B gIx (.ow 2) (.ex (mVar 6))) (mVar 5)) mNil)) (mgName 9)) (msSeq (msAsg (mLc [10] (mIter (m2B gIx (.ow 2) (.ex (mVar 6)))) (mgName 10) mYes mreduced_e2) (mgSub 2 (mVar 6))) (msSeq (msFor (mItN gRange1 (mCons (mNO gLen 2) mNil)) (mgName 8) mreduced_b3) (msExpr (mOM gAppend 4 (mCons (mVar 5) mNil))))))))))
def mreduced : MS := (msForget 2 (msSeq (msOwn 2 (mLc [3] (mIter (mVar 0)) (mgName 3) mYes mreduced_e0)) (msForget 4 (msSeq (msOwn 4 (mN gLst mNil)) (msSeq (msFor (mItN gRange1 (mCons (mVar 1) mNil)) (mgName 5) mreduced_b4) (msRet (mN gTup (mCons (mVar 2) (mCons (mVar 4) mNil)))))))))
def Freduced : FN := runM 11 2 [] false mreduced
def msolved_e0 : ME := (m2 gAdd (mN gList (mCons (mVar 5) mNil)) (mN gLst (mCons (mVar 6) mNil)))
def msolved_s1 : MS := (msAsg (mCall Q.Freduced (mCons (mLc [5, 6] (mItN gZipS (mCons (mVar 1) (mCons (mVar 2) mNil))) (mgTup 2 (mgCons (mgName 5) (mgCons (mgName 6) mgNil))) mYes msolved_e0) (mCons (mVar 0) mNil))) (mgTup 2 (mgCons (mgName 3) (mgCons (mgName 4) mgNil))))
def msolved_e2 : ME := (m2 gNe (m2 gIx (mVar 5) (mVar 0)) (mK (.tup [.int 0, .int 1])))
def msolved_s3 : MS := (msIf (mTru (mN gAny (mCons (mLc [5] (mIter (mSl (.ex (mVar 3)) (mPart (mN gLen (mCons (mVar 4) mNil))) mNoP)) (mgName 5) mYes msolved_e2) mNil))) (msRet (mK .non)) msNil)
def msolved_s4 : MS := (msOwn 7 (m2F gMul (mN gLst (mCons (mK (.tup [.int 0, .int 1])) mNil)) (mVar 0)))
def msolved_b5 : MS := (msAsg (m2 gIx (m2 gIx (mVar 3) (mVar 8)) (mVar 0)) (mgSub 7 (mVar 9)))
def msolved_s6 : MS := (msFor (mItN gEnumS (mCons (mVar 4) mNil)) (mgTup 2 (mgCons (mgName 8) (mgCons (mgName 9) mgNil))) msolved_b5)
def msolved : MS := (msSeq msolved_s1 (msSeq msolved_s3 (msForget 7 (msSeq msolved_s4 (msSeq msolved_s6 (msRet (mNO gTuple 7)))))))
def Fsolved : FN := runM 10 3 [] false msolved
def mplace_of : MS := (msSeq (msAsg (mCall Q.Fequations (mCons (mVar 0) (mCons (mVar 1) mNil))) (mgTup 2 (mgCons (mgName 2) (mgCons (mgName 3) mgNil)))) (msRet (mCall Q.Fsolved (mCons (m1 (gFld (isC ["Planes"]) "n") (mVar 0)) (mCons (mVar 2) (mCons (mVar 3) mNil))))))
def Fplace_of : FN := runM 4 2 [] false mplace_of
def mPlanes_is_central : MS := (msRet (m2 gIsNot (mCall Q.Fplace_of (mCons (mVar 0) (mCons (mListR1 (mN gLen (mCons (m1 (gFld (isC ["Planes"]) "kept") (mVar 0)) mNil))) mNil))) (mK .non)))
def FPlanes_is_central : FN := runM 1 1 [] false mPlanes_is_central
end Q
namespace Q
open DL L2 PySem PySem.Spec PyProof.Rows
def mcheck_index : MS := (msIf (mNotT (mTest (mChain gLe gLt (mK (.int 0)) (mVar 1) (mN gLen (mCons (m1 (gFld (isC ["Planes"]) "kept") (mVar 0)) mNil))))) (msRaise "BadNumber") msNil)
def Fcheck_index : FN := runM 2 2 [] false mcheck_index
def mPlanes_turned : MS := (msSeq (msExpr (mCall Q.Fcheck_index (mCons (mVar 0) (mCons (mVar 1) mNil)))) (msRet (mMake "Planes" Q.FPlanes_init (mCons (m1 (gFld (isC ["Planes"]) "n") (mVar 0)) (mCons (m2 gAdd (m2 gAdd (mSl (.ex (m1 (gFld (isC ["Planes"]) "kept") (mVar 0))) mNoP (mPart (mVar 1))) (mN gTup (mCons (mCall Q.Fother_way (mCons (m2 gIx (m1 (gFld (isC ["Planes"]) "kept") (mVar 0)) (mVar 1)) mNil)) mNil))) (mSl (.ex (m1 (gFld (isC ["Planes"]) "kept") (mVar 0))) (mPart (m2 gAdd (mVar 1) (mK (.int 1)))) mNoP)) mNil)))))
def FPlanes_turned : FN := runM 2 2 [] false mPlanes_turned
end Q
namespace Q
open DL L2 PySem PySem.Spec PyProof.Rows
def m_law_over : MS := (msRet (mCall Q.F_law_lowest (mCons (m2 gMul (m2 gIx (mVar 0) (mK (.int 0))) (m2 gIx (mVar 1) (mK (.int 1)))) (mCons (m2 gMul (m2 gIx (mVar 0) (mK (.int 1))) (m2 gIx (mVar 1) (mK (.int 0)))) mNil))))
def F_law_over : FN := runM 2 2 [] false m_law_over
def m_law_less : MS := (msRet (mCall Q.F_law_lowest (mCons (m2 gSub (m2 gMul (m2 gIx (mVar 0) (mK (.int 0))) (m2 gIx (mVar 1) (mK (.int 1)))) (m2 gMul (m2 gIx (mVar 1) (mK (.int 0))) (m2 gIx (mVar 0) (mK (.int 1))))) (mCons (m2 gMul (m2 gIx (mVar 0) (mK (.int 1))) (m2 gIx (mVar 1) (mK (.int 1)))) mNil))))
def F_law_less : FN := runM 2 2 [] false m_law_less
def m_law_taken_e0 : ME := (mCall Q.F_law_less (mCons (m2 gIx (mVar 0) (mVar 3)) (mCons (mCall Q.F_law_times (mCons (m2 gIx (mVar 0) (mVar 2)) (mCons (m2 gIx (mVar 1) (mVar 3)) mNil))) mNil)))
def m_law_taken : MS := (msRet (mLc [3] (mItN gRange1 (mCons (mN gLen (mCons (mVar 0) mNil)) mNil)) (mgName 3) mYes m_law_taken_e0))
def F_law_taken : FN := runM 4 3 [] false m_law_taken
def m_law_echelon_e0 : ME := (mN gList (mCons (mVar 3) mNil))
def m_law_echelon_t1 : MT := (mTest (m2 gNe (m2 gIx (m2 gIx (m2B gIx (.ow 2) (.ex (mVar 7))) (mVar 5)) (mK (.int 0))) (mK (.int 0))))
def m_law_echelon_e2 : ME := (mCall Q.F_law_over (mCons (mVar 9) (mCons (m2 gIx (mVar 8) (mVar 5)) mNil)))
def m_law_echelon_e3 : ME := (mCall Q.F_law_taken (mCons (mVar 3) (mCons (mVar 8) (mCons (mVar 5) mNil))))
def m_law_echelon_b4 : MS := (msSeq (msAsg (mLc [7] (mItN gRange1 (mCons (mNO gLen 2) mNil)) (mgName 7) m_law_echelon_t1 (mVar 7)) (mgName 6)) (msSeq (msIf (mNotT (mTru (mVar 6))) msCnt msNil) (msSeq (msAsg (mOM gPop 2 (mCons (m2 gIx (mVar 6) (mK (.int 0))) mNil)) (mgName 8)) (msSeq (msAsg (mLc [9] (mIter (mVar 8)) (mgName 9) mYes m_law_echelon_e2) (mgName 8)) (msSeq (msOwn 2 (mLc [3] (mIter (mVar 2)) (mgName 3) mYes m_law_echelon_e3)) (msAsg (m2 gAdd (mLc [3] (mIter (mVar 4)) (mgName 3) mYes m_law_echelon_e3) (mN gLst (mCons (mVar 8) mNil))) (mgName 4)))))))
def m_law_echelon_e5 : ME := (mN gTuple (mCons (mVar 3) mNil))
def m_law_echelon : MS := (msForget 2 (msSeq (msOwn 2 (mLc [3] (mIter (mVar 1)) (mgName 3) mYes m_law_echelon_e0)) (msSeq (msAsg (mN gLst mNil) (mgName 4)) (msSeq (msFor (mItN gRange1 (mCons (mVar 0) mNil)) (mgName 5) m_law_echelon_b4) (msRet (mLc [3] (mIter (mVar 4)) (mgName 3) mYes m_law_echelon_e5))))))
def F_law_echelon : FN := runM 10 2 [] false m_law_echelon
def mrank_of_rows : MS := (msRet (mN gLen (mCons (m2 gIx (mCall Q.Freduced (mCons (mVar 1) (mCons (mVar 0) mNil))) (mK (.int 1))) mNil)))
def Frank_of_rows : FN := runM 2 2 [] false mrank_of_rows
end Q
namespace Q
open DL L2 PySem PySem.Spec PyProof.Rows
end Q
namespace Q
open DL L2 PySem PySem.Spec PyProof.Rows
def mcheck_indexes_b0 : MS := (msExpr (mCall Q.Fcheck_index (mCons (mVar 0) (mCons (mVar 2) mNil))))
def mcheck_indexes_e1 : ME := (m2 gLt (m2 gIx (mVar 1) (m2 gSub (mVar 2) (mK (.int 1)))) (m2 gIx (mVar 1) (mVar 2)))
def mcheck_indexes : MS := (msSeq (msFor (mIter (mVar 1)) (mgName 2) mcheck_indexes_b0) (msIf (mNotT (mTru (mN gAll (mCons (mLc [2] (mItN gRange2 (mCons (mK (.int 1)) (mCons (mN gLen (mCons (mVar 1) mNil)) mNil))) (mgName 2) mYes mcheck_indexes_e1) mNil)))) (msRaise "BadNumber") msNil))
def Fcheck_indexes : FN := runM 3 2 [] false mcheck_indexes
end Q
namespace Q
open DL L2 PySem PySem.Spec PyProof.Rows
end Q
namespace Q
open DL L2 PySem PySem.Spec PyProof.Rows
end Q
namespace Q
open DL L2 PySem PySem.Spec PyProof.Rows
end Q
namespace Q
open DL L2 PySem PySem.Spec PyProof.Rows
end Q
namespace Q
open DL L2 PySem PySem.Spec PyProof.Rows
end Q
namespace Q
open DL L2 PySem PySem.Spec PyProof.Rows
def m_law_numbers_v3_e0 : ME := (mN gTup (mCons (mVar 1) (mCons (mK (.int 1)) mNil)))
def m_law_numbers_v3_e1 : ME := (mN gTuple (mCons (mLc [1] (mIter (mVar 2)) (mgName 1) mYes m_law_numbers_v3_e0) mNil))
def m_law_numbers_v3 : MS := (msRet (mLc [2] (mIter (mVar 0)) (mgName 2) mYes m_law_numbers_v3_e1))
def F_law_numbers_v3 : FN := runM 3 1 [] false m_law_numbers_v3
def m_law_spoilt_v3_s0 : MS := (msOwn 2 (mNF gList (mCons (mVar 1) mNil)))
def m_law_spoilt_v3_s1 : MS := (msAsg (m2 gMod (mN gInt (mCons (mCallIo Q.F_law_next 0 mNil) mNil)) (mNO gLen 2)) (mgName 3))
def m_law_spoilt_v3_s2 : MS := (msAsg (m2 gMod (mN gInt (mCons (mCallIo Q.F_law_next 0 mNil) mNil)) (mK (.int 6))) (mgName 4))
def m_law_spoilt_v3_e3 : ME := (m2 gMul (mVar 5) (m2 gAdd (mK (.int 2)) (m2 gMod (mN gInt (mCons (mCallIo Q.F_law_next 0 mNil) mNil)) (mK (.int 3)))))
def m_law_spoilt_v3_s4 : MS := (msIf (mTest (m2 gEq (mVar 4) (mK (.int 0)))) (msAsg (m2 gIx (mN gLst (mCons (mK (.int 1000)) (mCons (m1 gNeg (mK (.int 1000))) (mCons (mK (.int 1001)) (mCons (m1 gNeg (mK (.int 1001))) (mCons (mK (.int 0)) (mCons (m2 gPow (mK (.int 10)) (mK (.int 20))) mNil))))))) (m2 gMod (mN gInt (mCons (mCallIo Q.F_law_next 0 mNil) mNil)) (mK (.int 6)))) (mgSub 2 (mVar 3))) (msIf (mTest (m2 gEq (mVar 4) (mK (.int 1)))) (msOwn 2 (mLc [5] (mIter (mVar 2)) (mgName 5) mYes m_law_spoilt_v3_e3)) (msIf (mTest (m2 gEq (mVar 4) (mK (.int 2)))) (msExpr (mOM gAppend 2 (mCons (m2 gMod (mN gInt (mCons (mCallIo Q.F_law_next 0 mNil) mNil)) (mK (.int 3))) mNil))) (msIf (mTest (m2 gEq (mVar 4) (mK (.int 3)))) (msExpr (mOM gPop 2 (mCons (mVar 3) mNil))) (msIf (mTest (m2 gEq (mVar 4) (mK (.int 4)))) (msOwn 2 (m2F gAdd (m2 gMul (mN gLst (mCons (mK (.int 0)) mNil)) (m2 gSub (mNO gLen 2) (mK (.int 1)))) (mN gLst (mCons (mK (.int 1)) mNil)))) (msAsg (m2 gSub (m2 gMod (mN gInt (mCons (mCallIo Q.F_law_next 0 mNil) mNil)) (mK (.int 9))) (mK (.int 4))) (mgSub 2 (mVar 3))))))))
def m_law_spoilt_v3 : MS := (msForget 2 (msSeq m_law_spoilt_v3_s0 (msSeq m_law_spoilt_v3_s1 (msSeq m_law_spoilt_v3_s2 (msSeq m_law_spoilt_v3_s4 (msRet (mNO gTuple 2)))))))
def F_law_spoilt_v3 : FN := runM 6 2 [] false m_law_spoilt_v3
def m_law_is_plane_b0 : MS := (msAsg (mCall Q.F_law_divisor (mCons (mVar 2) (mCons (mVar 3) mNil))) (mgName 2))
def m_law_is_plane_e1 : ME := (m2 gLe (mN gAbs (mCons (mVar 3) mNil)) (mK (.int 1000)))
def m_law_is_plane_e2 : ME := (m2 gNe (mVar 3) (mK (.int 0)))
def m_law_is_plane : MS := (msSeq (msAsg (mK (.int 0)) (mgName 2)) (msSeq (msFor (mIter (mVar 1)) (mgName 3) m_law_is_plane_b0) (msSeq (msIf (mOrT (mTest (m2 gNe (mN gLen (mCons (mVar 1) mNil)) (m2 gAdd (mVar 0) (mK (.int 1))))) (mOrT (mTest (m2 gNe (mVar 2) (mK (.int 1)))) (mNotT (mTru (mN gAll (mCons (mLc [3] (mIter (mVar 1)) (mgName 3) mYes m_law_is_plane_e1) mNil)))))) (msRet (mK (.bl false))) msNil) (msRet (mN gAny (mCons (mLc [3] (mIter (mSl (.ex (mVar 1)) mNoP (mPart (mVar 0)))) (mgName 3) mYes m_law_is_plane_e2) mNil))))))
def F_law_is_plane : FN := runM 4 2 [] false m_law_is_plane
def mPlanes_only_e0 : ME := (m2 gIx (m1 (gFld (isC ["Planes"]) "kept") (mVar 0)) (mVar 2))
def mPlanes_only : MS := (msSeq (msExpr (mCall Q.Fcheck_indexes (mCons (mVar 0) (mCons (mVar 1) mNil)))) (msRet (mMake "Planes" Q.FPlanes_init (mCons (m1 (gFld (isC ["Planes"]) "n") (mVar 0)) (mCons (mLc [2] (mIter (mVar 1)) (mgName 2) mYes mPlanes_only_e0) mNil)))))
def FPlanes_only : FN := runM 3 2 [] false mPlanes_only
def mPlanes_without : MS := (msSeq (msExpr (mCall Q.Fcheck_index (mCons (mVar 0) (mCons (mVar 1) mNil)))) (msRet (mMake "Planes" Q.FPlanes_init (mCons (m1 (gFld (isC ["Planes"]) "n") (mVar 0)) (mCons (m2 gAdd (mSl (.ex (m1 (gFld (isC ["Planes"]) "kept") (mVar 0))) mNoP (mPart (mVar 1))) (mSl (.ex (m1 (gFld (isC ["Planes"]) "kept") (mVar 0))) (mPart (m2 gAdd (mVar 1) (mK (.int 1)))) mNoP)) mNil)))))
def FPlanes_without : FN := runM 2 2 [] false mPlanes_without
def mPlanes_planes_v2 : MS := (msRet (mNF gList (mCons (m1 (gFld (isC ["Planes"]) "kept") (mVar 0)) mNil)))
def FPlanes_planes_v2 : FN := runM 1 1 [] true mPlanes_planes_v2
def mPlanes_eq : MS := (msRet (m2 gEq (mN gTup (mCons (m1 (gFld (isC ["Planes"]) "n") (mVar 0)) (mCons (m1 (gFld (isC ["Planes"]) "kept") (mVar 0)) mNil))) (mN gTup (mCons (m1 (gFld (isC ["Planes"]) "n") (mVar 1)) (mCons (m1 (gFld (isC ["Planes"]) "kept") (mVar 1)) mNil)))))
def FPlanes_eq : FN := runM 2 2 [] false mPlanes_eq
def mPlanes_rank_e0 : ME := (mCall Q.Fnumbers_of (mCons (mSl (.ex (mVar 1)) mNoP (mPart (m1 (gFld (isC ["Planes"]) "n") (mVar 0)))) mNil))
def mPlanes_rank : MS := (msRet (mCall Q.Frank_of_rows (mCons (m1 (gFld (isC ["Planes"]) "n") (mVar 0)) (mCons (mLc [1] (mIter (m1 (gFld (isC ["Planes"]) "kept") (mVar 0))) (mgName 1) mYes mPlanes_rank_e0) mNil))))
def FPlanes_rank : FN := runM 2 1 [] false mPlanes_rank
end Q
namespace Q
open DL L2 PySem PySem.Spec PyProof.Rows
theorem e_draws : F_law_draws = qDraws := rfl
theorem e_next : F_law_next = qNext := rfl
theorem e_div : Fdivisor = qDivisor := rfl
theorem e_ldiv : F_law_divisor = qLDivisor := rfl
theorem e_low : Flowest = qLowest := rfl
theorem e_llow : F_law_lowest = qLLowest := rfl
def fr (q : Rat) : D := .tup [.int q.num, .int (q.den : Int)]
theorem low_dvd (a : Int) {b : Int} (h : b ≠ 0) : a = (low a b).1 * sgcd a b ∧ b = (low a b).2 * sgcd a b := by
  have d1 : sgcd a b ∣ a := by
    have := Int.gcd_dvd_left a b
    unfold sgcd
    split
    · exact Int.neg_dvd.mpr this
    · exact this
  have d2 : sgcd a b ∣ b := by
    have := Int.gcd_dvd_right a b
    unfold sgcd
    split
    · exact Int.neg_dvd.mpr this
    · exact this
  exact ⟨(Int.fdiv_mul_cancel d1).symm, (Int.fdiv_mul_cancel d2).symm⟩
theorem isNum_split {a b : Int} (h : isNum a b = true) : 1 ≤ b ∧ Int.gcd a b = 1 := by
  unfold isNum at h
  rw [Bool.and_eq_true] at h
  exact ⟨of_decide_eq_true h.1, of_decide_eq_true h.2⟩
theorem num_rat {a b : Int} (h : isNum a b = true) : ∃ q : Rat, q.num = a ∧ (q.den : Int) = b := by
  obtain ⟨h1, h2⟩ := isNum_split h
  have e : ((b.toNat : Nat) : Int) = b := Int.toNat_of_nonneg (by omega)
  refine ⟨⟨a, b.toNat, by omega, ?_⟩, rfl, e⟩
  have : Int.gcd a b = Nat.gcd a.natAbs b.toNat := by
    rw [Int.gcd_eq_natAbs_gcd_natAbs]
    congr 1
    omega
  rw [this] at h2
  exact h2
theorem low_fr (a : Int) {b : Int} (h : b ≠ 0) : tupI (low a b) = fr (Rat.divInt a b) := by
  obtain ⟨q, h1, h2⟩ := num_rat (low_num (a := a) h)
  obtain ⟨d1, d2⟩ := low_dvd a h
  have e : q = Rat.divInt a b := by
    rw [← Rat.num_divInt_den q]
    have hd : (q.den : Int) ≠ 0 := by have := q.den_pos; omega
    refine (Rat.divInt_eq_divInt_iff hd h).mpr ?_
    rw [h1, h2]
    generalize (low a b).1 = x at *
    generalize (low a b).2 = y at *
    generalize sgcd a b = s at *
    rw [d2, d1]
    simp only [Int.mul_comm, Int.mul_left_comm]
  rw [← e]
  unfold fr tupI
  rw [h1, h2]
def Sz (k : Nat) (q : Rat) : Prop := q.num.natAbs < 2 ^ k ∧ q.den < 2 ^ k
theorem Sz.up {i j : Nat} {q : Rat} (h : Sz i q) (l : i ≤ j) : Sz j q :=
  ⟨sm_up h.1 l, Nat.lt_of_lt_of_le h.2 (Nat.pow_le_pow_right (by decide) l)⟩
theorem Sz.d {k : Nat} {q : Rat} (h : Sz k q) : ((q.den : Int)).natAbs < 2 ^ k := h.2
theorem fr_low {a b : Int} (h : b ≠ 0) {k : Nat} (h1 : a.natAbs < 2 ^ k) (h2 : b.natAbs < 2 ^ k) : Sz k (Rat.divInt a b) := by
  have e := low_fr a h
  have s := low_sm h1 h2
  unfold fr tupI at e
  injection e with e
  injection e with e1 e2
  injection e2 with e2 _
  injection e1 with e1
  injection e2 with e2
  refine ⟨by rw [← e1]; exact s.1, ?_⟩
  have := s.2
  rw [e2] at this
  exact this
theorem dne (q : Rat) : (q.den : Int) ≠ 0 := by have := q.den_pos; omega
theorem add_div (p q : Rat) : p + q = Rat.divInt (p.num * (q.den : Int) + q.num * (p.den : Int)) ((p.den : Int) * (q.den : Int)) := by
  conv => lhs; rw [← Rat.num_divInt_den p, ← Rat.num_divInt_den q]
  rw [Rat.divInt_add_divInt _ _ (dne p) (dne q)]
theorem mul_div (p q : Rat) : p * q = Rat.divInt (p.num * q.num) ((p.den : Int) * (q.den : Int)) := by
  conv => lhs; rw [← Rat.num_divInt_den p, ← Rat.num_divInt_den q]
  rw [Rat.divInt_mul_divInt]
theorem inv_div (q : Rat) (h : q ≠ 0) : q⁻¹ = Rat.divInt (q.den : Int) q.num := by
  conv => lhs; rw [← Rat.num_divInt_den q]
  rw [Rat.inv_divInt]
theorem Sz.add {i j : Nat} {p q : Rat} (h1 : Sz i p) (h2 : Sz j q) : Sz (i + j + 1) (p + q) := by
  rw [add_div]
  refine fr_low (Int.mul_ne_zero (dne p) (dne q)) ?_ (sm_up (sm_mul h1.d h2.d) (by omega))
  have a := sm_mul h1.1 h2.d
  have b := sm_mul h2.1 h1.d
  rw [Nat.add_comm j i] at b
  exact sm_add a b
theorem Sz.mul {i j : Nat} {p q : Rat} (h1 : Sz i p) (h2 : Sz j q) : Sz (i + j) (p * q) := by
  rw [mul_div]
  exact fr_low (Int.mul_ne_zero (dne p) (dne q)) (sm_mul h1.1 h2.1) (sm_mul h1.d h2.d)
theorem Sz.neg {i : Nat} {p : Rat} (h : Sz i p) : Sz i (-p) := ⟨by rw [Rat.neg_num, Int.natAbs_neg]; exact h.1, by rw [Rat.neg_den]; exact h.2⟩
theorem num_ne {q : Rat} (h : q ≠ 0) : q.num ≠ 0 := fun z => h (Rat.num_eq_zero.mp z)
theorem Sz.inv {i : Nat} {p : Rat} (h : Sz i p) (n : p ≠ 0) : Sz i p⁻¹ := by
  rw [inv_div p n]
  exact fr_low (num_ne n) h.d h.1
theorem Sz.int {k : Nat} {a : Int} (h : a.natAbs < 2 ^ k) (hk : 0 < k) : Sz k (a : Rat) := ⟨h, Nat.one_lt_two_pow (by omega)⟩
theorem Sz.zero : Sz 1 0 := ⟨by decide, by decide⟩
theorem Sz.one : Sz 1 1 := ⟨by decide, by decide⟩
theorem fr_int (a : Int) : fr (a : Rat) = .tup [.int a, .int 1] := rfl
theorem ix0 (q : Rat) : gIx (fr q) (.int 0) = some (.int q.num) := rfl
theorem ix1 (q : Rat) : gIx (fr q) (.int 1) = some (.int (q.den : Int)) := rfl
theorem mulS {a b : Int} {i j : Nat} (h1 : a.natAbs < 2 ^ i) (h2 : b.natAbs < 2 ^ j) (h : i + j ≤ 8000) : gMul (.int a) (.int b) = some (.int (a * b)) :=
  gMul_sm (i := i + 1) (j := j + 1) (sm_up h1 (by omega)) (sm_up h2 (by omega)) (by omega) (by omega) (by omega)
theorem s8 {a : Int} {i : Nat} (h : a.natAbs < 2 ^ i) (l : i ≤ 8000) : a.natAbs < 2 ^ 8000 := sm_up h l
section
variable {i j : Nat} {p q : Rat}
theorem v_lowest {a b : Int} (h : b ≠ 0) (hb : b.natAbs < 2 ^ 8000) (ρ : En) : (Flowest [.int a, .int b]).R ρ = .ok (fr (Rat.divInt a b)) ρ := by
  rw [e_low, ← low_fr a h]
  exact qLowest_v h hb ρ
theorem v_llowest {a b : Int} (h : b ≠ 0) (hb : b.natAbs < 2 ^ 8000) (ρ : En) : (F_law_lowest [.int a, .int b]).R ρ = .ok (fr (Rat.divInt a b)) ρ := by
  rw [e_llow, ← low_fr a h]
  exact qLLowest_v h hb ρ
theorem v_summed (h1 : Sz i p) (h2 : Sz j q) (l : i + j ≤ 8000) (ρ : En) : (Fsummed [fr p, fr q]).R ρ = .ok (fr (p + q)) ρ := by
  have h := fun ρ => v_lowest (a := p.num * (q.den : Int) + q.num * (p.den : Int)) (b := (p.den : Int) * (q.den : Int)) (Int.mul_ne_zero (dne p) (dne q)) (s8 (sm_mul h1.d h2.d) l) ρ
  simp -implicitDefEqProofs [Fsummed, runM, msummed, pad, mCall_R, h, ix0, ix1, mulS h1.1 h2.d l, mulS h2.1 h1.d (by omega), mulS h1.d h2.d l, ← add_div]
theorem v_multiplied (h1 : Sz i p) (h2 : Sz j q) (l : i + j ≤ 8000) (ρ : En) : (Fmultiplied [fr p, fr q]).R ρ = .ok (fr (p * q)) ρ := by
  have h := fun ρ => v_lowest (a := p.num * q.num) (b := (p.den : Int) * (q.den : Int)) (Int.mul_ne_zero (dne p) (dne q)) (s8 (sm_mul h1.d h2.d) l) ρ
  simp -implicitDefEqProofs [Fmultiplied, runM, mmultiplied, pad, mCall_R, h, ix0, ix1, mulS h1.1 h2.1 l, mulS h1.d h2.d l, ← mul_div]
theorem v_ltimes (h1 : Sz i p) (h2 : Sz j q) (l : i + j ≤ 8000) (ρ : En) : (F_law_times [fr p, fr q]).R ρ = .ok (fr (p * q)) ρ := by
  have h := fun ρ => v_llowest (a := p.num * q.num) (b := (p.den : Int) * (q.den : Int)) (Int.mul_ne_zero (dne p) (dne q)) (s8 (sm_mul h1.d h2.d) l) ρ
  simp -implicitDefEqProofs [F_law_times, runM, m_law_times, pad, mCall_R, h, ix0, ix1, mulS h1.1 h2.1 l, mulS h1.d h2.d l, ← mul_div]
theorem v_negated (ρ : En) : (Fnegated [fr q]).R ρ = .ok (fr (-q)) ρ := by
  have e : fr (-q) = .tup [.int (-q.num), .int (q.den : Int)] := by unfold fr; rw [Rat.neg_num, Rat.neg_den]
  rw [e]
  simp -implicitDefEqProofs [Fnegated, runM, mnegated, pad, ix0, ix1, two_le]
theorem v_inverted (h : Sz i q) (n : q ≠ 0) (l : i ≤ 8000) (ρ : En) : (Finverted [fr q]).R ρ = .ok (fr q⁻¹) ρ := by
  have h := fun ρ => v_lowest (a := (q.den : Int)) (b := q.num) (num_ne n) (s8 h.1 l) ρ
  simp -implicitDefEqProofs [Finverted, runM, minverted, pad, mCall_R, h, ix0, ix1, ← inv_div q n]
theorem eq_fr : gEq (fr p) (fr q) = some (.bl (decide (p = q))) := by
  have e1 : (fr p).py = some (.tuple [.int p.num, .int (p.den : Int)]) := rfl
  have e2 : (fr q).py = some (.tuple [.int q.num, .int (q.den : Int)]) := rfl
  have s : ∀ c d : Int, SeqAt.shaped (.tuple [.int c, .int d]) = true := fun c d => by simp [SeqAt.shaped, PyData.canLay0, PyData.canLayAll0, PyData.depth, PyData.depthAll]
  show (eqD (fr p) (fr q)).map D.bl = _
  have e3 : eqD (fr p) (fr q) = (match (fr p).py, (fr q).py with
    | some x, some y => if SeqAt.shaped x = true ∧ SeqAt.shaped y = true then some (PyData.eqv x y) else none
    | _, _ => none) := rfl
  rw [e3, e1, e2]
  show (if _ then some _ else none : Option Bool).map D.bl = _
  rw [if_pos ⟨s _ _, s _ _⟩]
  have e4 : PyData.eqv (.tuple [.int p.num, .int (p.den : Int)]) (.tuple [.int q.num, .int (q.den : Int)]) = decide (p = q) := by
    by_cases z : p = q
    · subst z
      simp [PyData.eqv, PyData.eqvAll]
    · have : ¬ (p.num = q.num ∧ p.den = q.den) := fun w => z (Rat.ext w.1 w.2)
      by_cases w : p.num = q.num
      · have w2 : p.den ≠ q.den := fun k => this ⟨w, k⟩
        simp [PyData.eqv, PyData.eqvAll, z, w]
        omega
      · simp [PyData.eqv, PyData.eqvAll, z, w]
  rw [e4]
  rfl
theorem ne_fr : gNe (fr p) (fr q) = some (.bl (!decide (p = q))) := by
  have := eq_fr (p := p) (q := q)
  unfold gEq at this
  unfold gNe
  cases h : eqD (fr p) (fr q) with
  | none => rw [h] at this; cases this
  | some b =>
    rw [h] at this
    have := Option.some.inj this
    injection this with e
    rw [e]
    rfl
end
end Q
namespace Q
open DL L2 PySem PySem.Spec PyProof.Rows
theorem restE_wipe {ρ ρ2 : En} {vs : List Nat} (h : wipeE ρ2 vs = wipeE ρ vs) : restE ρ vs ρ2 = ρ := by
  have hl : ρ2.length = ρ.length := by rw [← wipeE_len ρ2 vs, h, wipeE_len]
  apply List.ext_getElem?
  intro i
  by_cases m : i ∈ vs
  · exact restE_in hl m
  · rw [restE_out m, ← wipeE_out m, h, wipeE_out m]
section
variable {α : Type} {vs : List Nat} {g : MG} {mt : MT} {me : ME} {ρ ρ0 : En} {mi : En → R (List D)} {enc : α → D} {st : α → En} {p : α → Bool} {f : α → D}
theorem lc_gen (hw : ∀ a, wipeE (st a) vs = wipeE ρ vs) : ∀ (as : List α) (ρ' : En), (∀ a ∈ as, g (enc a) (wipeE ρ vs) = .ok () (st a)) → (∀ a ∈ as, mt (st a) = .ok (p a) (st a)) → (∀ a ∈ as, p a = true → me (st a) = .ok (f a) (st a)) → wipeE ρ' vs = wipeE ρ vs →
    ∃ ρ'', lcLoop vs g mt me (as.map enc) ρ' = .ok ((as.filter p).map f) ρ'' ∧ wipeE ρ'' vs = wipeE ρ vs
  | [], ρ', _, _, _, e => ⟨ρ', rfl, e⟩
  | a :: as, ρ', hg, ht, he, e => by
    obtain ⟨ρ'', e1, e2⟩ := lc_gen hw as (st a) (fun x hx => hg x (List.mem_cons_of_mem _ hx)) (fun x hx => ht x (List.mem_cons_of_mem _ hx)) (fun x hx => he x (List.mem_cons_of_mem _ hx)) (hw a)
    refine ⟨ρ'', ?_, e2⟩
    rw [List.map_cons, List.filter_cons]
    have h1 := hg a List.mem_cons_self
    have h2 := ht a List.mem_cons_self
    cases hp : p a with
    | true =>
      have h3 := he a List.mem_cons_self hp
      rw [hp] at h2
      simp only [lcLoop, e, h1, h2, h3, e1, if_true, List.map_cons]
    | false =>
      rw [hp] at h2
      simp only [lcLoop, e, h1, h2, e1, Bool.false_eq_true, if_false]
theorem mLc_filt {as : List α} (hi : mi ρ0 = .ok (as.map enc) ρ) (hz : as.length ≤ sizeLine) (hw : ∀ a, wipeE (st a) vs = wipeE ρ vs) (hg : ∀ a ∈ as, g (enc a) (wipeE ρ vs) = .ok () (st a)) (ht : ∀ a ∈ as, mt (st a) = .ok (p a) (st a)) (he : ∀ a ∈ as, p a = true → me (st a) = .ok (f a) (st a)) :
    mLc vs mi g mt me ρ0 = .ok (.lst ((as.filter p).map f)) ρ := by
  obtain ⟨ρ'', e1, e2⟩ := lc_gen (f := f) (p := p) hw as ρ hg ht he rfl
  rw [mLc_ap, hi, bind_ok, e1]
  have hl : ((as.filter p).map f).length ≤ sizeLine := by rw [List.length_map]; exact Nat.le_trans (List.length_filter_le _ _) hz
  simp only [hl, if_true, restE_wipe e2]
theorem mLc_map {as : List α} (hi : mi ρ0 = .ok (as.map enc) ρ) (hz : as.length ≤ sizeLine) (hw : ∀ a, wipeE (st a) vs = wipeE ρ vs) (hg : ∀ a ∈ as, g (enc a) (wipeE ρ vs) = .ok () (st a)) (he : ∀ a ∈ as, me (st a) = .ok (f a) (st a)) :
    mLc vs mi g mYes me ρ0 = .ok (.lst (as.map f)) ρ := by
  have := mLc_filt (p := fun _ => true) (f := f) hi hz hw hg (mt := mYes) (fun _ _ => rfl) (fun a ha _ => he a ha)
  have e : as.filter (fun _ => true) = as := List.filter_eq_self.mpr fun _ _ => rfl
  rw [e] at this
  exact this
variable {σ : Type} {mb : MS} {J : List α → σ → En → Prop} {F : σ → α → σ}
end
def Pd : Nat → D → Prop
  | _, .int _ => True
  | _, .non => True
  | _, .str x => PyData.canLay0 (.str x) = true
  | n + 1, .tup l => ∀ d ∈ l, Pd n d
  | n + 1, .lst l => ∀ d ∈ l, Pd n d
  | _, _ => False
theorem pyAll_nil : pyAll [] = some [] := by unfold pyAll; rfl
theorem py_all {n : Nat} (ih : ∀ d, Pd n d → ∃ x, d.py = some x ∧ x.canLay0 = true ∧ x.depth ≤ n + 1) : ∀ l : List D, (∀ d ∈ l, Pd n d) → ∃ xs, pyAll l = some xs ∧ PyData.canLayAll0 xs = true ∧ PyData.depthAll xs ≤ n + 1
  | [], _ => ⟨[], by unfold pyAll; rfl, rfl, by simp [PyData.depthAll]⟩
  | d :: l, h => by
    obtain ⟨x, e1, e2, e3⟩ := ih d (h d List.mem_cons_self)
    obtain ⟨xs, f1, f2, f3⟩ := py_all ih l fun z hz => h z (List.mem_cons_of_mem _ hz)
    refine ⟨x :: xs, by unfold pyAll; rw [e1, f1]; rfl, by simp [PyData.canLayAll0, e2, f2], ?_⟩
    simp only [PyData.depthAll]
    omega
theorem Pd.py : ∀ (n : Nat) (d : D), Pd n d → ∃ x, d.py = some x ∧ x.canLay0 = true ∧ x.depth ≤ n + 1
  | n, .int i, _ => ⟨.int i, by unfold D.py; rfl, rfl, by simp [PyData.depth]⟩
  | n, .non, _ => ⟨.none, by unfold D.py; rfl, rfl, by simp [PyData.depth]⟩
  | n, .str x, h => ⟨.str x, by unfold D.py; rfl, by unfold Pd at h; exact h, by simp [PyData.depth]⟩
  | n + 1, .tup l, h => by
    unfold Pd at h
    obtain ⟨xs, e1, e2, e3⟩ := py_all (Pd.py n) l h
    refine ⟨.tuple xs, by unfold D.py; rw [e1]; rfl, by unfold PyData.canLay0; exact e2, ?_⟩
    simp only [PyData.depth]
    omega
  | n + 1, .lst l, h => by
    unfold Pd at h
    obtain ⟨xs, e1, e2, e3⟩ := py_all (Pd.py n) l h
    refine ⟨.list xs, by unfold D.py; rw [e1]; rfl, by unfold PyData.canLay0; exact e2, ?_⟩
    simp only [PyData.depth]
    omega
  | 0, .tup l, h => by unfold Pd at h; exact h.elim
  | 0, .lst l, h => by unfold Pd at h; exact h.elim
  | 0, .bl _, h => by unfold Pd at h; exact h.elim
  | n + 1, .bl _, h => by unfold Pd at h; exact h.elim
  | 0, .scr _, h => by unfold Pd at h; exact h.elim
  | n + 1, .scr _, h => by unfold Pd at h; exact h.elim
  | 0, .fn _, h => by unfold Pd at h; exact h.elim
  | n + 1, .fn _, h => by unfold Pd at h; exact h.elim
  | 0, .obj _ _, h => by unfold Pd at h; exact h.elim
  | n + 1, .obj _ _, h => by unfold Pd at h; exact h.elim
  | 0, .exn _ _, h => by unfold Pd at h; exact h.elim
  | n + 1, .exn _ _, h => by unfold Pd at h; exact h.elim
  | 0, .dct _ _ _, h => by unfold Pd at h; exact h.elim
  | n + 1, .dct _ _ _, h => by unfold Pd at h; exact h.elim
theorem py_tup {l : List D} {y : PyData} (e : D.py (.tup l) = some y) : ∃ ys, y = .tuple ys ∧ pyAll l = some ys := by
  unfold D.py at e
  cases h : pyAll l with
  | none => rw [h] at e; cases e
  | some z => rw [h] at e; cases e; exact ⟨z, rfl, rfl⟩
theorem py_lst {l : List D} {y : PyData} (e : D.py (.lst l) = some y) : ∃ ys, y = .list ys ∧ pyAll l = some ys := by
  unfold D.py at e
  cases h : pyAll l with
  | none => rw [h] at e; cases e
  | some z => rw [h] at e; cases e; exact ⟨z, rfl, rfl⟩
theorem py_int {i : Int} {y : PyData} (e : D.py (.int i) = some y) : y = .int i := by unfold D.py at e; cases e; rfl
theorem py_non {y : PyData} (e : D.py .non = some y) : y = .none := by unfold D.py at e; cases e; rfl
theorem py_str {i : Str} {y : PyData} (e : D.py (.str i) = some y) : y = .str i := by unfold D.py at e; cases e; rfl
theorem py_cons {d : D} {l : List D} {y : List PyData} (e : pyAll (d :: l) = some y) : ∃ z zs, y = z :: zs ∧ d.py = some z ∧ pyAll l = some zs := by
  unfold pyAll at e
  cases h : d.py with
  | none => rw [h] at e; cases e
  | some z =>
    cases h2 : pyAll l with
    | none => rw [h, h2] at e; cases e
    | some zs => rw [h, h2] at e; cases e; exact ⟨z, zs, rfl, rfl, rfl⟩
theorem py_nil {y : List PyData} (e : pyAll [] = some y) : y = [] := by unfold pyAll at e; cases e; rfl
def EqvOk (n : Nat) : Prop := ∀ (m : Nat) (a b : D) (x y : PyData), Pd n a → Pd m b → a.py = some x → b.py = some y → (PyData.eqv x y = true ↔ a = b)
theorem eqvAll_pd {n : Nat} (ih : EqvOk n) (m : Nat) : ∀ (a b : List D) (x y : List PyData), (∀ d ∈ a, Pd n d) → (∀ d ∈ b, Pd m d) → pyAll a = some x → pyAll b = some y → (PyData.eqvAll x y = true ↔ a = b)
  | [], [], x, y, _, _, ea, eb => by rw [py_nil ea, py_nil eb]; simp [PyData.eqvAll]
  | [], b :: bs, x, y, _, hb, ea, eb => by
    obtain ⟨z, zs, rfl, _⟩ := py_cons eb
    rw [py_nil ea]; simp [PyData.eqvAll]
  | a :: as, [], x, y, _, hb, ea, eb => by
    obtain ⟨z, zs, rfl, _⟩ := py_cons ea
    rw [py_nil eb]; simp [PyData.eqvAll]
  | a :: as, b :: bs, x, y, ha, hb, ea, eb => by
    obtain ⟨z, zs, rfl, h, h2⟩ := py_cons ea
    obtain ⟨z', zs', rfl, h3, h4⟩ := py_cons eb
    have e1 := ih m a b z z' (ha a List.mem_cons_self) (hb b List.mem_cons_self) h h3
    have e2 := eqvAll_pd ih m as bs zs zs' (fun d hd => ha d (List.mem_cons_of_mem _ hd)) (fun d hd => hb d (List.mem_cons_of_mem _ hd)) h2 h4
    simp only [PyData.eqvAll, Bool.and_eq_true, List.cons.injEq]
    rw [e1, e2]
theorem pd_cases {n : Nat} {d : D} (h : Pd n d) : (∃ i, d = .int i) ∨ d = .non ∨ (∃ z, d = .str z) ∨ (∃ m l, n = m + 1 ∧ d = .tup l ∧ ∀ x ∈ l, Pd m x) ∨ (∃ m l, n = m + 1 ∧ d = .lst l ∧ ∀ x ∈ l, Pd m x) := by
  cases d with
  | int i => exact .inl ⟨i, rfl⟩
  | non => exact .inr (.inl rfl)
  | str z => exact .inr (.inr (.inl ⟨z, rfl⟩))
  | tup l =>
    cases n with
    | zero => unfold Pd at h; exact h.elim
    | succ n => unfold Pd at h; exact .inr (.inr (.inr (.inl ⟨n, l, rfl, rfl, h⟩)))
  | lst l =>
    cases n with
    | zero => unfold Pd at h; exact h.elim
    | succ n => unfold Pd at h; exact .inr (.inr (.inr (.inr ⟨n, l, rfl, rfl, h⟩)))
  | bl b => cases n <;> (unfold Pd at h; exact h.elim)
  | scr b => cases n <;> (unfold Pd at h; exact h.elim)
  | fn b => cases n <;> (unfold Pd at h; exact h.elim)
  | obj b c => cases n <;> (unfold Pd at h; exact h.elim)
  | exn b c => cases n <;> (unfold Pd at h; exact h.elim)
  | dct b c d => cases n <;> (unfold Pd at h; exact h.elim)
theorem eqv_pd : ∀ n, EqvOk n := by
  intro n
  induction n with
  | zero =>
    intro m a b x y ha hb ea eb
    rcases pd_cases ha with ⟨i, rfl⟩ | rfl | ⟨i, rfl⟩ | ⟨m', l, e, _⟩ | ⟨m', l, e, _⟩
    case inr.inr.inr.inl => omega
    case inr.inr.inr.inr => omega
    all_goals first | (have ex := py_int ea) | (have ex := py_non ea) | (have ex := py_str ea)
    all_goals subst ex
    all_goals
      rcases pd_cases hb with ⟨j, rfl⟩ | rfl | ⟨j, rfl⟩ | ⟨m', l, e, rfl, _⟩ | ⟨m', l, e, rfl, _⟩
    all_goals first
      | (obtain ⟨ys, rfl, _⟩ := py_tup eb) | (obtain ⟨ys, rfl, _⟩ := py_lst eb) | (have ey := py_int eb; subst ey) | (have ey := py_non eb; subst ey) | (have ey := py_str eb; subst ey)
    all_goals simp [PyData.eqv]
  | succ n ih =>
    intro m a b x y ha hb ea eb
    rcases pd_cases ha with ⟨i, rfl⟩ | rfl | ⟨i, rfl⟩ | ⟨m', l, e, rfl, hl⟩ | ⟨m', l, e, rfl, hl⟩
    case inr.inr.inr.inl =>
      obtain rfl : m' = n := by omega
      obtain ⟨xs, rfl, hx⟩ := py_tup ea
      rcases pd_cases hb with ⟨j, rfl⟩ | rfl | ⟨j, rfl⟩ | ⟨m2, l2, e2, rfl, hl2⟩ | ⟨m2, l2, e2, rfl, hl2⟩
      case inr.inr.inr.inl =>
        obtain ⟨ys, rfl, hy⟩ := py_tup eb
        simp only [PyData.eqv, D.tup.injEq]
        exact eqvAll_pd ih m2 l l2 xs ys hl hl2 hx hy
      all_goals first
        | (obtain ⟨ys, rfl, _⟩ := py_lst eb) | (have ey := py_int eb; subst ey) | (have ey := py_non eb; subst ey) | (have ey := py_str eb; subst ey)
      all_goals simp [PyData.eqv]
    case inr.inr.inr.inr =>
      obtain rfl : m' = n := by omega
      obtain ⟨xs, rfl, hx⟩ := py_lst ea
      rcases pd_cases hb with ⟨j, rfl⟩ | rfl | ⟨j, rfl⟩ | ⟨m2, l2, e2, rfl, hl2⟩ | ⟨m2, l2, e2, rfl, hl2⟩
      case inr.inr.inr.inr =>
        obtain ⟨ys, rfl, hy⟩ := py_lst eb
        simp only [PyData.eqv, D.lst.injEq]
        exact eqvAll_pd ih m2 l l2 xs ys hl hl2 hx hy
      all_goals first
        | (obtain ⟨ys, rfl, _⟩ := py_tup eb) | (have ey := py_int eb; subst ey) | (have ey := py_non eb; subst ey) | (have ey := py_str eb; subst ey)
      all_goals simp [PyData.eqv]
    all_goals first | (have ex := py_int ea) | (have ex := py_non ea) | (have ex := py_str ea)
    all_goals subst ex
    all_goals
      rcases pd_cases hb with ⟨j, rfl⟩ | rfl | ⟨j, rfl⟩ | ⟨m', l, e, rfl, _⟩ | ⟨m', l, e, rfl, _⟩
    all_goals first
      | (obtain ⟨ys, rfl, _⟩ := py_tup eb) | (obtain ⟨ys, rfl, _⟩ := py_lst eb) | (have ey := py_int eb; subst ey) | (have ey := py_non eb; subst ey) | (have ey := py_str eb; subst ey)
    all_goals simp [PyData.eqv]
section
variable {n m : Nat} {a b : D} {P : Prop} [Decidable P]
theorem eqD_pd (ha : Pd n a) (hb : Pd m b) (hn : n ≤ 60) (hm : m ≤ 60) (h : a = b ↔ P) : eqD a b = some (decide P) := by
  obtain ⟨x, e1, e2, e3⟩ := ha.py
  obtain ⟨y, f1, f2, f3⟩ := hb.py
  have sx : SeqAt.shaped x = true := by unfold SeqAt.shaped; rw [Bool.and_eq_true]; exact ⟨e2, decide_eq_true (by omega)⟩
  have sy : SeqAt.shaped y = true := by unfold SeqAt.shaped; rw [Bool.and_eq_true]; exact ⟨f2, decide_eq_true (by omega)⟩
  have key := eqv_pd n m a b x y ha hb e1 f1
  have kd : PyData.eqv x y = decide P := by
    rw [Bool.eq_iff_iff, key, decide_eq_true_iff, h]
  unfold eqD
  split
  · unfold D.py at e1 f1; cases e1; cases f1; rw [← kd]; simp only [PyData.eqv] <;> first | rfl | (rw [Bool.eq_iff_iff]; simp)
  · unfold D.py at e1 f1; cases e1; cases f1; rw [← kd]; simp only [PyData.eqv] <;> first | rfl | (rw [Bool.eq_iff_iff]; simp)
  · unfold D.py at e1 f1; cases e1; cases f1; rw [← kd]; simp only [PyData.eqv] <;> first | rfl | (rw [Bool.eq_iff_iff]; simp)
  · unfold D.py at e1 f1; cases e1; cases f1; rw [← kd]; simp only [PyData.eqv] <;> first | rfl | (rw [Bool.eq_iff_iff]; simp)
  · rw [e1, f1]
    show (if _ then _ else _) = _
    rw [if_pos ⟨sx, sy⟩, kd]
theorem gEq_pd (ha : Pd n a) (hb : Pd m b) (hn : n ≤ 60) (hm : m ≤ 60) (h : a = b ↔ P) : gEq a b = some (.bl (decide P)) := by
  unfold gEq
  rw [eqD_pd ha hb hn hm h]
  rfl
theorem gNe_pd (ha : Pd n a) (hb : Pd m b) (hn : n ≤ 60) (hm : m ≤ 60) (h : a = b ↔ P) : gNe a b = some (.bl (!decide P)) := by
  unfold gNe
  rw [eqD_pd ha hb hn hm h]
  rfl
theorem any_pd {x : PyData} (ha : Pd n a) (ea : a.py = some x) : ∀ (l : List D) (ys : List PyData), (∀ d ∈ l, Pd m d) → pyAll l = some ys → ((ys.any fun z => PyData.eqv z x) = true ↔ a ∈ l)
  | [], ys, _, e => by unfold pyAll at e; cases e; simp
  | d :: l, ys, h, e => by
    unfold pyAll at e
    cases h1 : d.py with
    | none => rw [h1] at e; cases e
    | some z =>
      cases h2 : pyAll l with
      | none => rw [h1, h2] at e; cases e
      | some zs =>
        rw [h1, h2] at e
        cases e
        have i1 := eqv_pd m n d a z x (h d List.mem_cons_self) ha h1 ea
        have i2 := any_pd ha ea l zs (fun w hw => h w (List.mem_cons_of_mem _ hw)) h2
        rw [List.any_cons, Bool.or_eq_true, List.mem_cons, i1, i2]
        exact ⟨fun w => w.imp Eq.symm id, fun w => w.imp Eq.symm id⟩
theorem inD_pd {l : List D} {c : D} (hc : c = .lst l ∨ c = .tup l) (ha : Pd n a) (hb : ∀ d ∈ l, Pd m d) (hn : n ≤ 60) (hm : m ≤ 60) (h : a ∈ l ↔ P) : inD a c = some (decide P) := by
  obtain ⟨x, e1, e2, e3⟩ := ha.py
  obtain ⟨ys, f1, f2, f3⟩ := py_all (Pd.py m) l hb
  have sx : SeqAt.shaped x = true := by unfold SeqAt.shaped; rw [Bool.and_eq_true]; exact ⟨e2, decide_eq_true (by omega)⟩
  have sy : SeqAt.shaped (.list ys) = true := by
    unfold SeqAt.shaped
    rw [Bool.and_eq_true]
    exact ⟨by unfold PyData.canLay0; exact f2, decide_eq_true (by simp only [PyData.depth]; omega)⟩
  have kd : (ys.any fun z => PyData.eqv z x) = decide P := by
    rw [Bool.eq_iff_iff, any_pd ha e1 l ys hb f1, decide_eq_true_iff, h]
  have key : inD a c = match a.py, pyAll l with
      | some x, some ys => if SeqAt.shaped x = true ∧ SeqAt.shaped (.list ys) = true then some (ys.any fun z => PyData.eqv z x) else none
      | _, _ => none := by
    rcases hc with rfl | rfl <;> cases a <;> rfl
  rw [key, e1, f1]
  show (if _ then _ else _) = _
  rw [if_pos ⟨sx, sy⟩, kd]
theorem gNotIn_pd {l : List D} {c : D} (hc : c = .lst l ∨ c = .tup l) (ha : Pd n a) (hb : ∀ d ∈ l, Pd m d) (hn : n ≤ 60) (hm : m ≤ 60) (h : a ∈ l ↔ P) : gNotIn a c = some (.bl (!decide P)) := by
  unfold gNotIn
  rw [inD_pd hc ha hb hn hm h]
  rfl
end
theorem asBls_map {α : Type} (f : α → Bool) : ∀ l : List α, asBls (l.map fun a => .bl (f a)) = some (l.map f)
  | [] => rfl
  | a :: l => by
    rw [List.map_cons]
    unfold asBls
    rw [asBls_map f l]
    rfl
theorem gAll_map {α : Type} (f : α → Bool) (l : List α) : gAll [.lst (l.map fun a => .bl (f a))] = some (.bl (l.all f)) := by
  show (asBls _).map _ = _
  rw [asBls_map]
  simp [List.all_map]
theorem gAny_map {α : Type} (f : α → Bool) (l : List α) : gAny [.lst (l.map fun a => .bl (f a))] = some (.bl (l.any f)) := by
  show (asBls _).map _ = _
  rw [asBls_map]
  simp [List.any_map]
end Q
namespace Q
open DL L2 PySem PySem.Spec PyProof.Rows
def pl (p : List Int) : D := .tup (p.map .int)
def Sq (d : D) (l : List D) : Prop := d = .tup l ∨ d = .lst l
theorem Sq.tup (l : List D) : Sq (.tup l) l := .inl rfl
theorem Sq.lst (l : List D) : Sq (.lst l) l := .inr rfl
section
variable {d : D} {l : List D} (h : Sq d l)
include h
theorem Sq.iter : gIter d = some l := by rcases h with rfl | rfl <;> rfl
theorem Sq.len : gLen [d] = some (.int l.length) := by rcases h with rfl | rfl <;> rfl
theorem Sq.gtup : gTuple [d] = some (.tup l) := by rcases h with rfl | rfl <;> rfl
theorem Sq.glst : gList [d] = some (.lst l) := by rcases h with rfl | rfl <;> rfl
theorem Sq.sl (lo hi : Option Int) : ∃ z, gSl d lo hi = some z ∧ Sq z (DL.cutD l lo hi) := by rcases h with rfl | rfl <;> exact ⟨_, rfl, by first | exact .inl rfl | exact .inr rfl⟩
theorem Sq.ix (i : Int) : gIx d (.int i) = L2.atI l i := by rcases h with rfl | rfl <;> rfl
end
theorem cut_to (l : List D) (n : Nat) : DL.cutD l none (some (n : Int)) = l.take n := by
  have h0 : ¬ ((n : Int) < 0) := by omega
  unfold DL.cutD HT.sIx
  simp only [h0, if_false, Int.toNat_natCast, List.drop_zero, Nat.sub_zero]
  by_cases h : n ≤ l.length
  · simp [Nat.min_eq_left h]
  · simp [Nat.min_eq_right (show l.length ≤ n by omega), List.take_of_length_le (show l.length ≤ n by omega)]
theorem cut_from (l : List D) (n : Nat) : DL.cutD l (some (n : Int)) none = l.drop n := by
  have h0 : ¬ ((n : Int) < 0) := by omega
  unfold DL.cutD HT.sIx
  simp only [h0, if_false, Int.toNat_natCast]
  by_cases h : n ≤ l.length
  · simp only [Nat.min_eq_left h]
    exact List.take_of_length_le (by rw [List.length_drop]; omega)
  · simp [Nat.min_eq_right (show l.length ≤ n by omega), List.drop_of_length_le (show l.length ≤ n by omega)]
theorem pd_ints (n : Nat) (xs : List Int) : Pd (n + 1) (pl xs) := by
  unfold pl Pd
  intro d hd
  obtain ⟨a, _, rfl⟩ := List.mem_map.mp hd
  cases n <;> (unfold Pd; trivial)
theorem map_int_inj {a b : List Int} : a.map D.int = b.map D.int ↔ a = b := by
  constructor
  · intro h
    exact (List.map_inj_right (fun x y z => by simpa using z)).mp h
  · intro h; rw [h]
theorem pl_inj {a b : List Int} : pl a = pl b ↔ a = b := by
  unfold pl
  rw [D.tup.injEq, map_int_inj]
abbrev BN : Xn := ⟨"BadNumber", []⟩
abbrev NPl : Xn := ⟨"NotPlanes", []⟩
theorem v_letters (n : Int) (ρ : En) : (Fcheck_letters [.int n]).R ρ = if 1 ≤ n ∧ n ≤ 4 then .ok .non ρ else .ex BN ρ := by
  by_cases h1 : 1 ≤ n
  · by_cases h2 : n ≤ 4
    · simp -implicitDefEqProofs [Fcheck_letters, runM, mcheck_letters, pad, mChain, h1, h2]
    · simp -implicitDefEqProofs [Fcheck_letters, runM, mcheck_letters, pad, mChain, h1, h2]
  · simp -implicitDefEqProofs [Fcheck_letters, runM, mcheck_letters, pad, mChain, h1]
def gcdL (xs : List Int) (g : Nat) : Nat := xs.foldl (fun g a => Int.gcd g a) g
def isPl (n : Nat) (xs : List Int) : Bool := decide (xs.length = n + 1) && xs.all (fun a => decide (a.natAbs ≤ 1000)) && decide (gcdL xs 0 = 1) && (xs.take n).any (fun a => decide (a ≠ 0))
theorem abs_le (a : Int) (k : Nat) : ((if a < 0 then -a else a) ≤ (k : Int)) ↔ a.natAbs ≤ k := by rw [abs_cast]; omega
theorem v_isPlane {n : Nat} (h1 : 1 ≤ n) (h4 : n ≤ 4) {xs : List Int} {d : D} (hd : Sq d (xs.map .int)) (hx : ∀ a ∈ xs, a.natAbs < 2 ^ 8000) (hl : xs.length ≤ 1000) (ρ : En) : (Fis_plane [.int n, d]).R ρ = .ok (.bl (isPl n xs)) ρ := by
  have sz : sizeLine = 16777216 := by decide
  have hc := fun ρ => v_letters (n : Int) ρ
  have hc1 : (1 : Int) ≤ n := by omega
  have hc2 : (n : Int) ≤ 4 := by omega
  simp only [hc1, hc2, and_self, if_true] at hc
  have e1 : mLc [2] (mIter (mVar 1)) (mgName 2) mYes mis_plane_e1 [some (.int n), some d, none, none] = .ok (.lst (xs.map fun a => .bl (decide (a.natAbs ≤ 1000)))) [some (.int n), some d, none, none] := by
    refine mLc_map (as := xs) (enc := .int) (st := fun a => [some (.int n), some d, some (.int a), none]) (f := fun a => .bl (decide (a.natAbs ≤ 1000))) ?_ (by omega) (fun _ => rfl) (fun a ha => ?_) (fun a ha => ?_)
    · simp [hd.iter]
    · rfl
    · have := abs_le a 1000
      simp -implicitDefEqProofs [mis_plane_e1]
      exact this
  have e2 : ∀ o, ∃ o', loopL (mgName 2) mis_plane_b4 (xs.map .int) [some (.int n), some d, o, some (.int ((0 : Nat) : Int))] = .nx [some (.int n), some d, o', some (.int (gcdL xs 0 : Nat))] := by
    have gen : ∀ (ys : List Int) (g : Nat) (o : Option D), (∀ a ∈ ys, a.natAbs < 2 ^ 8000) → ∃ o', loopL (mgName 2) mis_plane_b4 (ys.map .int) [some (.int n), some d, o, some (.int (g : Int))] = .nx [some (.int n), some d, o', some (.int (gcdL ys g : Nat))] := by
      intro ys
      induction ys with
      | nil => exact fun g o _ => ⟨o, rfl⟩
      | cons a ys ih =>
        intro g o hy
        obtain ⟨o', e⟩ := ih (Int.gcd g a) (some (.int a)) fun z hz => hy z (List.mem_cons_of_mem _ hz)
        refine ⟨o', ?_⟩
        have hv := fun ρ => qDivisor_v (g : Int) a (hy a List.mem_cons_self) ρ
        rw [← e_div] at hv
        rw [List.map_cons]
        simp -implicitDefEqProofs [loopL, mis_plane_b4, mCall_R, hv]
        exact e
    exact fun o => gen xs 0 o hx
  obtain ⟨o', e2⟩ := e2 none
  obtain ⟨z, e3, hz⟩ := hd.sl none (some (n : Int))
  rw [cut_to, ← List.map_take] at hz
  have hT : (xs.take n).length ≤ 1000 := by rw [List.length_take]; omega
  unfold isPl
  generalize xs.take n = T at hz hT ⊢
  have e4 : mLc [2] (mIter (mSl (.ex (mVar 1)) mNoP (mPart (mVar 0)))) (mgName 2) mYes mis_plane_e6 [some (.int n), some d, o', some (.int (gcdL xs 0 : Nat))] = .ok (.lst (T.map fun a => .bl (!decide (a = 0)))) [some (.int n), some d, o', some (.int (gcdL xs 0 : Nat))] := by
    refine mLc_map (as := T) (enc := .int) (st := fun a => [some (.int n), some d, some (.int a), some (.int (gcdL xs 0 : Nat))]) (f := fun a => .bl (!decide (a = 0))) ?_ (by omega) (fun _ => rfl) (fun a ha => ?_) (fun a ha => ?_)
    · simp [mSl, evB, rdB, mNoP, mPart, asI, e3, hz.iter]
    · rfl
    · simp -implicitDefEqProofs [mis_plane_e6]
  have q1 : decide ((xs.length : Int) = (n : Int) + 1) = decide (xs.length = n + 1) := by rw [decide_eq_decide]; omega
  have q2 : decide (((gcdL xs 0 : Nat) : Int) = 1) = decide (gcdL xs 0 = 1) := by rw [decide_eq_decide]; omega
  have e2' : loopL (mgName 2) mis_plane_b4 (xs.map .int) [some (.int n), some d, none, some (.int 0)] = _ := e2
  cases b1 : decide (xs.length = n + 1) with
  | false => simp -implicitDefEqProofs [Fis_plane, runM, mis_plane, mis_plane_s0, mis_plane_s2, pad, mCall_R, hc, hd.len, q1, b1]
  | true =>
    cases b2 : xs.all (fun a => decide (a.natAbs ≤ 1000)) with
    | false =>
      have g1 := gAll_map (fun a : Int => decide (a.natAbs ≤ 1000)) xs
      rw [b2] at g1
      simp -implicitDefEqProofs [Fis_plane, runM, mis_plane, mis_plane_s0, mis_plane_s2, pad, mCall_R, hc, hd.len, q1, b1, e1, g1]
    | true =>
      have g1 := gAll_map (fun a : Int => decide (a.natAbs ≤ 1000)) xs
      rw [b2] at g1
      have g2 := gAny_map (fun a : Int => !decide (a = 0)) T
      cases b3 : decide (gcdL xs 0 = 1) with
      | false => simp -implicitDefEqProofs [Fis_plane, runM, mis_plane, mis_plane_s0, mis_plane_s2, mis_plane_s3, mis_plane_s5, mis_plane_s7, pad, mCall_R, hc, hd.len, q1, b1, e1, g1, hd.iter, e2', q2, b3]
      | true =>
        simp -implicitDefEqProofs [Fis_plane, runM, mis_plane, mis_plane_s0, mis_plane_s2, mis_plane_s3, mis_plane_s5, mis_plane_s7, pad, mCall_R, hc, hd.len, q1, b1, e1, g1, hd.iter, e2', q2, b3, e4, g2]
end Q
namespace Q
open DL L2 PySem PySem.Spec PyProof.Rows
def negL (p : List Int) : List Int := p.map fun a => -a
theorem szv : sizeLine = 16777216 := by decide
theorem v_other {xs : List Int} {d : D} (hd : Sq d (xs.map .int)) (hl : xs.length ≤ 1000) (ρ : En) : (Fother_way [d]).R ρ = .ok (pl (negL xs)) ρ := by
  have sz := szv
  have e1 : mLc [1] (mIter (mVar 0)) (mgName 1) mYes (m1 gNeg (mVar 1)) [some d, none] = .ok (.lst (xs.map fun a => .int (-a))) [some d, none] := by
    refine mLc_map (as := xs) (enc := .int) (st := fun a => [some d, some (.int a)]) (f := fun a => .int (-a)) ?_ (by omega) (fun _ => rfl) (fun a ha => rfl) (fun a ha => ?_)
    · simp [hd.iter]
    · simp
  simp -implicitDefEqProofs [Fother_way, runM, mother_way, pad, e1, gTuple, pl, negL]
def sepB (ps : List (List Int)) (at_ : Nat) (row : List Int) : Bool := (ps.take at_).any fun o => decide (row = o) || decide (negL row = o)
def okPls (n : Nat) (ps : List (List Int)) : Bool := decide (ps.length ≤ 12) && ps.all (isPl n) && ps.zipIdx.all fun x => !sepB ps x.2 x.1
theorem encL (ps : List (List Int)) : (enumL (ps.map pl)) = ps.zipIdx.map fun x => .tup [.int (x.2 : Nat), pl x.1] := by
  unfold enumL
  rw [List.zipIdx_map, List.map_map]
  rfl
theorem v_arePls {n : Nat} (h1 : 1 ≤ n) (h4 : n ≤ 4) {ps : List (List Int)} {d : D} (hd : Sq d (ps.map pl)) (hx : ∀ p ∈ ps, (∀ a ∈ p, a.natAbs < 2 ^ 8000) ∧ p.length ≤ 1000) (hl : ps.length ≤ 1000) (ρ : En) : (Fare_planes [.int n, d]).R ρ = .ok (.bl (okPls n ps)) ρ := by
  have sz := szv
  have e1 : mLc [2] (mIter (mVar 1)) (mgName 2) mYes mare_planes_e0 [some (.int n), some d, none, none, none] = .ok (.lst (ps.map fun p => .bl (isPl n p))) [some (.int n), some d, none, none, none] := by
    refine mLc_map (as := ps) (enc := pl) (st := fun p => [some (.int n), some d, some (pl p), none, none]) (f := fun p => .bl (isPl n p)) ?_ (by omega) (fun _ => rfl) (fun a ha => rfl) (fun a ha => ?_)
    · simp [hd.iter]
    · simp -implicitDefEqProofs [mare_planes_e0, mCall_R, v_isPlane h1 h4 (Sq.tup _) (hx a ha).1 (hx a ha).2, pl]
  have g1 := gAll_map (fun p : List Int => isPl n p) ps
  -- the loop
  have body : ∀ (x : List Int × Nat) (o2 o3 o4 : Option D), x ∈ ps.zipIdx → ∃ r, mgTup 2 (mgCons (mgName 3) (mgCons (mgName 2) mgNil)) (.tup [.int (x.2 : Nat), pl x.1]) [some (.int n), some d, o2, o3, o4] = .ok () r ∧
      r = [some (.int n), some d, some (pl x.1), some (.int (x.2 : Nat)), o4] ∧ mare_planes_b2 r = if sepB ps x.2 x.1 = true then .rt (.bl false) r else .nx r := by
    intro x o2 o3 o4 hxm
    refine ⟨_, ?_, rfl, ?_⟩
    · simp
    · have hm : x.1 ∈ ps := by
        have := List.mem_zipIdx hxm
        obtain ⟨_, _, h⟩ := this
        rw [h]
        exact List.getElem_mem _
      obtain ⟨z, e3, hz⟩ := hd.sl none (some (x.2 : Int))
      rw [cut_to, ← List.map_take] at hz
      have hT : (ps.take x.2).length ≤ 1000 := by rw [List.length_take]; omega
      unfold sepB
      generalize ps.take x.2 = T at hz hT ⊢
      have e4 : mLc [4] (mIter (mSl (.ex (mVar 1)) mNoP (mPart (mVar 3)))) (mgName 4) mYes mare_planes_e1 [some (.int n), some d, some (pl x.1), some (.int (x.2 : Nat)), o4] = .ok (.lst (T.map fun o => .bl (decide (x.1 = o) || decide (negL x.1 = o)))) [some (.int n), some d, some (pl x.1), some (.int (x.2 : Nat)), o4] := by
        refine mLc_map (as := T) (enc := pl) (st := fun o => [some (.int n), some d, some (pl x.1), some (.int (x.2 : Nat)), some (pl o)]) (f := fun o => .bl (decide (x.1 = o) || decide (negL x.1 = o))) ?_ (by omega) (fun _ => rfl) (fun a ha => rfl) (fun o ho => ?_)
        · simp [mSl, evB, rdB, mNoP, mPart, asI, e3, hz.iter]
        · have q1 := gEq_pd (n := 1) (m := 1) (a := pl x.1) (b := pl o) (P := x.1 = o) (pd_ints 0 _) (pd_ints 0 _) (by omega) (by omega) pl_inj
          have q2 := gEq_pd (n := 1) (m := 1) (a := pl (negL x.1)) (b := pl o) (P := negL x.1 = o) (pd_ints 0 _) (pd_ints 0 _) (by omega) (by omega) pl_inj
          have q3 : gTuple [pl x.1] = some (pl x.1) := rfl
          have q4 := fun ρ => v_other (Sq.tup (x.1.map .int)) (hx _ hm).2 ρ
          cases hb : decide (x.1 = o) with
          | true => rw [hb] at q1; simp -implicitDefEqProofs [mare_planes_e1, mOr, q3, q1]
          | false =>
            rw [hb] at q1
            have q4' : ∀ ρ, (Fother_way [pl x.1]).R ρ = .ok (pl (negL x.1)) ρ := q4
            simp -implicitDefEqProofs [mare_planes_e1, mOr, mCall_R, q3, q1, q4', q2]
      have g2 := gAny_map (fun o : List Int => decide (x.1 = o) || decide (negL x.1 = o)) T
      cases hb : T.any (fun o => decide (x.1 = o) || decide (negL x.1 = o)) with
      | true => rw [hb] at g2; simp -implicitDefEqProofs [mare_planes_b2, e4, g2]
      | false => rw [hb] at g2; simp -implicitDefEqProofs [mare_planes_b2, e4, g2]
  have loop : ∀ (xs : List (List Int × Nat)) (o2 o3 o4 : Option D), (∀ x ∈ xs, x ∈ ps.zipIdx) →
      (xs.all (fun x => !sepB ps x.2 x.1) = true → ∃ o2' o3' o4', loopL (mgTup 2 (mgCons (mgName 3) (mgCons (mgName 2) mgNil))) mare_planes_b2 (xs.map fun x => .tup [.int (x.2 : Nat), pl x.1]) [some (.int n), some d, o2, o3, o4] = .nx [some (.int n), some d, o2', o3', o4']) ∧
      (xs.all (fun x => !sepB ps x.2 x.1) = false → ∃ r, loopL (mgTup 2 (mgCons (mgName 3) (mgCons (mgName 2) mgNil))) mare_planes_b2 (xs.map fun x => .tup [.int (x.2 : Nat), pl x.1]) [some (.int n), some d, o2, o3, o4] = .rt (.bl false) r) := by
    intro xs
    induction xs with
    | nil => exact fun o2 o3 o4 _ => ⟨fun _ => ⟨o2, o3, o4, rfl⟩, fun h => by cases h⟩
    | cons x xs ih =>
      intro o2 o3 o4 hm
      obtain ⟨r, b1, rfl, b3⟩ := body x o2 o3 o4 (hm x List.mem_cons_self)
      obtain ⟨i1, i2⟩ := ih (some (pl x.1)) (some (.int (x.2 : Nat))) o4 fun z hz => hm z (List.mem_cons_of_mem _ hz)
      rw [List.map_cons, List.all_cons]
      cases hs : sepB ps x.2 x.1 with
      | true =>
        rw [hs] at b3
        refine ⟨fun h => by simp at h, fun _ => ⟨_, by simp only [loopL, b1, b3, if_true]; rfl⟩⟩
      | false =>
        rw [hs] at b3
        refine ⟨fun h => ?_, fun h => ?_⟩
        · obtain ⟨a, b, c, e⟩ := i1 (by simpa using h)
          exact ⟨a, b, c, by simp only [loopL, b1, b3, Bool.false_eq_true, if_false]; exact e⟩
        · obtain ⟨a, e⟩ := i2 (by simpa using h)
          exact ⟨a, by simp only [loopL, b1, b3, Bool.false_eq_true, if_false]; exact e⟩
  obtain ⟨l1, l2⟩ := loop ps.zipIdx none none none fun _ h => h
  have q0 : decide ((12 : Int) < (ps.length : Int)) = !decide (ps.length ≤ 12) := by
    rw [Bool.eq_iff_iff]; simp; omega
  have ge : gEnumS [d] = some (ps.zipIdx.map fun x => .tup [.int (x.2 : Nat), pl x.1]) := by
    show (gIter d).map enumL = _
    rw [hd.iter, Option.map_some, encL]
  unfold okPls
  cases b1 : decide (ps.length ≤ 12) with
  | false => simp -implicitDefEqProofs [Fare_planes, runM, mare_planes, pad, hd.len, q0, b1]
  | true =>
    cases b2 : ps.all (isPl n) with
    | false =>
      rw [b2] at g1
      simp -implicitDefEqProofs [Fare_planes, runM, mare_planes, pad, hd.len, q0, b1, e1, g1]
    | true =>
      rw [b2] at g1
      cases b3 : ps.zipIdx.all (fun x => !sepB ps x.2 x.1) with
      | true =>
        obtain ⟨o2, o3, o4, e⟩ := l1 b3
        simp -implicitDefEqProofs [Fare_planes, runM, mare_planes, pad, hd.len, q0, b1, e1, g1, ge, e]
      | false =>
        obtain ⟨r, e⟩ := l2 b3
        simp -implicitDefEqProofs [Fare_planes, runM, mare_planes, pad, hd.len, q0, b1, e1, g1, ge, e]
end Q
namespace Q
open DL L2 PySem PySem.Spec PyProof.Rows
abbrev S := SX.S
abbrev sD (l : List Nat) : D := .str (S l)
end Q
namespace Q
open DL L2 PySem PySem.Spec PyProof.Rows
def PO (n : Nat) (ps : List (List Int)) : D := .obj "Planes" [("n", .int n), ("kept", .tup (ps.map pl))]
theorem fld_n {n : Nat} {ps : List (List Int)} : gFld (isC ["Planes"]) "n" (PO n ps) = some (.int n) := rfl
theorem fld_kept {n : Nat} {ps : List (List Int)} : gFld (isC ["Planes"]) "kept" (PO n ps) = some (.tup (ps.map pl)) := rfl
def Sm (ps : List (List Int)) : Prop := ps.length ≤ 1000 ∧ ∀ p ∈ ps, (∀ a ∈ p, a.natAbs < 2 ^ 8000) ∧ p.length ≤ 1000
theorem v_init {n : Int} {ps : List (List Int)} {d : D} (hd : Sq d (ps.map pl)) (h : Sm ps) : FPlanes_init [.obj "Planes" [], .int n, d] = if 1 ≤ n ∧ n ≤ 4 then (if okPls n.toNat ps = true then .rt .non (PO n.toNat ps) else .ex NPl (.obj "Planes" [])) else .ex BN (.obj "Planes" []) := by
  have hc := fun ρ => v_letters n ρ
  by_cases hn : 1 ≤ n ∧ n ≤ 4
  · simp only [hn, and_self, if_true] at hc
    rw [if_pos hn]
    have en : n = ((n.toNat : Nat) : Int) := by omega
    have ha := fun ρ => v_arePls (n := n.toNat) (by omega) (by omega) hd h.2 h.1 ρ
    rw [← en] at ha
    cases ho : okPls n.toNat ps with
    | true =>
      rw [ho] at ha
      have hk : ¬ (("n" : Str) = ("kept" : Str)) := by decide
      simp -implicitDefEqProofs [FPlanes_init, runM, mPlanes_init, pad, mCall_R, hc, ha, msFld, getO_0, isC, putD, hd.gtup, io0, PO, ← en, hk]
    | false =>
      rw [ho] at ha
      simp -implicitDefEqProofs [FPlanes_init, runM, mPlanes_init, pad, mCall_R, hc, ha, io0]
  · simp only [hn, if_false] at hc
    rw [if_neg hn]
    simp -implicitDefEqProofs [FPlanes_init, runM, mPlanes_init, pad, mCall_R, hc, io0]
theorem v_make {n : Int} {ps : List (List Int)} {d : D} (hd : Sq d (ps.map pl)) (h : Sm ps) {args : MA} {ρ ρ1 : En} (ha : args ρ = .ok [.int n, d] ρ1) : mMake "Planes" FPlanes_init args ρ = if 1 ≤ n ∧ n ≤ 4 then (if okPls n.toNat ps = true then .ok (PO n.toNat ps) ρ1 else .ex NPl ρ1) else .ex BN ρ1 := by
  unfold mMake
  rw [ha, bind_ok, v_init hd h]
  by_cases hn : 1 ≤ n ∧ n ≤ 4
  · simp only [hn, and_self, if_true]
    cases ho : okPls n.toNat ps <;> rfl
  · simp only [hn, if_false]
theorem v_plen (n : Nat) (ps : List (List Int)) : FPlanes_len [PO n ps] = .rt (.int ps.length) (PO n ps) := by
  simp -implicitDefEqProofs [FPlanes_len, runM, mPlanes_len, pad, fld_kept, gLen, io0]
def frs (q : List Rat) : D := .tup (q.map fr)
theorem v_numbersOf {xs : List Int} {d : D} (hd : Sq d (xs.map .int)) (hl : xs.length ≤ 1000) (ρ : En) : (Fnumbers_of [d]).R ρ = .ok (frs (xs.map fun a : Int => (a : Rat))) ρ := by
  have sz := szv
  have e1 : mLc [1] (mIter (mVar 0)) (mgName 1) mYes mnumbers_of_e0 [some d, none] = .ok (.lst (xs.map fun a : Int => fr (a : Rat))) [some d, none] := by
    refine mLc_map (as := xs) (enc := .int) (st := fun a => [some d, some (.int a)]) (f := fun a : Int => fr (a : Rat)) ?_ (by omega) (fun _ => rfl) (fun a ha => rfl) (fun a ha => ?_)
    · simp [hd.iter]
    · simp -implicitDefEqProofs [mnumbers_of_e0, two_le, fr_int]
  simp -implicitDefEqProofs [Fnumbers_of, runM, mnumbers_of, pad, e1, gTuple, frs]
end Q
namespace Q
open DL L2 PySem PySem.Spec PyProof.Rows
theorem atI_nat' (l : List D) (n : Nat) (h : n < l.length) : L2.atI l (n : Int) = some l[n] := by
  unfold L2.atI L2.ixN
  simp [h]
theorem isPl_len {n : Nat} {p : List Int} (h : isPl n p = true) : p.length = n + 1 ∧ (∀ a ∈ p, a.natAbs ≤ 1000) := by
  unfold isPl at h
  simp only [Bool.and_eq_true, decide_eq_true_eq, List.all_eq_true] at h
  exact ⟨h.1.1.1, h.1.1.2⟩
def Pi (k n : Nat) (p : List Int) : Prop := p.length = n + 1 ∧ ∀ a ∈ p, a.natAbs < 2 ^ k
theorem Pi.of {n : Nat} {p : List Int} (h : isPl n p = true) : Pi 10 n p := by
  obtain ⟨h1, h2⟩ := isPl_len h
  exact ⟨h1, fun a ha => Nat.lt_of_le_of_lt (h2 a ha) (by decide)⟩
end Q
namespace Q
open DL L2 PySem PySem.Spec PyProof.Rows
theorem rangeL_enc (n : Nat) : rangeL 0 n = (List.range n).map fun i => D.int (i : Nat) := by
  unfold rangeL
  congr 1
  funext i
  simp
theorem okR_nat {n : Nat} (h : n ≤ 1000000) : okR (n : Int) = true := by
  unfold okR
  simp
  omega
theorem range1 {n : Nat} (h : n ≤ 1000000) : gRange1 [.int (n : Int)] = some ((List.range n).map fun i => D.int (i : Nat)) := by
  rw [gRange1_i, if_pos (okR_nat h), ← rangeL_enc]
  rfl
end Q
namespace Q
open DL L2 PySem PySem.Spec PyProof.Rows
abbrev dl (l : List Int) : D := .lst (l.map D.int)
theorem fm_rng (x : Int) {m : Int} (h : 0 < m) : 0 ≤ x.fmod m ∧ x.fmod m < m := by
  rw [Int.fmod_eq_emod_of_nonneg _ (by omega)]
  exact ⟨Int.emod_nonneg _ (by omega), Int.emod_lt_of_pos _ h⟩
theorem io_next (l : List Int) (r : En) : mCallIo F_law_next 0 mNil (some (dl l) :: r) = .ok (.int (drawI l)) (some (dl l.dropLast) :: r) := by
  rw [mCallIo_ap, getO_0]
  simp -implicitDefEqProofs [getO_0, e_next, qNext_v]
theorem io_next1 (x : Option D) (l : List Int) (r : En) : mCallIo F_law_next 1 mNil (x :: some (dl l) :: r) = .ok (.int (drawI l)) (x :: some (dl l.dropLast) :: r) := by
  rw [mCallIo_ap, getO_1]
  simp -implicitDefEqProofs [getO_1, e_next, qNext_v]
theorem io_0a {F : FN} {d' : D} {l l' : List Int} {r : En} {args : MA} {ds : List D} (ha : args (some (dl l) :: r) = .ok ds (some (dl l) :: r)) (e : F (dl l :: ds) = .rt d' (dl l')) : mCallIo F 0 args (some (dl l) :: r) = .ok d' (some (dl l') :: r) := by
  rw [mCallIo_ap, getO_0, ha]
  simp -implicitDefEqProofs [getO_0, e]
theorem io_1a {F : FN} {d' : D} {l l' : List Int} {x : Option D} {r : En} {args : MA} {ds : List D} (ha : args (x :: some (dl l) :: r) = .ok ds (x :: some (dl l) :: r)) (e : F (dl l :: ds) = .rt d' (dl l')) : mCallIo F 1 args (x :: some (dl l) :: r) = .ok d' (x :: some (dl l') :: r) := by
  rw [mCallIo_ap, getO_1, ha]
  simp -implicitDefEqProofs [getO_1, e]
theorem gMod_p (x : Int) {m : Int} (h : 0 < m) : gMod (.int x) (.int m) = some (.int (x.fmod m)) := gMod_nz (by omega)
section
variable {β : Type} {i : Nat} {me : ME} {P : β → Prop} {enc : β → D} {E : List Int → Option D → En}
theorem lc_io (hs : ∀ l o o', (E l o).set i o' = E l o') (hl : ∀ l o, i < (E l o).length)
    (hm : ∀ l d, ∃ c l', P c ∧ me (E l (some d)) = .ok (enc c) (E l' (some d))) : ∀ (ds : List D) (l : List Int) (o : Option D),
    ∃ (cs : List β) (l' : List Int) (o' : Option D), lcLoop [i] (mgName i) mYes me ds (E l o) = .ok (cs.map enc) (E l' o') ∧ cs.length = ds.length ∧ ∀ c ∈ cs, P c
  | [], l, o => ⟨[], l, o, rfl, rfl, fun c h => nomatch h⟩
  | d :: r, l, o => by
    obtain ⟨c, l1, hc, e1⟩ := hm l d
    obtain ⟨cs, l2, o2, e2, n2, p2⟩ := lc_io hs hl hm r l1 (some d)
    have w : wipeE (E l o) [i] = E l none := hs l o none
    have g1 : mgName i d (E l none) = .ok () (E l (some d)) := by
      rw [mgName_ap, if_pos (hl l none), hs]
    have hY : mYes (E l (some d)) = .ok true (E l (some d)) := rfl
    refine ⟨c :: cs, l2, o2, ?_, by rw [List.length_cons, List.length_cons, n2], fun x hx => ?_⟩
    · simp only [lcLoop, w, g1, hY, e1, e2, List.map_cons]
    · rcases List.mem_cons.mp hx with z | z
      · rw [z]; exact hc
      · exact p2 x z
theorem mLc_io {mi : En → R (List D)} {ρ : En} {l : List Int} {o : Option D} {ds : List D} (hi : mi ρ = .ok ds (E l o)) (hz : ds.length ≤ sizeLine) (hs : ∀ l o o', (E l o).set i o' = E l o') (hl : ∀ l o, i < (E l o).length) (hg : (E l o)[i]? = some o)
    (hm : ∀ l d, ∃ c l', P c ∧ me (E l (some d)) = .ok (enc c) (E l' (some d))) :
    ∃ (cs : List β) (l' : List Int), mLc [i] mi (mgName i) mYes me ρ = .ok (.lst (cs.map enc)) (E l' o) ∧ cs.length = ds.length ∧ ∀ c ∈ cs, P c := by
  obtain ⟨cs, l', o', e, n, p⟩ := lc_io hs hl hm ds l o
  refine ⟨cs, l', ?_, n, p⟩
  have r : restE (E l o) [i] (E l' o') = E l' o := by
    show (E l' o').set i (match (E l o)[i]? with | some o => o | none => none) = _
    rw [hg]
    exact hs _ _ _
  rw [mLc_ap, hi, bind_ok, e]
  show (if (cs.map enc).length ≤ sizeLine then R.ok (D.lst (cs.map enc)) (restE (E l o) [i] (E l' o')) else R.bad) = _
  rw [if_pos (by rw [List.length_map, n]; exact hz), r]
end
theorem gcdL_cons (a : Int) (xs : List Int) (g : Nat) : gcdL (a :: xs) g = gcdL xs (Int.gcd g a) := rfl
theorem gcdL_dvd : ∀ (xs : List Int) (g : Nat), ((gcdL xs g : Nat) : Int) ∣ (g : Int) ∧ ∀ a ∈ xs, ((gcdL xs g : Nat) : Int) ∣ a
  | [], g => ⟨Int.dvd_refl _, fun a h => nomatch h⟩
  | x :: xs, g => by
    obtain ⟨h1, h2⟩ := gcdL_dvd xs (Int.gcd g x)
    rw [gcdL_cons]
    refine ⟨Int.dvd_trans h1 (Int.gcd_dvd_left _ _), fun a ha => ?_⟩
    rcases List.mem_cons.mp ha with rfl | ha
    · exact Int.dvd_trans h1 (Int.gcd_dvd_right _ _)
    · exact h2 a ha
theorem dvd_gcdL {d : Int} : ∀ (xs : List Int) (g : Nat), d ∣ (g : Int) → (∀ a ∈ xs, d ∣ a) → d ∣ ((gcdL xs g : Nat) : Int)
  | [], g, h, _ => h
  | x :: xs, g, h, hx => by
    rw [gcdL_cons]
    exact dvd_gcdL xs _ (Int.dvd_coe_gcd h (hx x List.mem_cons_self)) fun a ha => hx a (List.mem_cons_of_mem _ ha)
theorem gcdL_pos {xs : List Int} {a : Int} (ha : a ∈ xs) (h : a ≠ 0) : 0 < gcdL xs 0 := by
  have := (gcdL_dvd xs 0).2 a ha
  by_cases z : gcdL xs 0 = 0
  · rw [z] at this
    exact absurd (Int.zero_dvd.mp this) h
  · omega
def primL (xs : List Int) : List Int := xs.map fun a => a.fdiv (gcdL xs 0 : Nat)
theorem primL_mul {xs : List Int} {a : Int} (ha : a ∈ xs) : a.fdiv ((gcdL xs 0 : Nat) : Int) * ((gcdL xs 0 : Nat) : Int) = a :=
  Int.fdiv_mul_cancel ((gcdL_dvd xs 0).2 a ha)
theorem gcd_primL {xs : List Int} (h : 0 < gcdL xs 0) : gcdL (primL xs) 0 = 1 := by
  have h1 := gcdL_dvd (primL xs) 0
  have h2 : (((gcdL (primL xs) 0 : Nat) : Int) * ((gcdL xs 0 : Nat) : Int)) ∣ ((gcdL xs 0 : Nat) : Int) := by
    refine dvd_gcdL xs 0 (Int.dvd_zero _) fun a ha => ?_
    have h3 := h1.2 _ (List.mem_map.mpr ⟨a, ha, rfl⟩)
    have h4 := Int.mul_dvd_mul_right ((gcdL xs 0 : Nat) : Int) h3
    rw [primL_mul ha] at h4
    exact h4
  have h5 : gcdL (primL xs) 0 * gcdL xs 0 ∣ gcdL xs 0 := by exact_mod_cast h2
  have h6 := Nat.le_of_dvd h h5
  by_cases z : gcdL (primL xs) 0 = 0
  · rw [z, Nat.zero_mul] at h5
    have := Nat.eq_zero_of_zero_dvd h5
    omega
  · by_cases z2 : gcdL (primL xs) 0 = 1
    · exact z2
    · have : 2 * gcdL xs 0 ≤ gcdL (primL xs) 0 * gcdL xs 0 := Nat.mul_le_mul_right _ (by omega)
      omega
theorem primL_abs {xs : List Int} {b : Int} (hb : b ∈ primL xs) : ∃ a ∈ xs, b.natAbs ≤ a.natAbs := by
  obtain ⟨a, ha, rfl⟩ := List.mem_map.mp hb
  exact ⟨a, ha, Int.natAbs_fdiv_le_natAbs _ _⟩
theorem primL_ne {xs : List Int} {a : Int} (ha : a ∈ xs) (h : a ≠ 0) : a.fdiv ((gcdL xs 0 : Nat) : Int) ≠ 0 := by
  intro z
  have := primL_mul ha
  rw [z, Int.zero_mul] at this
  exact h this.symm
end Q
namespace Q
open DL L2 PySem PySem.Spec PyProof.Rows
section
variable {n : Nat} {pt : List Int}
abbrev Sp (n : Nat) (pt : List Int) (l row : List Int) (o4 o5 o6 o7 o8 : Option D) : En := [some (dl l), some (.int n), some (dl pt), some (dl row), o4, o5, o6, o7, o8]
abbrev rows (k : Int) (n : Nat) (row : List Int) : Prop := row.length = n ∧ ∀ a ∈ row, -k ≤ a ∧ a ≤ k
theorem lp1 (hn : n ≤ 4) (l : List Int) : ∃ (l' row : List Int), m_law_plane_s1 [some (dl l), some (.int n), some (dl pt), none, none, none, none, none, none] = .nx (Sp n pt l' row none none none none none) ∧ rows 3 n row := by
  have sz := szv
  obtain ⟨cs, l', e, hl, hp⟩ := mLc_io (i := 4) (me := m_law_plane_e0) (P := fun a : Int => -3 ≤ a ∧ a ≤ 3) (enc := D.int) (mi := mItN gRange1 (mCons (mVar 1) mNil)) (E := fun l o => [some (dl l), some (.int n), some (dl pt), none, o, none, none, none, none]) (ρ := [some (dl l), some (.int n), some (dl pt), none, none, none, none, none, none]) (l := l) (o := none) (ds := (List.range n).map fun i => D.int (i : Nat))
    (by simp -implicitDefEqProofs [range1 (n := n) (by omega), -gRange1_i]) (by rw [List.length_map, List.length_range]; omega) (fun _ _ _ => rfl) (fun l o => (by show 4 < 9; decide)) rfl (fun l d => by
      obtain ⟨r1, r2⟩ := fm_rng (drawI l) (m := 7) (by decide)
      refine ⟨(drawI l).fmod 7 - 3, l.dropLast, ⟨by omega, by omega⟩, ?_⟩
      simp -implicitDefEqProofs [m_law_plane_e0, io_next, gMod_p])
  rw [List.length_map, List.length_range] at hl
  refine ⟨l', cs, ?_, hl, hp⟩
  simp -implicitDefEqProofs [m_law_plane_s1, e]
theorem ix_dl {row : List Int} {j : Nat} (h : j < row.length) : gIx (dl row) (.int (j : Int)) = some (.int (row.getD j 0)) := by
  show L2.atI (row.map D.int) (j : Int) = _
  rw [atI_nat' _ j (by rw [List.length_map]; exact h), List.getElem_map]
  simp [List.getD, h]
theorem getD_mem {row : List Int} {j : Nat} (h : j < row.length) : row.getD j 0 ∈ row := by
  have : row.getD j 0 = row[j] := by simp [List.getD, h]
  rw [this]
  exact List.getElem_mem _
theorem lp3 (h1 : 1 ≤ n) (hn : n ≤ 4) (l row : List Int) (hr : rows 3 n row) : ∃ (l' row' : List Int) (o5 : Option D), m_law_plane_s3 (Sp n pt l row none none none none none) = .nx (Sp n pt l' row' none o5 none none none) ∧ rows 3 n row' := by
  have sz := szv
  by_cases c : (drawI l).fmod 3 = 0
  · obtain ⟨r1, r2⟩ := fm_rng (drawI l.dropLast) (m := (n : Int)) (by omega)
    have hg := gMod_p (drawI l.dropLast) (m := (n : Int)) (by omega)
    have e := mLc_map (vs := [4]) (g := mgName 4) (me := m_law_plane_e2) (mi := mItN gRange1 (mCons (mVar 1) mNil)) (as := List.range n) (enc := fun i => D.int (i : Nat))
      (ρ0 := Sp n pt l.dropLast.dropLast row none (some (.int ((drawI l.dropLast).fmod n))) none none none) (ρ := Sp n pt l.dropLast.dropLast row none (some (.int ((drawI l.dropLast).fmod n))) none none none)
      (st := fun i => Sp n pt l.dropLast.dropLast row (some (.int (i : Nat))) (some (.int ((drawI l.dropLast).fmod n))) none none none)
      (f := fun (i : Nat) => D.int (if (i : Int) = (drawI l.dropLast).fmod n then row.getD i 0 else 0))
      (by simp -implicitDefEqProofs [range1 (n := n) (by omega), -gRange1_i]) (by rw [List.length_range]; omega) (fun _ => rfl) (fun a _ => rfl) (fun a ha => by
        have ix := ix_dl (row := row) (j := a) (by rw [hr.1]; exact List.mem_range.mp ha)
        by_cases z : (a : Int) = (drawI l.dropLast).fmod n
        · have ix' : L2.atI (row.map D.int) (a : Int) = some (.int (row.getD a 0)) := ix
          generalize row.getD a 0 = x at *
          rw [← z]
          simp -implicitDefEqProofs [m_law_plane_e2, m2B, evB, rdB, getO_ap, ix']
        · simp -implicitDefEqProofs [m_law_plane_e2, z])
    have em : (List.range n).map (fun (i : Nat) => D.int (if (i : Int) = (drawI l.dropLast).fmod n then row.getD i 0 else 0)) = ((List.range n).map fun (i : Nat) => if (i : Int) = (drawI l.dropLast).fmod n then row.getD i 0 else 0).map D.int := by rw [List.map_map]; rfl
    rw [em] at e
    refine ⟨l.dropLast.dropLast, (List.range n).map fun (i : Nat) => if (i : Int) = (drawI l.dropLast).fmod n then row.getD i 0 else 0, some (.int ((drawI l.dropLast).fmod n)), ?_, by rw [List.length_map, List.length_range], fun a ha => ?_⟩
    · generalize (List.range n).map (fun (i : Nat) => if (i : Int) = (drawI l.dropLast).fmod n then row.getD i 0 else 0) = R at e ⊢
      simp -implicitDefEqProofs [m_law_plane_s3, io_next, gMod_p, c, hg, e]
    · obtain ⟨j, hj, rfl⟩ := List.mem_map.mp ha
      split
      · exact hr.2 _ (getD_mem (by rw [hr.1]; exact List.mem_range.mp hj))
      · omega
  · refine ⟨l.dropLast, row, none, ?_, hr⟩
    simp -implicitDefEqProofs [m_law_plane_s3, io_next, gMod_p, c]
theorem gSet_dl {row : List Int} {j : Nat} (h : j < row.length) (v : Int) : gSet (dl row) (.int (j : Int)) (.int v) = some (dl (row.set j v)) := by
  unfold gSet
  have : L2.ixN (row.map D.int).length (j : Int) = some j := by
    unfold L2.ixN
    simp [h]
  show (L2.ixN (row.map D.int).length (j : Int)).map _ = _
  rw [this]
  show some (D.lst ((row.map D.int).set j (.int v))) = _
  rw [← List.map_set]
theorem lp5 (h1 : 1 ≤ n) (hn : n ≤ 4) (l row : List Int) (o5 : Option D) (hr : rows 3 n row) : ∃ (l' row' : List Int), m_law_plane_s5 (Sp n pt l row none o5 none none none) = .nx (Sp n pt l' row' none o5 none none none) ∧ rows 3 n row' ∧ ∃ a ∈ row', a ≠ 0 := by
  have sz := szv
  have e := mLc_map (vs := [6]) (g := mgName 6) (me := m_law_plane_e4) (mi := mIter (mVar 3)) (as := row) (enc := D.int)
      (ρ0 := Sp n pt l row none o5 none none none) (ρ := Sp n pt l row none o5 none none none)
      (st := fun a => Sp n pt l row none o5 (some (.int a)) none none) (f := fun a => .bl (!decide (a = 0)))
      (by simp [gIter]) (by rw [hr.1]; omega) (fun _ => rfl) (fun a _ => rfl) (fun a ha => by simp -implicitDefEqProofs [m_law_plane_e4])
  have g := gAny_map (fun a : Int => !decide (a = 0)) row
  cases hb : row.any (fun a : Int => !decide (a = 0)) with
  | true =>
    rw [hb] at g
    obtain ⟨a, ha, hne⟩ := List.any_eq_true.mp hb
    refine ⟨l, row, ?_, hr, a, ha, by simpa using hne⟩
    simp -implicitDefEqProofs [m_law_plane_s5, mPureT, e, g]
  | false =>
    rw [hb] at g
    obtain ⟨r1, r2⟩ := fm_rng (drawI l) (m := (n : Int)) (by omega)
    have hg := gMod_p (drawI l) (m := (n : Int)) (by omega)
    obtain ⟨j, hj⟩ : ∃ j : Nat, (drawI l).fmod n = (j : Int) := ⟨((drawI l).fmod n).toNat, by omega⟩
    rw [hj] at hg r2
    have hjl : j < row.length := by rw [hr.1]; omega
    have gs := gSet_dl hjl 1
    refine ⟨l.dropLast, row.set j 1, ?_, ⟨by rw [List.length_set]; exact hr.1, fun a ha => ?_⟩, 1, List.mem_set hjl 1, by decide⟩
    · simp -implicitDefEqProofs [m_law_plane_s5, mPureT, e, g, mgSub, getO_ap, io_next, hg, gs]
    · rcases List.mem_or_eq_of_mem_set ha with h | h
      · exact hr.2 a h
      · omega
theorem gSum_ints (xs : List Int) : gSum [.lst (xs.map D.int)] = some (.int xs.sum) := by
  have : ∀ xs : List Int, asInts (xs.map D.int) = some xs := by
    intro xs
    induction xs with
    | nil => rfl
    | cons a xs ih =>
      rw [List.map_cons]
      unfold asInts
      rw [ih]
      rfl
  show (asInts _).map _ = _
  rw [this]
  rfl
theorem sum_bound {k : Nat} : ∀ (xs : List Int), (∀ a ∈ xs, a.natAbs ≤ k) → xs.sum.natAbs ≤ xs.length * k
  | [], _ => by simp
  | a :: xs, h => by
    have h1 := sum_bound xs fun z hz => h z (List.mem_cons_of_mem _ hz)
    have h2 := h a List.mem_cons_self
    rw [List.sum_cons, List.length_cons, Nat.succ_mul]
    omega
theorem lp8 (hn : n ≤ 4) (hpt : rows 2 n pt) (l row : List Int) (o5 : Option D) (b : Int) (hb : b.natAbs ≤ 24) (hr : rows 3 n row) : ∃ (l' : List Int) (b' : Int), m_law_plane_s8 (Sp n pt l row none o5 none (some (.int b)) none) = .nx (Sp n pt l' row none o5 none (some (.int b')) none) ∧ b'.natAbs ≤ 24 := by
  have sz := szv
  by_cases c : (drawI l).fmod 2 = 0
  · have e := mLc_map (vs := [4]) (g := mgName 4) (me := m_law_plane_e7) (mi := mItN gRange1 (mCons (mVar 1) mNil)) (as := List.range n) (enc := fun i => D.int (i : Nat))
      (ρ0 := Sp n pt l.dropLast row none o5 none (some (.int b)) none) (ρ := Sp n pt l.dropLast row none o5 none (some (.int b)) none)
      (st := fun i => Sp n pt l.dropLast row (some (.int (i : Nat))) o5 none (some (.int b)) none) (f := fun i => D.int (row.getD i 0 * pt.getD i 0))
      (by simp -implicitDefEqProofs [range1 (n := n) (by omega), -gRange1_i]) (by rw [List.length_range]; omega) (fun _ => rfl) (fun a _ => rfl) (fun a ha => by
        have hj := List.mem_range.mp ha
        have i1 := ix_dl (row := row) (j := a) (by rw [hr.1]; exact hj)
        have i2 := ix_dl (row := pt) (j := a) (by rw [hpt.1]; exact hj)
        have b1 := hr.2 _ (getD_mem (row := row) (j := a) (by rw [hr.1]; exact hj))
        have b2 := hpt.2 _ (getD_mem (row := pt) (j := a) (by rw [hpt.1]; exact hj))
        have gm := gMul_sm (a := row.getD a 0) (b := pt.getD a 0) (i := 4) (j := 4) (by omega) (by omega) (by decide) (by decide) (by decide)
        generalize row.getD a 0 = x at *
        generalize pt.getD a 0 = y at *
        simp -implicitDefEqProofs [m_law_plane_e7, m2B, evB, rdB, getO_ap, i1, i2, gm])
    have em : (List.range n).map (fun i => D.int (row.getD i 0 * pt.getD i 0)) = ((List.range n).map fun i => row.getD i 0 * pt.getD i 0).map D.int := by rw [List.map_map]; rfl
    rw [em] at e
    have gs := gSum_ints ((List.range n).map fun i => row.getD i 0 * pt.getD i 0)
    have bd := sum_bound (k := 6) ((List.range n).map fun i => row.getD i 0 * pt.getD i 0) (fun a ha => by
      obtain ⟨j, hj, rfl⟩ := List.mem_map.mp ha
      have hj := List.mem_range.mp hj
      have b1 := hr.2 _ (getD_mem (row := row) (j := j) (by rw [hr.1]; exact hj))
      have b2 := hpt.2 _ (getD_mem (row := pt) (j := j) (by rw [hpt.1]; exact hj))
      rw [Int.natAbs_mul]
      have : (row.getD j 0).natAbs * (pt.getD j 0).natAbs ≤ 3 * 2 := Nat.mul_le_mul (by omega) (by omega)
      omega)
    rw [List.length_map, List.length_range] at bd
    generalize (List.range n).map (fun i => row.getD i 0 * pt.getD i 0) = R at *
    refine ⟨l.dropLast, R.sum, ?_, by have := Nat.mul_le_mul_right 6 hn; omega⟩
    simp -implicitDefEqProofs [m_law_plane_s8, io_next, gMod_p, c, e, gs]
  · refine ⟨l.dropLast, b, ?_, hb⟩
    simp -implicitDefEqProofs [m_law_plane_s8, io_next, gMod_p, c]
theorem v_ldiv (g : Nat) (a : Int) (h : a.natAbs < 2 ^ 100) (ρ : En) : (F_law_divisor [.int (g : Int), .int a]).R ρ = .ok (.int (Int.gcd g a : Nat)) ρ := by
  rw [e_ldiv]
  exact qLDivisor_v (g : Int) a (sm_up h (by decide)) ρ
theorem lp12g {F : FN} (hv : ∀ (g : Nat) (a : Int) (h : a.natAbs < 2 ^ 100) (ρ : En), (F [.int (g : Int), .int a]).R ρ = .ok (.int (Int.gcd g a : Nat)) ρ) (l row : List Int) (o4 o5 o7 : Option D) (hr : ∀ a ∈ row, a.natAbs < 2 ^ 100) : ∃ o6, loopL (mgName 6) (msAsg (mCall F (mCons (mVar 8) (mCons (mVar 6) mNil))) (mgName 8)) (row.map D.int) (Sp n pt l row o4 o5 none o7 (some (.int 0))) = .nx (Sp n pt l row o4 o5 o6 o7 (some (.int (gcdL row 0 : Nat)))) := by
  have gen : ∀ (ys : List Int) (g : Nat) (o6 : Option D), (∀ a ∈ ys, a.natAbs < 2 ^ 100) → ∃ o6', loopL (mgName 6) (msAsg (mCall F (mCons (mVar 8) (mCons (mVar 6) mNil))) (mgName 8)) (ys.map D.int) (Sp n pt l row o4 o5 o6 o7 (some (.int (g : Int)))) = .nx (Sp n pt l row o4 o5 o6' o7 (some (.int (gcdL ys g : Nat)))) := by
    intro ys
    induction ys with
    | nil => exact fun g o _ => ⟨o, rfl⟩
    | cons a ys ih =>
      intro g o hy
      obtain ⟨o', e⟩ := ih (Int.gcd g a) (some (.int a)) fun z hz => hy z (List.mem_cons_of_mem _ hz)
      refine ⟨o', ?_⟩
      have hv := fun ρ => hv g a (hy a List.mem_cons_self) ρ
      rw [List.map_cons]
      simp -implicitDefEqProofs [loopL, mCall_R, hv]
      exact e
  exact gen row 0 none hr
theorem lp12 (l row : List Int) (o4 o5 o7 : Option D) (hr : ∀ a ∈ row, a.natAbs < 2 ^ 100) : ∃ o6, loopL (mgName 6) m_law_plane_b11 (row.map D.int) (Sp n pt l row o4 o5 none o7 (some (.int 0))) = .nx (Sp n pt l row o4 o5 o6 o7 (some (.int (gcdL row 0 : Nat)))) :=
  lp12g v_ldiv l row o4 o5 o7 hr
theorem seq_nx {a b : MS} {ρ ρ1 : En} (h : a ρ = .nx ρ1) : msSeq a b ρ = b ρ1 := by rw [msSeq_ap, h]
theorem seq_rt {a b : MS} {ρ ρ1 : En} {d : D} (h : a ρ = .rt d ρ1) : msSeq a b ρ = .rt d ρ1 := by rw [msSeq_ap, h]
theorem seq_ex {a b : MS} {ρ ρ1 : En} {x : Xn} (h : a ρ = .ex x ρ1) : msSeq a b ρ = .ex x ρ1 := by rw [msSeq_ap, h]
theorem runM_rt {n np : Nat} {dd : List D} {fr : Bool} {m : MS} {ds : List D} {d : D} {ρ : En} (hl : (ds ++ dd).length = np) (h : m (pad n (ds ++ dd)) = .rt d ρ) : runM n np dd fr m ds = .rt d (io0 ρ) := by
  unfold runM
  rw [if_pos hl, h]
theorem runM_ex {n np : Nat} {dd : List D} {fr : Bool} {m : MS} {ds : List D} {x : Xn} {ρ : En} (hl : (ds ++ dd).length = np) (h : m (pad n (ds ++ dd)) = .ex x ρ) : runM n np dd fr m ds = .ex x (io0 ρ) := by
  unfold runM
  rw [if_pos hl, h]
theorem v_plane (h1 : 1 ≤ n) (hn : n ≤ 4) (hpt : rows 2 n pt) (l : List Int) : ∃ (p l' : List Int), F_law_plane [dl l, .int n, dl pt] = .rt (pl p) (dl l') ∧ isPl n p = true ∧ Pi 5 n p := by
  have sz := szv
  obtain ⟨l1, r1, e1, h1'⟩ := lp1 (pt := pt) hn l
  obtain ⟨l2, r2, o5, e2, h2⟩ := lp3 (pt := pt) h1 hn l1 r1 h1'
  obtain ⟨l3, r3, e3, h3, a0, ha0, hne⟩ := lp5 (pt := pt) h1 hn l2 r2 o5 h2
  obtain ⟨q1, q2⟩ := fm_rng (drawI l3) (m := 9) (by decide)
  obtain ⟨l4, b, e4, hb⟩ := lp8 (pt := pt) hn hpt l3.dropLast r3 o5 ((drawI l3).fmod 9 - 4) (by omega) h3
  have hall : ∀ a ∈ r3 ++ [b], a.natAbs ≤ 24 := by
    intro a ha
    rcases List.mem_append.mp ha with h | h
    · have := h3.2 a h; omega
    · rw [List.mem_singleton.mp h]; exact hb
  obtain ⟨o6, e5⟩ := lp12 (n := n) (pt := pt) l4 (r3 ++ [b]) none o5 (some (.int b)) (fun a ha => Nat.lt_of_le_of_lt (hall a ha) (by decide))
  have gp : 0 < gcdL (r3 ++ [b]) 0 := gcdL_pos (List.mem_append_left _ ha0) hne
  have glt : gcdL (r3 ++ [b]) 0 ≤ 24 := by
    have := (gcdL_dvd (r3 ++ [b]) 0).2 a0 (List.mem_append_left _ ha0)
    have h5 := Int.natAbs_dvd_natAbs.mpr this
    have := Nat.le_of_dvd (by omega) h5
    have := hall a0 (List.mem_append_left _ ha0)
    simp only [Int.natAbs_natCast] at *
    omega
  have e6 := mLc_map (vs := [6]) (g := mgName 6) (me := m2 gDiv (mVar 6) (mVar 8)) (mi := mIter (mVar 3)) (as := r3 ++ [b]) (enc := D.int)
      (ρ0 := Sp n pt l4 (r3 ++ [b]) none o5 o6 (some (.int b)) (some (.int (gcdL (r3 ++ [b]) 0 : Nat)))) (ρ := Sp n pt l4 (r3 ++ [b]) none o5 o6 (some (.int b)) (some (.int (gcdL (r3 ++ [b]) 0 : Nat))))
      (st := fun a => Sp n pt l4 (r3 ++ [b]) none o5 (some (.int a)) (some (.int b)) (some (.int (gcdL (r3 ++ [b]) 0 : Nat)))) (f := fun a => D.int (a.fdiv (gcdL (r3 ++ [b]) 0 : Nat)))
      (by simp [gIter]) (by rw [List.length_append, h3.1, List.length_singleton]; omega) (fun _ => rfl) (fun a _ => rfl) (fun a ha => by
        have := gDiv_sm (a := a) (b := ((gcdL (r3 ++ [b]) 0 : Nat) : Int)) (j := 10) (by omega) (by omega) (by decide) (by decide)
        simp -implicitDefEqProofs [this])
  have em : (r3 ++ [b]).map (fun a => D.int (a.fdiv (gcdL (r3 ++ [b]) 0 : Nat))) = (primL (r3 ++ [b])).map D.int := by unfold primL; rw [List.map_map]; rfl
  rw [em] at e6
  have ptup : gTuple [D.lst ((primL (r3 ++ [b])).map D.int)] = some (pl (primL (r3 ++ [b]))) := rfl
  have hsz : r3.length < sizeLine := by rw [h3.1]; omega
  refine ⟨primL (r3 ++ [b]), l4, ?_, ?_, ?_⟩
  · have ap : gAppend (r3.map D.int) [.int b] = some (.non, (r3 ++ [b]).map D.int) := by
      show (if (r3.map D.int).length < sizeLine then _ else _) = _
      rw [if_pos (by rw [List.length_map]; exact hsz), List.map_append]
      rfl
    generalize hX : r3 ++ [b] = X at *
    have s9 : m_law_plane_s9 (Sp n pt l4 r3 none o5 none (some (.int b)) none) = .nx (Sp n pt l4 X none o5 none (some (.int b)) none) := by
      simp -implicitDefEqProofs [m_law_plane_s9, getO_ap, ap]
    have s6 : m_law_plane_s6 (Sp n pt l3 r3 none o5 none none none) = .nx (Sp n pt l3.dropLast r3 none o5 none (some (.int ((drawI l3).fmod 9 - 4))) none) := by
      simp -implicitDefEqProofs [m_law_plane_s6, io_next, gMod_p]
    have s10 : m_law_plane_s10 (Sp n pt l4 X none o5 none (some (.int b)) none) = .nx (Sp n pt l4 X none o5 none (some (.int b)) (some (.int 0))) := by
      simp -implicitDefEqProofs [m_law_plane_s10]
    have s12 : m_law_plane_s12 (Sp n pt l4 X none o5 none (some (.int b)) (some (.int 0))) = .nx (Sp n pt l4 X none o5 o6 (some (.int b)) (some (.int (gcdL X 0 : Nat)))) := by
      unfold m_law_plane_s12
      generalize m_law_plane_b11 = B at *
      have gi : gIter (dl X) = some (X.map D.int) := rfl
      rw [msFor_ap, mIter_ap, mVar_ap]
      show obind ((DL.ret (gIter (dl X)) _)) _ = _
      rw [gi]
      exact e5
    have s13 : m_law_plane_s13 (Sp n pt l4 X none o5 o6 (some (.int b)) (some (.int (gcdL X 0 : Nat)))) = .rt (pl (primL X)) (Sp n pt l4 X none o5 o6 (some (.int b)) (some (.int (gcdL X 0 : Nat)))) := by
      simp -implicitDefEqProofs [m_law_plane_s13, e6, ptup]
    refine runM_rt (ρ := Sp n pt l4 X none o5 o6 (some (.int b)) (some (.int (gcdL X 0 : Nat)))) rfl ?_
    show m_law_plane [some (dl l), some (.int n), some (dl pt), none, none, none, none, none, none] = _
    unfold m_law_plane
    rw [msForget_ap]
    show msSeq m_law_plane_s1 _ [some (dl l), some (.int n), some (dl pt), none, none, none, none, none, none] = _
    rw [seq_nx e1, seq_nx e2, seq_nx e3, seq_nx s6, seq_nx e4, seq_nx s9, seq_nx s10, seq_nx s12]
    exact s13
  · unfold isPl
    simp only [Bool.and_eq_true, decide_eq_true_eq, List.all_eq_true, List.any_eq_true]
    refine ⟨⟨⟨by unfold primL; rw [List.length_map, List.length_append, h3.1, List.length_singleton], fun x hx => ?_⟩, gcd_primL gp⟩, a0.fdiv (gcdL (r3 ++ [b]) 0 : Nat), ?_, primL_ne (List.mem_append_left _ ha0) hne⟩
    · obtain ⟨a, ha, hle⟩ := primL_abs hx
      have := hall a ha
      omega
    · unfold primL
      rw [List.map_append, List.take_left' (by rw [List.length_map, h3.1])]
      exact List.mem_map.mpr ⟨a0, ha0, rfl⟩
  · refine ⟨by unfold primL; rw [List.length_map, List.length_append, h3.1, List.length_singleton], fun x hx => ?_⟩
    obtain ⟨a, ha, hle⟩ := primL_abs hx
    have := hall a ha
    omega
end
end Q
namespace Q
open DL L2 PySem PySem.Spec PyProof.Rows
theorem okPls_nil (n : Nat) : okPls n [] = true := rfl
theorem okPls_snoc {n : Nat} {ps : List (List Int)} {p : List Int} (h : okPls n ps = true) (hp : isPl n p = true) (h1 : p ∉ ps) (h2 : negL p ∉ ps) (hl : ps.length + 1 ≤ 12) : okPls n (ps ++ [p]) = true := by
  unfold okPls at h ⊢
  simp only [Bool.and_eq_true, decide_eq_true_eq] at h ⊢
  obtain ⟨⟨a1, a2⟩, a3⟩ := h
  refine ⟨⟨by rw [List.length_append]; exact hl, ?_⟩, ?_⟩
  · rw [List.all_append, a2]
    simp [hp]
  · rw [List.zipIdx_append, List.all_append, Bool.and_eq_true]
    constructor
    · rw [List.all_eq_true] at a3 ⊢
      intro x hx
      have := a3 x hx
      have hm := List.mem_zipIdx hx
      have e : (ps ++ [p]).take x.2 = ps.take x.2 := List.take_append_of_le_length (by omega)
      unfold sepB at this ⊢
      rw [e]
      exact this
    · have e : (ps ++ [p]).take ps.length = ps := by simp
      simp [sepB, e]
      intro x hx
      exact ⟨fun z => h1 (z ▸ hx), fun z => h2 (z ▸ hx)⟩
theorem pl_memL {p : List Int} {ps : List (List Int)} : pl p ∈ ps.map pl ↔ p ∈ ps := by
  constructor
  · intro h
    obtain ⟨q, hq, e⟩ := List.mem_map.mp h
    rw [← pl_inj.mp e]
    exact hq
  · exact fun h => List.mem_map_of_mem h
theorem pd_pls (ps : List (List Int)) : ∀ d ∈ ps.map pl, Pd 1 d := fun d h => by
  obtain ⟨p, _, rfl⟩ := List.mem_map.mp h
  exact pd_ints 0 p
section
variable {n : Nat} {pt : List Int}
abbrev Sl (n most : Nat) (pt : List Int) (l : List Int) (o3 o4 o5 o6 o7 : Option D) : En := [some (dl l), some (.int n), some (.int most), o3, o4, o5, o6, o7]
theorem pls0 {most : Nat} (hn : n ≤ 4) (l : List Int) : ∃ (l' row : List Int), mLc [4] (mItN gRange1 (mCons (mVar 1) mNil)) (mgName 4) mYes m_law_planes_e0 (Sl n most [] l none none none none none) = .ok (dl row) (Sl n most [] l' none none none none none) ∧ rows 2 n row := by
  have sz := szv
  obtain ⟨cs, l', e, hl, hp⟩ := mLc_io (i := 4) (me := m_law_planes_e0) (P := fun a : Int => -2 ≤ a ∧ a ≤ 2) (enc := D.int) (mi := mItN gRange1 (mCons (mVar 1) mNil)) (E := fun l o => Sl n most [] l none o none none none) (ρ := Sl n most [] l none none none none none) (l := l) (o := none) (ds := (List.range n).map fun i => D.int (i : Nat))
    (by simp -implicitDefEqProofs [range1 (n := n) (by omega), -gRange1_i]) (by rw [List.length_map, List.length_range]; omega) (fun _ _ _ => rfl) (fun l o => (by show 4 < 8; decide)) rfl (fun l d => by
      obtain ⟨r1, r2⟩ := fm_rng (drawI l) (m := 5) (by decide)
      refine ⟨(drawI l).fmod 5 - 2, l.dropLast, ⟨by omega, by omega⟩, ?_⟩
      simp -implicitDefEqProofs [m_law_planes_e0, io_next, gMod_p])
  rw [List.length_map, List.length_range] at hl
  exact ⟨l', cs, e, hl, hp⟩
theorem gAppend_pl (ps : List (List Int)) (p : List Int) (h : ps.length ≤ 1000) : gAppend (ps.map pl) [pl p] = some (.non, (ps ++ [p]).map pl) := by
  have sz := szv
  unfold gAppend
  have : (ps.map pl).length < sizeLine := by rw [List.length_map]; omega
  show (if _ then _ else _) = _
  rw [if_pos this]
  simp
theorem loop_step {g : MG} {mb : MS} {d : D} {ds : List D} {ρ ρ1 ρ2 : En} (h1 : g d ρ = .ok () ρ1) (h2 : mb ρ1 = .nx ρ2) : loopL g mb (d :: ds) ρ = loopL g mb ds ρ2 := by
  simp only [loopL, h1, h2]
theorem plsB {most : Nat} (h1 : 1 ≤ n) (hn : n ≤ 4) (hpt : rows 2 n pt) (l : List Int) (ps : List (List Int)) (o4 o6 : Option D) (hps : ps.length ≤ 1000) : ∃ (l' : List Int) (p : List Int), isPl n p = true ∧ Pi 5 n p ∧
    m_law_planes_b2 (Sl n most pt l (some (dl pt)) o4 (some (.lst (ps.map pl))) o6 none) = .nx (Sl n most pt l' (some (dl pt)) o4 (some (.lst ((if p ∉ ps ∧ negL p ∉ ps then ps ++ [p] else ps).map pl))) (some (pl p)) none) := by
  have sz := szv
  obtain ⟨p, l', e, i1, i2⟩ := v_plane h1 hn hpt l
  refine ⟨l', p, i1, i2, ?_⟩
  have e0 := io_0a (F := F_law_plane) (l := l) (l' := l') (r := [some (.int n), some (.int most), some (dl pt), o4, some (.lst (ps.map pl)), o6, none]) (args := mCons (mVar 1) (mCons (mVar 3) mNil)) (ds := [.int n, dl pt]) (by simp -implicitDefEqProofs) e
  have e1 := gNotIn_pd (n := 1) (m := 1) (a := pl p) (c := .lst (ps.map pl)) (P := p ∈ ps) (.inl rfl) (pd_ints 0 _) (pd_pls ps) (by omega) (by omega) pl_memL
  have e2 := gNotIn_pd (n := 1) (m := 1) (a := pl (negL p)) (c := .lst (ps.map pl)) (P := negL p ∈ ps) (.inl rfl) (pd_ints 0 _) (pd_pls ps) (by omega) (by omega) pl_memL
  have e3 : mLc [7] (mIter (mVar 6)) (mgName 7) mYes m_law_planes_e1 (Sl n most pt l' (some (dl pt)) o4 (some (.lst (ps.map pl))) (some (pl p)) none) = .ok (.lst (p.map fun a => .int (-a))) (Sl n most pt l' (some (dl pt)) o4 (some (.lst (ps.map pl))) (some (pl p)) none) := by
    refine mLc_map (as := p) (enc := .int) (st := fun a => Sl n most pt l' (some (dl pt)) o4 (some (.lst (ps.map pl))) (some (pl p)) (some (.int a))) (f := fun a => .int (-a)) ?_ (by have := i2.1; omega) (fun _ => rfl) (fun a ha => rfl) (fun a ha => ?_)
    · simp [pl, gIter]
    · simp -implicitDefEqProofs [m_law_planes_e1]
  have e4 : gTuple [.lst (p.map fun a => D.int (-a))] = some (pl (negL p)) := by simp [gTuple, pl, negL]
  have e5 := gAppend_pl ps p hps
  by_cases c1 : p ∈ ps
  · simp only [c1, decide_true, Bool.not_true] at e1
    simp -implicitDefEqProofs [m_law_planes_b2, e0, m2B, evB, rdB, getO_ap, e1, c1]
  · simp only [c1, decide_false, Bool.not_false] at e1
    by_cases c2 : negL p ∈ ps
    · simp only [c2, decide_true, Bool.not_true] at e2
      simp -implicitDefEqProofs [m_law_planes_b2, e0, m2B, evB, rdB, getO_ap, e1, c1, e3, e4, e2, c2]
    · simp only [c2, decide_false, Bool.not_false] at e2
      simp -implicitDefEqProofs [m_law_planes_b2, e0, m2B, evB, rdB, getO_ap, e1, c1, e3, e4, e2, c2, e5]
theorem plsL {most : Nat} (h1 : 1 ≤ n) (hn : n ≤ 4) (hpt : rows 2 n pt) : ∀ (ks : List Nat) (l : List Int) (ps : List (List Int)) (o4 o6 : Option D), ps.length + ks.length ≤ 12 → okPls n ps = true → (∀ p ∈ ps, Pi 5 n p) →
    ∃ (l' : List Int) (ps' : List (List Int)) (o4' o6' : Option D), loopL (mgName 4) m_law_planes_b2 (ks.map fun i => D.int (i : Nat)) (Sl n most pt l (some (dl pt)) o4 (some (.lst (ps.map pl))) o6 none) = .nx (Sl n most pt l' (some (dl pt)) o4' (some (.lst (ps'.map pl))) o6' none) ∧ ps'.length ≤ ps.length + ks.length ∧ okPls n ps' = true ∧ ∀ p ∈ ps', Pi 5 n p := by
  intro ks
  induction ks with
  | nil => exact fun l ps o4 o6 _ h2 h3 => ⟨l, ps, o4, o6, rfl, by simp, h2, h3⟩
  | cons k ks ih =>
    intro l ps o4 o6 h h2 h3
    rw [List.length_cons] at h
    obtain ⟨l1, p, i1, i2, e⟩ := plsB (most := most) h1 hn hpt l ps (some (.int (k : Nat))) o6 (by omega)
    have inv : ∃ ps1, (if p ∉ ps ∧ negL p ∉ ps then ps ++ [p] else ps) = ps1 ∧ ps1.length ≤ ps.length + 1 ∧ okPls n ps1 = true ∧ ∀ q ∈ ps1, Pi 5 n q := by
      by_cases c : p ∉ ps ∧ negL p ∉ ps
      · refine ⟨_, if_pos c, by simp, okPls_snoc h2 i1 c.1 c.2 (by omega), fun q hq => ?_⟩
        rcases List.mem_append.mp hq with z | z
        · exact h3 q z
        · rw [List.mem_singleton.mp z]; exact i2
      · exact ⟨_, if_neg c, by omega, h2, h3⟩
    obtain ⟨ps1, ep, hl, ok1, pi1⟩ := inv
    rw [ep] at e
    obtain ⟨l2, ps2, a, b, e2, hl2, ok2, pi2⟩ := ih l1 ps1 (some (.int (k : Nat))) (some (pl p)) (by omega) ok1 pi1
    refine ⟨l2, ps2, a, b, ?_, by rw [List.length_cons]; omega, ok2, pi2⟩
    rw [List.map_cons]
    have g : mgName 4 (.int (k : Nat)) (Sl n most pt l (some (dl pt)) o4 (some (.lst (ps.map pl))) o6 none) = .ok () (Sl n most pt l (some (dl pt)) (some (.int (k : Nat))) (some (.lst (ps.map pl))) o6 none) := by rw [mgName_ap]; rfl
    rw [loop_step g e]
    exact e2
theorem v_lplanes {most : Nat} (h1 : 1 ≤ n) (hn : n ≤ 4) (hm : most ≤ 12) (l : List Int) : ∃ (ps : List (List Int)) (pt l' : List Int), F_law_planes [dl l, .int n, .int most] = .rt (.lst [.lst (ps.map pl), dl pt]) (dl l') ∧ ps.length ≤ most ∧ okPls n ps = true ∧ (∀ p ∈ ps, Pi 5 n p) ∧ rows 2 n pt := by
  have sz := szv
  obtain ⟨l1, pt, e1, hpt⟩ := pls0 (most := most) hn l
  obtain ⟨r1, r2⟩ := fm_rng (drawI l1) (m := (most : Int) + 1) (by omega)
  obtain ⟨k, hk⟩ : ∃ k : Nat, (drawI l1).fmod ((most : Int) + 1) = (k : Int) := ⟨((drawI l1).fmod ((most : Int) + 1)).toNat, by omega⟩
  obtain ⟨l2, ps, o4, o6, e2, hl, ok, hpi⟩ := plsL (most := most) h1 hn hpt (List.range k) l1.dropLast [] none none (by rw [List.length_range]; simp; omega) (okPls_nil n) (fun _ h => nomatch h)
  rw [List.length_range] at hl
  refine ⟨ps, pt, l2, ?_, by simp at hl; omega, ok, hpi, hpt⟩
  have e3 := range1 (n := k) (by omega)
  have e4 := gMod_p (drawI l1) (m := (most : Int) + 1) (by omega)
  rw [hk] at e4
  have : F_law_planes [dl l, .int n, .int most] = .rt (.lst [.lst (ps.map pl), dl pt]) (io0 (Sl n most pt l2 (some (dl pt)) o4 (some (.lst (ps.map pl))) o6 none)) := by
    refine runM_rt rfl ?_
    show m_law_planes (Sl n most [] l none none none none none) = _
    unfold m_law_planes
    have a1 : msAsg (mLc [4] (mItN gRange1 (mCons (mVar 1) mNil)) (mgName 4) mYes m_law_planes_e0) (mgName 3) (Sl n most [] l none none none none none) = .nx (Sl n most pt l1 (some (dl pt)) none none none none) := by
      simp -implicitDefEqProofs [e1]
    rw [seq_nx a1]
    have a2 : msOwn 5 (mN gLst mNil) (Sl n most pt l1 (some (dl pt)) none none none none) = .nx (Sl n most pt l1 (some (dl pt)) none (some (.lst (([] : List (List Int)).map pl))) none none) := by
      simp -implicitDefEqProofs
    have a3 : msFor (mItN gRange1 (mCons (m2 gMod (mN gInt (mCons (mCallIo Q.F_law_next 0 mNil) mNil)) (m2 gAdd (mVar 2) (mK (.int 1)))) mNil)) (mgName 4) m_law_planes_b2 (Sl n most pt l1 (some (dl pt)) none (some (.lst (([] : List (List Int)).map pl))) none none) = .nx (Sl n most pt l2 (some (dl pt)) o4 (some (.lst (ps.map pl))) o6 none) := by
      simp -implicitDefEqProofs [io_next, e4, e3, -gRange1_i]
      exact e2
    have a4 : msRet (mN gLst (mCons (mVar 5) (mCons (mVar 3) mNil))) (Sl n most pt l2 (some (dl pt)) o4 (some (.lst (ps.map pl))) o6 none) = .rt (.lst [.lst (ps.map pl), dl pt]) (Sl n most pt l2 (some (dl pt)) o4 (some (.lst (ps.map pl))) o6 none) := by
      simp -implicitDefEqProofs [show 2 ≤ sizeLine by omega]
    have a5 := seq_nx (b := msSeq (msFor (mItN gRange1 (mCons (m2 gMod (mN gInt (mCons (mCallIo Q.F_law_next 0 mNil) mNil)) (m2 gAdd (mVar 2) (mK (.int 1)))) mNil)) (mgName 4) m_law_planes_b2) (msRet (mN gLst (mCons (mVar 5) (mCons (mVar 3) mNil))))) a2
    rw [seq_nx a3, a4] at a5
    have a6 : (Sl n most pt l1 (some (dl pt)) none none none none).set 5 none = Sl n most pt l1 (some (dl pt)) none none none none := rfl
    rw [msForget_ap, a6, a5]
  exact this
theorem gSet_at {xs : List D} {j : Nat} {v : D} (h : j < xs.length) : gSet (.lst xs) (.int (j : Int)) v = some (.lst (xs.set j v)) := by
  have e : ixN xs.length (j : Int) = some j := by
    have h0 : ¬ ((j : Int) < 0) := by omega
    unfold ixN
    simp [h]
  simp [gSet, e]
end
end Q
namespace Q
open DL L2 PySem PySem.Spec PyProof.Rows
abbrev rw_ (r : List Rat) : D := .lst (r.map fr)
abbrev mxD (M : List (List Rat)) : D := .lst (M.map rw_)
abbrev nl (ps : List Nat) : D := .lst (ps.map fun i => D.int (i : Nat))
def Rw (W k : Nat) (r : List Rat) : Prop := r.length = W ∧ ∀ x ∈ r, Sz k x
theorem Rw.up {W i j : Nat} {r : List Rat} (h : Rw W i r) (l : i ≤ j) : Rw W j r := ⟨h.1, fun x hx => (h.2 x hx).up l⟩
theorem Rw.g {W k c : Nat} {r : List Rat} (h : Rw W k r) (hc : c < W) : Sz k (r.getD c 0) := by
  have e : r.getD c 0 = r[c]'(by rw [h.1]; exact hc) := by simp [List.getD, h.1, hc]
  rw [e]
  exact h.2 _ (List.getElem_mem _)
theorem getD_memM {M : List (List Rat)} {i : Nat} (h : i < M.length) : M.getD i [] ∈ M := by
  have e : M.getD i [] = M[i] := by simp [List.getD, h]
  rw [e]
  exact List.getElem_mem _
theorem ixR {d : D} {r : List Rat} (hd : Sq d (r.map fr)) {c : Nat} (h : c < r.length) : gIx d (.int (c : Int)) = some (fr (r.getD c 0)) := by
  rw [hd.ix, atI_nat' _ c (by rw [List.length_map]; exact h), List.getElem_map]
  simp [List.getD, h]
theorem ixM {M : List (List Rat)} {c : Nat} (h : c < M.length) : gIx (mxD M) (.int (c : Int)) = some (rw_ (M.getD c [])) := by
  show L2.atI (M.map rw_) (c : Int) = _
  rw [atI_nat' _ c (by rw [List.length_map]; exact h), List.getElem_map]
  simp [List.getD, h]
theorem setM {M : List (List Rat)} {c : Nat} (h : c < M.length) (r : List Rat) : gSet (mxD M) (.int (c : Int)) (rw_ r) = some (mxD (M.set c r)) := by
  rw [gSet_at (by rw [List.length_map]; exact h)]
  show some (D.lst ((M.map rw_).set c (rw_ r))) = some (D.lst ((M.set c r).map rw_))
  rw [← List.map_set]
def lsn (r : List Rat) (c : Rat) (s : List Rat) : List Rat := (r.zip s).map fun p => p.1 + (-c) * p.2
theorem lsn_rw {W i j : Nat} {r s : List Rat} {c : Rat} (hr : Rw W i r) (hc : Sz i c) (hs : Rw W j s) : Rw W (i + (i + j) + 1) (lsn r c s) := by
  refine ⟨by unfold lsn; rw [List.length_map, List.length_zip, hr.1, hs.1, Nat.min_self], fun x hx => ?_⟩
  obtain ⟨p, hp, rfl⟩ := List.mem_map.mp hx
  have hm := List.of_mem_zip (a := p.1) (b := p.2) hp
  exact (hr.2 _ hm.1).add (hc.neg.mul (hs.2 _ hm.2))
theorem v_lessened {W i j : Nat} {r s : List Rat} {c : Rat} {d1 d2 : D} (h1 : Sq d1 (r.map fr)) (h2 : Sq d2 (s.map fr)) (hr : Rw W i r) (hc : Sz i c) (hs : Rw W j s) (hW : W ≤ 1000) (hl : i + (i + j) ≤ 8000) (ρ : En) : (Flessened [d1, fr c, d2]).R ρ = .ok (rw_ (lsn r c s)) ρ := by
  have sz := szv
  have hn := fun ρ => v_negated (q := c) ρ
  have gz : gZipS [d1, d2] = some ((r.zip s).map fun p => .tup [fr p.1, fr p.2]) := by
    show (gIter d1).bind (fun xs => (gIter d2).map fun ys => (xs.zip ys).map fun p => D.tup [p.1, p.2]) = _
    rw [h1.iter, Option.bind_some, h2.iter, Option.map_some, List.zip_map, List.map_map]
    rfl
  have e := mLc_map (as := r.zip s) (enc := fun p => .tup [fr p.1, fr p.2]) (vs := [4, 5]) (g := mgTup 2 (mgCons (mgName 4) (mgCons (mgName 5) mgNil))) (mi := mItN gZipS (mCons (mVar 0) (mCons (mVar 2) mNil))) (me := mlessened_e0)
    (ρ0 := [some d1, some (fr c), some d2, some (fr (-c)), none, none]) (ρ := [some d1, some (fr c), some d2, some (fr (-c)), none, none]) (st := fun p => [some d1, some (fr c), some d2, some (fr (-c)), some (fr p.1), some (fr p.2)]) (f := fun p => fr (p.1 + (-c) * p.2))
    (by simp -implicitDefEqProofs [gz]) (by rw [List.length_zip, hr.1, hs.1, Nat.min_self]; omega) (fun _ => rfl) (fun p hp => rfl) (fun p hp => by
      have hm := List.of_mem_zip (a := p.1) (b := p.2) hp
      have m1 := fun ρ => v_multiplied hc.neg (hs.2 _ hm.2) (by omega) ρ
      have m2 := fun ρ => v_summed (hr.2 _ hm.1) (hc.neg.mul (hs.2 _ hm.2)) (by omega) ρ
      simp -implicitDefEqProofs [mlessened_e0, mCall_R, m1, m2])
  have e2 : (r.zip s).map (fun p => fr (p.1 + (-c) * p.2)) = (lsn r c s).map fr := by unfold lsn; rw [List.map_map]; rfl
  rw [e2] at e
  show _ = DL.R.ok (D.lst ((lsn r c s).map fr)) ρ
  generalize (lsn r c s).map fr = R at e ⊢
  simp -implicitDefEqProofs [Flessened, runM, mlessened, pad, mCall_R, hn, e]
def inner (top col : Nat) (M : List (List Rat)) (a : Nat) : List (List Rat) :=
  if a ≠ top ∧ (M.getD a []).getD col 0 ≠ 0 then M.set a (lsn (M.getD a []) ((M.getD a []).getD col 0) (M.getD top [])) else M
section
variable {d0 : D} {cs : Nat} {M : List (List Rat)} {ps : List Nat} {o7 o9 : Option D} {W k m top col : Nat}
abbrev Rd (d0 : D) (cs : Nat) (L P : D) (o5 o6 o7 o8 o9 : Option D) : En := [some d0, some (.int cs), some L, none, some P, o5, o6, o7, o8, o9, none]
theorem zlit : D.tup [.int 0, .int 1] = fr 0 := rfl
theorem v_inner {a : Nat} (hl : M.length = m) (ha : a < m) (ht : top < m) (hc : col < W) (hW : W ≤ 1000) (ra : a ≠ top → Rw W k (M.getD a [])) (rt : Rw W (2 * k) (M.getD top [])) (hk : 4 * k + 1 ≤ 8000) :
    mreduced_b3 (Rd d0 cs (mxD M) (nl ps) (some (.int col)) (some (.int top)) o7 (some (.int a)) o9) = .nx (Rd d0 cs (mxD (inner top col M a)) (nl ps) (some (.int col)) (some (.int top)) o7 (some (.int a)) o9) := by
  unfold inner
  by_cases c1 : a = top
  · have : ((a : Nat) : Int) = (top : Int) := by rw [c1]
    rw [if_neg (fun h => h.1 c1)]
    simp -implicitDefEqProofs [mreduced_b3, this]
  · have c1' : ¬ ((a : Nat) : Int) = (top : Int) := by omega
    have ra := ra c1
    have i1 := ixM (M := M) (c := a) (by omega)
    have i2 := ixM (M := M) (c := top) (by omega)
    have i3 := ixR (d := rw_ (M.getD a [])) (.inr rfl) (c := col) (by rw [ra.1]; exact hc)
    have n1 := ne_fr (p := (M.getD a []).getD col 0) (q := 0)
    rw [← zlit] at n1
    by_cases c2 : (M.getD a []).getD col 0 = 0
    · rw [if_neg (fun h => h.2 c2)]
      rw [decide_eq_true c2] at n1
      generalize (M.getD a []).getD col 0 = x at *
      generalize rw_ (M.getD a []) = A at *
      generalize mxD M = MM at *
      simp -implicitDefEqProofs [mreduced_b3, c1', m2B, evB, rdB, getO_ap, i1, i3, n1]
    · rw [if_pos ⟨c1, c2⟩]
      rw [decide_eq_false c2] at n1
      have v := fun ρ => v_lessened (d1 := rw_ (M.getD a [])) (d2 := rw_ (M.getD top [])) (r := M.getD a []) (s := M.getD top []) (c := (M.getD a []).getD col 0) (Sq.lst _) (Sq.lst _) ra (ra.g hc) rt hW (by omega) ρ
      have s := setM (M := M) (c := a) (by omega) (lsn (M.getD a []) ((M.getD a []).getD col 0) (M.getD top []))
      generalize M.set a (lsn (M.getD a []) ((M.getD a []).getD col 0) (M.getD top [])) = M' at *
      generalize lsn (M.getD a []) ((M.getD a []).getD col 0) (M.getD top []) = N at *
      generalize (M.getD a []).getD col 0 = x at *
      generalize rw_ (M.getD a []) = A at *
      generalize rw_ (M.getD top []) = T at *
      generalize rw_ N = N' at *
      obtain ⟨L, hL⟩ : ∃ L, mxD M = .lst L := ⟨_, rfl⟩
      rw [hL] at i1 i2 s ⊢
      generalize mxD M' = MM' at *
      simp -implicitDefEqProofs [mreduced_b3, c1', m2B, evB, rdB, getO_ap, i1, i3, n1, i2, mCall_R, v, mgSub, s]
def Jn (W k m top : Nat) (ks : List Nat) (M : List (List Rat)) : Prop := M.length = m ∧ (∀ i, i < m → Rw W (4 * k + 1) (M.getD i [])) ∧ Rw W (2 * k) (M.getD top []) ∧ ∀ i ∈ ks, i < m ∧ (i ≠ top → Rw W k (M.getD i []))
theorem getD_set {M : List (List Rat)} {a i : Nat} {r : List Rat} (ha : a < M.length) : (M.set a r).getD i [] = if a = i then r else M.getD i [] := by
  simp only [List.getD, List.getElem?_set]
  by_cases h : a = i
  · subst h; simp [ha]
  · simp [h]
theorem Jn.step {a : Nat} {ks : List Nat} (h : Jn W k m top (a :: ks) M) (hn : a ∉ ks) (hc : col < W) : Jn W k m top ks (inner top col M a) := by
  obtain ⟨h1, h2, h3, h4⟩ := h
  have ha := (h4 a List.mem_cons_self).1
  unfold inner
  by_cases c : a ≠ top ∧ (M.getD a []).getD col 0 ≠ 0
  · rw [if_pos c]
    have ra := (h4 a List.mem_cons_self).2 c.1
    have rn := lsn_rw ra (ra.g hc) h3
    refine ⟨by rw [List.length_set]; exact h1, fun i hi => ?_, ?_, fun i hi => ⟨(h4 i (List.mem_cons_of_mem _ hi)).1, fun ne => ?_⟩⟩
    · rw [getD_set (by omega)]
      split
      · exact rn.up (by omega)
      · exact h2 i hi
    · rw [getD_set (by omega), if_neg c.1]
      exact h3
    · rw [getD_set (by omega), if_neg (by rintro rfl; exact hn hi)]
      exact (h4 i (List.mem_cons_of_mem _ hi)).2 ne
  · rw [if_neg c]
    exact ⟨h1, h2, h3, fun i hi => h4 i (List.mem_cons_of_mem _ hi)⟩
theorem v_inners (ht : top < m) (hc : col < W) (hW : W ≤ 1000) (hk : 4 * k + 1 ≤ 8000) : ∀ (ks : List Nat) (M : List (List Rat)) (o8 : Option D), ks.Nodup → Jn W k m top ks M →
    (∃ o8', loopL (mgName 8) mreduced_b3 (ks.map fun i => D.int (i : Nat)) (Rd d0 cs (mxD M) (nl ps) (some (.int col)) (some (.int top)) o7 o8 o9) = .nx (Rd d0 cs (mxD (ks.foldl (inner top col) M)) (nl ps) (some (.int col)) (some (.int top)) o7 o8' o9)) ∧ Jn W k m top [] (ks.foldl (inner top col) M) := by
  intro ks
  induction ks with
  | nil => exact fun M o8 _ h => ⟨⟨o8, rfl⟩, h⟩
  | cons a ks ih =>
    intro M o8 hn h
    rw [List.nodup_cons] at hn
    have st := h.step hn.1 hc
    obtain ⟨⟨o8', e⟩, j⟩ := ih (inner top col M a) (some (.int (a : Nat))) hn.2 st
    refine ⟨⟨o8', ?_⟩, j⟩
    rw [List.map_cons]
    have g : mgName 8 (.int (a : Nat)) (Rd d0 cs (mxD M) (nl ps) (some (.int col)) (some (.int top)) o7 o8 o9) = .ok () (Rd d0 cs (mxD M) (nl ps) (some (.int col)) (some (.int top)) o7 (some (.int (a : Nat))) o9) := by rw [mgName_ap]; rfl
    have b := v_inner (d0 := d0) (cs := cs) (ps := ps) (o7 := o7) (o9 := o9) h.1 (h.2.2.2 a List.mem_cons_self).1 ht hc hW (h.2.2.2 a List.mem_cons_self).2 h.2.2.1 hk
    rw [loop_step g b]
    exact e
def heres (top col : Nat) (M : List (List Rat)) : List Nat := ((List.range (M.length - top)).map fun i => top + i).filter fun a => decide ((M.getD a []).getD col 0 ≠ 0)
def swapped (top h : Nat) (M : List (List Rat)) : List (List Rat) := (M.set top (M.getD h [])).set h (M.getD top [])
def scaled (top col : Nat) (M : List (List Rat)) : List (List Rat) := M.set top ((M.getD top []).map fun x => ((M.getD top []).getD col 0)⁻¹ * x)
def stepC (s : List (List Rat) × List Nat) (col : Nat) : List (List Rat) × List Nat := match heres s.2.length col s.1 with
  | [] => s
  | h :: _ => ((List.range s.1.length).foldl (inner s.2.length col) (scaled s.2.length col (swapped s.2.length h s.1)), s.2 ++ [col])
def red (cs : Nat) (M : List (List Rat)) : List (List Rat) × List Nat := (List.range cs).foldl stepC (M, [])
end
end Q
namespace Q
open DL L2 PySem PySem.Spec PyProof.Rows
section
variable {d0 : D} {cs : Nat} {M : List (List Rat)} {ps : List Nat} {o5 o6 o7 o8 o9 : Option D} {W k m top col : Nat}
theorem gLen_nl (h : ps.length ≤ 1000) : gLen [nl ps] = some (.int (ps.length : Nat)) := by
  simp [gLen]
theorem gLen_mx : gLen [mxD M] = some (.int (M.length : Nat)) := by simp [gLen]
theorem range2 {a b : Nat} (ha : a ≤ 1000000) (hb : b ≤ 1000000) : gRange2 [.int (a : Int), .int (b : Int)] = some (((List.range (b - a)).map fun i => a + i).map fun i => D.int (i : Nat)) := by
  show (if okR a = true ∧ okR b = true then some (rangeL a ((b : Int) - (a : Int)).toNat) else none) = _
  rw [if_pos ⟨okR_nat ha, okR_nat hb⟩, List.map_map]
  have : ((b : Int) - (a : Int)).toNat = b - a := by omega
  rw [this]
  unfold rangeL
  congr 1
theorem v_heres (hl : M.length = m) (hm : m ≤ 1000) (hp : ps.length ≤ 1000) (hc : col < W) (hM : ∀ r ∈ M, r.length = W) :
    mLc [8] (mItN gRange2 (mCons (mVar 6) (mCons (mNO gLen 2) mNil))) (mgName 8) mreduced_t1 (mVar 8) (Rd d0 cs (mxD M) (nl ps) (some (.int col)) (some (.int (ps.length : Nat))) o7 o8 o9) = .ok (nl (heres ps.length col M)) (Rd d0 cs (mxD M) (nl ps) (some (.int col)) (some (.int (ps.length : Nat))) o7 o8 o9) := by
  have sz := szv
  have e := mLc_filt (as := (List.range (M.length - ps.length)).map fun i => ps.length + i) (enc := fun i => D.int (i : Nat)) (vs := [8]) (g := mgName 8) (mi := mItN gRange2 (mCons (mVar 6) (mCons (mNO gLen 2) mNil))) (mt := mreduced_t1) (me := mVar 8)
    (ρ0 := Rd d0 cs (mxD M) (nl ps) (some (.int col)) (some (.int (ps.length : Nat))) o7 o8 o9) (ρ := Rd d0 cs (mxD M) (nl ps) (some (.int col)) (some (.int (ps.length : Nat))) o7 o8 o9)
    (st := fun i => Rd d0 cs (mxD M) (nl ps) (some (.int col)) (some (.int (ps.length : Nat))) o7 (some (.int (i : Nat))) o9) (p := fun a => decide ((M.getD a []).getD col 0 ≠ 0)) (f := fun i => D.int (i : Nat))
    (by
      have r := range2 (a := ps.length) (b := M.length) (by omega) (by omega)
      have g : gLen [mxD M] = some (.int (M.length : Nat)) := by simp [gLen]
      generalize ((List.range (M.length - ps.length)).map fun i => ps.length + i).map (fun i => D.int (i : Nat)) = R at *
      obtain ⟨L, hL⟩ : ∃ L, mxD M = .lst L := ⟨_, rfl⟩
      rw [hL] at g ⊢
      simp -implicitDefEqProofs [mNO, getO_ap, g, r])
    (by rw [List.length_map, List.length_range]; omega) (fun _ => rfl) (fun a _ => rfl) (fun a ha => by
      obtain ⟨i, hi, rfl⟩ := List.mem_map.mp ha
      have hi := List.mem_range.mp hi
      have i1 := ixM (M := M) (c := ps.length + i) (by omega)
      have i3 := ixR (d := rw_ (M.getD (ps.length + i) [])) (.inr rfl) (c := col) (by rw [hM _ (getD_memM (by omega))]; exact hc)
      have n1 := ne_fr (p := (M.getD (ps.length + i) []).getD col 0) (q := 0)
      rw [← zlit] at n1
      have en : (!decide ((M.getD (ps.length + i) []).getD col 0 = 0)) = decide ((M.getD (ps.length + i) []).getD col 0 ≠ 0) := by simp
      rw [en] at n1
      generalize decide ((M.getD (ps.length + i) []).getD col 0 ≠ 0) = B at *
      generalize (M.getD (ps.length + i) []).getD col 0 = x at *
      generalize rw_ (M.getD (ps.length + i) []) = A at *
      generalize mxD M = MM at *
      generalize ps.length + i = j at *
      simp -implicitDefEqProofs [mreduced_t1, m2B, evB, rdB, getO_ap, i1, i3, n1]) (fun a _ _ => rfl)
  exact e
theorem heres_mem {a : Nat} (h : a ∈ heres top col M) : top ≤ a ∧ a < M.length ∧ (M.getD a []).getD col 0 ≠ 0 := by
  obtain ⟨h1, h2⟩ := List.mem_filter.mp h
  obtain ⟨i, hi, rfl⟩ := List.mem_map.mp h1
  have hi := List.mem_range.mp hi
  exact ⟨by omega, by omega, of_decide_eq_true h2⟩
theorem swapped_len {h : Nat} : (swapped top h M).length = M.length := by unfold swapped; rw [List.length_set, List.length_set]
theorem swapped_top {h : Nat} (ht : top < M.length) (hh : h < M.length) : (swapped top h M).getD top [] = M.getD h [] := by
  unfold swapped
  rw [getD_set (by rw [List.length_set]; exact hh)]
  by_cases e : h = top
  · rw [if_pos e, e]
  · rw [if_neg e, getD_set ht, if_pos rfl]
theorem swapped_mem {h : Nat} (ht : top < M.length) (hh : h < M.length) {r : List Rat} (hr : r ∈ swapped top h M) : r ∈ M := by
  unfold swapped at hr
  rcases List.mem_or_eq_of_mem_set hr with z | z
  · rcases List.mem_or_eq_of_mem_set z with z | z
    · exact z
    · rw [z]; exact getD_memM hh
  · rw [z]; exact getD_memM ht
abbrev mb4_swap : MS := msAsg (mN gTup (mCons (m2B gIx (.ow 2) (.ex (m2 gIx (mVar 7) (mK (.int 0))))) (mCons (m2B gIx (.ow 2) (.ex (mVar 6))) mNil))) (mgTup 2 (mgCons (mgSub 2 (mVar 6)) (mgCons (mgSub 2 (m2 gIx (mVar 7) (mK (.int 0)))) mgNil)))
abbrev mb4_inv : MS := msAsg (mCall Q.Finverted (mCons (m2 gIx (m2B gIx (.ow 2) (.ex (mVar 6))) (mVar 5)) mNil)) (mgName 9)
abbrev mb4_sc : MS := msAsg (mLc [10] (mIter (m2B gIx (.ow 2) (.ex (mVar 6)))) (mgName 10) mYes mreduced_e2) (mgSub 2 (mVar 6))
theorem v_swap {h : Nat} {hs : List Nat} (ht : top < M.length) (hh : h < M.length) : mb4_swap (Rd d0 cs (mxD M) (nl ps) o5 (some (.int (top : Nat))) (some (nl (h :: hs))) o8 o9) = .nx (Rd d0 cs (mxD (swapped top h M)) (nl ps) o5 (some (.int (top : Nat))) (some (nl (h :: hs))) o8 o9) := by
  have sz := szv
  have i0 : gIx (nl (h :: hs)) (.int 0) = some (.int (h : Nat)) := by
    show L2.atI ((h :: hs).map fun i => D.int (i : Nat)) ((0 : Nat) : Int) = _
    rw [atI_nat' _ 0 (by simp)]
    rfl
  have i1 := ixM (M := M) hh
  have i2 := ixM (M := M) ht
  have s1 := setM (M := M) ht (M.getD h [])
  have s2 := setM (M := M.set top (M.getD h [])) (c := h) (by rw [List.length_set]; exact hh) (M.getD top [])
  unfold swapped
  generalize (M.set top (M.getD h [])).set h (M.getD top []) = M2 at *
  generalize M.set top (M.getD h []) = M1 at *
  generalize rw_ (M.getD top []) = T at *
  generalize rw_ (M.getD h []) = A at *
  obtain ⟨L, hL⟩ : ∃ L, mxD M = .lst L := ⟨_, rfl⟩
  obtain ⟨L1, hL1⟩ : ∃ L, mxD M1 = .lst L := ⟨_, rfl⟩
  rw [hL] at i1 i2 s1 ⊢
  rw [hL1] at s1 s2
  generalize mxD M2 = MM2 at *
  generalize nl (h :: hs) = N at *
  simp -implicitDefEqProofs [mb4_swap, m2B, evB, rdB, getO_ap, i0, i1, i2, mgSub, s1, s2, show 2 ≤ sizeLine by omega]
theorem v_inv {h : Nat} (ht : top < M.length) (hc : col < W) (hr : Rw W k (M.getD top [])) (hk : k ≤ 8000) (hz : (M.getD top []).getD col 0 ≠ 0) : mb4_inv (Rd d0 cs (mxD M) (nl ps) (some (.int (col : Nat))) (some (.int (top : Nat))) o7 o8 o9) = .nx (Rd d0 cs (mxD M) (nl ps) (some (.int (col : Nat))) (some (.int (top : Nat))) o7 o8 (some (fr ((M.getD top []).getD col 0)⁻¹))) := by
  have i2 := ixM (M := M) ht
  have i3 := ixR (d := rw_ (M.getD top [])) (.inr rfl) (c := col) (by rw [hr.1]; exact hc)
  have v := fun ρ => v_inverted (hr.g hc) hz hk ρ
  generalize (M.getD top []).getD col 0 = x at *
  generalize rw_ (M.getD top []) = T at *
  generalize mxD M = MM at *
  simp -implicitDefEqProofs [mb4_inv, m2B, evB, rdB, getO_ap, i2, i3, mCall_R, v]
theorem v_sc (ht : top < M.length) (hc : col < W) (hW : W ≤ 1000) (hr : Rw W k (M.getD top [])) (hk : 2 * k ≤ 8000) (hz : (M.getD top []).getD col 0 ≠ 0) : mb4_sc (Rd d0 cs (mxD M) (nl ps) (some (.int (col : Nat))) (some (.int (top : Nat))) o7 o8 (some (fr ((M.getD top []).getD col 0)⁻¹))) = .nx (Rd d0 cs (mxD (scaled top col M)) (nl ps) (some (.int (col : Nat))) (some (.int (top : Nat))) o7 o8 (some (fr ((M.getD top []).getD col 0)⁻¹))) := by
  have sz := szv
  have i2 := ixM (M := M) ht
  have sx := (hr.g hc).inv hz
  have s1 := setM (M := M) ht ((M.getD top []).map fun x => ((M.getD top []).getD col 0)⁻¹ * x)
  unfold scaled
  generalize ((M.getD top []).getD col 0)⁻¹ = x at *
  generalize M.set top ((M.getD top []).map fun y => x * y) = M' at *
  generalize M.getD top [] = r at *
  have e := mLc_map (as := r) (enc := fr) (vs := [10]) (g := mgName 10) (mi := mIter (m2B gIx (.ow 2) (.ex (mVar 6)))) (me := mreduced_e2)
    (ρ0 := Rd d0 cs (mxD M) (nl ps) (some (.int (col : Nat))) (some (.int (top : Nat))) o7 o8 (some (fr x))) (ρ := Rd d0 cs (mxD M) (nl ps) (some (.int (col : Nat))) (some (.int (top : Nat))) o7 o8 (some (fr x)))
    (st := fun y => [some d0, some (.int cs), some (mxD M), none, some (nl ps), some (.int (col : Nat)), some (.int (top : Nat)), o7, o8, some (fr x), some (fr y)]) (f := fun y => fr (x * y))
    (by
      generalize mxD M = MM at *
      simp -implicitDefEqProofs [m2B, evB, rdB, getO_ap, i2, gIter]) (by rw [hr.1]; omega) (fun _ => rfl) (fun _ _ => rfl) (fun y hy => by
      have v := fun ρ => v_multiplied sx (hr.2 y hy) (by omega) ρ
      simp -implicitDefEqProofs [mreduced_e2, mCall_R, v])
  have e2 : r.map (fun y => fr (x * y)) = (r.map fun y => x * y).map fr := by rw [List.map_map]; rfl
  rw [e2] at e
  obtain ⟨L, hL⟩ : ∃ L, mxD M = .lst L := ⟨_, rfl⟩
  have e3 : D.lst ((r.map fun y => x * y).map fr) = rw_ (r.map fun y => x * y) := rfl
  rw [e3] at e
  generalize rw_ (r.map fun y => x * y) = N at *
  generalize mxD M' = MM' at *
  rw [hL] at e s1 ⊢
  simp -implicitDefEqProofs [mb4_sc, e, mgSub, getO_ap, s1]
theorem ps_app (h : ps.length ≤ 1000) (c : Nat) : gAppend (ps.map fun i => D.int (i : Nat)) [.int (c : Nat)] = some (.non, (ps ++ [c]).map fun i => D.int (i : Nat)) := by
  have sz := szv
  have : (ps.map fun i => D.int (i : Nat)).length < sizeLine := by rw [List.length_map]; omega
  show (if _ then _ else _) = _
  rw [if_pos this]
  simp
def Mx (m W k : Nat) (M : List (List Rat)) : Prop := M.length = m ∧ ∀ r ∈ M, Rw W k r
theorem Mx.up {m W i j : Nat} (h : Mx m W i M) (l : i ≤ j) : Mx m W j M := ⟨h.1, fun r hr => (h.2 r hr).up l⟩
theorem swapped_mx {h : Nat} (hM : Mx m W k M) (ht : top < m) (hh : h < m) : Mx m W k (swapped top h M) :=
  ⟨by rw [swapped_len]; exact hM.1, fun r hr => hM.2 r (swapped_mem (by rw [hM.1]; exact ht) (by rw [hM.1]; exact hh) hr)⟩
theorem scaled_jn (hM : Mx m W k M) (ht : top < m) (hc : col < W) (hz : (M.getD top []).getD col 0 ≠ 0) : Jn W k m top (List.range m) (scaled top col M) := by
  have rt := hM.2 _ (getD_memM (M := M) (i := top) (by rw [hM.1]; exact ht))
  have rs : Rw W (2 * k) ((M.getD top []).map fun x => ((M.getD top []).getD col 0)⁻¹ * x) := by
    refine ⟨by rw [List.length_map]; exact rt.1, fun x hx => ?_⟩
    obtain ⟨y, hy, rfl⟩ := List.mem_map.mp hx
    exact (((rt.g hc).inv hz).mul (rt.2 y hy)).up (by omega)
  have hl : top < M.length := by rw [hM.1]; exact ht
  have g : ∀ i, i < m → i ≠ top → (scaled top col M).getD i [] = M.getD i [] := fun i hi ne => by
    unfold scaled
    rw [getD_set hl, if_neg (fun e => ne e.symm)]
  have gt : (scaled top col M).getD top [] = (M.getD top []).map fun x => ((M.getD top []).getD col 0)⁻¹ * x := by
    unfold scaled
    rw [getD_set hl, if_pos rfl]
  refine ⟨by unfold scaled; rw [List.length_set]; exact hM.1, fun i hi => ?_, by rw [gt]; exact rs, fun i hi => ⟨List.mem_range.mp hi, fun ne => ?_⟩⟩
  · by_cases e : i = top
    · rw [e, gt]; exact rs.up (by omega)
    · rw [g i hi e]
      exact (hM.2 _ (getD_memM (by rw [hM.1]; exact hi))).up (by omega)
  · rw [g i (List.mem_range.mp hi) ne]
    exact hM.2 _ (getD_memM (by rw [hM.1]; exact List.mem_range.mp hi))
theorem mem_getD {M : List (List Rat)} {r : List Rat} (h : r ∈ M) : ∃ i, i < M.length ∧ M.getD i [] = r := by
  obtain ⟨i, hi, e⟩ := List.mem_iff_getElem.mp h
  exact ⟨i, hi, by rw [← e]; simp [List.getD, hi]⟩
theorem v_col (hM : Mx m W k M) (hm : m ≤ 1000) (hp : ps.length ≤ 1000) (hc : col < W) (hW : W ≤ 1000) (hk : 4 * k + 1 ≤ 8000) :
    (∃ o6' o7' o8' o9', mreduced_b4 (Rd d0 cs (mxD M) (nl ps) (some (.int (col : Nat))) o6 o7 o8 o9) = .nx (Rd d0 cs (mxD (stepC (M, ps) col).1) (nl (stepC (M, ps) col).2) (some (.int (col : Nat))) o6' o7' o8' o9') ∨
      mreduced_b4 (Rd d0 cs (mxD M) (nl ps) (some (.int (col : Nat))) o6 o7 o8 o9) = .ct (Rd d0 cs (mxD (stepC (M, ps) col).1) (nl (stepC (M, ps) col).2) (some (.int (col : Nat))) o6' o7' o8' o9')) ∧ Mx m W (4 * k + 1) (stepC (M, ps) col).1 := by
  have sz := szv
  have gp := gLen_nl (ps := ps) hp
  have vh := v_heres (d0 := d0) (cs := cs) (o7 := o7) (o8 := o8) (o9 := o9) hM.1 hm hp hc (fun r hr => (hM.2 r hr).1)
  have e1 : msAsg (mNO gLen 4) (mgName 6) (Rd d0 cs (mxD M) (nl ps) (some (.int (col : Nat))) o6 o7 o8 o9) = .nx (Rd d0 cs (mxD M) (nl ps) (some (.int (col : Nat))) (some (.int (ps.length : Nat))) o7 o8 o9) := by
    obtain ⟨L, hL⟩ : ∃ L, nl ps = .lst L := ⟨_, rfl⟩
    rw [hL] at gp ⊢
    generalize mxD M = MM
    simp -implicitDefEqProofs [mNO, getO_ap, gp]
  have e2 : msAsg (mLc [8] (mItN gRange2 (mCons (mVar 6) (mCons (mNO gLen 2) mNil))) (mgName 8) mreduced_t1 (mVar 8)) (mgName 7) (Rd d0 cs (mxD M) (nl ps) (some (.int (col : Nat))) (some (.int (ps.length : Nat))) o7 o8 o9) = .nx (Rd d0 cs (mxD M) (nl ps) (some (.int (col : Nat))) (some (.int (ps.length : Nat))) (some (nl (heres ps.length col M))) o8 o9) := by
    generalize nl (heres ps.length col M) = HH at *
    generalize mxD M = MM at *
    rw [msAsg_ap, vh]
    rfl
  unfold mreduced_b4
  rw [seq_nx e1, seq_nx e2]
  unfold stepC
  cases hh : heres ps.length col M with
  | nil =>
    refine ⟨⟨some (.int (ps.length : Nat)), some (nl []), o8, o9, .inr ?_⟩, hM.up (by omega)⟩
    have e3 : msIf (mNotT (mTru (mVar 7))) msCnt msNil (Rd d0 cs (mxD M) (nl ps) (some (.int (col : Nat))) (some (.int (ps.length : Nat))) (some (nl [])) o8 o9) = .ct (Rd d0 cs (mxD M) (nl ps) (some (.int (col : Nat))) (some (.int (ps.length : Nat))) (some (nl [])) o8 o9) := by
      generalize mxD M = MM
      simp -implicitDefEqProofs [tru]
    rw [msSeq_ap, e3]
  | cons h hs =>
    have hm0 := heres_mem (a := h) (by rw [hh]; exact List.mem_cons_self)
    have ht : ps.length < M.length := by omega
    have ht' : ps.length < m := by rw [← hM.1]; exact ht
    have hhm : h < m := by rw [← hM.1]; exact hm0.2.1
    have e3 : msIf (mNotT (mTru (mVar 7))) msCnt msNil (Rd d0 cs (mxD M) (nl ps) (some (.int (col : Nat))) (some (.int (ps.length : Nat))) (some (nl (h :: hs))) o8 o9) = .nx (Rd d0 cs (mxD M) (nl ps) (some (.int (col : Nat))) (some (.int (ps.length : Nat))) (some (nl (h :: hs))) o8 o9) := by
      generalize mxD M = MM
      simp -implicitDefEqProofs [tru]
    have e4 := v_swap (d0 := d0) (cs := cs) (ps := ps) (o5 := some (.int (col : Nat))) (o8 := o8) (o9 := o9) (hs := hs) ht hm0.2.1
    have mS := swapped_mx hM ht' hhm
    have st := swapped_top ht hm0.2.1
    have hz : ((swapped ps.length h M).getD ps.length []).getD col 0 ≠ 0 := by rw [st]; exact hm0.2.2
    have htS : ps.length < (swapped ps.length h M).length := by rw [swapped_len]; exact ht
    have rt := mS.2 _ (getD_memM htS)
    have e5 := v_inv (d0 := d0) (cs := cs) (ps := ps) (o7 := some (nl (h :: hs))) (o8 := o8) (o9 := o9) (h := h) htS hc rt (by omega) hz
    have e6 := v_sc (d0 := d0) (cs := cs) (ps := ps) (o7 := some (nl (h :: hs))) (o8 := o8) htS hc hW rt (by omega) hz
    have jn := scaled_jn mS ht' hc hz
    have hml := hM.1
    show (∃ o6' o7' o8' o9', _ = Out.nx (Rd d0 cs (mxD ((List.range M.length).foldl (inner ps.length col) (scaled ps.length col (swapped ps.length h M)))) (nl (ps ++ [col])) (some (.int (col : Nat))) o6' o7' o8' o9') ∨ _) ∧ Mx m W (4 * k + 1) ((List.range M.length).foldl (inner ps.length col) (scaled ps.length col (swapped ps.length h M)))
    rw [hml]
    obtain ⟨⟨o8', e7⟩, jn'⟩ := v_inners (d0 := d0) (cs := cs) (ps := ps) (o7 := some (nl (h :: hs))) (o9 := some (fr (((swapped ps.length h M).getD ps.length []).getD col 0)⁻¹)) ht' hc hW hk (List.range m) (scaled ps.length col (swapped ps.length h M)) o8 List.nodup_range jn
    refine ⟨⟨some (.int (ps.length : Nat)), some (nl (h :: hs)), o8', some (fr (((swapped ps.length h M).getD ps.length []).getD col 0)⁻¹), .inl ?_⟩, jn'.1, fun r hr => ?_⟩
    · rw [seq_nx e3, seq_nx e4, seq_nx e5, seq_nx e6]
      have g := gLen_mx (M := scaled ps.length col (swapped ps.length h M))
      rw [jn.1] at g
      generalize (List.range m).foldl (inner ps.length col) (scaled ps.length col (swapped ps.length h M)) = M9 at *
      generalize scaled ps.length col (swapped ps.length h M) = M8 at *
      generalize fr (((swapped ps.length h M).getD ps.length []).getD col 0)⁻¹ = F at *
      generalize nl (h :: hs) = HH at *
      have r1 := range1 (n := m) (by omega)
      generalize hR : (List.range m).map (fun i => D.int (i : Nat)) = R at *
      have e8 : msFor (mItN gRange1 (mCons (mNO gLen 2) mNil)) (mgName 8) mreduced_b3 (Rd d0 cs (mxD M8) (nl ps) (some (.int (col : Nat))) (some (.int (ps.length : Nat))) (some HH) o8 (some F)) = .nx (Rd d0 cs (mxD M9) (nl ps) (some (.int (col : Nat))) (some (.int (ps.length : Nat))) (some HH) o8' (some F)) := by
        obtain ⟨L, hL⟩ : ∃ L, mxD M8 = .lst L := ⟨_, rfl⟩
        rw [hL] at g e7 ⊢
        generalize mxD M9 = MM9 at *
        generalize mreduced_b3 = B at *
        simp -implicitDefEqProofs [mNO, getO_ap, g, r1, -gRange1_i, e7]
      rw [seq_nx e8]
      have pa := ps_app hp col
      generalize mxD M9 = MM9 at *
      simp -implicitDefEqProofs [mOM, getO_ap, pa]
    · obtain ⟨i, hi, rfl⟩ := mem_getD hr
      exact jn'.2.1 i (by rw [← jn'.1]; exact hi)
def kk (k : Nat) : Nat → Nat
  | 0 => k
  | n + 1 => 4 * kk k n + 1
theorem kk_le (k n : Nat) : k ≤ kk k n := by
  induction n with
  | zero => exact Nat.le_refl _
  | succ n ih => unfold kk; omega
theorem step_len (s : List (List Rat) × List Nat) (c : Nat) : (stepC s c).2.length ≤ s.2.length + 1 := by
  unfold stepC
  split <;> simp
theorem v_cols (hm : m ≤ 1000) (hW : W ≤ 1000) : ∀ (n a : Nat) (s : List (List Rat) × List Nat) (k : Nat) (o5 o6 o7 o8 o9 : Option D), a + n ≤ W → s.2.length ≤ a → Mx m W k s.1 → kk k n ≤ 8000 →
    (∃ o5' o6' o7' o8' o9', loopL (mgName 5) mreduced_b4 ((List.range' a n).map fun i => D.int (i : Nat)) (Rd d0 cs (mxD s.1) (nl s.2) o5 o6 o7 o8 o9) = .nx (Rd d0 cs (mxD ((List.range' a n).foldl stepC s).1) (nl ((List.range' a n).foldl stepC s).2) o5' o6' o7' o8' o9')) ∧ Mx m W (kk k n) ((List.range' a n).foldl stepC s).1 := by
  intro n
  induction n with
  | zero => exact fun a s k o5 o6 o7 o8 o9 _ _ h _ => ⟨⟨o5, o6, o7, o8, o9, rfl⟩, h⟩
  | succ n ih =>
    intro a s k o5 o6 o7 o8 o9 ha hs hM hk
    have kks : ∀ n k, kk (4 * k + 1) n = kk k (n + 1) := by
      intro n
      induction n with
      | zero => intro k; rfl
      | succ n ih2 => intro k; show 4 * kk (4 * k + 1) n + 1 = 4 * kk k (n + 1) + 1; rw [ih2]
    have h4 : 4 * k + 1 ≤ 8000 := by
      have := kk_le (4 * k + 1) n
      rw [kks] at this
      omega
    obtain ⟨⟨o6', o7', o8', o9', e⟩, hM'⟩ := v_col (d0 := d0) (cs := cs) (M := s.1) (ps := s.2) (col := a) (o6 := o6) (o7 := o7) (o8 := o8) (o9 := o9) hM hm (by omega) (by omega) hW h4
    have hs' := step_len s a
    obtain ⟨⟨p5, p6, p7, p8, p9, e2⟩, hM2⟩ := ih (a + 1) (stepC s a) (4 * k + 1) (some (.int (a : Nat))) o6' o7' o8' o9' (by omega) (by omega) hM' (by rw [kks]; exact hk)
    rw [kks] at hM2
    rw [List.range'_succ, List.foldl_cons, List.map_cons]
    refine ⟨⟨p5, p6, p7, p8, p9, ?_⟩, hM2⟩
    have g : mgName 5 (.int (a : Nat)) (Rd d0 cs (mxD s.1) (nl s.2) o5 o6 o7 o8 o9) = .ok () (Rd d0 cs (mxD s.1) (nl s.2) (some (.int (a : Nat))) o6 o7 o8 o9) := by rw [mgName_ap]; rfl
    rcases e with e | e
    · rw [loop_step g e]; exact e2
    · have : ∀ {g : MG} {mb : MS} {d : D} {ds : List D} {ρ ρ1 ρ2 : En}, g d ρ = .ok () ρ1 → mb ρ1 = .ct ρ2 → loopL g mb (d :: ds) ρ = loopL g mb ds ρ2 := fun h1 h2 => by simp only [loopL, h1, h2]
      rw [this g e]; exact e2
theorem v_reduced {ds : D} {e : List Rat → D} (hd : gIter ds = some (M.map e)) (he : ∀ r ∈ M, Sq (e r) (r.map fr)) (hM : Mx m W k M) (hm : m ≤ 1000) (hW : W ≤ 1000) (hc : cs ≤ W) (hk : kk k cs ≤ 8000) (ρ : En) :
    (Freduced [ds, .int (cs : Nat)]).R ρ = .ok (.tup [mxD (red cs M).1, nl (red cs M).2]) ρ ∧ Mx m W (kk k cs) (red cs M).1 := by
  have sz := szv
  obtain ⟨⟨o5, o6, o7, o8, o9, e2⟩, h2⟩ := v_cols (d0 := ds) (cs := cs) hm hW cs 0 (M, []) k none none none none none (by omega) (Nat.zero_le _) hM hk
  rw [← List.range_eq_range'] at e2 h2
  refine ⟨?_, h2⟩
  have e0 : mLc [3] (mIter (mVar 0)) (mgName 3) mYes mreduced_e0 [some ds, some (.int (cs : Nat)), none, none, none, none, none, none, none, none, none] = .ok (mxD M) [some ds, some (.int (cs : Nat)), none, none, none, none, none, none, none, none, none] := by
    refine mLc_map (as := M) (enc := e) (st := fun r => [some ds, some (.int (cs : Nat)), none, some (e r), none, none, none, none, none, none, none]) (f := rw_) ?_ (by rw [hM.1]; omega) (fun _ => rfl) (fun _ _ => rfl) (fun r hr => ?_)
    · simp -implicitDefEqProofs [hd]
    · have := (he r hr).glst
      simp -implicitDefEqProofs [mreduced_e0, this]
  have r1 := range1 (n := cs) (by omega)
  show (runM 11 2 [] false mreduced [ds, .int (cs : Nat)]).R ρ = _
  have a1 : msOwn 2 (mLc [3] (mIter (mVar 0)) (mgName 3) mYes mreduced_e0) [some ds, some (.int (cs : Nat)), none, none, none, none, none, none, none, none, none] = .nx [some ds, some (.int (cs : Nat)), some (mxD M), none, none, none, none, none, none, none, none] := by
    generalize mxD M = MM at *
    simp -implicitDefEqProofs [e0]
  have a2 : msOwn 4 (mN gLst mNil) [some ds, some (.int (cs : Nat)), some (mxD M), none, none, none, none, none, none, none, none] = .nx (Rd ds cs (mxD M) (nl []) none none none none none) := by
    generalize mxD M = MM at *
    simp -implicitDefEqProofs
  have a3 : msFor (mItN gRange1 (mCons (mVar 1) mNil)) (mgName 5) mreduced_b4 (Rd ds cs (mxD M) (nl []) none none none none none) = .nx (Rd ds cs (mxD (red cs M).1) (nl (red cs M).2) o5 o6 o7 o8 o9) := by
    unfold red
    generalize mreduced_b4 = B at *
    generalize (List.range cs).map (fun i => D.int (i : Nat)) = R at *
    generalize mxD M = MM at *
    simp -implicitDefEqProofs [r1, -gRange1_i]
    exact e2
  have a4 : msRet (mN gTup (mCons (mVar 2) (mCons (mVar 4) mNil))) (Rd ds cs (mxD (red cs M).1) (nl (red cs M).2) o5 o6 o7 o8 o9) = .rt (.tup [mxD (red cs M).1, nl (red cs M).2]) (Rd ds cs (mxD (red cs M).1) (nl (red cs M).2) o5 o6 o7 o8 o9) := by
    generalize mxD (red cs M).1 = X1
    generalize nl (red cs M).2 = X2
    simp -implicitDefEqProofs [show 2 ≤ sizeLine by omega]
  have a5 : mreduced (pad 11 [ds, .int (cs : Nat)]) = .rt (.tup [mxD (red cs M).1, nl (red cs M).2]) (Rd ds cs (mxD (red cs M).1) (nl (red cs M).2) o5 o6 o7 o8 o9) := by
    show mreduced [some ds, some (.int (cs : Nat)), none, none, none, none, none, none, none, none, none] = _
    unfold mreduced
    rw [msForget_ap]
    have b1 : [some ds, some (D.int (cs : Nat)), none, none, none, none, none, none, none, none, none].set 2 none = [some ds, some (.int (cs : Nat)), none, none, none, none, none, none, none, none, none] := rfl
    rw [b1, seq_nx a1, msForget_ap]
    have b2 : [some ds, some (D.int (cs : Nat)), some (mxD M), none, none, none, none, none, none, none, none].set 4 none = [some ds, some (.int (cs : Nat)), some (mxD M), none, none, none, none, none, none, none, none] := rfl
    rw [b2, seq_nx a2, seq_nx a3, a4]
  rw [runM_rt (ds := [ds, .int (cs : Nat)]) (np := 2) (dd := []) rfl a5]
  rfl
end
end Q
namespace Q
open DL L2 PySem PySem.Spec PyProof.Rows
section
variable {M : List (List Rat)} {W k m top col : Nat}
theorem heres_top {s : List (List Rat) × List Nat} {col h : Nat} {hs : List Nat} (e : heres s.2.length col s.1 = h :: hs) : s.2.length < s.1.length := by
  have := heres_mem (a := h) (by rw [e]; exact List.mem_cons_self)
  omega
theorem inner_len (a : Nat) : (inner top col M a).length = M.length := by
  unfold inner
  split
  · rw [List.length_set]
  · rfl
theorem inners_len : ∀ (ks : List Nat) (M : List (List Rat)), (ks.foldl (inner top col) M).length = M.length
  | [], _ => rfl
  | a :: ks, M => by rw [List.foldl_cons, inners_len ks, inner_len]
theorem step_mlen (s : List (List Rat) × List Nat) (c : Nat) : (stepC s c).1.length = s.1.length := by
  unfold stepC
  split
  · rfl
  · show (List.foldl (inner s.2.length c) (scaled s.2.length c (swapped s.2.length _ s.1)) (List.range s.1.length)).length = _
    rw [inners_len]
    unfold scaled
    rw [List.length_set, swapped_len]
theorem step_piv (s : List (List Rat) × List Nat) (c : Nat) (h : s.2.length ≤ s.1.length) : (stepC s c).2.length ≤ s.1.length := by
  unfold stepC
  split
  · exact h
  · rename_i a hs e
    have := heres_top e
    show (s.2 ++ [c]).length ≤ _
    rw [List.length_append]
    exact this
theorem step_pmem (s : List (List Rat) × List Nat) (c : Nat) {p : Nat} (h : p ∈ (stepC s c).2) : p ∈ s.2 ∨ p = c := by
  unfold stepC at h
  split at h
  · exact .inl h
  · rcases List.mem_append.mp h with z | z
    · exact .inl z
    · exact .inr (List.mem_singleton.mp z)
theorem red_piv (cs : Nat) (M : List (List Rat)) : (red cs M).1.length = M.length ∧ (red cs M).2.length ≤ M.length ∧ (red cs M).2.length ≤ cs ∧ ∀ p ∈ (red cs M).2, p < cs := by
  unfold red
  induction cs with
  | zero => exact ⟨rfl, Nat.zero_le _, Nat.zero_le _, fun p h => nomatch h⟩
  | succ n ih =>
    obtain ⟨h1, h2, h4, h3⟩ := ih
    rw [List.range_succ, List.foldl_append]
    simp only [List.foldl_cons, List.foldl_nil]
    refine ⟨by rw [step_mlen, h1], by rw [← h1] at h2 ⊢; exact step_piv _ _ h2, by have := step_len ((List.range n).foldl stepC (M, [])) n; omega, fun p hp => ?_⟩
    rcases step_pmem _ _ hp with z | z
    · have := h3 p z; omega
    · omega
end
def fill (w : Nat) (L : List (List Rat)) (ps : List Nat) : List Rat := ps.zipIdx.foldl (fun v p => v.set p.1 ((L.getD p.2 []).getD w 0)) (List.replicate w 0)
def slv (w : Nat) (M : List (List Rat)) : Option (List Rat) := if ((red w M).1.drop (red w M).2.length).any (fun r => decide (r.getD w 0 ≠ 0)) = true then none else some (fill w (red w M).1 (red w M).2)
def oD : Option (List Rat) → D
  | none => .non
  | some v => frs v
section
variable {w m k : Nat} {R : List (List Rat)} {b : List Rat} {d1 d2 : D} {e : List Rat → D}
abbrev Sv (w : Nat) (d1 d2 : D) (o3 o4 o5 o6 o7 o8 o9 : Option D) : En := [some (.int w), some d1, some d2, o3, o4, o5, o6, o7, o8, o9]
def aug (R : List (List Rat)) (b : List Rat) : List (List Rat) := (R.zip b).map fun p => p.1 ++ [p.2]
theorem v_solved (h1 : gIter d1 = some (R.map e)) (he : ∀ r ∈ R, Sq (e r) (r.map fr)) (h2 : gIter d2 = some (b.map fr)) (hM : Mx m (w + 1) k (aug R b)) (hm : m ≤ 1000) (hw : w ≤ 500) (hk : kk k w ≤ 8000) (ρ : En) :
    (Fsolved [.int (w : Nat), d1, d2]).R ρ = .ok (oD (slv w (aug R b))) ρ := by
  have sz := szv
  have hl : (R.zip b).length = m := by rw [← hM.1]; unfold aug; rw [List.length_map]
  -- the matrix
  have e0 : mLc [5, 6] (mItN gZipS (mCons (mVar 1) (mCons (mVar 2) mNil))) (mgTup 2 (mgCons (mgName 5) (mgCons (mgName 6) mgNil))) mYes msolved_e0 (Sv w d1 d2 none none none none none none none) = .ok (mxD (aug R b)) (Sv w d1 d2 none none none none none none none) := by
    have gz : gZipS [d1, d2] = some ((R.zip b).map fun p => .tup [e p.1, fr p.2]) := by
      show (gIter d1).bind (fun xs => (gIter d2).map fun ys => (xs.zip ys).map fun p => D.tup [p.1, p.2]) = _
      rw [h1, Option.bind_some, h2, Option.map_some, List.zip_map, List.map_map]
      rfl
    have := mLc_map (as := R.zip b) (enc := fun p => .tup [e p.1, fr p.2]) (vs := [5, 6]) (g := mgTup 2 (mgCons (mgName 5) (mgCons (mgName 6) mgNil))) (mi := mItN gZipS (mCons (mVar 1) (mCons (mVar 2) mNil))) (me := msolved_e0)
      (ρ0 := Sv w d1 d2 none none none none none none none) (ρ := Sv w d1 d2 none none none none none none none) (st := fun p => Sv w d1 d2 none none (some (e p.1)) (some (fr p.2)) none none none) (f := fun p => rw_ (p.1 ++ [p.2]))
      (by simp -implicitDefEqProofs [gz]) (by omega) (fun _ => rfl) (fun p hp => rfl) (fun p hp => by
        have hm := List.of_mem_zip (a := p.1) (b := p.2) hp
        have hr := hM.2 (p.1 ++ [p.2]) (List.mem_map.mpr ⟨p, hp, rfl⟩)
        have hrl := hr.1
        have gl := (he p.1 hm.1).glst
        rw [List.length_append] at hrl
        have ga : gAdd (.lst (p.1.map fr)) (.lst [fr p.2]) = some (rw_ (p.1 ++ [p.2])) := by
          show (if _ then _ else _) = _
          rw [if_pos (by rw [List.length_map]; show p.1.length + 1 ≤ sizeLine; simp at hrl; omega)]
          show _ = some (D.lst ((p.1 ++ [p.2]).map fr))
          rw [List.map_append]
          rfl
        generalize rw_ (p.1 ++ [p.2]) = N at *
        generalize p.1.map fr = PP at *
        simp -implicitDefEqProofs [msolved_e0, gl, ga, show 1 ≤ sizeLine by omega])
    have e2 : (R.zip b).map (fun p => rw_ (p.1 ++ [p.2])) = (aug R b).map rw_ := by unfold aug; rw [List.map_map]; rfl
    rw [this, e2]
  obtain ⟨vr, hM'⟩ := v_reduced (M := aug R b) (ds := mxD (aug R b)) (e := rw_) (cs := w) rfl (fun r _ => .inr rfl) hM hm (by omega) (by omega) hk []
  have vr := fun ρ => (v_reduced (M := aug R b) (ds := mxD (aug R b)) (e := rw_) (cs := w) rfl (fun r _ => .inr rfl) hM hm (by omega) (by omega) hk ρ).1
  obtain ⟨q1, q2, q3, q4⟩ := red_piv w (aug R b)
  rw [hM.1] at q1 q2
  unfold slv
  generalize (red w (aug R b)).1 = L at *
  generalize (red w (aug R b)).2 = ps at *
  have a1 : msolved_s1 (Sv w d1 d2 none none none none none none none) = .nx (Sv w d1 d2 (some (mxD L)) (some (nl ps)) none none none none none) := by
    generalize mxD L = LL at *
    generalize nl ps = PP at *
    generalize mxD (aug R b) = AA at *
    simp -implicitDefEqProofs [msolved_s1, e0, mCall_R, vr]
  -- the last rows
  have gp := gLen_nl (ps := ps) (by omega)
  have e1 : mLc [5] (mIter (mSl (.ex (mVar 3)) (mPart (mN gLen (mCons (mVar 4) mNil))) mNoP)) (mgName 5) mYes msolved_e2 (Sv w d1 d2 (some (mxD L)) (some (nl ps)) none none none none none) = .ok (.lst ((L.drop ps.length).map fun r => D.bl (decide (r.getD w 0 ≠ 0)))) (Sv w d1 d2 (some (mxD L)) (some (nl ps)) none none none none none) := by
    refine mLc_map (as := L.drop ps.length) (enc := rw_) (st := fun r => Sv w d1 d2 (some (mxD L)) (some (nl ps)) (some (rw_ r)) none none none none) (f := fun r => D.bl (decide (r.getD w 0 ≠ 0))) ?_ (by rw [List.length_drop]; omega) (fun _ => rfl) (fun _ _ => rfl) (fun r hr => ?_)
    · have gs : gSl (mxD L) (some (ps.length : Int)) none = some (.lst ((L.drop ps.length).map rw_)) := by
        show some (D.lst (DL.cutD (L.map rw_) _ _)) = _
        rw [cut_from, List.map_drop]
      generalize (L.drop ps.length).map rw_ = LD at *
      generalize mxD L = LL at *
      generalize nl ps = PP at *
      simp -implicitDefEqProofs [mSl, evB, rdB, mNoP, mPart, asI, gp, gs, gIter]
    · have hr := hM'.2 r (List.mem_of_mem_drop hr)
      have i3 := ixR (d := rw_ r) (.inr rfl) (c := w) (by rw [hr.1]; omega)
      have n1 := ne_fr (p := r.getD w 0) (q := 0)
      rw [← zlit] at n1
      have en : (!decide (r.getD w 0 = 0)) = decide (r.getD w 0 ≠ 0) := by simp
      rw [en] at n1
      generalize decide (r.getD w 0 ≠ 0) = B at *
      generalize r.getD w 0 = x at *
      generalize rw_ r = RR at *
      simp -implicitDefEqProofs [msolved_e2, i3, n1]
  have g1 := gAny_map (fun r : List Rat => decide (r.getD w 0 ≠ 0)) (L.drop ps.length)
  cases hb : (L.drop ps.length).any (fun r => decide (r.getD w 0 ≠ 0)) with
  | true =>
    rw [hb] at g1
    have a2 : msolved_s3 (Sv w d1 d2 (some (mxD L)) (some (nl ps)) none none none none none) = .rt .non (Sv w d1 d2 (some (mxD L)) (some (nl ps)) none none none none none) := by
      generalize (L.drop ps.length).map (fun r => D.bl (decide (r.getD w 0 ≠ 0))) = X1 at *
      generalize mxD L = LL at *
      generalize nl ps = PP at *
      simp -implicitDefEqProofs [msolved_s3, e1, g1, tru]
    have a3 : msolved (pad 10 [.int (w : Nat), d1, d2]) = .rt .non (Sv w d1 d2 (some (mxD L)) (some (nl ps)) none none none none none) := by
      unfold msolved
      have : pad 10 [.int (w : Nat), d1, d2] = Sv w d1 d2 none none none none none none none := rfl
      rw [this, seq_nx a1, seq_rt a2]
    show (runM 10 3 [] false msolved [.int (w : Nat), d1, d2]).R ρ = _
    rw [runM_rt (ds := [.int (w : Nat), d1, d2]) (np := 3) (dd := []) rfl a3]
    rfl
  | false =>
    rw [hb] at g1
    have a2 : msolved_s3 (Sv w d1 d2 (some (mxD L)) (some (nl ps)) none none none none none) = .nx (Sv w d1 d2 (some (mxD L)) (some (nl ps)) none none none none none) := by
      generalize (L.drop ps.length).map (fun r => D.bl (decide (r.getD w 0 ≠ 0))) = X1 at *
      generalize mxD L = LL at *
      generalize nl ps = PP at *
      simp -implicitDefEqProofs [msolved_s3, e1, g1, tru]
    have a3 : msolved_s4 (Sv w d1 d2 (some (mxD L)) (some (nl ps)) none none none none none) = .nx (Sv w d1 d2 (some (mxD L)) (some (nl ps)) none none (some (rw_ (List.replicate w 0))) none none) := by
      have gm : gMul (.lst [fr 0]) (.int (w : Nat)) = some (rw_ (List.replicate w 0)) := by
        have f1 : (List.replicate w [fr 0]).flatten = (List.replicate w (0 : Rat)).map fr := by
          rw [List.map_replicate, List.flatten_replicate_singleton]
        simp [gMul, f1]
        omega
      rw [← zlit] at gm
      generalize mxD L = LL at *
      generalize nl ps = PP at *
      obtain ⟨VV, hV⟩ : ∃ VV, rw_ (List.replicate w 0) = .lst VV := ⟨_, rfl⟩
      rw [hV] at gm ⊢
      simp -implicitDefEqProofs [msolved_s4, gm, isL, show 1 ≤ sizeLine by omega, m2F]
    -- the loop
    have lp : ∀ (xs : List (Nat × Nat)) (v : List Rat) (o8 o9 : Option D), (∀ x ∈ xs, x.1 < w ∧ x.2 < L.length) → v.length = w →
        ∃ o8' o9', loopL (mgTup 2 (mgCons (mgName 8) (mgCons (mgName 9) mgNil))) msolved_b5 (xs.map fun x => .tup [.int (x.2 : Nat), .int (x.1 : Nat)]) (Sv w d1 d2 (some (mxD L)) (some (nl ps)) none none (some (rw_ v)) o8 o9) = .nx (Sv w d1 d2 (some (mxD L)) (some (nl ps)) none none (some (rw_ (xs.foldl (fun v p => v.set p.1 ((L.getD p.2 []).getD w 0)) v))) o8' o9') := by
      intro xs
      induction xs with
      | nil => exact fun v o8 o9 _ _ => ⟨o8, o9, rfl⟩
      | cons x xs ih =>
        intro v o8 o9 hx hv
        obtain ⟨x1, x2⟩ := hx x List.mem_cons_self
        have i1 := ixM (M := L) x2
        have hr := hM'.2 _ (getD_memM x2)
        have i3 := ixR (d := rw_ (L.getD x.2 [])) (.inr rfl) (c := w) (by rw [hr.1]; omega)
        have gs : gSet (rw_ v) (.int (x.1 : Nat)) (fr ((L.getD x.2 []).getD w 0)) = some (rw_ (v.set x.1 ((L.getD x.2 []).getD w 0))) := by
          rw [gSet_at (by rw [List.length_map]; omega)]
          show some (D.lst ((v.map fr).set x.1 _)) = some (D.lst ((v.set x.1 _).map fr))
          rw [List.map_set]
        obtain ⟨p8, p9, e⟩ := ih (v.set x.1 ((L.getD x.2 []).getD w 0)) (some (.int (x.2 : Nat))) (some (.int (x.1 : Nat))) (fun y hy => hx y (List.mem_cons_of_mem _ hy)) (by rw [List.length_set]; exact hv)
        refine ⟨p8, p9, ?_⟩
        rw [List.map_cons, List.foldl_cons]
        have g : mgTup 2 (mgCons (mgName 8) (mgCons (mgName 9) mgNil)) (.tup [.int (x.2 : Nat), .int (x.1 : Nat)]) (Sv w d1 d2 (some (mxD L)) (some (nl ps)) none none (some (rw_ v)) o8 o9) = .ok () (Sv w d1 d2 (some (mxD L)) (some (nl ps)) none none (some (rw_ v)) (some (.int (x.2 : Nat))) (some (.int (x.1 : Nat)))) := rfl
        have b : msolved_b5 (Sv w d1 d2 (some (mxD L)) (some (nl ps)) none none (some (rw_ v)) (some (.int (x.2 : Nat))) (some (.int (x.1 : Nat)))) = .nx (Sv w d1 d2 (some (mxD L)) (some (nl ps)) none none (some (rw_ (v.set x.1 ((L.getD x.2 []).getD w 0)))) (some (.int (x.2 : Nat))) (some (.int (x.1 : Nat)))) := by
          generalize v.set x.1 ((L.getD x.2 []).getD w 0) = v' at *
          generalize (L.getD x.2 []).getD w 0 = y at *
          generalize rw_ (L.getD x.2 []) = RR at *
          generalize mxD L = LL at *
          generalize nl ps = PP at *
          obtain ⟨V, hV⟩ : ∃ V, rw_ v = .lst V := ⟨_, rfl⟩
          rw [hV] at gs ⊢
          generalize rw_ v' = VV at *
          simp -implicitDefEqProofs [msolved_b5, i1, i3, mgSub, getO_ap, gs]
        rw [loop_step g b]
        exact e
    obtain ⟨o8, o9, e4⟩ := lp ps.zipIdx (List.replicate w 0) none none (fun x hx => by
      have := List.mem_zipIdx hx
      refine ⟨?_, by omega⟩
      obtain ⟨_, _, h⟩ := this
      have : x.1 ∈ ps := by rw [h]; exact List.getElem_mem _
      exact q4 _ this) List.length_replicate
    have ge : gEnumS [nl ps] = some (ps.zipIdx.map fun x => .tup [.int (x.2 : Nat), .int (x.1 : Nat)]) := by
      show some (enumL (ps.map fun i => D.int (i : Nat))) = _
      unfold enumL
      rw [List.zipIdx_map, List.map_map]
      rfl
    have a4 : msolved_s6 (Sv w d1 d2 (some (mxD L)) (some (nl ps)) none none (some (rw_ (List.replicate w 0))) none none) = .nx (Sv w d1 d2 (some (mxD L)) (some (nl ps)) none none (some (rw_ (fill w L ps))) o8 o9) := by
      unfold fill msolved_s6
      generalize (ps.zipIdx.foldl (fun v p => v.set p.1 ((L.getD p.2 []).getD w 0)) (List.replicate w 0)) = V at *
      generalize ps.zipIdx.map (fun x => D.tup [.int (x.2 : Nat), .int (x.1 : Nat)]) = X1 at *
      generalize mxD L = LL at *
      generalize nl ps = PP at *
      generalize rw_ (List.replicate w 0) = V0 at *
      generalize rw_ V = V1 at *
      generalize msolved_b5 = B at *
      simp -implicitDefEqProofs [msolved_s6, ge]
      exact e4
    have a5 : msRet (mNO gTuple 7) (Sv w d1 d2 (some (mxD L)) (some (nl ps)) none none (some (rw_ (fill w L ps))) o8 o9) = .rt (frs (fill w L ps)) (Sv w d1 d2 (some (mxD L)) (some (nl ps)) none none (some (rw_ (fill w L ps))) o8 o9) := by
      unfold frs
      generalize fill w L ps = V at *
      obtain ⟨V', hV⟩ : ∃ V', V' = V.map fr := ⟨_, rfl⟩
      show msRet (mNO gTuple 7) (Sv w d1 d2 (some (mxD L)) (some (nl ps)) none none (some (D.lst (V.map fr))) o8 o9) = .rt (.tup (V.map fr)) (Sv w d1 d2 (some (mxD L)) (some (nl ps)) none none (some (D.lst (V.map fr))) o8 o9)
      rw [← hV]
      generalize mxD L = LL at *
      generalize nl ps = PP at *
      simp -implicitDefEqProofs [mNO, getO_ap, gTuple]
    have a6 : msolved (pad 10 [.int (w : Nat), d1, d2]) = .rt (frs (fill w L ps)) (Sv w d1 d2 (some (mxD L)) (some (nl ps)) none none (some (rw_ (fill w L ps))) o8 o9) := by
      unfold msolved
      have : pad 10 [.int (w : Nat), d1, d2] = Sv w d1 d2 none none none none none none none := rfl
      rw [this, seq_nx a1, seq_nx a2, msForget_ap]
      have : (Sv w d1 d2 (some (mxD L)) (some (nl ps)) none none none none none).set 7 none = Sv w d1 d2 (some (mxD L)) (some (nl ps)) none none none none none := rfl
      rw [this, seq_nx a3, seq_nx a4, a5]
    show (runM 10 3 [] false msolved [.int (w : Nat), d1, d2]).R ρ = _
    rw [runM_rt (ds := [.int (w : Nat), d1, d2]) (np := 3) (dd := []) rfl a6]
    rfl
end
end Q
namespace Q
open DL L2 PySem PySem.Spec PyProof.Rows
section
variable {w top col : Nat} {M : List (List Rat)}
def Zr (w : Nat) (M : List (List Rat)) : Prop := ∀ r ∈ M, r.getD w 0 = 0
theorem Zr.g (h : Zr w M) (i : Nat) : (M.getD i []).getD w 0 = 0 := by
  by_cases l : i < M.length
  · exact h _ (getD_memM l)
  · have : M.getD i [] = [] := by simp [List.getD, Nat.not_lt.mp l]
    rw [this]; rfl
theorem getD_map0 (f : Rat → Rat) (h : f 0 = 0) (r : List Rat) (w : Nat) : (r.map f).getD w 0 = f (r.getD w 0) := by
  by_cases l : w < r.length
  · simp [List.getD, l]
  · simp [List.getD, Nat.not_lt.mp l, h]
theorem lsn_getD (r s : List Rat) (c : Rat) (w : Nat) (h1 : r.getD w 0 = 0) (h2 : s.getD w 0 = 0) : (lsn r c s).getD w 0 = 0 := by
  unfold lsn
  by_cases l : w < (r.zip s).length
  · have l' := l
    rw [List.length_zip] at l
    have a1 : r.getD w 0 = r[w] := by simp [List.getD, show w < r.length by omega]
    have a2 : s.getD w 0 = s[w] := by simp [List.getD, show w < s.length by omega]
    rw [a1] at h1
    rw [a2] at h2
    rw [List.getD, List.getElem?_map, List.getElem?_eq_getElem l', List.getElem_zip]
    show r[w] + -c * s[w] = 0
    rw [h1, h2, Rat.mul_zero, Rat.add_zero]
  · have : ((r.zip s).map fun p => p.1 + (-c) * p.2).length ≤ w := by rw [List.length_map]; omega
    simp only [List.getD, List.getElem?_eq_none this]
    rfl
theorem Zr.set (h : Zr w M) (i : Nat) {r : List Rat} (hr : r.getD w 0 = 0) : Zr w (M.set i r) := fun x hx => by
  rcases List.mem_or_eq_of_mem_set hx with z | z
  · exact h x z
  · rw [z]; exact hr
theorem Zr.inner (h : Zr w M) (a : Nat) : Zr w (inner top col M a) := by
  unfold Q.inner
  split
  · exact h.set a (lsn_getD _ _ _ _ (h.g a) (h.g top))
  · exact h
theorem Zr.inners : ∀ (ks : List Nat) (M : List (List Rat)), Zr w M → Zr w (ks.foldl (Q.inner top col) M)
  | [], _, h => h
  | a :: ks, M, h => Zr.inners ks _ (h.inner a)
theorem Zr.step {s : List (List Rat) × List Nat} (h : Zr w s.1) (c : Nat) : Zr w (stepC s c).1 := by
  unfold stepC
  split
  · exact h
  · rename_i hh tl he
    refine Zr.inners _ _ ?_
    unfold scaled swapped
    have hs := (h.set s.2.length (r := s.1.getD hh []) (h.g hh)).set hh (r := s.1.getD s.2.length []) (h.g s.2.length)
    exact hs.set _ (by rw [getD_map0 _ (by rw [Rat.mul_zero]), hs.g, Rat.mul_zero])
theorem Zr.red (h : Zr w M) (cs : Nat) : Zr w (red cs M).1 := by
  unfold Q.red
  induction cs with
  | zero => exact h
  | succ n ih =>
    rw [List.range_succ, List.foldl_append]
    exact ih.step n
end
def eqR (n : Nat) (p : List Int) : List Rat := (p.take n).map fun a : Int => (a : Rat)
def eqB (n : Nat) (p : List Int) : Rat := ((p.getD n 0 : Int) : Rat)
section
variable {n k : Nat} {ps : List (List Int)} {ks : List Nat}
def pick (ps : List (List Int)) (ks : List Nat) : List (List Int) := ks.map fun i => ps.getD i []
theorem getD_memP {ps : List (List Int)} {i : Nat} (h : i < ps.length) : ps.getD i [] ∈ ps := by
  have e : ps.getD i [] = ps[i] := by simp [List.getD, h]
  rw [e]
  exact List.getElem_mem _
theorem ixP (h : i < ps.length) {d : D} (hd : Sq d (ps.map pl)) : gIx d (.int (i : Int)) = some (pl (ps.getD i [])) := by
  rw [hd.ix, atI_nat' _ i (by rw [List.length_map]; exact h), List.getElem_map]
  simp [List.getD, h]
theorem ix_pl {p : List Int} {j : Nat} (h : j < p.length) : gIx (pl p) (.int (j : Int)) = some (.int (p.getD j 0)) := by
  show L2.atI (p.map D.int) (j : Int) = _
  rw [atI_nat' _ j (by rw [List.length_map]; exact h), List.getElem_map]
  simp [List.getD, h]
theorem v_equations {d : D} (hd : Sq d (ks.map fun i => D.int (i : Nat))) (hk : ∀ i ∈ ks, i < ps.length) (hp : ∀ p ∈ ps, Pi k n p) (hn : n ≤ 100) (hl : ks.length ≤ 1000) (ρ : En) :
    (Fequations [PO n ps, d]).R ρ = .ok (.tup [.lst ((pick ps ks).map fun p => frs (eqR n p)), .lst ((pick ps ks).map fun p => fr (eqB n p))]) ρ := by
  have sz := szv
  have e0 : mLc [3] (mIter (mVar 1)) (mgName 3) mYes mequations_e0 [some (PO n ps), some d, none, none, none] = .ok (.lst ((pick ps ks).map pl)) [some (PO n ps), some d, none, none, none] := by
    have := mLc_map (as := ks) (enc := fun i => D.int (i : Nat)) (vs := [3]) (g := mgName 3) (mi := mIter (mVar 1)) (me := mequations_e0) (ρ0 := [some (PO n ps), some d, none, none, none]) (ρ := [some (PO n ps), some d, none, none, none]) (st := fun i => [some (PO n ps), some d, none, some (.int (i : Nat)), none]) (f := fun i => pl (ps.getD i []))
      (by simp -implicitDefEqProofs [hd.iter]) (by omega) (fun _ => rfl) (fun _ _ => rfl) (fun i hi => by
        have i1 := ixP (hk i hi) (Sq.tup (ps.map pl))
        generalize pl (ps.getD i []) = P at *
        generalize hT : D.tup (ps.map pl) = T at *
        have f := fld_kept (n := n) (ps := ps)
        rw [hT] at f
        simp -implicitDefEqProofs [mequations_e0, f, i1])
    rw [this]
    unfold pick
    rw [List.map_map]
    rfl
  have hP : ∀ p ∈ pick ps ks, Pi k n p := fun p h => by
    obtain ⟨i, hi, rfl⟩ := List.mem_map.mp h
    exact hp _ (getD_memP (hk i hi))
  have hPl : (pick ps ks).length ≤ 1000 := by unfold pick; rw [List.length_map]; exact hl
  generalize pick ps ks = P at *
  have e1 : mLc [4] (mIter (mVar 2)) (mgName 4) mYes mequations_e2 [some (PO n ps), some d, some (.lst (P.map pl)), none, none] = .ok (.lst (P.map fun p => frs (eqR n p))) [some (PO n ps), some d, some (.lst (P.map pl)), none, none] := by
    refine mLc_map (as := P) (enc := pl) (st := fun p => [some (PO n ps), some d, some (.lst (P.map pl)), none, some (pl p)]) (f := fun p => frs (eqR n p)) (by simp -implicitDefEqProofs [gIter]) (by omega) (fun _ => rfl) (fun _ _ => rfl) (fun p hpm => ?_)
    have hp := hP p hpm
    have gs : gSl (pl p) none (some (n : Int)) = some (.tup ((p.take n).map D.int)) := by
      show some (D.tup (DL.cutD (p.map D.int) _ _)) = _
      rw [cut_to, List.map_take]
    have v := fun ρ => v_numbersOf (Sq.tup ((p.take n).map D.int)) (by rw [List.length_take]; omega) ρ
    unfold eqR
    generalize frs ((p.take n).map fun a : Int => (a : Rat)) = F at *
    generalize D.tup ((p.take n).map D.int) = T at *
    generalize pl p = PP at *
    simp -implicitDefEqProofs [mequations_e2, mSl, evB, rdB, mNoP, mPart, asI, fld_n, gs, mCall_R, v]
  have e2 : mLc [4] (mIter (mVar 2)) (mgName 4) mYes mequations_e1 [some (PO n ps), some d, some (.lst (P.map pl)), none, none] = .ok (.lst (P.map fun p => fr (eqB n p))) [some (PO n ps), some d, some (.lst (P.map pl)), none, none] := by
    refine mLc_map (as := P) (enc := pl) (st := fun p => [some (PO n ps), some d, some (.lst (P.map pl)), none, some (pl p)]) (f := fun p => fr (eqB n p)) (by simp -implicitDefEqProofs [gIter]) (by omega) (fun _ => rfl) (fun _ _ => rfl) (fun p hpm => ?_)
    have hp := hP p hpm
    have i1 := ix_pl (p := p) (j := n) (by rw [hp.1]; omega)
    have f : fr (eqB n p) = .tup [.int (p.getD n 0), .int 1] := rfl
    rw [f]
    generalize p.getD n 0 = x at *
    generalize pl p = PP at *
    simp -implicitDefEqProofs [mequations_e1, fld_n, i1, show 2 ≤ sizeLine by omega]
  generalize P.map (fun p => frs (eqR n p)) = X1 at *
  generalize P.map (fun p => fr (eqB n p)) = X2 at *
  generalize P.map pl = X3 at *
  simp -implicitDefEqProofs [Fequations, runM, mequations, pad, e0, e1, e2, show 2 ≤ sizeLine by omega]
theorem aug_eq (n : Nat) (P : List (List Int)) : aug (P.map (eqR n)) (P.map (eqB n)) = P.map fun p => eqR n p ++ [eqB n p] := by
  unfold aug
  induction P with
  | nil => rfl
  | cons p P ih => simp [ih]
theorem aug_mx {P : List (List Int)} (hP : ∀ p ∈ P, Pi k n p) (hk : 0 < k) : Mx P.length (n + 1) k (aug (P.map (eqR n)) (P.map (eqB n))) := by
  rw [aug_eq]
  refine ⟨by rw [List.length_map], fun r hr => ?_⟩
  obtain ⟨p, hp, rfl⟩ := List.mem_map.mp hr
  have h := hP p hp
  refine ⟨by rw [List.length_append]; unfold eqR; rw [List.length_map, List.length_take, h.1]; simp, fun x hx => ?_⟩
  rcases List.mem_append.mp hx with z | z
  · obtain ⟨a, ha, rfl⟩ := List.mem_map.mp z
    exact Sz.int (h.2 a (List.mem_of_mem_take ha)) hk
  · rw [List.mem_singleton.mp z]
    exact Sz.int (h.2 _ (getD_mem (by rw [h.1]; omega))) hk
theorem pick_mem (hk : ∀ i ∈ ks, i < ps.length) {p : List Int} (h : p ∈ pick ps ks) : p ∈ ps := by
  obtain ⟨i, hi, rfl⟩ := List.mem_map.mp h
  exact getD_memP (hk i hi)
theorem v_place {d : D} (hd : Sq d (ks.map fun i => D.int (i : Nat))) (hk : ∀ i ∈ ks, i < ps.length) (hp : ∀ p ∈ ps, Pi k n p) (hn : n ≤ 100) (hl : ks.length ≤ 1000) (k0 : 0 < k) (hz : kk k n ≤ 8000) (ρ : En) :
    (Fplace_of [PO n ps, d]).R ρ = .ok (oD (slv n (aug ((pick ps ks).map (eqR n)) ((pick ps ks).map (eqB n))))) ρ := by
  have sz := szv
  have v1 := fun ρ => v_equations hd hk hp hn hl ρ
  have mx := aug_mx (n := n) (P := pick ps ks) (fun p h => hp p (pick_mem hk h)) k0
  have hPl : (pick ps ks).length ≤ 1000 := by unfold pick; rw [List.length_map]; exact hl
  generalize pick ps ks = P at *
  have v2 := fun ρ => v_solved (w := n) (d1 := .lst (P.map fun p => frs (eqR n p))) (d2 := .lst (P.map fun p => fr (eqB n p))) (e := frs) (R := P.map (eqR n)) (b := P.map (eqB n)) (by rw [List.map_map]; rfl) (fun r _ => .inl rfl) (by rw [List.map_map]; rfl) mx hPl (by omega) hz ρ
  generalize oD (slv n (aug (P.map (eqR n)) (P.map (eqB n)))) = OD at *
  generalize D.lst (P.map fun p => frs (eqR n p)) = X1 at *
  generalize D.lst (P.map fun p => fr (eqB n p)) = X2 at *
  simp -implicitDefEqProofs [Fplace_of, runM, mplace_of, pad, mCall_R, v1, v2, fld_n]
theorem pick_all (ps : List (List Int)) : pick ps (List.range ps.length) = ps := by
  unfold pick
  apply List.ext_getElem
  · rw [List.length_map, List.length_range]
  · intro i h1 h2
    simp [List.getD, h2]
theorem ok0 : okR 0 = true := by decide
theorem gLR_nat {n : Nat} (h : n ≤ 1000000) : gLR 0 (n : Int) = some (.lst ((List.range n).map fun i => D.int (i : Nat))) := by
  have h1 := okR_nat h
  have h2 : ((n : Int) - 0).toNat = n := by omega
  have h3 : n ≤ 2 ^ 24 := Nat.le_trans h (by decide)
  show (if okR 0 = true ∧ okR (n : Int) = true ∧ ((n : Int) - 0).toNat ≤ 2 ^ 24 then some (D.lst (rangeL 0 ((n : Int) - 0).toNat)) else none) = _
  rw [h2, if_pos ⟨ok0, h1, h3⟩, rangeL_enc]
theorem central_m {F : FN} {T RR OD : D} {B : Bool} {l : Int} (f : gFld (isC ["Planes"]) "kept" (PO n ps) = some T) (gl : gLen [T] = some (.int l)) (gr : gLR 0 l = some RR) (v : ∀ ρ, (F [PO n ps, RR]).R ρ = .ok OD ρ) (gi : gIsNot OD .non = some (.bl B)) :
    msRet (m2 gIsNot (mCall F (mCons (mVar 0) (mCons (mListR1 (mN gLen (mCons (m1 (gFld (isC ["Planes"]) "kept") (mVar 0)) mNil))) mNil))) (mK .non)) [some (PO n ps)] = .rt (.bl B) [some (PO n ps)] := by
  have e1 : mVar 0 [some (PO n ps)] = .ok (PO n ps) [some (PO n ps)] := rfl
  have e2 : m1 (gFld (isC ["Planes"]) "kept") (mVar 0) [some (PO n ps)] = .ok T [some (PO n ps)] := by rw [m1_ap, e1, bind_ok, f, ret_some]
  have e3 : mN gLen (mCons (m1 (gFld (isC ["Planes"]) "kept") (mVar 0)) mNil) [some (PO n ps)] = .ok (.int l) [some (PO n ps)] := by
    rw [mN_ap, mCons_ap, e2, bind_ok, mNil_ap, bind_ok, bind_ok, gl, ret_some]
  have e4 : mListR1 (mN gLen (mCons (m1 (gFld (isC ["Planes"]) "kept") (mVar 0)) mNil)) [some (PO n ps)] = .ok RR [some (PO n ps)] := by
    unfold mListR1
    rw [e3, bind_ok]
    show ret (gLR 0 l) _ = _
    rw [gr, ret_some]
  have e5 : mCall F (mCons (mVar 0) (mCons (mListR1 (mN gLen (mCons (m1 (gFld (isC ["Planes"]) "kept") (mVar 0)) mNil))) mNil)) [some (PO n ps)] = .ok OD [some (PO n ps)] := by
    rw [mCall_R, mCons_ap, e1, bind_ok, mCons_ap, e4, bind_ok, mNil_ap, bind_ok, bind_ok, bind_ok, v]
  rw [msRet_ap, m2_ap, e5, bind_ok, mK_ap, bind_ok, gi, ret_some]
  rfl
theorem v_central (hp : ∀ p ∈ ps, Pi k n p) (hn : n ≤ 100) (hl : ps.length ≤ 1000) (k0 : 0 < k) (hz : kk k n ≤ 8000) :
    FPlanes_is_central [PO n ps] = .rt (.bl (slv n (aug (ps.map (eqR n)) (ps.map (eqB n)))).isSome) (PO n ps) := by
  have v := fun ρ => v_place (ks := List.range ps.length) (Sq.lst ((List.range ps.length).map fun i => D.int (i : Nat))) (fun i hi => List.mem_range.mp hi) hp hn (by rw [List.length_range]; exact hl) k0 hz ρ
  rw [pick_all] at v
  have gl : gLen [.tup (ps.map pl)] = some (.int (ps.length : Nat)) := by simp [gLen]
  have gi : ∀ o : Option (List Rat), gIsNot (oD o) .non = some (.bl o.isSome) := fun o => by cases o <;> rfl
  exact runM_rt (n := 1) (np := 1) (dd := []) (ds := [PO n ps]) (fr := false) (m := mPlanes_is_central) rfl (central_m (fld_kept (n := n) (ps := ps)) gl (gLR_nat (n := ps.length) (by omega)) v (gi _))
end
end Q
namespace Q
open DL L2 PySem PySem.Spec PyProof.Rows
section
variable {n m : Nat} {ps qs : List (List Int)} {p q : List Int}
theorem isPl_iff : isPl n p = true ↔ p.length = n + 1 ∧ (∀ a ∈ p, a.natAbs ≤ 1000) ∧ gcdL p 0 = 1 ∧ ∃ a ∈ p.take n, a ≠ 0 := by
  unfold isPl
  simp only [Bool.and_eq_true, decide_eq_true_eq, List.all_eq_true, List.any_eq_true]
  constructor
  · rintro ⟨⟨⟨a, b⟩, c⟩, d⟩; exact ⟨a, b, c, d⟩
  · rintro ⟨a, b, c, d⟩; exact ⟨⟨⟨a, b⟩, c⟩, d⟩
def Sep (o r : List Int) : Prop := r ≠ o ∧ negL r ≠ o
theorem sepB_iff {i : Nat} {r : List Int} : sepB ps i r = false ↔ ∀ o ∈ ps.take i, Sep o r := by
  unfold sepB Sep
  rw [List.any_eq_false]
  constructor
  · intro h o ho
    have := h o ho
    simpa using this
  · intro h o ho
    have := h o ho
    simpa using this
theorem okPls_iff : okPls n ps = true ↔ ps.length ≤ 12 ∧ (∀ p ∈ ps, isPl n p = true) ∧ ps.Pairwise Sep := by
  unfold okPls
  simp only [Bool.and_eq_true, decide_eq_true_eq, List.all_eq_true]
  have key : (∀ x ∈ ps.zipIdx, (!sepB ps x.2 x.1) = true) ↔ ps.Pairwise Sep := by
    rw [List.pairwise_iff_getElem]
    constructor
    · intro h i j hi hj hij
      have h1 := h (ps[j], j) (by rw [List.mem_zipIdx_iff_getElem?]; exact List.getElem?_eq_getElem hj)
      have h2 := sepB_iff.mp (show sepB ps j ps[j] = false by simpa using h1)
      exact h2 _ (List.mem_take_iff_getElem.mpr ⟨i, by omega, rfl⟩)
    · intro h x hx
      rw [List.mem_zipIdx_iff_getElem?] at hx
      have z : sepB ps x.2 x.1 = false → (!sepB ps x.2 x.1) = true := fun e => by rw [e]; rfl
      refine z (sepB_iff.mpr fun o ho => ?_)
      obtain ⟨i, hi, rfl⟩ := List.mem_take_iff_getElem.mp ho
      obtain ⟨hj, e⟩ := List.getElem?_eq_some_iff.mp hx
      rw [← e]
      exact h i x.2 (by omega) hj (by omega)
  rw [key]
  constructor
  · rintro ⟨⟨a, b⟩, c⟩; exact ⟨a, b, c⟩
  · rintro ⟨a, b, c⟩; exact ⟨⟨a, b⟩, c⟩
theorem split_p (h : p.length = n + 1) : ∃ x b, x.length = n ∧ p = x ++ [b] := by
  refine ⟨p.dropLast, p.getLast (by intro z; rw [z] at h; cases h), by rw [List.length_dropLast, h]; rfl, ?_⟩
  exact (List.dropLast_concat_getLast _).symm
theorem take_x {x : List Int} {y : List Int} (h : x.length = n) : (x ++ y).take n = x := by rw [← h]; simp
theorem getD_x {x : List Int} {b : Int} {y : List Int} (h : x.length = n) : (x ++ b :: y).getD n 0 = b := by rw [← h]; simp [List.getD]
theorem negL_len (x : List Int) : (negL x).length = x.length := by unfold negL; rw [List.length_map]
end
end Q
namespace Q
open DL L2 PySem PySem.Spec PyProof.Rows
abbrev TL : Xn := ⟨"TooLarge", []⟩
section
variable {n m : Nat} {ps qs : List (List Int)} {p : List Int}
theorem ok_len (h : okPls n ps = true) : ps.length ≤ 12 := (okPls_iff.mp h).1
theorem ok_pi (h : okPls n ps = true) : ∀ p ∈ ps, Pi 10 n p := fun p hp => Pi.of ((okPls_iff.mp h).2.1 p hp)
theorem p10 : (2 : Nat) ^ 10 ≤ 2 ^ 8000 := Nat.pow_le_pow_right (by decide) (by decide)
theorem sm_ok (h : okPls n ps = true) (hn : n ≤ 100) : Sm ps := ⟨by have := ok_len h; omega, fun p hp => by
  have := ok_pi h p hp
  exact ⟨fun a ha => Nat.lt_of_lt_of_le (this.2 a ha) p10, by rw [this.1]; omega⟩⟩
theorem sl_to (p : List Int) (n : Nat) : gSl (pl p) none (some (n : Int)) = some (pl (p.take n)) := by
  show some (D.tup (DL.cutD (p.map D.int) _ _)) = _
  rw [cut_to, ← List.map_take]
  rfl
theorem add_pl {a b : List Int} (h : a.length + b.length ≤ 10000) : gAdd (pl a) (pl b) = some (pl (a ++ b)) := by
  have sz := szv
  unfold pl
  have : (a.map D.int).length + (b.map D.int).length ≤ sizeLine := by rw [List.length_map, List.length_map]; omega
  show (if (a.map D.int).length + (b.map D.int).length ≤ sizeLine then some (D.tup (a.map D.int ++ b.map D.int)) else none) = _
  rw [if_pos this, List.map_append]
theorem add_ps {a b : List (List Int)} (h : a.length + b.length ≤ 10000) : gAdd (.lst (a.map pl)) (.lst (b.map pl)) = some (.lst ((a ++ b).map pl)) := by
  have sz := szv
  have : (a.map pl).length + (b.map pl).length ≤ sizeLine := by rw [List.length_map, List.length_map]; omega
  show (if (a.map pl).length + (b.map pl).length ≤ sizeLine then some (D.lst (a.map pl ++ b.map pl)) else none) = _
  rw [if_pos this, List.map_append]
theorem zeros_pl (h : n ≤ 1000) : gMulT (.tup [.int 0]) (.int (n : Nat)) = some (pl (List.replicate n 0)) := by
  have h1 : (0 : Int) ≤ (n : Int) ∧ (n : Int) ≤ 1000 ∧ [D.int 0].length ≤ 1000 ∧ (![D.int 0].isEmpty) = true := ⟨by omega, by omega, by decide, by decide⟩
  show (if (0 : Int) ≤ (n : Int) ∧ (n : Int) ≤ 1000 ∧ [D.int 0].length ≤ 1000 ∧ (![D.int 0].isEmpty) = true then some (D.tup (List.replicate (n : Int).toNat [D.int 0]).flatten) else none) = _
  rw [if_pos h1, Int.toNat_natCast, List.flatten_replicate_singleton]
  unfold pl
  rw [List.map_replicate]
end
end Q
namespace Q
open DL L2 PySem PySem.Spec PyProof.Rows
section
variable {n k i : Nat} {ps : List (List Int)} {q : List Rat} {d : D}
theorem v_checkIdx (a : Int) (ρ : En) : (Fcheck_index [PO n ps, .int a]).R ρ = if 0 ≤ a ∧ a < ps.length then .ok .non ρ else .ex BN ρ := by
  have gl : gLen [.tup (ps.map pl)] = some (.int (ps.length : Nat)) := by simp [gLen]
  have f := fld_kept (n := n) (ps := ps)
  generalize D.tup (ps.map pl) = T at *
  generalize PO n ps = P at *
  by_cases h1 : 0 ≤ a
  · by_cases h2 : a < ps.length
    · simp -implicitDefEqProofs [Fcheck_index, runM, mcheck_index, pad, mChain, f, gl, h1, h2]
    · simp -implicitDefEqProofs [Fcheck_index, runM, mcheck_index, pad, mChain, f, gl, h1, h2]
  · simp -implicitDefEqProofs [Fcheck_index, runM, mcheck_index, pad, mChain, h1]
theorem negL_negL (p : List Int) : negL (negL p) = p := by
  unfold negL
  rw [List.map_map]
  have : ((fun a : Int => -a) ∘ fun a => -a) = id := by funext a; simp
  rw [this, List.map_id]
theorem gcdL_neg : ∀ (p : List Int) (g : Nat), gcdL (negL p) g = gcdL p g
  | [], _ => rfl
  | a :: p, g => by
    show gcdL (-a :: negL p) g = _
    rw [gcdL_cons, gcdL_cons, Int.gcd_neg, gcdL_neg p]
theorem isPl_neg {p : List Int} (h : isPl n p = true) : isPl n (negL p) = true := by
  rw [isPl_iff] at h ⊢
  obtain ⟨h1, h2, h3, a, ha, h4⟩ := h
  refine ⟨by rw [negL_len]; exact h1, fun b hb => ?_, by rw [gcdL_neg]; exact h3, -a, ?_, by omega⟩
  · obtain ⟨c, hc, rfl⟩ := List.mem_map.mp hb
    rw [Int.natAbs_neg]
    exact h2 c hc
  · unfold negL
    rw [← List.map_take]
    exact List.mem_map_of_mem ha
theorem sep_negL {o r : List Int} (h : Sep o r) : Sep (negL o) r :=
  ⟨fun e => h.2 (by rw [e, negL_negL]), fun e => h.1 (by rw [← negL_negL r, e, negL_negL])⟩
theorem sep_negR {o r : List Int} (h : Sep o r) : Sep o (negL r) := ⟨h.2, by rw [negL_negL]; exact h.1⟩
theorem split_at (hi : i < ps.length) : ps = ps.take i ++ ps.getD i [] :: ps.drop (i + 1) := by
  have e : ps.getD i [] = ps[i] := by simp [List.getD, hi]
  rw [e, ← List.drop_eq_getElem_cons hi, List.take_append_drop]
def turnP (ps : List (List Int)) (i : Nat) : List (List Int) := ps.take i ++ [negL (ps.getD i [])] ++ ps.drop (i + 1)
theorem turn_ok (h : okPls n ps = true) (hi : i < ps.length) : okPls n (turnP ps i) = true := by
  have sp := split_at hi
  rw [okPls_iff] at h ⊢
  obtain ⟨h1, h2, h3⟩ := h
  unfold turnP
  generalize ps.getD i [] = p at *
  generalize ps.take i = A at *
  generalize ps.drop (i + 1) = B at *
  subst sp
  refine ⟨by simpa using h1, fun r hr => ?_, ?_⟩
  · simp only [List.mem_append, List.mem_cons, List.not_mem_nil, or_false] at hr h2
    rcases hr with (z | z) | z
    · exact h2 r (.inl z)
    · rw [z]; exact isPl_neg (h2 p (.inr (.inl rfl)))
    · exact h2 r (.inr (.inr z))
  · rw [List.pairwise_append] at h3
    obtain ⟨a1, a2, a3⟩ := h3
    rw [List.pairwise_cons] at a2
    rw [List.append_assoc, List.pairwise_append]
    refine ⟨a1, ?_, fun o ho r hr => ?_⟩
    · rw [List.singleton_append, List.pairwise_cons]
      exact ⟨fun r hr => sep_negL (a2.1 r hr), a2.2⟩
    · rw [List.singleton_append] at hr
      rcases List.mem_cons.mp hr with z | z
      · rw [z]; exact sep_negR (a3 o ho p List.mem_cons_self)
      · exact a3 o ho r (List.mem_cons_of_mem _ z)
theorem addT {a b : List (List Int)} (h : a.length + b.length ≤ 10000) : gAdd (.tup (a.map pl)) (.tup (b.map pl)) = some (.tup ((a ++ b).map pl)) := by
  have sz := szv
  have : (a.map pl).length + (b.map pl).length ≤ sizeLine := by rw [List.length_map, List.length_map]; omega
  show (if (a.map pl).length + (b.map pl).length ≤ sizeLine then some (D.tup (a.map pl ++ b.map pl)) else none) = _
  rw [if_pos this, List.map_append]
theorem v_turned (h : okPls n ps = true) (h1 : 1 ≤ n) (h4 : n ≤ 4) (hi : i < ps.length) : ∃ o, FPlanes_turned [PO n ps, .int (i : Nat)] = .rt (PO n (turnP ps i)) o := by
  have sz := szv
  have hl := ok_len h
  have v := fun ρ => v_checkIdx (n := n) (ps := ps) (i : Nat) ρ
  have c : (0 : Int) ≤ (i : Nat) ∧ ((i : Nat) : Int) < ps.length := by omega
  simp only [c, and_self, if_true] at v
  have ok' := turn_ok h hi
  have ix := ixP hi (Sq.tup (ps.map pl))
  have vo := fun ρ => v_other (Sq.tup ((ps.getD i []).map D.int)) (by have := (ok_pi h _ (getD_memP hi)).1; omega) ρ
  have f := fld_n (n := n) (ps := ps)
  have f2 := fld_kept (n := n) (ps := ps)
  have s1 : gSl (.tup (ps.map pl)) none (some (i : Int)) = some (.tup ((ps.take i).map pl)) := by
    show some (D.tup (DL.cutD (ps.map pl) _ _)) = _
    rw [cut_to, List.map_take]
  have s2 : gSl (.tup (ps.map pl)) (some ((i : Int) + 1)) none = some (.tup ((ps.drop (i + 1)).map pl)) := by
    show some (D.tup (DL.cutD (ps.map pl) (some ((i + 1 : Nat) : Int)) _)) = _
    rw [cut_from, List.map_drop]
  have g1 := addT (a := ps.take i) (b := [negL (ps.getD i [])]) (by rw [List.length_take]; simp; omega)
  have g2 := addT (a := ps.take i ++ [negL (ps.getD i [])]) (b := ps.drop (i + 1)) (by rw [List.length_append, List.length_take, List.length_drop]; simp; omega)
  have z1 : D.tup ([negL (ps.getD i [])].map pl) = .tup [pl (negL (ps.getD i []))] := rfl
  have z2 : D.tup ((ps.getD i []).map D.int) = pl (ps.getD i []) := rfl
  rw [z1] at g1
  rw [z2] at vo
  have mk := v_make (n := ((n : Nat) : Int)) (ps := turnP ps i) (Sq.tup ((turnP ps i).map pl)) (sm_ok ok' (by omega)) (args := mCons (m1 (gFld (isC ["Planes"]) "n") (mVar 0)) (mCons (m2 gAdd (m2 gAdd (mSl (.ex (m1 (gFld (isC ["Planes"]) "kept") (mVar 0))) mNoP (mPart (mVar 1))) (mN gTup (mCons (mCall Q.Fother_way (mCons (m2 gIx (m1 (gFld (isC ["Planes"]) "kept") (mVar 0)) (mVar 1)) mNil)) mNil))) (mSl (.ex (m1 (gFld (isC ["Planes"]) "kept") (mVar 0))) (mPart (m2 gAdd (mVar 1) (mK (.int 1)))) mNoP)) mNil))
    (ρ := [some (PO n ps), some (.int (i : Nat))]) (ρ1 := [some (PO n ps), some (.int (i : Nat))]) (by
      unfold turnP
      generalize D.tup ((ps.take i ++ [negL (ps.getD i [])] ++ ps.drop (i + 1)).map pl) = R at *
      generalize D.tup ((ps.take i ++ [negL (ps.getD i [])]).map pl) = R1 at *
      generalize D.tup ((ps.take i).map pl) = R2 at *
      generalize D.tup ((ps.drop (i + 1)).map pl) = R3 at *
      generalize D.tup (ps.map pl) = T at *
      generalize pl (negL (ps.getD i [])) = N at *
      generalize pl (ps.getD i []) = PP at *
      generalize PO n ps = P at *
      simp -implicitDefEqProofs [f, f2, mSl, evB, rdB, mNoP, mPart, asI, s1, s2, ix, mCall_R, vo, g1, g2, show 1 ≤ sizeLine by omega])
  rw [if_pos ⟨by omega, by omega⟩, Int.toNat_natCast, if_pos ok'] at mk
  have e : mPlanes_turned [some (PO n ps), some (.int (i : Nat))] = .rt (PO n (turnP ps i)) [some (PO n ps), some (.int (i : Nat))] := by
    have e1 : msExpr (mCall Q.Fcheck_index (mCons (mVar 0) (mCons (mVar 1) mNil))) [some (PO n ps), some (.int (i : Nat))] = .nx [some (PO n ps), some (.int (i : Nat))] := by
      generalize PO n ps = P at *
      simp -implicitDefEqProofs [mCall_R, v]
    unfold mPlanes_turned
    rw [seq_nx e1, msRet_ap, mk]
    rfl
  exact ⟨_, runM_rt (n := 2) (np := 2) (dd := []) (ds := [PO n ps, .int (i : Nat)]) rfl e⟩
end
end Q
namespace Q
abbrev Vc := Nat → Rat
inductive Rs (L : List Vc) : Vc → Prop
  | zero : Rs L fun _ => 0
  | add {v r : Vc} (a : Rat) : Rs L v → r ∈ L → Rs L fun i => v i + a * r i
theorem Rs.mem {L : List Vc} {r : Vc} (h : r ∈ L) : Rs L r := by
  have := Rs.add 1 (Rs.zero (L := L)) h
  have e : (fun i => (0 : Rat) + 1 * r i) = r := by funext i; grind
  rw [e] at this
  exact this
theorem Rs.comb {L : List Vc} {u v : Vc} (a : Rat) (hu : Rs L u) (hv : Rs L v) : Rs L fun i => u i + a * v i := by
  induction hv with
  | zero =>
    have e : (fun i => u i + a * (0 : Rat)) = u := by funext i; grind
    rw [e]; exact hu
  | add b _ hr ih =>
    have := Rs.add (a * b) ih hr
    refine Eq.mp ?_ this
    congr 1
    funext i
    grind
theorem Rs.sub {L L' : List Vc} (h : ∀ r ∈ L, Rs L' r) {v : Vc} (hv : Rs L v) : Rs L' v := by
  induction hv with
  | zero => exact .zero
  | add a _ hr ih => exact ih.comb a (h _ hr)
structure Rref (D : List (Nat × Vc)) : Prop where
  asc : D.Pairwise fun p q => p.1 < q.1
  one : ∀ p ∈ D, p.2 p.1 = 1
  zer : ∀ p ∈ D, ∀ q ∈ D, p.1 ≠ q.1 → q.2 p.1 = 0
  led : ∀ p ∈ D, ∀ i, i < p.1 → p.2 i = 0
theorem Rref.tail {p : Nat × Vc} {D : List (Nat × Vc)} (h : Rref (p :: D)) : Rref D :=
  ⟨(List.pairwise_cons.mp h.asc).2, fun q hq => h.one q (List.mem_cons_of_mem _ hq), fun q hq r hr => h.zer q (List.mem_cons_of_mem _ hq) r (List.mem_cons_of_mem _ hr), fun q hq => h.led q (List.mem_cons_of_mem _ hq)⟩
def lin (f : Nat → Rat) (D : List (Nat × Vc)) : Vc := fun i => (D.map fun p => f p.1 * p.2 i).sum
theorem lin_cons (f : Nat → Rat) (p : Nat × Vc) (D : List (Nat × Vc)) (i : Nat) : lin f (p :: D) i = f p.1 * p.2 i + lin f D i := by
  unfold lin
  rw [List.map_cons, List.sum_cons]
theorem lin_zero {f : Nat → Rat} {D : List (Nat × Vc)} (h : ∀ p ∈ D, f p.1 = 0) (i : Nat) : lin f D i = 0 := by
  induction D with
  | nil => rfl
  | cons p D ih =>
    rw [lin_cons, ih fun q hq => h q (List.mem_cons_of_mem _ hq), h p List.mem_cons_self]
    grind
theorem lin_add (f g : Nat → Rat) (a : Rat) (D : List (Nat × Vc)) (i : Nat) : lin (fun c => f c + a * g c) D i = lin f D i + a * lin g D i := by
  induction D with
  | nil =>
    show (0 : Rat) = 0 + a * 0
    grind
  | cons p D ih =>
    rw [lin_cons, lin_cons, lin_cons, ih]
    grind
theorem lin_row {D : List (Nat × Vc)} (h : Rref D) : ∀ q ∈ D, ∀ i, lin q.2 D i = q.2 i := by
  induction D with
  | nil => exact fun q hq => nomatch hq
  | cons p D ih =>
    intro q hq i
    have hp := List.pairwise_cons.mp h.asc
    rw [lin_cons]
    rcases List.mem_cons.mp hq with e | e
    · rw [e]
      rw [lin_zero fun r hr => h.zer r (List.mem_cons_of_mem _ hr) p List.mem_cons_self (by have := hp.1 r hr; omega), h.one p List.mem_cons_self]
      grind
    · rw [ih h.tail q e i, h.zer p List.mem_cons_self q hq (by have := hp.1 q e; omega)]
      grind
theorem sp_lin {D : List (Nat × Vc)} (h : Rref D) {v : Vc} (hv : Rs (D.map (fun p : Nat × Vc => p.2)) v) (i : Nat) : v i = lin v D i := by
  induction hv generalizing i with
  | zero => rw [lin_zero fun _ _ => rfl]
  | add a _ hr ih =>
    obtain ⟨q, hq, rfl⟩ := List.mem_map.mp hr
    rw [lin_add, ← ih i, lin_row h q hq i]
theorem lin_lead {D : List (Nat × Vc)} (h : Rref D) (f : Nat → Rat) : (∀ p ∈ D, f p.1 = 0) ∨ ∃ p ∈ D, f p.1 ≠ 0 ∧ ∀ i, i < p.1 → lin f D i = 0 := by
  induction D with
  | nil => exact .inl fun p hp => nomatch hp
  | cons p D ih =>
    have hp := List.pairwise_cons.mp h.asc
    by_cases c : f p.1 = 0
    · rcases ih h.tail with z | ⟨q, hq, n, z⟩
      · refine .inl fun r hr => ?_
        rcases List.mem_cons.mp hr with e | e
        · rw [e]; exact c
        · exact z r e
      · refine .inr ⟨q, List.mem_cons_of_mem _ hq, n, fun i hi => ?_⟩
        rw [lin_cons, c, z i hi]
        grind
    · refine .inr ⟨p, List.mem_cons_self, c, fun i hi => ?_⟩
      have gen : ∀ E : List (Nat × Vc), (∀ q ∈ E, q.2 i = 0) → lin f E i = 0 := by
        intro E
        induction E with
        | nil => exact fun _ => rfl
        | cons q E ih =>
          intro hE
          rw [lin_cons, hE q List.mem_cons_self, ih fun r hr => hE r (List.mem_cons_of_mem _ hr)]
          grind
      refine gen _ fun q hq => h.led q hq i ?_
      rcases List.mem_cons.mp hq with e | e
      · rw [e]; exact hi
      · have := hp.1 q e; omega
theorem pivot_in {D D' : List (Nat × Vc)} (h : Rref D) (h' : Rref D') (hs : ∀ v, Rs (D.map (fun p : Nat × Vc => p.2)) v → Rs (D'.map (fun p : Nat × Vc => p.2)) v) {p : Nat × Vc} (hp : p ∈ D) : ∃ q ∈ D', q.1 = p.1 := by
  have hv := hs p.2 (Rs.mem (List.mem_map_of_mem hp))
  have e : p.2 = lin p.2 D' := funext fun i => sp_lin h' hv i
  rcases lin_lead h' p.2 with z | ⟨q, hq, n, z⟩
  · have := lin_zero z p.1
    rw [← e, h.one p hp] at this
    exact absurd this (by decide)
  · refine ⟨q, hq, ?_⟩
    rw [← e] at z
    have h1 : ¬ q.1 < p.1 := fun l => n (h.led p hp q.1 l)
    have h2 : ¬ p.1 < q.1 := fun l => by
      have := z p.1 l
      rw [h.one p hp] at this
      exact absurd this (by decide)
    omega
theorem row_in {D D' : List (Nat × Vc)} (h : Rref D) (h' : Rref D') (hs : ∀ v, Rs (D.map (fun p : Nat × Vc => p.2)) v ↔ Rs (D'.map (fun p : Nat × Vc => p.2)) v) {p : Nat × Vc} (hp : p ∈ D) : p ∈ D' := by
  obtain ⟨q, hq, e⟩ := pivot_in h h' (fun v => (hs v).mp) hp
  have hv := (hs p.2).mp (Rs.mem (List.mem_map_of_mem hp))
  have key : p.2 = q.2 := by
    funext i
    rw [sp_lin h' hv i, ← lin_row h' q hq i]
    unfold lin
    congr 1
    apply List.map_congr_left
    intro r hr
    have : p.2 r.1 = q.2 r.1 := by
      by_cases c : r.1 = q.1
      · rw [c, h'.one q hq, e, h.one p hp]
      · rw [h'.zer r hr q hq c]
        obtain ⟨s, hs', es⟩ := pivot_in h' h (fun v => (hs v).mpr) hr
        rw [← es]
        exact h.zer s hs' p hp (by omega)
    rw [this]
  have : p = q := Prod.ext e.symm key
  rw [this]
  exact hq
theorem asc_eq : ∀ {D D' : List (Nat × Vc)}, D.Pairwise (fun p q => p.1 < q.1) → D'.Pairwise (fun p q => p.1 < q.1) → (∀ p, p ∈ D ↔ p ∈ D') → D = D'
  | [], [], _, _, _ => rfl
  | [], q :: D', _, _, h => nomatch (h q).mpr List.mem_cons_self
  | p :: D, [], _, _, h => nomatch (h p).mp List.mem_cons_self
  | p :: D, q :: D', h1, h2, h => by
    have a1 := List.pairwise_cons.mp h1
    have a2 := List.pairwise_cons.mp h2
    have e : p = q := by
      rcases List.mem_cons.mp ((h p).mp List.mem_cons_self) with e | e
      · exact e
      · rcases List.mem_cons.mp ((h q).mpr List.mem_cons_self) with f | f
        · exact f.symm
        · have := a1.1 q f
          have := a2.1 p e
          omega
    subst e
    have : D = D' := asc_eq a1.2 a2.2 fun r => ⟨fun hr => by
      rcases List.mem_cons.mp ((h r).mp (List.mem_cons_of_mem _ hr)) with z | z
      · have := a1.1 r hr
        rw [z] at this
        omega
      · exact z, fun hr => by
      rcases List.mem_cons.mp ((h r).mpr (List.mem_cons_of_mem _ hr)) with z | z
      · have := a2.1 r hr
        rw [z] at this
        omega
      · exact z⟩
    rw [this]
theorem rref_unique {D D' : List (Nat × Vc)} (h : Rref D) (h' : Rref D') (hs : ∀ v, Rs (D.map (fun p : Nat × Vc => p.2)) v ↔ Rs (D'.map (fun p : Nat × Vc => p.2)) v) : D = D' :=
  asc_eq h.asc h'.asc fun p => ⟨row_in h h' hs, row_in h' h fun v => (hs v).symm⟩
end Q
namespace Q
def vec (r : List Rat) : Vc := fun i => r.getD i 0
theorem vec_lsn {r s : List Rat} (c : Rat) (h : r.length = s.length) (t : Nat) : vec (lsn r c s) t = vec r t + (-c) * vec s t := by
  unfold vec lsn
  by_cases l : t < (r.zip s).length
  · have l' := l
    rw [List.length_zip] at l
    have a1 : r.getD t 0 = r[t] := by simp [List.getD, show t < r.length by omega]
    have a2 : s.getD t 0 = s[t] := by simp [List.getD, show t < s.length by omega]
    rw [a1, a2, List.getD, List.getElem?_map, List.getElem?_eq_getElem l', List.getElem_zip]
    rfl
  · have e : ((r.zip s).map fun p => p.1 + (-c) * p.2).length ≤ t := by rw [List.length_map]; omega
    rw [List.length_zip] at l
    have a1 : r.getD t 0 = 0 := by simp [List.getD, show r.length ≤ t by omega]
    have a2 : s.getD t 0 = 0 := by simp [List.getD, show s.length ≤ t by omega]
    rw [a1, a2]
    simp only [List.getD, List.getElem?_eq_none e]
    show (0 : Rat) = 0 + (-c) * 0
    grind
section
variable {M : List (List Rat)} {ps : List Nat} {W m top col h : Nat} {hs : List Nat}
theorem inner_get {a : Nat} (ha : a < M.length) (i : Nat) : (inner top col M a).getD i [] = if i = a ∧ i ≠ top ∧ (M.getD i []).getD col 0 ≠ 0 then lsn (M.getD i []) ((M.getD i []).getD col 0) (M.getD top []) else M.getD i [] := by
  unfold inner
  by_cases c : a ≠ top ∧ (M.getD a []).getD col 0 ≠ 0
  · rw [if_pos c, getD_set ha]
    by_cases e : a = i
    · subst e
      rw [if_pos rfl, if_pos ⟨rfl, c.1, c.2⟩]
    · rw [if_neg e, if_neg fun z => e z.1.symm]
  · rw [if_neg c]
    by_cases e : i = a
    · subst e
      rw [if_neg fun z => c z.2]
    · rw [if_neg fun z => e z.1]
theorem inners_get : ∀ (ks : List Nat) (M : List (List Rat)), ks.Nodup → (∀ k ∈ ks, k < M.length) → ∀ i, (ks.foldl (inner top col) M).getD i [] = if i ∈ ks ∧ i ≠ top ∧ (M.getD i []).getD col 0 ≠ 0 then lsn (M.getD i []) ((M.getD i []).getD col 0) (M.getD top []) else M.getD i [] := by
  intro ks
  induction ks with
  | nil => exact fun M _ _ i => by simp
  | cons a ks ih =>
    intro M hn hk i
    rw [List.nodup_cons] at hn
    have ha := hk a List.mem_cons_self
    have gt : (inner top col M a).getD top [] = M.getD top [] := by rw [inner_get ha, if_neg fun z => z.2.1 rfl]
    rw [List.foldl_cons, ih _ hn.2 (fun k h => by rw [inner_len]; exact hk k (List.mem_cons_of_mem _ h)) i, gt]
    by_cases e : i = a
    · subst e
      rw [if_neg fun z => hn.1 z.1, inner_get ha]
      by_cases c : i ≠ top ∧ (M.getD i []).getD col 0 ≠ 0
      · rw [if_pos ⟨rfl, c⟩, if_pos ⟨List.mem_cons_self, c⟩]
      · rw [if_neg fun z => c z.2, if_neg fun z => c z.2]
    · have gi : (inner top col M a).getD i [] = M.getD i [] := by rw [inner_get ha, if_neg fun z => e z.1]
      rw [gi]
      by_cases c : i ∈ ks ∧ i ≠ top ∧ (M.getD i []).getD col 0 ≠ 0
      · rw [if_pos c, if_pos ⟨List.mem_cons_of_mem _ c.1, c.2⟩]
      · rw [if_neg c, if_neg fun z => c ⟨(List.mem_cons.mp z.1).resolve_left e, z.2⟩]
def row (M : List (List Rat)) (i : Nat) : Vc := vec (M.getD i [])
theorem row_len (hW : ∀ r ∈ M, r.length = W) {i : Nat} (hi : i < M.length) : (M.getD i []).length = W := hW _ (getD_memM hi)
theorem step_row (hW : ∀ r ∈ M, r.length = W) (e : heres ps.length col M = h :: hs) (i : Nat) (hi : i < M.length) :
    row (stepC (M, ps) col).1 i = if i = ps.length then (fun t => (row M h col)⁻¹ * row M h t) else fun t => row (swapped ps.length h M) i t + (-(row (swapped ps.length h M) i col)) * ((row M h col)⁻¹ * row M h t) := by
  have hm := heres_mem (a := h) (by rw [e]; exact List.mem_cons_self)
  have ht : ps.length < M.length := by omega
  have st := swapped_top ht hm.2.1
  have sl := swapped_len (top := ps.length) (M := M) (h := h)
  have hS : ∀ r ∈ swapped ps.length h M, r.length = W := fun r hr => hW r (swapped_mem ht hm.2.1 hr)
  have es : (stepC (M, ps) col).1 = (List.range M.length).foldl (inner ps.length col) (scaled ps.length col (swapped ps.length h M)) := by
    unfold stepC
    split
    · rename_i e2
      rw [e] at e2
      cases e2
    · rename_i h2 t2 e2
      rw [e] at e2
      cases e2
      rfl
  have gs : ∀ j, (scaled ps.length col (swapped ps.length h M)).getD j [] = if ps.length = j then ((M.getD h []).map fun x => ((M.getD h []).getD col 0)⁻¹ * x) else (swapped ps.length h M).getD j [] := fun j => by
    unfold scaled
    rw [getD_set (by rw [sl]; exact ht), st]
  have scl : (scaled ps.length col (swapped ps.length h M)).length = M.length := by unfold scaled; rw [List.length_set, sl]
  have vt : ∀ t, vec ((M.getD h []).map fun x => ((M.getD h []).getD col 0)⁻¹ * x) t = (row M h col)⁻¹ * row M h t := fun t => by
    unfold vec row vec
    exact getD_map0 (fun x => ((M.getD h []).getD col 0)⁻¹ * x) (Rat.mul_zero _) _ _
  show vec ((stepC (M, ps) col).1.getD i []) = _
  rw [es, inners_get _ _ List.nodup_range (fun k hk => by rw [scl]; exact List.mem_range.mp hk) i]
  by_cases c : i = ps.length
  · rw [if_pos c, if_neg fun z => z.2.1 c, gs, if_pos c.symm]
    exact funext vt
  · have gi : (scaled ps.length col (swapped ps.length h M)).getD i [] = (swapped ps.length h M).getD i [] := by rw [gs i, if_neg fun z => c z.symm]
    have gt : (scaled ps.length col (swapped ps.length h M)).getD ps.length [] = (M.getD h []).map fun x => ((M.getD h []).getD col 0)⁻¹ * x := by rw [gs ps.length, if_pos rfl]
    rw [if_neg c, gi, gt]
    have li : ((swapped ps.length h M).getD i []).length = W := row_len hS (by rw [sl]; exact hi)
    by_cases z : ((swapped ps.length h M).getD i []).getD col 0 ≠ 0
    · rw [if_pos ⟨List.mem_range.mpr hi, c, z⟩]
      funext t
      rw [vec_lsn _ (by rw [List.length_map, li, row_len hW hm.2.1]), vt]
      rfl
    · rw [if_neg fun y => z y.2.2]
      have z' : row (swapped ps.length h M) i col = 0 := by
        show ((swapped ps.length h M).getD i []).getD col 0 = 0
        exact Decidable.byContradiction z
      funext t
      rw [z']
      show vec _ t = vec _ t + (-0) * _
      grind
end
end Q
namespace Q
def rowsV (M : List (List Rat)) : List Vc := M.map vec
theorem row_mem {M : List (List Rat)} {j : Nat} (h : j < M.length) : row M j ∈ rowsV M := List.mem_map_of_mem (getD_memM h)
theorem mem_row {M : List (List Rat)} {v : Vc} (h : v ∈ rowsV M) : ∃ j, j < M.length ∧ v = row M j := by
  obtain ⟨r, hr, rfl⟩ := List.mem_map.mp h
  obtain ⟨i, hi, e⟩ := mem_getD hr
  exact ⟨i, hi, by unfold row; rw [e]⟩
structure Red (M0 : List (List Rat)) (W c : Nat) (s : List (List Rat) × List Nat) : Prop where
  len : s.1.length = M0.length
  wid : ∀ r ∈ s.1, r.length = W
  plen : s.2.length ≤ s.1.length
  asc : s.2.Pairwise (· < ·)
  lt : ∀ p ∈ s.2, p < c
  one : ∀ i p, s.2[i]? = some p → ∀ j, j < s.1.length → row s.1 j p = if j = i then 1 else 0
  led : ∀ i p, s.2[i]? = some p → ∀ t, t < p → row s.1 i t = 0
  low : ∀ j, s.2.length ≤ j → j < s.1.length → ∀ t, t < c → row s.1 j t = 0
  spn : ∀ v, Rs (rowsV s.1) v ↔ Rs (rowsV M0) v
section
variable {M0 : List (List Rat)} {W c : Nat}
theorem Red.start {M : List (List Rat)} (h : ∀ r ∈ M, r.length = W) : Red M W 0 (M, []) :=
  ⟨rfl, h, Nat.zero_le _, .nil, (fun p hp => nomatch hp), (fun i p e => by simp at e), (fun i p e => by simp at e), (fun j _ _ t ht => by omega), fun v => Iff.rfl⟩
theorem row_swapped {M : List (List Rat)} {top h : Nat} (ht : top < M.length) (hh : h < M.length) (i : Nat) : row (swapped top h M) i = if i = h then row M top else if i = top then row M h else row M i := by
  unfold row swapped
  rw [getD_set (by rw [List.length_set]; exact hh)]
  by_cases e : i = h
  · rw [if_pos e, if_pos e.symm]
  · rw [if_neg e, if_neg fun z => e z.symm, getD_set ht]
    by_cases f : i = top
    · rw [if_pos f, if_pos f.symm]
    · rw [if_neg f, if_neg fun z => f z.symm]
theorem v_colW {M : List (List Rat)} {ps : List Nat} {c : Nat} (hW : ∀ r ∈ M, r.length = W) : ∀ r ∈ (stepC (M, ps) c).1, r.length = W := by
  have key : ∀ (top : Nat) (ks : List Nat) (M : List (List Rat)), (∀ r ∈ M, r.length = W) → (∀ k ∈ ks, k < M.length) → top < M.length → ∀ r ∈ ks.foldl (inner top c) M, r.length = W := by
    intro top ks
    induction ks with
    | nil => exact fun M h _ _ => h
    | cons a ks ih =>
      intro M h hk ht
      have ha := hk a List.mem_cons_self
      refine ih _ (fun r hr => ?_) (fun k h => by rw [inner_len]; exact hk k (List.mem_cons_of_mem _ h)) (by rw [inner_len]; exact ht)
      unfold inner at hr
      split at hr
      · rcases List.mem_or_eq_of_mem_set hr with z | z
        · exact h r z
        · rw [z]
          unfold lsn
          rw [List.length_map, List.length_zip, h _ (getD_memM ha), h _ (getD_memM ht), Nat.min_self]
      · exact h r hr
  unfold stepC
  split
  · exact hW
  · rename_i h tl e
    have hm := heres_mem (a := h) (by rw [e]; exact List.mem_cons_self)
    have ht : ps.length < M.length := Nat.lt_of_le_of_lt hm.1 hm.2.1
    have hS : ∀ r ∈ swapped ps.length h M, r.length = W := fun r hr => hW r (swapped_mem ht hm.2.1 hr)
    have sl := swapped_len (top := ps.length) (M := M) (h := h)
    refine key ps.length _ _ (fun r hr => ?_) (fun k hk => ?_) ?_
    · unfold scaled at hr
      rcases List.mem_or_eq_of_mem_set hr with z | z
      · exact hS r z
      · rw [z, List.length_map]
        exact hS _ (getD_memM (by rw [sl]; exact ht))
    · unfold scaled
      rw [List.length_set, sl]
      exact List.mem_range.mp hk
    · unfold scaled
      rw [List.length_set, sl]
      exact ht
theorem Red.step {M : List (List Rat)} {ps : List Nat} (R : Red M0 W c (M, ps)) : Red M0 W (c + 1) (stepC (M, ps) c) := by
  have len : M.length = M0.length := R.len
  have wid : ∀ r ∈ M, r.length = W := R.wid
  have one : ∀ i p, ps[i]? = some p → ∀ j, j < M.length → row M j p = if j = i then 1 else 0 := R.one
  have led : ∀ i p, ps[i]? = some p → ∀ t, t < p → row M i t = 0 := R.led
  have low : ∀ j, ps.length ≤ j → j < M.length → ∀ t, t < c → row M j t = 0 := R.low
  have lt : ∀ p ∈ ps, p < c := R.lt
  cases e : heres ps.length c M with
  | nil =>
    have es : stepC (M, ps) c = (M, ps) := by
      unfold stepC
      split
      · rfl
      · rename_i h2 t2 e2
        rw [e] at e2
        cases e2
    rw [es]
    refine ⟨R.len, R.wid, R.plen, R.asc, fun p hp => Nat.lt_succ_of_lt (lt p hp), R.one, R.led, fun j h1 h2 t ht => ?_, R.spn⟩
    rcases Nat.lt_or_ge t c with l | l
    · exact low j h1 h2 t l
    · have tc : t = c := by omega
      subst tc
      have nh : j ∉ heres ps.length t M := by rw [e]; exact fun z => nomatch z
      refine Decidable.byContradiction fun n => nh ?_
      refine List.mem_filter.mpr ⟨List.mem_map.mpr ⟨j - ps.length, List.mem_range.mpr ?_, ?_⟩, decide_eq_true n⟩
      · have : j < M.length := h2
        have : ps.length ≤ j := h1
        omega
      · have : ps.length ≤ j := h1
        omega
  | cons h hs =>
    have hm := heres_mem (a := h) (by rw [e]; exact List.mem_cons_self)
    have ht : ps.length < M.length := by omega
    have xz : row M h c ≠ 0 := hm.2.2
    have e2 : (stepC (M, ps) c).2 = ps ++ [c] := by
      unfold stepC
      split
      · rename_i z
        rw [e] at z
        cases z
      · rfl
    have ml : (stepC (M, ps) c).1.length = M.length := step_mlen (M, ps) c
    have sr := fun i hi => step_row (ps := ps) wid e i hi
    have sw := fun i => row_swapped (M := M) (top := ps.length) (h := h) ht hm.2.1 i
    have mx := (v_colW (M := M) (ps := ps) (c := c) wid)
    generalize hs' : stepC (M, ps) c = s at *
    have xlow : ∀ t, t < c → row M h t = 0 := low h hm.1 hm.2.1
    generalize hx : row M h = x at *
    have ff : (x c)⁻¹ * x c = 1 := Rat.inv_mul_cancel _ xz
    have swlow : ∀ j, ps.length < j → j < M.length → ∀ t, t < c → row (swapped ps.length h M) j t = 0 := fun j h1 h2 t l => by
      rw [sw j]
      split
      · exact low _ (Nat.le_refl _) ht t l
      · rw [if_neg (by omega)]
        exact low j (by omega) h2 t l
    have pold : ∀ i p, ps[i]? = some p → i < ps.length ∧ p < c := fun i p z => ⟨(List.getElem?_eq_some_iff.mp z).1, lt p (List.mem_of_getElem? z)⟩
    have newc : ∀ j, j < M.length → row s.1 j c = if j = ps.length then 1 else 0 := fun j hj => by
      rw [sr j hj]
      split
      · exact ff
      · show _ + (-_) * ((x c)⁻¹ * x c) = 0
        rw [ff]
        grind
    have oldp : ∀ i p, ps[i]? = some p → ∀ j, j < M.length → row s.1 j p = if j = i then 1 else 0 := fun i p z j hj => by
      obtain ⟨a1, a2⟩ := pold i p z
      rw [sr j hj]
      split
      · rw [if_neg (by omega)]
        show (x c)⁻¹ * x p = 0
        rw [xlow p a2]
        grind
      · rename_i c1
        show row (swapped ps.length h M) j p + _ * (_ * x p) = _
        rw [xlow p a2, sw j]
        have : (if j = h then row M ps.length else if j = ps.length then x else row M j) p = if j = i then 1 else 0 := by
          by_cases z1 : j = h
          · rw [if_pos z1, one i p z _ ht, if_neg (by omega), if_neg (by omega)]
          · rw [if_neg z1, if_neg c1, one i p z j hj]
        rw [this]
        grind
    refine ⟨by rw [ml]; exact len, mx, by rw [e2, ml, List.length_append]; exact ht, ?_, fun p hp => ?_, fun i p z j hj => ?_, fun i p z t l => ?_, fun j h1 h2 t l => ?_, fun v => ?_⟩
    · rw [e2, List.pairwise_append]
      exact ⟨R.asc, List.pairwise_singleton _ _, fun a ha b hb => by rw [List.mem_singleton.mp hb]; exact lt a ha⟩
    · rw [e2] at hp
      rcases List.mem_append.mp hp with z | z
      · exact Nat.lt_succ_of_lt (lt p z)
      · rw [List.mem_singleton.mp z]; exact Nat.lt_succ_self _
    · rw [ml] at hj
      rw [e2] at z
      by_cases q : i < ps.length
      · rw [List.getElem?_append_left q] at z
        exact oldp i p z j hj
      · rw [List.getElem?_append_right (by omega)] at z
        have i0 : i - ps.length = 0 := by
          have := (List.getElem?_eq_some_iff.mp z).1
          simp at this
          omega
        rw [i0] at z
        cases z
        have : i = ps.length := by omega
        rw [this]
        exact newc j hj
    · rw [e2] at z
      by_cases q : i < ps.length
      · rw [List.getElem?_append_left q] at z
        obtain ⟨a1, a2⟩ := pold i p z
        rw [sr i (by omega), if_neg (by omega)]
        show row (swapped ps.length h M) i t + _ * (_ * x t) = 0
        rw [xlow t (by omega), sw i, if_neg (by omega), if_neg (by omega), led i p z t l]
        grind
      · rw [List.getElem?_append_right (by omega)] at z
        have i0 : i - ps.length = 0 := by
          have := (List.getElem?_eq_some_iff.mp z).1
          simp at this
          omega
        rw [i0] at z
        cases z
        have : i = ps.length := by omega
        rw [this, sr _ ht, if_pos rfl]
        show _ * x t = 0
        rw [xlow t l]
        grind
    · rw [ml] at h2
      rw [e2, List.length_append] at h1
      have h1' : ps.length + 1 ≤ j := h1
      rcases Nat.lt_or_ge t c with q | q
      · rw [sr j h2, if_neg (by omega)]
        show row (swapped ps.length h M) j t + _ * (_ * x t) = 0
        rw [xlow t q, swlow j (by omega) h2 t q]
        grind
      · have tc : t = c := by omega
        rw [tc, newc j h2, if_neg (by omega)]
    · have base := R.spn v
      have base : Rs (rowsV M) v ↔ Rs (rowsV M0) v := base
      rw [← base]
      have swm : ∀ i, i < M.length → row (swapped ps.length h M) i ∈ rowsV M := fun i hi => by
        rw [sw i]
        split
        · exact row_mem ht
        · split
          · rw [← hx]; exact row_mem hm.2.1
          · exact row_mem hi
      have xm : x ∈ rowsV M := by rw [← hx]; exact row_mem hm.2.1
      have nt : Rs (rowsV s.1) fun t => (x c)⁻¹ * x t := by
        have := Rs.mem (row_mem (M := s.1) (j := ps.length) (by rw [ml]; exact ht))
        rw [sr _ ht, if_pos rfl] at this
        exact this
      have xs : Rs (rowsV s.1) x := by
        have := Rs.comb (x c) Rs.zero nt
        have e9 : (fun i => (0 : Rat) + x c * ((x c)⁻¹ * x i)) = x := by
          funext i
          have : x c * (x c)⁻¹ = 1 := Rat.mul_inv_cancel _ xz
          rw [← Rat.mul_assoc, this]
          grind
        rw [e9] at this
        exact this
      constructor
      · refine Rs.sub fun r hr => ?_
        obtain ⟨j, hj, rfl⟩ := mem_row hr
        rw [ml] at hj
        rw [sr j hj]
        split
        · have := Rs.comb ((x c)⁻¹) Rs.zero (Rs.mem xm)
          have e9 : (fun i => (0 : Rat) + (x c)⁻¹ * x i) = fun t => (x c)⁻¹ * x t := by funext i; grind
          rw [e9] at this
          exact this
        · have := Rs.comb (-(row (swapped ps.length h M) j c) * (x c)⁻¹) (Rs.mem (swm j hj)) (Rs.mem xm)
          have e9 : (fun i => row (swapped ps.length h M) j i + -(row (swapped ps.length h M) j c) * (x c)⁻¹ * x i) = fun t => row (swapped ps.length h M) j t + (-(row (swapped ps.length h M) j c)) * ((x c)⁻¹ * x t) := by funext i; grind
          rw [e9] at this
          exact this
      · refine Rs.sub fun r hr => ?_
        obtain ⟨j, hj, rfl⟩ := mem_row hr
        have swr : ∀ i, i < M.length → i ≠ ps.length → Rs (rowsV s.1) (row (swapped ps.length h M) i) := fun i hi ne => by
          have a1 := Rs.mem (row_mem (M := s.1) (j := i) (by rw [ml]; exact hi))
          rw [sr i hi, if_neg ne] at a1
          have := Rs.comb (row (swapped ps.length h M) i c) a1 nt
          have e9 : (fun t => (row (swapped ps.length h M) i t + (-(row (swapped ps.length h M) i c)) * ((x c)⁻¹ * x t)) + row (swapped ps.length h M) i c * ((x c)⁻¹ * x t)) = row (swapped ps.length h M) i := by funext t; grind
          rw [e9] at this
          exact this
        by_cases z1 : j = h
        · rw [z1, hx]; exact xs
        · by_cases z2 : j = ps.length
          · have := swr h hm.2.1 (by omega)
            rw [sw h, if_pos rfl] at this
            rw [z2]; exact this
          · have := swr j hj z2
            rw [sw j, if_neg z1, if_neg z2] at this
            exact this
end
end Q
namespace Q
theorem red_red {M : List (List Rat)} {W : Nat} (h : ∀ r ∈ M, r.length = W) (c : Nat) : Red M W c (red c M) := by
  unfold red
  induction c with
  | zero => exact Red.start h
  | succ n ih =>
    rw [List.range_succ, List.foldl_append]
    exact Red.step (M := ((List.range n).foldl stepC (M, [])).1) (ps := ((List.range n).foldl stepC (M, [])).2) ih
def ech (s : List (List Rat) × List Nat) : List (Nat × Vc) := s.2.zipIdx.map fun p => (p.1, row s.1 p.2)
theorem ech_mem {s : List (List Rat) × List Nat} {p : Nat × Vc} (h : p ∈ ech s) : ∃ i, s.2[i]? = some p.1 ∧ p.2 = row s.1 i := by
  obtain ⟨x, hx, rfl⟩ := List.mem_map.mp h
  exact ⟨x.2, List.mem_zipIdx_iff_getElem?.mp hx, rfl⟩
theorem mem_ech {s : List (List Rat) × List Nat} {i p : Nat} (h : s.2[i]? = some p) : (p, row s.1 i) ∈ ech s :=
  List.mem_map.mpr ⟨(p, i), List.mem_zipIdx_iff_getElem?.mpr h, rfl⟩
theorem ech_fst (s : List (List Rat) × List Nat) : (ech s).map (fun p => p.1) = s.2 := by
  unfold ech
  rw [List.map_map]
  have : ((fun p : Nat × Vc => p.1) ∘ fun p : Nat × Nat => (p.1, row s.1 p.2)) = Prod.fst := rfl
  rw [this, List.zipIdx_map_fst]
theorem ech_len (s : List (List Rat) × List Nat) : (ech s).length = s.2.length := by
  unfold ech
  rw [List.length_map, List.length_zipIdx]
section
variable {M : List (List Rat)} {W c : Nat} {s : List (List Rat) × List Nat}
theorem ech_rref (R : Red M W c s) : Rref (ech s) := by
  have lt : ∀ {i p : Nat}, s.2[i]? = some p → i < s.1.length := fun e => Nat.lt_of_lt_of_le (List.getElem?_eq_some_iff.mp e).1 R.plen
  refine ⟨?_, fun p hp => ?_, fun p hp q hq ne => ?_, fun p hp i hi => ?_⟩
  · have := R.asc
    rw [← ech_fst s, List.pairwise_map] at this
    exact this
  · obtain ⟨i, e, r⟩ := ech_mem hp
    rw [r, R.one i _ e i (lt e), if_pos rfl]
  · obtain ⟨i, e, r⟩ := ech_mem hp
    obtain ⟨j, e2, r2⟩ := ech_mem hq
    rw [r2, R.one i _ e j (lt e2), if_neg]
    intro z
    rw [z, e] at e2
    exact ne (Option.some.inj e2)
  · obtain ⟨j, e, r⟩ := ech_mem hp
    rw [r]
    exact R.led j _ e i hi
theorem row_out (R : Red M W c s) {j : Nat} (hj : j < s.1.length) {t : Nat} (ht : W ≤ t) : row s.1 j t = 0 := by
  unfold row vec
  have := row_len R.wid hj
  simp only [List.getD]
  rw [List.getElem?_eq_none (by
    have e : (s.1[j]?.getD []) = s.1.getD j [] := rfl
    rw [e, this]; exact ht)]
  rfl
theorem ech_span (R : Red M W W s) (v : Vc) : Rs ((ech s).map fun p => p.2) v ↔ Rs (rowsV M) v := by
  rw [← R.spn v]
  constructor
  · refine Rs.sub fun r hr => ?_
    obtain ⟨p, hp, rfl⟩ := List.mem_map.mp hr
    obtain ⟨i, e, z⟩ := ech_mem hp
    rw [z]
    exact Rs.mem (row_mem (Nat.lt_of_lt_of_le (List.getElem?_eq_some_iff.mp e).1 R.plen))
  · refine Rs.sub fun r hr => ?_
    obtain ⟨j, hj, rfl⟩ := mem_row hr
    by_cases l : j < s.2.length
    · exact Rs.mem (List.mem_map.mpr ⟨_, mem_ech (List.getElem?_eq_getElem l), rfl⟩)
    · have : row s.1 j = fun _ => 0 := by
        funext t
        rcases Nat.lt_or_ge t W with q | q
        · exact R.low j (by omega) hj t q
        · exact row_out R hj q
      rw [this]
      exact .zero
theorem ech_unique (h : ∀ r ∈ M, r.length = W) {D : List (Nat × Vc)} (hD : Rref D) (hs : ∀ v, Rs (D.map fun p => p.2) v ↔ Rs (rowsV M) v) : D = ech (red W M) :=
  rref_unique hD (ech_rref (red_red h W)) fun v => (hs v).trans (ech_span (red_red h W) v).symm
theorem rank_eq (h : ∀ r ∈ M, r.length = W) {D : List (Nat × Vc)} (hD : Rref D) (hs : ∀ v, Rs (D.map fun p => p.2) v ↔ Rs (rowsV M) v) : D.length = (red W M).2.length := by
  rw [ech_unique h hD hs, ech_len]
end
end Q
namespace Q
def taken (r lead : List Rat) (c : Nat) : List Rat := (r.zip lead).map fun p => p.1 + (-(r.getD c 0)) * p.2
theorem taken_lsn (r lead : List Rat) (c : Nat) : taken r lead c = lsn r (r.getD c 0) lead := rfl
def leadC (x : List Rat) (c : Nat) : List Rat := x.map fun y => y * (x.getD c 0)⁻¹
structure LE where
  left : List (List Rat)
  piv : List Nat
  done : List (List Rat)
def lstep (s : LE) (c : Nat) : LE := match (List.range s.left.length).filter fun a => decide ((s.left.getD a []).getD c 0 ≠ 0) with
  | [] => s
  | h :: _ => ⟨(s.left.eraseIdx h).map fun r => taken r (leadC (s.left.getD h []) c) c, s.piv ++ [c], (s.done.map fun r => taken r (leadC (s.left.getD h []) c) c) ++ [leadC (s.left.getD h []) c]⟩
def lech (W : Nat) (M : List (List Rat)) : LE := (List.range W).foldl lstep ⟨M, [], []⟩
def LE.D (s : LE) : List (Nat × Vc) := (s.piv.zip s.done).map fun p => (p.1, vec p.2)
structure Lred (M0 : List (List Rat)) (W c : Nat) (s : LE) : Prop where
  wl : ∀ r ∈ s.left, r.length = W
  wd : ∀ r ∈ s.done, r.length = W
  pl : s.piv.length = s.done.length
  lt : ∀ p ∈ s.piv, p < c
  rr : Rref s.D
  low : ∀ r ∈ s.left, ∀ t, t < c → vec r t = 0
  spn : ∀ v, Rs (rowsV (s.done ++ s.left)) v ↔ Rs (rowsV M0) v
section
variable {M0 : List (List Rat)} {W c : Nat} {s : LE}
theorem vec_lead {x : List Rat} (c t : Nat) : vec (leadC x c) t = (vec x c)⁻¹ * vec x t := by
  unfold vec leadC
  rw [getD_map0 (fun y => y * (x.getD c 0)⁻¹) (Rat.zero_mul _), Rat.mul_comm]
theorem vec_taken {r lead : List Rat} (h : r.length = lead.length) (c t : Nat) : vec (taken r lead c) t = vec r t + (-(vec r c)) * vec lead t := by
  rw [taken_lsn, vec_lsn _ h]
  rfl
theorem Lred.step (R : Lred M0 W c s) : Lred M0 W (c + 1) (lstep s c) := by
  unfold lstep
  split
  · rename_i e
    refine ⟨R.wl, R.wd, R.pl, fun p hp => Nat.lt_succ_of_lt (R.lt p hp), R.rr, fun r hr t ht => ?_, R.spn⟩
    rcases Nat.lt_or_ge t c with l | l
    · exact R.low r hr t l
    · have tc : t = c := by omega
      subst tc
      obtain ⟨j, hj, ej⟩ := mem_getD hr
      refine Decidable.byContradiction fun n => ?_
      have : j ∈ (List.range s.left.length).filter fun a => decide ((s.left.getD a []).getD t 0 ≠ 0) := List.mem_filter.mpr ⟨List.mem_range.mpr hj, decide_eq_true (by rw [ej]; exact n)⟩
      rw [e] at this
      cases this
  · rename_i h tl e
    have hmem : h ∈ (List.range s.left.length).filter fun a => decide ((s.left.getD a []).getD c 0 ≠ 0) := by rw [e]; exact List.mem_cons_self
    obtain ⟨hh, hz⟩ := List.mem_filter.mp hmem
    have hh := List.mem_range.mp hh
    have xz : vec (s.left.getD h []) c ≠ 0 := of_decide_eq_true hz
    have xm : s.left.getD h [] ∈ s.left := getD_memM hh
    have xW := R.wl _ xm
    have xlow := R.low _ xm
    have hleft : ∀ r, r ∈ s.left ↔ r ∈ s.left.eraseIdx h ∨ r = s.left.getD h [] := fun r => by
      have e1 : s.left.getD h [] = s.left[h] := by simp [List.getD, hh]
      have sp : s.left = s.left.take h ++ s.left[h] :: s.left.drop (h + 1) := by rw [← List.drop_eq_getElem_cons hh, List.take_append_drop]
      rw [List.eraseIdx_eq_take_drop_succ, e1]
      constructor
      · intro hr
        rw [sp] at hr
        rcases List.mem_append.mp hr with z | z
        · exact .inl (List.mem_append_left _ z)
        · rcases List.mem_cons.mp z with z | z
          · exact .inr z
          · exact .inl (List.mem_append_right _ z)
      · rintro (hr | hr)
        · rcases List.mem_append.mp hr with z | z
          · exact List.mem_of_mem_take z
          · exact List.mem_of_mem_drop z
        · rw [hr]; exact List.getElem_mem _
    generalize s.left.getD h [] = x at *
    have lW : (leadC x c).length = W := by unfold leadC; rw [List.length_map, xW]
    have tW : ∀ r : List Rat, r.length = W → (taken r (leadC x c) c).length = W := fun r hr => by
      unfold taken
      rw [List.length_map, List.length_zip, hr, lW, Nat.min_self]
    have ff : (vec x c)⁻¹ * vec x c = 1 := Rat.inv_mul_cancel _ xz
    have lc : vec (leadC x c) c = 1 := by rw [vec_lead, ff]
    have ll : ∀ t, t < c → vec (leadC x c) t = 0 := fun t ht => by rw [vec_lead, xlow t ht]; grind
    have vt : ∀ r : List Rat, r.length = W → ∀ t, vec (taken r (leadC x c) c) t = vec r t + (-(vec r c)) * vec (leadC x c) t := fun r hr t => vec_taken (by rw [hr, lW]) c t
    generalize hL : leadC x c = L at *
    refine ⟨fun r hr => ?_, fun r hr => ?_, ?_, fun p hp => ?_, ?_, fun r hr t ht => ?_, fun v => ?_⟩
    · obtain ⟨q, hq, rfl⟩ := List.mem_map.mp hr
      exact tW q (R.wl q ((hleft q).mpr (.inl hq)))
    · rcases List.mem_append.mp hr with z | z
      · obtain ⟨q, hq, rfl⟩ := List.mem_map.mp z
        exact tW q (R.wd q hq)
      · rw [List.mem_singleton.mp z]; exact lW
    · rw [List.length_append, List.length_append, List.length_map, R.pl]
      rfl
    · rcases List.mem_append.mp hp with z | z
      · exact Nat.lt_succ_of_lt (R.lt p z)
      · rw [List.mem_singleton.mp z]; exact Nat.lt_succ_self _
    · -- the new echelon form
      have eD : LE.D ⟨(s.left.eraseIdx h).map fun r => taken r L c, s.piv ++ [c], (s.done.map fun r => taken r L c) ++ [L]⟩ = (s.piv.zip s.done).map (fun p => (p.1, vec (taken p.2 L c))) ++ [(c, vec L)] := by
        unfold LE.D
        rw [List.zip_append (by rw [List.length_map]; exact R.pl), List.map_append, List.zip_map_right, List.map_map]
        rfl
      rw [eD]
      have old : ∀ {p : Nat × List Rat}, p ∈ s.piv.zip s.done → p.1 < c ∧ p.2.length = W ∧ (p.1, vec p.2) ∈ s.D := fun {p} hp => by
        have := List.of_mem_zip (a := p.1) (b := p.2) hp
        exact ⟨R.lt _ this.1, R.wd _ this.2, List.mem_map.mpr ⟨p, hp, rfl⟩⟩
      have rr := R.rr
      refine ⟨?_, fun p hp => ?_, fun p hp q hq ne => ?_, fun p hp i hi => ?_⟩
      · rw [List.pairwise_append]
        refine ⟨?_, List.pairwise_singleton _ _, fun a ha b hb => ?_⟩
        · have := rr.asc
          unfold LE.D at this
          rw [List.pairwise_map] at this ⊢
          exact this
        · obtain ⟨q, hq, rfl⟩ := List.mem_map.mp ha
          rw [List.mem_singleton.mp hb]
          exact (old hq).1
      · rcases List.mem_append.mp hp with z | z
        · obtain ⟨q, hq, rfl⟩ := List.mem_map.mp z
          obtain ⟨o1, o2, o3⟩ := old hq
          show vec (taken q.2 L c) q.1 = 1
          have this : vec q.2 q.1 = 1 := rr.one _ o3
          rw [vt _ o2, ll _ o1, this]
          grind
        · rw [List.mem_singleton.mp z]; exact lc
      · rcases List.mem_append.mp hp with z | z
        · obtain ⟨a, ha, rfl⟩ := List.mem_map.mp z
          obtain ⟨o1, o2, o3⟩ := old ha
          rcases List.mem_append.mp hq with y | y
          · obtain ⟨b, hb, rfl⟩ := List.mem_map.mp y
            obtain ⟨u1, u2, u3⟩ := old hb
            show vec (taken b.2 L c) a.1 = 0
            have this : vec b.2 a.1 = 0 := rr.zer _ o3 _ u3 ne
            rw [vt _ u2, ll _ o1, this]
            grind
          · rw [List.mem_singleton.mp y]; exact ll _ o1
        · have pc : p = (c, vec L) := List.mem_singleton.mp z
          rcases List.mem_append.mp hq with y | y
          · obtain ⟨b, hb, rfl⟩ := List.mem_map.mp y
            obtain ⟨u1, u2, u3⟩ := old hb
            rw [pc]
            show vec (taken b.2 L c) c = 0
            rw [vt _ u2, lc]
            grind
          · rw [pc, List.mem_singleton.mp y] at ne
            exact absurd rfl ne
      · rcases List.mem_append.mp hp with z | z
        · obtain ⟨a, ha, rfl⟩ := List.mem_map.mp z
          obtain ⟨o1, o2, o3⟩ := old ha
          have hi : i < a.1 := hi
          show vec (taken a.2 L c) i = 0
          have this : vec a.2 i = 0 := rr.led _ o3 i hi
          rw [vt _ o2, ll _ (by omega), this]
          grind
        · rw [List.mem_singleton.mp z] at hi ⊢
          exact ll i hi
    · obtain ⟨q, hq, rfl⟩ := List.mem_map.mp hr
      have qm := (hleft q).mpr (.inl hq)
      rw [vt _ (R.wl q qm)]
      rcases Nat.lt_or_ge t c with l | l
      · rw [ll t l, R.low q qm t l]; grind
      · have tc : t = c := by omega
        subst tc
        rw [lc]; grind
    · rw [← R.spn v]
      have xR : vec x ∈ rowsV (s.done ++ s.left) := List.mem_map_of_mem (List.mem_append_right _ xm)
      have Lx : vec L = fun t => (0 : Rat) + (vec x c)⁻¹ * vec x t := by funext t; rw [← hL, vec_lead]; grind
      have xL : vec x = fun t => (0 : Rat) + vec x c * vec L t := by
        funext t
        rw [← hL, vec_lead, ← Rat.mul_assoc, Rat.mul_inv_cancel _ xz]
        grind
      have Lnew : Rs (rowsV (((s.done.map fun r => taken r L c) ++ [L]) ++ (s.left.eraseIdx h).map fun r => taken r L c)) (vec L) := Rs.mem (List.mem_map_of_mem (List.mem_append_left _ (List.mem_append_right _ (List.mem_singleton.mpr rfl))))
      constructor
      · refine Rs.sub fun r hr => ?_
        have LR : Rs (rowsV (s.done ++ s.left)) (vec L) := by rw [Lx]; exact Rs.comb _ .zero (Rs.mem xR)
        have tk : ∀ q : List Rat, q.length = W → q ∈ s.done ++ s.left → Rs (rowsV (s.done ++ s.left)) (vec (taken q L c)) := fun q hq hm => by
          have := Rs.comb (-(vec q c)) (Rs.mem (List.mem_map_of_mem (f := vec) hm)) LR
          have e9 : (fun i => vec q i + -(vec q c) * vec L i) = vec (taken q L c) := by funext t; rw [vt q hq]
          rw [e9] at this
          exact this
        obtain ⟨q, hq, rfl⟩ := List.mem_map.mp hr
        rcases List.mem_append.mp hq with z | z
        · rcases List.mem_append.mp z with z | z
          · obtain ⟨u, hu, rfl⟩ := List.mem_map.mp z
            exact tk u (R.wd u hu) (List.mem_append_left _ hu)
          · rw [List.mem_singleton.mp z]; exact LR
        · obtain ⟨u, hu, rfl⟩ := List.mem_map.mp z
          have um := (hleft u).mpr (.inl hu)
          exact tk u (R.wl u um) (List.mem_append_right _ um)
      · refine Rs.sub fun r hr => ?_
        have bk : ∀ q : List Rat, q.length = W → taken q L c ∈ ((s.done.map fun r => taken r L c) ++ [L]) ++ (s.left.eraseIdx h).map (fun r => taken r L c) → Rs (rowsV (((s.done.map fun r => taken r L c) ++ [L]) ++ (s.left.eraseIdx h).map fun r => taken r L c)) (vec q) := fun q hq hm => by
          have := Rs.comb (vec q c) (Rs.mem (List.mem_map_of_mem (f := vec) hm)) Lnew
          have e9 : (fun i => vec (taken q L c) i + vec q c * vec L i) = vec q := by funext t; rw [vt q hq]; grind
          rw [e9] at this
          exact this
        obtain ⟨q, hq, rfl⟩ := List.mem_map.mp hr
        rcases List.mem_append.mp hq with z | z
        · exact bk q (R.wd q z) (List.mem_append_left _ (List.mem_append_left _ (List.mem_map_of_mem z)))
        · rcases (hleft q).mp z with y | y
          · exact bk q (R.wl q z) (List.mem_append_right _ (List.mem_map_of_mem y))
          · rw [y, xL]
            exact Rs.comb _ .zero Lnew
theorem Lred.start {M : List (List Rat)} (h : ∀ r ∈ M, r.length = W) : Lred M W 0 ⟨M, [], []⟩ :=
  ⟨h, (fun r hr => nomatch hr), rfl, (fun p hp => nomatch hp), ⟨.nil, (fun p hp => nomatch hp), (fun p hp => nomatch hp), (fun p hp => nomatch hp)⟩, (fun r _ t ht => by omega), fun v => Iff.rfl⟩
theorem lech_red {M : List (List Rat)} (h : ∀ r ∈ M, r.length = W) (c : Nat) : Lred M W c (lech c M) := by
  unfold lech
  induction c with
  | zero => exact Lred.start h
  | succ n ih =>
    rw [List.range_succ, List.foldl_append]
    exact Lred.step ih
theorem lech_span {M : List (List Rat)} (h : ∀ r ∈ M, r.length = W) (v : Vc) : Rs ((lech W M).D.map fun p => p.2) v ↔ Rs (rowsV M) v := by
  have R := lech_red h W
  rw [← R.spn v]
  have eD : (lech W M).D.map (fun p => p.2) = rowsV (lech W M).done := by
    unfold LE.D rowsV
    rw [List.map_map]
    have : ((fun p : Nat × Vc => p.2) ∘ fun p : Nat × List Rat => (p.1, vec p.2)) = vec ∘ Prod.snd := rfl
    rw [this, ← List.map_map, List.map_snd_zip (by rw [R.pl]; exact Nat.le_refl _)]
  rw [eD]
  constructor
  · refine Rs.sub fun r hr => Rs.mem ?_
    obtain ⟨q, hq, rfl⟩ := List.mem_map.mp hr
    exact List.mem_map_of_mem (List.mem_append_left _ hq)
  · refine Rs.sub fun r hr => ?_
    obtain ⟨q, hq, rfl⟩ := List.mem_map.mp hr
    rcases List.mem_append.mp hq with z | z
    · exact Rs.mem (List.mem_map_of_mem z)
    · have : vec q = fun _ => 0 := by
        funext t
        rcases Nat.lt_or_ge t W with l | l
        · exact R.low q z t l
        · show q.getD t 0 = 0
          have := R.wl q z
          simp only [List.getD]
          rw [List.getElem?_eq_none (by omega)]
          rfl
      rw [this]
      exact .zero
theorem lech_ech {M : List (List Rat)} (h : ∀ r ∈ M, r.length = W) : (lech W M).D = ech (red W M) := ech_unique h (lech_red h W).rr (lech_span h)
theorem lech_rank {M : List (List Rat)} (h : ∀ r ∈ M, r.length = W) : (lech W M).done.length = (red W M).2.length := by
  have e := congrArg List.length (lech_ech h)
  rw [ech_len] at e
  rw [← e]
  unfold LE.D
  rw [List.length_map, List.length_zip, (lech_red h W).pl, Nat.min_self]
end
end Q
namespace Q
def restr (n : Nat) (v : Vc) : Vc := fun t => if t < n then v t else 0
theorem restr_vec (n : Nat) (r : List Rat) : vec (r.take n) = restr n (vec r) := by
  funext t
  unfold vec restr
  by_cases l : t < n
  · rw [if_pos l]
    simp only [List.getD, List.getElem?_take, l, if_true]
  · rw [if_neg l]
    simp only [List.getD, List.getElem?_take, l, if_false]
    rfl
theorem Rs.restr {L : List Vc} {v : Vc} (n : Nat) (h : Rs L v) : Rs (L.map (Q.restr n)) (Q.restr n v) := by
  induction h with
  | zero =>
    have : Q.restr n (fun _ => (0 : Rat)) = fun _ => 0 := by funext t; unfold Q.restr; split <;> rfl
    rw [this]
    exact .zero
  | add a _ hr ih =>
    have := Rs.comb a ih (Rs.mem (List.mem_map_of_mem (f := Q.restr n) hr))
    refine Eq.mp ?_ this
    congr 1
    funext t
    unfold Q.restr
    split
    · rfl
    · grind
section
variable {M : List (List Rat)} {n : Nat}
theorem rank_trunc (h : ∀ r ∈ M, r.length = n + 1) : (red n (M.map fun r => r.take n)).2.length = (red n M).2.length := by
  have R := red_red h n
  generalize hs : red n M = s at *
  have er := ech_rref R
  have lt : ∀ {i p : Nat}, s.2[i]? = some p → p < n := fun e => R.lt _ (List.mem_of_getElem? e)
  have rD : Rref ((ech s).map fun p => (p.1, restr n p.2)) := by
    have pn : ∀ p ∈ ech s, p.1 < n := fun p hp => by
      obtain ⟨i, e, _⟩ := ech_mem hp
      exact lt e
    refine ⟨?_, fun p hp => ?_, fun p hp q hq ne => ?_, fun p hp i hi => ?_⟩
    · rw [List.pairwise_map]
      exact er.asc
    · obtain ⟨a, ha, rfl⟩ := List.mem_map.mp hp
      show (if a.1 < n then a.2 a.1 else 0) = 1
      rw [if_pos (pn a ha)]
      exact er.one a ha
    · obtain ⟨a, ha, rfl⟩ := List.mem_map.mp hp
      obtain ⟨b, hb, rfl⟩ := List.mem_map.mp hq
      show (if a.1 < n then b.2 a.1 else 0) = 0
      rw [if_pos (pn a ha)]
      exact er.zer a ha b hb ne
    · obtain ⟨a, ha, rfl⟩ := List.mem_map.mp hp
      show (if i < n then a.2 i else 0) = 0
      split
      · exact er.led a ha i hi
      · rfl
  have e1 : rowsV (M.map fun r => r.take n) = (rowsV M).map (restr n) := by
    unfold rowsV
    rw [List.map_map, List.map_map]
    apply List.map_congr_left
    intro r _
    exact restr_vec n r
  have hW : ∀ r ∈ M.map (fun r => r.take n), r.length = n := fun r hr => by
    obtain ⟨q, hq, rfl⟩ := List.mem_map.mp hr
    rw [List.length_take, h q hq]
    omega
  have := rank_eq hW rD fun v => by
    rw [e1, List.map_map]
    constructor
    · refine Rs.sub fun r hr => ?_
      obtain ⟨p, hp, rfl⟩ := List.mem_map.mp hr
      obtain ⟨i, e, z⟩ := ech_mem hp
      show Rs _ (restr n p.2)
      rw [z]
      exact ((R.spn _).mp (Rs.mem (row_mem (Nat.lt_of_lt_of_le (List.getElem?_eq_some_iff.mp e).1 R.plen)))).restr n
    · refine Rs.sub fun r hr => ?_
      obtain ⟨q, hq, rfl⟩ := List.mem_map.mp hr
      have := ((R.spn q).mpr (Rs.mem hq)).restr n
      refine Rs.sub (fun u hu => ?_) this
      obtain ⟨w, hw, rfl⟩ := List.mem_map.mp hu
      obtain ⟨j, hj, rfl⟩ := mem_row hw
      by_cases l : j < s.2.length
      · exact Rs.mem (List.mem_map.mpr ⟨_, mem_ech (List.getElem?_eq_getElem l), rfl⟩)
      · have : restr n (row s.1 j) = fun _ => 0 := by
          funext t
          unfold restr
          split
          · rename_i q
            exact R.low j (by omega) hj t q
          · rfl
        rw [this]
        exact .zero
  rw [← this, List.length_map, ech_len]
theorem slv_rank (h : ∀ r ∈ M, r.length = n + 1) : (slv n M).isSome = decide ((red (n + 1) M).2.length = (red n M).2.length) := by
  have R := red_red h n
  have es : red (n + 1) M = stepC (red n M) n := by
    unfold red
    rw [List.range_succ, List.foldl_append]
    rfl
  unfold slv
  rw [es]
  generalize red n M = s at *
  unfold stepC
  cases e : heres s.2.length n s.1 with
  | nil =>
    have : (s.1.drop s.2.length).any (fun r => decide (r.getD n 0 ≠ 0)) = false := by
      rw [List.any_eq_false]
      intro r hr
      rw [decide_eq_true_eq]
      intro z
      obtain ⟨i, hi, ei⟩ := List.mem_iff_getElem.mp hr
      rw [List.length_drop] at hi
      rw [List.getElem_drop] at ei
      have hm : s.2.length + i ∈ heres s.2.length n s.1 := by
        refine List.mem_filter.mpr ⟨List.mem_map.mpr ⟨i, List.mem_range.mpr hi, rfl⟩, decide_eq_true ?_⟩
        have : s.1.getD (s.2.length + i) [] = s.1[s.2.length + i] := by simp [List.getD, show s.2.length + i < s.1.length by omega]
        rw [this, ei]
        exact z
      rw [e] at hm
      cases hm
    rw [this]
    simp
  | cons k ks =>
    have hm := heres_mem (a := k) (by rw [e]; exact List.mem_cons_self)
    have : (s.1.drop s.2.length).any (fun r => decide (r.getD n 0 ≠ 0)) = true := by
      rw [List.any_eq_true]
      have e1 : s.1.getD k [] = s.1[k] := by simp [List.getD, hm.2.1]
      refine ⟨s.1.getD k [], ?_, decide_eq_true hm.2.2⟩
      rw [e1]
      refine List.mem_iff_getElem.mpr ⟨k - s.2.length, by rw [List.length_drop]; omega, ?_⟩
      rw [List.getElem_drop]
      congr 1
      omega
    rw [this]
    simp
end
end Q
namespace Q
open DL L2 PySem PySem.Spec PyProof.Rows
theorem over_div (p q : Rat) (h : q ≠ 0) : p * q⁻¹ = Rat.divInt (p.num * (q.den : Int)) ((p.den : Int) * q.num) := by
  have e1 : p = Rat.divInt p.num (p.den : Int) := (Rat.num_divInt_den p).symm
  have e2 := inv_div q h
  rw [e2]
  conv => lhs; rw [e1]
  rw [Rat.divInt_mul_divInt]
theorem less_div (p q : Rat) : p - q = Rat.divInt (p.num * (q.den : Int) - q.num * (p.den : Int)) ((p.den : Int) * (q.den : Int)) := by
  rw [Rat.sub_eq_add_neg, add_div, Rat.neg_num, Rat.neg_den]
  congr 1
  rw [Int.neg_mul]
  omega
section
variable {p q : Rat} {i j : Nat}
theorem v_lover (h1 : Sz i p) (h2 : Sz j q) (hq : q ≠ 0) (l : i + j ≤ 8000) (ρ : En) : (F_law_over [fr p, fr q]).R ρ = .ok (fr (p * q⁻¹)) ρ := by
  have m1 := mulS (a := p.num) (b := (q.den : Int)) (i := i) (j := j) h1.1 h2.d l
  have m2 := mulS (a := (p.den : Int)) (b := q.num) (i := i) (j := j) h1.d h2.1 l
  have nz : (p.den : Int) * q.num ≠ 0 := Int.mul_ne_zero (dne p) (num_ne hq)
  have bd : ((p.den : Int) * q.num).natAbs < 2 ^ 8000 := by
    rw [Int.natAbs_mul]
    have a1 : (p.den : Int).natAbs * q.num.natAbs < 2 ^ i * 2 ^ j := Nat.mul_lt_mul'' h1.d h2.1
    rw [← Nat.pow_add] at a1
    exact Nat.lt_of_lt_of_le a1 (Nat.pow_le_pow_right (by decide) l)
  have v := fun ρ => v_llowest (a := p.num * (q.den : Int)) nz bd ρ
  rw [← over_div p q hq] at v
  have i0 := ix0 p
  have i1 := ix1 p
  have k0 := ix0 q
  have k1 := ix1 q
  generalize fr (p * q⁻¹) = F at *
  generalize fr p = P at *
  generalize fr q = Q' at *
  simp -implicitDefEqProofs [F_law_over, runM, m_law_over, pad, i0, i1, k0, k1, m1, m2, mCall_R, v]
theorem v_lless (h1 : Sz i p) (h2 : Sz j q) (l : i + j ≤ 8000) (ρ : En) : (F_law_less [fr p, fr q]).R ρ = .ok (fr (p - q)) ρ := by
  have m1 := mulS (a := p.num) (b := (q.den : Int)) (i := i) (j := j) h1.1 h2.d l
  have m2 := mulS (a := q.num) (b := (p.den : Int)) (i := j) (j := i) h2.1 h1.d (by omega)
  have m3 := mulS (a := (p.den : Int)) (b := (q.den : Int)) (i := i) (j := j) h1.d h2.d l
  have nz : (p.den : Int) * (q.den : Int) ≠ 0 := Int.mul_ne_zero (dne p) (dne q)
  have bd : ((p.den : Int) * (q.den : Int)).natAbs < 2 ^ 8000 := by
    rw [Int.natAbs_mul]
    have a1 : (p.den : Int).natAbs * (q.den : Int).natAbs < 2 ^ i * 2 ^ j := Nat.mul_lt_mul'' h1.d h2.d
    rw [← Nat.pow_add] at a1
    exact Nat.lt_of_lt_of_le a1 (Nat.pow_le_pow_right (by decide) l)
  have v := fun ρ => v_llowest (a := p.num * (q.den : Int) - q.num * (p.den : Int)) nz bd ρ
  rw [← less_div p q] at v
  have i0 := ix0 p
  have i1 := ix1 p
  have k0 := ix0 q
  have k1 := ix1 q
  generalize fr (p - q) = F at *
  generalize fr p = P at *
  generalize fr q = Q' at *
  simp -implicitDefEqProofs [F_law_less, runM, m_law_less, pad, i0, i1, k0, k1, m1, m2, m3, mCall_R, v]
end
theorem taken_range {r x : List Rat} {c : Nat} (h : r.length = x.length) : (List.range r.length).map (fun j => r.getD j 0 - r.getD c 0 * x.getD j 0) = taken r x c := by
  unfold taken
  apply List.ext_getElem
  · rw [List.length_map, List.length_map, List.length_range, List.length_zip, h, Nat.min_self]
  · intro i h1 h2
    rw [List.length_map, List.length_range] at h1
    have a1 : r.getD i 0 = r[i] := by simp [List.getD, h1]
    have a2 : x.getD i 0 = x[i]'(by omega) := by simp [List.getD, show i < x.length by omega]
    rw [List.getElem_map, List.getElem_map, List.getElem_range, List.getElem_zip, a1, a2]
    show r[i] - r.getD c 0 * x[i] = r[i] + (-(r.getD c 0)) * x[i]
    grind
theorem v_ltaken {W i j : Nat} {r x : List Rat} {d1 d2 : D} {c : Nat} (h1 : Sq d1 (r.map fr)) (h2 : Sq d2 (x.map fr)) (hr : Rw W i r) (hx : Rw W j x) (hc : c < W) (hW : W ≤ 1000) (hl : i + (i + j) ≤ 8000) (ρ : En) : (F_law_taken [d1, d2, .int (c : Nat)]).R ρ = .ok (rw_ (taken r x c)) ρ := by
  have sz := szv
  have gl : gLen [d1] = some (.int (r.length : Nat)) := by rw [h1.len, List.length_map]
  have rg := range1 (n := r.length) (by rw [hr.1]; omega)
  have e := mLc_map (as := List.range r.length) (enc := fun k => D.int (k : Nat)) (vs := [3]) (g := mgName 3) (mi := mItN gRange1 (mCons (mN gLen (mCons (mVar 0) mNil)) mNil)) (me := m_law_taken_e0)
    (ρ0 := [some d1, some d2, some (.int (c : Nat)), none]) (ρ := [some d1, some d2, some (.int (c : Nat)), none]) (st := fun k => [some d1, some d2, some (.int (c : Nat)), some (.int (k : Nat))]) (f := fun k => fr (r.getD k 0 - r.getD c 0 * x.getD k 0))
    (by
      generalize (List.range r.length).map (fun k => D.int (k : Nat)) = R at *
      simp -implicitDefEqProofs [gl, rg, -gRange1_i]) (by rw [List.length_range, hr.1]; omega) (fun _ => rfl) (fun _ _ => rfl) (fun k hk => by
      have hk := List.mem_range.mp hk
      have hkW : k < W := by rw [← hr.1]; exact hk
      have i1 := ixR h1 (c := k) hk
      have i2 := ixR h1 (c := c) (by rw [hr.1]; exact hc)
      have i3 := ixR h2 (c := k) (by rw [hx.1]; exact hkW)
      have s1 := hr.g hkW
      have s2 := hr.g hc
      have s3 := hx.g hkW
      generalize r.getD k 0 = a at *
      generalize r.getD c 0 = b at *
      generalize x.getD k 0 = y at *
      have v1 := fun ρ => v_ltimes s2 s3 (by omega) ρ
      have v2 := fun ρ => v_lless s1 (s2.mul s3) (by omega) ρ
      generalize fr (a - b * y) = F1 at *
      generalize fr (b * y) = F2 at *
      generalize fr a = F3 at *
      generalize fr b = F4 at *
      generalize fr y = F5 at *
      simp -implicitDefEqProofs [m_law_taken_e0, i1, i2, i3, mCall_R, v1, v2])
  have e2 : (List.range r.length).map (fun k => fr (r.getD k 0 - r.getD c 0 * x.getD k 0)) = (taken r x c).map fr := by
    rw [← taken_range (by rw [hr.1, hx.1]), List.map_map]
    rfl
  rw [e2] at e
  show _ = DL.R.ok (D.lst ((taken r x c).map fr)) ρ
  generalize (taken r x c).map fr = R at *
  simp -implicitDefEqProofs [F_law_taken, runM, m_law_taken, pad, e]
end Q
namespace Q
open DL L2 PySem PySem.Spec PyProof.Rows
section
variable {W k col : Nat} {s : LE} {d1 : D} {o6 o7 o8 : Option D}
abbrev Le (W : Nat) (d1 L Dn : D) (o5 o6 o7 o8 : Option D) : En := [some (.int (W : Nat)), some d1, some L, none, some Dn, o5, o6, o7, o8, none]
def lhere (M : List (List Rat)) (c : Nat) : List Nat := (List.range M.length).filter fun a => decide ((M.getD a []).getD c 0 ≠ 0)
theorem v_lhere {M : List (List Rat)} {Dn : D} (hM : ∀ r ∈ M, r.length = W) (hc : col < W) (hm : M.length ≤ 1000) :
    mLc [7] (mItN gRange1 (mCons (mNO gLen 2) mNil)) (mgName 7) m_law_echelon_t1 (mVar 7) (Le W d1 (mxD M) Dn (some (.int (col : Nat))) o6 o7 o8) = .ok (nl (lhere M col)) (Le W d1 (mxD M) Dn (some (.int (col : Nat))) o6 o7 o8) := by
  have sz := szv
  exact mLc_filt (as := List.range M.length) (enc := fun i => D.int (i : Nat)) (vs := [7]) (g := mgName 7) (mi := mItN gRange1 (mCons (mNO gLen 2) mNil)) (mt := m_law_echelon_t1) (me := mVar 7)
    (ρ0 := Le W d1 (mxD M) Dn (some (.int (col : Nat))) o6 o7 o8) (ρ := Le W d1 (mxD M) Dn (some (.int (col : Nat))) o6 o7 o8) (st := fun i => Le W d1 (mxD M) Dn (some (.int (col : Nat))) o6 (some (.int (i : Nat))) o8)
    (p := fun a => decide ((M.getD a []).getD col 0 ≠ 0)) (f := fun i => D.int (i : Nat))
    (by
      have r := range1 (n := M.length) (by omega)
      have g := gLen_mx (M := M)
      generalize (List.range M.length).map (fun i => D.int (i : Nat)) = R at *
      obtain ⟨L, hL⟩ : ∃ L, mxD M = .lst L := ⟨_, rfl⟩
      rw [hL] at g ⊢
      simp -implicitDefEqProofs [mNO, getO_ap, g, r, -gRange1_i])
    (by rw [List.length_range]; omega) (fun _ => rfl) (fun _ _ => rfl) (fun a ha => by
      have ha := List.mem_range.mp ha
      have i1 := ixM (M := M) ha
      have i3 := ixR (d := rw_ (M.getD a [])) (.inr rfl) (c := col) (by rw [hM _ (getD_memM ha)]; exact hc)
      have i4 := ix0 ((M.getD a []).getD col 0)
      have en : decide ((M.getD a []).getD col 0 ≠ 0) = !decide (((M.getD a []).getD col 0).num = 0) := by
        have : ((M.getD a []).getD col 0).num = 0 ↔ (M.getD a []).getD col 0 = 0 := Rat.num_eq_zero
        simp only [ne_eq, decide_not]
        congr 1
        exact decide_eq_decide.mpr this.symm
      rw [en]
      generalize ((M.getD a []).getD col 0).num = x at *
      generalize fr ((M.getD a []).getD col 0) = F at *
      generalize rw_ (M.getD a []) = A at *
      generalize mxD M = MM at *
      simp -implicitDefEqProofs [m_law_echelon_t1, m2B, evB, rdB, getO_ap, i1, i3, i4]) (fun _ _ _ => rfl)
theorem lhere_mem {M : List (List Rat)} {a c : Nat} (h : a ∈ lhere M c) : a < M.length ∧ (M.getD a []).getD c 0 ≠ 0 := by
  obtain ⟨h1, h2⟩ := List.mem_filter.mp h
  exact ⟨List.mem_range.mp h1, of_decide_eq_true h2⟩
theorem lead_rw {x : List Rat} {c : Nat} (hx : Rw W k x) (hc : c < W) (hz : x.getD c 0 ≠ 0) : Rw W (2 * k) (leadC x c) := by
  refine ⟨by unfold leadC; rw [List.length_map]; exact hx.1, fun y hy => ?_⟩
  obtain ⟨z, hz', rfl⟩ := List.mem_map.mp hy
  exact ((hx.2 z hz').mul ((hx.g hc).inv hz)).up (by omega)
theorem v_takens {M : List (List Rat)} {x : List Rat} {ρ : En} {mi : En → R (List D)} {L Dn : D} (hmi : mi (Le W d1 L Dn (some (.int (col : Nat))) o6 o7 (some (rw_ x))) = .ok (M.map rw_) (Le W d1 L Dn (some (.int (col : Nat))) o6 o7 (some (rw_ x)))) (hM : ∀ r ∈ M, Rw W k r) (hx : Rw W (2 * k) x) (hc : col < W) (hW : W ≤ 1000) (hm : M.length ≤ 1000) (hk : 4 * k + 1 ≤ 8000) :
    mLc [3] mi (mgName 3) mYes m_law_echelon_e3 (Le W d1 L Dn (some (.int (col : Nat))) o6 o7 (some (rw_ x))) = .ok (mxD (M.map fun r => taken r x col)) (Le W d1 L Dn (some (.int (col : Nat))) o6 o7 (some (rw_ x))) := by
  have sz := szv
  have e := mLc_map (as := M) (enc := rw_) (vs := [3]) (g := mgName 3) (mi := mi) (me := m_law_echelon_e3) (ρ0 := Le W d1 L Dn (some (.int (col : Nat))) o6 o7 (some (rw_ x))) (ρ := Le W d1 L Dn (some (.int (col : Nat))) o6 o7 (some (rw_ x)))
    (st := fun r => [some (.int (W : Nat)), some d1, some L, some (rw_ r), some Dn, some (.int (col : Nat)), o6, o7, some (rw_ x), none]) (f := fun r => rw_ (taken r x col)) hmi (by omega) (fun _ => rfl) (fun _ _ => rfl) (fun r hr => by
      have v := fun ρ => v_ltaken (d1 := rw_ r) (d2 := rw_ x) (c := col) (Sq.lst _) (Sq.lst _) (hM r hr) hx hc hW (by omega) ρ
      generalize rw_ (taken r x col) = T at *
      generalize rw_ r = R at *
      generalize rw_ x = X at *
      simp -implicitDefEqProofs [m_law_echelon_e3, mCall_R, v])
  rw [e]
  show R.ok (D.lst (M.map fun r => rw_ (taken r x col))) _ = R.ok (D.lst ((M.map fun r => taken r x col).map rw_)) _
  rw [List.map_map]
  rfl
theorem v_pop {M : List (List Rat)} {h : Nat} (hh : h < M.length) (hm : M.length ≤ 1000) : gPop (M.map rw_) [.int (h : Nat)] = some (rw_ (M.getD h []), (M.eraseIdx h).map rw_) := by
  have e0 : ¬ ((h : Int) < 0) := by omega
  have e1 : -(2 ^ 63) ≤ (h : Int) ∧ (h : Int) < 2 ^ 63 := by omega
  have e2 : seqIndex? (h : Int) (M.map rw_).length = some h := by
    unfold seqIndex?
    rw [List.length_map]
    simp [e0, hh]
  have e3 : (M.map rw_)[h]? = some (rw_ (M.getD h [])) := by
    rw [List.getElem?_map, List.getElem?_eq_getElem hh]
    simp [List.getD, hh]
  have e4 : (M.map rw_).eraseIdx h = (M.eraseIdx h).map rw_ := by
    rw [List.eraseIdx_eq_take_drop_succ, List.eraseIdx_eq_take_drop_succ, List.map_append, List.map_take, List.map_drop]
  unfold gPop
  simp only [e1, and_self, if_true, e2, Option.bind_some, e3, Option.map_some, e4]
end
end Q
namespace Q
open DL L2 PySem PySem.Spec PyProof.Rows
def Cd (d : Int) (a : Nat) (x : Rat) : Prop := ∃ N : Int, x * (d : Rat) = (N : Rat) ∧ N.natAbs < 2 ^ a
def Cm (d : Int) (a : Nat) (L : List (List Rat)) : Prop := d ≠ 0 ∧ d.natAbs < 2 ^ a ∧ ∀ r ∈ L, ∀ x ∈ r, Cd d a x
theorem castZ {d : Int} (h : d ≠ 0) : (d : Rat) ≠ 0 := fun e => h (by exact_mod_cast e)
theorem Cd.sz {d : Int} {a : Nat} {x : Rat} (hd : d ≠ 0) (hb : d.natAbs < 2 ^ a) (h : Cd d a x) : Sz a x := by
  obtain ⟨N, e, hN⟩ := h
  have hz := castZ hd
  have : x = Rat.divInt N d := by
    rw [Rat.divInt_eq_div]
    grind
  rw [this]
  exact fr_low hd hN hb
theorem Cd.zero (d : Int) (a : Nat) : Cd d a 0 := ⟨0, by simp, Nat.two_pow_pos a⟩
theorem Cd.up {d : Int} {a b : Nat} {x : Rat} (h : Cd d a x) (l : a ≤ b) : Cd d b x := let ⟨N, e, h⟩ := h; ⟨N, e, Nat.lt_of_lt_of_le h (Nat.pow_le_pow_right (by decide) l)⟩
theorem Cm.up {d : Int} {a b : Nat} {L : List (List Rat)} (h : Cm d a L) (l : a ≤ b) : Cm d b L := ⟨h.1, Nat.lt_of_lt_of_le h.2.1 (Nat.pow_le_pow_right (by decide) l), fun r hr x hx => (h.2.2 r hr x hx).up l⟩
theorem Cd.g {d : Int} {a : Nat} {r : List Rat} (h : ∀ x ∈ r, Cd d a x) (c : Nat) : Cd d a (r.getD c 0) := by
  by_cases hc : c < r.length
  · have e : r.getD c 0 = r[c] := by simp [List.getD, hc]
    rw [e]
    exact h _ (List.getElem_mem _)
  · have e : r.getD c 0 = 0 := by simp [List.getD, hc]
    rw [e]
    exact Cd.zero d a
theorem Cm.rw {d : Int} {a W : Nat} {L : List (List Rat)} (h : Cm d a L) (hW : ∀ r ∈ L, r.length = W) : ∀ r ∈ L, Rw W a r := fun r hr => ⟨hW r hr, fun x hx => (h.2.2 r hr x hx).sz h.1 h.2.1⟩
theorem pow2 (a : Nat) : 2 ^ (2 * a + 1) = 2 ^ a * 2 ^ a * 2 := by rw [Nat.pow_succ, Nat.two_mul, Nat.pow_add]
theorem mul_lt {x y : Int} {a : Nat} (hx : x.natAbs < 2 ^ a) (hy : y.natAbs < 2 ^ a) : (x * y).natAbs < 2 ^ a * 2 ^ a := by
  rw [Int.natAbs_mul]
  exact Nat.mul_lt_mul'' hx hy
section
variable {d Nc : Int} {a : Nat} {xc : Rat}
theorem Cd.lead {y : Rat} (hy : Cd d a y) (hx : xc * (d : Rat) = (Nc : Rat)) (nz : xc ≠ 0) (hb : d.natAbs < 2 ^ a) : Cd (d * Nc) (2 * a + 1) (y * xc⁻¹) := by
  obtain ⟨N, e, hN⟩ := hy
  refine ⟨N * d, ?_, ?_⟩
  · rw [Rat.intCast_mul, Rat.intCast_mul, ← hx, ← e]
    have := Rat.inv_mul_cancel xc nz
    grind
  · have := mul_lt hN hb
    rw [pow2]
    omega
theorem Cd.keep {y : Rat} (hy : Cd d a y) (hN' : Nc.natAbs < 2 ^ a) : Cd (d * Nc) (2 * a + 1) y := by
  obtain ⟨N, e, hN⟩ := hy
  refine ⟨N * Nc, ?_, ?_⟩
  · rw [Rat.intCast_mul, Rat.intCast_mul, ← e]
    grind
  · have := mul_lt hN hN'
    rw [pow2]
    omega
theorem Cd.less {u v y : Rat} (hu : Cd d a u) (hv : Cd d a v) (hy : Cd d a y) (hx : xc * (d : Rat) = (Nc : Rat)) (hN' : Nc.natAbs < 2 ^ a) (nz : xc ≠ 0) : Cd (d * Nc) (2 * a + 1) (u + (-v) * (y * xc⁻¹)) := by
  obtain ⟨N1, e1, h1⟩ := hu
  obtain ⟨N2, e2, h2⟩ := hv
  obtain ⟨N3, e3, h3⟩ := hy
  refine ⟨N1 * Nc - N2 * N3, ?_, ?_⟩
  · rw [Rat.intCast_mul, Rat.intCast_sub, Rat.intCast_mul, Rat.intCast_mul, ← hx, ← e1, ← e2, ← e3]
    have := Rat.inv_mul_cancel xc nz
    grind
  · have a1 := mul_lt h1 hN'
    have a2 := mul_lt h2 h3
    rw [pow2]
    omega
theorem den_lt (hb : d.natAbs < 2 ^ a) (hN' : Nc.natAbs < 2 ^ a) : (d * Nc).natAbs < 2 ^ (2 * a + 1) := by
  have := mul_lt hb hN'
  rw [pow2]
  omega
end
theorem mem_lsn {r s : List Rat} {c x : Rat} (h : x ∈ lsn r c s) : ∃ u ∈ r, ∃ z ∈ s, x = u + (-c) * z := by
  unfold lsn at h
  obtain ⟨p, hp, rfl⟩ := List.mem_map.mp h
  have hm := List.of_mem_zip (a := p.1) (b := p.2) hp
  exact ⟨p.1, hm.1, p.2, hm.2, rfl⟩
theorem Cm.step {d : Int} {a : Nat} {s : List (List Rat) × List Nat} (h : Cm d a s.1) (col : Nat) : ∃ d', Cm d' (2 * a + 1) (stepC s col).1 := by
  unfold stepC
  cases e : heres s.2.length col s.1 with
  | nil => exact ⟨d, h.up (by omega)⟩
  | cons k ks =>
    have hm := heres_mem (a := k) (by rw [e]; exact List.mem_cons_self)
    have ht : s.2.length < s.1.length := by omega
    obtain ⟨hd, hb, hx⟩ := h
    have hp := fun r (hr : r ∈ swapped s.2.length k s.1) => hx r (swapped_mem ht hm.2.1 hr)
    have st := swapped_top (top := s.2.length) ht hm.2.1
    have tl : s.2.length < (swapped s.2.length k s.1).length := by rw [swapped_len]; exact ht
    have hP := hp _ (getD_memM tl)
    obtain ⟨Nc, eN, hN⟩ := Cd.g hP col
    have nz : ((swapped s.2.length k s.1).getD s.2.length []).getD col 0 ≠ 0 := by rw [st]; exact hm.2.2
    have Nz : Nc ≠ 0 := fun z => by
      rw [z] at eN
      have hz := castZ hd
      have : ((swapped s.2.length k s.1).getD s.2.length []).getD col 0 = 0 := by
        have e0 : ((0 : Int) : Rat) = 0 := rfl
        rw [e0] at eN
        grind
      exact nz this
    refine ⟨d * Nc, Int.mul_ne_zero hd Nz, den_lt hb hN, ?_⟩
    show ∀ r ∈ (List.range s.1.length).foldl (inner s.2.length col) (scaled s.2.length col (swapped s.2.length k s.1)), ∀ x ∈ r, Cd (d * Nc) (2 * a + 1) x
    generalize hS : swapped s.2.length k s.1 = S at *
    have gt : (scaled s.2.length col S).getD s.2.length [] = (S.getD s.2.length []).map fun x => ((S.getD s.2.length []).getD col 0)⁻¹ * x := by
      unfold scaled
      rw [getD_set tl, if_pos rfl]
    have lead : ∀ x ∈ (scaled s.2.length col S).getD s.2.length [], ∃ y ∈ S.getD s.2.length [], x = y * ((S.getD s.2.length []).getD col 0)⁻¹ := by
      rw [gt]
      intro x hx
      obtain ⟨y, hy, rfl⟩ := List.mem_map.mp hx
      exact ⟨y, hy, Rat.mul_comm _ _⟩
    have sl : (scaled s.2.length col S).length = s.1.length := by
      unfold scaled
      rw [List.length_set, ← hS, swapped_len]
    intro r hr x hxr
    obtain ⟨i, hi, rfl⟩ := mem_getD hr
    rw [inners_len, sl] at hi
    have ig := inners_get (top := s.2.length) (col := col) (List.range s.1.length) (scaled s.2.length col S) List.nodup_range (fun k hk => by rw [sl]; exact List.mem_range.mp hk) i
    rw [ig] at hxr
    have gi : i ≠ s.2.length → (scaled s.2.length col S).getD i [] = S.getD i [] := fun ne => by
      unfold scaled
      rw [getD_set tl, if_neg (fun e => ne e.symm)]
    have memS : S.getD i [] ∈ S := getD_memM (by rw [← hS, swapped_len]; exact hi)
    by_cases ci : i = s.2.length
    · rw [if_neg (fun h => h.2.1 ci), ci] at hxr
      obtain ⟨y, hy, rfl⟩ := lead x hxr
      exact (hP y hy).lead eN nz hb
    · have hrow := hp _ memS
      split at hxr
      · rw [gi ci] at hxr
        obtain ⟨u, hu, z, hz, rfl⟩ := mem_lsn hxr
        obtain ⟨y, hy, rfl⟩ := lead z hz
        exact (hrow u hu).less (Cd.g hrow col) (hP y hy) eN hN nz
      · rw [gi ci] at hxr
        exact (hrow x hxr).keep hN
def cdk (a : Nat) : Nat → Nat
  | 0 => a
  | n + 1 => 2 * cdk a n + 1
theorem cdk_mono (a : Nat) {i j : Nat} (h : i ≤ j) : cdk a i ≤ cdk a j := by
  induction j with
  | zero => rw [Nat.le_zero.mp h]; exact Nat.le_refl _
  | succ n ih =>
    rcases Nat.lt_or_ge i (n + 1) with l | l
    · have := ih (by omega)
      show _ ≤ 2 * cdk a n + 1
      omega
    · rw [Nat.le_antisymm h l]; exact Nat.le_refl _
theorem red_succ (c : Nat) (M : List (List Rat)) : red (c + 1) M = stepC (red c M) c := by
  unfold red
  rw [List.range_succ, List.foldl_append]
  rfl
theorem Cm.red {d : Int} {a : Nat} {M : List (List Rat)} (h : Cm d a M) : ∀ c : Nat, ∃ d', Cm d' (cdk a c) (Q.red c M).1
  | 0 => ⟨d, h⟩
  | c + 1 => by
    obtain ⟨d', h'⟩ := Cm.red h c
    rw [red_succ]
    exact h'.step c
theorem red_mx {d : Int} {a W m K : Nat} {M : List (List Rat)} (h : Cm d a M) (hW : ∀ r ∈ M, r.length = W) (hm : M.length = m) (c : Nat) (hK : cdk a c ≤ K) : Mx m W K (Q.red c M).1 := by
  obtain ⟨d', h'⟩ := h.red c
  have rr := red_red hW c
  refine ⟨by rw [(red_piv c M).1, hm], fun r hr => ((h'.rw (W := W) (fun r hr => ?_)) r hr).up hK⟩
  exact rr.wid r hr
end Q
namespace Q
open DL L2 PySem PySem.Spec PyProof.Rows
section
variable {d0 : D} {cs : Nat} {M : List (List Rat)} {W K m : Nat}
theorem loop_ct {g : MG} {mb : MS} {d : D} {ds : List D} {ρ ρ1 ρ2 : En} (h1 : g d ρ = .ok () ρ1) (h2 : mb ρ1 = .ct ρ2) : loopL g mb (d :: ds) ρ = loopL g mb ds ρ2 := by simp only [loopL, h1, h2]
theorem red_plen (c : Nat) (M : List (List Rat)) : (red c M).2.length ≤ c := (red_piv c M).2.2.1
theorem v_colsK (hm : m ≤ 1000) (hW : W ≤ 1000) (hK : 4 * K + 1 ≤ 8000) (hc : cs ≤ W) (st : ∀ c, c < cs → Mx m W K (red c M).1) : ∀ (n a : Nat) (o5 o6 o7 o8 o9 : Option D), a + n ≤ cs →
    ∃ o5' o6' o7' o8' o9', loopL (mgName 5) mreduced_b4 ((List.range' a n).map fun i => D.int (i : Nat)) (Rd d0 cs (mxD (red a M).1) (nl (red a M).2) o5 o6 o7 o8 o9) = .nx (Rd d0 cs (mxD (red (a + n) M).1) (nl (red (a + n) M).2) o5' o6' o7' o8' o9') := by
  intro n
  induction n with
  | zero => exact fun a o5 o6 o7 o8 o9 _ => ⟨o5, o6, o7, o8, o9, rfl⟩
  | succ n ih =>
    intro a o5 o6 o7 o8 o9 ha
    have pl := red_plen a M
    obtain ⟨⟨o6', o7', o8', o9', e⟩, _⟩ := v_col (d0 := d0) (cs := cs) (M := (red a M).1) (ps := (red a M).2) (col := a) (o6 := o6) (o7 := o7) (o8 := o8) (o9 := o9) (st a (by omega)) hm (by omega) (by omega) hW hK
    have es : stepC ((red a M).1, (red a M).2) a = red (a + 1) M := (red_succ a M).symm
    rw [es] at e
    obtain ⟨p5, p6, p7, p8, p9, e2⟩ := ih (a + 1) (some (.int (a : Nat))) o6' o7' o8' o9' (by omega)
    rw [show a + 1 + n = a + (n + 1) by omega] at e2
    rw [List.range'_succ, List.map_cons]
    refine ⟨p5, p6, p7, p8, p9, ?_⟩
    have g : mgName 5 (.int (a : Nat)) (Rd d0 cs (mxD (red a M).1) (nl (red a M).2) o5 o6 o7 o8 o9) = .ok () (Rd d0 cs (mxD (red a M).1) (nl (red a M).2) (some (.int (a : Nat))) o6 o7 o8 o9) := by rw [mgName_ap]; rfl
    rcases e with e | e
    · rw [loop_step g e]; exact e2
    · rw [loop_ct g e]; exact e2
theorem v_reducedK {ds : D} {e : List Rat → D} (hd : gIter ds = some (M.map e)) (he : ∀ r ∈ M, Sq (e r) (r.map fr)) (hM : M.length = m) (hm : m ≤ 1000) (hW : W ≤ 1000) (hc : cs ≤ W) (hK : 4 * K + 1 ≤ 8000) (st : ∀ c, c < cs → Mx m W K (red c M).1) (ρ : En) :
    (Freduced [ds, .int (cs : Nat)]).R ρ = .ok (.tup [mxD (red cs M).1, nl (red cs M).2]) ρ := by
  have sz := szv
  obtain ⟨o5, o6, o7, o8, o9, e2⟩ := v_colsK (d0 := ds) (cs := cs) hm hW hK hc st cs 0 none none none none none (by omega)
  rw [← List.range_eq_range', Nat.zero_add] at e2
  have z0 : (red 0 M) = (M, []) := rfl
  rw [z0] at e2
  have e0 : mLc [3] (mIter (mVar 0)) (mgName 3) mYes mreduced_e0 [some ds, some (.int (cs : Nat)), none, none, none, none, none, none, none, none, none] = .ok (mxD M) [some ds, some (.int (cs : Nat)), none, none, none, none, none, none, none, none, none] := by
    refine mLc_map (as := M) (enc := e) (st := fun r => [some ds, some (.int (cs : Nat)), none, some (e r), none, none, none, none, none, none, none]) (f := rw_) ?_ (by omega) (fun _ => rfl) (fun _ _ => rfl) (fun r hr => ?_)
    · simp -implicitDefEqProofs [hd]
    · have := (he r hr).glst
      simp -implicitDefEqProofs [mreduced_e0, this]
  have r1 := range1 (n := cs) (by omega)
  show (runM 11 2 [] false mreduced [ds, .int (cs : Nat)]).R ρ = _
  have a1 : msOwn 2 (mLc [3] (mIter (mVar 0)) (mgName 3) mYes mreduced_e0) [some ds, some (.int (cs : Nat)), none, none, none, none, none, none, none, none, none] = .nx [some ds, some (.int (cs : Nat)), some (mxD M), none, none, none, none, none, none, none, none] := by
    generalize mxD M = MM at *
    simp -implicitDefEqProofs [e0]
  have a2 : msOwn 4 (mN gLst mNil) [some ds, some (.int (cs : Nat)), some (mxD M), none, none, none, none, none, none, none, none] = .nx (Rd ds cs (mxD M) (nl []) none none none none none) := by
    generalize mxD M = MM at *
    simp -implicitDefEqProofs
  have a3 : msFor (mItN gRange1 (mCons (mVar 1) mNil)) (mgName 5) mreduced_b4 (Rd ds cs (mxD M) (nl []) none none none none none) = .nx (Rd ds cs (mxD (red cs M).1) (nl (red cs M).2) o5 o6 o7 o8 o9) := by
    generalize red cs M = RR at *
    generalize mreduced_b4 = B at *
    generalize (List.range cs).map (fun i => D.int (i : Nat)) = R at *
    generalize mxD M = MM at *
    simp -implicitDefEqProofs [r1, -gRange1_i]
    exact e2
  have a4 : msRet (mN gTup (mCons (mVar 2) (mCons (mVar 4) mNil))) (Rd ds cs (mxD (red cs M).1) (nl (red cs M).2) o5 o6 o7 o8 o9) = .rt (.tup [mxD (red cs M).1, nl (red cs M).2]) (Rd ds cs (mxD (red cs M).1) (nl (red cs M).2) o5 o6 o7 o8 o9) := by
    generalize mxD (red cs M).1 = X1
    generalize nl (red cs M).2 = X2
    simp -implicitDefEqProofs [show 2 ≤ sizeLine by omega]
  have a5 : mreduced (pad 11 [ds, .int (cs : Nat)]) = .rt (.tup [mxD (red cs M).1, nl (red cs M).2]) (Rd ds cs (mxD (red cs M).1) (nl (red cs M).2) o5 o6 o7 o8 o9) := by
    show mreduced [some ds, some (.int (cs : Nat)), none, none, none, none, none, none, none, none, none] = _
    unfold mreduced
    rw [msForget_ap]
    have b1 : [some ds, some (D.int (cs : Nat)), none, none, none, none, none, none, none, none, none].set 2 none = [some ds, some (.int (cs : Nat)), none, none, none, none, none, none, none, none, none] := rfl
    rw [b1, seq_nx a1, msForget_ap]
    have b2 : [some ds, some (D.int (cs : Nat)), some (mxD M), none, none, none, none, none, none, none, none].set 4 none = [some ds, some (.int (cs : Nat)), some (mxD M), none, none, none, none, none, none, none, none] := rfl
    rw [b2, seq_nx a2, seq_nx a3, a4]
  rw [runM_rt (ds := [ds, .int (cs : Nat)]) (np := 2) (dd := []) rfl a5]
  rfl
end
end Q
namespace Q
open DL L2 PySem PySem.Spec PyProof.Rows
section
variable {W k col : Nat} {s : LE} {d1 : D} {o6 o7 o8 : Option D}
abbrev lb_lead : MS := msAsg (mLc [9] (mIter (mVar 8)) (mgName 9) mYes m_law_echelon_e2) (mgName 8)
theorem v_lead {L Dn : D} {x : List Rat} (hx : Rw W k x) (hc : col < W) (hz : x.getD col 0 ≠ 0) (hW : W ≤ 1000) (hk : 2 * k ≤ 8000) :
    lb_lead (Le W d1 L Dn (some (.int (col : Nat))) o6 o7 (some (rw_ x))) = .nx (Le W d1 L Dn (some (.int (col : Nat))) o6 o7 (some (rw_ (leadC x col)))) := by
  have sz := szv
  have e := mLc_map (as := x) (enc := fr) (vs := [9]) (g := mgName 9) (mi := mIter (mVar 8)) (me := m_law_echelon_e2) (ρ0 := Le W d1 L Dn (some (.int (col : Nat))) o6 o7 (some (rw_ x))) (ρ := Le W d1 L Dn (some (.int (col : Nat))) o6 o7 (some (rw_ x)))
    (st := fun y => [some (.int (W : Nat)), some d1, some L, none, some Dn, some (.int (col : Nat)), o6, o7, some (rw_ x), some (fr y)]) (f := fun y => fr (y * (x.getD col 0)⁻¹)) rfl (by rw [hx.1]; omega) (fun _ => rfl) (fun _ _ => rfl) (fun y hy => by
      have i1 := ixR (d := rw_ x) (.inr rfl) (c := col) (by rw [hx.1]; exact hc)
      have v := fun ρ => v_lover (hx.2 y hy) (hx.g hc) hz (by omega) ρ
      generalize fr (y * (x.getD col 0)⁻¹) = F at *
      generalize fr (x.getD col 0) = F2 at *
      generalize rw_ x = X at *
      generalize fr y = F3 at *
      simp -implicitDefEqProofs [m_law_echelon_e2, i1, mCall_R, v])
  have e2 : D.lst (x.map fun y => fr (y * (x.getD col 0)⁻¹)) = rw_ (leadC x col) := by
    unfold leadC
    show _ = D.lst (List.map fr _)
    rw [List.map_map]
    rfl
  rw [e2] at e
  generalize rw_ (leadC x col) = R at *
  generalize rw_ x = X at *
  simp -implicitDefEqProofs [lb_lead, e]
def lbody (T1 : MT) (E2 E3 : ME) : MS := (msSeq (msAsg (mLc [7] (mItN gRange1 (mCons (mNO gLen 2) mNil)) (mgName 7) T1 (mVar 7)) (mgName 6)) (msSeq (msIf (mNotT (mTru (mVar 6))) msCnt msNil) (msSeq (msAsg (mOM gPop 2 (mCons (m2 gIx (mVar 6) (mK (.int 0))) mNil)) (mgName 8)) (msSeq (msAsg (mLc [9] (mIter (mVar 8)) (mgName 9) mYes E2) (mgName 8)) (msSeq (msOwn 2 (mLc [3] (mIter (mVar 2)) (mgName 3) mYes E3)) (msAsg (m2 gAdd (mLc [3] (mIter (mVar 4)) (mgName 3) mYes E3) (mN gLst (mCons (mVar 8) mNil))) (mgName 4)))))))
theorem lbody_eq : m_law_echelon_b4 = lbody m_law_echelon_t1 m_law_echelon_e2 m_law_echelon_e3 := by
  unfold m_law_echelon_b4 lbody
  with_reducible rfl
theorem lbody_none {T1 : MT} {E2 E3 : ME} {L Dn : D} (vh : mLc [7] (mItN gRange1 (mCons (mNO gLen 2) mNil)) (mgName 7) T1 (mVar 7) (Le W d1 L Dn (some (.int (col : Nat))) o6 o7 o8) = .ok (.lst []) (Le W d1 L Dn (some (.int (col : Nat))) o6 o7 o8)) :
    lbody T1 E2 E3 (Le W d1 L Dn (some (.int (col : Nat))) o6 o7 o8) = .ct (Le W d1 L Dn (some (.int (col : Nat))) (some (.lst [])) o7 o8) := by
  have a1 : msAsg (mLc [7] (mItN gRange1 (mCons (mNO gLen 2) mNil)) (mgName 7) T1 (mVar 7)) (mgName 6) (Le W d1 L Dn (some (.int (col : Nat))) o6 o7 o8) = .nx (Le W d1 L Dn (some (.int (col : Nat))) (some (.lst [])) o7 o8) := by
    rw [msAsg_ap, vh]
    rfl
  unfold lbody
  rw [seq_nx a1, msSeq_ap]
  have a2 : msIf (mNotT (mTru (mVar 6))) msCnt msNil (Le W d1 L Dn (some (.int (col : Nat))) (some (.lst [])) o7 o8) = .ct (Le W d1 L Dn (some (.int (col : Nat))) (some (.lst [])) o7 o8) := by
    simp -implicitDefEqProofs [tru]
  rw [a2]
section
variable {T1 : MT} {E2 E3 : ME} {LL LL2 : List D} {Dn HH XD LD T2 T3 : D} {TL : List D} {h : Nat}
theorem lb1 (vh : mLc [7] (mItN gRange1 (mCons (mNO gLen 2) mNil)) (mgName 7) T1 (mVar 7) (Le W d1 (.lst LL) Dn (some (.int (col : Nat))) o6 o7 o8) = .ok HH (Le W d1 (.lst LL) Dn (some (.int (col : Nat))) o6 o7 o8)) : msAsg (mLc [7] (mItN gRange1 (mCons (mNO gLen 2) mNil)) (mgName 7) T1 (mVar 7)) (mgName 6) (Le W d1 (.lst LL) Dn (some (.int (col : Nat))) o6 o7 o8) = .nx (Le W d1 (.lst LL) Dn (some (.int (col : Nat))) (some HH) o7 o8) := by
  rw [msAsg_ap, vh]
  rfl
theorem lb2 (tH : tru HH = some true) : msIf (mNotT (mTru (mVar 6))) msCnt msNil (Le W d1 (.lst LL) Dn (some (.int (col : Nat))) (some HH) o7 o8) = .nx (Le W d1 (.lst LL) Dn (some (.int (col : Nat))) (some HH) o7 o8) := by
  simp -implicitDefEqProofs [tH]
theorem lb3a {G : List D → List D → Option (D × List D)} {H : D} (i0 : gIx HH (.int 0) = some H) (pop : G LL [H] = some (XD, LL2)) : mOM G 2 (mCons (m2 gIx (mVar 6) (mK (.int 0))) mNil) (Le W d1 (.lst LL) Dn (some (.int (col : Nat))) (some HH) o7 o8) = .ok XD (Le W d1 (.lst LL2) Dn (some (.int (col : Nat))) (some HH) o7 o8) := by
  simp -implicitDefEqProofs [getO_ap, i0, pop]
theorem lb3b {m : ME} (e : m (Le W d1 (.lst LL) Dn (some (.int (col : Nat))) (some HH) o7 o8) = .ok XD (Le W d1 (.lst LL2) Dn (some (.int (col : Nat))) (some HH) o7 o8)) : msAsg m (mgName 8) (Le W d1 (.lst LL) Dn (some (.int (col : Nat))) (some HH) o7 o8) = .nx (Le W d1 (.lst LL2) Dn (some (.int (col : Nat))) (some HH) o7 (some XD)) := by
  rw [msAsg_ap, e]
  rfl
theorem lb5 (t1 : mLc [3] (mIter (mVar 2)) (mgName 3) mYes E3 (Le W d1 (.lst LL2) Dn (some (.int (col : Nat))) (some HH) o7 (some LD)) = .ok (.lst TL) (Le W d1 (.lst LL2) Dn (some (.int (col : Nat))) (some HH) o7 (some LD))) : msOwn 2 (mLc [3] (mIter (mVar 2)) (mgName 3) mYes E3) (Le W d1 (.lst LL2) Dn (some (.int (col : Nat))) (some HH) o7 (some LD)) = .nx (Le W d1 (.lst TL) Dn (some (.int (col : Nat))) (some HH) o7 (some LD)) := by
  simp -implicitDefEqProofs [t1]
theorem lb6 (t2 : mLc [3] (mIter (mVar 4)) (mgName 3) mYes E3 (Le W d1 (.lst TL) Dn (some (.int (col : Nat))) (some HH) o7 (some LD)) = .ok T2 (Le W d1 (.lst TL) Dn (some (.int (col : Nat))) (some HH) o7 (some LD)))
    (ga : gAdd T2 (.lst [LD]) = some T3) : msAsg (m2 gAdd (mLc [3] (mIter (mVar 4)) (mgName 3) mYes E3) (mN gLst (mCons (mVar 8) mNil))) (mgName 4) (Le W d1 (.lst TL) Dn (some (.int (col : Nat))) (some HH) o7 (some LD)) = .nx (Le W d1 (.lst TL) T3 (some (.int (col : Nat))) (some HH) o7 (some LD)) := by
  have sz := szv
  simp -implicitDefEqProofs [t2, ga, show 1 ≤ sizeLine by omega]
theorem lbody_some (vh : mLc [7] (mItN gRange1 (mCons (mNO gLen 2) mNil)) (mgName 7) T1 (mVar 7) (Le W d1 (.lst LL) Dn (some (.int (col : Nat))) o6 o7 o8) = .ok HH (Le W d1 (.lst LL) Dn (some (.int (col : Nat))) o6 o7 o8))
    (tH : tru HH = some true) (i0 : gIx HH (.int 0) = some (.int (h : Nat))) (pop : gPop LL [.int (h : Nat)] = some (XD, LL2))
    (le : msAsg (mLc [9] (mIter (mVar 8)) (mgName 9) mYes E2) (mgName 8) (Le W d1 (.lst LL2) Dn (some (.int (col : Nat))) (some HH) o7 (some XD)) = .nx (Le W d1 (.lst LL2) Dn (some (.int (col : Nat))) (some HH) o7 (some LD)))
    (t1 : mLc [3] (mIter (mVar 2)) (mgName 3) mYes E3 (Le W d1 (.lst LL2) Dn (some (.int (col : Nat))) (some HH) o7 (some LD)) = .ok (.lst TL) (Le W d1 (.lst LL2) Dn (some (.int (col : Nat))) (some HH) o7 (some LD)))
    (t2 : mLc [3] (mIter (mVar 4)) (mgName 3) mYes E3 (Le W d1 (.lst TL) Dn (some (.int (col : Nat))) (some HH) o7 (some LD)) = .ok T2 (Le W d1 (.lst TL) Dn (some (.int (col : Nat))) (some HH) o7 (some LD)))
    (ga : gAdd T2 (.lst [LD]) = some T3) :
    lbody T1 E2 E3 (Le W d1 (.lst LL) Dn (some (.int (col : Nat))) o6 o7 o8) = .nx (Le W d1 (.lst TL) T3 (some (.int (col : Nat))) (some HH) o7 (some LD)) := by
  unfold lbody
  rw [seq_nx (lb1 vh), seq_nx (lb2 tH), seq_nx (lb3b (lb3a i0 pop)), seq_nx le, seq_nx (lb5 t1), lb6 t2 ga]
end
def Lz (W k : Nat) (s : LE) : Prop := (∀ r ∈ s.left, Rw W k r) ∧ (∀ r ∈ s.done, Rw W k r) ∧ s.left.length + s.done.length ≤ 900
theorem lstep_nil (e : lhere s.left col = []) : lstep s col = s := by
  unfold lstep
  split
  · rfl
  · rename_i z
    rw [show ((List.range s.left.length).filter fun a => decide ((s.left.getD a []).getD col 0 ≠ 0)) = [] from e] at z
    cases z
theorem lstep_cons {h : Nat} {tl : List Nat} (e : lhere s.left col = h :: tl) : lstep s col = ⟨(s.left.eraseIdx h).map fun r => taken r (leadC (s.left.getD h []) col) col, s.piv ++ [col], (s.done.map fun r => taken r (leadC (s.left.getD h []) col) col) ++ [leadC (s.left.getD h []) col]⟩ := by
  unfold lstep
  split
  · rename_i z
    rw [show ((List.range s.left.length).filter fun a => decide ((s.left.getD a []).getD col 0 ≠ 0)) = h :: tl from e] at z
    cases z
  · rename_i h' t' z
    rw [show ((List.range s.left.length).filter fun a => decide ((s.left.getD a []).getD col 0 ≠ 0)) = h :: tl from e] at z
    cases z
    rfl
theorem v_lstep (hs : Lz W k s) (hc : col < W) (hW : W ≤ 1000) (hk : 4 * k + 1 ≤ 8000) :
    ∃ o6' o7' o8', m_law_echelon_b4 (Le W d1 (mxD s.left) (mxD s.done) (some (.int (col : Nat))) o6 o7 o8) = .nx (Le W d1 (mxD (lstep s col).left) (mxD (lstep s col).done) (some (.int (col : Nat))) o6' o7' o8') ∨
      m_law_echelon_b4 (Le W d1 (mxD s.left) (mxD s.done) (some (.int (col : Nat))) o6 o7 o8) = .ct (Le W d1 (mxD (lstep s col).left) (mxD (lstep s col).done) (some (.int (col : Nat))) o6' o7' o8') := by
  have sz := szv
  obtain ⟨h1, h2, h3⟩ := hs
  have vh := v_lhere (W := W) (d1 := d1) (Dn := mxD s.done) (o6 := o6) (o7 := o7) (o8 := o8) (M := s.left) (fun r hr => (h1 r hr).1) hc (by omega)
  rw [lbody_eq]
  cases e : lhere s.left col with
  | nil =>
    rw [lstep_nil e]
    rw [e] at vh
    exact ⟨_, _, _, .inr (lbody_none vh)⟩
  | cons h tl =>
    have hm := lhere_mem (a := h) (by rw [e]; exact List.mem_cons_self)
    rw [e] at vh
    have xm := h1 _ (getD_memM hm.1)
    have lr := lead_rw xm hc hm.2
    have pop := v_pop hm.1 (by omega : s.left.length ≤ 1000)
    have i0 : gIx (nl (h :: tl)) (.int 0) = some (.int (h : Nat)) := by
      show L2.atI ((h :: tl).map fun i => D.int (i : Nat)) ((0 : Nat) : Int) = _
      rw [atI_nat' _ 0 (by simp)]
      rfl
    have el : (s.left.eraseIdx h).length + 1 = s.left.length := by rw [List.length_eraseIdx, if_pos hm.1]; have := hm.1; omega
    have er : ∀ r ∈ s.left.eraseIdx h, Rw W k r := fun r hr => h1 r (List.mem_of_mem_eraseIdx hr)
    have le := v_lead (d1 := d1) (L := mxD (s.left.eraseIdx h)) (Dn := mxD s.done) (o6 := some (nl (h :: tl))) (o7 := o7) xm hc hm.2 hW (by omega)
    have t1 := v_takens (d1 := d1) (L := mxD (s.left.eraseIdx h)) (Dn := mxD s.done) (o6 := some (nl (h :: tl))) (o7 := o7) (ρ := []) (mi := mIter (mVar 2)) (M := s.left.eraseIdx h) (x := leadC (s.left.getD h []) col) rfl er lr hc hW (by omega) hk
    have t2 := v_takens (d1 := d1) (L := mxD ((s.left.eraseIdx h).map fun r => taken r (leadC (s.left.getD h []) col) col)) (Dn := mxD s.done) (o6 := some (nl (h :: tl))) (o7 := o7) (ρ := []) (mi := mIter (mVar 4)) (M := s.done) (x := leadC (s.left.getD h []) col) rfl h2 lr hc hW (by omega) hk
    have ga : gAdd (mxD (s.done.map fun r => taken r (leadC (s.left.getD h []) col) col)) (.lst [rw_ (leadC (s.left.getD h []) col)]) = some (mxD ((s.done.map fun r => taken r (leadC (s.left.getD h []) col) col) ++ [leadC (s.left.getD h []) col])) := by
      show (if _ then _ else _) = _
      rw [if_pos (by rw [List.length_map, List.length_map]; show s.done.length + 1 ≤ sizeLine; omega)]
      show _ = some (D.lst (List.map rw_ (_ ++ _)))
      rw [List.map_append]
      rfl
    rw [lstep_cons e]
    exact ⟨_, _, _, .inl (lbody_some vh rfl i0 pop le t1 t2 ga)⟩
end
end Q
namespace Q
open DL L2 PySem PySem.Spec PyProof.Rows
section
variable {W K : Nat} {s : LE} {M : List (List Rat)}
def LE.all (s : LE) : List (List Rat) := s.left ++ s.done
theorem mem_taken {r x : List Rat} {c : Nat} {y : Rat} (h : y ∈ taken r x c) : ∃ u ∈ r, ∃ z ∈ x, y = u + (-(r.getD c 0)) * z := by
  rw [taken_lsn] at h
  exact mem_lsn h
theorem Cm.lstep {d : Int} {a : Nat} (h : Cm d a s.all) (col : Nat) : ∃ d', Cm d' (2 * a + 1) (lstep s col).all := by
  cases e : lhere s.left col with
  | nil => rw [lstep_nil e]; exact ⟨d, h.up (by omega)⟩
  | cons k ks =>
    have hm := lhere_mem (a := k) (by rw [e]; exact List.mem_cons_self)
    obtain ⟨hd, hb, hx⟩ := h
    have mem : s.left.getD k [] ∈ s.all := List.mem_append_left _ (getD_memM hm.1)
    have hP := hx _ mem
    obtain ⟨Nc, eN, hN⟩ := Cd.g hP col
    have nz := hm.2
    have Nz : Nc ≠ 0 := fun z => by
      rw [z] at eN
      have hz := castZ hd
      have : (s.left.getD k []).getD col 0 = 0 := by
        have e0 : ((0 : Int) : Rat) = 0 := rfl
        rw [e0] at eN
        grind
      exact nz this
    have lead : ∀ x ∈ leadC (s.left.getD k []) col, ∃ y ∈ s.left.getD k [], x = y * ((s.left.getD k []).getD col 0)⁻¹ := by
      intro x hx
      unfold leadC at hx
      obtain ⟨y, hy, rfl⟩ := List.mem_map.mp hx
      exact ⟨y, hy, rfl⟩
    have tk : ∀ r ∈ s.all, ∀ x ∈ taken r (leadC (s.left.getD k []) col) col, Cd (d * Nc) (2 * a + 1) x := by
      intro r hr x hxr
      obtain ⟨u, hu, z, hz, rfl⟩ := mem_taken hxr
      obtain ⟨y, hy, rfl⟩ := lead z hz
      exact (hx r hr u hu).less (Cd.g (hx r hr) col) (hP y hy) eN hN nz
    refine ⟨d * Nc, Int.mul_ne_zero hd Nz, den_lt hb hN, ?_⟩
    rw [lstep_cons e]
    intro r hr x hxr
    unfold LE.all at hr
    rcases List.mem_append.mp hr with z | z
    · obtain ⟨q, hq, rfl⟩ := List.mem_map.mp z
      exact tk q (List.mem_append_left _ (List.mem_of_mem_eraseIdx hq)) x hxr
    · rcases List.mem_append.mp z with z | z
      · obtain ⟨q, hq, rfl⟩ := List.mem_map.mp z
        exact tk q (List.mem_append_right _ hq) x hxr
      · rw [List.mem_singleton.mp z] at hxr
        obtain ⟨y, hy, rfl⟩ := lead x hxr
        exact (hP y hy).lead eN nz hb
theorem lech_succ (c : Nat) (M : List (List Rat)) : lech (c + 1) M = Q.lstep (lech c M) c := by
  unfold lech
  rw [List.range_succ, List.foldl_append]
  rfl
theorem Cm.lech {d : Int} {a : Nat} (h : Cm d a M) : ∀ c : Nat, ∃ d', Cm d' (cdk a c) (Q.lech c M).all
  | 0 => ⟨d, by
    show Cm d a (M ++ [])
    rw [List.append_nil]
    exact h⟩
  | c + 1 => by
    obtain ⟨d', h'⟩ := Cm.lech h c
    rw [lech_succ]
    exact h'.lstep c
theorem lstep_count (c : Nat) : (lstep s c).left.length + (lstep s c).done.length = s.left.length + s.done.length := by
  cases e : lhere s.left c with
  | nil => rw [lstep_nil e]
  | cons k ks =>
    have hm := lhere_mem (a := k) (by rw [e]; exact List.mem_cons_self)
    rw [lstep_cons e]
    show ((s.left.eraseIdx k).map _).length + (_ ++ [_]).length = _
    rw [List.length_map, List.length_append, List.length_map, List.length_eraseIdx, if_pos hm.1]
    show _ + (_ + 1) = _
    have := hm.1
    omega
theorem lech_count (M : List (List Rat)) : ∀ c, (lech c M).left.length + (lech c M).done.length = M.length
  | 0 => rfl
  | c + 1 => by rw [lech_succ, lstep_count, lech_count M c]
theorem lech_wid (hW : ∀ r ∈ M, r.length = W) (c : Nat) : ∀ r ∈ (lech c M).all, r.length = W := fun r hr => by
  have R := lech_red hW c
  rcases List.mem_append.mp hr with z | z
  · exact R.wl r z
  · exact R.wd r z
theorem lech_lz {d : Int} {a : Nat} (h : Cm d a M) (hW : ∀ r ∈ M, r.length = W) (hl : M.length ≤ 900) (c : Nat) (hK : cdk a c ≤ K) : Lz W K (lech c M) := by
  obtain ⟨d', h'⟩ := h.lech c
  have rw := h'.rw (lech_wid hW c)
  exact ⟨fun r hr => (rw r (List.mem_append_left _ hr)).up hK, fun r hr => (rw r (List.mem_append_right _ hr)).up hK, by rw [lech_count]; exact hl⟩
theorem v_lcols {d1 : D} (hW : W ≤ 1000) (hK : 4 * K + 1 ≤ 8000) (st : ∀ c, c < W → Lz W K (lech c M)) : ∀ (n a : Nat) (o5 o6 o7 o8 : Option D), a + n ≤ W →
    ∃ o5' o6' o7' o8', loopL (mgName 5) m_law_echelon_b4 ((List.range' a n).map fun i => D.int (i : Nat)) (Le W d1 (mxD (lech a M).left) (mxD (lech a M).done) o5 o6 o7 o8) = .nx (Le W d1 (mxD (lech (a + n) M).left) (mxD (lech (a + n) M).done) o5' o6' o7' o8') := by
  intro n
  induction n with
  | zero => exact fun a o5 o6 o7 o8 _ => ⟨o5, o6, o7, o8, rfl⟩
  | succ n ih =>
    intro a o5 o6 o7 o8 ha
    obtain ⟨o6', o7', o8', e⟩ := v_lstep (d1 := d1) (o6 := o6) (o7 := o7) (o8 := o8) (st a (by omega)) (show a < W by omega) hW hK
    rw [← lech_succ] at e
    obtain ⟨p5, p6, p7, p8, e2⟩ := ih (a + 1) (some (.int (a : Nat))) o6' o7' o8' (by omega)
    rw [show a + 1 + n = a + (n + 1) by omega] at e2
    rw [List.range'_succ, List.map_cons]
    refine ⟨p5, p6, p7, p8, ?_⟩
    have g : mgName 5 (.int (a : Nat)) (Le W d1 (mxD (lech a M).left) (mxD (lech a M).done) o5 o6 o7 o8) = .ok () (Le W d1 (mxD (lech a M).left) (mxD (lech a M).done) (some (.int (a : Nat))) o6 o7 o8) := by rw [mgName_ap]; rfl
    rcases e with e | e
    · rw [loop_step g e]; exact e2
    · rw [loop_ct g e]; exact e2
abbrev tps (M : List (List Rat)) : D := .lst (M.map frs)
theorem v_lechelon {ds : D} {e : List Rat → D} (hd : gIter ds = some (M.map e)) (he : ∀ r ∈ M, Sq (e r) (r.map fr)) (hM : M.length ≤ 900) (hW : W ≤ 1000) (hK : 4 * K + 1 ≤ 8000) (st : ∀ c, c ≤ W → Lz W K (lech c M)) (ρ : En) :
    (F_law_echelon [.int (W : Nat), ds]).R ρ = .ok (tps (lech W M).done) ρ := by
  have sz := szv
  obtain ⟨o5, o6, o7, o8, e2⟩ := v_lcols (d1 := ds) hW hK (fun c hc => st c (by omega)) W 0 none none none none (by omega)
  rw [← List.range_eq_range', Nat.zero_add] at e2
  have z0 : (lech 0 M) = ⟨M, [], []⟩ := rfl
  rw [z0] at e2
  have cnt := lech_count M W
  have r1 := range1 (n := W) (by omega)
  have e0 : mLc [3] (mIter (mVar 1)) (mgName 3) mYes m_law_echelon_e0 [some (.int (W : Nat)), some ds, none, none, none, none, none, none, none, none] = .ok (mxD M) [some (.int (W : Nat)), some ds, none, none, none, none, none, none, none, none] := by
    refine mLc_map (as := M) (enc := e) (st := fun r => [some (.int (W : Nat)), some ds, none, some (e r), none, none, none, none, none, none]) (f := rw_) ?_ (by omega) (fun _ => rfl) (fun _ _ => rfl) (fun r hr => ?_)
    · simp -implicitDefEqProofs [hd]
    · have := (he r hr).glst
      simp -implicitDefEqProofs [m_law_echelon_e0, this]
  have a1 : msOwn 2 (mLc [3] (mIter (mVar 1)) (mgName 3) mYes m_law_echelon_e0) [some (.int (W : Nat)), some ds, none, none, none, none, none, none, none, none] = .nx [some (.int (W : Nat)), some ds, some (mxD M), none, none, none, none, none, none, none] := by
    generalize mxD M = MM at *
    simp -implicitDefEqProofs [e0]
  have a2 : msAsg (mN gLst mNil) (mgName 4) [some (.int (W : Nat)), some ds, some (mxD M), none, none, none, none, none, none, none] = .nx (Le W ds (mxD M) (mxD []) none none none none) := by
    generalize mxD M = MM at *
    simp -implicitDefEqProofs
  have a3 : msFor (mItN gRange1 (mCons (mVar 0) mNil)) (mgName 5) m_law_echelon_b4 (Le W ds (mxD M) (mxD []) none none none none) = .nx (Le W ds (mxD (lech W M).left) (mxD (lech W M).done) o5 o6 o7 o8) := by
    generalize lech W M = RR at *
    generalize m_law_echelon_b4 = B at *
    generalize (List.range W).map (fun i => D.int (i : Nat)) = R at *
    generalize mxD M = MM at *
    simp -implicitDefEqProofs [r1, -gRange1_i]
    exact e2
  have e5 : mLc [3] (mIter (mVar 4)) (mgName 3) mYes m_law_echelon_e5 (Le W ds (mxD (lech W M).left) (mxD (lech W M).done) o5 o6 o7 o8) = .ok (tps (lech W M).done) (Le W ds (mxD (lech W M).left) (mxD (lech W M).done) o5 o6 o7 o8) := by
    refine mLc_map (as := (lech W M).done) (enc := rw_) (st := fun r => [some (.int (W : Nat)), some ds, some (mxD (lech W M).left), some (rw_ r), some (mxD (lech W M).done), o5, o6, o7, o8, none]) (f := frs) rfl (by omega) (fun _ => rfl) (fun _ _ => rfl) (fun r hr => ?_)
    have gt : gTuple [rw_ r] = some (frs r) := rfl
    generalize rw_ r = R at *
    generalize frs r = F at *
    simp -implicitDefEqProofs [m_law_echelon_e5, gt]
  have a4 : msRet (mLc [3] (mIter (mVar 4)) (mgName 3) mYes m_law_echelon_e5) (Le W ds (mxD (lech W M).left) (mxD (lech W M).done) o5 o6 o7 o8) = .rt (tps (lech W M).done) (Le W ds (mxD (lech W M).left) (mxD (lech W M).done) o5 o6 o7 o8) := by
    rw [msRet_ap, e5]
    rfl
  have a5 : m_law_echelon (pad 10 [.int (W : Nat), ds]) = .rt (tps (lech W M).done) (Le W ds (mxD (lech W M).left) (mxD (lech W M).done) o5 o6 o7 o8) := by
    show m_law_echelon [some (.int (W : Nat)), some ds, none, none, none, none, none, none, none, none] = _
    unfold m_law_echelon
    rw [msForget_ap]
    have b1 : [some (D.int (W : Nat)), some ds, none, none, none, none, none, none, none, none].set 2 none = [some (.int (W : Nat)), some ds, none, none, none, none, none, none, none, none] := rfl
    rw [b1, seq_nx a1, seq_nx a2, seq_nx a3, a4]
  show (runM 10 2 [] false m_law_echelon [.int (W : Nat), ds]).R ρ = _
  rw [runM_rt (ds := [.int (W : Nat), ds]) (np := 2) (dd := []) rfl a5]
  rfl
end
end Q
namespace Q
theorem Rs.split {b v : Vc} {B : List Vc} (h : Rs (b :: B) v) : ∃ a : Rat, Rs B fun i => v i + a * b i := by
  induction h with
  | zero =>
    refine ⟨0, ?_⟩
    have e : (fun i => (0 : Rat) + 0 * b i) = fun _ => 0 := by funext i; grind
    rw [e]; exact .zero
  | @add u r c _ hm ih =>
    obtain ⟨a, ha⟩ := ih
    rcases List.mem_cons.mp hm with e | m
    · subst e
      refine ⟨a - c, ?_⟩
      have e : (fun i => u i + c * r i + (a - c) * r i) = fun i => u i + a * r i := by funext i; grind
      rw [e]; exact ha
    · refine ⟨a, ?_⟩
      have := ha.comb c (Rs.mem m)
      refine Eq.mp ?_ this
      congr 1
      funext i
      grind
end Q
namespace Q
end Q
namespace Q
section
variable {M R : List (List Rat)} {b : List Rat} {n W m : Nat}
def turnM (n : Nat) (R : List (List Rat)) : List (List Rat) := (List.range n).map fun t => R.map fun r => r.getD t 0
theorem col_get {t i : Nat} (hi : i < R.length) : (R.map fun r => r.getD t 0).getD i 0 = row R i t := by
  unfold row vec
  simp [List.getD, hi]
end
end Q
namespace Q
open DL L2 PySem PySem.Spec PyProof.Rows
def Sw (W n : Nat) (d : D) : Prop := ∃ x, d.py = some x ∧ x.showable = true ∧ x.leavesShort 2000 = true ∧ x.weight ≤ W ∧ x.depth ≤ n
theorem Sw.up {W W' n n' : Nat} {d : D} (h : Sw W n d) (a : W ≤ W') (b : n ≤ n') : Sw W' n' d := let ⟨x, h1, h2, h3, h4, h5⟩ := h; ⟨x, h1, h2, h3, Nat.le_trans h4 a, Nat.le_trans h5 b⟩
theorem Sw.int {a : Int} {k : Nat} (h : a.natAbs < 2 ^ k) (hk : k ≤ 1900) (k0 : 0 < k) : Sw k 1 (.int a) := by
  have h' : a.natAbs < 2 ^ 1900 := Nat.lt_of_lt_of_le h (Nat.pow_le_pow_right (by decide) hk)
  have l1 := lg h' (by decide)
  have l2 := lg h k0
  refine ⟨.int a, rfl, ?_, ?_, ?_, ?_⟩
  · simp only [PyData.showable, decide_eq_true_eq]; omega
  · unfold PyData.leavesShort
    have e : PyData.shown (.int a) = Str.ofString (toString a) := by simp only [PyData.shown] <;> rfl
    rw [e]
    exact decide_eq_true (int_len h')
  · unfold PyData.weight
    split <;> omega
  · simp [PyData.depth]
theorem Sw.bl (b : Bool) : Sw 0 1 (.bl b) := ⟨.bool b, rfl, by simp [PyData.showable], by simp [PyData.leavesShort], by simp [PyData.weight], by simp [PyData.depth]⟩
theorem Sw.non : Sw 0 1 .non := ⟨.none, rfl, by simp [PyData.showable], by simp [PyData.leavesShort], by simp [PyData.weight], by simp [PyData.depth]⟩
theorem Sw.str {l : List Nat} (h : ∀ c ∈ l, c < 1114112) : Sw l.length 1 (sD l) := ⟨.str (S l), rfl, by simp [PyData.showable], by
  unfold PyData.leavesShort
  rw [List.all_eq_true]
  intro c hc
  have := h c hc
  exact decide_eq_true (by omega), by unfold PyData.weight; simp [S, SX.S], by simp [PyData.depth]⟩
theorem Sw.all {W n : Nat} : ∀ l : List D, (∀ d ∈ l, Sw W n d) → ∃ xs, pyAll l = some xs ∧ PyData.showableAll xs = true ∧ PyData.leavesShortAll 2000 xs = true ∧ PyData.weightAll xs ≤ l.length * (W + 1) ∧ PyData.depthAll xs ≤ n
  | [], _ => ⟨[], pyAll_nil, rfl, rfl, by simp [PyData.weightAll], by simp [PyData.depthAll]⟩
  | d :: l, h => by
    obtain ⟨x, a1, a2, a3, a4, a5⟩ := h d List.mem_cons_self
    obtain ⟨xs, b1, b2, b3, b4, b5⟩ := Sw.all l fun d hd => h d (List.mem_cons_of_mem _ hd)
    refine ⟨x :: xs, ?_, ?_, ?_, ?_, ?_⟩
    · unfold pyAll
      rw [a1, b1]
      rfl
    · simp [PyData.showableAll, a2, b2]
    · simp [PyData.leavesShortAll, a3, b3]
    · rw [List.length_cons, Nat.succ_mul]
      simp only [PyData.weightAll]
      omega
    · simp only [PyData.depthAll]
      omega
theorem Sw.tup {W n : Nat} {l : List D} (h : ∀ d ∈ l, Sw W n d) : Sw (l.length * (W + 1)) (n + 1) (.tup l) := by
  obtain ⟨xs, b1, b2, b3, b4, b5⟩ := Sw.all l h
  refine ⟨.tuple xs, ?_, ?_, ?_, ?_, ?_⟩
  · unfold D.py
    rw [b1]; rfl
  · simpa [PyData.showable] using b2
  · simpa [PyData.leavesShort] using b3
  · simpa [PyData.weight] using b4
  · simp only [PyData.depth]; omega
theorem Sw.lst {W n : Nat} {l : List D} (h : ∀ d ∈ l, Sw W n d) : Sw (l.length * (W + 1)) (n + 1) (.lst l) := by
  obtain ⟨xs, b1, b2, b3, b4, b5⟩ := Sw.all l h
  refine ⟨.list xs, ?_, ?_, ?_, ?_, ?_⟩
  · unfold D.py
    rw [b1]; rfl
  · simpa [PyData.showable] using b2
  · simpa [PyData.leavesShort] using b3
  · simpa [PyData.weight] using b4
  · simp only [PyData.depth]; omega
theorem Sw.shown {W n : Nat} {d : D} (h : Sw W n d) (hW : W ≤ 8000) (hn : n ≤ 60) : ∃ z, gRepr [d] = some (.str z) := by
  obtain ⟨x, h1, h2, h3, h4, h5⟩ := h
  have k := PyData.shown_le 2000 (by decide) x h3
  have sz := szv
  refine ⟨x.shown, ?_⟩
  show (shownD d).map D.str = _
  unfold shownD
  have l : x.shown.length ≤ sizeLine := by omega
  simp only [h1]
  rw [if_pos ⟨h2, l, by omega⟩]
  rfl
theorem neS_self (z : Str) : gNe (.str z) (.str z) = some (.bl false) := by simp
end Q
namespace Q
open DL L2 PySem PySem.Spec PyProof.Rows
end Q
namespace Q
open DL L2 PySem PySem.Spec PyProof.Rows
end Q
namespace Q
open DL L2 PySem PySem.Spec PyProof.Rows
end Q
namespace Q
open DL L2 PySem PySem.Spec PyProof.Rows
section
variable {n w m K : Nat} {M : List (List Rat)} {v : List Rat}
theorem Cd.neg {d : Int} {a : Nat} {x : Rat} (h : Cd d a x) : Cd d a (-x) := by
  obtain ⟨N, e, hN⟩ := h
  refine ⟨-N, ?_, by rw [Int.natAbs_neg]; exact hN⟩
  rw [Rat.intCast_neg, ← e]
  grind
end
end Q
namespace Q
open DL L2 PySem PySem.Spec PyProof.Rows
section
def Tw (k : Nat) (x : Rat) : Prop := ∃ N : Int, x * (12 : Rat) ^ k = (N : Rat) ∧ N.natAbs ≤ 84 ^ k
theorem Tw.s {k : Nat} {x : Rat} (h : Tw k x) : Tw (k + 1) x := by
  obtain ⟨N, e, hN⟩ := h
  refine ⟨N * 12, ?_, ?_⟩
  · rw [Rat.intCast_mul, ← e, Rat.pow_succ]
    have : ((12 : Int) : Rat) = 12 := rfl
    rw [this]
    grind
  · rw [Int.natAbs_mul, Nat.pow_succ]
    exact Nat.mul_le_mul hN (by decide)
theorem Tw.up {j k : Nat} {x : Rat} (h : Tw j x) (l : j ≤ k) : Tw k x := by
  obtain ⟨d, rfl⟩ : ∃ d, k = j + d := ⟨k - j, by omega⟩
  clear l
  induction d with
  | zero => exact h
  | succ d ih => exact ih.s
theorem Tw.int {z : Int} (h : z.natAbs ≤ 7) : Tw 1 (z : Rat) := ⟨z * 12, by rw [Rat.intCast_mul]; have : ((12 : Int) : Rat) = 12 := rfl; rw [this]; grind, by rw [Int.natAbs_mul]; show z.natAbs * 12 ≤ 84 ^ 1; omega⟩
theorem Tw.comb {k : Nat} {a b x : Rat} (ha : Tw k a) (hb : Tw k b) (hx : ∃ N : Int, x * (12 : Rat) = (N : Rat) ∧ N.natAbs ≤ 72) : Tw (k + 1) (a + x * b) := by
  obtain ⟨A, ea, hA⟩ := ha
  obtain ⟨B, eb, hB⟩ := hb
  obtain ⟨N, en, hN⟩ := hx
  refine ⟨12 * A + N * B, ?_, ?_⟩
  · rw [Rat.intCast_add, Rat.intCast_mul, Rat.intCast_mul, ← ea, ← eb, ← en, Rat.pow_succ]
    have : ((12 : Int) : Rat) = 12 := rfl
    rw [this]
    grind
  · rw [Nat.pow_succ]
    have h1 : (N * B).natAbs ≤ 72 * 84 ^ k := by rw [Int.natAbs_mul]; exact Nat.mul_le_mul hN hB
    omega
theorem pow12 (k : Nat) : ((12 : Int) ^ k).natAbs = 12 ^ k := by rw [Int.natAbs_pow]; rfl
theorem cast12 (k : Nat) : (((12 : Int) ^ k : Int) : Rat) = (12 : Rat) ^ k := by
  rw [Rat.intCast_pow]; rfl
theorem Tw.cd {k a : Nat} {x : Rat} (h : Tw k x) (ha : 84 ^ k < 2 ^ a) : Cd ((12 : Int) ^ k) a x := by
  obtain ⟨N, e, hN⟩ := h
  exact ⟨N, by rw [cast12]; exact e, Nat.lt_of_le_of_lt hN ha⟩
theorem Tw.sz {k a : Nat} {x : Rat} (h : Tw k x) (ha : 84 ^ k < 2 ^ a) : Sz a x := (h.cd ha).sz (by
  have := pow12 k
  intro z
  rw [z] at this
  have := Nat.pow_pos (n := k) (show 0 < 12 by decide)
  omega) (by rw [pow12]; exact Nat.lt_of_le_of_lt (Nat.pow_le_pow_left (by decide) k) ha)
end
end Q
namespace Q
open DL L2 PySem PySem.Spec PyProof.Rows
end Q
namespace Q
open DL L2 PySem PySem.Spec PyProof.Rows
end Q
namespace Q
open DL L2 PySem PySem.Spec PyProof.Rows
end Q
namespace Q
open DL L2 PySem PySem.Spec PyProof.Rows
section
variable {n w : Nat} {A : List (List Rat)} {b v xs : List Rat} {d : D}
abbrev P12 (x : Rat) : Prop := ∃ N : Int, x * (12 : Rat) = (N : Rat) ∧ N.natAbs ≤ 72
def Tc (c : Nat) (x : Rat) : Prop := ∃ N : Int, x * (12 : Rat) ^ 6 = (N : Rat) ∧ N.natAbs ≤ c * 84 ^ 6
theorem Tc.of {x : Rat} (h : Tw 6 x) : Tc 1 x := by
  obtain ⟨N, e, hN⟩ := h
  exact ⟨N, e, by rw [Nat.one_mul]; exact hN⟩
theorem Tc.zero : Tc 0 0 := ⟨0, by simp, by simp⟩
theorem Tc.add {i j : Nat} {x y : Rat} (h : Tc i x) (g : Tc j y) : Tc (i + j) (x + y) := by
  obtain ⟨N, e, hN⟩ := h
  obtain ⟨M, f, hM⟩ := g
  refine ⟨N + M, ?_, ?_⟩
  · rw [Rat.intCast_add, ← e, ← f]
    grind
  · rw [Nat.add_mul]
    omega
theorem Tc.up {i j : Nat} {x : Rat} (h : Tc i x) (l : i ≤ j) : Tc j x := by
  obtain ⟨N, e, hN⟩ := h
  exact ⟨N, e, Nat.le_trans hN (Nat.mul_le_mul_right _ l)⟩
theorem Tc.mul {x y : Rat} (h : Tw 5 x) (g : P12 y) : Tc 1 (x * y) := by
  obtain ⟨N, e, hN⟩ := h
  obtain ⟨M, f, hM⟩ := g
  refine ⟨N * M, ?_, ?_⟩
  · rw [Rat.intCast_mul, ← e, ← f, Rat.pow_succ]
    grind
  · rw [Int.natAbs_mul, Nat.one_mul]
    exact Nat.le_trans (Nat.mul_le_mul hN hM) (by decide)
theorem Tc.cd {c : Nat} {x : Rat} (h : Tc c x) (hc : c ≤ 6) : Cd ((12 : Int) ^ 6) 41 x := by
  obtain ⟨N, e, hN⟩ := h
  refine ⟨N, by rw [cast12]; exact e, Nat.lt_of_le_of_lt (Nat.le_trans hN (Nat.mul_le_mul_right _ hc)) (by decide)⟩
theorem d12 : ((12 : Int) ^ 6) ≠ 0 ∧ ((12 : Int) ^ 6).natAbs < 2 ^ 41 := by decide
theorem Tc.sz {c : Nat} {x : Rat} (h : Tc c x) (hc : c ≤ 6) : Sz 41 x := (h.cd hc).sz d12.1 d12.2
end
end Q
namespace Q
section
variable {W w : Nat} {M N A : List (List Rat)} {s t : LE}
theorem vec_ext {r x : List Rat} (h1 : r.length = W) (h2 : x.length = W) (e : vec r = vec x) : r = x := by
  apply List.ext_getElem
  · omega
  · intro i a b
    have := congrFun e i
    unfold vec at this
    simpa [List.getD, a, b] using this
theorem Rs.sum {D : List (Nat × Vc)} (g : Nat × Vc → Rat) (f : Nat × Vc → Vc) : Rs (D.map f) fun i => (D.map fun p => g p * f p i).sum := by
  induction D with
  | nil => exact Rs.zero
  | cons p D ih =>
    have := (Rs.sub (L' := f p :: D.map f) (fun r hr => Rs.mem (List.mem_cons_of_mem _ hr)) ih).comb (g p) (Rs.mem (L := f p :: D.map f) (r := f p) List.mem_cons_self)
    refine Eq.mp ?_ this
    rw [List.map_cons]
    congr 1
    funext i
    rw [List.map_cons, List.sum_cons, Rat.add_comm]
theorem row_far {i : Nat} (h : A.length ≤ i) : row A i = fun _ => 0 := by
  funext t
  unfold row vec
  have : A.getD i [] = [] := by simp [List.getD, show A.length ≤ i from h]
  rw [this]
  rfl
theorem turn_row {j : Nat} (hj : j < w) : row (turnM w A) j = fun i => row A i j := by
  have e : (turnM w A).getD j [] = A.map fun r => r.getD j 0 := by unfold turnM; simp [List.getD, hj]
  funext i
  unfold row vec
  rw [e]
  by_cases h : i < A.length
  · exact col_get h
  · have : A.getD i [] = [] := by simp [List.getD, show A.length ≤ i by omega]
    rw [this]
    simp [List.getD, show A.length ≤ i by omega]
theorem turn_wid : ∀ r ∈ turnM w A, r.length = A.length := fun r hr => by
  unfold turnM at hr
  obtain ⟨t, _, rfl⟩ := List.mem_map.mp hr
  rw [List.length_map]
theorem turn_len : (turnM w A).length = w := by unfold turnM; simp
theorem turn_turn (hW : ∀ r ∈ A, r.length = w) : turnM A.length (turnM w A) = A := by
  apply List.ext_getElem
  · rw [turn_len]
  · intro i h1 h2
    rw [turn_len] at h1
    have hw := hW _ (List.getElem_mem h2)
    refine vec_ext (W := w) ?_ hw ?_
    · have := turn_wid (w := A.length) (A := turnM w A) _ (List.getElem_mem (by rw [turn_len]; exact h1))
      rw [this, turn_len]
    · have e := turn_row (w := A.length) (A := turnM w A) (j := i) h1
      have g1 : row (turnM A.length (turnM w A)) i = vec ((turnM A.length (turnM w A))[i]'(by rw [turn_len]; exact h1)) := by
        unfold row
        simp [List.getD, show i < (turnM A.length (turnM w A)).length by rw [turn_len]; exact h1]
      rw [← g1, e]
      funext t
      by_cases ht : t < w
      · rw [turn_row ht]
        unfold row
        simp [List.getD, h2]
      · rw [row_far (by rw [turn_len]; omega)]
        unfold vec
        simp [List.getD, show A[i].length ≤ t by omega]
end
end Q
namespace Q
section
variable {W : Nat} {N M : List (List Rat)} {ps : List Nat}
theorem set_self {α : Type} : ∀ (l : List α) (i : Nat) (h : i < l.length), l.set i l[i] = l
  | _ :: _, 0, _ => rfl
  | x :: l, i + 1, h => by
    rw [List.set_cons_succ, List.getElem_cons_succ, set_self l i (by simpa using h)]
theorem fold_id {α β : Type} (f : β → α → β) (b : β) : ∀ (l : List α), (∀ a ∈ l, f b a = b) → l.foldl f b = b
  | [], _ => rfl
  | a :: l, h => by
    rw [List.foldl_cons, h a List.mem_cons_self]
    exact fold_id f b l fun x hx => h x (List.mem_cons_of_mem _ hx)
structure Fx (W : Nat) (N : List (List Rat)) (ps : List Nat) : Prop where
  len : ps.length = N.length
  one : ∀ i p, ps[i]? = some p → ∀ j, j < N.length → row N j p = if j = i then 1 else 0
  led : ∀ i p, ps[i]? = some p → ∀ t, t < p → row N i t = 0
  asc : ps.Pairwise (· < ·)
theorem Fx.red (h : Fx W N ps) : ∀ c, ∃ k, k ≤ N.length ∧ red c N = (N, ps.take k) ∧ (∀ i p, ps[i]? = some p → k ≤ i → c ≤ p)
  | 0 => ⟨0, Nat.zero_le _, rfl, fun _ _ _ _ => Nat.zero_le _⟩
  | c + 1 => by
    obtain ⟨k, hk, e, g⟩ := Fx.red h c
    rw [red_succ, e]
    have tl : (ps.take k).length = k := by rw [List.length_take, h.len]; omega
    have later : ∀ i, k < i → ∀ p q, ps[k]? = some p → ps[i]? = some q → p < q := fun i hi p q h1 h2 => by
      obtain ⟨a1, a2⟩ := List.getElem?_eq_some_iff.mp h1
      obtain ⟨b1, b2⟩ := List.getElem?_eq_some_iff.mp h2
      rw [← a2, ← b2]
      exact List.pairwise_iff_getElem.mp h.asc k i a1 b1 hi
    by_cases cc : ps[k]? = some c
    · have kl : k < N.length := by
        obtain ⟨a1, _⟩ := List.getElem?_eq_some_iff.mp cc
        have := h.len
        omega
      have v1 : (N.getD k []).getD c 0 = 1 := by
        have := h.one k c cc k kl
        rw [if_pos rfl] at this
        exact this
      have hh : ∃ tl, heres k c N = k :: tl := by
        unfold heres
        have : (List.range (N.length - k)).map (fun i => k + i) = k :: ((List.range (N.length - k - 1)).map fun i => k + (i + 1)) := by
          obtain ⟨d, hd⟩ : ∃ d, N.length - k = d + 1 := ⟨N.length - k - 1, by omega⟩
          rw [hd, List.range_succ_eq_map, List.map_cons, List.map_map]
          rfl
        rw [this, List.filter_cons, if_pos (decide_eq_true (by rw [v1]; decide))]
        exact ⟨_, rfl⟩
      obtain ⟨tl', hh⟩ := hh
      have gk : N.getD k [] = N[k] := by simp [List.getD, kl]
      have sw : swapped k k N = N := by
        unfold swapped
        rw [gk, set_self, set_self]
      have sc : scaled k c N = N := by
        unfold scaled
        rw [v1, gk]
        have : (N[k].map fun x => (1 : Rat)⁻¹ * x) = N[k] := by
          have e1 : (1 : Rat)⁻¹ = 1 := by first | grind | simp
          rw [e1]
          conv => rhs; rw [← List.map_id N[k]]
          exact List.map_congr_left fun x _ => by rw [Rat.one_mul]; rfl
        rw [this, set_self]
      have inn : ∀ a ∈ List.range N.length, inner k c N a = N := fun a ha => by
        unfold inner
        by_cases z : a = k
        · rw [if_neg (fun x => x.1 z)]
        · have := h.one k c cc a (List.mem_range.mp ha)
          rw [if_neg z] at this
          rw [if_neg (fun x => x.2 this)]
      have st : stepC (N, ps.take k) c = (N, ps.take k ++ [c]) := by
        unfold stepC
        simp only [tl, hh, sw, sc]
        rw [fold_id _ _ _ inn]
      refine ⟨k + 1, kl, ?_, fun i p hp hi => ?_⟩
      · rw [st, List.take_add_one, cc]
        rfl
      · have := later i (by omega) c p cc hp
        omega
    · have hz : heres k c N = [] := by
        unfold heres
        rw [List.filter_eq_nil_iff]
        intro a ha
        obtain ⟨i, hi, rfl⟩ := List.mem_map.mp ha
        have hi := List.mem_range.mp hi
        obtain ⟨p, hp⟩ : ∃ p, ps[k + i]? = some p := ⟨ps[k + i]'(by have := h.len; omega), List.getElem?_eq_getElem _⟩
        have g1 := g (k + i) p hp (by omega)
        have ne : p ≠ c := by
          rintro rfl
          by_cases i0 : i = 0
          · subst i0
            exact cc hp
          · obtain ⟨q, hq⟩ : ∃ q, ps[k]? = some q := ⟨ps[k]'(by have := h.len; omega), List.getElem?_eq_getElem _⟩
            have := later (k + i) (by omega) q p hq hp
            have := g k q hq (Nat.le_refl _)
            omega
        have := h.led (k + i) p hp c (by omega)
        have this : (N.getD (k + i) []).getD c 0 = 0 := this
        rw [this]
        decide
      have st : stepC (N, ps.take k) c = (N, ps.take k) := by
        unfold stepC
        simp only [tl, hz]
      refine ⟨k, hk, st, fun i p hp hi => ?_⟩
      have := g i p hp hi
      have ne : p ≠ c := by
        rintro rfl
        by_cases i0 : i = k
        · subst i0
          exact cc hp
        · obtain ⟨q, hq⟩ : ∃ q, ps[k]? = some q := by
            obtain ⟨a1, _⟩ := List.getElem?_eq_some_iff.mp hp
            exact ⟨ps[k]'(by omega), List.getElem?_eq_getElem _⟩
          have := later i (by omega) q p hq hp
          have := g k q hq (Nat.le_refl _)
          omega
      omega
end
end Q
namespace Q
end Q
namespace Q
open DL L2 PySem PySem.Spec PyProof.Rows
section
variable {w a j i k : Nat} {F : List (List Rat)} {RD : D} {l : List Int}
theorem Tw.mul {x y : Rat} (h : Tw k y) (hx : P12 x) : Tw (k + 1) (x * y) := by
  have := Tw.comb (k := k) (a := 0) (b := y) ⟨0, by simp, by simp⟩ h hx
  rw [Rat.zero_add] at this
  exact this
end
end Q
namespace Q
open DL L2 PySem PySem.Spec PyProof.Rows
end Q
namespace Q
open DL L2 PySem PySem.Spec PyProof.Rows
section
def Sb (B n : Nat) (d : D) : Prop := ∃ x, d.py = some x ∧ x.showable = true ∧ x.leavesShort 2000 = true ∧ x.bulk ≤ B ∧ x.depth ≤ n
theorem Sb.int {a : Int} (h : a.natAbs < 2 ^ 1900) : Sb 0 1 (.int a) := by
  have l1 := lg h (by decide)
  refine ⟨.int a, rfl, ?_, ?_, ?_, ?_⟩
  · simp only [PyData.showable, decide_eq_true_eq]; omega
  · unfold PyData.leavesShort
    have e : PyData.shown (.int a) = Str.ofString (toString a) := by simp only [PyData.shown] <;> rfl
    rw [e]
    exact decide_eq_true (int_len h)
  · unfold PyData.bulk
    omega
  · simp [PyData.depth]
theorem Sb.all {W n : Nat} : ∀ l : List D, (∀ d ∈ l, Sb W n d) → ∃ xs, pyAll l = some xs ∧ PyData.showableAll xs = true ∧ PyData.leavesShortAll 2000 xs = true ∧ PyData.bulkAll xs ≤ l.length * (W + 1) ∧ PyData.depthAll xs ≤ n
  | [], _ => ⟨[], pyAll_nil, rfl, rfl, by simp [PyData.bulkAll], by simp [PyData.depthAll]⟩
  | d :: l, h => by
    obtain ⟨x, a1, a2, a3, a4, a5⟩ := h d List.mem_cons_self
    obtain ⟨xs, b1, b2, b3, b4, b5⟩ := Sb.all l fun d hd => h d (List.mem_cons_of_mem _ hd)
    refine ⟨x :: xs, ?_, ?_, ?_, ?_, ?_⟩
    · unfold pyAll
      rw [a1, b1]
      rfl
    · simp [PyData.showableAll, a2, b2]
    · simp [PyData.leavesShortAll, a3, b3]
    · rw [List.length_cons, Nat.succ_mul]
      simp only [PyData.bulkAll]
      omega
    · simp only [PyData.depthAll]
      omega
theorem Sb.tup {W n B : Nat} {l : List D} (h : ∀ d ∈ l, Sb W n d) (hB : l.length * (W + 1) ≤ B) : Sb B (n + 1) (.tup l) := by
  obtain ⟨xs, b1, b2, b3, b4, b5⟩ := Sb.all l h
  refine ⟨.tuple xs, ?_, ?_, ?_, ?_, ?_⟩
  · unfold D.py
    rw [b1]; rfl
  · simpa [PyData.showable] using b2
  · simpa [PyData.leavesShort] using b3
  · have : PyData.bulk (.tuple xs) = PyData.bulkAll xs := by simp [PyData.bulk]
    omega
  · simp only [PyData.depth]; omega
theorem Sb.lst {W n B : Nat} {l : List D} (h : ∀ d ∈ l, Sb W n d) (hB : l.length * (W + 1) ≤ B) : Sb B (n + 1) (.lst l) := by
  obtain ⟨xs, b1, b2, b3, b4, b5⟩ := Sb.all l h
  refine ⟨.list xs, ?_, ?_, ?_, ?_, ?_⟩
  · unfold D.py
    rw [b1]; rfl
  · simpa [PyData.showable] using b2
  · simpa [PyData.leavesShort] using b3
  · have : PyData.bulk (.list xs) = PyData.bulkAll xs := by simp [PyData.bulk]
    omega
  · simp only [PyData.depth]; omega
theorem Sb.shown {W n : Nat} {d : D} (h : Sb W n d) (hW : W ≤ 8000) (hn : n ≤ 60) : ∃ z, gRepr [d] = some (.str z) := by
  obtain ⟨x, h1, h2, h3, h4, h5⟩ := h
  have k := PyData.shown_le_bulk 2000 (by decide) x h3
  have sz := szv
  refine ⟨x.shown, ?_⟩
  show (shownD d).map D.str = _
  unfold shownD
  have l : x.shown.length ≤ sizeLine := by omega
  simp only [h1]
  rw [if_pos ⟨h2, l, by omega⟩]
  rfl
theorem Sb.fr {x : Rat} (h : Sz 1900 x) : Sb 2 2 (Q.fr x) := Sb.tup (W := 0) (fun d hd => by
  simp only [List.mem_cons, List.not_mem_nil, or_false] at hd
  rcases hd with rfl | rfl
  · exact Sb.int h.1
  · exact Sb.int h.2) (by simp)
end
end Q
namespace Q
open DL L2 PySem PySem.Spec PyProof.Rows
section
variable {n : Nat} {ps : List (List Int)} {i : Nat}
theorem ok_sub {qs : List (List Int)} (h : okPls n ps = true) (s : qs.Sublist ps) : okPls n qs = true := by
  rw [okPls_iff] at h ⊢
  exact ⟨Nat.le_trans s.length_le h.1, fun p hp => h.2.1 p (s.subset hp), h.2.2.sublist s⟩
def dropP (ps : List (List Int)) (i : Nat) : List (List Int) := ps.take i ++ ps.drop (i + 1)
theorem drop_ok (h : okPls n ps = true) (hi : i < ps.length) : okPls n (dropP ps i) = true := by
  refine ok_sub h ?_
  have sp := split_at hi
  unfold dropP
  conv => rhs; rw [sp]
  exact List.Sublist.append (List.Sublist.refl _) (List.sublist_cons_self _ _)
theorem v_planesF : FPlanes_planes_v2 [PO n ps] = .rt (.lst (ps.map pl)) (PO n ps) := by
  have f2 := fld_kept (n := n) (ps := ps)
  have gl : gList [.tup (ps.map pl)] = some (.lst (ps.map pl)) := rfl
  have gl' : gList [.tup (ps.map pl)] = some (.lst (ps.map pl)) := gl
  generalize hT : D.tup (ps.map pl) = T at *
  generalize ps.map pl = L at *
  generalize PO n ps = P at *
  simp -implicitDefEqProofs [FPlanes_planes_v2, runM, mPlanes_planes_v2, pad, f2, gl, mNF, isL, io0]
theorem v_withoutP (h : okPls n ps = true) (h1 : 1 ≤ n) (h4 : n ≤ 4) (hi : i < ps.length) : ∃ o, FPlanes_without [PO n ps, .int (i : Nat)] = .rt (PO n (dropP ps i)) o := by
  have sz := szv
  have hl := ok_len h
  have v := fun ρ => v_checkIdx (n := n) (ps := ps) (i : Nat) ρ
  have c : (0 : Int) ≤ (i : Nat) ∧ ((i : Nat) : Int) < ps.length := by omega
  simp only [c, and_self, if_true] at v
  have ok' := drop_ok h hi
  have f := fld_n (n := n) (ps := ps)
  have f2 := fld_kept (n := n) (ps := ps)
  have s1 : gSl (.tup (ps.map pl)) none (some (i : Int)) = some (.tup ((ps.take i).map pl)) := by
    show some (D.tup (DL.cutD (ps.map pl) _ _)) = _
    rw [cut_to, List.map_take]
  have s2 : gSl (.tup (ps.map pl)) (some ((i : Int) + 1)) none = some (.tup ((ps.drop (i + 1)).map pl)) := by
    show some (D.tup (DL.cutD (ps.map pl) (some ((i + 1 : Nat) : Int)) _)) = _
    rw [cut_from, List.map_drop]
  have g1 := addT (a := ps.take i) (b := ps.drop (i + 1)) (by rw [List.length_take, List.length_drop]; omega)
  have mk := v_make (n := ((n : Nat) : Int)) (ps := dropP ps i) (Sq.tup ((dropP ps i).map pl)) (sm_ok ok' (by omega)) (args := mCons (m1 (gFld (isC ["Planes"]) "n") (mVar 0)) (mCons (m2 gAdd (mSl (.ex (m1 (gFld (isC ["Planes"]) "kept") (mVar 0))) mNoP (mPart (mVar 1))) (mSl (.ex (m1 (gFld (isC ["Planes"]) "kept") (mVar 0))) (mPart (m2 gAdd (mVar 1) (mK (.int 1)))) mNoP)) mNil))
    (ρ := [some (PO n ps), some (.int (i : Nat))]) (ρ1 := [some (PO n ps), some (.int (i : Nat))]) (by
      unfold dropP
      generalize D.tup ((ps.take i ++ ps.drop (i + 1)).map pl) = R at *
      generalize D.tup ((ps.take i).map pl) = R2 at *
      generalize D.tup ((ps.drop (i + 1)).map pl) = R3 at *
      generalize D.tup (ps.map pl) = T at *
      generalize PO n ps = P at *
      simp -implicitDefEqProofs [f, f2, mSl, evB, rdB, mNoP, mPart, asI, s1, s2, g1])
  rw [if_pos ⟨by omega, by omega⟩, Int.toNat_natCast, if_pos ok'] at mk
  have e : mPlanes_without [some (PO n ps), some (.int (i : Nat))] = .rt (PO n (dropP ps i)) [some (PO n ps), some (.int (i : Nat))] := by
    generalize PO n (dropP ps i) = PD at *
    generalize PO n ps = P at *
    unfold mPlanes_without
    simp -implicitDefEqProofs only [msSeq_ap, msExpr_ap, mCall_R, mCons_ap, mVar_ap, mNil_ap, bind_ok, v, obind_ok, msRet_ap]
    simp -implicitDefEqProofs [v, mk, mCall_R]
  exact ⟨_, runM_rt (n := 2) (np := 2) (dd := []) (ds := [PO n ps, .int (i : Nat)]) rfl e⟩
theorem v_withoutBad {a : Int} (h : ¬ (0 ≤ a ∧ a < ps.length)) (ρ : En) : (FPlanes_without [PO n ps, .int a]).R ρ = .ex BN ρ := by
  have v := fun ρ => v_checkIdx (n := n) (ps := ps) a ρ
  simp only [if_neg h] at v
  generalize PO n ps = P at *
  simp -implicitDefEqProofs [FPlanes_without, runM, mPlanes_without, pad, mCall_R, v]
theorem v_turnedBad {a : Int} (h : ¬ (0 ≤ a ∧ a < ps.length)) (ρ : En) : (FPlanes_turned [PO n ps, .int a]).R ρ = .ex BN ρ := by
  have v := fun ρ => v_checkIdx (n := n) (ps := ps) a ρ
  simp only [if_neg h] at v
  generalize PO n ps = P at *
  simp -implicitDefEqProofs [FPlanes_turned, runM, mPlanes_turned, pad, mCall_R, v]
theorem pls_inj {a b : List (List Int)} (h : a.map pl = b.map pl) : a = b := List.map_inj_right (fun x y e => pl_inj.mp e) |>.mp h
theorem v_eqPO {m : Nat} {qs : List (List Int)} (ρ : En) : (FPlanes_eq [PO n ps, PO m qs]).R ρ = .ok (.bl (decide (n = m ∧ ps = qs))) ρ := by
  have sz := szv
  have pd : ∀ (k : Nat) (rs : List (List Int)), Pd 3 (D.tup [.int (k : Nat), .tup (rs.map pl)]) := fun k rs d hd => by
    simp only [List.mem_cons, List.not_mem_nil, or_false] at hd
    rcases hd with rfl | rfl
    · trivial
    · exact fun d hd => pd_pls rs d hd
  have g := gEq_pd (P := n = m ∧ ps = qs) (pd n ps) (pd m qs) (by decide) (by decide) ⟨fun h => by
    have h2 := D.tup.inj h
    simp only [List.cons.injEq, and_true] at h2
    have h3 := D.int.inj h2.1
    exact ⟨by omega, pls_inj (D.tup.inj h2.2)⟩, fun h => by rw [h.1, h.2]⟩
  have f := fld_n (n := n) (ps := ps)
  have f2 := fld_kept (n := n) (ps := ps)
  have f3 := fld_n (n := m) (ps := qs)
  have f4 := fld_kept (n := m) (ps := qs)
  generalize decide (n = m ∧ ps = qs) = b at *
  generalize D.tup (ps.map pl) = T at *
  generalize D.tup (qs.map pl) = T2 at *
  generalize PO n ps = P at *
  generalize PO m qs = P2 at *
  simp -implicitDefEqProofs [FPlanes_eq, runM, mPlanes_eq, pad, f, f2, f3, f4, g, show 2 ≤ sizeLine by omega]
end
end Q
namespace Q
open DL L2 PySem PySem.Spec PyProof.Rows
theorem lip_loop (N d : D) : ∀ (ys : List Int) (g : Nat) (o : Option D), (∀ a ∈ ys, a.natAbs < 2 ^ 8000) → ∃ o', loopL (mgName 3) m_law_is_plane_b0 (ys.map D.int) [some N, some d, some (.int (g : Nat)), o] = .nx [some N, some d, some (.int (gcdL ys g : Nat)), o']
  | [], g, o, _ => ⟨o, rfl⟩
  | a :: ys, g, o, hy => by
    obtain ⟨o', e⟩ := lip_loop N d ys (Int.gcd g a) (some (.int a)) fun z hz => hy z (List.mem_cons_of_mem _ hz)
    refine ⟨o', ?_⟩
    have hv := fun ρ => qLDivisor_v (g : Int) a (hy a List.mem_cons_self) ρ
    rw [← e_ldiv] at hv
    rw [List.map_cons, gcdL_cons, ← e]
    refine loop_step (ρ1 := [some N, some d, some (.int (g : Nat)), some (.int a)]) rfl ?_
    generalize ((Int.gcd (g : Int) a : Nat) : Int) = n0 at *
    generalize (g : Int) = gi at *
    simp -implicitDefEqProofs [m_law_is_plane_b0, mCall_R, hv]
theorem v_lisPlane {n : Nat} {xs : List Int} (hx : ∀ a ∈ xs, a.natAbs < 2 ^ 8000) (hl : xs.length ≤ 1000) (ρ : En) : (F_law_is_plane [.int (n : Nat), pl xs]).R ρ = .ok (.bl (isPl n xs)) ρ := by
  have sz : sizeLine = 16777216 := by decide
  have hd : Sq (pl xs) (xs.map .int) := Sq.tup _
  generalize pl xs = d at *
  obtain ⟨o', e2⟩ := lip_loop (.int (n : Nat)) d xs 0 none hx
  have e1 : mLc [3] (mIter (mVar 1)) (mgName 3) mYes m_law_is_plane_e1 [some (.int n), some d, some (.int (gcdL xs 0 : Nat)), o'] = .ok (.lst (xs.map fun a => .bl (decide (a.natAbs ≤ 1000)))) [some (.int n), some d, some (.int (gcdL xs 0 : Nat)), o'] := by
    refine mLc_map (as := xs) (enc := .int) (st := fun a => [some (.int n), some d, some (.int (gcdL xs 0 : Nat)), some (.int a)]) (f := fun a => .bl (decide (a.natAbs ≤ 1000))) ?_ (by omega) (fun _ => rfl) (fun a ha => ?_) (fun a ha => ?_)
    · simp [hd.iter]
    · rfl
    · have := abs_le a 1000
      simp -implicitDefEqProofs [m_law_is_plane_e1]
      exact this
  obtain ⟨z, e3, hz⟩ := hd.sl none (some (n : Int))
  rw [cut_to, ← List.map_take] at hz
  have hT : (xs.take n).length ≤ 1000 := by rw [List.length_take]; omega
  unfold isPl
  generalize xs.take n = T at hz hT ⊢
  have e4 : mLc [3] (mIter (mSl (.ex (mVar 1)) mNoP (mPart (mVar 0)))) (mgName 3) mYes m_law_is_plane_e2 [some (.int n), some d, some (.int (gcdL xs 0 : Nat)), o'] = .ok (.lst (T.map fun a => .bl (!decide (a = 0)))) [some (.int n), some d, some (.int (gcdL xs 0 : Nat)), o'] := by
    refine mLc_map (as := T) (enc := .int) (st := fun a => [some (.int n), some d, some (.int (gcdL xs 0 : Nat)), some (.int a)]) (f := fun a => .bl (!decide (a = 0))) ?_ (by omega) (fun _ => rfl) (fun a ha => ?_) (fun a ha => ?_)
    · simp [mSl, evB, rdB, mNoP, mPart, asI, e3, hz.iter]
    · rfl
    · simp -implicitDefEqProofs [m_law_is_plane_e2]
  have q1 : decide ((xs.length : Int) = (n : Int) + 1) = decide (xs.length = n + 1) := by rw [decide_eq_decide]; omega
  have q2 : decide (((gcdL xs 0 : Nat) : Int) = 1) = decide (gcdL xs 0 = 1) := by rw [decide_eq_decide]; omega
  rw [show ((0 : Nat) : Int) = 0 from rfl] at e2
  have g1 := gAll_map (fun a : Int => decide (a.natAbs ≤ 1000)) xs
  have g2 := gAny_map (fun a : Int => !decide (a = 0)) T
  have hit := hd.iter
  have hle : gLen [d] = some (.int (xs.length : Nat)) := by
    have := hd.len
    rwa [List.length_map] at this
  generalize gcdL xs 0 = gg at *
  generalize hA : xs.all (fun a => decide (a.natAbs ≤ 1000)) = A at *
  generalize xs.map (fun a => D.bl (decide (a.natAbs ≤ 1000))) = L1 at *
  unfold F_law_is_plane m_law_is_plane
  generalize m_law_is_plane_b0 = B at *
  generalize mLc [3] (mIter (mVar 1)) (mgName 3) mYes m_law_is_plane_e1 = mL1 at *
  generalize mLc [3] (mIter (mSl (.ex (mVar 1)) mNoP (mPart (mVar 0)))) (mgName 3) mYes m_law_is_plane_e2 = mL2 at *
  generalize xs.map D.int = XS at *
  cases b1 : decide (xs.length = n + 1) with
  | false => simp -implicitDefEqProofs [runM, pad, hit, e2, hle, q1, b1]
  | true =>
    cases b3 : decide (gg = 1) with
    | false => simp -implicitDefEqProofs [runM, pad, hit, e2, hle, q1, b1, q2, b3]
    | true =>
      cases A with
      | false => simp -implicitDefEqProofs [runM, pad, hit, e2, hle, q1, b1, q2, b3, e1, g1]
      | true => simp -implicitDefEqProofs [runM, pad, hit, e2, hle, q1, b1, q2, b3, e1, g1, e4, g2]
def ratR (p : List Int) : List Rat := p.map fun z : Int => (z : Rat)
theorem v_lnumbers3 {qs : List (List Int)} (hl : qs.length ≤ 1000) (hq : ∀ q ∈ qs, q.length ≤ 1000) (ρ : En) : (F_law_numbers_v3 [.lst (qs.map pl)]).R ρ = .ok (tps (qs.map ratR)) ρ := by
  have sz := szv
  have lc := mLc_map (as := qs) (enc := pl) (vs := [2]) (g := mgName 2) (mi := mIter (mVar 0)) (me := m_law_numbers_v3_e1) (ρ0 := [some (.lst (qs.map pl)), none, none]) (ρ := [some (.lst (qs.map pl)), none, none])
    (st := fun q => [some (.lst (qs.map pl)), none, some (pl q)]) (f := fun q => frs (ratR q)) rfl (by omega) (fun _ => rfl) (fun _ _ => rfl) (fun q hq' => by
      have hql := hq q hq'
      have l2 := mLc_map (as := q) (enc := D.int) (vs := [1]) (g := mgName 1) (mi := mIter (mVar 2)) (me := m_law_numbers_v3_e0) (ρ0 := [some (.lst (qs.map pl)), none, some (pl q)]) (ρ := [some (.lst (qs.map pl)), none, some (pl q)])
        (st := fun a => [some (.lst (qs.map pl)), some (.int a), some (pl q)]) (f := fun a : Int => fr (a : Rat)) rfl (by omega) (fun _ => rfl) (fun _ _ => rfl) (fun a _ => by
          have e : fr (a : Rat) = .tup [.int a, .int 1] := rfl
          rw [e]
          generalize D.lst (qs.map pl) = L at *
          generalize pl q = P at *
          simp -implicitDefEqProofs [m_law_numbers_v3_e0, show 2 ≤ sizeLine by omega])
      have em : q.map (fun a : Int => fr (a : Rat)) = (ratR q).map fr := by unfold ratR; rw [List.map_map]; rfl
      rw [em] at l2
      have gt : gTuple [.lst ((ratR q).map fr)] = some (frs (ratR q)) := rfl
      generalize (ratR q).map fr = R at *
      generalize frs (ratR q) = F at *
      generalize D.lst (qs.map pl) = L at *
      generalize pl q = P at *
      unfold m_law_numbers_v3_e1
      generalize mLc [1] (mIter (mVar 2)) (mgName 1) mYes m_law_numbers_v3_e0 = mL at *
      simp -implicitDefEqProofs [l2, gt])
  have em : qs.map (fun q => frs (ratR q)) = (qs.map ratR).map frs := by rw [List.map_map]; rfl
  rw [em] at lc
  have h : m_law_numbers_v3 [some (.lst (qs.map pl)), none, none] = .rt (tps (qs.map ratR)) [some (.lst (qs.map pl)), none, none] := by
    show _ = Out.rt (.lst ((qs.map ratR).map frs)) _
    generalize (qs.map ratR).map frs = R at *
    generalize D.lst (qs.map pl) = L at *
    unfold m_law_numbers_v3
    generalize mLc [2] (mIter (mVar 0)) (mgName 2) mYes m_law_numbers_v3_e1 = mL at *
    simp -implicitDefEqProofs [lc]
  have := runM_rt (n := 3) (np := 1) (dd := []) (fr := false) (m := m_law_numbers_v3) (ds := [.lst (qs.map pl)]) rfl h
  unfold F_law_numbers_v3
  rw [this, Ret.R_rt]
end Q
namespace DL
open L2 PySem PySem.Spec PyProof.Rows
def Dw (l : List Int) : Prop := ∀ x ∈ l, 0 ≤ x ∧ x < 1000
theorem Dw.app {a b : List Int} (h : Dw a) (k : Dw b) : Dw (a ++ b) := fun x m => (List.mem_append.mp m).elim (h x) (k x)
theorem Dw.rev {l : List Int} (h : Dw l) : Dw l.reverse := fun x m => h x (List.mem_reverse.mp m)
theorem Dw.tail {l : List Int} (h : Dw l) : Dw l.dropLast := fun x m => h x (List.dropLast_subset l m)
end DL
namespace Q
open DL L2 PySem PySem.Spec PyProof.Rows
end Q
namespace Q
open DL L2 PySem PySem.Spec PyProof.Rows
def clr (xs : List Int) : List Int := if 1 < gcdL xs 0 then primL xs else xs
theorem clr_len (xs : List Int) : (clr xs).length = xs.length := by
  unfold clr primL
  split <;> simp
theorem clr_abs {xs : List Int} {b : Int} (hb : b ∈ clr xs) : ∃ a ∈ xs, b.natAbs ≤ a.natAbs := by
  unfold clr at hb
  split at hb
  · exact primL_abs hb
  · exact ⟨b, hb, Nat.le_refl _⟩
end Q
namespace Q
open DL L2 PySem PySem.Spec PyProof.Rows
end Q
namespace Q
open DL L2 PySem PySem.Spec PyProof.Rows
def RwI (W k : Nat) (r : List Int) : Prop := r.length = W ∧ ∀ x ∈ r, x.natAbs < 2 ^ k
theorem RwI.up {W i j : Nat} {r : List Int} (h : RwI W i r) (l : i ≤ j) : RwI W j r := ⟨h.1, fun x hx => sm_up (h.2 x hx) l⟩
theorem RwI.g {W k c : Nat} {r : List Int} (h : RwI W k r) (hc : c < W) : (r.getD c 0).natAbs < 2 ^ k := h.2 _ (getD_mem (by rw [h.1]; exact hc))
theorem getD_setI {M : List (List Int)} {a i : Nat} {r : List Int} (ha : a < M.length) : (M.set a r).getD i [] = if a = i then r else M.getD i [] := by
  simp only [List.getD, List.getElem?_set]
  by_cases h : a = i
  · subst h; simp [ha]
  · simp [h]
def madeI (lead : List Int) (c : Nat) (row : List Int) : List Int := (List.range lead.length).map fun j => lead.getD c 0 * row.getD j 0 - row.getD c 0 * lead.getD j 0
def elimI (lead : List Int) (c : Nat) (row : List Int) : List Int := clr (madeI lead c row)
theorem made_rw {W k c : Nat} {lead row : List Int} (hl : RwI W k lead) (hr : RwI W k row) (hc : c < W) : RwI W (2 * k + 1) (madeI lead c row) := by
  refine ⟨by unfold madeI; rw [List.length_map, List.length_range]; exact hl.1, fun x hx => ?_⟩
  obtain ⟨j, hj, rfl⟩ := List.mem_map.mp hx
  have hj := List.mem_range.mp hj
  rw [hl.1] at hj
  have h1 := sm_mul (hl.g hc) (hr.g hj)
  have h2 := sm_mul (hr.g hc) (hl.g hj)
  have := sm_sub h1 h2
  rw [show k + k + 1 = 2 * k + 1 by omega] at this
  exact this
theorem elim_rw {W k c : Nat} {lead row : List Int} (hl : RwI W k lead) (hr : RwI W k row) (hc : c < W) : RwI W (2 * k + 1) (elimI lead c row) := by
  have m := made_rw hl hr hc
  refine ⟨by unfold elimI; rw [clr_len]; exact m.1, fun x hx => ?_⟩
  obtain ⟨y, hy, le⟩ := clr_abs hx
  exact Nat.lt_of_le_of_lt le (m.2 y hy)
def innerI (top col : Nat) (M : List (List Int)) (a : Nat) : List (List Int) :=
  if a ≠ top ∧ (M.getD a []).getD col 0 ≠ 0 then M.set a (elimI (M.getD top []) col (M.getD a [])) else M
section
variable {d0 : D} {cs : Nat} {M : List (List Int)} {ps : List Nat} {o5 o6 o7 o8 o9 o10 o11 : Option D} {W k m top col : Nat} {T : List Int}
def JnI (W k m top : Nat) (T : List Int) (ks : List Nat) (M : List (List Int)) : Prop := M.length = m ∧ (∀ i, i < m → RwI W (2 * k + 1) (M.getD i [])) ∧ M.getD top [] = T ∧ ∀ i ∈ ks, i < m ∧ (i ≠ top → RwI W k (M.getD i []))
theorem JnI.step {a : Nat} {ks : List Nat} (h : JnI W k m top T (a :: ks) M) (hT : RwI W k T) (hn : a ∉ ks) (hc : col < W) : JnI W k m top T ks (innerI top col M a) := by
  obtain ⟨h1, h2, h3, h4⟩ := h
  have ha := (h4 a List.mem_cons_self).1
  unfold innerI
  by_cases c : a ≠ top ∧ (M.getD a []).getD col 0 ≠ 0
  · rw [if_pos c, h3]
    have ra := (h4 a List.mem_cons_self).2 c.1
    have rn := elim_rw hT ra hc
    refine ⟨by rw [List.length_set]; exact h1, fun i hi => ?_, ?_, fun i hi => ⟨(h4 i (List.mem_cons_of_mem _ hi)).1, fun ne => ?_⟩⟩
    · rw [getD_setI (by omega)]
      split
      · exact rn
      · exact h2 i hi
    · rw [getD_setI (by omega), if_neg c.1]
      exact h3
    · rw [getD_setI (by omega), if_neg (by rintro rfl; exact hn hi)]
      exact (h4 i (List.mem_cons_of_mem _ hi)).2 ne
  · rw [if_neg c]
    exact ⟨h1, h2, h3, fun i hi => h4 i (List.mem_cons_of_mem _ hi)⟩
def MxI (m W k : Nat) (M : List (List Int)) : Prop := M.length = m ∧ ∀ r ∈ M, RwI W k r
theorem MxI.up {m W i j : Nat} {M : List (List Int)} (h : MxI m W i M) (l : i ≤ j) : MxI m W j M := ⟨h.1, fun r hr => (h.2 r hr).up l⟩
end
end Q
namespace Q
open DL L2 PySem PySem.Spec PyProof.Rows
section
variable {M : List (List Int)} {ps : List Nat} {W m c : Nat}
abbrev en (M : List (List Int)) (i j : Nat) : Int := (M.getD i []).getD j 0
end
end Q
namespace Q
open DL L2 PySem PySem.Spec PyProof.Rows
theorem flat_rep {α : Type} (x : α) : ∀ n : Nat, (List.replicate n [x]).flatten = List.replicate n x
  | 0 => rfl
  | n + 1 => by rw [List.replicate_succ, List.flatten_cons, flat_rep x n, List.replicate_succ]; rfl
theorem gMul_rep (x : D) {n : Nat} (h : n ≤ 1000) : gMul (.lst [x]) (.int (n : Nat)) = some (.lst (List.replicate n x)) := by
  have sz := szv
  have f1 := flat_rep x n
  simp [gMul, f1]
  omega
abbrev tix (ix : List Nat) : D := .tup (ix.map fun i => D.int (i : Nat))
end Q
namespace Q
open DL L2 PySem PySem.Spec PyProof.Rows
end Q
namespace Q
open DL L2 PySem PySem.Spec PyProof.Rows
end Q
namespace Q
open DL L2 PySem PySem.Spec PyProof.Rows
abbrev Tie := List Nat × List Int
end Q
namespace Q
open DL L2 PySem PySem.Spec PyProof.Rows
end Q
namespace Q
open DL L2 PySem PySem.Spec PyProof.Rows
def Tq (B : Nat) (x : Rat) : Prop := ∃ N : Int, x * 12 = (N : Rat) ∧ N.natAbs ≤ B
theorem Tq.zero : Tq 0 0 := ⟨0, by simp, by decide⟩
theorem Tq.up {A B : Nat} {x : Rat} (h : Tq A x) (l : A ≤ B) : Tq B x := let ⟨N, e, b⟩ := h; ⟨N, e, Nat.le_trans b l⟩
theorem Tq.add {A B : Nat} {x y : Rat} (h1 : Tq A x) (h2 : Tq B y) : Tq (A + B) (x + y) := by
  obtain ⟨N, e, b⟩ := h1
  obtain ⟨M, e', b'⟩ := h2
  refine ⟨N + M, ?_, by omega⟩
  rw [Rat.add_mul, e, e', Rat.intCast_add]
theorem Tq.sz {B a : Nat} {x : Rat} (h : Tq B x) (hb : B < 2 ^ a) (ha : 4 ≤ a) : Sz a x := by
  obtain ⟨N, e, b⟩ := h
  have h16 : (12 : Nat) < 2 ^ a := Nat.lt_of_lt_of_le (by decide : 12 < 2 ^ 4) (Nat.pow_le_pow_right (by decide) ha)
  refine Cd.sz (d := 12) (by decide) (by simpa using h16) ⟨N, ?_, by omega⟩
  rw [← e]
  rfl
def PP : Nat := 2 ^ 2007
end Q
namespace Q
open DL L2 PySem PySem.Spec PyProof.Rows
end Q
namespace Q
open DL L2 PySem PySem.Spec PyProof.Rows
abbrev Sg3 (w : List Nat) : Prop := ∀ c ∈ w, c ∈ [43, 45, 48]
end Q
namespace Q
open DL L2 PySem PySem.Spec PyProof.Rows
def AA : Nat := 1024 * (16 * PP)
end Q
namespace Q
open DL L2 PySem PySem.Spec PyProof.Rows
end Q
namespace Q
open DL L2 PySem PySem.Spec PyProof.Rows
end Q
namespace Q
open DL L2 PySem PySem.Spec PyProof.Rows
end Q
namespace Q
open DL L2 PySem PySem.Spec PyProof.Rows
end Q
namespace Q
open DL L2 PySem PySem.Spec PyProof.Rows
end Q
namespace Q
open DL L2 PySem PySem.Spec PyProof.Rows
end Q
namespace Q
open DL L2 PySem PySem.Spec PyProof.Rows
section
variable {n : Nat} {ps : List (List Int)} {w ix : List Nat} {fs : List Int} {d : D}
structure TieOk (n : Nat) (ps : List (List Int)) (w ix : List Nat) (fs : List Int) : Prop where
  hp : ∀ p ∈ ps, p.length = n + 1 ∧ ∀ a ∈ p, a.natAbs < 2 ^ 10
  hw : w.length = ps.length
  hl : ps.length ≤ 12
  h3 : Sg3 w
  hix : ∀ a ∈ ix, a < ps.length
  hf : fs.length = ix.length
  hz : ∀ f ∈ fs, f.natAbs < 2 ^ 2001
end
end Q
namespace Q
open DL L2 PySem PySem.Spec PyProof.Rows
end Q
namespace Q
open DL L2 PySem PySem.Spec PyProof.Rows
section
variable {n : Nat} {ps : List (List Int)} {w ix : List Nat} {fs : List Int} {d : D}
abbrev Et (ps : List (List Int)) (w ix : List Nat) (fs : List Int) (b : Bool) (o5 o6 o7 : Option D) : En := [some (.tup (ps.map pl)), some (sD w), some (tix ix), some (pl fs), some (.bl b), o5, o6, o7, none]
end
end Q
namespace Q
open DL L2 PySem PySem.Spec PyProof.Rows
def turnT (s : Int) (t : Tie) : Tie := (t.1, t.2.map fun f => s * f)
structure TsOk (n : Nat) (ps : List (List Int)) (w : List Nat) (F : List Tie) : Prop where
  hp : ∀ p ∈ ps, p.length = n + 1 ∧ ∀ a ∈ p, a.natAbs < 2 ^ 10
  hw : w.length = ps.length
  hl : ps.length ≤ 12
  h3 : Sg3 w
  hF : F.length ≤ 1000000
  ht : ∀ t ∈ F, t.1.length ≤ 5 ∧ (∀ a ∈ t.1, a < ps.length) ∧ t.2.length = t.1.length ∧ ∀ a ∈ t.2, a.natAbs < 2 ^ 2000
section
variable {n : Nat} {ps : List (List Int)} {w : List Nat} {F : List Tie}
theorem TsOk.turn (g : TsOk n ps w F) {t : Tie} (h : t ∈ F) {s : Int} (hs : s = 1 ∨ s = -1) : TieOk n ps w t.1 (turnT s t).2 := by
  obtain ⟨t1, t2, t3, t4⟩ := g.ht t h
  refine ⟨g.hp, g.hw, g.hl, g.h3, t2, by unfold turnT; rw [List.length_map]; exact t3, fun f hf => ?_⟩
  obtain ⟨a, ha, rfl⟩ := List.mem_map.mp hf
  have := t4 a ha
  have p : (2 : Nat) ^ 2000 ≤ 2 ^ 2001 := Nat.pow_le_pow_right (by decide) (by decide)
  rcases hs with rfl | rfl
  · rw [Int.one_mul]; exact Nat.lt_of_lt_of_le this p
  · rw [Int.neg_mul, Int.one_mul, Int.natAbs_neg]; exact Nat.lt_of_lt_of_le this p
end
end Q
namespace Q
open DL L2 PySem PySem.Spec PyProof.Rows
end Q
namespace Q
open DL L2 PySem PySem.Spec PyProof.Rows
section
variable {n : Nat} {ps : List (List Int)} {w : List Nat} {F : List Tie}
abbrev Ep (n : Nat) (ps : List (List Int)) (w : List Nat) (L : List D) (o3 o4 o5 o6 : Option D) : En := [some (PO n ps), some (sD w), some (.lst L), o3, o4, o5, o6, none]
end
end Q
namespace Q
open DL L2 PySem PySem.Spec PyProof.Rows
end Q
namespace Q
open DL L2 PySem PySem.Spec PyProof.Rows
section
variable {n : Nat} {ps : List (List Int)} {w : List Nat} {F : List Tie}
theorem TsOk.neg (g : TsOk n ps w F) {t : Tie} (h : t ∈ F) : TieOk n ps w t.1 (t.2.map fun f => 0 - f) := by
  have := g.turn h (s := -1) (.inr rfl)
  have e2 : (turnT (-1) t).2 = t.2.map fun f => 0 - f := by unfold turnT; simp
  rw [e2] at this
  exact this
end
end Q
namespace Q
open DL L2 PySem PySem.Spec PyProof.Rows
end Q
namespace Q
open DL L2 PySem PySem.Spec PyProof.Rows
end Q
namespace Q
open DL L2 PySem PySem.Spec PyProof.Rows
end Q
namespace Q
open DL L2 PySem PySem.Spec PyProof.Rows
end Q
namespace Q
open DL L2 PySem PySem.Spec PyProof.Rows
end Q
namespace Q
open DL L2 PySem PySem.Spec PyProof.Rows
end Q
namespace Q
open DL L2 PySem PySem.Spec PyProof.Rows
end Q
namespace Q
open DL L2 PySem PySem.Spec PyProof.Rows
end Q
namespace Q
open DL L2 PySem PySem.Spec PyProof.Rows
end Q
namespace Q
open DL L2 PySem PySem.Spec PyProof.Rows
end Q
namespace Q
open DL L2 PySem PySem.Spec PyProof.Rows
end Q
namespace Q
open DL L2 PySem PySem.Spec PyProof.Rows
end Q
namespace Q
open DL L2 PySem PySem.Spec PyProof.Rows
end Q
namespace Q
open DL L2 PySem PySem.Spec PyProof.Rows
section
variable {n : Nat} {ps : List (List Int)}
def matN (n : Nat) (ps : List (List Int)) : List (List Rat) := ps.map fun p => ratR (p.take n)
theorem matN_cm (hp : ∀ p ∈ ps, p.length = n + 1 ∧ ∀ a ∈ p, a.natAbs < 2 ^ 10) : Cm 1 10 (matN n ps) := by
  refine ⟨by decide, by decide, fun r hr x hx => ?_⟩
  unfold matN ratR at hr
  obtain ⟨p, hp', rfl⟩ := List.mem_map.mp hr
  obtain ⟨a, ha, rfl⟩ := List.mem_map.mp hx
  exact ⟨a, by simp, (hp p hp').2 a (List.mem_of_mem_take ha)⟩
theorem matN_row (hp : ∀ p ∈ ps, p.length = n + 1) {r : List Rat} (h : r ∈ matN n ps) : r.length = n := by
  unfold matN ratR at h
  obtain ⟨p, hp', rfl⟩ := List.mem_map.mp h
  rw [List.length_map, List.length_take, hp p hp']
  omega
theorem v_rankP (hp : ∀ p ∈ ps, p.length = n + 1 ∧ ∀ a ∈ p, a.natAbs < 2 ^ 10) (hn : n ≤ 4) (hl : ps.length ≤ 12) (ρ : En) : (FPlanes_rank [PO n ps]).R ρ = .ok (.int ((red n (matN n ps)).2.length : Nat)) ρ := by
  have sz := szv
  have hp1 := fun p h => (hp p h).1
  have ml : (matN n ps).length = ps.length := List.length_map ..
  have vr := fun ρ => v_reducedK (M := matN n ps) (ds := tps (matN n ps)) (e := frs) (m := (matN n ps).length) (W := n) (cs := n) (K := 400) rfl (fun r _ => .inl rfl) rfl (by omega) (by omega) (by omega) (by decide) (fun c hc => by
    refine red_mx (matN_cm hp) (fun r hr => matN_row hp1 hr) rfl c ?_
    exact Nat.le_trans (cdk_mono 10 (show c ≤ 5 by omega)) (by decide)) ρ
  have f := fld_n (n := n) (ps := ps)
  have f2 := fld_kept (n := n) (ps := ps)
  have lc := mLc_map (as := ps) (enc := pl) (vs := [1]) (g := mgName 1) (mi := mIter (m1 (gFld (isC ["Planes"]) "kept") (mVar 0))) (me := mPlanes_rank_e0) (ρ0 := [some (PO n ps), none]) (ρ := [some (PO n ps), none])
    (st := fun p => [some (PO n ps), some (pl p)]) (f := fun p => frs (ratR (p.take n))) (by
      have gi : gIter (.tup (ps.map pl)) = some (ps.map pl) := rfl
      generalize hT : D.tup (ps.map pl) = T at *
      generalize ps.map pl = L at *
      generalize PO n ps = P at *
      simp -implicitDefEqProofs [f2, gi]) (by omega) (fun _ => rfl) (fun _ _ => rfl) (fun p hp' => by
      have gs := sl_to p n
      have v := fun ρ => v_numbersOf (xs := p.take n) (d := pl (p.take n)) (Sq.tup _) (by rw [List.length_take, hp1 p hp']; omega) ρ
      have e : frs ((p.take n).map fun z : Int => (z : Rat)) = frs (ratR (p.take n)) := rfl
      rw [e] at v
      generalize frs (ratR (p.take n)) = F at *
      generalize pl (p.take n) = PT at *
      generalize pl p = PP at *
      generalize PO n ps = P at *
      simp -implicitDefEqProofs [mPlanes_rank_e0, f, mSl, evB, rdB, mNoP, mPart, asI, gs, mCall_R, v])
  have em : ps.map (fun p => frs (ratR (p.take n))) = (matN n ps).map frs := by unfold matN; rw [List.map_map]; rfl
  rw [em] at lc
  have gl : gLen [nl (red n (matN n ps)).2] = some (.int ((red n (matN n ps)).2.length : Nat)) := by simp [gLen]
  have ix : gIx (.tup [mxD (red n (matN n ps)).1, nl (red n (matN n ps)).2]) (.int 1) = some (nl (red n (matN n ps)).2) := rfl
  have v2 : ∀ ρ, (Frank_of_rows [.int (n : Nat), tps (matN n ps)]).R ρ = .ok (.int ((red n (matN n ps)).2.length : Nat)) ρ := fun ρ => by
    clear lc
    generalize D.tup [mxD (red n (matN n ps)).1, nl (red n (matN n ps)).2] = Z at *
    generalize nl (red n (matN n ps)).2 = N at *
    generalize tps (matN n ps) = T at *
    simp -implicitDefEqProofs [Frank_of_rows, runM, mrank_of_rows, pad, mCall_R, vr, ix, gl]
  have h : mPlanes_rank [some (PO n ps), none] = .rt (.int ((red n (matN n ps)).2.length : Nat)) [some (PO n ps), none] := by
    clear vr ix gl
    have v3 : ∀ ρ, (Frank_of_rows [.int (n : Nat), .lst ((matN n ps).map frs)]).R ρ = .ok (.int ((red n (matN n ps)).2.length : Nat)) ρ := v2
    clear v2
    generalize (((red n (matN n ps)).2.length : Nat) : Int) = K at *
    generalize (matN n ps).map frs = R at *
    generalize PO n ps = P at *
    unfold mPlanes_rank
    generalize mLc [1] (mIter (m1 (gFld (isC ["Planes"]) "kept") (mVar 0))) (mgName 1) mYes mPlanes_rank_e0 = mL at *
    simp -implicitDefEqProofs [f, lc, mCall_R, v3]
  have := runM_rt (n := 2) (np := 1) (dd := []) (fr := false) (m := mPlanes_rank) (ds := [PO n ps]) rfl h
  unfold FPlanes_rank
  rw [this, Ret.R_rt]
theorem asc_len {m : Nat} : ∀ (l : List Nat) (k : Nat), l.Pairwise (· < ·) → (∀ a ∈ l, k ≤ a ∧ a < m) → l.length ≤ m - k
  | [], _, _, _ => Nat.zero_le _
  | a :: r, k, h, hk => by
    obtain ⟨h1, h2⟩ := List.pairwise_cons.mp h
    have ha := hk a List.mem_cons_self
    have := asc_len r (a + 1) h2 fun b hb => ⟨h1 b hb, (hk b (List.mem_cons_of_mem _ hb)).2⟩
    rw [List.length_cons]
    omega
theorem only_ok (h : okPls n ps = true) {ix : List Nat} (ha : ix.Pairwise (· < ·)) (hi : ∀ a ∈ ix, a < ps.length) : okPls n (ix.map fun a => ps.getD a []) = true := by
  rw [okPls_iff] at h ⊢
  obtain ⟨h1, h2, h3⟩ := h
  refine ⟨?_, fun p hp => ?_, ?_⟩
  · rw [List.length_map]
    have := asc_len ix 0 ha fun a h => ⟨Nat.zero_le _, hi a h⟩
    omega
  · obtain ⟨a, ha, rfl⟩ := List.mem_map.mp hp
    exact h2 _ (getD_memP (hi a ha))
  · rw [List.pairwise_map]
    rw [List.pairwise_iff_getElem] at h3
    refine ha.imp_of_mem fun {a b} ma mb lt => ?_
    have e1 : ps.getD a [] = ps[a]'(hi a ma) := by simp [List.getD, hi a ma]
    have e2 : ps.getD b [] = ps[b]'(hi b mb) := by simp [List.getD, hi b mb]
    rw [e1, e2]
    exact h3 a b _ _ lt
end
end Q
namespace Q
open DL PySem PySem.Spec PyProof.Rows
abbrev ixA (as : List Int) : D := .tup (as.map .int)
section
variable {n : Nat} {ps : List (List Int)} {as : List Int} {ks : List Nat}
def inRA (L : Nat) (as : List Int) : Bool := as.all fun a => decide (0 ≤ a ∧ a < L)
def ascBA (as : List Int) : Bool := (List.range (as.length - 1)).all fun t => decide (as.getD t 0 < as.getD (t + 1) 0)
theorem atI_intA {as : List Int} {t : Nat} (h : t < as.length) : gIx (ixA as) (.int (t : Int)) = some (.int (as.getD t 0)) := by
  show L2.atI (as.map D.int) (t : Int) = _
  rw [atI_nat' _ t (by rw [List.length_map]; exact h), List.getElem_map]
  simp [List.getD, h]
theorem v_checkIxs (hl : as.length ≤ 100) (ρ : En) : (Fcheck_indexes [PO n ps, ixA as]).R ρ = if inRA ps.length as = true then (if ascBA as = true then .ok .non ρ else .ex BN ρ) else .ex BN ρ := by
  have sz := szv
  have lp : ∀ (xs : List Int) (A : D) (o2 : Option D), (inRA ps.length xs = true → ∃ o2', loopL (mgName 2) mcheck_indexes_b0 (xs.map .int) [some (PO n ps), some A, o2] = .nx [some (PO n ps), some A, o2']) ∧ (inRA ps.length xs = false → ∃ ρ', loopL (mgName 2) mcheck_indexes_b0 (xs.map .int) [some (PO n ps), some A, o2] = .ex BN ρ') := by
    intro xs A
    induction xs with
    | nil => exact fun o2 => ⟨fun _ => ⟨o2, rfl⟩, fun h => nomatch h⟩
    | cons a xs ih =>
      intro o2
      have g : mgName 2 (.int a) [some (PO n ps), some A, o2] = .ok () [some (PO n ps), some A, some (.int a)] := rfl
      have vc := fun ρ => v_checkIdx (n := n) (ps := ps) a ρ
      have e : inRA ps.length (a :: xs) = (decide (0 ≤ a ∧ a < ps.length) && inRA ps.length xs) := rfl
      rw [List.map_cons, e]
      by_cases c : 0 ≤ a ∧ a < ps.length
      · rw [decide_eq_true c, Bool.true_and]
        have b : mcheck_indexes_b0 [some (PO n ps), some A, some (.int a)] = .nx [some (PO n ps), some A, some (.int a)] := by
          have vc := fun ρ => (vc ρ).trans (if_pos c)
          generalize PO n ps = P at *
          simp -implicitDefEqProofs [mcheck_indexes_b0, mCall_R, vc]
        rw [loop_step g b]
        exact ih (some (.int a))
      · rw [decide_eq_false c, Bool.false_and]
        refine ⟨(fun h => by cases h), fun _ => ⟨[some (PO n ps), some A, some (.int a)], ?_⟩⟩
        have b : mcheck_indexes_b0 [some (PO n ps), some A, some (.int a)] = .ex BN [some (PO n ps), some A, some (.int a)] := by
          have vc := fun ρ => (vc ρ).trans (if_neg c)
          generalize PO n ps = P at *
          simp -implicitDefEqProofs [mcheck_indexes_b0, mCall_R, vc]
        simp only [loopL, g, b]
  obtain ⟨l1, l2⟩ := lp as (ixA as) none
  have fin : ∀ r : Out, mcheck_indexes [some (PO n ps), some (ixA as), none] = r → (Fcheck_indexes [PO n ps, ixA as]).R ρ = (match r with | .nx _ => .ok .non ρ | .ex x _ => .ex x ρ | .rt d _ => .ok d ρ | _ => .bad) := by
    intro r h
    show (runM 3 2 [] false mcheck_indexes [PO n ps, ixA as]).R ρ = _
    have : pad 3 [PO n ps, ixA as] = [some (PO n ps), some (ixA as), none] := rfl
    unfold runM
    have hl : ([PO n ps, ixA as] ++ ([] : List D)).length = 2 := rfl
    rw [if_pos hl, List.append_nil, this, h]
    cases r <;> rfl
  cases c1 : inRA ps.length as with
  | false =>
    obtain ⟨ρ', e⟩ := l2 c1
    rw [fin (.ex BN ρ') (by
      unfold mcheck_indexes
      have gi : gIter (ixA as) = some (as.map .int) := rfl
      have : msFor (mIter (mVar 1)) (mgName 2) mcheck_indexes_b0 [some (PO n ps), some (ixA as), none] = .ex BN ρ' := by
        generalize mcheck_indexes_b0 = mb at *
        generalize as.map D.int = xs at *
        generalize PO n ps = P at *
        generalize ixA as = A at *
        simp -implicitDefEqProofs [gi, e]
      rw [seq_ex this])]
    rfl
  | true =>
    obtain ⟨o2, e⟩ := l1 c1
    have a1 : msFor (mIter (mVar 1)) (mgName 2) mcheck_indexes_b0 [some (PO n ps), some (ixA as), none] = .nx [some (PO n ps), some (ixA as), o2] := by
      have gi : gIter (ixA as) = some (as.map .int) := rfl
      generalize mcheck_indexes_b0 = mb at *
      generalize as.map D.int = xs at *
      generalize PO n ps = P at *
      generalize ixA as = A at *
      simp -implicitDefEqProofs [gi, e]
    have gl : gLen [ixA as] = some (.int (as.length : Nat)) := by simp [gLen]
    have rg := range2 (a := 1) (b := as.length) (by omega) (by omega)
    rw [List.map_map] at rg
    have lc := mLc_map (as := List.range (as.length - 1)) (enc := (fun i : Nat => D.int (i : Nat)) ∘ fun i => 1 + i) (vs := [2]) (g := mgName 2) (mi := mItN gRange2 (mCons (mK (.int 1)) (mCons (mN gLen (mCons (mVar 1) mNil)) mNil))) (me := mcheck_indexes_e1) (ρ0 := [some (PO n ps), some (ixA as), o2]) (ρ := [some (PO n ps), some (ixA as), o2])
      (st := fun t => [some (PO n ps), some (ixA as), some (.int ((1 + t : Nat) : Int))]) (f := fun t => D.bl (decide (as.getD t 0 < as.getD (t + 1) 0)))
      (by
        generalize (List.range (as.length - 1)).map ((fun i : Nat => D.int (i : Nat)) ∘ fun i => 1 + i) = RL at *
        generalize PO n ps = P at *
        generalize ixA as = A at *
        have rg : gRange2 [.int 1, .int (as.length : Nat)] = some RL := rg
        simp -implicitDefEqProofs [gl, rg]) (by rw [List.length_range]; omega) (fun _ => rfl) (fun _ _ => rfl) (fun t ht => by
        have ht := List.mem_range.mp ht
        have i1 := atI_intA (as := as) (t := t) (by omega)
        have i2 := atI_intA (as := as) (t := t + 1) (by omega)
        have c1 : ((1 + t : Nat) : Int) - 1 = (t : Int) := by omega
        have c2 : ((1 + t : Nat) : Int) = ((t + 1 : Nat) : Int) := by omega
        have c3 : ((t + 1 : Nat) : Int) - 1 = (t : Int) := by omega
        rw [c2]
        generalize as.getD t 0 = x at *
        generalize as.getD (t + 1) 0 = y at *
        generalize ixA as = A at *
        generalize PO n ps = P at *
        generalize ((t + 1 : Nat) : Int) = z at *
        simp -implicitDefEqProofs [mcheck_indexes_e1, i1, i2, c3])
    have ga := gAll_map (fun t => decide (as.getD t 0 < as.getD (t + 1) 0)) (List.range (as.length - 1))
    have eb : (List.range (as.length - 1)).all (fun t => decide (as.getD t 0 < as.getD (t + 1) 0)) = ascBA as := rfl
    rw [eb] at ga
    cases c2 : ascBA as with
    | true =>
      rw [c2] at ga
      rw [fin (.nx [some (PO n ps), some (ixA as), o2]) (by
        unfold mcheck_indexes
        rw [seq_nx a1]
        generalize D.lst ((List.range (as.length - 1)).map fun t => D.bl (decide (as.getD t 0 < as.getD (t + 1) 0))) = AL at *
        generalize PO n ps = P at *
        generalize ixA as = A at *
        simp -implicitDefEqProofs [lc, ga])]
      rfl
    | false =>
      rw [c2] at ga
      rw [fin (.ex BN [some (PO n ps), some (ixA as), o2]) (by
        unfold mcheck_indexes
        rw [seq_nx a1]
        generalize D.lst ((List.range (as.length - 1)).map fun t => D.bl (decide (as.getD t 0 < as.getD (t + 1) 0))) = AL at *
        generalize PO n ps = P at *
        generalize ixA as = A at *
        simp -implicitDefEqProofs [lc, ga])]
      rfl
theorem v_onlyBad (hl : as.length ≤ 100) (h : (inRA ps.length as && ascBA as) = false) (ρ : En) : (FPlanes_only [PO n ps, ixA as]).R ρ = .ex BN ρ := by
  have v : ∀ ρ, (Fcheck_indexes [PO n ps, ixA as]).R ρ = .ex BN ρ := fun ρ => by
    rw [v_checkIxs hl]
    cases c1 : inRA ps.length as with
    | false => rw [if_neg (by decide)]
    | true =>
      rw [c1, Bool.true_and] at h
      rw [if_pos rfl, h, if_neg (by decide)]
  generalize ixA as = A at *
  generalize PO n ps = P at *
  simp -implicitDefEqProofs [FPlanes_only, runM, mPlanes_only, pad, mCall_R, v]
theorem tix_ixA (ix : List Nat) : tix ix = ixA (ix.map fun i : Nat => (i : Int)) := by
  show D.tup (ix.map fun i => D.int (i : Nat)) = D.tup ((ix.map fun i : Nat => (i : Int)).map D.int)
  rw [List.map_map]
  rfl
theorem onlyOk {ix : List Nat} (ha : ix.Pairwise (· < ·)) (hi : ∀ a ∈ ix, a < ps.length) : inRA ps.length (ix.map fun i : Nat => (i : Int)) = true ∧ ascBA (ix.map fun i : Nat => (i : Int)) = true := by
  refine ⟨List.all_eq_true.mpr fun a h => ?_, List.all_eq_true.mpr fun t h => ?_⟩
  · obtain ⟨i, hm, rfl⟩ := List.mem_map.mp h
    have := hi i hm
    exact decide_eq_true ⟨by omega, by omega⟩
  · have ht := List.mem_range.mp h
    rw [List.length_map] at ht
    rw [List.pairwise_iff_getElem] at ha
    have := ha t (t + 1) (by omega) (by omega) (by omega)
    refine decide_eq_true ?_
    have e : ∀ k (hk : k < ix.length), (ix.map fun i : Nat => (i : Int)).getD k 0 = ((ix[k] : Nat) : Int) := fun k hk => by simp [List.getD, hk]
    rw [e t (by omega), e (t + 1) (by omega)]
    omega
theorem v_onlyP (h : okPls n ps = true) (h1 : 1 ≤ n) (h4 : n ≤ 4) {ix : List Nat} (ha : ix.Pairwise (· < ·)) (hi : ∀ a ∈ ix, a < ps.length) : ∃ o, FPlanes_only [PO n ps, tix ix] = .rt (PO n (ix.map fun a => ps.getD a [])) o := by
  have sz := szv
  have hl := ok_len h
  have il := asc_len ix 0 ha fun a h => ⟨Nat.zero_le _, hi a h⟩
  obtain ⟨c1, c2⟩ := onlyOk ha hi
  have v := fun ρ => v_checkIxs (n := n) (ps := ps) (as := ix.map fun i : Nat => (i : Int)) (by rw [List.length_map]; omega) ρ
  simp only [c1, c2, if_true] at v
  rw [← tix_ixA] at v
  have ok' := only_ok h ha hi
  have f := fld_n (n := n) (ps := ps)
  have f2 := fld_kept (n := n) (ps := ps)
  have lc := mLc_map (as := ix) (enc := fun i => D.int (i : Nat)) (vs := [2]) (g := mgName 2) (mi := mIter (mVar 1)) (me := mPlanes_only_e0) (ρ0 := [some (PO n ps), some (tix ix), none]) (ρ := [some (PO n ps), some (tix ix), none])
    (st := fun a => [some (PO n ps), some (tix ix), some (.int (a : Nat))]) (f := fun a => pl (ps.getD a [])) rfl (by omega) (fun _ => rfl) (fun _ _ => rfl) (fun a hm => by
      have ix1 := ixP (hi a hm) (Sq.tup (ps.map pl))
      generalize pl (ps.getD a []) = PP at *
      generalize D.tup (ps.map pl) = T at *
      generalize tix ix = I at *
      generalize PO n ps = P at *
      simp -implicitDefEqProofs [mPlanes_only_e0, f2, ix1])
  have em : ix.map (fun a => pl (ps.getD a [])) = (ix.map fun a => ps.getD a []).map pl := by rw [List.map_map]; rfl
  rw [em] at lc
  have mk := v_make (n := ((n : Nat) : Int)) (ps := ix.map fun a => ps.getD a []) (Sq.lst ((ix.map fun a => ps.getD a []).map pl)) (sm_ok ok' (by omega)) (args := mCons (m1 (gFld (isC ["Planes"]) "n") (mVar 0)) (mCons (mLc [2] (mIter (mVar 1)) (mgName 2) mYes mPlanes_only_e0) mNil))
    (ρ := [some (PO n ps), some (tix ix), none]) (ρ1 := [some (PO n ps), some (tix ix), none]) (by
      generalize (ix.map fun a => ps.getD a []).map pl = R at *
      generalize tix ix = I at *
      generalize PO n ps = P at *
      generalize mLc [2] (mIter (mVar 1)) (mgName 2) mYes mPlanes_only_e0 = mL at *
      simp -implicitDefEqProofs [f, lc])
  rw [if_pos ⟨by omega, by omega⟩, Int.toNat_natCast, if_pos ok'] at mk
  have e : mPlanes_only [some (PO n ps), some (tix ix), none] = .rt (PO n (ix.map fun a => ps.getD a [])) [some (PO n ps), some (tix ix), none] := by
    have e1 : msExpr (mCall Q.Fcheck_indexes (mCons (mVar 0) (mCons (mVar 1) mNil))) [some (PO n ps), some (tix ix), none] = .nx [some (PO n ps), some (tix ix), none] := by
      clear mk lc
      generalize tix ix = I at *
      generalize PO n ps = P at *
      simp -implicitDefEqProofs [mCall_R, v]
    unfold mPlanes_only
    rw [seq_nx e1, msRet_ap, mk]
    rfl
  exact ⟨_, runM_rt (n := 3) (np := 2) (dd := []) (ds := [PO n ps, tix ix]) rfl e⟩
end
end Q
namespace Q
open DL PySem PySem.Spec PyProof.Rows
abbrev Ev (l : List Int) (P : D) (R : List Int) (a : Nat) (kd : Int) (o5 : Option D) : En := [some (dl l), some P, some (dl R), some (.int (a : Nat)), some (.int kd), o5]
def six6 : List Int := [1000, -1000, 1001, -1001, 0, 100000000000000000000]
theorem p20 : gPow (.int 10) (.int 20) = some (.int 100000000000000000000) := by kernel_rfl
theorem six_at {j : Nat} (h : j < 6) : gIx (.lst [.int 1000, .int (-1000), .int 1001, .int (-1001), .int 0, .int 100000000000000000000]) (.int (j : Int)) = some (.int (six6.getD j 0)) ∧ (six6.getD j 0).natAbs < 2 ^ 70 := by
  rcases (by omega : j = 0 ∨ j = 1 ∨ j = 2 ∨ j = 3 ∨ j = 4 ∨ j = 5) with rfl | rfl | rfl | rfl | rfl | rfl <;> exact ⟨rfl, by decide⟩
section
variable {p : List Int} {k : Nat} {P : D}
theorem k0_go (hk : 70 ≤ k) (hp : ∀ a ∈ p, a.natAbs < 2 ^ k) {a : Nat} (ha : a < p.length) (l : List Int) : ∃ r : List Int, m_law_spoilt_v3_s4 (Ev l P p a 0 none) = .nx (Ev l.dropLast P r a 0 none) ∧ r.length = p.length ∧ ∀ z ∈ r, z.natAbs < 2 ^ (k + 3) := by
  have sz := szv
  have f6 := fm_rng (drawI l) (m := 6) (by decide)
  obtain ⟨j, hj⟩ : ∃ j : Nat, (drawI l).fmod 6 = (j : Int) := ⟨((drawI l).fmod 6).toNat, by omega⟩
  obtain ⟨s1, s2⟩ := six_at (j := j) (by omega)
  have gs := gSet_dl ha (six6.getD j 0)
  have pw := p20
  refine ⟨p.set a (six6.getD j 0), ?_, List.length_set, fun z hz => ?_⟩
  · generalize hN : six6.getD j 0 = N at *
    obtain ⟨L, hL⟩ : ∃ L, dl p = .lst L := ⟨_, rfl⟩
    obtain ⟨L2, hL2⟩ : ∃ L2, dl (p.set a N) = .lst L2 := ⟨_, rfl⟩
    rw [hL, hL2] at gs
    unfold Ev
    rw [hL, hL2]
    simp -implicitDefEqProofs [m_law_spoilt_v3_s4, pw, io_next, gMod_p, hj, s1, mgSub, getO_ap, gs, show 6 ≤ sizeLine by omega]
  · rcases List.mem_or_eq_of_mem_set hz with h | h
    · exact sm_up (hp z h) (by omega)
    · rw [h]; exact sm_up s2 (by omega)
theorem k5_go (hk : 70 ≤ k) (hp : ∀ a ∈ p, a.natAbs < 2 ^ k) {a : Nat} (ha : a < p.length) {kd : Int} (h0 : kd ≠ 0) (h1 : kd ≠ 1) (h2 : kd ≠ 2) (h3 : kd ≠ 3) (h4 : kd ≠ 4) (l : List Int) : ∃ r : List Int, m_law_spoilt_v3_s4 (Ev l P p a kd none) = .nx (Ev l.dropLast P r a kd none) ∧ r.length = p.length ∧ ∀ z ∈ r, z.natAbs < 2 ^ (k + 3) := by
  have f9 := fm_rng (drawI l) (m := 9) (by decide)
  have gs := gSet_dl ha ((drawI l).fmod 9 - 4)
  refine ⟨p.set a ((drawI l).fmod 9 - 4), ?_, List.length_set, fun z hz => ?_⟩
  · obtain ⟨L, hL⟩ : ∃ L, dl p = .lst L := ⟨_, rfl⟩
    obtain ⟨L2, hL2⟩ : ∃ L2, dl (p.set a ((drawI l).fmod 9 - 4)) = .lst L2 := ⟨_, rfl⟩
    rw [hL, hL2] at gs
    unfold Ev
    rw [hL, hL2]
    simp -implicitDefEqProofs [m_law_spoilt_v3_s4, h0, h1, h2, h3, h4, io_next, gMod_p, mgSub, getO_ap, gs]
  · rcases List.mem_or_eq_of_mem_set hz with h | h
    · exact sm_up (hp z h) (by omega)
    · rw [h]
      have : ((drawI l).fmod 9 - 4).natAbs < 2 ^ 4 := by omega
      exact sm_up this (by omega)
theorem k2_go (hk : 70 ≤ k) (hl : p.length ≤ 1000) (hp : ∀ a ∈ p, a.natAbs < 2 ^ k) {a : Nat} (l : List Int) : ∃ r : List Int, m_law_spoilt_v3_s4 (Ev l P p a 2 none) = .nx (Ev l.dropLast P r a 2 none) ∧ r.length = p.length + 1 ∧ ∀ z ∈ r, z.natAbs < 2 ^ (k + 3) := by
  have sz := szv
  have f3 := fm_rng (drawI l) (m := 3) (by decide)
  have ga : gAppend (p.map D.int) [.int ((drawI l).fmod 3)] = some (.non, (p ++ [(drawI l).fmod 3]).map D.int) := by
    have : (p.map D.int).length < sizeLine := by rw [List.length_map]; omega
    show (if _ then _ else _) = _
    rw [if_pos this]
    simp
  refine ⟨p ++ [(drawI l).fmod 3], ?_, by simp, fun z hz => ?_⟩
  · unfold Ev
    show m_law_spoilt_v3_s4 [some (dl l), some P, some (.lst (p.map D.int)), some (.int (a : Nat)), some (.int 2), none] = .nx [some (dl l.dropLast), some P, some (.lst ((p ++ [(drawI l).fmod 3]).map D.int)), some (.int (a : Nat)), some (.int 2), none]
    generalize (p ++ [(drawI l).fmod 3]).map D.int = L2 at *
    generalize p.map D.int = L at *
    simp -implicitDefEqProofs [m_law_spoilt_v3_s4, io_next, gMod_p, mOM, getO_ap, ga]
  · rcases List.mem_append.mp hz with h | h
    · exact sm_up (hp z h) (by omega)
    · rw [List.mem_singleton.mp h]
      have : ((drawI l).fmod 3).natAbs < 2 ^ 2 := by omega
      exact sm_up this (by omega)
theorem seqIx {a L : Nat} (h : a < L) : seqIndex? (a : Int) L = some a := by
  unfold seqIndex?
  simp
  omega
theorem erase_map (f : Int → D) : ∀ (l : List Int) (i : Nat), (l.map f).eraseIdx i = (l.eraseIdx i).map f
  | [], _ => rfl
  | _ :: _, 0 => rfl
  | a :: l, i + 1 => by
    show f a :: (l.map f).eraseIdx i = f a :: (l.eraseIdx i).map f
    rw [erase_map f l i]
theorem pop_at {a : Nat} (ha : a < p.length) (hl : p.length ≤ 1000) : ∃ z, gPop (p.map D.int) [.int (a : Nat)] = some (z, (p.eraseIdx a).map D.int) := by
  refine ⟨.int p[a], ?_⟩
  have c : -(2 ^ 63) ≤ ((a : Nat) : Int) ∧ ((a : Nat) : Int) < 2 ^ 63 := ⟨by omega, by omega⟩
  have s : seqIndex? ((a : Nat) : Int) (p.map D.int).length = some a := by rw [List.length_map]; exact seqIx ha
  have g : (p.map D.int)[a]? = some (.int p[a]) := by rw [List.getElem?_map, List.getElem?_eq_getElem ha]; rfl
  unfold gPop
  simp only [if_pos c, s, Option.bind_some, g, Option.map_some, erase_map]
end
end Q
namespace Q
open DL PySem PySem.Spec PyProof.Rows
section
variable {p : List Int} {k : Nat} {P : D}
theorem mOM_go {g : List D → List D → Option (D × List D)} {j : Nat} {args : MA} {ρ ρ1 : En} {L ds cs cs2 : List D} {z : D} (h0 : getO ρ j = some (.lst L)) (h1 : args ρ = .ok ds ρ1) (h2 : getO ρ1 j = some (.lst cs)) (h3 : g cs ds = some (z, cs2)) : mOM g j args ρ = .ok z (ρ1.set j (some (.lst cs2))) := by
  unfold mOM
  rw [h0]
  show R.bind (args ρ) _ = _
  rw [h1, bind_ok, h2]
  show (match g cs ds with | some (z, cs') => _ | none => _) = _
  rw [h3]
theorem k3_go (hk : 70 ≤ k) (hp : ∀ a ∈ p, a.natAbs < 2 ^ k) {a : Nat} (ha : a < p.length) (hl : p.length ≤ 1000) (l : List Int) : ∃ r : List Int, m_law_spoilt_v3_s4 (Ev l P p a 3 none) = .nx (Ev l P r a 3 none) ∧ r.length + 1 = p.length ∧ ∀ z ∈ r, z.natAbs < 2 ^ (k + 3) := by
  obtain ⟨zz, gp⟩ := pop_at ha hl
  refine ⟨p.eraseIdx a, ?_, by rw [List.length_eraseIdx_of_lt ha]; omega, fun z hz => sm_up (hp z (List.mem_of_mem_eraseIdx hz)) (by omega)⟩
  have e0 : m_law_spoilt_v3_s4 (Ev l P p a 3 none) = msExpr (mOM gPop 2 (mCons (mVar 3) mNil)) (Ev l P p a 3 none) := by
    unfold m_law_spoilt_v3_s4 Ev
    generalize msExpr (mOM gPop 2 (mCons (mVar 3) mNil)) = B3
    generalize dl p = L
    simp -implicitDefEqProofs
  rw [e0]
  show obind (mOM gPop 2 (mCons (mVar 3) mNil) (Ev l P p a 3 none)) _ = _
  rw [mOM_go (args := mCons (mVar 3) mNil) (L := p.map D.int) (cs := p.map D.int) (ds := [.int (a : Nat)]) (ρ1 := Ev l P p a 3 none) rfl rfl rfl gp]
  rfl
theorem k4_go (hk : 70 ≤ k) {a : Nat} (h1 : 1 ≤ p.length) (hl : p.length ≤ 1000) (l : List Int) : ∃ r : List Int, m_law_spoilt_v3_s4 (Ev l P p a 4 none) = .nx (Ev l P r a 4 none) ∧ r.length = p.length ∧ ∀ z ∈ r, z.natAbs < 2 ^ (k + 3) := by
  have sz := szv
  have gl : gLen [.lst (p.map D.int)] = some (.int (p.length : Nat)) := by
    show some (D.int _) = _
    rw [List.length_map]
  have gm := gMul_rep (.int 0) (n := p.length - 1) (by omega)
  have e1 : ((p.length - 1 : Nat) : Int) = (p.length : Int) - 1 := by omega
  rw [e1] at gm
  have ga : gAdd (.lst (List.replicate (p.length - 1) (D.int 0))) (.lst [.int 1]) = some (.lst ((List.replicate (p.length - 1) (0 : Int) ++ [1]).map D.int)) := by
    show (if (List.replicate (p.length - 1) (D.int 0)).length + 1 ≤ sizeLine then some (D.lst (List.replicate (p.length - 1) (D.int 0) ++ [.int 1])) else none) = _
    rw [if_pos (by rw [List.length_replicate]; omega)]
    simp
  refine ⟨List.replicate (p.length - 1) 0 ++ [1], ?_, by simp; omega, fun z hz => ?_⟩
  · unfold Ev
    show m_law_spoilt_v3_s4 [some (dl l), some P, some (.lst (p.map D.int)), some (.int (a : Nat)), some (.int 4), none] = .nx [some (dl l), some P, some (.lst ((List.replicate (p.length - 1) (0 : Int) ++ [1]).map D.int)), some (.int (a : Nat)), some (.int 4), none]
    generalize (List.replicate (p.length - 1) (0 : Int) ++ [1]).map D.int = L2 at *
    generalize List.replicate (p.length - 1) (D.int 0) = Z at *
    generalize p.map D.int = L at *
    generalize (p.length : Int) = pi at *
    simp -implicitDefEqProofs [m_law_spoilt_v3_s4, m2F, mNO, getO_ap, gl, gm, ga, isL, show 1 ≤ sizeLine by omega]
  · rcases List.mem_append.mp hz with h | h
    · rw [List.eq_of_mem_replicate h]
      exact Nat.two_pow_pos _
    · rw [List.mem_singleton.mp h]
      exact Nat.one_lt_two_pow (by omega)
theorem k1_lc (hk2 : k ≤ 1000) (A K5 R : D) : ∀ (xs : List Int) (l : List Int) (o5 : Option D), (∀ a ∈ xs, a.natAbs < 2 ^ k) →
    ∃ (r l' : List Int) (o5' : Option D), lcLoop [5] (mgName 5) mYes m_law_spoilt_v3_e3 (xs.map D.int) [some (dl l), some P, some R, some A, some K5, o5] = .ok (r.map D.int) [some (dl l'), some P, some R, some A, some K5, o5'] ∧ r.length = xs.length ∧ ∀ z ∈ r, z.natAbs < 2 ^ (k + 3)
  | [], l, o5, _ => ⟨[], l, o5, rfl, rfl, fun z h => nomatch h⟩
  | x :: xs, l, o5, h => by
    have f3 := fm_rng (drawI l) (m := 3) (by decide)
    have hb : (2 + (drawI l).fmod 3).natAbs < 2 ^ 3 := by omega
    have gm := mulS (a := x) (b := 2 + (drawI l).fmod 3) (h x List.mem_cons_self) hb (by omega)
    obtain ⟨r, l', o5', e, e2, e3⟩ := k1_lc hk2 A K5 R xs l.dropLast (some (.int x)) fun z hz => h z (List.mem_cons_of_mem _ hz)
    refine ⟨x * (2 + (drawI l).fmod 3) :: r, l', o5', ?_, by rw [List.length_cons, List.length_cons, e2], fun z hz => ?_⟩
    · have w : wipeE [some (dl l), some P, some R, some A, some K5, o5] [5] = [some (dl l), some P, some R, some A, some K5, none] := rfl
      have g1 : mgName 5 (.int x) [some (dl l), some P, some R, some A, some K5, none] = .ok () [some (dl l), some P, some R, some A, some K5, some (.int x)] := rfl
      have hY : mYes [some (dl l), some P, some R, some A, some K5, some (.int x)] = .ok true [some (dl l), some P, some R, some A, some K5, some (.int x)] := rfl
      have he : m_law_spoilt_v3_e3 [some (dl l), some P, some R, some A, some K5, some (.int x)] = .ok (.int (x * (2 + (drawI l).fmod 3))) [some (dl l.dropLast), some P, some R, some A, some K5, some (.int x)] := by
        simp -implicitDefEqProofs [m_law_spoilt_v3_e3, io_next, gMod_p, gm]
      rw [List.map_cons]
      simp only [lcLoop, w, g1, hY, he, e, List.map_cons]
    · rcases List.mem_cons.mp hz with rfl | hz
      · exact sm_mul (h x List.mem_cons_self) hb
      · exact e3 z hz
theorem k1_go (hk : 70 ≤ k) (hk2 : k ≤ 1000) (hl : p.length ≤ 1000) (hp : ∀ a ∈ p, a.natAbs < 2 ^ k) {a : Nat} (l : List Int) : ∃ (r l' : List Int), m_law_spoilt_v3_s4 (Ev l P p a 1 none) = .nx (Ev l' P r a 1 none) ∧ r.length = p.length ∧ ∀ z ∈ r, z.natAbs < 2 ^ (k + 3) := by
  have sz := szv
  obtain ⟨r, l', o5', e, e2, e3⟩ := k1_lc (P := P) hk2 (.int (a : Nat)) (.int 1) (dl p) p l none hp
  refine ⟨r, l', ?_, e2, e3⟩
  have lc : mLc [5] (mIter (mVar 2)) (mgName 5) mYes m_law_spoilt_v3_e3 (Ev l P p a 1 none) = .ok (.lst (r.map D.int)) (Ev l' P p a 1 none) := by
    have hi : mIter (mVar 2) (Ev l P p a 1 none) = .ok (p.map D.int) (Ev l P p a 1 none) := rfl
    rw [mLc_ap, hi, bind_ok]
    unfold Ev
    rw [e]
    show (if (r.map D.int).length ≤ sizeLine then R.ok (D.lst (r.map D.int)) _ else R.bad) = _
    rw [if_pos (by rw [List.length_map]; omega)]
    rfl
  show _ = Out.nx [some (dl l'), some P, some (.lst (r.map D.int)), some (.int (a : Nat)), some (.int 1), none]
  unfold Ev at lc ⊢
  generalize r.map D.int = L2 at *
  generalize dl p = L at *
  unfold m_law_spoilt_v3_s4
  generalize mLc [5] (mIter (mVar 2)) (mgName 5) mYes m_law_spoilt_v3_e3 = mL at *
  simp -implicitDefEqProofs [lc]
end
end Q
namespace Q
open DL PySem PySem.Spec PyProof.Rows
theorem v_spoilt3 {p : List Int} {k : Nat} (hk : 70 ≤ k) (hk2 : k ≤ 1000) (h1 : 1 ≤ p.length) (hl : p.length ≤ 100) (hp : ∀ a ∈ p, a.natAbs < 2 ^ k) (l : List Int) : ∃ r l' : List Int, F_law_spoilt_v3 [dl l, pl p] = .rt (pl r) (dl l') ∧ r.length ≤ p.length + 1 ∧ p.length ≤ r.length + 1 ∧ ∀ z ∈ r, z.natAbs < 2 ^ (k + 3) := by
  have sz := szv
  have f6 := fm_rng (drawI l.dropLast) (m := 6) (by decide)
  have fl := fm_rng (drawI l) (m := (p.length : Int)) (by omega)
  obtain ⟨a, ha⟩ : ∃ a : Nat, (drawI l).fmod (p.length : Int) = (a : Int) := ⟨((drawI l).fmod (p.length : Int)).toNat, by omega⟩
  have hap : a < p.length := by omega
  have e0 : m_law_spoilt_v3_s0 [some (dl l), some (pl p), none, none, none, none] = .nx [some (dl l), some (pl p), some (dl p), none, none, none] := by
    have gl : gList [pl p] = some (dl p) := rfl
    obtain ⟨L, hL⟩ : ∃ L, dl p = .lst L := ⟨_, rfl⟩
    rw [hL] at gl ⊢
    generalize pl p = P at *
    generalize hD : dl l = DL at *
    simp -implicitDefEqProofs [m_law_spoilt_v3_s0, mNF, isL, gl]
  have e1 : m_law_spoilt_v3_s1 [some (dl l), some (pl p), some (dl p), none, none, none] = .nx [some (dl l.dropLast), some (pl p), some (dl p), some (.int (a : Nat)), none, none] := by
    have gm := gMod_p (drawI l) (m := (p.length : Int)) (by omega)
    rw [ha] at gm
    have gl : gLen [dl p] = some (.int (p.length : Nat)) := by show some (D.int _) = _; rw [List.length_map]
    obtain ⟨L, hL⟩ : ∃ L, dl p = .lst L := ⟨_, rfl⟩
    rw [hL] at gl ⊢
    generalize pl p = P at *
    generalize (p.length : Int) = pi at *
    simp -implicitDefEqProofs [m_law_spoilt_v3_s1, io_next, mNO, getO_ap, gl, gm]
  have e2 : m_law_spoilt_v3_s2 [some (dl l.dropLast), some (pl p), some (dl p), some (.int (a : Nat)), none, none] = .nx (Ev l.dropLast.dropLast (pl p) p a ((drawI l.dropLast).fmod 6) none) := by
    have gm := gMod_p (drawI l.dropLast) (m := 6) (by decide)
    unfold Ev
    generalize dl p = L at *
    generalize pl p = P at *
    simp -implicitDefEqProofs [m_law_spoilt_v3_s2, io_next, gm]
  obtain ⟨r, l', e4, b1, b2, b3⟩ : ∃ r l' : List Int, m_law_spoilt_v3_s4 (Ev l.dropLast.dropLast (pl p) p a ((drawI l.dropLast).fmod 6) none) = .nx (Ev l' (pl p) r a ((drawI l.dropLast).fmod 6) none) ∧ r.length ≤ p.length + 1 ∧ p.length ≤ r.length + 1 ∧ ∀ z ∈ r, z.natAbs < 2 ^ (k + 3) := by
    generalize (drawI l.dropLast).fmod 6 = kd at *
    generalize l.dropLast.dropLast = m at *
    by_cases c0 : kd = 0
    · obtain ⟨r, e, x, y⟩ := k0_go (P := pl p) hk hp hap m
      exact ⟨r, _, by rw [c0]; exact e, by omega, by omega, y⟩
    by_cases c1 : kd = 1
    · obtain ⟨r, l', e, x, y⟩ := k1_go (P := pl p) hk hk2 (by omega) hp (a := a) m
      exact ⟨r, _, by rw [c1]; exact e, by omega, by omega, y⟩
    by_cases c2 : kd = 2
    · obtain ⟨r, e, x, y⟩ := k2_go (P := pl p) hk (by omega) hp (a := a) m
      exact ⟨r, _, by rw [c2]; exact e, by omega, by omega, y⟩
    by_cases c3 : kd = 3
    · obtain ⟨r, e, x, y⟩ := k3_go (P := pl p) hk hp hap (by omega) m
      exact ⟨r, _, by rw [c3]; exact e, by omega, by omega, y⟩
    by_cases c4 : kd = 4
    · obtain ⟨r, e, x, y⟩ := k4_go (P := pl p) hk (a := a) h1 (by omega) m
      exact ⟨r, _, by rw [c4]; exact e, by omega, by omega, y⟩
    obtain ⟨r, e, x, y⟩ := k5_go (P := pl p) hk hp hap c0 c1 c2 c3 c4 m
    exact ⟨r, _, e, by omega, by omega, y⟩
  refine ⟨r, l', ?_, b1, b2, b3⟩
  have e5 : (msRet (mNO gTuple 2)) (Ev l' (pl p) r a ((drawI l.dropLast).fmod 6) none) = .rt (pl r) (Ev l' (pl p) r a ((drawI l.dropLast).fmod 6) none) := by
    have gt : gTuple [dl r] = some (pl r) := rfl
    unfold Ev
    obtain ⟨L, hL⟩ : ∃ L, dl r = .lst L := ⟨_, rfl⟩
    rw [hL] at gt ⊢
    generalize pl r = R at *
    generalize pl p = P at *
    simp -implicitDefEqProofs [mNO, getO_ap, gt]
  have e : m_law_spoilt_v3 [some (dl l), some (pl p), none, none, none, none] = .rt (pl r) (Ev l' (pl p) r a ((drawI l.dropLast).fmod 6) none) := by
    unfold m_law_spoilt_v3
    rw [msForget_ap]
    show msSeq m_law_spoilt_v3_s0 _ [some (dl l), some (pl p), none, none, none, none] = _
    rw [seq_nx e0, seq_nx e1, seq_nx e2, seq_nx e4, e5]
  exact runM_rt (n := 6) (np := 2) (dd := []) (fr := false) (m := m_law_spoilt_v3) (ds := [dl l, pl p]) rfl e
end Q
namespace Q
open DL L2 PySem PySem.Spec PyProof.Rows
section
variable {n : Nat} {ps : List (List Int)}
def matW (ps : List (List Int)) : List (List Rat) := ps.map ratR
theorem matW_cm (hp : ∀ p ∈ ps, p.length = n + 1 ∧ ∀ a ∈ p, a.natAbs < 2 ^ 10) : Cm 1 10 (matW ps) := by
  refine ⟨by decide, by decide, fun r hr x hx => ?_⟩
  unfold matW ratR at hr
  obtain ⟨p, hp', rfl⟩ := List.mem_map.mp hr
  obtain ⟨a, ha, rfl⟩ := List.mem_map.mp hx
  exact ⟨a, by simp, (hp p hp').2 a ha⟩
theorem matW_row (hp : ∀ p ∈ ps, p.length = n + 1) {r : List Rat} (h : r ∈ matW ps) : r.length = n + 1 := by
  unfold matW ratR at h
  obtain ⟨p, hp', rfl⟩ := List.mem_map.mp h
  rw [List.length_map, hp p hp']
theorem matN_W (n : Nat) (ps : List (List Int)) : matN n ps = (matW ps).map fun r => r.take n := by
  unfold matN matW ratR
  rw [List.map_map]
  exact List.map_congr_left fun p _ => by simp
theorem aug_W (hp : ∀ p ∈ ps, p.length = n + 1) : aug (ps.map (eqR n)) (ps.map (eqB n)) = matW ps := by
  rw [aug_eq]
  unfold matW
  refine List.map_congr_left fun p h => ?_
  obtain ⟨x, b, hx, rfl⟩ := split_p (hp p h)
  unfold eqR eqB ratR
  rw [take_x hx, getD_x hx, List.map_append]
  rfl
def rkN (n : Nat) (ps : List (List Int)) : Nat := (red n (matN n ps)).2.length
def rkW (n : Nat) (ps : List (List Int)) : Nat := (red (n + 1) (matW ps)).2.length
theorem v_centralP (hp : ∀ p ∈ ps, Pi 5 n p) (hn : n ≤ 4) (hl : ps.length ≤ 12) : FPlanes_is_central [PO n ps] = .rt (.bl (decide (rkN n ps = rkW n ps))) (PO n ps) := by
  have h1 := fun p h => (hp p h).1
  have kz : kk 5 n ≤ 8000 := by
    rcases (by omega : n = 0 ∨ n = 1 ∨ n = 2 ∨ n = 3 ∨ n = 4) with rfl | rfl | rfl | rfl | rfl <;> decide
  have v := v_central hp (by omega) (by omega) (by omega) kz
  rw [aug_W h1, slv_rank (fun r hr => matW_row h1 hr)] at v
  have e : decide ((red (n + 1) (matW ps)).2.length = (red n (matW ps)).2.length) = decide (rkN n ps = rkW n ps) := by
    unfold rkN rkW
    rw [decide_eq_decide, matN_W, rank_trunc (fun r hr => matW_row h1 hr)]
    exact eq_comm
  rw [e] at v
  exact v
theorem v_lfirst (hp : ∀ p ∈ ps, Pi 5 n p) (hn : n ≤ 4) (hl : ps.length ≤ 12) : ∃ D : List (List Rat), D.length = rkN n ps ∧ D.length ≤ 12 ∧ ∀ ρ, (F_law_echelon [.int (n : Nat), tps (matN n ps)]).R ρ = .ok (tps D) ρ := by
  have hp1 := fun p h => (hp p h).1
  have hp2 : ∀ p ∈ ps, p.length = n + 1 ∧ ∀ a ∈ p, a.natAbs < 2 ^ 10 := fun p h => ⟨(hp p h).1, fun a ha => sm_up ((hp p h).2 a ha) (by omega)⟩
  have ml : (matN n ps).length = ps.length := List.length_map ..
  have rw1 := fun r (hr : r ∈ matN n ps) => matN_row hp1 hr
  refine ⟨(lech n (matN n ps)).done, lech_rank rw1, by have := lech_count (matN n ps) n; omega, fun ρ => ?_⟩
  exact v_lechelon (M := matN n ps) (ds := tps (matN n ps)) (e := frs) (W := n) (K := 400) rfl (fun r _ => .inl rfl) (by omega) (by omega) (by decide) (fun c hc => lech_lz (matN_cm hp2) rw1 (by omega) c (Nat.le_trans (cdk_mono 10 (show c ≤ 5 by omega)) (by decide))) ρ
theorem v_lwhole (hp : ∀ p ∈ ps, Pi 5 n p) (hn : n ≤ 4) (hl : ps.length ≤ 12) : ∃ D : List (List Rat), D.length = rkW n ps ∧ D.length ≤ 12 ∧ ∀ ρ, (F_law_echelon [.int ((n : Int) + 1), tps (matW ps)]).R ρ = .ok (tps D) ρ := by
  have hp1 := fun p h => (hp p h).1
  have hp2 : ∀ p ∈ ps, p.length = n + 1 ∧ ∀ a ∈ p, a.natAbs < 2 ^ 10 := fun p h => ⟨(hp p h).1, fun a ha => sm_up ((hp p h).2 a ha) (by omega)⟩
  have ml : (matW ps).length = ps.length := List.length_map ..
  have rw1 := fun r (hr : r ∈ matW ps) => matW_row hp1 hr
  refine ⟨(lech (n + 1) (matW ps)).done, lech_rank rw1, by have := lech_count (matW ps) (n + 1); omega, fun ρ => ?_⟩
  exact v_lechelon (M := matW ps) (ds := tps (matW ps)) (e := frs) (W := n + 1) (K := 400) rfl (fun r _ => .inl rfl) (by omega) (by omega) (by decide) (fun c hc => lech_lz (matW_cm hp2) rw1 (by omega) c (Nat.le_trans (cdk_mono 10 (show c ≤ 5 by omega)) (by decide))) ρ
end
end Q
namespace K05
open DL L2 PySem PySem.Spec PyProof.Rows
abbrev prog : Program := PySem.Challenge.pw_planeworth_k05_planes_and_lists
def top (i : Nat) : Stmt := prog.main.body.getD i (.Pass ⟨0, 0, 0, 0⟩)
abbrev s_law_number : Stmt := top 32
abbrev s_law_draws : Stmt := top 33
abbrev s_law_divisor : Stmt := top 35
abbrev s_law_next : Stmt := top 34
abbrev s_law_plane : Stmt := top 42
abbrev s_law_planes : Stmt := top 43
abbrev s_law_lowest : Stmt := top 36
abbrev s_law_over : Stmt := top 45
abbrev s_law_less : Stmt := top 39
abbrev s_law_times : Stmt := top 38
abbrev s_law_taken : Stmt := top 47
abbrev s_law_echelon : Stmt := top 46
abbrev s_law_numbers : Stmt := top 53
abbrev s_law_spoilt : Stmt := top 50
abbrev s_law_is_plane : Stmt := top 49
abbrev scheck_index : Stmt := top 26
abbrev scheck_indexes : Stmt := top 27
abbrev scheck_letters : Stmt := top 21
abbrev sdivisor : Stmt := top 6
abbrev sis_plane : Stmt := top 22
abbrev sother_way : Stmt := top 23
abbrev sare_planes : Stmt := top 24
abbrev sPlanes_init : Stmt := (cbody (top 25)).getD 0 (.Pass ⟨0, 0, 0, 0⟩)
abbrev sPlanes_only : Stmt := (cbody (top 25)).getD 8 (.Pass ⟨0, 0, 0, 0⟩)
abbrev sPlanes_without : Stmt := (cbody (top 25)).getD 6 (.Pass ⟨0, 0, 0, 0⟩)
abbrev sPlanes_turned : Stmt := (cbody (top 25)).getD 7 (.Pass ⟨0, 0, 0, 0⟩)
abbrev s_law_method : Stmt := top 52
abbrev sPlanes_planes : Stmt := (cbody (top 25)).getD 3 (.Pass ⟨0, 0, 0, 0⟩)
abbrev s_law_parts : Stmt := top 54
abbrev s_law_told : Stmt := top 51
abbrev s_law_lists : Stmt := top 55
abbrev sPlanes_eq : Stmt := (cbody (top 25)).getD 2 (.Pass ⟨0, 0, 0, 0⟩)
abbrev sPlanes_len : Stmt := (cbody (top 25)).getD 1 (.Pass ⟨0, 0, 0, 0⟩)
abbrev slowest : Stmt := top 7
abbrev sinverted : Stmt := top 11
abbrev smultiplied : Stmt := top 9
abbrev snegated : Stmt := top 10
abbrev ssummed : Stmt := top 8
abbrev slessened : Stmt := top 13
abbrev sreduced : Stmt := top 14
abbrev srank_of_rows : Stmt := top 15
abbrev snumbers_of : Stmt := top 28
abbrev sPlanes_rank : Stmt := (cbody (top 25)).getD 4 (.Pass ⟨0, 0, 0, 0⟩)
abbrev sequations : Stmt := top 29
abbrev ssolved : Stmt := top 16
abbrev splace_of : Stmt := top 30
abbrev sPlanes_is_central : Stmt := (cbody (top 25)).getD 5 (.Pass ⟨0, 0, 0, 0⟩)
abbrev slaw : Stmt := top 56
abbrev cMOST_ENTRY : Int := 1000
abbrev cMOST_LETTERS : Int := 4
abbrev cMOST_PLANES : Int := 12
abbrev cZERO_d : List He.Dv := [.int 0, .int 1]
abbrev cZERO : List D := [.int 0, .int 1]
theorem cZERO_rp {K : PySem.W.Frag} (A : Addr → Prop) (H : Hp) : RpA K A H (cZERO_d.map (He.Dv.v K)) cZERO := (.cons (.int _) (.cons (.int _) .nil))
structure Fc (K : PySem.W.Frag) (mg : Str → Option Value) : Prop where
  g_BadNumber : mg "BadNumber" = some (.ref (He.ga K "BadNumber"))
  g_NotPlanes : mg "NotPlanes" = some (.ref (He.ga K "NotPlanes"))
  g_PlaneError : mg "PlaneError" = some (.ref (He.ga K "PlaneError"))
  g_Planes : mg "Planes" = some (.ref (He.ga K "Planes"))
  g_ZERO : mg "ZERO" = some (.ref (He.ga K "ZERO"))
  g__law_divisor : mg "_law_divisor" = some (.ref (He.ga K "_law_divisor"))
  g__law_draws : mg "_law_draws" = some (.ref (He.ga K "_law_draws"))
  g__law_echelon : mg "_law_echelon" = some (.ref (He.ga K "_law_echelon"))
  g__law_is_plane : mg "_law_is_plane" = some (.ref (He.ga K "_law_is_plane"))
  g__law_less : mg "_law_less" = some (.ref (He.ga K "_law_less"))
  g__law_lists : mg "_law_lists" = some (.ref (He.ga K "_law_lists"))
  g__law_lowest : mg "_law_lowest" = some (.ref (He.ga K "_law_lowest"))
  g__law_method : mg "_law_method" = some (.ref (He.ga K "_law_method"))
  g__law_next : mg "_law_next" = some (.ref (He.ga K "_law_next"))
  g__law_number : mg "_law_number" = some (.ref (He.ga K "_law_number"))
  g__law_numbers : mg "_law_numbers" = some (.ref (He.ga K "_law_numbers"))
  g__law_over : mg "_law_over" = some (.ref (He.ga K "_law_over"))
  g__law_parts : mg "_law_parts" = some (.ref (He.ga K "_law_parts"))
  g__law_plane : mg "_law_plane" = some (.ref (He.ga K "_law_plane"))
  g__law_planes : mg "_law_planes" = some (.ref (He.ga K "_law_planes"))
  g__law_spoilt : mg "_law_spoilt" = some (.ref (He.ga K "_law_spoilt"))
  g__law_taken : mg "_law_taken" = some (.ref (He.ga K "_law_taken"))
  g__law_times : mg "_law_times" = some (.ref (He.ga K "_law_times"))
  g__law_told : mg "_law_told" = some (.ref (He.ga K "_law_told"))
  g_are_planes : mg "are_planes" = some (.ref (He.ga K "are_planes"))
  g_check_index : mg "check_index" = some (.ref (He.ga K "check_index"))
  g_check_indexes : mg "check_indexes" = some (.ref (He.ga K "check_indexes"))
  g_check_letters : mg "check_letters" = some (.ref (He.ga K "check_letters"))
  g_divisor : mg "divisor" = some (.ref (He.ga K "divisor"))
  g_equations : mg "equations" = some (.ref (He.ga K "equations"))
  g_inverted : mg "inverted" = some (.ref (He.ga K "inverted"))
  g_is_plane : mg "is_plane" = some (.ref (He.ga K "is_plane"))
  g_law : mg "law" = some (.ref (He.ga K "law"))
  g_lessened : mg "lessened" = some (.ref (He.ga K "lessened"))
  g_lowest : mg "lowest" = some (.ref (He.ga K "lowest"))
  g_multiplied : mg "multiplied" = some (.ref (He.ga K "multiplied"))
  g_negated : mg "negated" = some (.ref (He.ga K "negated"))
  g_numbers_of : mg "numbers_of" = some (.ref (He.ga K "numbers_of"))
  g_other_way : mg "other_way" = some (.ref (He.ga K "other_way"))
  g_place_of : mg "place_of" = some (.ref (He.ga K "place_of"))
  g_rank_of_rows : mg "rank_of_rows" = some (.ref (He.ga K "rank_of_rows"))
  g_reduced : mg "reduced" = some (.ref (He.ga K "reduced"))
  g_solved : mg "solved" = some (.ref (He.ga K "solved"))
  g_summed : mg "summed" = some (.ref (He.ga K "summed"))
  f_abs : mg "abs" = none
  f_all : mg "all" = none
  f_any : mg "any" = none
  f_enumerate : mg "enumerate" = none
  f_int : mg "int" = none
  f_isinstance : mg "isinstance" = none
  f_len : mg "len" = none
  f_list : mg "list" = none
  f_range : mg "range" = none
  f_repr : mg "repr" = none
  f_str : mg "str" = none
  f_sum : mg "sum" = none
  f_tuple : mg "tuple" = none
  f_zip : mg "zip" = none
  cl_Planes : Cls K (He.ga K "Planes")
  mk_Planes : Mk K (He.ga K "Planes") (He.ma K (He.ga K "Planes") "__init__")
  me_Planes_len : Meth K (He.ga K "Planes") "__len__" (He.ma K (He.ga K "Planes") "__len__")
  me_Planes_eq : Meth K (He.ga K "Planes") "__eq__" (He.ma K (He.ga K "Planes") "__eq__")
  me_Planes_planes : Meth K (He.ga K "Planes") "planes" (He.ma K (He.ga K "Planes") "planes")
  me_Planes_rank : Meth K (He.ga K "Planes") "rank" (He.ma K (He.ga K "Planes") "rank")
  me_Planes_is_central : Meth K (He.ga K "Planes") "is_central" (He.ma K (He.ga K "Planes") "is_central")
  me_Planes_without : Meth K (He.ga K "Planes") "without" (He.ma K (He.ga K "Planes") "without")
  me_Planes_turned : Meth K (He.ga K "Planes") "turned" (He.ma K (He.ga K "Planes") "turned")
  me_Planes_only : Meth K (He.ga K "Planes") "only" (He.ma K (He.ga K "Planes") "only")
  na_Planes_kept : NoAttr K (He.ga K "Planes") "kept"
  na_Planes_n : NoAttr K (He.ga K "Planes") "n"
  c_MOST_ENTRY : ∃ t, mg "MOST_ENTRY" = some (.int cMOST_ENTRY t)
  c_MOST_LETTERS : ∃ t, mg "MOST_LETTERS" = some (.int cMOST_LETTERS t)
  c_MOST_PLANES : ∃ t, mg "MOST_PLANES" = some (.int cMOST_PLANES t)
  e_PlaneError : ExcOk K mg "PlaneError"
  e_NotPlanes : ExcOk K mg "NotPlanes"
  e_BadNumber : ExcOk K mg "BadNumber"
  m_PlaneError_PlaneError : PySem.W.exmOne K (.ref (He.ga K "PlaneError")) (.ref (He.ga K "PlaneError")) = some true
  m_PlaneError_NotPlanes : PySem.W.exmOne K (.ref (He.ga K "NotPlanes")) (.ref (He.ga K "PlaneError")) = some true
  m_PlaneError_BadNumber : PySem.W.exmOne K (.ref (He.ga K "BadNumber")) (.ref (He.ga K "PlaneError")) = some true
  c_ZERO : He.tupB K "ZERO" cZERO_d = true
  x_PlaneError_PlaneError : ExcC K (He.ga K "PlaneError")
  x_PlaneError_NotPlanes : ExcC K (He.ga K "NotPlanes")
  x_PlaneError_BadNumber : ExcC K (He.ga K "BadNumber")
  k_PlaneError_BadNumber_PlaneError : PySem.W.kitOne K (.ref (He.ga K "PlaneError")) (.ref (He.ga K "BadNumber")) = some false
  k_PlaneError_BadNumber_NotPlanes : PySem.W.kitOne K (.ref (He.ga K "NotPlanes")) (.ref (He.ga K "BadNumber")) = some false
  k_PlaneError_BadNumber_BadNumber : PySem.W.kitOne K (.ref (He.ga K "BadNumber")) (.ref (He.ga K "BadNumber")) = some true
  k_PlaneError_NotPlanes_PlaneError : PySem.W.kitOne K (.ref (He.ga K "PlaneError")) (.ref (He.ga K "NotPlanes")) = some false
  k_PlaneError_NotPlanes_NotPlanes : PySem.W.kitOne K (.ref (He.ga K "NotPlanes")) (.ref (He.ga K "NotPlanes")) = some true
  k_PlaneError_NotPlanes_BadNumber : PySem.W.kitOne K (.ref (He.ga K "BadNumber")) (.ref (He.ga K "NotPlanes")) = some false
  d__law_number : ∃ fd, FunD K "_law_number" "_law_number" (defArgs s_law_number) (defBody s_law_number) (defScope s_law_number) [] [] (He.ga K "_law_number") fd
  d__law_draws : ∃ fd, FunD K "_law_draws" "_law_draws" (defArgs s_law_draws) (defBody s_law_draws) (defScope s_law_draws) [] [] (He.ga K "_law_draws") fd
  d__law_divisor : ∃ fd, FunD K "_law_divisor" "_law_divisor" (defArgs s_law_divisor) (defBody s_law_divisor) (defScope s_law_divisor) [] [] (He.ga K "_law_divisor") fd
  d__law_next : ∃ fd, FunD K "_law_next" "_law_next" (defArgs s_law_next) (defBody s_law_next) (defScope s_law_next) [] [] (He.ga K "_law_next") fd
  d__law_plane : ∃ fd, FunD K "_law_plane" "_law_plane" (defArgs s_law_plane) (defBody s_law_plane) (defScope s_law_plane) [] [] (He.ga K "_law_plane") fd
  d__law_planes : ∃ fd, FunD K "_law_planes" "_law_planes" (defArgs s_law_planes) (defBody s_law_planes) (defScope s_law_planes) [] [] (He.ga K "_law_planes") fd
  d__law_lowest : ∃ fd, FunD K "_law_lowest" "_law_lowest" (defArgs s_law_lowest) (defBody s_law_lowest) (defScope s_law_lowest) [] [] (He.ga K "_law_lowest") fd
  d__law_over : ∃ fd, FunD K "_law_over" "_law_over" (defArgs s_law_over) (defBody s_law_over) (defScope s_law_over) [] [] (He.ga K "_law_over") fd
  d__law_less : ∃ fd, FunD K "_law_less" "_law_less" (defArgs s_law_less) (defBody s_law_less) (defScope s_law_less) [] [] (He.ga K "_law_less") fd
  d__law_times : ∃ fd, FunD K "_law_times" "_law_times" (defArgs s_law_times) (defBody s_law_times) (defScope s_law_times) [] [] (He.ga K "_law_times") fd
  d__law_taken : ∃ fd, FunD K "_law_taken" "_law_taken" (defArgs s_law_taken) (defBody s_law_taken) (defScope s_law_taken) [] [] (He.ga K "_law_taken") fd
  d__law_echelon : ∃ fd, FunD K "_law_echelon" "_law_echelon" (defArgs s_law_echelon) (defBody s_law_echelon) (defScope s_law_echelon) [] [] (He.ga K "_law_echelon") fd
  d__law_numbers : ∃ fd, FunD K "_law_numbers" "_law_numbers" (defArgs s_law_numbers) (defBody s_law_numbers) (defScope s_law_numbers) [] [] (He.ga K "_law_numbers") fd
  d__law_spoilt : ∃ fd, FunD K "_law_spoilt" "_law_spoilt" (defArgs s_law_spoilt) (defBody s_law_spoilt) (defScope s_law_spoilt) [] [] (He.ga K "_law_spoilt") fd
  d__law_is_plane : ∃ fd, FunD K "_law_is_plane" "_law_is_plane" (defArgs s_law_is_plane) (defBody s_law_is_plane) (defScope s_law_is_plane) [] [] (He.ga K "_law_is_plane") fd
  d_check_index : ∃ fd, FunD K "check_index" "check_index" (defArgs scheck_index) (defBody scheck_index) (defScope scheck_index) [] [] (He.ga K "check_index") fd
  d_check_indexes : ∃ fd, FunD K "check_indexes" "check_indexes" (defArgs scheck_indexes) (defBody scheck_indexes) (defScope scheck_indexes) [] [] (He.ga K "check_indexes") fd
  d_check_letters : ∃ fd, FunD K "check_letters" "check_letters" (defArgs scheck_letters) (defBody scheck_letters) (defScope scheck_letters) [] [] (He.ga K "check_letters") fd
  d_divisor : ∃ fd, FunD K "divisor" "divisor" (defArgs sdivisor) (defBody sdivisor) (defScope sdivisor) [] [] (He.ga K "divisor") fd
  d_is_plane : ∃ fd, FunD K "is_plane" "is_plane" (defArgs sis_plane) (defBody sis_plane) (defScope sis_plane) [] [] (He.ga K "is_plane") fd
  d_other_way : ∃ fd, FunD K "other_way" "other_way" (defArgs sother_way) (defBody sother_way) (defScope sother_way) [] [] (He.ga K "other_way") fd
  d_are_planes : ∃ fd, FunD K "are_planes" "are_planes" (defArgs sare_planes) (defBody sare_planes) (defScope sare_planes) [] [] (He.ga K "are_planes") fd
  d_Planes_init : ∃ fd, FunD K "__init__" "Planes.__init__" (defArgs sPlanes_init) (defBody sPlanes_init) (defScope sPlanes_init) [] [] (He.ma K (He.ga K "Planes") "__init__") fd
  d_Planes_only : ∃ fd, FunD K "only" "Planes.only" (defArgs sPlanes_only) (defBody sPlanes_only) (defScope sPlanes_only) [] [] (He.ma K (He.ga K "Planes") "only") fd
  d_Planes_without : ∃ fd, FunD K "without" "Planes.without" (defArgs sPlanes_without) (defBody sPlanes_without) (defScope sPlanes_without) [] [] (He.ma K (He.ga K "Planes") "without") fd
  d_Planes_turned : ∃ fd, FunD K "turned" "Planes.turned" (defArgs sPlanes_turned) (defBody sPlanes_turned) (defScope sPlanes_turned) [] [] (He.ma K (He.ga K "Planes") "turned") fd
  d__law_method : ∃ fd, FunD K "_law_method" "_law_method" (defArgs s_law_method) (defBody s_law_method) (defScope s_law_method) [] [] (He.ga K "_law_method") fd
  d_Planes_planes : ∃ fd, FunD K "planes" "Planes.planes" (defArgs sPlanes_planes) (defBody sPlanes_planes) (defScope sPlanes_planes) [] [] (He.ma K (He.ga K "Planes") "planes") fd
  d__law_parts : ∃ fd, FunD K "_law_parts" "_law_parts" (defArgs s_law_parts) (defBody s_law_parts) (defScope s_law_parts) [] [] (He.ga K "_law_parts") fd
  d__law_told : ∃ fd, FunD K "_law_told" "_law_told" (defArgs s_law_told) (defBody s_law_told) (defScope s_law_told) [] [] (He.ga K "_law_told") fd
  d__law_lists : ∃ fd, FunD K "_law_lists" "_law_lists" (defArgs s_law_lists) (defBody s_law_lists) (defScope s_law_lists) [] [] (He.ga K "_law_lists") fd
  d_Planes_eq : ∃ fd, FunD K "__eq__" "Planes.__eq__" (defArgs sPlanes_eq) (defBody sPlanes_eq) (defScope sPlanes_eq) [] [] (He.ma K (He.ga K "Planes") "__eq__") fd
  d_Planes_len : ∃ fd, FunD K "__len__" "Planes.__len__" (defArgs sPlanes_len) (defBody sPlanes_len) (defScope sPlanes_len) [] [] (He.ma K (He.ga K "Planes") "__len__") fd
  d_lowest : ∃ fd, FunD K "lowest" "lowest" (defArgs slowest) (defBody slowest) (defScope slowest) [] [] (He.ga K "lowest") fd
  d_inverted : ∃ fd, FunD K "inverted" "inverted" (defArgs sinverted) (defBody sinverted) (defScope sinverted) [] [] (He.ga K "inverted") fd
  d_multiplied : ∃ fd, FunD K "multiplied" "multiplied" (defArgs smultiplied) (defBody smultiplied) (defScope smultiplied) [] [] (He.ga K "multiplied") fd
  d_negated : ∃ fd, FunD K "negated" "negated" (defArgs snegated) (defBody snegated) (defScope snegated) [] [] (He.ga K "negated") fd
  d_summed : ∃ fd, FunD K "summed" "summed" (defArgs ssummed) (defBody ssummed) (defScope ssummed) [] [] (He.ga K "summed") fd
  d_lessened : ∃ fd, FunD K "lessened" "lessened" (defArgs slessened) (defBody slessened) (defScope slessened) [] [] (He.ga K "lessened") fd
  d_reduced : ∃ fd, FunD K "reduced" "reduced" (defArgs sreduced) (defBody sreduced) (defScope sreduced) [] [] (He.ga K "reduced") fd
  d_rank_of_rows : ∃ fd, FunD K "rank_of_rows" "rank_of_rows" (defArgs srank_of_rows) (defBody srank_of_rows) (defScope srank_of_rows) [] [] (He.ga K "rank_of_rows") fd
  d_numbers_of : ∃ fd, FunD K "numbers_of" "numbers_of" (defArgs snumbers_of) (defBody snumbers_of) (defScope snumbers_of) [] [] (He.ga K "numbers_of") fd
  d_Planes_rank : ∃ fd, FunD K "rank" "Planes.rank" (defArgs sPlanes_rank) (defBody sPlanes_rank) (defScope sPlanes_rank) [] [] (He.ma K (He.ga K "Planes") "rank") fd
  d_equations : ∃ fd, FunD K "equations" "equations" (defArgs sequations) (defBody sequations) (defScope sequations) [] [] (He.ga K "equations") fd
  d_solved : ∃ fd, FunD K "solved" "solved" (defArgs ssolved) (defBody ssolved) (defScope ssolved) [] [] (He.ga K "solved") fd
  d_place_of : ∃ fd, FunD K "place_of" "place_of" (defArgs splace_of) (defBody splace_of) (defScope splace_of) [] [] (He.ga K "place_of") fd
  d_Planes_is_central : ∃ fd, FunD K "is_central" "Planes.is_central" (defArgs sPlanes_is_central) (defBody sPlanes_is_central) (defScope sPlanes_is_central) [] [] (He.ma K (He.ga K "Planes") "is_central") fd
  d_law : ∃ fd, FunD K "law" "law" (defArgs slaw) (defBody slaw) (defScope slaw) [] [] (He.ga K "law") fd
def mtPlaneError (k : Str) : Option Bool := if k = "PlaneError" then some true else if k = "NotPlanes" then some true else if k = "BadNumber" then some true else none
section
variable {K : PySem.W.Frag} {mg : Str → Option Value}
theorem mtPlaneError_ok (fc : Fc K mg) : ∀ k b, mtPlaneError k = some b → PySem.W.exmOne K (.ref (He.ga K k)) (.ref (He.ga K "PlaneError")) = some b := by
  intro k b h
  unfold mtPlaneError at h
  repeat' split at h
  · subst k; cases h; exact fc.m_PlaneError_PlaneError
  · subst k; cases h; exact fc.m_PlaneError_NotPlanes
  · subst k; cases h; exact fc.m_PlaneError_BadNumber
  · cases h
theorem mtPlaneError_ex (fc : Fc K mg) {k : Str} (h : mtPlaneError k = some true) : ExcC K (He.ga K k) := by
  unfold mtPlaneError at h
  repeat' split at h
  · subst k; exact fc.x_PlaneError_PlaneError
  · subst k; exact fc.x_PlaneError_NotPlanes
  · subst k; exact fc.x_PlaneError_BadNumber
  · cases h
end
def kBadNumber (k : Str) : Bool := decide (k = "BadNumber")
def kNotPlanes (k : Str) : Bool := decide (k = "NotPlanes")
theorem isPlaneError_BadNumber {K : PySem.W.Frag} {mg : Str → Option Value} (fc : Fc K mg) {k : Str} (h : mtPlaneError k = some true) : PySem.W.kitOne K (.ref (He.ga K k)) (.ref (He.ga K "BadNumber")) = some (kBadNumber k) := by
  unfold mtPlaneError at h
  repeat' split at h
  · subst k; exact fc.k_PlaneError_BadNumber_PlaneError
  · subst k; exact fc.k_PlaneError_BadNumber_NotPlanes
  · subst k; exact fc.k_PlaneError_BadNumber_BadNumber
  · cases h
theorem isPlaneError_NotPlanes {K : PySem.W.Frag} {mg : Str → Option Value} (fc : Fc K mg) {k : Str} (h : mtPlaneError k = some true) : PySem.W.kitOne K (.ref (He.ga K k)) (.ref (He.ga K "NotPlanes")) = some (kNotPlanes k) := by
  unfold mtPlaneError at h
  repeat' split at h
  · subst k; exact fc.k_PlaneError_NotPlanes_PlaneError
  · subst k; exact fc.k_PlaneError_NotPlanes_NotPlanes
  · subst k; exact fc.k_PlaneError_NotPlanes_BadNumber
  · cases h
def m_law_method : MS := (msTryAs mtPlaneError 3 (msSeq (msIf (mTest (m2 gEq (mVar 0) (mK (.int 0)))) (msRet (mMeth (tb [("Planes", Q.FPlanes_without)]) "without" (mVar 1) (mCons (mVar 2) mNil))) msNil) (msSeq (msIf (mTest (m2 gEq (mVar 0) (mK (.int 1)))) (msRet (mMeth (tb [("Planes", Q.FPlanes_turned)]) "turned" (mVar 1) (mCons (mVar 2) mNil))) msNil) (msRet (mMeth (tb [("Planes", Q.FPlanes_only)]) "only" (mVar 1) (mCons (mVar 2) mNil))))) (fun k => (msRet (m2 gAdd (mK (.str "!")) (mN gStr (mCons (mN gInt (mCons (mK (.bl (kBadNumber k))) mNil)) mNil))))))
def F_law_method : FN := runM 4 3 [] false m_law_method
def m_law_parts_t0 : MT := (mTest (m2 gEq (m2 gMod (mN gInt (mCons (mCallIo Q.F_law_next 0 mNil) mNil)) (mK (.int 2))) (mK (.int 0))))
def m_law_parts_s1 : MS := (msAsg (mN gTuple (mCons (mLc [5] (mItN gRange1 (mCons (mN gLen (mCons (mVar 2) mNil)) mNil)) (mgName 5) m_law_parts_t0 (mVar 5)) mNil)) (mgName 4))
def m_law_parts_s2 : MS := (msIf (mTest (m2 gNe (mMeth (tb [("Planes", Q.FPlanes_planes_v2)]) "planes" (mMeth (tb [("Planes", Q.FPlanes_only)]) "only" (mVar 3) (mCons (mVar 4) mNil)) mNil) (mLc [5] (mIter (mVar 4)) (mgName 5) mYes (m2 gIx (mVar 2) (mVar 5))))) (msRet (mK (.bl false))) msNil)
def m_law_parts_e3 : ME := (m2 gSub (mK (.int 0)) (mVar 7))
def m_law_parts_b4 : MS := (msSeq (msAsg (mN gTuple (mCons (mLc [7] (mIter (m2 gIx (mVar 2) (mVar 5))) (mgName 7) mYes m_law_parts_e3) mNil)) (mgName 6)) (msSeq (msIf (mTest (m2 gNe (mMeth (tb [("Planes", Q.FPlanes_planes_v2)]) "planes" (mMeth (tb [("Planes", Q.FPlanes_without)]) "without" (mVar 3) (mCons (mVar 5) mNil)) mNil) (m2 gAdd (mSl (.ex (mVar 2)) mNoP (mPart (mVar 5))) (mSl (.ex (mVar 2)) (mPart (m2 gAdd (mVar 5) (mK (.int 1)))) mNoP)))) (msRet (mK (.bl false))) msNil) (msIf (mOrT (mTest (m2 gNe (mMeth (tb [("Planes", Q.FPlanes_planes_v2)]) "planes" (mMeth (tb [("Planes", Q.FPlanes_turned)]) "turned" (mVar 3) (mCons (mVar 5) mNil)) mNil) (m2 gAdd (m2 gAdd (mSl (.ex (mVar 2)) mNoP (mPart (mVar 5))) (mN gLst (mCons (mVar 6) mNil))) (mSl (.ex (mVar 2)) (mPart (m2 gAdd (mVar 5) (mK (.int 1)))) mNoP)))) (mTest (m2 gNe (m1 (gFld (isC ["Planes"]) "n") (mMeth (tb [("Planes", Q.FPlanes_turned)]) "turned" (mVar 3) (mCons (mVar 5) mNil))) (mVar 1)))) (msRet (mK (.bl false))) msNil)))
def m_law_parts_s5 : MS := (msFor (mItN gRange1 (mCons (mN gLen (mCons (mVar 2) mNil)) mNil)) (mgName 5) m_law_parts_b4)
def m_law_parts_b6 : MS := (msIf (mOrT (mTest (m2 gNe (mCall F_law_method (mCons (mK (.int 0)) (mCons (mVar 3) (mCons (mVar 5) mNil)))) (mK (.str "!1")))) (mOrT (mTest (m2 gNe (mCall F_law_method (mCons (mK (.int 1)) (mCons (mVar 3) (mCons (mVar 5) mNil)))) (mK (.str "!1")))) (mTest (m2 gNe (mCall F_law_method (mCons (mK (.int 2)) (mCons (mVar 3) (mCons (mN gTup (mCons (mVar 5) mNil)) mNil)))) (mK (.str "!1")))))) (msRet (mK (.bl false))) msNil)
def m_law_parts_s7 : MS := (msFor (mIter (mN gLst (mCons (m1 gNeg (mK (.int 1))) (mCons (mN gLen (mCons (mVar 2) mNil)) (mCons (m2 gAdd (mN gLen (mCons (mVar 2) mNil)) (mK (.int 9))) mNil))))) (mgName 5) m_law_parts_b6)
def m_law_parts_e8 : ME := (mCall F_law_method (mCons (mK (.int 2)) (mCons (mVar 3) (mCons (mVar 8) mNil))))
def m_law_parts_s9 : MS := (msIf (mTest (m2 gGt (mN gLen (mCons (mVar 2) mNil)) (mK (.int 1)))) (msRet (m2 gEq (mLc [8] (mIter (mN gLst (mCons (mN gTup (mCons (mK (.int 1)) (mCons (mK (.int 0)) mNil))) (mCons (mN gTup (mCons (mK (.int 0)) (mCons (mK (.int 0)) mNil))) (mCons (mN gTup (mCons (mK (.int 1)) (mCons (mK (.int 1)) mNil))) mNil))))) (mgName 8) mYes m_law_parts_e8) (m2 gMul (mN gLst (mCons (mK (.str "!1")) mNil)) (mK (.int 3))))) msNil)
def m_law_parts : MS := (msSeq m_law_parts_s1 (msSeq m_law_parts_s2 (msSeq m_law_parts_s5 (msSeq m_law_parts_s7 (msSeq m_law_parts_s9 (msRet (mK (.bl true))))))))
def F_law_parts : FN := runM 9 4 [] false m_law_parts
def m_law_told : MS := (msTryAs mtPlaneError 3 (msSeq (msIf (mTest (m2 gEq (mVar 0) (mK (.int 0)))) (msRet (mMeth (tb [("Planes", Q.FPlanes_planes_v2)]) "planes" (mMake "Planes" Q.FPlanes_init (mCons (mVar 1) (mCons (mVar 2) mNil))) mNil)) msNil) (msSeq (msIf (mTest (m2 gEq (mVar 0) (mK (.int 1)))) (msRet (mCall Q.Fcheck_letters (mCons (mVar 1) mNil))) msNil) (msRet (mCall Q.Fis_plane (mCons (mVar 1) (mCons (m2 gIx (mVar 2) (mK (.int 0))) mNil)))))) (fun k => (msRet (m2 gAdd (mK (.str "!")) (mN gStr (mCons (mN gLst (mCons (mN gInt (mCons (mK (.bl (kBadNumber k))) mNil)) (mCons (mN gInt (mCons (mK (.bl (kNotPlanes k))) mNil)) mNil))) mNil))))))
def F_law_told : FN := runM 4 3 [] false m_law_told
def m_law_lists_e0 : ME := (m2 gSub (mK (.int 0)) (mVar 3))
def m_law_lists_s1 : MS := (msIf (mTru (mVar 1)) (msSeq (msAsg (mN gTuple (mCons (mLc [3] (mIter (m2 gIx (mVar 1) (mK (.int 0)))) (mgName 3) mYes m_law_lists_e0) mNil)) (mgName 2)) (msIf (mOrT (mTest (m2 gNe (mCall F_law_told (mCons (mK (.int 0)) (mCons (mVar 0) (mCons (m2 gAdd (mVar 1) (mN gLst (mCons (mVar 2) mNil))) mNil)))) (mK (.str "![0, 1]")))) (mTest (m2 gNe (mCall F_law_told (mCons (mK (.int 0)) (mCons (mVar 0) (mCons (m2 gAdd (mN gLst (mCons (m2 gIx (mVar 1) (m1 gNeg (mK (.int 1)))) mNil)) (mVar 1)) mNil)))) (mK (.str "![0, 1]"))))) (msRet (mK (.bl false))) msNil)) msNil)
def m_law_lists_e2 : ME := (m2 gAdd (m2 gAdd (mN gTup (mCons (mK (.int 1)) mNil)) (m2 gMulT (mN gTup (mCons (mK (.int 0)) mNil)) (m2 gSub (mVar 0) (mK (.int 1))))) (mN gTup (mCons (m2 gSub (mVar 5) (mK (.int 6))) mNil)))
def m_law_lists_s3 : MS := (msAsg (mLc [5] (mItN gRange1 (mCons (mK (.int 13)) mNil)) (mgName 5) mYes m_law_lists_e2) (mgName 4))
def m_law_lists_s4 : MS := (msIf (mOrT (mTest (m2 gNe (mCall F_law_told (mCons (mK (.int 0)) (mCons (mVar 0) (mCons (mSl (.ex (mVar 4)) mNoP (mPart (mK (.int 12)))) mNil)))) (mSl (.ex (mVar 4)) mNoP (mPart (mK (.int 12)))))) (mTest (m2 gNe (mCall F_law_told (mCons (mK (.int 0)) (mCons (mVar 0) (mCons (mVar 4) mNil)))) (mK (.str "![0, 1]"))))) (msRet (mK (.bl false))) msNil)
def m_law_lists_e5 : ME := (mCall F_law_told (mCons (mVar 7) (mCons (mVar 6) (mCons (mN gLst (mCons (mN gTup (mCons (mK (.int 0)) (mCons (mK (.int 0)) mNil))) mNil)) mNil))))
def m_law_lists_b6 : MS := (msIf (mTest (m2 gNe (mLc [7] (mItN gRange1 (mCons (mK (.int 3)) mNil)) (mgName 7) mYes m_law_lists_e5) (m2 gMul (mN gLst (mCons (mK (.str "![1, 0]")) mNil)) (mK (.int 3))))) (msRet (mK (.bl false))) msNil)
def m_law_lists_s7 : MS := (msFor (mIter (mN gLst (mCons (mK (.int 0)) (mCons (mK (.int 5)) (mCons (m1 gNeg (mK (.int 1))) (mCons (mK (.int 99)) mNil)))))) (mgName 6) m_law_lists_b6)
def m_law_lists_s8 : MS := (msRet (m2 gIs (mCall Q.Fcheck_letters (mCons (mVar 0) mNil)) (mK .non)))
def m_law_lists : MS := (msSeq m_law_lists_s1 (msSeq m_law_lists_s3 (msSeq m_law_lists_s4 (msSeq m_law_lists_s7 m_law_lists_s8))))
def F_law_lists : FN := runM 8 2 [] false m_law_lists
def mlaw_s0 : MS := (msOwn 1 (mCall Q.F_law_draws (mCons (mVar 0) mNil)))
def mlaw_s1 : MS := (msExpr (mOM gReverse 1 mNil))
def mlaw_s2 : MS := (msAsg (m2 gAdd (mK (.int 1)) (m2 gMod (mN gInt (mCons (mCallIo Q.F_law_next 1 mNil) mNil)) (mK (.int 4)))) (mgName 2))
def mlaw_s3 : MS := (msOwn2 Q.F_law_planes 1 3 4 (mCons (mVar 2) (mCons (mK (.int 7)) mNil)))
def mlaw_s4 : MS := (msAsg (mNO gList 3) (mgName 5))
def mlaw_s5 : MS := (msAsg (mMakeO "Planes" Q.FPlanes_init (mVar 2) 3) (mgName 6))
def mlaw_s6 : MS := (msIf (mOrT (mTest (m2 gNe (mMeth (tb [("Planes", Q.FPlanes_planes_v2)]) "planes" (mVar 6) mNil) (mVar 5))) (mOrT (mTest (m2 gNe (m1 (gLenX (tb [("Planes", Q.FPlanes_len)])) (mVar 6)) (mN gLen (mCons (mVar 5) mNil)))) (mTest (m2 gNe (m1 (gFld (isC ["Planes"]) "n") (mVar 6)) (mVar 2))))) (msRet (mK (.bl false))) msNil)
def mlaw_s7 : MS := (msOwn 7 (mMeth (tb [("Planes", Q.FPlanes_planes_v2)]) "planes" (mVar 6) mNil))
def mlaw_s8 : MS := (msExpr (mOM gAppend 7 (mCons (mN gTup (mCons (mK (.int 0)) (mCons (mK (.int 0)) mNil))) mNil)))
def mlaw_s9 : MS := (msExpr (mOM gAppend 3 (mCons (mN gTup (mCons (mK (.int 1)) mNil)) mNil)))
def mlaw_s10 : MS := (msIf (mOrT (mTest (m2 gNe (mMeth (tb [("Planes", Q.FPlanes_planes_v2)]) "planes" (mVar 6) mNil) (mVar 5))) (mNotT (mTest (m2 (gEqX (tb [("Planes", Q.FPlanes_eq)])) (mVar 6) (mMake "Planes" Q.FPlanes_init (mCons (mVar 2) (mCons (mVar 5) mNil))))))) (msRet (mK (.bl false))) msNil)
def mlaw_s11 : MS := (msIf (mAndT (mTru (mVar 5)) (mOrT (mTest (m2 (gEqX (tb [("Planes", Q.FPlanes_eq)])) (mVar 6) (mMake "Planes" Q.FPlanes_init (mCons (mVar 2) (mCons (mSl (.ex (mVar 5)) (mPart (mK (.int 1))) mNoP) mNil))))) (mOrT (mTest (m2 (gEqX (tb [("Planes", Q.FPlanes_eq)])) (mVar 6) (mMeth (tb [("Planes", Q.FPlanes_turned)]) "turned" (mVar 6) (mCons (mK (.int 0)) mNil)))) (mNotT (mTest (m2 (gEqX (tb [("Planes", Q.FPlanes_eq)])) (mVar 6) (mMeth (tb [("Planes", Q.FPlanes_turned)]) "turned" (mMeth (tb [("Planes", Q.FPlanes_turned)]) "turned" (mVar 6) (mCons (mK (.int 0)) mNil)) (mCons (mK (.int 0)) mNil)))))))) (msRet (mK (.bl false))) msNil)
def mlaw_s12 : MS := (msIf (mAndT (mTest (m2 gGt (mN gLen (mCons (mVar 5) mNil)) (mK (.int 1)))) (mTest (m2 (gEqX (tb [("Planes", Q.FPlanes_eq)])) (mVar 6) (mMake "Planes" Q.FPlanes_init (mCons (mVar 2) (mCons (m2 gAdd (mSl (.ex (mVar 5)) (mPart (mK (.int 1))) mNoP) (mSl (.ex (mVar 5)) mNoP (mPart (mK (.int 1))))) mNil)))))) (msRet (mK (.bl false))) msNil)
def mlaw_e13 : ME := (mSl (.ex (mVar 9)) mNoP (mPart (mVar 2)))
def mlaw_s14 : MS := (msAsg (mCall Q.F_law_echelon (mCons (mVar 2) (mCons (mCall Q.F_law_numbers_v3 (mCons (mLc [9] (mIter (mVar 5)) (mgName 9) mYes mlaw_e13) mNil)) mNil))) (mgName 8))
def mlaw_s15 : MS := (msAsg (mCall Q.F_law_echelon (mCons (m2 gAdd (mVar 2) (mK (.int 1))) (mCons (mCall Q.F_law_numbers_v3 (mCons (mVar 5) mNil)) mNil))) (mgName 10))
def mlaw_s16 : MS := (msIf (mOrT (mTest (m2 gNe (mN gRepr (mCons (mMeth (tb [("Planes", Q.FPlanes_rank)]) "rank" (mVar 6) mNil) mNil)) (mN gRepr (mCons (mN gLen (mCons (mVar 8) mNil)) mNil)))) (mTest (m2 gNe (mN gRepr (mCons (mMeth (tb [("Planes", Q.FPlanes_is_central)]) "is_central" (mVar 6) mNil) mNil)) (mN gRepr (mCons (m2 gEq (mN gLen (mCons (mVar 8) mNil)) (mN gLen (mCons (mVar 10) mNil))) mNil))))) (msRet (mK (.bl false))) msNil)
def mlaw_s17 : MS := (msIf (mOrT (mNotT (mTru (mCallIo F_law_parts 1 (mCons (mVar 2) (mCons (mVar 5) (mCons (mVar 6) mNil)))))) (mOrT (mTest (m2 gNe (mMeth (tb [("Planes", Q.FPlanes_planes_v2)]) "planes" (mVar 6) mNil) (mVar 5))) (mNotT (mTru (mCall F_law_lists (mCons (mVar 2) (mCons (mVar 5) mNil))))))) (msRet (mK (.bl false))) msNil)
def mlaw_s18 : MS := (msAsg (mCallIo Q.F_law_plane 1 (mCons (mVar 2) (mCons (mVar 4) mNil))) (mgName 9))
def mlaw_b19 : MS := (msSeq (msAsg (mCall Q.F_law_is_plane (mCons (mVar 2) (mCons (mVar 11) mNil))) (mgName 12)) (msIf (mOrT (mTest (m2 gNe (mN gRepr (mCons (mCall Q.Fis_plane (mCons (mVar 2) (mCons (mVar 11) mNil))) mNil)) (mN gRepr (mCons (mVar 12) mNil)))) (mTest (m2 gNe (mN gRepr (mCons (mCall F_law_told (mCons (mK (.int 0)) (mCons (mVar 2) (mCons (mN gLst (mCons (mVar 11) mNil)) mNil)))) mNil)) (mN gRepr (mCons (mIf (mTru (mVar 12)) (mN gLst (mCons (mVar 11) mNil)) (mK (.str "![0, 1]"))) mNil))))) (msRet (mK (.bl false))) msNil))
def mlaw_s20 : MS := (msFor (mIter (mN gLst (mCons (mVar 9) (mCons (mCallIo Q.F_law_spoilt_v3 1 (mCons (mVar 9) mNil)) (mCons (mCallIo Q.F_law_spoilt_v3 1 (mCons (mCallIo Q.F_law_spoilt_v3 1 (mCons (mVar 9) mNil)) mNil)) mNil))))) (mgName 11) mlaw_b19)
def mlaw : MS := (msForget 1 (msSeq mlaw_s0 (msSeq mlaw_s1 (msSeq mlaw_s2 (msForget 3 (msSeq mlaw_s3 (msSeq mlaw_s4 (msSeq mlaw_s5 (msSeq mlaw_s6 (msForget 7 (msSeq mlaw_s7 (msSeq mlaw_s8 (msSeq mlaw_s9 (msSeq mlaw_s10 (msSeq mlaw_s11 (msSeq mlaw_s12 (msSeq mlaw_s14 (msSeq mlaw_s15 (msSeq mlaw_s16 (msSeq mlaw_s17 (msSeq mlaw_s18 (msSeq mlaw_s20 (msRet (mK (.bl true)))))))))))))))))))))))))
def Flaw : FN := runM 13 1 [] false mlaw
section
variable {w : World} {K : PySem.W.Frag} {mg : Str → Option Value}
abbrev N_law_number : List Str := ["cell"]
theorem c_law_number : FnScope N_law_number ["cell"] (defScope s_law_number) := ⟨rfl, rfl, rfl, by decide +kernel, rfl, by decide +kernel, by decide +kernel⟩
theorem g_law_number (fc : Fc K mg) : Ok prog w K mg 1 "_law_number" false false Q.F_law_number := by
  intro base
  obtain ⟨fd, F⟩ := fc.d__law_number
  refine fnG_of (ps := ["cell"]) (N := N_law_number) (O := []) (O' := []) F c_law_number (F.bindsN fun _ _ _ _ _ _ us hl => match us, hl with | [_], _ => rfl) .nil (fun _ _ => .nil) (by decide) (by decide) (by decide) fun cdv A outer s H E A0 q hio hr hg => ?_
  obtain rfl : q = none := by cases q with
    | none => rfl
    | some _ => cases hio
  have hu := Room.u64 hr
  have hv := Room.u65 hr
  exact (dss_cons (ds_if trivial (dt_cmp od_lt (v_ 0) de_int (pm _ _)) (dss_one (ds_ret trivial (de_bin od_sub de_int (v_ 0)))) dss_nil) (dss_one (ds_ret trivial (v_ 0))))
abbrev N_law_draws : List Str := ["script", "draws", "cell", "rest", "k", "once", "twice"]
theorem c_law_draws : FnScope N_law_draws ["script"] (defScope s_law_draws) := ⟨rfl, rfl, rfl, by decide +kernel, rfl, by decide +kernel, by decide +kernel⟩
theorem g_law_draws (fc : Fc K mg) : Ok prog w K mg 2 "_law_draws" false true Q.F_law_draws := by
  intro base
  obtain ⟨fd, F⟩ := fc.d__law_draws
  refine fnG_of (ps := ["script"]) (N := N_law_draws) (O := []) (O' := []) F c_law_draws (F.bindsN fun _ _ _ _ _ _ us hl => match us, hl with | [_], _ => rfl) .nil (fun _ _ => .nil) (by decide) (by decide) (by decide) fun cdv A outer s H E A0 q hio hr hg => ?_
  obtain rfl : q = none := by cases q with
    | none => rfl
    | some _ => cases hio
  have hu := Room.u64 hr
  have hv := Room.u65 hr
  exact (dss_forgetO 1 (.inl (by decide)) (dss_cons (ds_own trivial (df_lst da_nil) rfl (.inl (by decide)) c_law_draws.nd rfl (Or.inl rfl)) (dss_cons (ds_for (vs := [2]) trivial cx_pw rfl (di_seq (v_ 0)) (dg_name rfl rfl c_law_draws.nd rfl (Or.inl rfl)) (dss_cons (ds_asg (vs := [3]) trivial (de_call (g_law_number fc _) (hr.mono (by decide)) hg cx_tk (by rfl) fc.g__law_number (da_cons (v_ 2) da_nil)) (dg_name rfl rfl c_law_draws.nd rfl (Or.inl rfl))) (dss_one (ds_if trivial (dt_cmp od_ge (v_ 3) de_int (pm _ _)) (dss_one (ds_for (vs := [4]) trivial cx_pw rfl (di_range1 (by rfl) fc.f_range (da_cons de_int da_nil)) (dg_name rfl rfl c_law_draws.nd rfl (Or.inl rfl)) (dss_cons (ds_if trivial (dt_cmp (od_eq hu) (v_ 3) de_int (pm _ _)) (dss_one ds_brk) dss_nil) (dss_cons (ds_expr trivial (de_om om_append PySem.F.slot_list_append PySem.F.type_list_append (by rfl) (pv 1) (da_cons (de_bin od_mod (de_ty bt_int b_int (by rfl) fc.f_int (da_cons (v_ 3) da_nil)) de_int) da_nil))) (dss_one (ds_asg (vs := [3]) trivial (de_bin od_div (v_ 3) de_int) (dg_name rfl rfl c_law_draws.nd rfl (Or.inl rfl)))))))) (dss_cons (ds_asg (vs := [5]) trivial (de_bin od_mod (de_ty bt_int b_int (by rfl) fc.f_int (da_cons (de_bin od_add (de_bin od_mul (v_ 3) de_int) de_int) da_nil)) de_int) (dg_name rfl rfl c_law_draws.nd rfl (Or.inl rfl))) (dss_cons (ds_asg (vs := [6]) trivial (de_bin od_mod (de_ty bt_int b_int (by rfl) fc.f_int (da_cons (de_bin od_add (de_bin od_mul (v_ 5) de_int) (v_ 3)) da_nil)) de_int) (dg_name rfl rfl c_law_draws.nd rfl (Or.inl rfl))) (dss_one (ds_expr trivial (de_om om_extend PySem.F.slot_list_extend PySem.F.type_list_extend (by rfl) (pv 1) (da_cons (DF.toE (df_lst (da_cons (de_bin od_mod (de_ty bt_int b_int (by rfl) fc.f_int (da_cons (v_ 3) da_nil)) de_int) (da_cons (de_bin od_mod (de_ty bt_int b_int (by rfl) fc.f_int (da_cons (v_ 5) da_nil)) de_int) (da_cons (de_bin od_mod (de_ty bt_int b_int (by rfl) fc.f_int (da_cons (v_ 6) da_nil)) de_int) da_nil))))) da_nil)))))))))) (dss_one (ds_retO rfl (.inl (by decide)) (pv 1))))))
abbrev N_law_divisor : List Str := ["a", "b", "one", "other", "j"]
theorem c_law_divisor : FnScope N_law_divisor ["a", "b"] (defScope s_law_divisor) := ⟨rfl, rfl, rfl, by decide +kernel, rfl, by decide +kernel, by decide +kernel⟩
theorem g_law_divisor (fc : Fc K mg) : Ok prog w K mg 1 "_law_divisor" false false Q.F_law_divisor := by
  intro base
  obtain ⟨fd, F⟩ := fc.d__law_divisor
  refine fnG_of (ps := ["a", "b"]) (N := N_law_divisor) (O := []) (O' := []) F c_law_divisor (F.bindsN fun _ _ _ _ _ _ us hl => match us, hl with | [_, _], _ => rfl) .nil (fun _ _ => .nil) (by decide) (by decide) (by decide) fun cdv A outer s H E A0 q hio hr hg => ?_
  obtain rfl : q = none := by cases q with
    | none => rfl
    | some _ => cases hio
  have hu := Room.u64 hr
  have hv := Room.u65 hr
  exact (dss_cons (ds_asg (vs := [2]) trivial (de_b bt_abs b_abs (by rfl) fc.f_abs (da_cons (v_ 0) da_nil)) (dg_name rfl rfl c_law_divisor.nd rfl (Or.inl rfl))) (dss_cons (ds_asg (vs := [3]) trivial (de_b bt_abs b_abs (by rfl) fc.f_abs (da_cons (v_ 1) da_nil)) (dg_name rfl rfl c_law_divisor.nd rfl (Or.inl rfl))) (dss_cons (ds_for (vs := [4]) trivial cx_pw rfl (di_range1 (by rfl) fc.f_range (da_cons (de_bin od_pow de_int de_int) da_nil)) (dg_name rfl rfl c_law_divisor.nd rfl (Or.inl rfl)) (dss_cons (ds_if trivial (dt_cmp (od_eq hu) (v_ 3) de_int (pm _ _)) (dss_one ds_brk) dss_nil) (dss_one (ds_par (i := 2) (j := 3) trivial rfl c_law_divisor.nd rfl rfl (by decide) rfl rfl rfl rfl (da_cons (v_ 3) (da_cons (de_bin od_mod (de_ty bt_int b_int (by rfl) fc.f_int (da_cons (v_ 2) da_nil)) (v_ 3)) da_nil)))))) (dss_one (ds_ret trivial (v_ 2))))))
abbrev N_law_next : List Str := ["draws"]
theorem c_law_next : FnScope N_law_next ["draws"] (defScope s_law_next) := ⟨rfl, rfl, rfl, by decide +kernel, rfl, by decide +kernel, by decide +kernel⟩
theorem g_law_next (fc : Fc K mg) : Ok prog w K mg 1 "_law_next" true false Q.F_law_next := by
  intro base
  obtain ⟨fd, F⟩ := fc.d__law_next
  refine fnG_of (ps := ["draws"]) (N := N_law_next) (O := [0]) (O' := []) F c_law_next (F.bindsN fun _ _ _ _ _ _ us hl => match us, hl with | [_], _ => rfl) .nil (fun _ _ => .nil) (by decide) (by decide) (by decide) fun cdv A outer s H E A0 q hio hr hg => ?_
  have hu := Room.u64 hr
  have hv := Room.u65 hr
  exact (dss_cons (ds_if trivial (dt_truO (by rfl) (pv 0)) (dss_one (ds_ret trivial (de_om0 om_pop PySem.F.slot_list_pop PySem.F.type_list_pop (by rfl) (pv 0)))) dss_nil) (dss_one (ds_ret trivial de_int)))
abbrev N_law_plane : List Str := ["draws", "n", "point", "row", "j", "place", "a", "last", "common"]
theorem c_law_plane : FnScope N_law_plane ["draws", "n", "point"] (defScope s_law_plane) := ⟨rfl, rfl, rfl, by decide +kernel, rfl, by decide +kernel, by decide +kernel⟩
theorem g_law_plane (fc : Fc K mg) : Ok prog w K mg 2 "_law_plane" true false Q.F_law_plane := by
  intro base
  obtain ⟨fd, F⟩ := fc.d__law_plane
  refine fnG_of (ps := ["draws", "n", "point"]) (N := N_law_plane) (O := [0]) (O' := []) F c_law_plane (F.bindsN fun _ _ _ _ _ _ us hl => match us, hl with | [_, _, _], _ => rfl) .nil (fun _ _ => .nil) (by decide) (by decide) (by decide) fun cdv A outer s H E A0 q hio hr hg => ?_
  have hu := Room.u64 hr
  have hv := Room.u65 hr
  exact (dss_forgetO 3 (.inl (by decide)) (dss_cons (ds_own trivial (df_lc (by rfl) c_law_plane.nd (by rfl) (di_range1 (by rfl) fc.f_range (da_cons (v_ 1) da_nil)) (blkOk_by (own := [("j", 4)]) (by kernel_rfl)) (fun _ _ _ _ _ => (dg_name rfl rfl c_law_plane.nd rfl (Or.inl rfl))) (fun _ _ _ _ _ => pts_nil) tYes_go (fun _ _ _ _ _ => (de_bin od_sub (de_bin od_mod (de_ty bt_int b_int (by rfl) fc.f_int (da_cons (de_callio (g_law_next fc _) (hr.mono (by decide)) hg (takes0 (by rfl)) (by rfl) fc.g__law_next (by rfl) (pv 0) da_nil) da_nil)) de_int) de_int))) rfl (.inl (by decide)) c_law_plane.nd rfl (Or.inr rfl)) (dss_cons (ds_if trivial (dt_cmp (od_eq hu) (de_bin od_mod (de_ty bt_int b_int (by rfl) fc.f_int (da_cons (de_callio (g_law_next fc _) (hr.mono (by decide)) hg cx_tk (by rfl) fc.g__law_next (by rfl) (pv 0) da_nil) da_nil)) de_int) de_int (pm _ _)) (dss_cons (ds_asg (vs := [5]) trivial (de_bin od_mod (de_ty bt_int b_int (by rfl) fc.f_int (da_cons (de_callio (g_law_next fc _) (hr.mono (by decide)) hg cx_tk (by rfl) fc.g__law_next (by rfl) (pv 0) da_nil) da_nil)) (v_ 1)) (dg_name rfl rfl c_law_plane.nd rfl (Or.inr rfl))) (dss_one (ds_own trivial (df_lc (by rfl) c_law_plane.nd (by rfl) (di_range1 (by rfl) fc.f_range (da_cons (v_ 1) da_nil)) (blkOk_by (own := [("j", 4)]) (by kernel_rfl)) (fun _ _ _ _ _ => (dg_name rfl rfl c_law_plane.nd rfl (Or.inl rfl))) (fun _ _ _ _ _ => pts_nil) tYes_go (fun _ _ _ _ _ => (de_if (dt_cmp (od_eq hu) (v_ 4) (v_ 5) (pm _ _)) (de_ixB ix_d gIx_no (db_o (by rfl) (pv 3)) (db_e (v_ 4)) (fun _ _ => rfl)) de_int))) rfl (.inl (by decide)) c_law_plane.nd rfl (Or.inr rfl)))) dss_nil) (dss_cons (ds_if trivial (dt_pure (dt_not (dt_tru (de_b bt_any (b_any (by rfl)) (by rfl) fc.f_any (da_cons (DF.toE (df_lc (by rfl) c_law_plane.nd (by rfl) (di_seq (v_ 3)) (blkOk_by (own := [("a", 6)]) (by kernel_rfl)) (fun _ _ _ _ _ => (dg_name rfl rfl c_law_plane.nd rfl (Or.inl rfl))) (fun _ _ _ _ _ => pts_nil) tYes_go (fun _ _ _ _ _ => (de_cmp (od_ne hu) (v_ 6) de_int (pm _ _))))) da_nil))))) (dss_one (ds_asg (vs := []) trivial de_int (dg_sub (by rfl) (pv 3) (de_bin od_mod (de_ty bt_int b_int (by rfl) fc.f_int (da_cons (de_callio (g_law_next fc _) (hr.mono (by decide)) hg takesF (by rfl) fc.g__law_next (by rfl) (pv 0) da_nil) da_nil)) (v_ 1))))) dss_nil) (dss_cons (ds_asg (vs := [7]) trivial (de_bin od_sub (de_bin od_mod (de_ty bt_int b_int (by rfl) fc.f_int (da_cons (de_callio (g_law_next fc _) (hr.mono (by decide)) hg cx_tk (by rfl) fc.g__law_next (by rfl) (pv 0) da_nil) da_nil)) de_int) de_int) (dg_name rfl rfl c_law_plane.nd rfl (Or.inl rfl))) (dss_cons (ds_if trivial (dt_cmp (od_eq hu) (de_bin od_mod (de_ty bt_int b_int (by rfl) fc.f_int (da_cons (de_callio (g_law_next fc _) (hr.mono (by decide)) hg cx_tk (by rfl) fc.g__law_next (by rfl) (pv 0) da_nil) da_nil)) de_int) de_int (pm _ _)) (dss_one (ds_asg (vs := [7]) trivial (de_b bt_sum (b_sum (by rfl)) (by rfl) fc.f_sum (da_cons (DF.toE (df_lc (by rfl) c_law_plane.nd (by rfl) (di_range1 (by rfl) fc.f_range (da_cons (v_ 1) da_nil)) (blkOk_by (own := [("j", 4)]) (by kernel_rfl)) (fun _ _ _ _ _ => (dg_name rfl rfl c_law_plane.nd rfl (Or.inl rfl))) (fun _ _ _ _ _ => pts_nil) tYes_go (fun _ _ _ _ _ => (de_bin od_mul (de_ixB ix_d gIx_no (db_o (by rfl) (pv 3)) (db_e (v_ 4)) (fun _ _ => rfl)) (de_ix ix_d (v_ 2) (v_ 4) (fun _ _ => rfl)))))) da_nil)) (dg_name rfl rfl c_law_plane.nd rfl (Or.inl rfl)))) dss_nil) (dss_cons (ds_expr trivial (de_om om_append PySem.F.slot_list_append PySem.F.type_list_append (by rfl) (pv 3) (da_cons (v_ 7) da_nil))) (dss_cons (ds_asg (vs := [8]) trivial de_int (dg_name rfl rfl c_law_plane.nd rfl (Or.inr rfl))) (dss_freeze 3 (.inl (by decide)) (dss_cons (ds_for (vs := [6]) trivial cx_pw rfl (di_seq (v_ 3)) (dg_name rfl rfl c_law_plane.nd rfl (Or.inl rfl)) (dss_one (ds_asg (vs := [8]) trivial (de_call (g_law_divisor fc _) (hr.mono (by decide)) hg cx_tk (by rfl) fc.g__law_divisor (da_cons (v_ 8) (da_cons (v_ 6) da_nil))) (dg_name rfl rfl c_law_plane.nd rfl (Or.inr rfl))))) (dss_one (ds_ret trivial (de_ty bt_tuple b_tuple (by rfl) fc.f_tuple (da_cons (DF.toE (df_lc (by rfl) c_law_plane.nd (by rfl) (di_seq (v_ 3)) (blkOk_by (own := [("a", 6)]) (by kernel_rfl)) (fun _ _ _ _ _ => (dg_name rfl rfl c_law_plane.nd rfl (Or.inl rfl))) (fun _ _ _ _ _ => pts_nil) tYes_go (fun _ _ _ _ _ => (de_bin od_div (v_ 6) (v_ 8))))) da_nil))))))))))))))
abbrev N_law_planes : List Str := ["draws", "n", "most", "point", "j", "found", "plane", "a"]
theorem c_law_planes : FnScope N_law_planes ["draws", "n", "most"] (defScope s_law_planes) := ⟨rfl, rfl, rfl, by decide +kernel, rfl, by decide +kernel, by decide +kernel⟩
theorem g_law_planes (fc : Fc K mg) : Ok prog w K mg 3 "_law_planes" true false Q.F_law_planes := by
  intro base
  obtain ⟨fd, F⟩ := fc.d__law_planes
  refine fnG_of (ps := ["draws", "n", "most"]) (N := N_law_planes) (O := [0]) (O' := []) F c_law_planes (F.bindsN fun _ _ _ _ _ _ us hl => match us, hl with | [_, _, _], _ => rfl) .nil (fun _ _ => .nil) (by decide) (by decide) (by decide) fun cdv A outer s H E A0 q hio hr hg => ?_
  have hu := Room.u64 hr
  have hv := Room.u65 hr
  exact (dss_cons (ds_setLc trivial rfl rfl c_law_planes.nd rfl rfl (sw_true rfl rfl rfl (by kernel_rfl)) (by rfl) (di_range1 (by rfl) fc.f_range (da_cons (v_ 1) da_nil)) (blkOk_by (own := [("j", 4)]) (by kernel_rfl)) (fun _ _ _ _ _ => (dg_name rfl rfl c_law_planes.nd rfl (Or.inl rfl))) (fun _ _ _ _ _ => pts_nil) tYes_go (fun _ _ _ _ _ => (de_bin od_sub (de_bin od_mod (de_ty bt_int b_int (by rfl) fc.f_int (da_cons (de_callio (g_law_next fc _) (hr.mono (by decide)) hg (takes0 (by rfl)) (by rfl) fc.g__law_next (by rfl) (pv 0) da_nil) da_nil)) de_int) de_int))) (dss_forgetO 5 (.inl (by decide)) (dss_cons (ds_own trivial (df_lst da_nil) rfl (.inl (by decide)) c_law_planes.nd rfl (Or.inl rfl)) (dss_cons (ds_for (vs := [4]) trivial cx_pw rfl (di_range1 (by rfl) fc.f_range (da_cons (de_bin od_mod (de_ty bt_int b_int (by rfl) fc.f_int (da_cons (de_callio (g_law_next fc _) (hr.mono (by decide)) hg cx_tk (by rfl) fc.g__law_next (by rfl) (pv 0) da_nil) da_nil)) (de_bin od_add (v_ 2) de_int)) da_nil)) (dg_name rfl rfl c_law_planes.nd rfl (Or.inl rfl)) (dss_cons (ds_asg (vs := [6]) trivial (de_callio (g_law_plane fc _) (hr.mono (by decide)) hg cx_tk (by rfl) fc.g__law_plane (by rfl) (pv 0) (da_cons (v_ 1) (da_cons (v_ 3) da_nil))) (dg_name rfl rfl c_law_planes.nd rfl (Or.inl rfl))) (dss_one (ds_if trivial (DW.t (dw_and (dt_cmpB (od_notin hv) no_gNotIn (db_e (v_ 6)) (db_o (by rfl) (pv 5)) (pm _ _)) (dw_and1 (dt_cmpB (od_notin hv) no_gNotIn (db_e (de_ty bt_tuple b_tuple (by rfl) fc.f_tuple (da_cons (DF.toE (df_lc (by rfl) c_law_planes.nd (by rfl) (di_seq (v_ 6)) (blkOk_by (own := [("a", 7)]) (by kernel_rfl)) (fun _ _ _ _ _ => (dg_name rfl rfl c_law_planes.nd rfl (Or.inl rfl))) (fun _ _ _ _ _ => pts_nil) tYes_go (fun _ _ _ _ _ => (de_bin od_sub de_int (v_ 7))))) da_nil))) (db_o (by rfl) (pv 5)) (pm _ _))))) (dss_one (ds_expr trivial (de_om om_append PySem.F.slot_list_append PySem.F.type_list_append (by rfl) (pv 5) (da_cons (v_ 6) da_nil)))) dss_nil)))) (dss_freeze 5 (.inl (by decide)) (dss_one (ds_ret trivial (DF.toE (df_lst (da_cons (v_ 5) (da_cons (v_ 3) da_nil)))))))))))
abbrev N_law_lowest : List Str := ["a", "b", "common"]
theorem c_law_lowest : FnScope N_law_lowest ["a", "b"] (defScope s_law_lowest) := ⟨rfl, rfl, rfl, by decide +kernel, rfl, by decide +kernel, by decide +kernel⟩
theorem g_law_lowest (fc : Fc K mg) : Ok prog w K mg 2 "_law_lowest" false false Q.F_law_lowest := by
  intro base
  obtain ⟨fd, F⟩ := fc.d__law_lowest
  refine fnG_of (ps := ["a", "b"]) (N := N_law_lowest) (O := []) (O' := []) F c_law_lowest (F.bindsN fun _ _ _ _ _ _ us hl => match us, hl with | [_, _], _ => rfl) .nil (fun _ _ => .nil) (by decide) (by decide) (by decide) fun cdv A outer s H E A0 q hio hr hg => ?_
  obtain rfl : q = none := by cases q with
    | none => rfl
    | some _ => cases hio
  have hu := Room.u64 hr
  have hv := Room.u65 hr
  exact (dss_cons (ds_asg (vs := [2]) trivial (de_call (g_law_divisor fc _) (hr.mono (by decide)) hg cx_tk (by rfl) fc.g__law_divisor (da_cons (v_ 0) (da_cons (v_ 1) da_nil))) (dg_name rfl rfl c_law_lowest.nd rfl (Or.inl rfl))) (dss_cons (ds_if trivial (dt_cmp od_lt (v_ 1) de_int (pm _ _)) (dss_one (ds_asg (vs := [2]) trivial (de_bin od_sub de_int (v_ 2)) (dg_name rfl rfl c_law_lowest.nd rfl (Or.inl rfl)))) dss_nil) (dss_one (ds_ret trivial (de_tup (da_cons (de_bin od_div (v_ 0) (v_ 2)) (da_cons (de_bin od_div (v_ 1) (v_ 2)) da_nil)))))))
abbrev N_law_over : List Str := ["x", "y"]
theorem c_law_over : FnScope N_law_over ["x", "y"] (defScope s_law_over) := ⟨rfl, rfl, rfl, by decide +kernel, rfl, by decide +kernel, by decide +kernel⟩
theorem g_law_over (fc : Fc K mg) : Ok prog w K mg 3 "_law_over" false false Q.F_law_over := by
  intro base
  obtain ⟨fd, F⟩ := fc.d__law_over
  refine fnG_of (ps := ["x", "y"]) (N := N_law_over) (O := []) (O' := []) F c_law_over (F.bindsN fun _ _ _ _ _ _ us hl => match us, hl with | [_, _], _ => rfl) .nil (fun _ _ => .nil) (by decide) (by decide) (by decide) fun cdv A outer s H E A0 q hio hr hg => ?_
  obtain rfl : q = none := by cases q with
    | none => rfl
    | some _ => cases hio
  have hu := Room.u64 hr
  have hv := Room.u65 hr
  exact (dss_one (ds_ret trivial (de_call (g_law_lowest fc _) (hr.mono (by decide)) hg cx_tk (by rfl) fc.g__law_lowest (da_cons (de_bin od_mul (de_ix ix_d (v_ 0) de_int (fun _ _ => rfl)) (de_ix ix_d (v_ 1) de_int (fun _ _ => rfl))) (da_cons (de_bin od_mul (de_ix ix_d (v_ 0) de_int (fun _ _ => rfl)) (de_ix ix_d (v_ 1) de_int (fun _ _ => rfl))) da_nil)))))
abbrev N_law_less : List Str := ["x", "y"]
theorem c_law_less : FnScope N_law_less ["x", "y"] (defScope s_law_less) := ⟨rfl, rfl, rfl, by decide +kernel, rfl, by decide +kernel, by decide +kernel⟩
theorem g_law_less (fc : Fc K mg) : Ok prog w K mg 3 "_law_less" false false Q.F_law_less := by
  intro base
  obtain ⟨fd, F⟩ := fc.d__law_less
  refine fnG_of (ps := ["x", "y"]) (N := N_law_less) (O := []) (O' := []) F c_law_less (F.bindsN fun _ _ _ _ _ _ us hl => match us, hl with | [_, _], _ => rfl) .nil (fun _ _ => .nil) (by decide) (by decide) (by decide) fun cdv A outer s H E A0 q hio hr hg => ?_
  obtain rfl : q = none := by cases q with
    | none => rfl
    | some _ => cases hio
  have hu := Room.u64 hr
  have hv := Room.u65 hr
  exact (dss_one (ds_ret trivial (de_call (g_law_lowest fc _) (hr.mono (by decide)) hg cx_tk (by rfl) fc.g__law_lowest (da_cons (de_bin od_sub (de_bin od_mul (de_ix ix_d (v_ 0) de_int (fun _ _ => rfl)) (de_ix ix_d (v_ 1) de_int (fun _ _ => rfl))) (de_bin od_mul (de_ix ix_d (v_ 1) de_int (fun _ _ => rfl)) (de_ix ix_d (v_ 0) de_int (fun _ _ => rfl)))) (da_cons (de_bin od_mul (de_ix ix_d (v_ 0) de_int (fun _ _ => rfl)) (de_ix ix_d (v_ 1) de_int (fun _ _ => rfl))) da_nil)))))
abbrev N_law_times : List Str := ["x", "y"]
theorem c_law_times : FnScope N_law_times ["x", "y"] (defScope s_law_times) := ⟨rfl, rfl, rfl, by decide +kernel, rfl, by decide +kernel, by decide +kernel⟩
theorem g_law_times (fc : Fc K mg) : Ok prog w K mg 3 "_law_times" false false Q.F_law_times := by
  intro base
  obtain ⟨fd, F⟩ := fc.d__law_times
  refine fnG_of (ps := ["x", "y"]) (N := N_law_times) (O := []) (O' := []) F c_law_times (F.bindsN fun _ _ _ _ _ _ us hl => match us, hl with | [_, _], _ => rfl) .nil (fun _ _ => .nil) (by decide) (by decide) (by decide) fun cdv A outer s H E A0 q hio hr hg => ?_
  obtain rfl : q = none := by cases q with
    | none => rfl
    | some _ => cases hio
  have hu := Room.u64 hr
  have hv := Room.u65 hr
  exact (dss_one (ds_ret trivial (de_call (g_law_lowest fc _) (hr.mono (by decide)) hg cx_tk (by rfl) fc.g__law_lowest (da_cons (de_bin od_mul (de_ix ix_d (v_ 0) de_int (fun _ _ => rfl)) (de_ix ix_d (v_ 1) de_int (fun _ _ => rfl))) (da_cons (de_bin od_mul (de_ix ix_d (v_ 0) de_int (fun _ _ => rfl)) (de_ix ix_d (v_ 1) de_int (fun _ _ => rfl))) da_nil)))))
abbrev N_law_taken : List Str := ["row", "lead", "column", "j"]
theorem c_law_taken : FnScope N_law_taken ["row", "lead", "column"] (defScope s_law_taken) := ⟨rfl, rfl, rfl, by decide +kernel, rfl, by decide +kernel, by decide +kernel⟩
theorem g_law_taken (fc : Fc K mg) : Ok prog w K mg 4 "_law_taken" false false Q.F_law_taken := by
  intro base
  obtain ⟨fd, F⟩ := fc.d__law_taken
  refine fnG_of (ps := ["row", "lead", "column"]) (N := N_law_taken) (O := []) (O' := []) F c_law_taken (F.bindsN fun _ _ _ _ _ _ us hl => match us, hl with | [_, _, _], _ => rfl) .nil (fun _ _ => .nil) (by decide) (by decide) (by decide) fun cdv A outer s H E A0 q hio hr hg => ?_
  obtain rfl : q = none := by cases q with
    | none => rfl
    | some _ => cases hio
  have hu := Room.u64 hr
  have hv := Room.u65 hr
  exact (dss_one (ds_ret trivial (DF.toE (df_lc (by rfl) c_law_taken.nd (by rfl) (di_range1 (by rfl) fc.f_range (da_cons (de_b bt_len b_len (by rfl) fc.f_len (da_cons (v_ 0) da_nil)) da_nil)) (blkOk_by (own := [("j", 3)]) (by kernel_rfl)) (fun _ _ _ _ _ => (dg_name rfl rfl c_law_taken.nd rfl (Or.inl rfl))) (fun _ _ _ _ _ => pts_nil) tYes_go (fun _ _ _ _ _ => (de_call (g_law_less fc _) (hr.mono (by decide)) hg (takes0 (by rfl)) (by rfl) fc.g__law_less (da_cons (de_ix ix_d (v_ 0) (v_ 3) (fun _ _ => rfl)) (da_cons (de_call (g_law_times fc _) (hr.mono (by decide)) hg (takes0 (by rfl)) (by rfl) fc.g__law_times (da_cons (de_ix ix_d (v_ 0) (v_ 2) (fun _ _ => rfl)) (da_cons (de_ix ix_d (v_ 1) (v_ 3) (fun _ _ => rfl)) da_nil))) da_nil))))))))
abbrev N_law_echelon : List Str := ["width", "rows", "left", "row", "done", "column", "here", "at", "lead", "x"]
theorem c_law_echelon : FnScope N_law_echelon ["width", "rows"] (defScope s_law_echelon) := ⟨rfl, rfl, rfl, by decide +kernel, rfl, by decide +kernel, by decide +kernel⟩
theorem g_law_echelon (fc : Fc K mg) : Ok prog w K mg 5 "_law_echelon" false false Q.F_law_echelon := by
  intro base
  obtain ⟨fd, F⟩ := fc.d__law_echelon
  refine fnG_of (ps := ["width", "rows"]) (N := N_law_echelon) (O := []) (O' := []) F c_law_echelon (F.bindsN fun _ _ _ _ _ _ us hl => match us, hl with | [_, _], _ => rfl) .nil (fun _ _ => .nil) (by decide) (by decide) (by decide) fun cdv A outer s H E A0 q hio hr hg => ?_
  obtain rfl : q = none := by cases q with
    | none => rfl
    | some _ => cases hio
  have hu := Room.u64 hr
  have hv := Room.u65 hr
  exact (dss_forgetO 2 (.inl (by decide)) (dss_cons (ds_own trivial (df_lc (by rfl) c_law_echelon.nd (by rfl) (di_seq (v_ 1)) (blkOk_by (own := [("row", 3)]) (by kernel_rfl)) (fun _ _ _ _ _ => (dg_name rfl rfl c_law_echelon.nd rfl (Or.inl rfl))) (fun _ _ _ _ _ => pts_nil) tYes_go (fun _ _ _ _ _ => (de_ty bt_list (b_list (by rfl)) (by rfl) fc.f_list (da_cons (v_ 3) da_nil)))) rfl (.inl (by decide)) c_law_echelon.nd rfl (Or.inr rfl)) (dss_cons (ds_asg (vs := [4]) trivial (DF.toE (df_lst da_nil)) (dg_name rfl rfl c_law_echelon.nd rfl (Or.inl rfl))) (dss_cons (ds_for (vs := [5]) trivial cx_pw rfl (di_range1 (by rfl) fc.f_range (da_cons (v_ 0) da_nil)) (dg_name rfl rfl c_law_echelon.nd rfl (Or.inr rfl)) (dss_cons (ds_setLc1 trivial rfl rfl c_law_echelon.nd rfl rfl (sw_true rfl rfl rfl (by kernel_rfl)) (by rfl) (di_range1 (by rfl) fc.f_range (da_cons (de_bO (by rfl) bt_len b_len (by rfl) fc.f_len (pv 2)) da_nil)) (blkOk_by (own := [("at", 7)]) (by kernel_rfl)) (fun _ _ _ _ _ => (dg_name rfl rfl c_law_echelon.nd rfl (Or.inl rfl))) (fun _ _ _ _ _ => (dt_cmp (od_ne hu) (de_ix ix_d (de_ix ix_d (de_ixB ix_d gIx_no (db_o (by rfl) (pv 2)) (db_e (v_ 7)) (fun _ _ => rfl)) (v_ 5) (fun _ _ => rfl)) de_int (fun _ _ => rfl)) de_int (pm _ _)))  (fun _ _ _ _ _ => (v_ 7))) (dss_cons (ds_if trivial (dt_not (dt_tru (v_ 6))) (dss_one ds_cnt) dss_nil) (dss_cons (ds_asg (vs := [8]) trivial (de_om om_pop PySem.F.slot_list_pop PySem.F.type_list_pop (by rfl) (pv 2) (da_cons (de_ix ix_d (v_ 6) de_int (fun _ _ => rfl)) da_nil)) (dg_name rfl rfl c_law_echelon.nd rfl (Or.inr rfl))) (dss_cons (ds_asg (vs := [8]) trivial (DF.toE (df_lc (by rfl) c_law_echelon.nd (by rfl) (di_seq (v_ 8)) (blkOk_by (own := [("x", 9)]) (by kernel_rfl)) (fun _ _ _ _ _ => (dg_name rfl rfl c_law_echelon.nd rfl (Or.inl rfl))) (fun _ _ _ _ _ => pts_nil) tYes_go (fun _ _ _ _ _ => (de_call (g_law_over fc _) (hr.mono (by decide)) hg (takes0 (by rfl)) (by rfl) fc.g__law_over (da_cons (v_ 9) (da_cons (de_ix ix_d (v_ 8) (v_ 5) (fun _ _ => rfl)) da_nil)))))) (dg_name rfl rfl c_law_echelon.nd rfl (Or.inr rfl))) (dss_freeze 2 (.inl (by decide)) (dss_cons (ds_ownN trivial (df_lc (by rfl) c_law_echelon.nd (by rfl) (di_seq (v_ 2)) (blkOk_by (own := [("row", 3)]) (by kernel_rfl)) (fun _ _ _ _ _ => (dg_name rfl rfl c_law_echelon.nd rfl (Or.inl rfl))) (fun _ _ _ _ _ => pts_nil) tYes_go (fun _ _ _ _ _ => (de_call (g_law_taken fc _) (hr.mono (by decide)) hg (takes0 (by rfl)) (by rfl) fc.g__law_taken (da_cons (v_ 3) (da_cons (v_ 8) (da_cons (v_ 5) da_nil)))))) rfl (.inl (by decide)) c_law_echelon.nd rfl (Or.inr rfl)) (dss_one (ds_asg (vs := [4]) trivial (de_bin od_add (DF.toE (df_lc (by rfl) c_law_echelon.nd (by rfl) (di_seq (v_ 4)) (blkOk_by (own := [("row", 3)]) (by kernel_rfl)) (fun _ _ _ _ _ => (dg_name rfl rfl c_law_echelon.nd rfl (Or.inl rfl))) (fun _ _ _ _ _ => pts_nil) tYes_go (fun _ _ _ _ _ => (de_call (g_law_taken fc _) (hr.mono (by decide)) hg (takes0 (by rfl)) (by rfl) fc.g__law_taken (da_cons (v_ 3) (da_cons (v_ 8) (da_cons (v_ 5) da_nil))))))) (DF.toE (df_lst (da_cons (v_ 8) da_nil)))) (dg_name rfl rfl c_law_echelon.nd rfl (Or.inl rfl))))))))))) (dss_one (ds_ret trivial (DF.toE (df_lc (by rfl) c_law_echelon.nd (by rfl) (di_seq (v_ 4)) (blkOk_by (own := [("row", 3)]) (by kernel_rfl)) (fun _ _ _ _ _ => (dg_name rfl rfl c_law_echelon.nd rfl (Or.inl rfl))) (fun _ _ _ _ _ => pts_nil) tYes_go (fun _ _ _ _ _ => (de_ty bt_tuple b_tuple (by rfl) fc.f_tuple (da_cons (v_ 3) da_nil)))))))))))
abbrev N_law_numbers : List Str := ["rows", "a", "row"]
theorem c_law_numbers : FnScope N_law_numbers ["rows"] (defScope s_law_numbers) := ⟨rfl, rfl, rfl, by decide +kernel, rfl, by decide +kernel, by decide +kernel⟩
theorem g_law_numbers (fc : Fc K mg) : Ok prog w K mg 1 "_law_numbers" false false Q.F_law_numbers_v3 := by
  intro base
  obtain ⟨fd, F⟩ := fc.d__law_numbers
  refine fnG_of (ps := ["rows"]) (N := N_law_numbers) (O := []) (O' := []) F c_law_numbers (F.bindsN fun _ _ _ _ _ _ us hl => match us, hl with | [_], _ => rfl) .nil (fun _ _ => .nil) (by decide) (by decide) (by decide) fun cdv A outer s H E A0 q hio hr hg => ?_
  obtain rfl : q = none := by cases q with
    | none => rfl
    | some _ => cases hio
  have hu := Room.u64 hr
  have hv := Room.u65 hr
  exact (dss_one (ds_ret trivial (DF.toE (df_lc (by rfl) c_law_numbers.nd (by rfl) (di_seq (v_ 0)) (blkOk_by (own := [("row", 2)]) (by kernel_rfl)) (fun _ _ _ _ _ => (dg_name rfl rfl c_law_numbers.nd rfl (Or.inl rfl))) (fun _ _ _ _ _ => pts_nil) tYes_go (fun _ _ _ _ _ => (de_ty bt_tuple b_tuple (by rfl) fc.f_tuple (da_cons (DF.toE (df_lc (by rfl) c_law_numbers.nd (by rfl) (di_seq (v_ 2)) (blkOk_by (own := [("a", 1)]) (by kernel_rfl)) (fun _ _ _ _ _ => (dg_name rfl rfl c_law_numbers.nd rfl (Or.inl rfl))) (fun _ _ _ _ _ => pts_nil) tYes_go (fun _ _ _ _ _ => (de_tup (da_cons (v_ 1) (da_cons de_int da_nil)))))) da_nil)))))))
abbrev N_law_spoilt : List Str := ["draws", "plane", "row", "at", "kind", "a"]
theorem c_law_spoilt : FnScope N_law_spoilt ["draws", "plane"] (defScope s_law_spoilt) := ⟨rfl, rfl, rfl, by decide +kernel, rfl, by decide +kernel, by decide +kernel⟩
theorem g_law_spoilt (fc : Fc K mg) : Ok prog w K mg 2 "_law_spoilt" true false Q.F_law_spoilt_v3 := by
  intro base
  obtain ⟨fd, F⟩ := fc.d__law_spoilt
  refine fnG_of (ps := ["draws", "plane"]) (N := N_law_spoilt) (O := [0]) (O' := []) F c_law_spoilt (F.bindsN fun _ _ _ _ _ _ us hl => match us, hl with | [_, _], _ => rfl) .nil (fun _ _ => .nil) (by decide) (by decide) (by decide) fun cdv A outer s H E A0 q hio hr hg => ?_
  have hu := Room.u64 hr
  have hv := Room.u65 hr
  exact (dss_forgetO 2 (.inl (by decide)) (dss_cons (ds_own trivial (df_ty bt_list (b_listF (by rfl)) (by rfl) fc.f_list (da_cons (v_ 1) da_nil)) rfl (.inl (by decide)) c_law_spoilt.nd rfl (Or.inl rfl)) (dss_cons (ds_asg (vs := [3]) trivial (de_bin od_mod (de_ty bt_int b_int (by rfl) fc.f_int (da_cons (de_callio (g_law_next fc _) (hr.mono (by decide)) hg cx_tk (by rfl) fc.g__law_next (by rfl) (pv 0) da_nil) da_nil)) (de_bO (by rfl) bt_len b_len (by rfl) fc.f_len (pv 2))) (dg_name rfl rfl c_law_spoilt.nd rfl (Or.inl rfl))) (dss_cons (ds_asg (vs := [4]) trivial (de_bin od_mod (de_ty bt_int b_int (by rfl) fc.f_int (da_cons (de_callio (g_law_next fc _) (hr.mono (by decide)) hg cx_tk (by rfl) fc.g__law_next (by rfl) (pv 0) da_nil) da_nil)) de_int) (dg_name rfl rfl c_law_spoilt.nd rfl (Or.inl rfl))) (dss_cons (ds_if trivial (dt_cmp (od_eq hu) (v_ 4) de_int (pm _ _)) (dss_one (ds_asg (vs := []) trivial (de_ix ix_d (DF.toE (df_lst (da_cons de_int (da_cons (de_un ud_neg de_int) (da_cons de_int (da_cons (de_un ud_neg de_int) (da_cons de_int (da_cons (de_bin od_pow de_int de_int) da_nil)))))))) (de_bin od_mod (de_ty bt_int b_int (by rfl) fc.f_int (da_cons (de_callio (g_law_next fc _) (hr.mono (by decide)) hg cx_tk (by rfl) fc.g__law_next (by rfl) (pv 0) da_nil) da_nil)) de_int) (fun _ _ => rfl)) (dg_sub (by rfl) (pv 2) (v_ 3)))) (dss_one (ds_if trivial (dt_cmp (od_eq hu) (v_ 4) de_int (pm _ _)) (dss_freeze 2 (.inl (by decide)) (dss_one (ds_ownLcN trivial rfl (.inl (by decide)) rfl c_law_spoilt.nd rfl rfl (sw_true rfl rfl rfl (by kernel_rfl)) (by rfl) (di_seq (v_ 2)) (blkOk_by (own := [("a", 5)]) (by kernel_rfl)) (fun _ _ _ _ _ => (dg_name rfl rfl c_law_spoilt.nd rfl (Or.inl rfl))) (fun _ _ _ _ _ => pts_nil) tYes_go (fun _ _ _ _ _ => (de_bin od_mul (v_ 5) (de_bin od_add de_int (de_bin od_mod (de_ty bt_int b_int (by rfl) fc.f_int (da_cons (de_callio (g_law_next fc _) (hr.mono (by decide)) hg (takes0 (by rfl)) (by rfl) fc.g__law_next (by rfl) (pv 0) da_nil) da_nil)) de_int))))))) (dss_one (ds_if trivial (dt_cmp (od_eq hu) (v_ 4) de_int (pm _ _)) (dss_one (ds_expr trivial (de_om om_append PySem.F.slot_list_append PySem.F.type_list_append (by rfl) (pv 2) (da_cons (de_bin od_mod (de_ty bt_int b_int (by rfl) fc.f_int (da_cons (de_callio (g_law_next fc _) (hr.mono (by decide)) hg cx_tk (by rfl) fc.g__law_next (by rfl) (pv 0) da_nil) da_nil)) de_int) da_nil)))) (dss_one (ds_if trivial (dt_cmp (od_eq hu) (v_ 4) de_int (pm _ _)) (dss_one (ds_expr trivial (de_om om_pop PySem.F.slot_list_pop PySem.F.type_list_pop (by rfl) (pv 2) (da_cons (v_ 3) da_nil)))) (dss_one (ds_if trivial (dt_cmp (od_eq hu) (v_ 4) de_int (pm _ _)) (dss_one (ds_own trivial (df_bin od_addF (de_bin od_mul (DF.toE (df_lst (da_cons de_int da_nil))) (de_bin od_sub (de_bO (by rfl) bt_len b_len (by rfl) fc.f_len (pv 2)) de_int)) (DF.toE (df_lst (da_cons de_int da_nil)))) rfl (.inl (by decide)) c_law_spoilt.nd rfl (Or.inl rfl))) (dss_one (ds_asg (vs := []) trivial (de_bin od_sub (de_bin od_mod (de_ty bt_int b_int (by rfl) fc.f_int (da_cons (de_callio (g_law_next fc _) (hr.mono (by decide)) hg cx_tk (by rfl) fc.g__law_next (by rfl) (pv 0) da_nil) da_nil)) de_int) de_int) (dg_sub (by rfl) (pv 2) (v_ 3))))))))))))) (dss_one (ds_ret trivial (de_tyO (by rfl) bt_tuple b_tuple (by rfl) fc.f_tuple (pv 2)))))))))
abbrev N_law_is_plane : List Str := ["n", "row", "common", "a"]
theorem c_law_is_plane : FnScope N_law_is_plane ["n", "row"] (defScope s_law_is_plane) := ⟨rfl, rfl, rfl, by decide +kernel, rfl, by decide +kernel, by decide +kernel⟩
theorem g_law_is_plane (fc : Fc K mg) : Ok prog w K mg 2 "_law_is_plane" false false Q.F_law_is_plane := by
  intro base
  obtain ⟨fd, F⟩ := fc.d__law_is_plane
  refine fnG_of (ps := ["n", "row"]) (N := N_law_is_plane) (O := []) (O' := []) F c_law_is_plane (F.bindsN fun _ _ _ _ _ _ us hl => match us, hl with | [_, _], _ => rfl) .nil (fun _ _ => .nil) (by decide) (by decide) (by decide) fun cdv A outer s H E A0 q hio hr hg => ?_
  obtain rfl : q = none := by cases q with
    | none => rfl
    | some _ => cases hio
  have hu := Room.u64 hr
  have hv := Room.u65 hr
  exact (dss_cons (ds_asg (vs := [2]) trivial de_int (dg_name rfl rfl c_law_is_plane.nd rfl (Or.inl rfl))) (dss_cons (ds_for (vs := [3]) trivial cx_pw rfl (di_seq (v_ 1)) (dg_name rfl rfl c_law_is_plane.nd rfl (Or.inl rfl)) (dss_one (ds_asg (vs := [2]) trivial (de_call (g_law_divisor fc _) (hr.mono (by decide)) hg cx_tk (by rfl) fc.g__law_divisor (da_cons (v_ 2) (da_cons (v_ 3) da_nil))) (dg_name rfl rfl c_law_is_plane.nd rfl (Or.inl rfl))))) (dss_cons (ds_if trivial (DW.t (dw_or (dt_cmp (od_ne hu) (de_b bt_len b_len (by rfl) fc.f_len (da_cons (v_ 1) da_nil)) (de_bin od_add (v_ 0) de_int) (pm _ _)) (dw_or (dt_cmp (od_ne hu) (v_ 2) de_int (pm _ _)) (dw_or1 (dt_not (dt_tru (de_b bt_all (b_all (by rfl)) (by rfl) fc.f_all (da_cons (DF.toE (df_lc (by rfl) c_law_is_plane.nd (by rfl) (di_seq (v_ 1)) (blkOk_by (own := [("a", 3)]) (by kernel_rfl)) (fun _ _ _ _ _ => (dg_name rfl rfl c_law_is_plane.nd rfl (Or.inl rfl))) (fun _ _ _ _ _ => pts_nil) tYes_go (fun _ _ _ _ _ => (de_cmp od_le (de_b bt_abs b_abs (by rfl) fc.f_abs (da_cons (v_ 3) da_nil)) de_int (pm _ _))))) da_nil)))))))) (dss_one (ds_ret trivial de_bl)) dss_nil) (dss_one (ds_ret trivial (de_b bt_any (b_any (by rfl)) (by rfl) fc.f_any (da_cons (DF.toE (df_lc (by rfl) c_law_is_plane.nd (by rfl) (di_seq (de_sl (db_e (v_ 1)) dp_no (dp_e (v_ 0)))) (blkOk_by (own := [("a", 3)]) (by kernel_rfl)) (fun _ _ _ _ _ => (dg_name rfl rfl c_law_is_plane.nd rfl (Or.inl rfl))) (fun _ _ _ _ _ => pts_nil) tYes_go (fun _ _ _ _ _ => (de_cmp (od_ne hu) (v_ 3) de_int (pm _ _))))) da_nil)))))))
abbrev Ncheck_index : List Str := ["planes", "at"]
theorem ccheck_index : FnScope Ncheck_index ["planes", "at"] (defScope scheck_index) := ⟨rfl, rfl, rfl, by decide +kernel, rfl, by decide +kernel, by decide +kernel⟩
theorem gcheck_index (fc : Fc K mg) : Ok prog w K mg 1 "check_index" false false Q.Fcheck_index := by
  intro base
  obtain ⟨fd, F⟩ := fc.d_check_index
  refine fnG_of (ps := ["planes", "at"]) (N := Ncheck_index) (O := []) (O' := []) F ccheck_index (F.bindsN fun _ _ _ _ _ _ us hl => match us, hl with | [_, _], _ => rfl) .nil (fun _ _ => .nil) (by decide) (by decide) (by decide) fun cdv A outer s H E A0 q hio hr hg => ?_
  obtain rfl : q = none := by cases q with
    | none => rfl
    | some _ => cases hio
  have hu := Room.u64 hr
  have hv := Room.u65 hr
  exact (dss_one (ds_if trivial (dt_not (dt_chain od_le od_lt de_int (v_ 1) (de_b bt_len b_len (by rfl) fc.f_len (da_cons (de_fld (fldC_cons fc.cl_Planes fc.na_Planes_kept fldC_nil) (v_ 0)) da_nil)))) (dss_one (ds_raiseC fc.e_BadNumber trivial cx_tk)) dss_nil))
abbrev Ncheck_indexes : List Str := ["planes", "indexes", "at"]
theorem ccheck_indexes : FnScope Ncheck_indexes ["planes", "indexes"] (defScope scheck_indexes) := ⟨rfl, rfl, rfl, by decide +kernel, rfl, by decide +kernel, by decide +kernel⟩
theorem gcheck_indexes (fc : Fc K mg) : Ok prog w K mg 2 "check_indexes" false false Q.Fcheck_indexes := by
  intro base
  obtain ⟨fd, F⟩ := fc.d_check_indexes
  refine fnG_of (ps := ["planes", "indexes"]) (N := Ncheck_indexes) (O := []) (O' := []) F ccheck_indexes (F.bindsN fun _ _ _ _ _ _ us hl => match us, hl with | [_, _], _ => rfl) .nil (fun _ _ => .nil) (by decide) (by decide) (by decide) fun cdv A outer s H E A0 q hio hr hg => ?_
  obtain rfl : q = none := by cases q with
    | none => rfl
    | some _ => cases hio
  have hu := Room.u64 hr
  have hv := Room.u65 hr
  exact (dss_cons (ds_for (vs := [2]) trivial cx_pw rfl (di_seq (v_ 1)) (dg_name rfl rfl ccheck_indexes.nd rfl (Or.inl rfl)) (dss_one (ds_expr trivial (de_call (gcheck_index fc _) (hr.mono (by decide)) hg cx_tk (by rfl) fc.g_check_index (da_cons (v_ 0) (da_cons (v_ 2) da_nil)))))) (dss_one (ds_if trivial (dt_not (dt_tru (de_b bt_all (b_all (by rfl)) (by rfl) fc.f_all (da_cons (DF.toE (df_lc (by rfl) ccheck_indexes.nd (by rfl) (di_range2 (by rfl) fc.f_range (da_cons de_int (da_cons (de_b bt_len b_len (by rfl) fc.f_len (da_cons (v_ 1) da_nil)) da_nil))) (blkOk_by (own := [("at", 2)]) (by kernel_rfl)) (fun _ _ _ _ _ => (dg_name rfl rfl ccheck_indexes.nd rfl (Or.inl rfl))) (fun _ _ _ _ _ => pts_nil) tYes_go (fun _ _ _ _ _ => (de_cmp od_lt (de_ix ix_d (v_ 1) (de_bin od_sub (v_ 2) de_int) (fun _ _ => rfl)) (de_ix ix_d (v_ 1) (v_ 2) (fun _ _ => rfl)) (pm _ _))))) da_nil)))) (dss_one (ds_raiseC fc.e_BadNumber trivial cx_tk)) dss_nil)))
abbrev Ncheck_letters : List Str := ["n"]
theorem ccheck_letters : FnScope Ncheck_letters ["n"] (defScope scheck_letters) := ⟨rfl, rfl, rfl, by decide +kernel, rfl, by decide +kernel, by decide +kernel⟩
theorem gcheck_letters (fc : Fc K mg) : Ok prog w K mg 1 "check_letters" false false Q.Fcheck_letters := by
  intro base
  obtain ⟨fd, F⟩ := fc.d_check_letters
  refine fnG_of (ps := ["n"]) (N := Ncheck_letters) (O := []) (O' := []) F ccheck_letters (F.bindsN fun _ _ _ _ _ _ us hl => match us, hl with | [_], _ => rfl) .nil (fun _ _ => .nil) (by decide) (by decide) (by decide) fun cdv A outer s H E A0 q hio hr hg => ?_
  obtain rfl : q = none := by cases q with
    | none => rfl
    | some _ => cases hio
  have hu := Room.u64 hr
  have hv := Room.u65 hr
  exact (dss_one (ds_if trivial (dt_not (dt_chain od_le od_le de_int (v_ 0) (gi_ fc.c_MOST_LETTERS))) (dss_one (ds_raiseC fc.e_BadNumber trivial cx_tk)) dss_nil))
abbrev Ndivisor : List Str := ["a", "b"]
theorem cdivisor : FnScope Ndivisor ["a", "b"] (defScope sdivisor) := ⟨rfl, rfl, rfl, by decide +kernel, rfl, by decide +kernel, by decide +kernel⟩
theorem gdivisor (fc : Fc K mg) : Ok prog w K mg 1 "divisor" false false Q.Fdivisor := by
  intro base
  obtain ⟨fd, F⟩ := fc.d_divisor
  refine fnG_of (ps := ["a", "b"]) (N := Ndivisor) (O := []) (O' := []) F cdivisor (F.bindsN fun _ _ _ _ _ _ us hl => match us, hl with | [_, _], _ => rfl) .nil (fun _ _ => .nil) (by decide) (by decide) (by decide) fun cdv A outer s H E A0 q hio hr hg => ?_
  obtain rfl : q = none := by cases q with
    | none => rfl
    | some _ => cases hio
  have hu := Room.u64 hr
  have hv := Room.u65 hr
  exact (dss_cons (ds_par (i := 0) (j := 1) trivial rfl cdivisor.nd rfl rfl (by decide) rfl rfl rfl rfl (da_cons (de_b bt_abs b_abs (by rfl) fc.f_abs (da_cons (v_ 0) da_nil)) (da_cons (de_b bt_abs b_abs (by rfl) fc.f_abs (da_cons (v_ 1) da_nil)) da_nil))) (dss_cons (ds_while _ trivial cx_pw (dt_cmp (od_ne hu) (v_ 1) de_int (pm _ _)) (dss_one (ds_par (i := 0) (j := 1) trivial rfl cdivisor.nd rfl rfl (by decide) rfl rfl rfl rfl (da_cons (v_ 1) (da_cons (de_bin od_mod (v_ 0) (v_ 1)) da_nil))))) (dss_one (ds_ret trivial (v_ 0)))))
abbrev Nis_plane : List Str := ["n", "plane", "a", "common"]
theorem cis_plane : FnScope Nis_plane ["n", "plane"] (defScope sis_plane) := ⟨rfl, rfl, rfl, by decide +kernel, rfl, by decide +kernel, by decide +kernel⟩
theorem gis_plane (fc : Fc K mg) : Ok prog w K mg 2 "is_plane" false false Q.Fis_plane := by
  intro base
  obtain ⟨fd, F⟩ := fc.d_is_plane
  refine fnG_of (ps := ["n", "plane"]) (N := Nis_plane) (O := []) (O' := []) F cis_plane (F.bindsN fun _ _ _ _ _ _ us hl => match us, hl with | [_, _], _ => rfl) .nil (fun _ _ => .nil) (by decide) (by decide) (by decide) fun cdv A outer s H E A0 q hio hr hg => ?_
  obtain rfl : q = none := by cases q with
    | none => rfl
    | some _ => cases hio
  have hu := Room.u64 hr
  have hv := Room.u65 hr
  exact (dss_cons (ds_expr trivial (de_call (gcheck_letters fc _) (hr.mono (by decide)) hg cx_tk (by rfl) fc.g_check_letters (da_cons (v_ 0) da_nil))) (dss_cons (ds_if trivial (DW.t (dw_or (dt_cmp (od_ne hu) (de_b bt_len b_len (by rfl) fc.f_len (da_cons (v_ 1) da_nil)) (de_bin od_add (v_ 0) de_int) (pm _ _)) (dw_or1 (dt_not (dt_tru (de_b bt_all (b_all (by rfl)) (by rfl) fc.f_all (da_cons (DF.toE (df_lc (by rfl) cis_plane.nd (by rfl) (di_seq (v_ 1)) (blkOk_by (own := [("a", 2)]) (by kernel_rfl)) (fun _ _ _ _ _ => (dg_name rfl rfl cis_plane.nd rfl (Or.inl rfl))) (fun _ _ _ _ _ => pts_nil) tYes_go (fun _ _ _ _ _ => (de_cmp od_le (de_b bt_abs b_abs (by rfl) fc.f_abs (da_cons (v_ 2) da_nil)) (gi_ fc.c_MOST_ENTRY) (pm _ _))))) da_nil))))))) (dss_one (ds_ret trivial de_bl)) dss_nil) (dss_cons (ds_asg (vs := [3]) trivial de_int (dg_name rfl rfl cis_plane.nd rfl (Or.inl rfl))) (dss_cons (ds_for (vs := [2]) trivial cx_pw rfl (di_seq (v_ 1)) (dg_name rfl rfl cis_plane.nd rfl (Or.inl rfl)) (dss_one (ds_asg (vs := [3]) trivial (de_call (gdivisor fc _) (hr.mono (by decide)) hg cx_tk (by rfl) fc.g_divisor (da_cons (v_ 3) (da_cons (v_ 2) da_nil))) (dg_name rfl rfl cis_plane.nd rfl (Or.inl rfl))))) (dss_one (ds_ret trivial (de_and (de_cmp (od_eq hu) (v_ 3) de_int (pm _ _)) (de_one (de_b bt_any (b_any (by rfl)) (by rfl) fc.f_any (da_cons (DF.toE (df_lc (by rfl) cis_plane.nd (by rfl) (di_seq (de_sl (db_e (v_ 1)) dp_no (dp_e (v_ 0)))) (blkOk_by (own := [("a", 2)]) (by kernel_rfl)) (fun _ _ _ _ _ => (dg_name rfl rfl cis_plane.nd rfl (Or.inl rfl))) (fun _ _ _ _ _ => pts_nil) tYes_go (fun _ _ _ _ _ => (de_cmp (od_ne hu) (v_ 2) de_int (pm _ _))))) da_nil))))))))))
abbrev Nother_way : List Str := ["plane", "a"]
theorem cother_way : FnScope Nother_way ["plane"] (defScope sother_way) := ⟨rfl, rfl, rfl, by decide +kernel, rfl, by decide +kernel, by decide +kernel⟩
theorem gother_way (fc : Fc K mg) : Ok prog w K mg 1 "other_way" false false Q.Fother_way := by
  intro base
  obtain ⟨fd, F⟩ := fc.d_other_way
  refine fnG_of (ps := ["plane"]) (N := Nother_way) (O := []) (O' := []) F cother_way (F.bindsN fun _ _ _ _ _ _ us hl => match us, hl with | [_], _ => rfl) .nil (fun _ _ => .nil) (by decide) (by decide) (by decide) fun cdv A outer s H E A0 q hio hr hg => ?_
  obtain rfl : q = none := by cases q with
    | none => rfl
    | some _ => cases hio
  have hu := Room.u64 hr
  have hv := Room.u65 hr
  exact (dss_one (ds_ret trivial (de_ty bt_tuple b_tuple (by rfl) fc.f_tuple (da_cons (DF.toE (df_lc (by rfl) cother_way.nd (by rfl) (di_seq (v_ 0)) (blkOk_by (own := [("a", 1)]) (by kernel_rfl)) (fun _ _ _ _ _ => (dg_name rfl rfl cother_way.nd rfl (Or.inl rfl))) (fun _ _ _ _ _ => pts_nil) tYes_go (fun _ _ _ _ _ => (de_un ud_neg (v_ 1))))) da_nil))))
abbrev Nare_planes : List Str := ["n", "rows", "row", "at", "other"]
theorem care_planes : FnScope Nare_planes ["n", "rows"] (defScope sare_planes) := ⟨rfl, rfl, rfl, by decide +kernel, rfl, by decide +kernel, by decide +kernel⟩
theorem gare_planes (fc : Fc K mg) : Ok prog w K mg 3 "are_planes" false false Q.Fare_planes := by
  intro base
  obtain ⟨fd, F⟩ := fc.d_are_planes
  refine fnG_of (ps := ["n", "rows"]) (N := Nare_planes) (O := []) (O' := []) F care_planes (F.bindsN fun _ _ _ _ _ _ us hl => match us, hl with | [_, _], _ => rfl) .nil (fun _ _ => .nil) (by decide) (by decide) (by decide) fun cdv A outer s H E A0 q hio hr hg => ?_
  obtain rfl : q = none := by cases q with
    | none => rfl
    | some _ => cases hio
  have hu := Room.u64 hr
  have hv := Room.u65 hr
  exact (dss_cons (ds_if trivial (DW.t (dw_or (dt_cmp od_gt (de_b bt_len b_len (by rfl) fc.f_len (da_cons (v_ 1) da_nil)) (gi_ fc.c_MOST_PLANES) (pm _ _)) (dw_or1 (dt_not (dt_tru (de_b bt_all (b_all (by rfl)) (by rfl) fc.f_all (da_cons (DF.toE (df_lc (by rfl) care_planes.nd (by rfl) (di_seq (v_ 1)) (blkOk_by (own := [("row", 2)]) (by kernel_rfl)) (fun _ _ _ _ _ => (dg_name rfl rfl care_planes.nd rfl (Or.inl rfl))) (fun _ _ _ _ _ => pts_nil) tYes_go (fun _ _ _ _ _ => (de_call (gis_plane fc _) (hr.mono (by decide)) hg (takes0 (by rfl)) (by rfl) fc.g_is_plane (da_cons (v_ 0) (da_cons (v_ 2) da_nil)))))) da_nil))))))) (dss_one (ds_ret trivial de_bl)) dss_nil) (dss_cons (ds_for (vs := [3, 2]) trivial cx_pw rfl (di_enumS (by rfl) fc.f_enumerate (da_cons (v_ 1) da_nil)) (dg_tup rfl (dgs_cons (dg_name rfl rfl care_planes.nd rfl (Or.inl rfl)) (dgs_cons (dg_name rfl rfl care_planes.nd rfl (Or.inr rfl)) dgs_nil))) (dss_one (ds_if trivial (dt_tru (de_b bt_any (b_any (by rfl)) (by rfl) fc.f_any (da_cons (DF.toE (df_lc (by rfl) care_planes.nd (by rfl) (di_seq (de_sl (db_e (v_ 1)) dp_no (dp_e (v_ 3)))) (blkOk_by (own := [("other", 4)]) (by kernel_rfl)) (fun _ _ _ _ _ => (dg_name rfl rfl care_planes.nd rfl (Or.inl rfl))) (fun _ _ _ _ _ => pts_nil) tYes_go (fun _ _ _ _ _ => (de_or (de_cmp (od_eq hu) (de_ty bt_tuple b_tuple (by rfl) fc.f_tuple (da_cons (v_ 2) da_nil)) (v_ 4) (pm _ _)) (de_one (de_cmp (od_eq hu) (de_call (gother_way fc _) (hr.mono (by decide)) hg (takes0 (by rfl)) (by rfl) fc.g_other_way (da_cons (v_ 2) da_nil)) (v_ 4) (pm _ _))))))) da_nil))) (dss_one (ds_ret trivial de_bl)) dss_nil))) (dss_one (ds_ret trivial de_bl))))
abbrev NPlanes_init : List Str := ["self", "n", "rows"]
theorem cPlanes_init : FnScope NPlanes_init ["self", "n", "rows"] (defScope sPlanes_init) := ⟨rfl, rfl, rfl, by decide +kernel, rfl, by decide +kernel, by decide +kernel⟩
theorem gPlanes_init (fc : Fc K mg) : ∀ base : Heap, FnG prog w K mg base 4 (He.ma K (He.ga K "Planes") "__init__") true false Q.FPlanes_init := by
  intro base
  obtain ⟨fd, F⟩ := fc.d_Planes_init
  refine fnG_of (ps := ["self", "n", "rows"]) (N := NPlanes_init) (O := [0]) (O' := [0]) F cPlanes_init (F.bindsN fun _ _ _ _ _ _ us hl => match us, hl with | [_, _, _], _ => rfl) .nil (fun _ _ => .nil) (by decide) (by decide) (by decide) fun cdv A outer s H E A0 q hio hr hg => ?_
  have hu := Room.u64 hr
  have hv := Room.u65 hr
  exact (dss_cons (ds_expr trivial (de_call (gcheck_letters fc _) (hr.mono (by decide)) hg cx_tk (by rfl) fc.g_check_letters (da_cons (v_ 1) da_nil))) (dss_cons (ds_if trivial (dt_not (dt_tru (de_call (gare_planes fc _) (hr.mono (by decide)) hg cx_tk (by rfl) fc.g_are_planes (da_cons (v_ 1) (da_cons (v_ 2) da_nil))))) (dss_one (ds_raiseC fc.e_NotPlanes trivial cx_tk)) dss_nil) (dss_cons (ds_fld trivial (by rfl) (fldC_cons fc.cl_Planes fc.na_Planes_n fldC_nil) (pv 0) (v_ 1)) (dss_one (ds_fld trivial (by rfl) (fldC_cons fc.cl_Planes fc.na_Planes_kept fldC_nil) (pv 0) (de_ty bt_tuple b_tuple (by rfl) fc.f_tuple (da_cons (v_ 2) da_nil)))))))
abbrev NPlanes_only : List Str := ["self", "indexes", "at"]
theorem cPlanes_only : FnScope NPlanes_only ["self", "indexes"] (defScope sPlanes_only) := ⟨rfl, rfl, rfl, by decide +kernel, rfl, by decide +kernel, by decide +kernel⟩
theorem gPlanes_only (fc : Fc K mg) : ∀ base : Heap, FnG prog w K mg base 6 (He.ma K (He.ga K "Planes") "only") false false Q.FPlanes_only := by
  intro base
  obtain ⟨fd, F⟩ := fc.d_Planes_only
  refine fnG_of (ps := ["self", "indexes"]) (N := NPlanes_only) (O := []) (O' := []) F cPlanes_only (F.bindsN fun _ _ _ _ _ _ us hl => match us, hl with | [_, _], _ => rfl) .nil (fun _ _ => .nil) (by decide) (by decide) (by decide) fun cdv A outer s H E A0 q hio hr hg => ?_
  obtain rfl : q = none := by cases q with
    | none => rfl
    | some _ => cases hio
  have hu := Room.u64 hr
  have hv := Room.u65 hr
  exact (dss_cons (ds_expr trivial (de_call (gcheck_indexes fc _) (hr.mono (by decide)) hg cx_tk (by rfl) fc.g_check_indexes (da_cons (v_ 0) (da_cons (v_ 1) da_nil)))) (dss_one (ds_ret trivial (DF.toE (df_make fc.mk_Planes (gPlanes_init fc _) (hr.mono (by decide)) hg cx_tk (by rfl) fc.g_Planes (da_cons (de_fld (fldC_cons fc.cl_Planes fc.na_Planes_n fldC_nil) (v_ 0)) (da_cons (DF.toE (df_lc (by rfl) cPlanes_only.nd (by rfl) (di_seq (v_ 1)) (blkOk_by (own := [("at", 2)]) (by kernel_rfl)) (fun _ _ _ _ _ => (dg_name rfl rfl cPlanes_only.nd rfl (Or.inl rfl))) (fun _ _ _ _ _ => pts_nil) tYes_go (fun _ _ _ _ _ => (de_ix ix_d (de_fld (fldC_cons fc.cl_Planes fc.na_Planes_kept fldC_nil) (v_ 0)) (v_ 2) (fun _ _ => rfl))))) da_nil)))))))
abbrev NPlanes_without : List Str := ["self", "at"]
theorem cPlanes_without : FnScope NPlanes_without ["self", "at"] (defScope sPlanes_without) := ⟨rfl, rfl, rfl, by decide +kernel, rfl, by decide +kernel, by decide +kernel⟩
theorem gPlanes_without (fc : Fc K mg) : ∀ base : Heap, FnG prog w K mg base 6 (He.ma K (He.ga K "Planes") "without") false false Q.FPlanes_without := by
  intro base
  obtain ⟨fd, F⟩ := fc.d_Planes_without
  refine fnG_of (ps := ["self", "at"]) (N := NPlanes_without) (O := []) (O' := []) F cPlanes_without (F.bindsN fun _ _ _ _ _ _ us hl => match us, hl with | [_, _], _ => rfl) .nil (fun _ _ => .nil) (by decide) (by decide) (by decide) fun cdv A outer s H E A0 q hio hr hg => ?_
  obtain rfl : q = none := by cases q with
    | none => rfl
    | some _ => cases hio
  have hu := Room.u64 hr
  have hv := Room.u65 hr
  exact (dss_cons (ds_expr trivial (de_call (gcheck_index fc _) (hr.mono (by decide)) hg cx_tk (by rfl) fc.g_check_index (da_cons (v_ 0) (da_cons (v_ 1) da_nil)))) (dss_one (ds_ret trivial (DF.toE (df_make fc.mk_Planes (gPlanes_init fc _) (hr.mono (by decide)) hg cx_tk (by rfl) fc.g_Planes (da_cons (de_fld (fldC_cons fc.cl_Planes fc.na_Planes_n fldC_nil) (v_ 0)) (da_cons (de_bin od_add (de_sl (db_e (de_fld (fldC_cons fc.cl_Planes fc.na_Planes_kept fldC_nil) (v_ 0))) dp_no (dp_e (v_ 1))) (de_sl (db_e (de_fld (fldC_cons fc.cl_Planes fc.na_Planes_kept fldC_nil) (v_ 0))) (dp_e (de_bin od_add (v_ 1) de_int)) dp_no)) da_nil)))))))
abbrev NPlanes_turned : List Str := ["self", "at"]
theorem cPlanes_turned : FnScope NPlanes_turned ["self", "at"] (defScope sPlanes_turned) := ⟨rfl, rfl, rfl, by decide +kernel, rfl, by decide +kernel, by decide +kernel⟩
theorem gPlanes_turned (fc : Fc K mg) : ∀ base : Heap, FnG prog w K mg base 6 (He.ma K (He.ga K "Planes") "turned") false false Q.FPlanes_turned := by
  intro base
  obtain ⟨fd, F⟩ := fc.d_Planes_turned
  refine fnG_of (ps := ["self", "at"]) (N := NPlanes_turned) (O := []) (O' := []) F cPlanes_turned (F.bindsN fun _ _ _ _ _ _ us hl => match us, hl with | [_, _], _ => rfl) .nil (fun _ _ => .nil) (by decide) (by decide) (by decide) fun cdv A outer s H E A0 q hio hr hg => ?_
  obtain rfl : q = none := by cases q with
    | none => rfl
    | some _ => cases hio
  have hu := Room.u64 hr
  have hv := Room.u65 hr
  exact (dss_cons (ds_expr trivial (de_call (gcheck_index fc _) (hr.mono (by decide)) hg cx_tk (by rfl) fc.g_check_index (da_cons (v_ 0) (da_cons (v_ 1) da_nil)))) (dss_one (ds_ret trivial (DF.toE (df_make fc.mk_Planes (gPlanes_init fc _) (hr.mono (by decide)) hg cx_tk (by rfl) fc.g_Planes (da_cons (de_fld (fldC_cons fc.cl_Planes fc.na_Planes_n fldC_nil) (v_ 0)) (da_cons (de_bin od_add (de_bin od_add (de_sl (db_e (de_fld (fldC_cons fc.cl_Planes fc.na_Planes_kept fldC_nil) (v_ 0))) dp_no (dp_e (v_ 1))) (de_tup (da_cons (de_call (gother_way fc _) (hr.mono (by decide)) hg cx_tk (by rfl) fc.g_other_way (da_cons (de_ix ix_d (de_fld (fldC_cons fc.cl_Planes fc.na_Planes_kept fldC_nil) (v_ 0)) (v_ 1) (fun _ _ => rfl)) da_nil)) da_nil))) (de_sl (db_e (de_fld (fldC_cons fc.cl_Planes fc.na_Planes_kept fldC_nil) (v_ 0))) (dp_e (de_bin od_add (v_ 1) de_int)) dp_no)) da_nil)))))))
abbrev N_law_method : List Str := ["way", "planes", "at", "error"]
theorem c_law_method : FnScope N_law_method ["way", "planes", "at"] (defScope s_law_method) := ⟨rfl, rfl, rfl, by decide +kernel, rfl, by decide +kernel, by decide +kernel⟩
theorem g_law_method (fc : Fc K mg) : Ok prog w K mg 7 "_law_method" false false F_law_method := by
  intro base
  obtain ⟨fd, F⟩ := fc.d__law_method
  refine fnG_of (ps := ["way", "planes", "at"]) (N := N_law_method) (O := []) (O' := []) F c_law_method (F.bindsN fun _ _ _ _ _ _ us hl => match us, hl with | [_, _, _], _ => rfl) .nil (fun _ _ => .nil) (by decide) (by decide) (by decide) fun cdv A outer s H E A0 q hio hr hg => ?_
  obtain rfl : q = none := by cases q with
    | none => rfl
    | some _ => cases hio
  have hu := Room.u64 hr
  have hv := Room.u65 hr
  exact (dss_one (ds_tryAs trivial rfl rfl c_law_method.nd rfl rfl ⟨rfl, by decide, .inl fc.g_PlaneError⟩ cx_tk (mtPlaneError_ok fc) rfl (.inl (by decide)) rfl (fun W pn xe tk pw => (dss_cons (ds_if rfl (dt_cmp (od_eq hu) (v_ 0) de_int (pm _ _)) (dss_one (ds_ret rfl (de_meth (methT_cons (k := 6) fc.cl_Planes fc.me_Planes_without (FnG.mono (gPlanes_without fc _) (by decide)) methT_nil) (hr.mono (by decide)) hg tk (v_ 1) (da_cons (v_ 2) da_nil)))) dss_nil) (dss_cons (ds_if rfl (dt_cmp (od_eq hu) (v_ 0) de_int (pm _ _)) (dss_one (ds_ret rfl (de_meth (methT_cons (k := 6) fc.cl_Planes fc.me_Planes_turned (FnG.mono (gPlanes_turned fc _) (by decide)) methT_nil) (hr.mono (by decide)) hg tk (v_ 1) (da_cons (v_ 2) da_nil)))) dss_nil) (dss_one (ds_ret rfl (de_meth (methT_cons (k := 6) fc.cl_Planes fc.me_Planes_only (FnG.mono (gPlanes_only fc _) (by decide)) methT_nil) (hr.mono (by decide)) hg tk (v_ 1) (da_cons (v_ 2) da_nil))))))) (fun ad oe k pn hz hf hk => have hC := callIsE (mtPlaneError_ex fc hk) hz hf; (dss_one (ds_ret rfl (de_bin od_add de_str (de_ty bt_str (b_str hg hu) (by rfl) fc.f_str (da_cons (de_ty bt_int b_int (by rfl) fc.f_int (da_cons (de_isE (i := 3) (ad := ad) (k := k) rfl hC (isPlaneError_BadNumber fc hk) rfl fc.f_isinstance rfl (Or.inl rfl) rfl fc.g_BadNumber) da_nil)) da_nil)))))) rfl))
abbrev NPlanes_planes : List Str := ["self"]
theorem cPlanes_planes : FnScope NPlanes_planes ["self"] (defScope sPlanes_planes) := ⟨rfl, rfl, rfl, by decide +kernel, rfl, by decide +kernel, by decide +kernel⟩
theorem gPlanes_planes (fc : Fc K mg) : ∀ base : Heap, FnG prog w K mg base 1 (He.ma K (He.ga K "Planes") "planes") false true Q.FPlanes_planes_v2 := by
  intro base
  obtain ⟨fd, F⟩ := fc.d_Planes_planes
  refine fnG_of (ps := ["self"]) (N := NPlanes_planes) (O := []) (O' := []) F cPlanes_planes (F.bindsN fun _ _ _ _ _ _ us hl => match us, hl with | [_], _ => rfl) .nil (fun _ _ => .nil) (by decide) (by decide) (by decide) fun cdv A outer s H E A0 q hio hr hg => ?_
  obtain rfl : q = none := by cases q with
    | none => rfl
    | some _ => cases hio
  have hu := Room.u64 hr
  have hv := Room.u65 hr
  exact (dss_one (ds_retF trivial (df_ty bt_list (b_listF (by rfl)) (by rfl) fc.f_list (da_cons (de_fld (fldC_cons fc.cl_Planes fc.na_Planes_kept fldC_nil) (v_ 0)) da_nil))))
abbrev N_law_parts : List Str := ["draws", "n", "rows", "planes", "indexes", "at", "turned", "a", "pair"]
theorem c_law_parts : FnScope N_law_parts ["draws", "n", "rows", "planes"] (defScope s_law_parts) := ⟨rfl, rfl, rfl, by decide +kernel, rfl, by decide +kernel, by decide +kernel⟩
theorem g_law_parts (fc : Fc K mg) : Ok prog w K mg 8 "_law_parts" true false F_law_parts := by
  intro base
  obtain ⟨fd, F⟩ := fc.d__law_parts
  refine fnG_of (ps := ["draws", "n", "rows", "planes"]) (N := N_law_parts) (O := [0]) (O' := []) F c_law_parts (F.bindsN fun _ _ _ _ _ _ us hl => match us, hl with | [_, _, _, _], _ => rfl) .nil (fun _ _ => .nil) (by decide) (by decide) (by decide) fun cdv A outer s H E A0 q hio hr hg => ?_
  have hu := Room.u64 hr
  have hv := Room.u65 hr
  exact (dss_cons (ds_asg (vs := [4]) trivial (de_ty bt_tuple b_tuple (by rfl) fc.f_tuple (da_cons (DF.toE (df_lc1 (by rfl) c_law_parts.nd (by rfl) (di_range1 (by rfl) fc.f_range (da_cons (de_b bt_len b_len (by rfl) fc.f_len (da_cons (v_ 2) da_nil)) da_nil)) (blkOk_by (own := [("at", 5)]) (by kernel_rfl)) (fun _ _ _ _ _ => (dg_name rfl rfl c_law_parts.nd rfl (Or.inl rfl))) (fun _ _ _ _ _ => (dt_cmp (od_eq hu) (de_bin od_mod (de_ty bt_int b_int (by rfl) fc.f_int (da_cons (de_callio (g_law_next fc _) (hr.mono (by decide)) hg (takes0 (by rfl)) (by rfl) fc.g__law_next (by rfl) (pv 0) da_nil) da_nil)) de_int) de_int (pm _ _)))  (fun _ _ _ _ _ => (v_ 5)))) da_nil)) (dg_name rfl rfl c_law_parts.nd rfl (Or.inl rfl))) (dss_cons (ds_if trivial (dt_cmp (od_ne hu) (de_meth0 (methT_cons (k := 1) fc.cl_Planes fc.me_Planes_planes (FnG.mono (FnG.weak (gPlanes_planes fc _)) (by decide)) methT_nil) (hr.mono (by decide)) hg cx_tk (de_meth (methT_cons (k := 6) fc.cl_Planes fc.me_Planes_only (FnG.mono (gPlanes_only fc _) (by decide)) methT_nil) (hr.mono (by decide)) hg cx_tk (v_ 3) (da_cons (v_ 4) da_nil))) (DF.toE (df_lc (by rfl) c_law_parts.nd (by rfl) (di_seq (v_ 4)) (blkOk_by (own := [("at", 5)]) (by kernel_rfl)) (fun _ _ _ _ _ => (dg_name rfl rfl c_law_parts.nd rfl (Or.inl rfl))) (fun _ _ _ _ _ => pts_nil) tYes_go (fun _ _ _ _ _ => (de_ix ix_d (v_ 2) (v_ 5) (fun _ _ => rfl))))) (pm _ _)) (dss_one (ds_ret trivial de_bl)) dss_nil) (dss_cons (ds_for (vs := [5]) trivial cx_pw rfl (di_range1 (by rfl) fc.f_range (da_cons (de_b bt_len b_len (by rfl) fc.f_len (da_cons (v_ 2) da_nil)) da_nil)) (dg_name rfl rfl c_law_parts.nd rfl (Or.inl rfl)) (dss_cons (ds_asg (vs := [6]) trivial (de_ty bt_tuple b_tuple (by rfl) fc.f_tuple (da_cons (DF.toE (df_lc (by rfl) c_law_parts.nd (by rfl) (di_seq (de_ix ix_d (v_ 2) (v_ 5) (fun _ _ => rfl))) (blkOk_by (own := [("a", 7)]) (by kernel_rfl)) (fun _ _ _ _ _ => (dg_name rfl rfl c_law_parts.nd rfl (Or.inl rfl))) (fun _ _ _ _ _ => pts_nil) tYes_go (fun _ _ _ _ _ => (de_bin od_sub de_int (v_ 7))))) da_nil)) (dg_name rfl rfl c_law_parts.nd rfl (Or.inl rfl))) (dss_cons (ds_if trivial (dt_cmp (od_ne hu) (de_meth0 (methT_cons (k := 1) fc.cl_Planes fc.me_Planes_planes (FnG.mono (FnG.weak (gPlanes_planes fc _)) (by decide)) methT_nil) (hr.mono (by decide)) hg cx_tk (de_meth (methT_cons (k := 6) fc.cl_Planes fc.me_Planes_without (FnG.mono (gPlanes_without fc _) (by decide)) methT_nil) (hr.mono (by decide)) hg cx_tk (v_ 3) (da_cons (v_ 5) da_nil))) (de_bin od_add (de_sl (db_e (v_ 2)) dp_no (dp_e (v_ 5))) (de_sl (db_e (v_ 2)) (dp_e (de_bin od_add (v_ 5) de_int)) dp_no)) (pm _ _)) (dss_one (ds_ret trivial de_bl)) dss_nil) (dss_one (ds_if trivial (DW.t (dw_or (dt_cmp (od_ne hu) (de_meth0 (methT_cons (k := 1) fc.cl_Planes fc.me_Planes_planes (FnG.mono (FnG.weak (gPlanes_planes fc _)) (by decide)) methT_nil) (hr.mono (by decide)) hg cx_tk (de_meth (methT_cons (k := 6) fc.cl_Planes fc.me_Planes_turned (FnG.mono (gPlanes_turned fc _) (by decide)) methT_nil) (hr.mono (by decide)) hg cx_tk (v_ 3) (da_cons (v_ 5) da_nil))) (de_bin od_add (de_bin od_add (de_sl (db_e (v_ 2)) dp_no (dp_e (v_ 5))) (DF.toE (df_lst (da_cons (v_ 6) da_nil)))) (de_sl (db_e (v_ 2)) (dp_e (de_bin od_add (v_ 5) de_int)) dp_no)) (pm _ _)) (dw_or1 (dt_cmp (od_ne hu) (de_fld (fldC_cons fc.cl_Planes fc.na_Planes_n fldC_nil) (de_meth (methT_cons (k := 6) fc.cl_Planes fc.me_Planes_turned (FnG.mono (gPlanes_turned fc _) (by decide)) methT_nil) (hr.mono (by decide)) hg cx_tk (v_ 3) (da_cons (v_ 5) da_nil))) (v_ 1) (pm _ _))))) (dss_one (ds_ret trivial de_bl)) dss_nil))))) (dss_cons (ds_for (vs := [5]) trivial cx_pw rfl (di_seq (DF.toE (df_lst (da_cons (de_un ud_neg de_int) (da_cons (de_b bt_len b_len (by rfl) fc.f_len (da_cons (v_ 2) da_nil)) (da_cons (de_bin od_add (de_b bt_len b_len (by rfl) fc.f_len (da_cons (v_ 2) da_nil)) de_int) da_nil)))))) (dg_name rfl rfl c_law_parts.nd rfl (Or.inl rfl)) (dss_one (ds_if trivial (DW.t (dw_or (dt_cmp (od_ne hu) (de_call (g_law_method fc _) (hr.mono (by decide)) hg cx_tk (by rfl) fc.g__law_method (da_cons de_int (da_cons (v_ 3) (da_cons (v_ 5) da_nil)))) de_str (pm _ _)) (dw_or (dt_cmp (od_ne hu) (de_call (g_law_method fc _) (hr.mono (by decide)) hg cx_tk (by rfl) fc.g__law_method (da_cons de_int (da_cons (v_ 3) (da_cons (v_ 5) da_nil)))) de_str (pm _ _)) (dw_or1 (dt_cmp (od_ne hu) (de_call (g_law_method fc _) (hr.mono (by decide)) hg cx_tk (by rfl) fc.g__law_method (da_cons de_int (da_cons (v_ 3) (da_cons (de_tup (da_cons (v_ 5) da_nil)) da_nil)))) de_str (pm _ _)))))) (dss_one (ds_ret trivial de_bl)) dss_nil))) (dss_cons (ds_if trivial (dt_cmp od_gt (de_b bt_len b_len (by rfl) fc.f_len (da_cons (v_ 2) da_nil)) de_int (pm _ _)) (dss_one (ds_ret trivial (de_cmp (od_eq hu) (DF.toE (df_lc (by rfl) c_law_parts.nd (by rfl) (di_seq (DF.toE (df_lst (da_cons (de_tup (da_cons de_int (da_cons de_int da_nil))) (da_cons (de_tup (da_cons de_int (da_cons de_int da_nil))) (da_cons (de_tup (da_cons de_int (da_cons de_int da_nil))) da_nil)))))) (blkOk_by (own := [("pair", 8)]) (by kernel_rfl)) (fun _ _ _ _ _ => (dg_name rfl rfl c_law_parts.nd rfl (Or.inl rfl))) (fun _ _ _ _ _ => pts_nil) tYes_go (fun _ _ _ _ _ => (de_call (g_law_method fc _) (hr.mono (by decide)) hg (takes0 (by rfl)) (by rfl) fc.g__law_method (da_cons de_int (da_cons (v_ 3) (da_cons (v_ 8) da_nil))))))) (de_bin od_mul (DF.toE (df_lst (da_cons de_str da_nil))) de_int) (pm _ _)))) dss_nil) (dss_one (ds_ret trivial de_bl)))))))
abbrev N_law_told : List Str := ["way", "n", "rows", "error"]
theorem c_law_told : FnScope N_law_told ["way", "n", "rows"] (defScope s_law_told) := ⟨rfl, rfl, rfl, by decide +kernel, rfl, by decide +kernel, by decide +kernel⟩
theorem g_law_told (fc : Fc K mg) : Ok prog w K mg 6 "_law_told" false false F_law_told := by
  intro base
  obtain ⟨fd, F⟩ := fc.d__law_told
  refine fnG_of (ps := ["way", "n", "rows"]) (N := N_law_told) (O := []) (O' := []) F c_law_told (F.bindsN fun _ _ _ _ _ _ us hl => match us, hl with | [_, _, _], _ => rfl) .nil (fun _ _ => .nil) (by decide) (by decide) (by decide) fun cdv A outer s H E A0 q hio hr hg => ?_
  obtain rfl : q = none := by cases q with
    | none => rfl
    | some _ => cases hio
  have hu := Room.u64 hr
  have hv := Room.u65 hr
  exact (dss_one (ds_tryAs trivial rfl rfl c_law_told.nd rfl rfl ⟨rfl, by decide, .inl fc.g_PlaneError⟩ cx_tk (mtPlaneError_ok fc) rfl (.inl (by decide)) rfl (fun W pn xe tk pw => (dss_cons (ds_if rfl (dt_cmp (od_eq hu) (v_ 0) de_int (pm _ _)) (dss_one (ds_ret rfl (de_meth0 (methT_cons (k := 1) fc.cl_Planes fc.me_Planes_planes (FnG.mono (FnG.weak (gPlanes_planes fc _)) (by decide)) methT_nil) (hr.mono (by decide)) hg tk (DF.toE (df_make fc.mk_Planes (gPlanes_init fc _) (hr.mono (by decide)) hg tk (by rfl) fc.g_Planes (da_cons (v_ 1) (da_cons (v_ 2) da_nil))))))) dss_nil) (dss_cons (ds_if rfl (dt_cmp (od_eq hu) (v_ 0) de_int (pm _ _)) (dss_one (ds_ret rfl (de_call (gcheck_letters fc _) (hr.mono (by decide)) hg tk (by rfl) fc.g_check_letters (da_cons (v_ 1) da_nil)))) dss_nil) (dss_one (ds_ret rfl (de_call (gis_plane fc _) (hr.mono (by decide)) hg tk (by rfl) fc.g_is_plane (da_cons (v_ 1) (da_cons (de_ix ix_d (v_ 2) de_int (fun _ _ => rfl)) da_nil)))))))) (fun ad oe k pn hz hf hk => have hC := callIsE (mtPlaneError_ex fc hk) hz hf; (dss_one (ds_ret rfl (de_bin od_add de_str (de_ty bt_str (b_str hg hu) (by rfl) fc.f_str (da_cons (DF.toE (df_lst (da_cons (de_ty bt_int b_int (by rfl) fc.f_int (da_cons (de_isE (i := 3) (ad := ad) (k := k) rfl hC (isPlaneError_BadNumber fc hk) rfl fc.f_isinstance rfl (Or.inl rfl) rfl fc.g_BadNumber) da_nil)) (da_cons (de_ty bt_int b_int (by rfl) fc.f_int (da_cons (de_isE (i := 3) (ad := ad) (k := k) rfl hC (isPlaneError_NotPlanes fc hk) rfl fc.f_isinstance rfl (Or.inl rfl) rfl fc.g_NotPlanes) da_nil)) da_nil)))) da_nil)))))) rfl))
abbrev N_law_lists : List Str := ["n", "rows", "turned", "a", "long", "at", "other", "way"]
theorem c_law_lists : FnScope N_law_lists ["n", "rows"] (defScope s_law_lists) := ⟨rfl, rfl, rfl, by decide +kernel, rfl, by decide +kernel, by decide +kernel⟩
theorem g_law_lists (fc : Fc K mg) : Ok prog w K mg 7 "_law_lists" false false F_law_lists := by
  intro base
  obtain ⟨fd, F⟩ := fc.d__law_lists
  refine fnG_of (ps := ["n", "rows"]) (N := N_law_lists) (O := []) (O' := []) F c_law_lists (F.bindsN fun _ _ _ _ _ _ us hl => match us, hl with | [_, _], _ => rfl) .nil (fun _ _ => .nil) (by decide) (by decide) (by decide) fun cdv A outer s H E A0 q hio hr hg => ?_
  obtain rfl : q = none := by cases q with
    | none => rfl
    | some _ => cases hio
  have hu := Room.u64 hr
  have hv := Room.u65 hr
  exact (dss_cons (ds_if trivial (dt_tru (v_ 1)) (dss_cons (ds_asg (vs := [2]) trivial (de_ty bt_tuple b_tuple (by rfl) fc.f_tuple (da_cons (DF.toE (df_lc (by rfl) c_law_lists.nd (by rfl) (di_seq (de_ix ix_d (v_ 1) de_int (fun _ _ => rfl))) (blkOk_by (own := [("a", 3)]) (by kernel_rfl)) (fun _ _ _ _ _ => (dg_name rfl rfl c_law_lists.nd rfl (Or.inl rfl))) (fun _ _ _ _ _ => pts_nil) tYes_go (fun _ _ _ _ _ => (de_bin od_sub de_int (v_ 3))))) da_nil)) (dg_name rfl rfl c_law_lists.nd rfl (Or.inl rfl))) (dss_one (ds_if trivial (DW.t (dw_or (dt_cmp (od_ne hu) (de_call (g_law_told fc _) (hr.mono (by decide)) hg cx_tk (by rfl) fc.g__law_told (da_cons de_int (da_cons (v_ 0) (da_cons (de_bin od_add (v_ 1) (DF.toE (df_lst (da_cons (v_ 2) da_nil)))) da_nil)))) de_str (pm _ _)) (dw_or1 (dt_cmp (od_ne hu) (de_call (g_law_told fc _) (hr.mono (by decide)) hg cx_tk (by rfl) fc.g__law_told (da_cons de_int (da_cons (v_ 0) (da_cons (de_bin od_add (DF.toE (df_lst (da_cons (de_ix ix_d (v_ 1) (de_un ud_neg de_int) (fun _ _ => rfl)) da_nil))) (v_ 1)) da_nil)))) de_str (pm _ _))))) (dss_one (ds_ret trivial de_bl)) dss_nil))) dss_nil) (dss_cons (ds_setLc trivial rfl rfl c_law_lists.nd rfl rfl (sw_true rfl rfl rfl (by kernel_rfl)) (by rfl) (di_range1 (by rfl) fc.f_range (da_cons de_int da_nil)) (blkOk_by (own := [("at", 5)]) (by kernel_rfl)) (fun _ _ _ _ _ => (dg_name rfl rfl c_law_lists.nd rfl (Or.inl rfl))) (fun _ _ _ _ _ => pts_nil) tYes_go (fun _ _ _ _ _ => (de_bin od_add (de_bin od_add (de_tup (da_cons de_int da_nil)) (de_bin od_mulT (de_tup (da_cons de_int da_nil)) (de_bin od_sub (v_ 0) de_int))) (de_tup (da_cons (de_bin od_sub (v_ 5) de_int) da_nil))))) (dss_cons (ds_if trivial (DW.t (dw_or (dt_cmp (od_ne hu) (de_call (g_law_told fc _) (hr.mono (by decide)) hg cx_tk (by rfl) fc.g__law_told (da_cons de_int (da_cons (v_ 0) (da_cons (de_sl (db_e (v_ 4)) dp_no (dp_e de_int)) da_nil)))) (de_sl (db_e (v_ 4)) dp_no (dp_e de_int)) (pm _ _)) (dw_or1 (dt_cmp (od_ne hu) (de_call (g_law_told fc _) (hr.mono (by decide)) hg cx_tk (by rfl) fc.g__law_told (da_cons de_int (da_cons (v_ 0) (da_cons (v_ 4) da_nil)))) de_str (pm _ _))))) (dss_one (ds_ret trivial de_bl)) dss_nil) (dss_cons (ds_for (vs := [6]) trivial cx_pw rfl (di_seq (DF.toE (df_lst (da_cons de_int (da_cons de_int (da_cons (de_un ud_neg de_int) (da_cons de_int da_nil))))))) (dg_name rfl rfl c_law_lists.nd rfl (Or.inr rfl)) (dss_one (ds_if trivial (dt_cmp (od_ne hu) (DF.toE (df_lc (by rfl) c_law_lists.nd (by rfl) (di_range1 (by rfl) fc.f_range (da_cons de_int da_nil)) (blkOk_by (own := [("way", 7)]) (by kernel_rfl)) (fun _ _ _ _ _ => (dg_name rfl rfl c_law_lists.nd rfl (Or.inl rfl))) (fun _ _ _ _ _ => pts_nil) tYes_go (fun _ _ _ _ _ => (de_call (g_law_told fc _) (hr.mono (by decide)) hg (takes0 (by rfl)) (by rfl) fc.g__law_told (da_cons (v_ 7) (da_cons (v_ 6) (da_cons (DF.toE (df_lst (da_cons (de_tup (da_cons de_int (da_cons de_int da_nil))) da_nil))) da_nil))))))) (de_bin od_mul (DF.toE (df_lst (da_cons de_str da_nil))) de_int) (pm _ _)) (dss_one (ds_ret trivial de_bl)) dss_nil))) (dss_one (ds_ret trivial (de_cmp od_is (de_call (gcheck_letters fc _) (hr.mono (by decide)) hg cx_tk (by rfl) fc.g_check_letters (da_cons (v_ 0) da_nil)) de_non (pm _ _))))))))
abbrev NPlanes_eq : List Str := ["self", "other"]
theorem cPlanes_eq : FnScope NPlanes_eq ["self", "other"] (defScope sPlanes_eq) := ⟨rfl, rfl, rfl, by decide +kernel, rfl, by decide +kernel, by decide +kernel⟩
theorem gPlanes_eq (fc : Fc K mg) : ∀ base : Heap, FnG prog w K mg base 1 (He.ma K (He.ga K "Planes") "__eq__") false false Q.FPlanes_eq := by
  intro base
  obtain ⟨fd, F⟩ := fc.d_Planes_eq
  refine fnG_of (ps := ["self", "other"]) (N := NPlanes_eq) (O := []) (O' := []) F cPlanes_eq (F.bindsN fun _ _ _ _ _ _ us hl => match us, hl with | [_, _], _ => rfl) .nil (fun _ _ => .nil) (by decide) (by decide) (by decide) fun cdv A outer s H E A0 q hio hr hg => ?_
  obtain rfl : q = none := by cases q with
    | none => rfl
    | some _ => cases hio
  have hu := Room.u64 hr
  have hv := Room.u65 hr
  exact (dss_one (ds_ret trivial (de_cmp (od_eq hu) (de_tup (da_cons (de_fld (fldC_cons fc.cl_Planes fc.na_Planes_n fldC_nil) (v_ 0)) (da_cons (de_fld (fldC_cons fc.cl_Planes fc.na_Planes_kept fldC_nil) (v_ 0)) da_nil))) (de_tup (da_cons (de_fld (fldC_cons fc.cl_Planes fc.na_Planes_n fldC_nil) (v_ 1)) (da_cons (de_fld (fldC_cons fc.cl_Planes fc.na_Planes_kept fldC_nil) (v_ 1)) da_nil))) (pm _ _))))
abbrev NPlanes_len : List Str := ["self"]
theorem cPlanes_len : FnScope NPlanes_len ["self"] (defScope sPlanes_len) := ⟨rfl, rfl, rfl, by decide +kernel, rfl, by decide +kernel, by decide +kernel⟩
theorem gPlanes_len (fc : Fc K mg) : ∀ base : Heap, FnG prog w K mg base 1 (He.ma K (He.ga K "Planes") "__len__") false false Q.FPlanes_len := by
  intro base
  obtain ⟨fd, F⟩ := fc.d_Planes_len
  refine fnG_of (ps := ["self"]) (N := NPlanes_len) (O := []) (O' := []) F cPlanes_len (F.bindsN fun _ _ _ _ _ _ us hl => match us, hl with | [_], _ => rfl) .nil (fun _ _ => .nil) (by decide) (by decide) (by decide) fun cdv A outer s H E A0 q hio hr hg => ?_
  obtain rfl : q = none := by cases q with
    | none => rfl
    | some _ => cases hio
  have hu := Room.u64 hr
  have hv := Room.u65 hr
  exact (dss_one (ds_ret trivial (de_b bt_len b_len (by rfl) fc.f_len (da_cons (de_fld (fldC_cons fc.cl_Planes fc.na_Planes_kept fldC_nil) (v_ 0)) da_nil))))
abbrev Nlowest : List Str := ["a", "b", "common"]
theorem clowest : FnScope Nlowest ["a", "b"] (defScope slowest) := ⟨rfl, rfl, rfl, by decide +kernel, rfl, by decide +kernel, by decide +kernel⟩
theorem glowest (fc : Fc K mg) : Ok prog w K mg 2 "lowest" false false Q.Flowest := by
  intro base
  obtain ⟨fd, F⟩ := fc.d_lowest
  refine fnG_of (ps := ["a", "b"]) (N := Nlowest) (O := []) (O' := []) F clowest (F.bindsN fun _ _ _ _ _ _ us hl => match us, hl with | [_, _], _ => rfl) .nil (fun _ _ => .nil) (by decide) (by decide) (by decide) fun cdv A outer s H E A0 q hio hr hg => ?_
  obtain rfl : q = none := by cases q with
    | none => rfl
    | some _ => cases hio
  have hu := Room.u64 hr
  have hv := Room.u65 hr
  exact (dss_cons (ds_asg (vs := [2]) trivial (de_call (gdivisor fc _) (hr.mono (by decide)) hg cx_tk (by rfl) fc.g_divisor (da_cons (v_ 0) (da_cons (v_ 1) da_nil))) (dg_name rfl rfl clowest.nd rfl (Or.inl rfl))) (dss_cons (ds_if trivial (dt_cmp od_lt (v_ 1) de_int (pm _ _)) (dss_one (ds_asg (vs := [2]) trivial (de_un ud_neg (v_ 2)) (dg_name rfl rfl clowest.nd rfl (Or.inl rfl)))) dss_nil) (dss_one (ds_ret trivial (de_tup (da_cons (de_bin od_div (v_ 0) (v_ 2)) (da_cons (de_bin od_div (v_ 1) (v_ 2)) da_nil)))))))
abbrev Ninverted : List Str := ["x"]
theorem cinverted : FnScope Ninverted ["x"] (defScope sinverted) := ⟨rfl, rfl, rfl, by decide +kernel, rfl, by decide +kernel, by decide +kernel⟩
theorem ginverted (fc : Fc K mg) : Ok prog w K mg 3 "inverted" false false Q.Finverted := by
  intro base
  obtain ⟨fd, F⟩ := fc.d_inverted
  refine fnG_of (ps := ["x"]) (N := Ninverted) (O := []) (O' := []) F cinverted (F.bindsN fun _ _ _ _ _ _ us hl => match us, hl with | [_], _ => rfl) .nil (fun _ _ => .nil) (by decide) (by decide) (by decide) fun cdv A outer s H E A0 q hio hr hg => ?_
  obtain rfl : q = none := by cases q with
    | none => rfl
    | some _ => cases hio
  have hu := Room.u64 hr
  have hv := Room.u65 hr
  exact (dss_one (ds_ret trivial (de_call (glowest fc _) (hr.mono (by decide)) hg cx_tk (by rfl) fc.g_lowest (da_cons (de_ix ix_d (v_ 0) de_int (fun _ _ => rfl)) (da_cons (de_ix ix_d (v_ 0) de_int (fun _ _ => rfl)) da_nil)))))
abbrev Nmultiplied : List Str := ["x", "y"]
theorem cmultiplied : FnScope Nmultiplied ["x", "y"] (defScope smultiplied) := ⟨rfl, rfl, rfl, by decide +kernel, rfl, by decide +kernel, by decide +kernel⟩
theorem gmultiplied (fc : Fc K mg) : Ok prog w K mg 3 "multiplied" false false Q.Fmultiplied := by
  intro base
  obtain ⟨fd, F⟩ := fc.d_multiplied
  refine fnG_of (ps := ["x", "y"]) (N := Nmultiplied) (O := []) (O' := []) F cmultiplied (F.bindsN fun _ _ _ _ _ _ us hl => match us, hl with | [_, _], _ => rfl) .nil (fun _ _ => .nil) (by decide) (by decide) (by decide) fun cdv A outer s H E A0 q hio hr hg => ?_
  obtain rfl : q = none := by cases q with
    | none => rfl
    | some _ => cases hio
  have hu := Room.u64 hr
  have hv := Room.u65 hr
  exact (dss_one (ds_ret trivial (de_call (glowest fc _) (hr.mono (by decide)) hg cx_tk (by rfl) fc.g_lowest (da_cons (de_bin od_mul (de_ix ix_d (v_ 0) de_int (fun _ _ => rfl)) (de_ix ix_d (v_ 1) de_int (fun _ _ => rfl))) (da_cons (de_bin od_mul (de_ix ix_d (v_ 0) de_int (fun _ _ => rfl)) (de_ix ix_d (v_ 1) de_int (fun _ _ => rfl))) da_nil)))))
abbrev Nnegated : List Str := ["x"]
theorem cnegated : FnScope Nnegated ["x"] (defScope snegated) := ⟨rfl, rfl, rfl, by decide +kernel, rfl, by decide +kernel, by decide +kernel⟩
theorem gnegated (fc : Fc K mg) : Ok prog w K mg 1 "negated" false false Q.Fnegated := by
  intro base
  obtain ⟨fd, F⟩ := fc.d_negated
  refine fnG_of (ps := ["x"]) (N := Nnegated) (O := []) (O' := []) F cnegated (F.bindsN fun _ _ _ _ _ _ us hl => match us, hl with | [_], _ => rfl) .nil (fun _ _ => .nil) (by decide) (by decide) (by decide) fun cdv A outer s H E A0 q hio hr hg => ?_
  obtain rfl : q = none := by cases q with
    | none => rfl
    | some _ => cases hio
  have hu := Room.u64 hr
  have hv := Room.u65 hr
  exact (dss_one (ds_ret trivial (de_tup (da_cons (de_un ud_neg (de_ix ix_d (v_ 0) de_int (fun _ _ => rfl))) (da_cons (de_ix ix_d (v_ 0) de_int (fun _ _ => rfl)) da_nil)))))
abbrev Nsummed : List Str := ["x", "y"]
theorem csummed : FnScope Nsummed ["x", "y"] (defScope ssummed) := ⟨rfl, rfl, rfl, by decide +kernel, rfl, by decide +kernel, by decide +kernel⟩
theorem gsummed (fc : Fc K mg) : Ok prog w K mg 3 "summed" false false Q.Fsummed := by
  intro base
  obtain ⟨fd, F⟩ := fc.d_summed
  refine fnG_of (ps := ["x", "y"]) (N := Nsummed) (O := []) (O' := []) F csummed (F.bindsN fun _ _ _ _ _ _ us hl => match us, hl with | [_, _], _ => rfl) .nil (fun _ _ => .nil) (by decide) (by decide) (by decide) fun cdv A outer s H E A0 q hio hr hg => ?_
  obtain rfl : q = none := by cases q with
    | none => rfl
    | some _ => cases hio
  have hu := Room.u64 hr
  have hv := Room.u65 hr
  exact (dss_one (ds_ret trivial (de_call (glowest fc _) (hr.mono (by decide)) hg cx_tk (by rfl) fc.g_lowest (da_cons (de_bin od_add (de_bin od_mul (de_ix ix_d (v_ 0) de_int (fun _ _ => rfl)) (de_ix ix_d (v_ 1) de_int (fun _ _ => rfl))) (de_bin od_mul (de_ix ix_d (v_ 1) de_int (fun _ _ => rfl)) (de_ix ix_d (v_ 0) de_int (fun _ _ => rfl)))) (da_cons (de_bin od_mul (de_ix ix_d (v_ 0) de_int (fun _ _ => rfl)) (de_ix ix_d (v_ 1) de_int (fun _ _ => rfl))) da_nil)))))
abbrev Nlessened : List Str := ["row", "factor", "other", "less", "x", "y"]
theorem clessened : FnScope Nlessened ["row", "factor", "other"] (defScope slessened) := ⟨rfl, rfl, rfl, by decide +kernel, rfl, by decide +kernel, by decide +kernel⟩
theorem glessened (fc : Fc K mg) : Ok prog w K mg 4 "lessened" false false Q.Flessened := by
  intro base
  obtain ⟨fd, F⟩ := fc.d_lessened
  refine fnG_of (ps := ["row", "factor", "other"]) (N := Nlessened) (O := []) (O' := []) F clessened (F.bindsN fun _ _ _ _ _ _ us hl => match us, hl with | [_, _, _], _ => rfl) .nil (fun _ _ => .nil) (by decide) (by decide) (by decide) fun cdv A outer s H E A0 q hio hr hg => ?_
  obtain rfl : q = none := by cases q with
    | none => rfl
    | some _ => cases hio
  have hu := Room.u64 hr
  have hv := Room.u65 hr
  exact (dss_cons (ds_asg (vs := [3]) trivial (de_call (gnegated fc _) (hr.mono (by decide)) hg cx_tk (by rfl) fc.g_negated (da_cons (v_ 1) da_nil)) (dg_name rfl rfl clessened.nd rfl (Or.inr rfl))) (dss_one (ds_ret trivial (DF.toE (df_lc (by rfl) clessened.nd (by rfl) (di_zipS (by rfl) fc.f_zip (da_cons (v_ 0) (da_cons (v_ 2) da_nil))) (blkOk_by (own := [("x", 4), ("y", 5)]) (by kernel_rfl)) (fun _ _ _ _ _ => (dg_tup rfl (dgs_cons (dg_name rfl rfl clessened.nd rfl (Or.inl rfl)) (dgs_cons (dg_name rfl rfl clessened.nd rfl (Or.inl rfl)) dgs_nil)))) (fun _ _ _ _ _ => pts_nil) tYes_go (fun _ _ _ _ _ => (de_call (gsummed fc _) (hr.mono (by decide)) hg (takes0 (by rfl)) (by rfl) fc.g_summed (da_cons (v_ 4) (da_cons (de_call (gmultiplied fc _) (hr.mono (by decide)) hg (takes0 (by rfl)) (by rfl) fc.g_multiplied (da_cons (v_ 3) (da_cons (v_ 5) da_nil))) da_nil)))))))))
abbrev Nreduced : List Str := ["rows", "columns", "left", "row", "pivots", "column", "top", "here", "at", "factor", "x"]
theorem creduced : FnScope Nreduced ["rows", "columns"] (defScope sreduced) := ⟨rfl, rfl, rfl, by decide +kernel, rfl, by decide +kernel, by decide +kernel⟩
theorem greduced (fc : Fc K mg) : Ok prog w K mg 5 "reduced" false false Q.Freduced := by
  intro base
  obtain ⟨fd, F⟩ := fc.d_reduced
  refine fnG_of (ps := ["rows", "columns"]) (N := Nreduced) (O := []) (O' := []) F creduced (F.bindsN fun _ _ _ _ _ _ us hl => match us, hl with | [_, _], _ => rfl) .nil (fun _ _ => .nil) (by decide) (by decide) (by decide) fun cdv A outer s H E A0 q hio hr hg => ?_
  obtain rfl : q = none := by cases q with
    | none => rfl
    | some _ => cases hio
  have hu := Room.u64 hr
  have hv := Room.u65 hr
  exact (dss_forgetO 2 (.inl (by decide)) (dss_cons (ds_own trivial (df_lc (by rfl) creduced.nd (by rfl) (di_seq (v_ 0)) (blkOk_by (own := [("row", 3)]) (by kernel_rfl)) (fun _ _ _ _ _ => (dg_name rfl rfl creduced.nd rfl (Or.inl rfl))) (fun _ _ _ _ _ => pts_nil) tYes_go (fun _ _ _ _ _ => (de_ty bt_list (b_list (by rfl)) (by rfl) fc.f_list (da_cons (v_ 3) da_nil)))) rfl (.inl (by decide)) creduced.nd rfl (Or.inr rfl)) (dss_forgetO 4 (.inl (by decide)) (dss_cons (ds_own trivial (df_lst da_nil) rfl (.inl (by decide)) creduced.nd rfl (Or.inl rfl)) (dss_cons (ds_for (vs := [5]) trivial cx_pw rfl (di_range1 (by rfl) fc.f_range (da_cons (v_ 1) da_nil)) (dg_name rfl rfl creduced.nd rfl (Or.inr rfl)) (dss_cons (ds_asg (vs := [6]) trivial (de_bO (by rfl) bt_len b_len (by rfl) fc.f_len (pv 4)) (dg_name rfl rfl creduced.nd rfl (Or.inl rfl))) (dss_cons (ds_setLc1 trivial rfl rfl creduced.nd rfl rfl (sw_true rfl rfl rfl (by kernel_rfl)) (by rfl) (di_range2 (by rfl) fc.f_range (da_cons (v_ 6) (da_cons (de_bO (by rfl) bt_len b_len (by rfl) fc.f_len (pv 2)) da_nil))) (blkOk_by (own := [("at", 8)]) (by kernel_rfl)) (fun _ _ _ _ _ => (dg_name rfl rfl creduced.nd rfl (Or.inl rfl))) (fun _ _ _ _ _ => (dt_cmp (od_ne hu) (de_ix ix_d (de_ixB ix_d gIx_no (db_o (by rfl) (pv 2)) (db_e (v_ 8)) (fun _ _ => rfl)) (v_ 5) (fun _ _ => rfl)) (gt_ fc.g_ZERO fc.c_ZERO cZERO_rp) (pm _ _)))  (fun _ _ _ _ _ => (v_ 8))) (dss_cons (ds_if trivial (dt_not (dt_tru (v_ 7))) (dss_one ds_cnt) dss_nil) (dss_cons (ds_asg (vs := []) trivial (de_tup (da_cons (de_ixB ix_d gIx_no (db_o (by rfl) (pv 2)) (db_e (de_ix ix_d (v_ 7) de_int (fun _ _ => rfl))) (fun _ _ => rfl)) (da_cons (de_ixB ix_d gIx_no (db_o (by rfl) (pv 2)) (db_e (v_ 6)) (fun _ _ => rfl)) da_nil))) (dg_tup rfl (dgs_cons (dg_sub (by rfl) (pv 2) (v_ 6)) (dgs_cons (dg_sub (by rfl) (pv 2) (de_ix ix_d (v_ 7) de_int (fun _ _ => rfl))) dgs_nil)))) (dss_cons (ds_asg (vs := [9]) trivial (de_call (ginverted fc _) (hr.mono (by decide)) hg cx_tk (by rfl) fc.g_inverted (da_cons (de_ix ix_d (de_ixB ix_d gIx_no (db_o (by rfl) (pv 2)) (db_e (v_ 6)) (fun _ _ => rfl)) (v_ 5) (fun _ _ => rfl)) da_nil)) (dg_name rfl rfl creduced.nd rfl (Or.inr rfl))) (dss_cons (ds_asg (vs := []) trivial (DF.toE (df_lc (by rfl) creduced.nd (by rfl) (di_seq (de_ixB ix_d gIx_no (db_o (by rfl) (pv 2)) (db_e (v_ 6)) (fun _ _ => rfl))) (blkOk_by (own := [("x", 10)]) (by kernel_rfl)) (fun _ _ _ _ _ => (dg_name rfl rfl creduced.nd rfl (Or.inl rfl))) (fun _ _ _ _ _ => pts_nil) tYes_go (fun _ _ _ _ _ => (de_call (gmultiplied fc _) (hr.mono (by decide)) hg (takes0 (by rfl)) (by rfl) fc.g_multiplied (da_cons (v_ 9) (da_cons (v_ 10) da_nil)))))) (dg_sub (by rfl) (pv 2) (v_ 6))) (dss_cons (ds_for (vs := [8]) trivial cx_pw rfl (di_range1 (by rfl) fc.f_range (da_cons (de_bO (by rfl) bt_len b_len (by rfl) fc.f_len (pv 2)) da_nil)) (dg_name rfl rfl creduced.nd rfl (Or.inl rfl)) (dss_one (ds_if trivial (DW.t (dw_and (dt_cmp (od_ne hu) (v_ 8) (v_ 6) (pm _ _)) (dw_and1 (dt_cmp (od_ne hu) (de_ix ix_d (de_ixB ix_d gIx_no (db_o (by rfl) (pv 2)) (db_e (v_ 8)) (fun _ _ => rfl)) (v_ 5) (fun _ _ => rfl)) (gt_ fc.g_ZERO fc.c_ZERO cZERO_rp) (pm _ _))))) (dss_one (ds_asg (vs := []) trivial (de_call (glessened fc _) (hr.mono (by decide)) hg cx_tk (by rfl) fc.g_lessened (da_cons (de_ixB ix_d gIx_no (db_o (by rfl) (pv 2)) (db_e (v_ 8)) (fun _ _ => rfl)) (da_cons (de_ix ix_d (de_ixB ix_d gIx_no (db_o (by rfl) (pv 2)) (db_e (v_ 8)) (fun _ _ => rfl)) (v_ 5) (fun _ _ => rfl)) (da_cons (de_ixB ix_d gIx_no (db_o (by rfl) (pv 2)) (db_e (v_ 6)) (fun _ _ => rfl)) da_nil)))) (dg_sub (by rfl) (pv 2) (v_ 8)))) dss_nil))) (dss_one (ds_expr trivial (de_om om_append PySem.F.slot_list_append PySem.F.type_list_append (by rfl) (pv 4) (da_cons (v_ 5) da_nil)))))))))))) (dss_freeze 4 (.inl (by decide)) (dss_freeze 2 (.inl (by decide)) (dss_one (ds_ret trivial (de_tup (da_cons (v_ 2) (da_cons (v_ 4) da_nil))))))))))))
abbrev Nrank_of_rows : List Str := ["width", "rows"]
theorem crank_of_rows : FnScope Nrank_of_rows ["width", "rows"] (defScope srank_of_rows) := ⟨rfl, rfl, rfl, by decide +kernel, rfl, by decide +kernel, by decide +kernel⟩
theorem grank_of_rows (fc : Fc K mg) : Ok prog w K mg 6 "rank_of_rows" false false Q.Frank_of_rows := by
  intro base
  obtain ⟨fd, F⟩ := fc.d_rank_of_rows
  refine fnG_of (ps := ["width", "rows"]) (N := Nrank_of_rows) (O := []) (O' := []) F crank_of_rows (F.bindsN fun _ _ _ _ _ _ us hl => match us, hl with | [_, _], _ => rfl) .nil (fun _ _ => .nil) (by decide) (by decide) (by decide) fun cdv A outer s H E A0 q hio hr hg => ?_
  obtain rfl : q = none := by cases q with
    | none => rfl
    | some _ => cases hio
  have hu := Room.u64 hr
  have hv := Room.u65 hr
  exact (dss_one (ds_ret trivial (de_b bt_len b_len (by rfl) fc.f_len (da_cons (de_ix ix_d (de_call (greduced fc _) (hr.mono (by decide)) hg cx_tk (by rfl) fc.g_reduced (da_cons (v_ 1) (da_cons (v_ 0) da_nil))) de_int (fun _ _ => rfl)) da_nil))))
abbrev Nnumbers_of : List Str := ["integers", "a"]
theorem cnumbers_of : FnScope Nnumbers_of ["integers"] (defScope snumbers_of) := ⟨rfl, rfl, rfl, by decide +kernel, rfl, by decide +kernel, by decide +kernel⟩
theorem gnumbers_of (fc : Fc K mg) : Ok prog w K mg 1 "numbers_of" false false Q.Fnumbers_of := by
  intro base
  obtain ⟨fd, F⟩ := fc.d_numbers_of
  refine fnG_of (ps := ["integers"]) (N := Nnumbers_of) (O := []) (O' := []) F cnumbers_of (F.bindsN fun _ _ _ _ _ _ us hl => match us, hl with | [_], _ => rfl) .nil (fun _ _ => .nil) (by decide) (by decide) (by decide) fun cdv A outer s H E A0 q hio hr hg => ?_
  obtain rfl : q = none := by cases q with
    | none => rfl
    | some _ => cases hio
  have hu := Room.u64 hr
  have hv := Room.u65 hr
  exact (dss_one (ds_ret trivial (de_ty bt_tuple b_tuple (by rfl) fc.f_tuple (da_cons (DF.toE (df_lc (by rfl) cnumbers_of.nd (by rfl) (di_seq (v_ 0)) (blkOk_by (own := [("a", 1)]) (by kernel_rfl)) (fun _ _ _ _ _ => (dg_name rfl rfl cnumbers_of.nd rfl (Or.inl rfl))) (fun _ _ _ _ _ => pts_nil) tYes_go (fun _ _ _ _ _ => (de_tup (da_cons (v_ 1) (da_cons de_int da_nil)))))) da_nil))))
abbrev NPlanes_rank : List Str := ["self", "plane"]
theorem cPlanes_rank : FnScope NPlanes_rank ["self"] (defScope sPlanes_rank) := ⟨rfl, rfl, rfl, by decide +kernel, rfl, by decide +kernel, by decide +kernel⟩
theorem gPlanes_rank (fc : Fc K mg) : ∀ base : Heap, FnG prog w K mg base 7 (He.ma K (He.ga K "Planes") "rank") false false Q.FPlanes_rank := by
  intro base
  obtain ⟨fd, F⟩ := fc.d_Planes_rank
  refine fnG_of (ps := ["self"]) (N := NPlanes_rank) (O := []) (O' := []) F cPlanes_rank (F.bindsN fun _ _ _ _ _ _ us hl => match us, hl with | [_], _ => rfl) .nil (fun _ _ => .nil) (by decide) (by decide) (by decide) fun cdv A outer s H E A0 q hio hr hg => ?_
  obtain rfl : q = none := by cases q with
    | none => rfl
    | some _ => cases hio
  have hu := Room.u64 hr
  have hv := Room.u65 hr
  exact (dss_one (ds_ret trivial (de_call (grank_of_rows fc _) (hr.mono (by decide)) hg cx_tk (by rfl) fc.g_rank_of_rows (da_cons (de_fld (fldC_cons fc.cl_Planes fc.na_Planes_n fldC_nil) (v_ 0)) (da_cons (DF.toE (df_lc (by rfl) cPlanes_rank.nd (by rfl) (di_seq (de_fld (fldC_cons fc.cl_Planes fc.na_Planes_kept fldC_nil) (v_ 0))) (blkOk_by (own := [("plane", 1)]) (by kernel_rfl)) (fun _ _ _ _ _ => (dg_name rfl rfl cPlanes_rank.nd rfl (Or.inl rfl))) (fun _ _ _ _ _ => pts_nil) tYes_go (fun _ _ _ _ _ => (de_call (gnumbers_of fc _) (hr.mono (by decide)) hg (takes0 (by rfl)) (by rfl) fc.g_numbers_of (da_cons (de_sl (db_e (v_ 1)) dp_no (dp_e (de_fld (fldC_cons fc.cl_Planes fc.na_Planes_n fldC_nil) (v_ 0)))) da_nil))))) da_nil)))))
abbrev Nequations : List Str := ["planes", "indexes", "some", "at", "plane"]
theorem cequations : FnScope Nequations ["planes", "indexes"] (defScope sequations) := ⟨rfl, rfl, rfl, by decide +kernel, rfl, by decide +kernel, by decide +kernel⟩
theorem gequations (fc : Fc K mg) : Ok prog w K mg 2 "equations" false false Q.Fequations := by
  intro base
  obtain ⟨fd, F⟩ := fc.d_equations
  refine fnG_of (ps := ["planes", "indexes"]) (N := Nequations) (O := []) (O' := []) F cequations (F.bindsN fun _ _ _ _ _ _ us hl => match us, hl with | [_, _], _ => rfl) .nil (fun _ _ => .nil) (by decide) (by decide) (by decide) fun cdv A outer s H E A0 q hio hr hg => ?_
  obtain rfl : q = none := by cases q with
    | none => rfl
    | some _ => cases hio
  have hu := Room.u64 hr
  have hv := Room.u65 hr
  exact (dss_cons (ds_setLc trivial rfl rfl cequations.nd rfl rfl (sw_true rfl rfl rfl (by kernel_rfl)) (by rfl) (di_seq (v_ 1)) (blkOk_by (own := [("at", 3)]) (by kernel_rfl)) (fun _ _ _ _ _ => (dg_name rfl rfl cequations.nd rfl (Or.inl rfl))) (fun _ _ _ _ _ => pts_nil) tYes_go (fun _ _ _ _ _ => (de_ix ix_d (de_fld (fldC_cons fc.cl_Planes fc.na_Planes_kept fldC_nil) (v_ 0)) (v_ 3) (fun _ _ => rfl)))) (dss_one (ds_ret trivial (de_tup (da_cons (DF.toE (df_lc (by rfl) cequations.nd (by rfl) (di_seq (v_ 2)) (blkOk_by (own := [("plane", 4)]) (by kernel_rfl)) (fun _ _ _ _ _ => (dg_name rfl rfl cequations.nd rfl (Or.inl rfl))) (fun _ _ _ _ _ => pts_nil) tYes_go (fun _ _ _ _ _ => (de_call (gnumbers_of fc _) (hr.mono (by decide)) hg (takes0 (by rfl)) (by rfl) fc.g_numbers_of (da_cons (de_sl (db_e (v_ 4)) dp_no (dp_e (de_fld (fldC_cons fc.cl_Planes fc.na_Planes_n fldC_nil) (v_ 0)))) da_nil))))) (da_cons (DF.toE (df_lc (by rfl) cequations.nd (by rfl) (di_seq (v_ 2)) (blkOk_by (own := [("plane", 4)]) (by kernel_rfl)) (fun _ _ _ _ _ => (dg_name rfl rfl cequations.nd rfl (Or.inl rfl))) (fun _ _ _ _ _ => pts_nil) tYes_go (fun _ _ _ _ _ => (de_tup (da_cons (de_ix ix_d (v_ 4) (de_fld (fldC_cons fc.cl_Planes fc.na_Planes_n fldC_nil) (v_ 0)) (fun _ _ => rfl)) (da_cons de_int da_nil)))))) da_nil))))))
abbrev Nsolved : List Str := ["width", "rows", "wanted", "left", "pivots", "row", "x", "vector", "at", "pivot"]
theorem csolved : FnScope Nsolved ["width", "rows", "wanted"] (defScope ssolved) := ⟨rfl, rfl, rfl, by decide +kernel, rfl, by decide +kernel, by decide +kernel⟩
theorem gsolved (fc : Fc K mg) : Ok prog w K mg 6 "solved" false false Q.Fsolved := by
  intro base
  obtain ⟨fd, F⟩ := fc.d_solved
  refine fnG_of (ps := ["width", "rows", "wanted"]) (N := Nsolved) (O := []) (O' := []) F csolved (F.bindsN fun _ _ _ _ _ _ us hl => match us, hl with | [_, _, _], _ => rfl) .nil (fun _ _ => .nil) (by decide) (by decide) (by decide) fun cdv A outer s H E A0 q hio hr hg => ?_
  obtain rfl : q = none := by cases q with
    | none => rfl
    | some _ => cases hio
  have hu := Room.u64 hr
  have hv := Room.u65 hr
  exact (dss_cons (ds_asg (vs := [3, 4]) trivial (de_call (greduced fc _) (hr.mono (by decide)) hg cx_tk (by rfl) fc.g_reduced (da_cons (DF.toE (df_lc (by rfl) csolved.nd (by rfl) (di_zipS (by rfl) fc.f_zip (da_cons (v_ 1) (da_cons (v_ 2) da_nil))) (blkOk_by (own := [("row", 5), ("x", 6)]) (by kernel_rfl)) (fun _ _ _ _ _ => (dg_tup rfl (dgs_cons (dg_name rfl rfl csolved.nd rfl (Or.inl rfl)) (dgs_cons (dg_name rfl rfl csolved.nd rfl (Or.inl rfl)) dgs_nil)))) (fun _ _ _ _ _ => pts_nil) tYes_go (fun _ _ _ _ _ => (de_bin od_add (de_ty bt_list (b_list (by rfl)) (by rfl) fc.f_list (da_cons (v_ 5) da_nil)) (DF.toE (df_lst (da_cons (v_ 6) da_nil))))))) (da_cons (v_ 0) da_nil))) (dg_tup rfl (dgs_cons (dg_name rfl rfl csolved.nd rfl (Or.inl rfl)) (dgs_cons (dg_name rfl rfl csolved.nd rfl (Or.inl rfl)) dgs_nil)))) (dss_cons (ds_if trivial (dt_tru (de_b bt_any (b_any (by rfl)) (by rfl) fc.f_any (da_cons (DF.toE (df_lc (by rfl) csolved.nd (by rfl) (di_seq (de_sl (db_e (v_ 3)) (dp_e (de_b bt_len b_len (by rfl) fc.f_len (da_cons (v_ 4) da_nil))) dp_no)) (blkOk_by (own := [("row", 5)]) (by kernel_rfl)) (fun _ _ _ _ _ => (dg_name rfl rfl csolved.nd rfl (Or.inl rfl))) (fun _ _ _ _ _ => pts_nil) tYes_go (fun _ _ _ _ _ => (de_cmp (od_ne hu) (de_ix ix_d (v_ 5) (v_ 0) (fun _ _ => rfl)) (gt_ fc.g_ZERO fc.c_ZERO cZERO_rp) (pm _ _))))) da_nil))) (dss_one (ds_ret trivial de_non)) dss_nil) (dss_forgetO 7 (.inl (by decide)) (dss_cons (ds_own trivial (df_bin od_mulF (DF.toE (df_lst (da_cons (gt_ fc.g_ZERO fc.c_ZERO cZERO_rp) da_nil))) (v_ 0)) rfl (.inl (by decide)) csolved.nd rfl (Or.inl rfl)) (dss_cons (ds_for (vs := [8, 9]) trivial cx_pw rfl (di_enumS (by rfl) fc.f_enumerate (da_cons (v_ 4) da_nil)) (dg_tup rfl (dgs_cons (dg_name rfl rfl csolved.nd rfl (Or.inl rfl)) (dgs_cons (dg_name rfl rfl csolved.nd rfl (Or.inl rfl)) dgs_nil))) (dss_one (ds_asg (vs := []) trivial (de_ix ix_d (de_ix ix_d (v_ 3) (v_ 8) (fun _ _ => rfl)) (v_ 0) (fun _ _ => rfl)) (dg_sub (by rfl) (pv 7) (v_ 9))))) (dss_one (ds_ret trivial (de_tyO (by rfl) bt_tuple b_tuple (by rfl) fc.f_tuple (pv 7)))))))))
abbrev Nplace_of : List Str := ["planes", "indexes", "rows", "wanted"]
theorem cplace_of : FnScope Nplace_of ["planes", "indexes"] (defScope splace_of) := ⟨rfl, rfl, rfl, by decide +kernel, rfl, by decide +kernel, by decide +kernel⟩
theorem gplace_of (fc : Fc K mg) : Ok prog w K mg 7 "place_of" false false Q.Fplace_of := by
  intro base
  obtain ⟨fd, F⟩ := fc.d_place_of
  refine fnG_of (ps := ["planes", "indexes"]) (N := Nplace_of) (O := []) (O' := []) F cplace_of (F.bindsN fun _ _ _ _ _ _ us hl => match us, hl with | [_, _], _ => rfl) .nil (fun _ _ => .nil) (by decide) (by decide) (by decide) fun cdv A outer s H E A0 q hio hr hg => ?_
  obtain rfl : q = none := by cases q with
    | none => rfl
    | some _ => cases hio
  have hu := Room.u64 hr
  have hv := Room.u65 hr
  exact (dss_cons (ds_asg (vs := [2, 3]) trivial (de_call (gequations fc _) (hr.mono (by decide)) hg cx_tk (by rfl) fc.g_equations (da_cons (v_ 0) (da_cons (v_ 1) da_nil))) (dg_tup rfl (dgs_cons (dg_name rfl rfl cplace_of.nd rfl (Or.inl rfl)) (dgs_cons (dg_name rfl rfl cplace_of.nd rfl (Or.inl rfl)) dgs_nil)))) (dss_one (ds_ret trivial (de_call (gsolved fc _) (hr.mono (by decide)) hg cx_tk (by rfl) fc.g_solved (da_cons (de_fld (fldC_cons fc.cl_Planes fc.na_Planes_n fldC_nil) (v_ 0)) (da_cons (v_ 2) (da_cons (v_ 3) da_nil)))))))
abbrev NPlanes_is_central : List Str := ["self"]
theorem cPlanes_is_central : FnScope NPlanes_is_central ["self"] (defScope sPlanes_is_central) := ⟨rfl, rfl, rfl, by decide +kernel, rfl, by decide +kernel, by decide +kernel⟩
theorem gPlanes_is_central (fc : Fc K mg) : ∀ base : Heap, FnG prog w K mg base 8 (He.ma K (He.ga K "Planes") "is_central") false false Q.FPlanes_is_central := by
  intro base
  obtain ⟨fd, F⟩ := fc.d_Planes_is_central
  refine fnG_of (ps := ["self"]) (N := NPlanes_is_central) (O := []) (O' := []) F cPlanes_is_central (F.bindsN fun _ _ _ _ _ _ us hl => match us, hl with | [_], _ => rfl) .nil (fun _ _ => .nil) (by decide) (by decide) (by decide) fun cdv A outer s H E A0 q hio hr hg => ?_
  obtain rfl : q = none := by cases q with
    | none => rfl
    | some _ => cases hio
  have hu := Room.u64 hr
  have hv := Room.u65 hr
  exact (dss_one (ds_ret trivial (de_cmp od_isnot (de_call (gplace_of fc _) (hr.mono (by decide)) hg cx_tk (by rfl) fc.g_place_of (da_cons (v_ 0) (da_cons (DF.toE (df_listR1 (by rfl) (by rfl) fc.f_list (by rfl) fc.f_range (de_b bt_len b_len (by rfl) fc.f_len (da_cons (de_fld (fldC_cons fc.cl_Planes fc.na_Planes_kept fldC_nil) (v_ 0)) da_nil)))) da_nil))) de_non (pm _ _))))
abbrev Nlaw : List Str := ["script", "draws", "n", "rows", "point", "kept", "planes", "told", "first", "plane", "whole", "row", "due"]
theorem claw : FnScope Nlaw ["script"] (defScope slaw) := ⟨rfl, rfl, rfl, by decide +kernel, rfl, by decide +kernel, by decide +kernel⟩
theorem glaw (fc : Fc K mg) : Ok prog w K mg 9 "law" false false Flaw := by
  intro base
  obtain ⟨fd, F⟩ := fc.d_law
  refine fnG_of (ps := ["script"]) (N := Nlaw) (O := []) (O' := []) F claw (F.bindsN fun _ _ _ _ _ _ us hl => match us, hl with | [_], _ => rfl) .nil (fun _ _ => .nil) (by decide) (by decide) (by decide) fun cdv A outer s H E A0 q hio hr hg => ?_
  obtain rfl : q = none := by cases q with
    | none => rfl
    | some _ => cases hio
  have hu := Room.u64 hr
  have hv := Room.u65 hr
  exact (dss_forgetO 1 (.inl (by decide)) (dss_cons (ds_own trivial (df_call (g_law_draws fc _) (hr.mono (by decide)) hg cx_tk (by rfl) fc.g__law_draws (da_cons (v_ 0) da_nil)) rfl (.inl (by decide)) claw.nd rfl (Or.inl rfl)) (dss_cons (ds_expr trivial (de_om0 om_reverse PySem.F.slot_list_reverse PySem.F.type_list_reverse (by rfl) (pv 1))) (dss_cons (ds_asg (vs := [2]) trivial (de_bin od_add de_int (de_bin od_mod (de_ty bt_int b_int (by rfl) fc.f_int (da_cons (de_callio (g_law_next fc _) (hr.mono (by decide)) hg cx_tk (by rfl) fc.g__law_next (by rfl) (pv 1) da_nil) da_nil)) de_int)) (dg_name rfl rfl claw.nd rfl (Or.inr rfl))) (dss_forgetO 3 (.inl (by decide)) (dss_cons (ds_own2 trivial (g_law_planes fc _) (hr.mono (by decide)) hg cx_tk (by rfl) fc.g__law_planes (by rfl) (pv 1) (da_cons (v_ 2) (da_cons de_int da_nil)) (by rfl) (by rfl) (.inl (by decide)) (by decide) claw.nd rfl (Or.inl rfl) rfl (Or.inl rfl)) (dss_cons (ds_asg (vs := [5]) trivial (de_tyO (by rfl) bt_list (b_list (by rfl)) (by rfl) fc.f_list (pv 3)) (dg_name rfl rfl claw.nd rfl (Or.inl rfl))) (dss_cons (ds_asg (vs := [6]) trivial (DF.toE (df_makeO fc.mk_Planes (gPlanes_init fc _) (hr.mono (by decide)) hg cx_tk (by rfl) fc.g_Planes (v_ 2) rfl (pv 3))) (dg_name rfl rfl claw.nd rfl (Or.inl rfl))) (dss_cons (ds_if trivial (DW.t (dw_or (dt_cmp (od_ne hu) (de_meth0 (methT_cons (k := 1) fc.cl_Planes fc.me_Planes_planes (FnG.mono (FnG.weak (gPlanes_planes fc _)) (by decide)) methT_nil) (hr.mono (by decide)) hg cx_tk (v_ 6)) (v_ 5) (pm _ _)) (dw_or (dt_cmp (od_ne hu) (de_lenX (methT_cons (k := 1) fc.cl_Planes fc.me_Planes_len (FnG.mono (gPlanes_len fc _) (by decide)) methT_nil) (hr.mono (by decide)) hg (by rfl) fc.f_len (v_ 6)) (de_b bt_len b_len (by rfl) fc.f_len (da_cons (v_ 5) da_nil)) (pm _ _)) (dw_or1 (dt_cmp (od_ne hu) (de_fld (fldC_cons fc.cl_Planes fc.na_Planes_n fldC_nil) (v_ 6)) (v_ 2) (pm _ _)))))) (dss_one (ds_ret trivial de_bl)) dss_nil) (dss_forgetO 7 (.inl (by decide)) (dss_cons (ds_own trivial (df_meth0 (methT_cons (k := 1) fc.cl_Planes fc.me_Planes_planes (FnG.mono (gPlanes_planes fc _) (by decide)) methT_nil) (hr.mono (by decide)) hg cx_tk (v_ 6)) rfl (.inl (by decide)) claw.nd rfl (Or.inl rfl)) (dss_cons (ds_expr trivial (de_om om_append PySem.F.slot_list_append PySem.F.type_list_append (by rfl) (pv 7) (da_cons (de_tup (da_cons de_int (da_cons de_int da_nil))) da_nil))) (dss_cons (ds_expr trivial (de_om om_append PySem.F.slot_list_append PySem.F.type_list_append (by rfl) (pv 3) (da_cons (de_tup (da_cons de_int da_nil)) da_nil))) (dss_cons (ds_if trivial (DW.t (dw_or (dt_cmp (od_ne hu) (de_meth0 (methT_cons (k := 1) fc.cl_Planes fc.me_Planes_planes (FnG.mono (FnG.weak (gPlanes_planes fc _)) (by decide)) methT_nil) (hr.mono (by decide)) hg cx_tk (v_ 6)) (v_ 5) (pm _ _)) (dw_or1 (dt_not (dt_eqX (methT_cons (k := 1) fc.cl_Planes fc.me_Planes_eq (FnG.mono (gPlanes_eq fc _) (by decide)) methT_nil) (hr.mono (by decide)) hg hu (v_ 6) (DF.toE (df_make fc.mk_Planes (gPlanes_init fc _) (hr.mono (by decide)) hg cx_tk (by rfl) fc.g_Planes (da_cons (v_ 2) (da_cons (v_ 5) da_nil)))) (pm _ _)))))) (dss_one (ds_ret trivial de_bl)) dss_nil) (dss_cons (ds_if trivial (DW.t (dw_and (dt_tru (v_ 5)) (dw_and1 (DW.t (dw_or (dt_eqX (methT_cons (k := 1) fc.cl_Planes fc.me_Planes_eq (FnG.mono (gPlanes_eq fc _) (by decide)) methT_nil) (hr.mono (by decide)) hg hu (v_ 6) (DF.toE (df_make fc.mk_Planes (gPlanes_init fc _) (hr.mono (by decide)) hg cx_tk (by rfl) fc.g_Planes (da_cons (v_ 2) (da_cons (de_sl (db_e (v_ 5)) (dp_e de_int) dp_no) da_nil)))) (pm _ _)) (dw_or (dt_eqX (methT_cons (k := 1) fc.cl_Planes fc.me_Planes_eq (FnG.mono (gPlanes_eq fc _) (by decide)) methT_nil) (hr.mono (by decide)) hg hu (v_ 6) (de_meth (methT_cons (k := 6) fc.cl_Planes fc.me_Planes_turned (FnG.mono (gPlanes_turned fc _) (by decide)) methT_nil) (hr.mono (by decide)) hg cx_tk (v_ 6) (da_cons de_int da_nil)) (pm _ _)) (dw_or1 (dt_not (dt_eqX (methT_cons (k := 1) fc.cl_Planes fc.me_Planes_eq (FnG.mono (gPlanes_eq fc _) (by decide)) methT_nil) (hr.mono (by decide)) hg hu (v_ 6) (de_meth (methT_cons (k := 6) fc.cl_Planes fc.me_Planes_turned (FnG.mono (gPlanes_turned fc _) (by decide)) methT_nil) (hr.mono (by decide)) hg cx_tk (de_meth (methT_cons (k := 6) fc.cl_Planes fc.me_Planes_turned (FnG.mono (gPlanes_turned fc _) (by decide)) methT_nil) (hr.mono (by decide)) hg cx_tk (v_ 6) (da_cons de_int da_nil)) (da_cons de_int da_nil)) (pm _ _)))))))))) (dss_one (ds_ret trivial de_bl)) dss_nil) (dss_cons (ds_if trivial (DW.t (dw_and (dt_cmp od_gt (de_b bt_len b_len (by rfl) fc.f_len (da_cons (v_ 5) da_nil)) de_int (pm _ _)) (dw_and1 (dt_eqX (methT_cons (k := 1) fc.cl_Planes fc.me_Planes_eq (FnG.mono (gPlanes_eq fc _) (by decide)) methT_nil) (hr.mono (by decide)) hg hu (v_ 6) (DF.toE (df_make fc.mk_Planes (gPlanes_init fc _) (hr.mono (by decide)) hg cx_tk (by rfl) fc.g_Planes (da_cons (v_ 2) (da_cons (de_bin od_add (de_sl (db_e (v_ 5)) (dp_e de_int) dp_no) (de_sl (db_e (v_ 5)) dp_no (dp_e de_int))) da_nil)))) (pm _ _))))) (dss_one (ds_ret trivial de_bl)) dss_nil) (dss_cons (ds_asg (vs := [8]) trivial (de_call (g_law_echelon fc _) (hr.mono (by decide)) hg cx_tk (by rfl) fc.g__law_echelon (da_cons (v_ 2) (da_cons (de_call (g_law_numbers fc _) (hr.mono (by decide)) hg cx_tk (by rfl) fc.g__law_numbers (da_cons (DF.toE (df_lc (by rfl) claw.nd (by rfl) (di_seq (v_ 5)) (blkOk_by (own := [("plane", 9)]) (by kernel_rfl)) (fun _ _ _ _ _ => (dg_name rfl rfl claw.nd rfl (Or.inl rfl))) (fun _ _ _ _ _ => pts_nil) tYes_go (fun _ _ _ _ _ => (de_sl (db_e (v_ 9)) dp_no (dp_e (v_ 2)))))) da_nil)) da_nil))) (dg_name rfl rfl claw.nd rfl (Or.inl rfl))) (dss_cons (ds_asg (vs := [10]) trivial (de_call (g_law_echelon fc _) (hr.mono (by decide)) hg cx_tk (by rfl) fc.g__law_echelon (da_cons (de_bin od_add (v_ 2) de_int) (da_cons (de_call (g_law_numbers fc _) (hr.mono (by decide)) hg cx_tk (by rfl) fc.g__law_numbers (da_cons (v_ 5) da_nil)) da_nil))) (dg_name rfl rfl claw.nd rfl (Or.inl rfl))) (dss_cons (ds_if trivial (DW.t (dw_or (dt_cmp (od_ne hu) (de_b bt_repr (b_repr hg hu) (by rfl) fc.f_repr (da_cons (de_meth0 (methT_cons (k := 7) fc.cl_Planes fc.me_Planes_rank (FnG.mono (gPlanes_rank fc _) (by decide)) methT_nil) (hr.mono (by decide)) hg cx_tk (v_ 6)) da_nil)) (de_b bt_repr (b_repr hg hu) (by rfl) fc.f_repr (da_cons (de_b bt_len b_len (by rfl) fc.f_len (da_cons (v_ 8) da_nil)) da_nil)) (pm _ _)) (dw_or1 (dt_cmp (od_ne hu) (de_b bt_repr (b_repr hg hu) (by rfl) fc.f_repr (da_cons (de_meth0 (methT_cons (k := 8) fc.cl_Planes fc.me_Planes_is_central (FnG.mono (gPlanes_is_central fc _) (by decide)) methT_nil) (hr.mono (by decide)) hg cx_tk (v_ 6)) da_nil)) (de_b bt_repr (b_repr hg hu) (by rfl) fc.f_repr (da_cons (de_cmp (od_eq hu) (de_b bt_len b_len (by rfl) fc.f_len (da_cons (v_ 8) da_nil)) (de_b bt_len b_len (by rfl) fc.f_len (da_cons (v_ 10) da_nil)) (pm _ _)) da_nil)) (pm _ _))))) (dss_one (ds_ret trivial de_bl)) dss_nil) (dss_cons (ds_if trivial (DW.t (dw_or (dt_not (dt_tru (de_callio (g_law_parts fc _) (hr.mono (by decide)) hg cx_tk (by rfl) fc.g__law_parts (by rfl) (pv 1) (da_cons (v_ 2) (da_cons (v_ 5) (da_cons (v_ 6) da_nil)))))) (dw_or (dt_cmp (od_ne hu) (de_meth0 (methT_cons (k := 1) fc.cl_Planes fc.me_Planes_planes (FnG.mono (FnG.weak (gPlanes_planes fc _)) (by decide)) methT_nil) (hr.mono (by decide)) hg cx_tk (v_ 6)) (v_ 5) (pm _ _)) (dw_or1 (dt_not (dt_tru (de_call (g_law_lists fc _) (hr.mono (by decide)) hg cx_tk (by rfl) fc.g__law_lists (da_cons (v_ 2) (da_cons (v_ 5) da_nil))))))))) (dss_one (ds_ret trivial de_bl)) dss_nil) (dss_cons (ds_asg (vs := [9]) trivial (de_callio (g_law_plane fc _) (hr.mono (by decide)) hg cx_tk (by rfl) fc.g__law_plane (by rfl) (pv 1) (da_cons (v_ 2) (da_cons (v_ 4) da_nil))) (dg_name rfl rfl claw.nd rfl (Or.inl rfl))) (dss_cons (ds_for (vs := [11]) trivial cx_pw rfl (di_seq (DF.toE (df_lst (da_cons (v_ 9) (da_cons (de_callio (g_law_spoilt fc _) (hr.mono (by decide)) hg cx_tk (by rfl) fc.g__law_spoilt (by rfl) (pv 1) (da_cons (v_ 9) da_nil)) (da_cons (de_callio (g_law_spoilt fc _) (hr.mono (by decide)) hg cx_tk (by rfl) fc.g__law_spoilt (by rfl) (pv 1) (da_cons (de_callio (g_law_spoilt fc _) (hr.mono (by decide)) hg cx_tk (by rfl) fc.g__law_spoilt (by rfl) (pv 1) (da_cons (v_ 9) da_nil)) da_nil)) da_nil)))))) (dg_name rfl rfl claw.nd rfl (Or.inl rfl)) (dss_cons (ds_asg (vs := [12]) trivial (de_call (g_law_is_plane fc _) (hr.mono (by decide)) hg cx_tk (by rfl) fc.g__law_is_plane (da_cons (v_ 2) (da_cons (v_ 11) da_nil))) (dg_name rfl rfl claw.nd rfl (Or.inl rfl))) (dss_one (ds_if trivial (DW.t (dw_or (dt_cmp (od_ne hu) (de_b bt_repr (b_repr hg hu) (by rfl) fc.f_repr (da_cons (de_call (gis_plane fc _) (hr.mono (by decide)) hg cx_tk (by rfl) fc.g_is_plane (da_cons (v_ 2) (da_cons (v_ 11) da_nil))) da_nil)) (de_b bt_repr (b_repr hg hu) (by rfl) fc.f_repr (da_cons (v_ 12) da_nil)) (pm _ _)) (dw_or1 (dt_cmp (od_ne hu) (de_b bt_repr (b_repr hg hu) (by rfl) fc.f_repr (da_cons (de_call (g_law_told fc _) (hr.mono (by decide)) hg cx_tk (by rfl) fc.g__law_told (da_cons de_int (da_cons (v_ 2) (da_cons (DF.toE (df_lst (da_cons (v_ 11) da_nil))) da_nil)))) da_nil)) (de_b bt_repr (b_repr hg hu) (by rfl) fc.f_repr (da_cons (de_if (dt_tru (v_ 12)) (DF.toE (df_lst (da_cons (v_ 11) da_nil))) de_str) da_nil)) (pm _ _))))) (dss_one (ds_ret trivial de_bl)) dss_nil)))) (dss_one (ds_ret trivial de_bl))))))))))))))))))))))))
end
end K05
namespace K05
open Q DL PySem PySem.Spec PyProof.Rows
theorem R_ok {r : Ret} {d : D} (h : r.R [] = .ok d []) : ∃ o, r = .rt d o := by
  cases r with
  | rt y o => rw [Ret.R_rt] at h; cases h; exact ⟨o, rfl⟩
  | ex x o => rw [Ret.R_ex] at h; cases h
  | bad => cases h
theorem R_xx {r : Ret} {x : Xn} (h : r.R [] = .ex x []) : ∃ o, r = .ex x o := by
  cases r with
  | rt y o => rw [Ret.R_rt] at h; cases h
  | ex y o => rw [Ret.R_ex] at h; cases h; exact ⟨o, rfl⟩
  | bad => cases h
section
variable {n : Nat} {ps : List (List Int)} {tab : Str → Option FN} {mn : Str} {o : ME} {F : FN} {d d' : D} {ds : List D} {args : MA} {x : Xn} {ρ ρ1 ρ2 : En}
theorem meth_ok (ho : o ρ = .ok (PO n ps) ρ1) (ha : args ρ1 = .ok ds ρ2) (ht : tab "Planes" = some F) (hm : ∀ a b : D, ([("n", a), ("kept", b)] : List (Str × D)).lookup mn = none) (hF : F (PO n ps :: ds) = .rt d d') : mMeth tab mn o args ρ = .ok d ρ2 := by
  have hl := hm (.int n) (.tup (ps.map pl))
  unfold mMeth
  rw [ho, bind_ok]
  unfold PO at hF ⊢
  simp only [ht, hl, Option.isNone_none, if_true, ha, bind_ok, hF]
theorem meth_ex (ho : o ρ = .ok (PO n ps) ρ1) (ha : args ρ1 = .ok ds ρ2) (ht : tab "Planes" = some F) (hm : ∀ a b : D, ([("n", a), ("kept", b)] : List (Str × D)).lookup mn = none) (hF : F (PO n ps :: ds) = .ex x d') : mMeth tab mn o args ρ = .ex x ρ2 := by
  have hl := hm (.int n) (.tup (ps.map pl))
  unfold mMeth
  rw [ho, bind_ok]
  unfold PO at hF ⊢
  simp only [ht, hl, Option.isNone_none, if_true, ha, bind_ok, hF]
theorem meth_pre (ho : o ρ = .ex x ρ1) : mMeth tab mn o args ρ = .ex x ρ1 := by
  unfold mMeth
  rw [ho]
  rfl
end
abbrev sB : D := .str "![1, 0]"
abbrev sP : D := .str "![0, 1]"
abbrev s1 : D := .str "!1"
theorem gS1 : gStr [.lst [.int 1, .int 0]] = some (.str "[1, 0]") := by kernel_rfl
theorem gS2 : gStr [.lst [.int 0, .int 1]] = some (.str "[0, 1]") := by kernel_rfl
theorem gS3 : gStr [.int 1] = some (.str "1") := by kernel_rfl
theorem sb1 : gAdd (.str "!") (.str "[1, 0]") = some sB := by kernel_rfl
theorem sb2 : gAdd (.str "!") (.str "[0, 1]") = some sP := by kernel_rfl
theorem sb3 : gAdd (.str "!") (.str "1") = some s1 := by kernel_rfl
def suit (k : Str) : MS := (msRet (m2 gAdd (mK (.str "!")) (mN gStr (mCons (mN gLst (mCons (mN gInt (mCons (mK (.bl (kBadNumber k))) mNil)) (mCons (mN gInt (mCons (mK (.bl (kNotPlanes k))) mNil)) mNil))) mNil))))
abbrev Et (a b c : D) : En := [some a, some b, some c, none]
theorem suit_B (a b c : D) : fgt 3 (suit "BadNumber" (Et a b c)) = .rt sB (Et a b c) := by
  have g1 := gS1
  have g2 := sb1
  have k1 : kBadNumber "BadNumber" = true := by decide
  have k2 : kNotPlanes "BadNumber" = false := by decide
  unfold suit
  simp -implicitDefEqProofs [g1, g2, k1, k2, fgt, show 2 ≤ sizeLine by decide]
theorem suit_P (a b c : D) : fgt 3 (suit "NotPlanes" (Et a b c)) = .rt sP (Et a b c) := by
  have g1 := gS2
  have g2 := sb2
  have k1 : kBadNumber "NotPlanes" = false := by decide
  have k2 : kNotPlanes "NotPlanes" = true := by decide
  unfold suit
  simp -implicitDefEqProofs [g1, g2, k1, k2, fgt, show 2 ≤ sizeLine by decide]
def tBody : MS := (msSeq (msIf (mTest (m2 gEq (mVar 0) (mK (.int 0)))) (msRet (mMeth (tb [("Planes", Q.FPlanes_planes_v2)]) "planes" (mMake "Planes" Q.FPlanes_init (mCons (mVar 1) (mCons (mVar 2) mNil))) mNil)) msNil) (msSeq (msIf (mTest (m2 gEq (mVar 0) (mK (.int 1)))) (msRet (mCall Q.Fcheck_letters (mCons (mVar 1) mNil))) msNil) (msRet (mCall Q.Fis_plane (mCons (mVar 1) (mCons (m2 gIx (mVar 2) (mK (.int 0))) mNil))))))
theorem told_eq : m_law_told = msTryAs mtPlaneError 3 tBody suit := rfl
theorem told_rt {a b c d : D} {ρ1 : En} (h : tBody (Et a b c) = .rt d ρ1) (ρ : En) : (F_law_told [a, b, c]).R ρ = .ok d ρ := by
  have e : m_law_told (Et a b c) = .rt d ρ1 := by rw [told_eq, mTryAs_ap, h]
  have : F_law_told [a, b, c] = .rt d (io0 ρ1) := runM_rt (n := 4) (np := 3) (dd := []) (ds := [a, b, c]) rfl e
  rw [this]
  rfl
theorem told_BN {a b c : D} (h : tBody (Et a b c) = .ex BN (Et a b c)) (ρ : En) : (F_law_told [a, b, c]).R ρ = .ok sB ρ := by
  have e : m_law_told (Et a b c) = .rt sB (Et a b c) := by
    have m : mtPlaneError "BadNumber" = some true := by decide
    rw [told_eq, mTryAs_ap, h]
    simp only [m]
    exact suit_B a b c
  have : F_law_told [a, b, c] = .rt sB (io0 (Et a b c)) := runM_rt (n := 4) (np := 3) (dd := []) (ds := [a, b, c]) rfl e
  rw [this]
  rfl
theorem told_NP {a b c : D} (h : tBody (Et a b c) = .ex NPl (Et a b c)) (ρ : En) : (F_law_told [a, b, c]).R ρ = .ok sP ρ := by
  have e : m_law_told (Et a b c) = .rt sP (Et a b c) := by
    have m : mtPlaneError "NotPlanes" = some true := by decide
    rw [told_eq, mTryAs_ap, h]
    simp only [m]
    exact suit_P a b c
  have : F_law_told [a, b, c] = .rt sP (io0 (Et a b c)) := runM_rt (n := 4) (np := 3) (dd := []) (ds := [a, b, c]) rfl e
  rw [this]
  rfl
section
variable {ps : List (List Int)} {d : D}
theorem b0 {r : R D} {b c : D} (h : mMeth (tb [("Planes", Q.FPlanes_planes_v2)]) "planes" (mMake "Planes" Q.FPlanes_init (mCons (mVar 1) (mCons (mVar 2) mNil))) mNil (Et (.int 0) b c) = r) : tBody (Et (.int 0) b c) = obind r fun d ρ1 => .rt d ρ1 := by
  subst h
  unfold tBody
  generalize mMeth (tb [("Planes", Q.FPlanes_planes_v2)]) "planes" (mMake "Planes" Q.FPlanes_init (mCons (mVar 1) (mCons (mVar 2) mNil))) mNil = M
  simp -implicitDefEqProofs
  cases M (Et (.int 0) b c) <;> rfl
theorem told0 {n : Nat} (hd : Sq d (ps.map pl)) (h : Sm ps) (h1 : 1 ≤ n) (h4 : n ≤ 4) (ρ : En) : (F_law_told [.int 0, .int (n : Nat), d]).R ρ = .ok (if okPls n ps = true then .lst (ps.map pl) else sP) ρ := by
  have mk := v_make (n := (n : Int)) (ps := ps) hd h (args := mCons (mVar 1) (mCons (mVar 2) mNil)) (ρ := Et (.int 0) (.int (n : Nat)) d) (ρ1 := Et (.int 0) (.int (n : Nat)) d) rfl
  rw [if_pos ⟨by omega, by omega⟩, Int.toNat_natCast] at mk
  by_cases c : okPls n ps = true
  · rw [if_pos c] at mk ⊢
    have e := b0 (meth_ok (tab := tb [("Planes", Q.FPlanes_planes_v2)]) (mn := "planes") (args := mNil) mk rfl rfl (fun _ _ => rfl) v_planesF)
    exact told_rt e ρ
  · rw [if_neg c] at mk ⊢
    exact told_NP (b0 (meth_pre mk)) ρ
theorem told0B {n : Int} (hd : Sq d (ps.map pl)) (h : Sm ps) (h1 : ¬ (1 ≤ n ∧ n ≤ 4)) (ρ : En) : (F_law_told [.int 0, .int n, d]).R ρ = .ok sB ρ := by
  have mk := v_make (n := n) (ps := ps) hd h (args := mCons (mVar 1) (mCons (mVar 2) mNil)) (ρ := Et (.int 0) (.int n) d) (ρ1 := Et (.int 0) (.int n) d) rfl
  rw [if_neg h1] at mk
  exact told_BN (b0 (meth_pre mk)) ρ
theorem told1B {n : Int} (h1 : ¬ (1 ≤ n ∧ n ≤ 4)) (ρ : En) : (F_law_told [.int 1, .int n, d]).R ρ = .ok sB ρ := by
  refine told_BN ?_ ρ
  have v : ∀ ρ, (Q.Fcheck_letters [.int n]).R ρ = .ex BN ρ := fun ρ => (v_letters n ρ).trans (if_neg h1)
  unfold tBody
  generalize mMeth (tb [("Planes", Q.FPlanes_planes_v2)]) "planes" (mMake "Planes" Q.FPlanes_init (mCons (mVar 1) (mCons (mVar 2) mNil))) mNil = M
  simp -implicitDefEqProofs [mCall_R, v]
theorem isPlaneBad {n : Int} (h1 : ¬ (1 ≤ n ∧ n ≤ 4)) (d : D) (ρ : En) : (Q.Fis_plane [.int n, d]).R ρ = .ex BN ρ := by
  have v : ∀ ρ, (Q.Fcheck_letters [.int n]).R ρ = .ex BN ρ := fun ρ => (v_letters n ρ).trans (if_neg h1)
  have e : Q.mis_plane [some (.int n), some d, none, none] = .ex BN [some (.int n), some d, none, none] := by
    unfold Q.mis_plane
    rw [seq_ex (ρ1 := [some (.int n), some d, none, none]) (x := BN) (by simp -implicitDefEqProofs [Q.mis_plane_s0, mCall_R, v])]
  have := runM_ex (n := 4) (np := 2) (dd := []) (fr := false) (m := Q.mis_plane) (ds := [.int n, d]) rfl e
  unfold Q.Fis_plane
  rw [this]
  rfl
theorem told2B {n : Int} {e : D} (h1 : ¬ (1 ≤ n ∧ n ≤ 4)) (ix : gIx d (.int 0) = some e) (ρ : En) : (F_law_told [.int 2, .int n, d]).R ρ = .ok sB ρ := by
  refine told_BN ?_ ρ
  have v : ∀ ρ, (Q.Fis_plane [.int n, e]).R ρ = .ex BN ρ := fun ρ => isPlaneBad h1 e ρ
  unfold tBody
  generalize mMeth (tb [("Planes", Q.FPlanes_planes_v2)]) "planes" (mMake "Planes" Q.FPlanes_init (mCons (mVar 1) (mCons (mVar 2) mNil))) mNil = M
  simp -implicitDefEqProofs [mCall_R, v, ix]
end
def suitM (k : Str) : MS := (msRet (m2 gAdd (mK (.str "!")) (mN gStr (mCons (mN gInt (mCons (mK (.bl (kBadNumber k))) mNil)) mNil))))
theorem suitM_B (a b c : D) : fgt 3 (suitM "BadNumber" (Et a b c)) = .rt s1 (Et a b c) := by
  have g1 := gS3
  have g2 := sb3
  have k1 : kBadNumber "BadNumber" = true := by decide
  unfold suitM
  simp -implicitDefEqProofs [g1, g2, k1, fgt]
def mBody : MS := (msSeq (msIf (mTest (m2 gEq (mVar 0) (mK (.int 0)))) (msRet (mMeth (tb [("Planes", Q.FPlanes_without)]) "without" (mVar 1) (mCons (mVar 2) mNil))) msNil) (msSeq (msIf (mTest (m2 gEq (mVar 0) (mK (.int 1)))) (msRet (mMeth (tb [("Planes", Q.FPlanes_turned)]) "turned" (mVar 1) (mCons (mVar 2) mNil))) msNil) (msRet (mMeth (tb [("Planes", Q.FPlanes_only)]) "only" (mVar 1) (mCons (mVar 2) mNil)))))
theorem method_eq : m_law_method = msTryAs mtPlaneError 3 mBody suitM := rfl
theorem meth_BN {a b c : D} (h : mBody (Et a b c) = .ex BN (Et a b c)) (ρ : En) : (F_law_method [a, b, c]).R ρ = .ok s1 ρ := by
  have e : m_law_method (Et a b c) = .rt s1 (Et a b c) := by
    have m : mtPlaneError "BadNumber" = some true := by decide
    rw [method_eq, mTryAs_ap, h]
    simp only [m]
    exact suitM_B a b c
  have : F_law_method [a, b, c] = .rt s1 (io0 (Et a b c)) := runM_rt (n := 4) (np := 3) (dd := []) (ds := [a, b, c]) rfl e
  rw [this]
  rfl
section
variable {n : Nat} {ps : List (List Int)}
theorem meth0 {a : Int} (h : ¬ (0 ≤ a ∧ a < ps.length)) (ρ : En) : (F_law_method [.int 0, PO n ps, .int a]).R ρ = .ok s1 ρ := by
  obtain ⟨o, v⟩ := R_xx (v_withoutBad (n := n) h [])
  have mm := meth_ex (tab := tb [("Planes", Q.FPlanes_without)]) (mn := "without") (o := mVar 1) (args := mCons (mVar 2) mNil) (ρ := Et (.int 0) (PO n ps) (.int a)) rfl rfl rfl (fun _ _ => rfl) v
  refine meth_BN ?_ ρ
  generalize PO n ps = P at *
  unfold mBody
  generalize mMeth (tb [("Planes", Q.FPlanes_without)]) "without" (mVar 1) (mCons (mVar 2) mNil) = M0 at *
  generalize mMeth (tb [("Planes", Q.FPlanes_turned)]) "turned" (mVar 1) (mCons (mVar 2) mNil) = M1 at *
  generalize mMeth (tb [("Planes", Q.FPlanes_only)]) "only" (mVar 1) (mCons (mVar 2) mNil) = M2 at *
  simp -implicitDefEqProofs [mm]
theorem meth1 {a : Int} (h : ¬ (0 ≤ a ∧ a < ps.length)) (ρ : En) : (F_law_method [.int 1, PO n ps, .int a]).R ρ = .ok s1 ρ := by
  obtain ⟨o, v⟩ := R_xx (v_turnedBad (n := n) h [])
  have mm := meth_ex (tab := tb [("Planes", Q.FPlanes_turned)]) (mn := "turned") (o := mVar 1) (args := mCons (mVar 2) mNil) (ρ := Et (.int 1) (PO n ps) (.int a)) rfl rfl rfl (fun _ _ => rfl) v
  refine meth_BN ?_ ρ
  generalize PO n ps = P at *
  unfold mBody
  generalize mMeth (tb [("Planes", Q.FPlanes_without)]) "without" (mVar 1) (mCons (mVar 2) mNil) = M0 at *
  generalize mMeth (tb [("Planes", Q.FPlanes_turned)]) "turned" (mVar 1) (mCons (mVar 2) mNil) = M1 at *
  generalize mMeth (tb [("Planes", Q.FPlanes_only)]) "only" (mVar 1) (mCons (mVar 2) mNil) = M2 at *
  simp -implicitDefEqProofs [mm]
theorem meth2 {as : List Int} (hl : as.length ≤ 100) (h : (inRA ps.length as && ascBA as) = false) (ρ : En) : (F_law_method [.int 2, PO n ps, ixA as]).R ρ = .ok s1 ρ := by
  obtain ⟨o, v⟩ := R_xx (v_onlyBad (n := n) hl h [])
  have mm := meth_ex (tab := tb [("Planes", Q.FPlanes_only)]) (mn := "only") (o := mVar 1) (args := mCons (mVar 2) mNil) (ρ := Et (.int 2) (PO n ps) (ixA as)) rfl rfl rfl (fun _ _ => rfl) v
  refine meth_BN ?_ ρ
  generalize PO n ps = P at *
  generalize ixA as = I at *
  unfold mBody
  generalize mMeth (tb [("Planes", Q.FPlanes_without)]) "without" (mVar 1) (mCons (mVar 2) mNil) = M0 at *
  generalize mMeth (tb [("Planes", Q.FPlanes_turned)]) "turned" (mVar 1) (mCons (mVar 2) mNil) = M1 at *
  generalize mMeth (tb [("Planes", Q.FPlanes_only)]) "only" (mVar 1) (mCons (mVar 2) mNil) = M2 at *
  simp -implicitDefEqProofs [mm]
end
end K05
namespace K05
open Q DL PySem PySem.Spec PyProof.Rows
section
variable {n : Nat} {ps : List (List Int)}
theorem no_turn {p : List Int} (hp : p ∈ ps) : okPls n (ps ++ [negL p]) = false := by
  cases c : okPls n (ps ++ [negL p]) with
  | false => rfl
  | true =>
    have := (List.pairwise_append.mp (okPls_iff.mp c).2.2).2.2 p hp (negL p) List.mem_cons_self
    exact absurd (negL_negL p) this.2
theorem no_twice {p : List Int} (hp : p ∈ ps) : okPls n ([p] ++ ps) = false := by
  cases c : okPls n ([p] ++ ps) with
  | false => rfl
  | true =>
    have := (List.pairwise_append.mp (okPls_iff.mp c).2.2).2.2 p List.mem_cons_self p hp
    exact absurd rfl this.1
def lngP (n t : Nat) : List Int := [1] ++ List.replicate (n - 1) 0 ++ [(t : Int) - 6]
theorem lng_ok (h1 : 1 ≤ n) (h4 : n ≤ 4) : okPls n ((List.range 12).map (lngP n)) = true := by
  rcases (by omega : n = 1 ∨ n = 2 ∨ n = 3 ∨ n = 4) with rfl | rfl | rfl | rfl <;> kernel_rfl
theorem lng_no : okPls n ((List.range 13).map (lngP n)) = false := by
  cases c : okPls n ((List.range 13).map (lngP n)) with
  | false => rfl
  | true =>
    have := ok_len c
    rw [List.length_map, List.length_range] at this
    omega
theorem lng_len {t : Nat} (h1 : 1 ≤ n) : (lngP n t).length = n + 1 := by
  unfold lngP
  simp
  omega
theorem lng_sm (h1 : 1 ≤ n) (h4 : n ≤ 4) (k : Nat) (hk : k ≤ 13) : Sm ((List.range k).map (lngP n)) := by
  refine ⟨by rw [List.length_map, List.length_range]; omega, fun p hp => ?_⟩
  obtain ⟨t, ht, rfl⟩ := List.mem_map.mp hp
  have ht := List.mem_range.mp ht
  refine ⟨fun a ha => ?_, by rw [lng_len h1]; omega⟩
  have : a.natAbs < 2 ^ 4 := by
    unfold lngP at ha
    rcases List.mem_append.mp ha with z | z
    · rcases List.mem_append.mp z with z | z
      · rw [List.mem_singleton.mp z]; decide
      · rw [List.eq_of_mem_replicate z]; decide
    · rw [List.mem_singleton.mp z]; omega
  exact sm_up this (by omega)
theorem pi_sm (hl : ps.length ≤ 1000) (hp : ∀ p ∈ ps, Pi 5 n p) (hn : n ≤ 4) : Sm ps := ⟨hl, fun p h => ⟨fun a ha => sm_up ((hp p h).2 a ha) (by omega), by rw [(hp p h).1]; omega⟩⟩
theorem pi_neg {p : List Int} (h : Pi 5 n p) : Pi 5 n (negL p) := ⟨by rw [negL_len]; exact h.1, fun a ha => by
  obtain ⟨b, hb, rfl⟩ := List.mem_map.mp ha
  rw [Int.natAbs_neg]
  exact h.2 b hb⟩
theorem turned_row (p : List Int) : p.map (fun a => D.int (0 - a)) = (negL p).map D.int := by
  unfold negL
  rw [List.map_map]
  exact List.map_congr_left fun a _ => by simp
abbrev El (n : Nat) (R : D) (o2 o3 o4 o5 o6 o7 : Option D) : En := [some (.int (n : Nat)), some R, o2, o3, o4, o5, o6, o7]
theorem ne_same {a : Str} (h : (PyData.str a).canLay0 = true) : gNe (.str a) (.str a) = some (.bl false) := (gNe_pd (n := 0) (m := 0) (a := .str a) (b := .str a) (P := True) (by unfold Pd; exact h) (by unfold Pd; exact h) (by decide) (by decide) ⟨fun _ => trivial, fun _ => rfl⟩).trans (by simp)
theorem lyB : (PyData.str "![1, 0]").canLay0 = true := by kernel_rfl
theorem lyP : (PyData.str "![0, 1]").canLay0 = true := by kernel_rfl
theorem ly1 : (PyData.str "!1").canLay0 = true := by kernel_rfl
theorem ne_ps (a : List (List Int)) : gNe (.lst (a.map pl)) (.lst (a.map pl)) = some (.bl false) := by
  have pd : Pd 2 (.lst (a.map pl)) := by
    unfold Pd
    exact pd_pls a
  exact (gNe_pd (P := True) pd pd (by decide) (by decide) ⟨fun _ => trivial, fun _ => rfl⟩).trans (by simp)
theorem l1_go (hp : ∀ p ∈ ps, Pi 5 n p) (hl : ps.length ≤ 12) (h1 : 1 ≤ n) (h4 : n ≤ 4) : ∃ o2, m_law_lists_s1 (El n (.lst (ps.map pl)) none none none none none none) = .nx (El n (.lst (ps.map pl)) o2 none none none none none) := by
  have sz := szv
  cases ps with
  | nil => exact ⟨none, rfl⟩
  | cons p r =>
    refine ⟨some (pl (negL p)), ?_⟩
    have hpp := hp p List.mem_cons_self
    have ht : mTru (mVar 1) (El n (.lst ((p :: r).map pl)) none none none none none none) = .ok true (El n (.lst ((p :: r).map pl)) none none none none none none) := rfl
    have i0 : gIx (.lst ((p :: r).map pl)) (.int 0) = some (pl p) := ixP (ps := p :: r) (i := 0) (by simp) (Sq.lst _)
    have lc := mLc_map (as := p) (enc := D.int) (vs := [3]) (g := mgName 3) (mi := mIter (m2 gIx (mVar 1) (mK (.int 0)))) (me := m_law_lists_e0) (ρ0 := El n (.lst ((p :: r).map pl)) none none none none none none) (ρ := El n (.lst ((p :: r).map pl)) none none none none none none)
      (st := fun a => El n (.lst ((p :: r).map pl)) none (some (.int a)) none none none none) (f := fun a => .int (0 - a)) (by
        have gi : gIter (pl p) = some (p.map D.int) := rfl
        generalize D.lst ((p :: r).map pl) = L at *
        generalize pl p = P at *
        simp -implicitDefEqProofs [i0, gi]) (by rw [hpp.1]; omega) (fun _ => rfl) (fun _ _ => rfl) (fun _ _ => rfl)
    rw [turned_row] at lc
    have gt : gTuple [.lst ((negL p).map D.int)] = some (pl (negL p)) := rfl
    have lst : (p :: r).getD r.length [] ∈ p :: r := getD_memP (by simp)
    have im : gIx (.lst ((p :: r).map pl)) (.int (-1)) = some (pl ((p :: r).getD r.length [])) := by
      have e : L2.atI ((p :: r).map pl) (-1) = L2.atI ((p :: r).map pl) (r.length : Nat) := by
        have n1 : ((p :: r).map pl).length = r.length + 1 := by simp
        have c1 : L2.ixN ((p :: r).map pl).length (-1) = some r.length := by
          unfold L2.ixN
          rw [n1, if_neg (by omega), if_pos (by omega)]
          congr 1
          omega
        have c2 : L2.ixN ((p :: r).map pl).length (r.length : Nat) = some r.length := by
          unfold L2.ixN
          rw [n1, if_pos (by omega), if_pos (by omega)]
          rfl
        unfold L2.atI
        rw [c1, c2]
      show L2.atI _ _ = _
      rw [e]
      exact ixP (by simp) (Sq.lst _)
    have a1 := add_ps (a := p :: r) (b := [negL p]) (by simp; simp at hl; omega)
    have a2 := add_ps (a := [(p :: r).getD r.length []]) (b := p :: r) (by simp; simp at hl; omega)
    have t1 := fun ρ => told0 (n := n) (Sq.lst ((p :: r ++ [negL p]).map pl)) (pi_sm (n := n) (by simp; simp at hl; omega) (fun q hq => by
      rcases List.mem_append.mp hq with z | z
      · exact hp q z
      · rw [List.mem_singleton.mp z]; exact pi_neg hpp) h4) h1 h4 ρ
    have t2 := fun ρ => told0 (n := n) (Sq.lst (([(p :: r).getD r.length []] ++ p :: r).map pl)) (pi_sm (n := n) (by simp; simp at hl; omega) (fun q hq => by
      rcases List.mem_append.mp hq with z | z
      · rw [List.mem_singleton.mp z]; exact hp _ lst
      · exact hp q z) h4) h1 h4 ρ
    have q1 : [negL p].map pl = [pl (negL p)] := rfl
    have q2 : [(p :: r).getD r.length []].map pl = [pl ((p :: r).getD r.length [])] := rfl
    rw [q1] at a1
    rw [q2] at a2
    have z1 := no_turn (n := n) (p := p) (ps := p :: r) List.mem_cons_self
    have z2 := no_twice (n := n) (ps := p :: r) lst
    simp only [z1] at t1
    simp only [z2] at t2
    generalize D.lst ((p :: r ++ [negL p]).map pl) = A1 at *
    generalize D.lst (([(p :: r).getD r.length []] ++ p :: r).map pl) = A2 at *
    generalize pl ((p :: r).getD r.length []) = Z at *
    generalize (negL p).map D.int = N at *
    generalize pl (negL p) = NN at *
    generalize D.lst ((p :: r).map pl) = L at *
    have ns := ne_same lyP
    have ef : (false = true) = False := by simp
    simp only [ef, if_false] at t1 t2
    unfold m_law_lists_s1
    generalize mLc [3] (mIter (m2 gIx (mVar 1) (mK (.int 0)))) (mgName 3) mYes m_law_lists_e0 = mL at *
    generalize F_law_told = FT at *
    rw [msIf_ap, ht]
    simp -implicitDefEqProofs [lc, gt, im, a1, a2, mCall_R, t1, t2, ns, show 1 ≤ sizeLine by omega]
theorem l3_go (h1 : 1 ≤ n) (h4 : n ≤ 4) (R : D) (o2 : Option D) : m_law_lists_s3 (El n R o2 none none none none none) = .nx (El n R o2 none (some (.lst (((List.range 13).map (lngP n)).map pl))) none none none) := by
  have sz := szv
  have rg := range1 (n := 13) (by omega)
  rw [show ((13 : Nat) : Int) = 13 from rfl] at rg
  have zp := zeros_pl (n := n - 1) (by omega)
  have c : ((n - 1 : Nat) : Int) = (n : Int) - 1 := by omega
  rw [c] at zp
  have lc := mLc_map (as := List.range 13) (enc := fun i => D.int (i : Nat)) (vs := [5]) (g := mgName 5) (mi := mItN gRange1 (mCons (mK (.int 13)) mNil)) (me := m_law_lists_e2) (ρ0 := El n R o2 none none none none none) (ρ := El n R o2 none none none none none)
    (st := fun t => El n R o2 none none (some (.int (t : Nat))) none none) (f := fun t => pl (lngP n t)) (by
      generalize (List.range 13).map (fun i => D.int (i : Nat)) = RL at *
      simp -implicitDefEqProofs [rg]) (by rw [List.length_range]; omega) (fun _ => rfl) (fun _ _ => rfl) (fun t _ => by
      have a1 := add_pl (a := [1]) (b := List.replicate (n - 1) 0) (by simp; omega)
      have a2 := add_pl (a := [1] ++ List.replicate (n - 1) 0) (b := [(t : Int) - 6]) (by simp; omega)
      have q1 : pl [1] = .tup [.int 1] := rfl
      have q2 : pl [(t : Int) - 6] = .tup [.int ((t : Int) - 6)] := rfl
      have q3 : [1] ++ List.replicate (n - 1) 0 ++ [(t : Int) - 6] = lngP n t := rfl
      rw [q1] at a1
      rw [q2, q3] at a2
      generalize pl (lngP n t) = X at *
      generalize pl ([1] ++ List.replicate (n - 1) 0) = Y at *
      generalize pl (List.replicate (n - 1) 0) = Z at *
      generalize (t : Int) = ti at *
      simp -implicitDefEqProofs [m_law_lists_e2, zp, a1, a2, show 1 ≤ sizeLine by omega])
  have em : (List.range 13).map (fun t => pl (lngP n t)) = ((List.range 13).map (lngP n)).map pl := by rw [List.map_map]; rfl
  rw [em] at lc
  generalize ((List.range 13).map (lngP n)).map pl = L at *
  unfold m_law_lists_s3
  generalize mLc [5] (mItN gRange1 (mCons (mK (.int 13)) mNil)) (mgName 5) mYes m_law_lists_e2 = mL at *
  simp -implicitDefEqProofs [lc]
theorem l4_go (h1 : 1 ≤ n) (h4 : n ≤ 4) (R : D) (o2 : Option D) : m_law_lists_s4 (El n R o2 none (some (.lst (((List.range 13).map (lngP n)).map pl))) none none none) = .nx (El n R o2 none (some (.lst (((List.range 13).map (lngP n)).map pl))) none none none) := by
  have t1 := fun ρ => told0 (n := n) (Sq.lst (((List.range 12).map (lngP n)).map pl)) (lng_sm h1 h4 12 (by omega)) h1 h4 ρ
  have t2 := fun ρ => told0 (n := n) (Sq.lst (((List.range 13).map (lngP n)).map pl)) (lng_sm h1 h4 13 (by omega)) h1 h4 ρ
  have z2 := lng_no (n := n)
  simp only [lng_ok h1 h4, if_true] at t1
  have ef : (false = true) = False := by simp
  simp only [z2, ef, if_false] at t2
  have gs : gSl (.lst (((List.range 13).map (lngP n)).map pl)) none (some 12) = some (.lst (((List.range 12).map (lngP n)).map pl)) := by
    show some (D.lst (DL.cutD _ none (some ((12 : Nat) : Int)))) = _
    rw [cut_to]
    rfl
  have ns := ne_same lyP
  have np := ne_ps ((List.range 12).map (lngP n))
  generalize D.lst (((List.range 13).map (lngP n)).map pl) = A at *
  generalize D.lst (((List.range 12).map (lngP n)).map pl) = B at *
  unfold m_law_lists_s4
  generalize F_law_told = FT at *
  simp -implicitDefEqProofs [mSl, evB, rdB, mNoP, mPart, asI, gs, mCall_R, t1, t2, ns, np]
theorem z00 : Sq (.lst [.tup [.int 0, .int 0]]) ([[0, 0]].map pl) := Sq.lst _
theorem l7_b (R L : D) (o2 : Option D) {x : Int} (hx : ¬ (1 ≤ x ∧ x ≤ 4)) : m_law_lists_b6 (El n R o2 none (some L) none (some (.int x)) none) = .nx (El n R o2 none (some L) none (some (.int x)) none) := by
  have sz := szv
  have t0 := fun ρ => told0B (n := x) (ps := [[0, 0]]) z00 ⟨by simp, fun p hp => by
    rw [List.mem_singleton.mp hp]
    refine ⟨fun a ha => ?_, by simp⟩
    have : a = 0 := by simpa using ha
    rw [this]
    exact Nat.two_pow_pos _⟩ hx ρ
  have t1 := fun ρ => told1B (d := .lst [.tup [.int 0, .int 0]]) hx ρ
  have t2 := fun ρ => told2B (d := .lst [.tup [.int 0, .int 0]]) (e := .tup [.int 0, .int 0]) hx rfl ρ
  have rg : gRange1 [.int 3] = some [.int 0, .int 1, .int 2] := by kernel_rfl
  have lc := mLc_map (as := ([0, 1, 2] : List Int)) (enc := D.int) (vs := [7]) (g := mgName 7) (mi := mItN gRange1 (mCons (mK (.int 3)) mNil)) (me := m_law_lists_e5) (ρ0 := El n R o2 none (some L) none (some (.int x)) none) (ρ := El n R o2 none (some L) none (some (.int x)) none)
    (st := fun w => El n R o2 none (some L) none (some (.int x)) (some (.int w))) (f := fun _ => sB) (by
      show _ = DL.R.ok [D.int 0, .int 1, .int 2] _
      simp -implicitDefEqProofs [rg]) (by rw [sz]; decide) (fun _ => rfl) (fun _ _ => rfl) (fun w hw => by
      have hT : ∀ ρ, (F_law_told [.int w, .int x, .lst [.tup [.int 0, .int 0]]]).R ρ = .ok sB ρ := by
        simp only [List.mem_cons, List.not_mem_nil, or_false] at hw
        rcases hw with rfl | rfl | rfl
        · exact t0
        · exact t1
        · exact t2
      unfold m_law_lists_e5
      generalize F_law_told = FT at *
      simp -implicitDefEqProofs [mCall_R, hT, show 2 ≤ sizeLine by omega, show 1 ≤ sizeLine by omega])
  have e3 : ([0, 1, 2] : List Int).map (fun _ => sB) = [sB, sB, sB] := rfl
  rw [e3] at lc
  have gm := gMul_rep sB (n := 3) (by omega)
  have e4 : List.replicate 3 sB = [sB, sB, sB] := rfl
  rw [e4, show ((3 : Nat) : Int) = 3 from rfl] at gm
  have pd : Pd 1 (.lst [sB, sB, sB]) := by
    intro d hd
    simp only [List.mem_cons, List.not_mem_nil, or_false] at hd
    rcases hd with rfl | rfl | rfl <;> (unfold Pd; exact lyB)
  have ne : gNe (.lst [sB, sB, sB]) (.lst [sB, sB, sB]) = some (.bl false) := (gNe_pd (P := True) pd pd (by decide) (by decide) ⟨fun _ => trivial, fun _ => rfl⟩).trans (by simp)
  generalize D.lst [sB, sB, sB] = LL at *
  unfold m_law_lists_b6
  generalize mLc [7] (mItN gRange1 (mCons (mK (.int 3)) mNil)) (mgName 7) mYes m_law_lists_e5 = mL at *
  simp -implicitDefEqProofs [lc, gm, ne, show 1 ≤ sizeLine by omega]
theorem l7_go (R L : D) (o2 : Option D) : m_law_lists_s7 (El n R o2 none (some L) none none none) = .nx (El n R o2 none (some L) none (some (.int 99)) none) := by
  have st : ∀ {x : Int} {ds : List D} {o : Option D}, ¬ (1 ≤ x ∧ x ≤ 4) → loopL (mgName 6) m_law_lists_b6 (.int x :: ds) (El n R o2 none (some L) none o none) = loopL (mgName 6) m_law_lists_b6 ds (El n R o2 none (some L) none (some (.int x)) none) := fun hx => loop_step rfl (l7_b R L o2 hx)
  have e : loopL (mgName 6) m_law_lists_b6 [.int 0, .int 5, .int (-1), .int 99] (El n R o2 none (some L) none none none) = .nx (El n R o2 none (some L) none (some (.int 99)) none) := by
    rw [st (by omega), st (by omega), st (by omega), st (by omega)]
    rfl
  unfold m_law_lists_s7
  have gi : gIter (.lst [.int 0, .int 5, .int (-1), .int 99]) = some [.int 0, .int 5, .int (-1), .int 99] := rfl
  generalize m_law_lists_b6 = B at *
  simp -implicitDefEqProofs [gi, e, show 4 ≤ sizeLine by decide]
theorem v_lists (hp : ∀ p ∈ ps, Pi 5 n p) (hl : ps.length ≤ 12) (h1 : 1 ≤ n) (h4 : n ≤ 4) (ρ : En) : (F_law_lists [.int (n : Nat), .lst (ps.map pl)]).R ρ = .ok (.bl true) ρ := by
  obtain ⟨o2, e1⟩ := l1_go hp hl h1 h4
  have e3 := l3_go h1 h4 (.lst (ps.map pl)) o2
  have e4 := l4_go h1 h4 (.lst (ps.map pl)) o2
  have e7 := l7_go (n := n) (.lst (ps.map pl)) (.lst (((List.range 13).map (lngP n)).map pl)) o2
  have v : ∀ ρ, (Q.Fcheck_letters [.int (n : Nat)]).R ρ = .ok .non ρ := fun ρ => (v_letters n ρ).trans (if_pos ⟨by omega, by omega⟩)
  have e : m_law_lists (El n (.lst (ps.map pl)) none none none none none none) = .rt (.bl true) (El n (.lst (ps.map pl)) o2 none (some (.lst (((List.range 13).map (lngP n)).map pl))) none (some (.int 99)) none) := by
    unfold m_law_lists
    rw [seq_nx e1, seq_nx e3, seq_nx e4, seq_nx e7]
    have gi : isNon .non = true := rfl
    simp -implicitDefEqProofs [m_law_lists_s8, mCall_R, v, gi]
  have : F_law_lists [.int (n : Nat), .lst (ps.map pl)] = .rt (.bl true) (io0 _) := runM_rt (n := 8) (np := 2) (dd := []) (ds := [.int (n : Nat), .lst (ps.map pl)]) rfl e
  rw [this]
  rfl
end
end K05
namespace K05
open Q DL PySem PySem.Spec PyProof.Rows
section
variable {n : Nat} {ps : List (List Int)} {i : Nat}
abbrev Ep (l : List Int) (n : Nat) (R P : D) (o4 o5 o6 o7 o8 : Option D) : En := [some (dl l), some (.int (n : Nat)), some R, some P, o4, o5, o6, o7, o8]
theorem p1_lc (R P : D) : ∀ (xs : List Nat) (l : List Int) (o5 : Option D), ∃ (ks : List Nat) (l' : List Int) (o5' : Option D), ks.Sublist xs ∧ lcLoop [5] (mgName 5) m_law_parts_t0 (mVar 5) (xs.map fun i => D.int (i : Nat)) (Ep l n R P none o5 none none none) = .ok (ks.map fun i => D.int (i : Nat)) (Ep l' n R P none o5' none none none)
  | [], l, o5 => ⟨[], l, o5, .slnil, rfl⟩
  | x :: xs, l, o5 => by
    obtain ⟨ks, l', o5', sb, e⟩ := p1_lc R P xs l.dropLast (some (.int (x : Nat)))
    have w : wipeE (Ep l n R P none o5 none none none) [5] = Ep l n R P none none none none none := rfl
    have g1 : mgName 5 (.int (x : Nat)) (Ep l n R P none none none none none) = .ok () (Ep l n R P none (some (.int (x : Nat))) none none none) := rfl
    have gm := gMod_p (drawI l) (m := 2) (by decide)
    have ht : m_law_parts_t0 (Ep l n R P none (some (.int (x : Nat))) none none none) = .ok (decide ((drawI l).fmod 2 = 0)) (Ep l.dropLast n R P none (some (.int (x : Nat))) none none none) := by
      simp -implicitDefEqProofs [m_law_parts_t0, io_next, gm]
    have he : mVar 5 (Ep l.dropLast n R P none (some (.int (x : Nat))) none none none) = .ok (.int (x : Nat)) (Ep l.dropLast n R P none (some (.int (x : Nat))) none none none) := rfl
    cases c : decide ((drawI l).fmod 2 = 0) with
    | true =>
      rw [c] at ht
      exact ⟨x :: ks, l', o5', sb.cons₂ x, by simp only [List.map_cons, lcLoop, w, g1, ht, he, e]⟩
    | false =>
      rw [c] at ht
      exact ⟨ks, l', o5', sb.cons x, by simp only [List.map_cons, lcLoop, w, g1, ht, e]⟩
theorem p1_go (P : D) (hl : ps.length ≤ 12) (l : List Int) : ∃ (ks : List Nat) (l' : List Int), ks.Sublist (List.range ps.length) ∧ m_law_parts_s1 (Ep l n (.lst (ps.map pl)) P none none none none none) = .nx (Ep l' n (.lst (ps.map pl)) P (some (tix ks)) none none none none) := by
  have sz := szv
  obtain ⟨ks, l', o5', sb, e⟩ := p1_lc (n := n) (.lst (ps.map pl)) P (List.range ps.length) l none
  refine ⟨ks, l', sb, ?_⟩
  have rg := range1 (n := ps.length) (by omega)
  have gl : gLen [.lst (ps.map pl)] = some (.int (ps.length : Nat)) := by simp [gLen]
  have kl : ks.length ≤ 12 := by
    have := sb.length_le
    rw [List.length_range] at this
    omega
  have lc : mLc [5] (mItN gRange1 (mCons (mN gLen (mCons (mVar 2) mNil)) mNil)) (mgName 5) m_law_parts_t0 (mVar 5) (Ep l n (.lst (ps.map pl)) P none none none none none) = .ok (.lst (ks.map fun i => D.int (i : Nat))) (Ep l' n (.lst (ps.map pl)) P none none none none none) := by
    have hi : mItN gRange1 (mCons (mN gLen (mCons (mVar 2) mNil)) mNil) (Ep l n (.lst (ps.map pl)) P none none none none none) = .ok ((List.range ps.length).map fun i => D.int (i : Nat)) (Ep l n (.lst (ps.map pl)) P none none none none none) := by
      generalize D.lst (ps.map pl) = L at *
      generalize (List.range ps.length).map (fun i => D.int (i : Nat)) = RL at *
      simp -implicitDefEqProofs [gl, rg]
    rw [mLc_ap, hi, bind_ok, e]
    show (if (ks.map fun i => D.int (i : Nat)).length ≤ sizeLine then DL.R.ok (D.lst _) _ else DL.R.bad) = _
    rw [if_pos (by rw [List.length_map]; omega)]
    rfl
  have gt : gTuple [.lst (ks.map fun i => D.int (i : Nat))] = some (tix ks) := rfl
  generalize ks.map (fun i => D.int (i : Nat)) = KL at *
  generalize tix ks = T at *
  generalize D.lst (ps.map pl) = L at *
  unfold m_law_parts_s1
  generalize mLc [5] (mItN gRange1 (mCons (mN gLen (mCons (mVar 2) mNil)) mNil)) (mgName 5) m_law_parts_t0 (mVar 5) = mL at *
  simp -implicitDefEqProofs [lc, gt]
def mOnly : ME := mMeth (tb [("Planes", Q.FPlanes_planes_v2)]) "planes" (mMeth (tb [("Planes", Q.FPlanes_only)]) "only" (mVar 3) (mCons (mVar 4) mNil)) mNil
theorem p2_go (h : okPls n ps = true) (h1 : 1 ≤ n) (h4 : n ≤ 4) {ks : List Nat} (sb : ks.Sublist (List.range ps.length)) (l : List Int) : m_law_parts_s2 (Ep l n (.lst (ps.map pl)) (PO n ps) (some (tix ks)) none none none none) = .nx (Ep l n (.lst (ps.map pl)) (PO n ps) (some (tix ks)) none none none none) := by
  have sz := szv
  have hl := ok_len h
  have kl : ks.length ≤ 12 := by
    have := sb.length_le
    rw [List.length_range] at this
    omega
  have hi : ∀ a ∈ ks, a < ps.length := fun a ha => List.mem_range.mp (sb.subset ha)
  obtain ⟨o, v⟩ := v_onlyP h h1 h4 (List.pairwise_lt_range.sublist sb) hi
  have w1 := meth_ok (tab := tb [("Planes", Q.FPlanes_only)]) (mn := "only") (o := mVar 3) (args := mCons (mVar 4) mNil) (ρ := Ep l n (.lst (ps.map pl)) (PO n ps) (some (tix ks)) none none none none) rfl rfl rfl (fun _ _ => rfl) v
  have w2 : mOnly _ = _ := meth_ok (tab := tb [("Planes", Q.FPlanes_planes_v2)]) (mn := "planes") (args := mNil) w1 rfl rfl (fun _ _ => rfl) v_planesF
  have lc := mLc_map (as := ks) (enc := fun i => D.int (i : Nat)) (vs := [5]) (g := mgName 5) (mi := mIter (mVar 4)) (me := m2 gIx (mVar 2) (mVar 5)) (ρ0 := Ep l n (.lst (ps.map pl)) (PO n ps) (some (tix ks)) none none none none) (ρ := Ep l n (.lst (ps.map pl)) (PO n ps) (some (tix ks)) none none none none)
    (st := fun a => Ep l n (.lst (ps.map pl)) (PO n ps) (some (tix ks)) (some (.int (a : Nat))) none none none) (f := fun a => pl (ps.getD a [])) rfl (by omega) (fun _ => rfl) (fun _ _ => rfl) (fun a hm => by
      have ix1 := ixP (hi a hm) (Sq.lst (ps.map pl))
      generalize pl (ps.getD a []) = PP at *
      generalize D.lst (ps.map pl) = T at *
      generalize tix ks = I at *
      generalize PO n ps = P at *
      simp -implicitDefEqProofs [ix1])
  have em : ks.map (fun a => pl (ps.getD a [])) = (ks.map fun a => ps.getD a []).map pl := by rw [List.map_map]; rfl
  rw [em] at lc
  have ne := ne_ps (ks.map fun a => ps.getD a [])
  clear w1
  generalize (ks.map fun a => ps.getD a []).map pl = X at *
  generalize D.lst (ps.map pl) = T at *
  generalize tix ks = I at *
  generalize PO n ps = P at *
  have e : m_law_parts_s2 = (msIf (mTest (m2 gNe mOnly (mLc [5] (mIter (mVar 4)) (mgName 5) mYes (m2 gIx (mVar 2) (mVar 5))))) (msRet (mK (.bl false))) msNil) := rfl
  rw [e]
  generalize mLc [5] (mIter (mVar 4)) (mgName 5) mYes (m2 gIx (mVar 2) (mVar 5)) = mL at *
  generalize mOnly = mO at *
  simp -implicitDefEqProofs [w2, lc, ne]
def mWo : ME := mMeth (tb [("Planes", Q.FPlanes_planes_v2)]) "planes" (mMeth (tb [("Planes", Q.FPlanes_without)]) "without" (mVar 3) (mCons (mVar 5) mNil)) mNil
def mTu1 : ME := mMeth (tb [("Planes", Q.FPlanes_turned)]) "turned" (mVar 3) (mCons (mVar 5) mNil)
def mTu : ME := mMeth (tb [("Planes", Q.FPlanes_planes_v2)]) "planes" mTu1 mNil
theorem sl_rows (i : Nat) : gSl (.lst (ps.map pl)) none (some (i : Int)) = some (.lst ((ps.take i).map pl)) ∧ gSl (.lst (ps.map pl)) (some ((i : Int) + 1)) none = some (.lst ((ps.drop (i + 1)).map pl)) := by
  constructor
  · show some (D.lst (DL.cutD (ps.map pl) _ _)) = _
    rw [cut_to, List.map_take]
  · show some (D.lst (DL.cutD (ps.map pl) (some ((i + 1 : Nat) : Int)) _)) = _
    rw [cut_from, List.map_drop]
theorem p4_go (h : okPls n ps = true) (h1 : 1 ≤ n) (h4 : n ≤ 4) (hi : i < ps.length) (I : D) (o6 : Option D) (l : List Int) : ∃ o6', m_law_parts_b4 (Ep l n (.lst (ps.map pl)) (PO n ps) (some I) (some (.int (i : Nat))) o6 none none) = .nx (Ep l n (.lst (ps.map pl)) (PO n ps) (some I) (some (.int (i : Nat))) o6' none none) := by
  have sz := szv
  have hl := ok_len h
  refine ⟨some (pl (negL (ps.getD i []))), ?_⟩
  have i0 := ixP hi (Sq.lst (ps.map pl))
  have pl5 : (ps.getD i []).length = n + 1 := (isPl_iff.mp ((okPls_iff.mp h).2.1 _ (getD_memP hi))).1
  have e0 : (msAsg (mN gTuple (mCons (mLc [7] (mIter (m2 gIx (mVar 2) (mVar 5))) (mgName 7) mYes m_law_parts_e3) mNil)) (mgName 6)) (Ep l n (.lst (ps.map pl)) (PO n ps) (some I) (some (.int (i : Nat))) o6 none none) = .nx (Ep l n (.lst (ps.map pl)) (PO n ps) (some I) (some (.int (i : Nat))) (some (pl (negL (ps.getD i [])))) none none) := by
    have lc := mLc_map (as := ps.getD i []) (enc := D.int) (vs := [7]) (g := mgName 7) (mi := mIter (m2 gIx (mVar 2) (mVar 5))) (me := m_law_parts_e3) (ρ0 := Ep l n (.lst (ps.map pl)) (PO n ps) (some I) (some (.int (i : Nat))) o6 none none) (ρ := Ep l n (.lst (ps.map pl)) (PO n ps) (some I) (some (.int (i : Nat))) o6 none none)
      (st := fun a => Ep l n (.lst (ps.map pl)) (PO n ps) (some I) (some (.int (i : Nat))) o6 (some (.int a)) none) (f := fun a => .int (0 - a)) (by
        have gi : gIter (pl (ps.getD i [])) = some ((ps.getD i []).map D.int) := rfl
        generalize (ps.getD i []).map D.int = PL at *
        generalize pl (ps.getD i []) = PP at *
        generalize D.lst (ps.map pl) = L at *
        generalize PO n ps = P at *
        simp -implicitDefEqProofs [i0, gi]) (by omega) (fun _ => rfl) (fun _ _ => rfl) (fun _ _ => rfl)
    rw [turned_row] at lc
    have gt : gTuple [.lst ((negL (ps.getD i [])).map D.int)] = some (pl (negL (ps.getD i []))) := rfl
    generalize (negL (ps.getD i [])).map D.int = PL at *
    generalize pl (negL (ps.getD i [])) = PP at *
    generalize D.lst (ps.map pl) = L at *
    generalize PO n ps = P at *
    generalize mLc [7] (mIter (m2 gIx (mVar 2) (mVar 5))) (mgName 7) mYes m_law_parts_e3 = mL at *
    simp -implicitDefEqProofs [lc, gt]
  obtain ⟨o1, vw⟩ := v_withoutP h h1 h4 hi
  obtain ⟨o2, vt⟩ := v_turned h h1 h4 hi
  have a1 := meth_ok (tab := tb [("Planes", Q.FPlanes_without)]) (mn := "without") (o := mVar 3) (args := mCons (mVar 5) mNil) (ρ := Ep l n (.lst (ps.map pl)) (PO n ps) (some I) (some (.int (i : Nat))) (some (pl (negL (ps.getD i [])))) none none) rfl rfl rfl (fun _ _ => rfl) vw
  have a2 : mWo _ = _ := meth_ok (tab := tb [("Planes", Q.FPlanes_planes_v2)]) (mn := "planes") (args := mNil) a1 rfl rfl (fun _ _ => rfl) v_planesF
  have a3 : mTu1 _ = _ := meth_ok (tab := tb [("Planes", Q.FPlanes_turned)]) (mn := "turned") (o := mVar 3) (args := mCons (mVar 5) mNil) (ρ := Ep l n (.lst (ps.map pl)) (PO n ps) (some I) (some (.int (i : Nat))) (some (pl (negL (ps.getD i [])))) none none) rfl rfl rfl (fun _ _ => rfl) vt
  have a4 : mTu _ = _ := meth_ok (tab := tb [("Planes", Q.FPlanes_planes_v2)]) (mn := "planes") (args := mNil) a3 rfl rfl (fun _ _ => rfl) v_planesF
  clear a1
  obtain ⟨s1, s2⟩ := sl_rows (ps := ps) i
  have g1 := add_ps (a := ps.take i) (b := ps.drop (i + 1)) (by rw [List.length_take, List.length_drop]; omega)
  have g2 := add_ps (a := ps.take i) (b := [negL (ps.getD i [])]) (by rw [List.length_take]; simp; omega)
  have g3 := add_ps (a := ps.take i ++ [negL (ps.getD i [])]) (b := ps.drop (i + 1)) (by rw [List.length_append, List.length_take, List.length_drop]; simp; omega)
  have q1 : [negL (ps.getD i [])].map pl = [pl (negL (ps.getD i []))] := rfl
  rw [q1] at g2
  have n1 := ne_ps (dropP ps i)
  have n2 := ne_ps (turnP ps i)
  have f := fld_n (n := n) (ps := turnP ps i)
  have d1 : ps.take i ++ ps.drop (i + 1) = dropP ps i := rfl
  have d2 : ps.take i ++ [negL (ps.getD i [])] ++ ps.drop (i + 1) = turnP ps i := rfl
  rw [d1] at g1
  rw [d2] at g3
  have eb : m_law_parts_b4 = (msSeq (msAsg (mN gTuple (mCons (mLc [7] (mIter (m2 gIx (mVar 2) (mVar 5))) (mgName 7) mYes m_law_parts_e3) mNil)) (mgName 6)) (msSeq (msIf (mTest (m2 gNe mWo (m2 gAdd (mSl (.ex (mVar 2)) mNoP (mPart (mVar 5))) (mSl (.ex (mVar 2)) (mPart (m2 gAdd (mVar 5) (mK (.int 1)))) mNoP)))) (msRet (mK (.bl false))) msNil) (msIf (mOrT (mTest (m2 gNe mTu (m2 gAdd (m2 gAdd (mSl (.ex (mVar 2)) mNoP (mPart (mVar 5))) (mN gLst (mCons (mVar 6) mNil))) (mSl (.ex (mVar 2)) (mPart (m2 gAdd (mVar 5) (mK (.int 1)))) mNoP)))) (mTest (m2 gNe (m1 (gFld (isC ["Planes"]) "n") mTu1) (mVar 1)))) (msRet (mK (.bl false))) msNil))) := rfl
  rw [eb, seq_nx e0]
  clear e0 eb vw vt
  generalize D.lst ((dropP ps i).map pl) = DP at *
  generalize D.lst ((turnP ps i).map pl) = TP at *
  generalize D.lst ((ps.take i ++ [negL (ps.getD i [])]).map pl) = TN at *
  generalize D.lst ((ps.take i).map pl) = TT at *
  generalize D.lst ((ps.drop (i + 1)).map pl) = TD at *
  generalize pl (negL (ps.getD i [])) = NN at *
  generalize D.lst (ps.map pl) = L at *
  generalize PO n ps = P at *
  generalize PO n (turnP ps i) = P2 at *
  generalize mWo = M1 at *
  generalize mTu = M2 at *
  generalize mTu1 = M3 at *
  simp -implicitDefEqProofs [a2, a3, a4, mSl, evB, rdB, mNoP, mPart, asI, s1, s2, g1, g2, g3, n1, n2, f, show 1 ≤ sizeLine by omega]
theorem p5_go (h : okPls n ps = true) (h1 : 1 ≤ n) (h4 : n ≤ 4) (I : D) (l : List Int) : ∃ o5 o6, m_law_parts_s5 (Ep l n (.lst (ps.map pl)) (PO n ps) (some I) none none none none) = .nx (Ep l n (.lst (ps.map pl)) (PO n ps) (some I) o5 o6 none none) := by
  have sz := szv
  have hl := ok_len h
  have lp : ∀ (xs : List Nat) (o5 o6 : Option D), (∀ a ∈ xs, a < ps.length) → ∃ o5' o6', loopL (mgName 5) m_law_parts_b4 (xs.map fun i => D.int (i : Nat)) (Ep l n (.lst (ps.map pl)) (PO n ps) (some I) o5 o6 none none) = .nx (Ep l n (.lst (ps.map pl)) (PO n ps) (some I) o5' o6' none none) := by
    intro xs
    induction xs with
    | nil => exact fun o5 o6 _ => ⟨o5, o6, rfl⟩
    | cons x xs ih =>
      intro o5 o6 hx
      obtain ⟨o6', e⟩ := p4_go h h1 h4 (hx x List.mem_cons_self) I o6 l
      obtain ⟨o5'', o6'', e2⟩ := ih (some (.int (x : Nat))) o6' fun a ha => hx a (List.mem_cons_of_mem _ ha)
      refine ⟨o5'', o6'', ?_⟩
      rw [List.map_cons, loop_step (ρ1 := Ep l n (.lst (ps.map pl)) (PO n ps) (some I) (some (.int (x : Nat))) o6 none none) rfl e]
      exact e2
  obtain ⟨o5, o6, e⟩ := lp (List.range ps.length) none none fun a ha => List.mem_range.mp ha
  refine ⟨o5, o6, ?_⟩
  have rg := range1 (n := ps.length) (by omega)
  have gl : gLen [.lst (ps.map pl)] = some (.int (ps.length : Nat)) := by simp [gLen]
  generalize (List.range ps.length).map (fun i => D.int (i : Nat)) = RL at *
  clear lp
  unfold m_law_parts_s5
  generalize D.lst (ps.map pl) = L at *
  generalize PO n ps = P at *
  generalize m_law_parts_b4 = B at *
  simp -implicitDefEqProofs [gl, rg, e]
theorem p7_b {a : Int} (ha : ¬ (0 ≤ a ∧ a < ps.length)) (R I : D) (o6 : Option D) (l : List Int) : m_law_parts_b6 (Ep l n R (PO n ps) (some I) (some (.int a)) o6 none none) = .nx (Ep l n R (PO n ps) (some I) (some (.int a)) o6 none none) := by
  have m0 := fun ρ => meth0 (n := n) ha ρ
  have m1 := fun ρ => meth1 (n := n) ha ρ
  have m2 := fun ρ => meth2 (n := n) (ps := ps) (as := [a]) (by simp) (by
    have : inRA ps.length [a] = false := by
      unfold inRA
      rw [List.all_cons, decide_eq_false ha, Bool.false_and]
    rw [this, Bool.false_and]) ρ
  have q : ixA [a] = .tup [.int a] := rfl
  rw [q] at m2
  have ns := ne_same ly1
  generalize PO n ps = P at *
  unfold m_law_parts_b6
  generalize F_law_method = FM at *
  simp -implicitDefEqProofs [mCall_R, m0, m1, m2, ns, show 1 ≤ sizeLine by decide]
theorem p7_go (hl : ps.length ≤ 12) (I : D) (o5 o6 : Option D) (l : List Int) : m_law_parts_s7 (Ep l n (.lst (ps.map pl)) (PO n ps) (some I) o5 o6 none none) = .nx (Ep l n (.lst (ps.map pl)) (PO n ps) (some I) (some (.int ((ps.length : Int) + 9))) o6 none none) := by
  have st : ∀ {x : Int} {ds : List D} {o : Option D}, ¬ (0 ≤ x ∧ x < ps.length) → loopL (mgName 5) m_law_parts_b6 (.int x :: ds) (Ep l n (.lst (ps.map pl)) (PO n ps) (some I) o o6 none none) = loopL (mgName 5) m_law_parts_b6 ds (Ep l n (.lst (ps.map pl)) (PO n ps) (some I) (some (.int x)) o6 none none) := fun hx => loop_step rfl (p7_b hx _ I o6 l)
  have e : loopL (mgName 5) m_law_parts_b6 [.int (-1), .int (ps.length : Nat), .int ((ps.length : Int) + 9)] (Ep l n (.lst (ps.map pl)) (PO n ps) (some I) o5 o6 none none) = .nx (Ep l n (.lst (ps.map pl)) (PO n ps) (some I) (some (.int ((ps.length : Int) + 9))) o6 none none) := by
    rw [st (by omega), st (by omega), st (by omega)]
    rfl
  have gl : gLen [.lst (ps.map pl)] = some (.int (ps.length : Nat)) := by simp [gLen]
  have gi : gIter (.lst [.int (-1), .int (ps.length : Nat), .int ((ps.length : Int) + 9)]) = some [.int (-1), .int (ps.length : Nat), .int ((ps.length : Int) + 9)] := rfl
  clear st
  generalize D.lst (ps.map pl) = L at *
  generalize PO n ps = P at *
  generalize (ps.length : Int) = pi at *
  unfold m_law_parts_s7
  generalize m_law_parts_b6 = B at *
  simp -implicitDefEqProofs [gl, gi, e, show 3 ≤ sizeLine by decide]
theorem p9_go (hl : ps.length ≤ 12) (I : D) (o5 o6 : Option D) (l : List Int) : m_law_parts_s9 (Ep l n (.lst (ps.map pl)) (PO n ps) (some I) o5 o6 none none) = if 1 < ps.length then .rt (.bl true) (Ep l n (.lst (ps.map pl)) (PO n ps) (some I) o5 o6 none none) else .nx (Ep l n (.lst (ps.map pl)) (PO n ps) (some I) o5 o6 none none) := by
  have sz := szv
  have gl : gLen [.lst (ps.map pl)] = some (.int (ps.length : Nat)) := by simp [gLen]
  have bad : ∀ q ∈ ([[1, 0], [0, 0], [1, 1]] : List (List Int)), (inRA ps.length q && ascBA q) = false ∧ q.length ≤ 100 := fun q hq => by
    simp only [List.mem_cons, List.not_mem_nil, or_false] at hq
    rcases hq with rfl | rfl | rfl
    · exact ⟨by rw [show ascBA [1, 0] = false from by decide, Bool.and_false], by decide⟩
    · exact ⟨by rw [show ascBA [0, 0] = false from by decide, Bool.and_false], by decide⟩
    · exact ⟨by rw [show ascBA [1, 1] = false from by decide, Bool.and_false], by decide⟩
  have lc := mLc_map (as := ([[1, 0], [0, 0], [1, 1]] : List (List Int))) (enc := ixA) (vs := [8]) (g := mgName 8) (mi := mIter (mN gLst (mCons (mN gTup (mCons (mK (.int 1)) (mCons (mK (.int 0)) mNil))) (mCons (mN gTup (mCons (mK (.int 0)) (mCons (mK (.int 0)) mNil))) (mCons (mN gTup (mCons (mK (.int 1)) (mCons (mK (.int 1)) mNil))) mNil))))) (me := m_law_parts_e8) (ρ0 := Ep l n (.lst (ps.map pl)) (PO n ps) (some I) o5 o6 none none) (ρ := Ep l n (.lst (ps.map pl)) (PO n ps) (some I) o5 o6 none none)
    (st := fun q => Ep l n (.lst (ps.map pl)) (PO n ps) (some I) o5 o6 none (some (ixA q))) (f := fun _ => K05.s1) (by
      have gi : gIter (.lst [.tup [.int 1, .int 0], .tup [.int 0, .int 0], .tup [.int 1, .int 1]]) = some [.tup [.int 1, .int 0], .tup [.int 0, .int 0], .tup [.int 1, .int 1]] := rfl
      show _ = DL.R.ok [D.tup [.int 1, .int 0], .tup [.int 0, .int 0], .tup [.int 1, .int 1]] _
      simp -implicitDefEqProofs [gi, show 3 ≤ sizeLine by omega, show 2 ≤ sizeLine by omega]) (by rw [sz]; decide) (fun _ => rfl) (fun _ _ => rfl) (fun q hq => by
      have hT : ∀ ρ, (F_law_method [.int 2, PO n ps, ixA q]).R ρ = .ok K05.s1 ρ := fun ρ => meth2 (bad q hq).2 (bad q hq).1 ρ
      generalize ixA q = Q at *
      generalize PO n ps = P at *
      unfold m_law_parts_e8
      generalize F_law_method = FM at *
      simp -implicitDefEqProofs [mCall_R, hT])
  have e3 : ([[1, 0], [0, 0], [1, 1]] : List (List Int)).map (fun _ => K05.s1) = [K05.s1, K05.s1, K05.s1] := rfl
  rw [e3] at lc
  have gm := gMul_rep K05.s1 (n := 3) (by omega)
  have e4 : List.replicate 3 K05.s1 = [K05.s1, K05.s1, K05.s1] := rfl
  rw [e4, show ((3 : Nat) : Int) = 3 from rfl] at gm
  have pd : Pd 1 (.lst [K05.s1, K05.s1, K05.s1]) := by
    intro d hd
    simp only [List.mem_cons, List.not_mem_nil, or_false] at hd
    rcases hd with rfl | rfl | rfl <;> (unfold Pd; exact ly1)
  have ne : gEq (.lst [K05.s1, K05.s1, K05.s1]) (.lst [K05.s1, K05.s1, K05.s1]) = some (.bl true) := (gEq_pd (P := True) pd pd (by decide) (by decide) ⟨fun _ => trivial, fun _ => rfl⟩).trans (by simp)
  have q : decide (1 < (ps.length : Int)) = decide (1 < ps.length) := by rw [decide_eq_decide]; omega
  generalize D.lst [K05.s1, K05.s1, K05.s1] = LL at *
  generalize D.lst (ps.map pl) = L at *
  generalize PO n ps = P at *
  unfold m_law_parts_s9
  generalize mLc [8] _ (mgName 8) mYes m_law_parts_e8 = mL at *
  generalize (ps.length : Int) = pi at *
  by_cases c : 1 < ps.length
  · rw [decide_eq_true c] at q
    rw [if_pos c]
    simp -implicitDefEqProofs [gl, q, lc, gm, ne, show 1 ≤ sizeLine by omega]
  · rw [decide_eq_false c] at q
    rw [if_neg c]
    simp -implicitDefEqProofs [gl, q]
theorem v_parts (h : okPls n ps = true) (h1 : 1 ≤ n) (h4 : n ≤ 4) (l : List Int) : ∃ l', F_law_parts [dl l, .int (n : Nat), .lst (ps.map pl), PO n ps] = .rt (.bl true) (dl l') := by
  have hl := ok_len h
  obtain ⟨ks, l', sb, e1⟩ := p1_go (n := n) (PO n ps) hl l
  have e2 := p2_go h h1 h4 sb l'
  obtain ⟨o5, o6, e5⟩ := p5_go h h1 h4 (tix ks) l'
  have e7 := p7_go (n := n) hl (tix ks) o5 o6 l'
  have e9 := p9_go (n := n) hl (tix ks) (some (.int ((ps.length : Int) + 9))) o6 l'
  refine ⟨l', ?_⟩
  have e : m_law_parts (Ep l n (.lst (ps.map pl)) (PO n ps) none none none none none) = .rt (.bl true) (Ep l' n (.lst (ps.map pl)) (PO n ps) (some (tix ks)) (some (.int ((ps.length : Int) + 9))) o6 none none) := by
    unfold m_law_parts
    rw [seq_nx e1, seq_nx e2, seq_nx e5, seq_nx e7]
    by_cases c : 1 < ps.length
    · rw [if_pos c] at e9
      rw [seq_rt e9]
    · rw [if_neg c] at e9
      rw [seq_nx e9]
      rfl
  exact runM_rt (n := 9) (np := 4) (dd := []) (fr := false) (m := m_law_parts) (ds := [dl l, .int (n : Nat), .lst (ps.map pl), PO n ps]) rfl e
end
end K05
namespace K05
open Q DL PySem PySem.Spec PyProof.Rows
section
variable {n : Nat} {ps : List (List Int)}
theorem sep_comm {o r : List Int} (h : Sep o r) : Sep r o := ⟨fun e => h.1 e.symm, fun e => h.2 (by rw [← e, negL_negL])⟩
theorem rot_ok (h : okPls n ps = true) : okPls n (ps.drop 1 ++ ps.take 1) = true := by
  rw [okPls_iff] at h ⊢
  obtain ⟨h1, h2, h3⟩ := h
  cases ps with
  | nil => exact ⟨by simp, fun p hp => (by simp at hp), by simp⟩
  | cons p r =>
    have e : (p :: r).drop 1 ++ (p :: r).take 1 = r ++ [p] := rfl
    rw [e]
    obtain ⟨g1, g2⟩ := List.pairwise_cons.mp h3
    refine ⟨by simpa using h1, fun q hq => ?_, List.pairwise_append.mpr ⟨g2, List.pairwise_singleton _ _, fun a ha b hb => ?_⟩⟩
    · rcases List.mem_append.mp hq with z | z
      · exact h2 q (List.mem_cons_of_mem _ z)
      · rw [List.mem_singleton.mp z]; exact h2 p List.mem_cons_self
    · rw [List.mem_singleton.mp hb]
      exact sep_comm (g1 a ha)
theorem rot_ne (h : okPls n ps = true) (h2 : 1 < ps.length) : ps ≠ ps.drop 1 ++ ps.take 1 := by
  intro e
  match ps, h2, h, e with
  | p :: q :: r, _, h, e =>
    have e' : p :: q :: r = (q :: r) ++ [p] := e
    have : p = q := (List.cons.inj e').1
    have g := List.pairwise_cons.mp (okPls_iff.mp h).2.2
    exact (g.1 q List.mem_cons_self).1 this.symm
theorem drop_ok1 (h : okPls n ps = true) : okPls n (ps.drop 1) = true := ok_sub h (List.drop_sublist 1 ps)
theorem drop_ne (h : 0 < ps.length) : ps ≠ ps.drop 1 := by
  intro e
  have := congrArg List.length e
  rw [List.length_drop] at this
  omega
theorem neg_ne {p : List Int} (h : isPl n p = true) : negL p ≠ p := by
  obtain ⟨_, _, _, a, ha, h0⟩ := isPl_iff.mp h
  intro e
  have hm := List.mem_of_mem_take ha
  obtain ⟨i, hi, rfl⟩ := List.getElem_of_mem hm
  have : (negL p)[i]? = p[i]? := by rw [e]
  unfold negL at this
  rw [List.getElem?_map, List.getElem?_eq_getElem hi] at this
  have : -p[i] = p[i] := Option.some.inj this
  omega
theorem turn_ne (h : okPls n ps = true) (h0 : 0 < ps.length) : ps ≠ turnP ps 0 := by
  cases ps with
  | nil => cases h0
  | cons p r =>
    have e : turnP (p :: r) 0 = negL p :: r := rfl
    rw [e]
    intro e2
    exact neg_ne ((okPls_iff.mp h).2.1 p List.mem_cons_self) (List.cons.inj e2).1.symm
theorem turn_turn (h0 : 0 < ps.length) : turnP (turnP ps 0) 0 = ps := by
  cases ps with
  | nil => cases h0
  | cons p r =>
    have e : turnP (p :: r) 0 = negL p :: r := rfl
    have e2 : turnP (negL p :: r) 0 = negL (negL p) :: r := rfl
    rw [e, e2, negL_negL]
theorem turn_len (h0 : 0 < ps.length) : (turnP ps 0).length = ps.length := by
  cases ps with
  | nil => cases h0
  | cons p r => rfl
theorem ok_one {r : List Int} : okPls n [r] = isPl n r := by
  cases c : isPl n r with
  | true => exact okPls_iff.mpr ⟨by simp, fun p hp => by rw [List.mem_singleton.mp hp]; exact c, List.pairwise_singleton _ _⟩
  | false =>
    cases d : okPls n [r] with
    | false => rfl
    | true =>
      have := (okPls_iff.mp d).2.1 r List.mem_cons_self
      rw [c] at this
      cases this
end
section
variable {n m : Nat} {ps qs : List (List Int)}
theorem eqX_po : gEqX (tb [("Planes", Q.FPlanes_eq)]) (PO n ps) (PO m qs) = some (.bl (decide (n = m ∧ ps = qs))) := by
  have v := v_eqPO (n := n) (ps := ps) (m := m) (qs := qs) []
  obtain ⟨o, e⟩ := R_ok v
  have u : gEqX (tb [("Planes", Q.FPlanes_eq)]) (PO n ps) (PO m qs) = eqR (Q.FPlanes_eq [PO n ps, PO m qs]) := rfl
  rw [u, e]
  rfl
theorem lenX_po (hl : ps.length ≤ 1000) : gLenX (tb [("Planes", Q.FPlanes_len)]) (PO n ps) = some (.int (ps.length : Nat)) := by
  have v := v_plen n ps
  unfold PO at v ⊢
  unfold gLenX
  show ((tb [("Planes", Q.FPlanes_len)]) "Planes").bind _ = _
  have : (tb [("Planes", Q.FPlanes_len)]) "Planes" = some Q.FPlanes_len := rfl
  rw [this, Option.bind_some, v]
  unfold lenR
  simp
  omega
end
abbrev St (S dr N o3 o4 o5 o6 o7 o8 o9 o10 o11 o12 : Option D) : En := [S, dr, N, o3, o4, o5, o6, o7, o8, o9, o10, o11, o12]
section
variable {n : Nat} {ps : List (List Int)} {S : D}
theorem all_flat (l : List Int) : (l.map D.int).all flatD = true := by
  rw [List.all_map]
  exact List.all_eq_true.mpr fun _ _ => rfl
theorem all_noL (l : List Int) : (l.map D.int).all noLD = true := by
  rw [List.all_map]
  exact List.all_eq_true.mpr fun _ _ => rfl
theorem pls_noL (ps : List (List Int)) : (ps.map pl).all noLD = true := by
  rw [List.all_map]
  refine List.all_eq_true.mpr fun p _ => ?_
  exact all_flat p
theorem sep_pp (ps : List (List Int)) {pt : List Int} (h : 1 ≤ pt.length) : sepL (ps.map pl) (pt.map D.int) = true := by
  cases ps with
  | nil =>
    cases pt with
    | nil => simp at h
    | cons a b => rfl
  | cons p r =>
    cases pt with
    | nil => simp at h
    | cons a b =>
      show (decide _ || decide (kindD (pl p) ≠ kindD (.int a))) = true
      rw [show decide (kindD (pl p) ≠ kindD (.int a)) = true from by rfl, Bool.or_true]
theorem own2_go {F : FN} {j i1 i2 : Nat} {args : MA} {ρ ρ1 : En} {cs cs1 ds xs ys o : List D} (h0 : getO ρ j = some (.lst cs)) (h1 : args ρ = .ok ds ρ1) (h2 : getO ρ1 j = some (.lst cs1)) (hf : cs1.all flatD = true ∧ ds.all flatD = true) (hF : F (.lst cs1 :: ds) = .rt (.lst [.lst xs, .lst ys]) (.lst o))
    (hc : (xs.all noLD = true ∧ ys.all noLD = true ∧ sepL xs ys = true ∧ o.all flatD = true) ∧ i1 < ρ1.length ∧ i2 < ρ1.length) : msOwn2 F j i1 i2 args ρ = .nx (((ρ1.set j (some (.lst o))).set i1 (some (.lst xs))).set i2 (some (.lst ys))) := by
  unfold msOwn2
  simp only [h0, h1, obind_ok, h2, hF]
  rw [if_pos hf, if_pos hc]
theorem a3_go {l l' : List Int} {pt : List Int} (e : Q.F_law_planes [dl l, .int (n : Nat), .int 7] = .rt (.lst [.lst (ps.map pl), dl pt]) (dl l')) (hpt : 1 ≤ pt.length) : mlaw_s3 (St (some S) (some (dl l)) (some (.int (n : Nat))) none none none none none none none none none none) = .nx (St (some S) (some (dl l')) (some (.int (n : Nat))) (some (.lst (ps.map pl))) (some (dl pt)) none none none none none none none none) := by
  have f1 := all_flat l
  have f2 := all_flat l'
  have f3 := all_noL pt
  have f4 := pls_noL ps
  have f5 := sep_pp ps hpt
  have e' : Q.F_law_planes (.lst (l.map D.int) :: [.int (n : Nat), .int 7]) = .rt (.lst [.lst (ps.map pl), .lst (pt.map D.int)]) (.lst (l'.map D.int)) := e
  unfold mlaw_s3
  show msOwn2 _ 1 3 4 _ (St (some S) (some (.lst (l.map D.int))) (some (.int (n : Nat))) none none none none none none none none none none) = .nx (St (some S) (some (.lst (l'.map D.int))) (some (.int (n : Nat))) (some (.lst (ps.map pl))) (some (.lst (pt.map D.int))) none none none none none none none none)
  clear e
  generalize ps.map pl = L at *
  generalize pt.map D.int = PT at *
  generalize l.map D.int = D1 at *
  generalize l'.map D.int = D2 at *
  have ha : (mCons (mVar 2) (mCons (mK (.int 7)) mNil)) (St (some S) (some (.lst D1)) (some (.int (n : Nat))) none none none none none none none none none none) = .ok [.int (n : Nat), .int 7] (St (some S) (some (.lst D1)) (some (.int (n : Nat))) none none none none none none none none none none) := rfl
  exact own2_go rfl ha rfl ⟨f1, rfl⟩ e' ⟨⟨f4, f3, f5, f2⟩, by show 3 < 13; decide, by show 4 < 13; decide⟩
theorem po_noL : noLO (PO n ps) = true := by
  have : (ps.map pl).all noLD = true := pls_noL ps
  have e : noLO (PO n ps) = (true && ((ps.map pl).all noLD && true)) := rfl
  rw [e, this]
  rfl
theorem a4_go (dr PT : D) : mlaw_s4 (St (some S) (some dr) (some (.int (n : Nat))) (some (.lst (ps.map pl))) (some PT) none none none none none none none none) = .nx (St (some S) (some dr) (some (.int (n : Nat))) (some (.lst (ps.map pl))) (some PT) (some (.lst (ps.map pl))) none none none none none none none) := by
  have gl : gList [.lst (ps.map pl)] = some (.lst (ps.map pl)) := rfl
  generalize ps.map pl = L at *
  simp -implicitDefEqProofs [mlaw_s4, mNO, getO_ap, gl]
theorem a5_go (h : okPls n ps = true) (h1 : 1 ≤ n) (h4 : n ≤ 4) (dr PT K : D) : mlaw_s5 (St (some S) (some dr) (some (.int (n : Nat))) (some (.lst (ps.map pl))) (some PT) (some K) none none none none none none none) = .nx (St (some S) (some dr) (some (.int (n : Nat))) (some (.lst (ps.map pl))) (some PT) (some K) (some (PO n ps)) none none none none none none) := by
  have v := v_init (n := (n : Int)) (Sq.lst (ps.map pl)) (sm_ok h (by omega))
  rw [if_pos ⟨by omega, by omega⟩, Int.toNat_natCast, if_pos h] at v
  have nl := po_noL (n := n) (ps := ps)
  generalize PO n ps = P at *
  generalize ps.map pl = L at *
  have e : mMakeO "Planes" Q.FPlanes_init (mVar 2) 3 (St (some S) (some dr) (some (.int (n : Nat))) (some (.lst L)) (some PT) (some K) none none none none none none none) = .ok P (St (some S) (some dr) (some (.int (n : Nat))) (some (.lst L)) (some PT) (some K) none none none none none none none) := by
    have g1 : getO (St (some S) (some dr) (some (.int (n : Nat))) (some (.lst L)) (some PT) (some K) none none none none none none none) 3 = some (.lst L) := rfl
    have g0 : mVar 2 (St (some S) (some dr) (some (.int (n : Nat))) (some (.lst L)) (some PT) (some K) none none none none none none none) = .ok (.int (n : Nat)) (St (some S) (some dr) (some (.int (n : Nat))) (some (.lst L)) (some PT) (some K) none none none none none none none) := rfl
    unfold mMakeO
    rw [g0, bind_ok, g1]
    show (match Q.FPlanes_init [.obj "Planes" [], .int (n : Nat), .lst L] with | .rt .non o => _ | _ => _) = _
    rw [v]
    show (if noLO P = true then _ else _) = _
    rw [if_pos nl]
  unfold mlaw_s5
  generalize mMakeO "Planes" Q.FPlanes_init (mVar 2) 3 = M at *
  simp -implicitDefEqProofs [e]
def mPl : ME := mMeth (tb [("Planes", Q.FPlanes_planes_v2)]) "planes" (mVar 6) mNil
theorem mpl_ok {ρ : En} (h : mVar 6 ρ = .ok (PO n ps) ρ) : mPl ρ = .ok (.lst (ps.map pl)) ρ := meth_ok (tab := tb [("Planes", Q.FPlanes_planes_v2)]) (mn := "planes") (args := mNil) h rfl rfl (fun _ _ => rfl) v_planesF
theorem a6_go (hl : ps.length ≤ 1000) (dr R PT : D) : mlaw_s6 (St (some S) (some dr) (some (.int (n : Nat))) (some R) (some PT) (some (.lst (ps.map pl))) (some (PO n ps)) none none none none none none) = .nx (St (some S) (some dr) (some (.int (n : Nat))) (some R) (some PT) (some (.lst (ps.map pl))) (some (PO n ps)) none none none none none none) := by
  have mp := mpl_ok (n := n) (ps := ps) (ρ := St (some S) (some dr) (some (.int (n : Nat))) (some R) (some PT) (some (.lst (ps.map pl))) (some (PO n ps)) none none none none none none) rfl
  have ne := ne_ps ps
  have lx := lenX_po (n := n) hl
  have gl : gLen [.lst (ps.map pl)] = some (.int (ps.length : Nat)) := by simp [gLen]
  have f := fld_n (n := n) (ps := ps)
  have eb : mlaw_s6 = (msIf (mOrT (mTest (m2 gNe mPl (mVar 5))) (mOrT (mTest (m2 gNe (m1 (gLenX (tb [("Planes", Q.FPlanes_len)])) (mVar 6)) (mN gLen (mCons (mVar 5) mNil)))) (mTest (m2 gNe (m1 (gFld (isC ["Planes"]) "n") (mVar 6)) (mVar 2))))) (msRet (mK (.bl false))) msNil) := rfl
  rw [eb]
  clear eb
  generalize D.lst (ps.map pl) = L at *
  generalize PO n ps = P at *
  generalize mPl = M at *
  simp -implicitDefEqProofs [mp, ne, lx, gl, f]
theorem a7_go (dr R PT : D) : mlaw_s7 (St (some S) (some dr) (some (.int (n : Nat))) (some R) (some PT) (some (.lst (ps.map pl))) (some (PO n ps)) none none none none none none) = .nx (St (some S) (some dr) (some (.int (n : Nat))) (some R) (some PT) (some (.lst (ps.map pl))) (some (PO n ps)) (some (.lst (ps.map pl))) none none none none none) := by
  have mp := mpl_ok (n := n) (ps := ps) (ρ := St (some S) (some dr) (some (.int (n : Nat))) (some R) (some PT) (some (.lst (ps.map pl))) (some (PO n ps)) none none none none none none) rfl
  have eb : mlaw_s7 = msOwn 7 mPl := rfl
  rw [eb]
  generalize D.lst (ps.map pl) = L at *
  generalize PO n ps = P at *
  generalize mPl = M at *
  simp -implicitDefEqProofs [mp]
theorem app1 (L : List D) (h : L.length ≤ 1000) (x : D) : gAppend L [x] = some (.non, L ++ [x]) := by
  have sz := szv
  show (if L.length < sizeLine then some (D.non, L ++ [x]) else none) = _
  rw [if_pos (by omega)]
theorem a8_go (L : List D) (hL : L.length ≤ 1000) (dr R PT K P : D) : mlaw_s8 (St (some S) (some dr) (some (.int (n : Nat))) (some R) (some PT) (some K) (some P) (some (.lst L)) none none none none none) = .nx (St (some S) (some dr) (some (.int (n : Nat))) (some R) (some PT) (some K) (some P) (some (.lst (L ++ [.tup [.int 0, .int 0]]))) none none none none none) := by
  have g := app1 L hL (.tup [.int 0, .int 0])
  have ha : (mCons (mN gTup (mCons (mK (.int 0)) (mCons (mK (.int 0)) mNil))) mNil) (St (some S) (some dr) (some (.int (n : Nat))) (some R) (some PT) (some K) (some P) (some (.lst L)) none none none none none) = .ok [.tup [.int 0, .int 0]] (St (some S) (some dr) (some (.int (n : Nat))) (some R) (some PT) (some K) (some P) (some (.lst L)) none none none none none) := by
    simp -implicitDefEqProofs [show 2 ≤ sizeLine by decide]
  unfold mlaw_s8
  show obind (mOM gAppend 7 (mCons (mN gTup (mCons (mK (.int 0)) (mCons (mK (.int 0)) mNil))) mNil) _) _ = _
  rw [mOM_go rfl ha rfl g]
  rfl
theorem a9_go (L : List D) (hL : L.length ≤ 1000) (dr PT K P T : D) : mlaw_s9 (St (some S) (some dr) (some (.int (n : Nat))) (some (.lst L)) (some PT) (some K) (some P) (some T) none none none none none) = .nx (St (some S) (some dr) (some (.int (n : Nat))) (some (.lst (L ++ [.tup [.int 1]]))) (some PT) (some K) (some P) (some T) none none none none none) := by
  have g := app1 L hL (.tup [.int 1])
  have ha : (mCons (mN gTup (mCons (mK (.int 1)) mNil)) mNil) (St (some S) (some dr) (some (.int (n : Nat))) (some (.lst L)) (some PT) (some K) (some P) (some T) none none none none none) = .ok [.tup [.int 1]] (St (some S) (some dr) (some (.int (n : Nat))) (some (.lst L)) (some PT) (some K) (some P) (some T) none none none none none) := by
    simp -implicitDefEqProofs [show 1 ≤ sizeLine by decide]
  unfold mlaw_s9
  show obind (mOM gAppend 3 (mCons (mN gTup (mCons (mK (.int 1)) mNil)) mNil) _) _ = _
  rw [mOM_go rfl ha rfl g]
  rfl
end
end K05
namespace K05
open Q DL PySem PySem.Spec PyProof.Rows
theorem mk_po {n : Nat} {ps : List (List Int)} (h : okPls n ps = true) (h1 : 1 ≤ n) (h4 : n ≤ 4) {d : D} (hd : Sq d (ps.map pl)) {args : MA} {ρ ρ1 : En} (ha : args ρ = .ok [.int (n : Nat), d] ρ1) : mMake "Planes" Q.FPlanes_init args ρ = .ok (PO n ps) ρ1 := by
  rw [v_make hd (sm_ok h (by omega)) ha, if_pos ⟨by omega, by omega⟩, Int.toNat_natCast, if_pos h]
section
variable {n : Nat} {ps : List (List Int)} {S : D}
theorem sl_1 : gSl (.lst (ps.map pl)) (some 1) none = some (.lst ((ps.drop 1).map pl)) := by
  show some (D.lst (DL.cutD (ps.map pl) (some ((1 : Nat) : Int)) none)) = _
  rw [cut_from, List.map_drop]
theorem sl_01 : gSl (.lst (ps.map pl)) none (some 1) = some (.lst ((ps.take 1).map pl)) := by
  show some (D.lst (DL.cutD (ps.map pl) none (some ((1 : Nat) : Int)))) = _
  rw [cut_to, List.map_take]
theorem eqX_self : gEqX (tb [("Planes", Q.FPlanes_eq)]) (PO n ps) (PO n ps) = some (.bl true) := by rw [eqX_po, decide_eq_true ⟨rfl, rfl⟩]
theorem eqX_ne {qs : List (List Int)} (h : ps ≠ qs) : gEqX (tb [("Planes", Q.FPlanes_eq)]) (PO n ps) (PO n qs) = some (.bl false) := by rw [eqX_po, decide_eq_false fun e => h e.2]
def mMk (e : ME) : ME := mMake "Planes" Q.FPlanes_init (mCons (mVar 2) (mCons e mNil))
abbrev Em (S dr : D) (n : Nat) (ps : List (List Int)) (R PT T : D) (o8 o9 o10 o11 o12 : Option D) : En := St (some S) (some dr) (some (.int (n : Nat))) (some R) (some PT) (some (.lst (ps.map pl))) (some (PO n ps)) (some T) o8 o9 o10 o11 o12
theorem a10_go (h : okPls n ps = true) (h1 : 1 ≤ n) (h4 : n ≤ 4) (dr R PT T : D) : mlaw_s10 (Em S dr n ps R PT T none none none none none) = .nx (Em S dr n ps R PT T none none none none none) := by
  have mp := mpl_ok (n := n) (ps := ps) (ρ := Em S dr n ps R PT T none none none none none) rfl
  have mk : mMk (mVar 5) _ = _ := mk_po h h1 h4 (Sq.lst (ps.map pl)) (args := mCons (mVar 2) (mCons (mVar 5) mNil)) (ρ := Em S dr n ps R PT T none none none none none) rfl
  have ne := ne_ps ps
  have eq := eqX_self (n := n) (ps := ps)
  have eb : mlaw_s10 = (msIf (mOrT (mTest (m2 gNe mPl (mVar 5))) (mNotT (mTest (m2 (gEqX (tb [("Planes", Q.FPlanes_eq)])) (mVar 6) (mMk (mVar 5)))))) (msRet (mK (.bl false))) msNil) := rfl
  rw [eb]
  clear eb
  unfold Em at *
  generalize D.lst (ps.map pl) = L at *
  generalize PO n ps = P at *
  generalize mPl = M at *
  generalize mMk (mVar 5) = M2 at *
  simp -implicitDefEqProofs [mp, mk, ne, eq]
def mT0 (o : ME) : ME := mMeth (tb [("Planes", Q.FPlanes_turned)]) "turned" o (mCons (mK (.int 0)) mNil)
theorem a11_go (h : okPls n ps = true) (h1 : 1 ≤ n) (h4 : n ≤ 4) (dr R PT T : D) : mlaw_s11 (Em S dr n ps R PT T none none none none none) = .nx (Em S dr n ps R PT T none none none none none) := by
  have eb : mlaw_s11 = (msIf (mAndT (mTru (mVar 5)) (mOrT (mTest (m2 (gEqX (tb [("Planes", Q.FPlanes_eq)])) (mVar 6) (mMk (mSl (.ex (mVar 5)) (mPart (mK (.int 1))) mNoP)))) (mOrT (mTest (m2 (gEqX (tb [("Planes", Q.FPlanes_eq)])) (mVar 6) (mT0 (mVar 6)))) (mNotT (mTest (m2 (gEqX (tb [("Planes", Q.FPlanes_eq)])) (mVar 6) (mT0 (mT0 (mVar 6))))))))) (msRet (mK (.bl false))) msNil) := rfl
  rw [eb]
  clear eb
  by_cases c : ps = []
  · subst c
    rfl
  · have l0 : 0 < ps.length := List.length_pos_iff.mpr c
    have tr : tru (.lst (ps.map pl)) = some true := by
      cases ps with
      | nil => exact absurd rfl c
      | cons p r => rfl
    have g1 := sl_1 (ps := ps)
    have mk : mMk (mSl (.ex (mVar 5)) (mPart (mK (.int 1))) mNoP) _ = _ := mk_po (drop_ok1 h) h1 h4 (Sq.lst ((ps.drop 1).map pl)) (args := mCons (mVar 2) (mCons (mSl (.ex (mVar 5)) (mPart (mK (.int 1))) mNoP) mNil)) (ρ := Em S dr n ps R PT T none none none none none) (ρ1 := Em S dr n ps R PT T none none none none none) (by
      unfold Em
      generalize D.lst ((ps.drop 1).map pl) = L2 at *
      generalize D.lst (ps.map pl) = L at *
      generalize PO n ps = P at *
      simp -implicitDefEqProofs [mSl, evB, rdB, mNoP, mPart, asI, g1])
    obtain ⟨o1, t1⟩ := v_turned h h1 h4 l0
    rw [show ((0 : Nat) : Int) = 0 from rfl] at t1
    have tok := turn_ok h l0
    obtain ⟨o2, t2⟩ := v_turned tok h1 h4 (i := 0) (by rw [turn_len l0]; exact l0)
    rw [show ((0 : Nat) : Int) = 0 from rfl, turn_turn l0] at t2
    have m1' : mT0 (mVar 6) _ = _ := meth_ok (tab := tb [("Planes", Q.FPlanes_turned)]) (mn := "turned") (o := mVar 6) (args := mCons (mK (.int 0)) mNil) (ρ := Em S dr n ps R PT T none none none none none) rfl rfl rfl (fun _ _ => rfl) t1
    have m2' : mT0 (mT0 (mVar 6)) _ = _ := meth_ok (tab := tb [("Planes", Q.FPlanes_turned)]) (mn := "turned") (o := mT0 (mVar 6)) (args := mCons (mK (.int 0)) mNil) m1' rfl rfl (fun _ _ => rfl) t2
    have q1 := eqX_ne (n := n) (drop_ne l0)
    have q2 := eqX_ne (n := n) (turn_ne h l0)
    have q3 := eqX_self (n := n) (ps := ps)
    clear t1 t2
    unfold Em at *
    generalize D.lst (ps.map pl) = L at *
    generalize PO n (ps.drop 1) = P1 at *
    generalize PO n (turnP ps 0) = P2 at *
    generalize PO n ps = P at *
    generalize mMk (mSl (.ex (mVar 5)) (mPart (mK (.int 1))) mNoP) = M1 at *
    generalize mT0 (mT0 (mVar 6)) = M3 at *
    generalize mT0 (mVar 6) = M2 at *
    simp -implicitDefEqProofs [tr, mk, m1', m2', q1, q2, q3]
theorem a12_go (h : okPls n ps = true) (h1 : 1 ≤ n) (h4 : n ≤ 4) (dr R PT T : D) : mlaw_s12 (Em S dr n ps R PT T none none none none none) = .nx (Em S dr n ps R PT T none none none none none) := by
  have hl := ok_len h
  have g1 := sl_1 (ps := ps)
  have g2 := sl_01 (ps := ps)
  have g3 := add_ps (a := ps.drop 1) (b := ps.take 1) (by rw [List.length_take, List.length_drop]; omega)
  have mk : mMk (m2 gAdd (mSl (.ex (mVar 5)) (mPart (mK (.int 1))) mNoP) (mSl (.ex (mVar 5)) mNoP (mPart (mK (.int 1))))) _ = _ := mk_po (rot_ok h) h1 h4 (Sq.lst ((ps.drop 1 ++ ps.take 1).map pl)) (args := mCons (mVar 2) (mCons (m2 gAdd (mSl (.ex (mVar 5)) (mPart (mK (.int 1))) mNoP) (mSl (.ex (mVar 5)) mNoP (mPart (mK (.int 1))))) mNil)) (ρ := Em S dr n ps R PT T none none none none none) (ρ1 := Em S dr n ps R PT T none none none none none) (by
    unfold Em
    generalize D.lst ((ps.drop 1 ++ ps.take 1).map pl) = L4 at *
    generalize D.lst ((ps.take 1).map pl) = L3 at *
    generalize D.lst ((ps.drop 1).map pl) = L2 at *
    generalize D.lst (ps.map pl) = L at *
    generalize PO n ps = P at *
    simp -implicitDefEqProofs [mSl, evB, rdB, mNoP, mPart, asI, g1, g2, g3])
  have gl : gLen [.lst (ps.map pl)] = some (.int (ps.length : Nat)) := by simp [gLen]
  have q : decide (1 < (ps.length : Int)) = decide (1 < ps.length) := by rw [decide_eq_decide]; omega
  have eb : mlaw_s12 = (msIf (mAndT (mTest (m2 gGt (mN gLen (mCons (mVar 5) mNil)) (mK (.int 1)))) (mTest (m2 (gEqX (tb [("Planes", Q.FPlanes_eq)])) (mVar 6) (mMk (m2 gAdd (mSl (.ex (mVar 5)) (mPart (mK (.int 1))) mNoP) (mSl (.ex (mVar 5)) mNoP (mPart (mK (.int 1))))))))) (msRet (mK (.bl false))) msNil) := rfl
  rw [eb]
  clear eb
  by_cases c : 1 < ps.length
  · have q1 := eqX_ne (n := n) (rot_ne h c)
    rw [decide_eq_true c] at q
    clear g1 g2 g3
    unfold Em at *
    generalize PO n (ps.drop 1 ++ ps.take 1) = P1 at *
    generalize PO n ps = P at *
    generalize D.lst (ps.map pl) = L at *
    generalize mMk _ = M1 at *
    generalize (ps.length : Int) = pi at *
    simp -implicitDefEqProofs [gl, q, mk, q1]
  · rw [decide_eq_false c] at q
    clear g1 g2 g3
    unfold Em at *
    generalize PO n (ps.drop 1 ++ ps.take 1) = P1 at *
    generalize PO n ps = P at *
    generalize D.lst (ps.map pl) = L at *
    generalize mMk _ = M1 at *
    generalize (ps.length : Int) = pi at *
    simp -implicitDefEqProofs [gl, q]
theorem a14_go {D1 : List (List Rat)} (hp : ∀ p ∈ ps, Pi 5 n p) (hl : ps.length ≤ 12) (h4 : n ≤ 4) (v : ∀ ρ, (Q.F_law_echelon [.int (n : Nat), tps (matN n ps)]).R ρ = .ok (tps D1) ρ) (dr R PT T : D) : mlaw_s14 (Em S dr n ps R PT T none none none none none) = .nx (Em S dr n ps R PT T (some (tps D1)) none none none none) := by
  have sz := szv
  have lc := mLc_map (as := ps) (enc := pl) (vs := [9]) (g := mgName 9) (mi := mIter (mVar 5)) (me := mlaw_e13) (ρ0 := Em S dr n ps R PT T none none none none none) (ρ := Em S dr n ps R PT T none none none none none)
    (st := fun p => Em S dr n ps R PT T none (some (pl p)) none none none) (f := fun p => pl (p.take n)) rfl (by omega) (fun _ => rfl) (fun _ _ => rfl) (fun p _ => by
      have g := sl_to p n
      unfold Em
      generalize pl (p.take n) = P2 at *
      generalize pl p = P1 at *
      generalize D.lst (ps.map pl) = L at *
      generalize PO n ps = P at *
      simp -implicitDefEqProofs [mlaw_e13, mSl, evB, rdB, mNoP, mPart, asI, g])
  have em : ps.map (fun p => pl (p.take n)) = (ps.map fun p => p.take n).map pl := by rw [List.map_map]; rfl
  rw [em] at lc
  have vn := fun ρ => v_lnumbers3 (qs := ps.map fun p => p.take n) (by rw [List.length_map]; omega) (fun q hq => by
    obtain ⟨p, hp', rfl⟩ := List.mem_map.mp hq
    rw [List.length_take]
    omega) ρ
  have en : (ps.map fun p => p.take n).map ratR = matN n ps := by unfold matN; rw [List.map_map]; rfl
  rw [en] at vn
  unfold mlaw_s14
  generalize D.lst ((ps.map fun p => p.take n).map pl) = L2 at *
  unfold Em at *
  generalize D.lst (ps.map pl) = L at *
  generalize PO n ps = P at *
  generalize tps (matN n ps) = MN at *
  generalize tps D1 = DD at *
  generalize mLc [9] (mIter (mVar 5)) (mgName 9) mYes mlaw_e13 = mL at *
  simp -implicitDefEqProofs [lc, mCall_R, vn, v]
theorem a15_go {D2 : List (List Rat)} (hp : ∀ p ∈ ps, Pi 5 n p) (hl : ps.length ≤ 12) (h4 : n ≤ 4) (v : ∀ ρ, (Q.F_law_echelon [.int ((n : Int) + 1), tps (matW ps)]).R ρ = .ok (tps D2) ρ) (dr R PT T F8 : D) : mlaw_s15 (Em S dr n ps R PT T (some F8) none none none none) = .nx (Em S dr n ps R PT T (some F8) none (some (tps D2)) none none) := by
  have vn := fun ρ => v_lnumbers3 (qs := ps) (by omega) (fun q hq => by rw [(hp q hq).1]; omega) ρ
  have en : ps.map ratR = matW ps := rfl
  rw [en] at vn
  unfold mlaw_s15 Em
  generalize D.lst (ps.map pl) = L at *
  generalize PO n ps = P at *
  generalize tps (matW ps) = MN at *
  generalize tps D2 = DD at *
  generalize (n : Int) = ni at *
  simp -implicitDefEqProofs [mCall_R, vn, v]
theorem repr_nat {k : Nat} (h : k ≤ 1000) : ∃ z, gRepr [.int (k : Nat)] = some (.str z) := (Sb.int (a := (k : Int)) (by
  have : ((k : Int)).natAbs < 2 ^ 10 := by omega
  exact Nat.lt_of_lt_of_le this (Nat.pow_le_pow_right (by decide) (by decide)))).shown (by decide) (by decide)
theorem repr_bl (b : Bool) : ∃ z, gRepr [.bl b] = some (.str z) := by
  cases b with
  | true => exact ⟨"True", by kernel_rfl⟩
  | false => exact ⟨"False", by kernel_rfl⟩
theorem a16_go {D1 D2 : List (List Rat)} (hp : ∀ p ∈ ps, Pi 5 n p) (hl : ps.length ≤ 12) (h4 : n ≤ 4) (e1 : D1.length = rkN n ps) (l1 : D1.length ≤ 12) (e2 : D2.length = rkW n ps) (l2 : D2.length ≤ 12) (dr R PT T : D) : mlaw_s16 (Em S dr n ps R PT T (some (tps D1)) none (some (tps D2)) none none) = .nx (Em S dr n ps R PT T (some (tps D1)) none (some (tps D2)) none none) := by
  have vr := v_rankP (ps := ps) (n := n) (fun p h => ⟨(hp p h).1, fun a ha => sm_up ((hp p h).2 a ha) (by omega)⟩) h4 hl []
  obtain ⟨o1, vr⟩ := R_ok vr
  have er : (red n (matN n ps)).2.length = D1.length := e1.symm
  rw [er] at vr
  have vc := v_centralP hp h4 hl
  rw [← e1, ← e2] at vc
  have m1' := meth_ok (tab := tb [("Planes", Q.FPlanes_rank)]) (mn := "rank") (o := mVar 6) (args := mNil) (ρ := Em S dr n ps R PT T (some (tps D1)) none (some (tps D2)) none none) rfl rfl rfl (fun _ _ => rfl) vr
  have m2' := meth_ok (tab := tb [("Planes", Q.FPlanes_is_central)]) (mn := "is_central") (o := mVar 6) (args := mNil) (ρ := Em S dr n ps R PT T (some (tps D1)) none (some (tps D2)) none none) rfl rfl rfl (fun _ _ => rfl) vc
  obtain ⟨z1, r1⟩ := repr_nat (k := D1.length) (by omega)
  obtain ⟨z2, r2⟩ := repr_bl (decide (D1.length = D2.length))
  have n1 := neS_self z1
  have n2 := neS_self z2
  have g1 : gLen [tps D1] = some (.int (D1.length : Nat)) := by
    show some (D.int ((D1.map frs).length : Nat)) = _
    rw [List.length_map]
  have g2 : gLen [tps D2] = some (.int (D2.length : Nat)) := by
    show some (D.int ((D2.map frs).length : Nat)) = _
    rw [List.length_map]
  have q : decide ((D1.length : Int) = (D2.length : Int)) = decide (D1.length = D2.length) := by rw [decide_eq_decide]; omega
  clear vr vc
  unfold mlaw_s16
  unfold Em at *
  generalize D.lst (ps.map pl) = L at *
  generalize PO n ps = P at *
  generalize tps D1 = X1 at *
  generalize tps D2 = X2 at *
  generalize decide (D1.length = D2.length) = b at *
  generalize (D1.length : Int) = i1 at *
  generalize (D2.length : Int) = i2 at *
  generalize mMeth (tb [("Planes", Q.FPlanes_rank)]) "rank" (mVar 6) mNil = M1 at *
  generalize mMeth (tb [("Planes", Q.FPlanes_is_central)]) "is_central" (mVar 6) mNil = M2 at *
  simp -implicitDefEqProofs [m1', m2', g1, g2, q, r1, r2, n1, n2]
theorem a17_go (h : okPls n ps = true) (hp : ∀ p ∈ ps, Pi 5 n p) (h1 : 1 ≤ n) (h4 : n ≤ 4) (l : List Int) (R PT T : D) (o8 o10 : Option D) : ∃ l', mlaw_s17 (Em S (dl l) n ps R PT T o8 none o10 none none) = .nx (Em S (dl l') n ps R PT T o8 none o10 none none) := by
  have hl := ok_len h
  obtain ⟨l', v⟩ := v_parts h h1 h4 l
  refine ⟨l', ?_⟩
  have io := io_1a (x := some S) (l := l) (l' := l') (F := F_law_parts) (r := [some (.int (n : Nat)), some R, some PT, some (.lst (ps.map pl)), some (PO n ps), some T, o8, none, o10, none, none]) (args := mCons (mVar 2) (mCons (mVar 5) (mCons (mVar 6) mNil))) (ds := [.int (n : Nat), .lst (ps.map pl), PO n ps]) rfl v
  have mp := mpl_ok (n := n) (ps := ps) (ρ := Em S (dl l') n ps R PT T o8 none o10 none none) rfl
  have ne := ne_ps ps
  have vl := fun ρ => v_lists hp hl h1 h4 ρ
  have eb : mlaw_s17 = (msIf (mOrT (mNotT (mTru (mCallIo F_law_parts 1 (mCons (mVar 2) (mCons (mVar 5) (mCons (mVar 6) mNil)))))) (mOrT (mTest (m2 gNe mPl (mVar 5))) (mNotT (mTru (mCall F_law_lists (mCons (mVar 2) (mCons (mVar 5) mNil))))))) (msRet (mK (.bl false))) msNil) := rfl
  rw [eb]
  clear eb v
  unfold Em at *
  generalize mPl = M at *
  generalize mCallIo F_law_parts 1 (mCons (mVar 2) (mCons (mVar 5) (mCons (mVar 6) mNil))) = M2 at *
  generalize F_law_lists = FL at *
  generalize D.lst (ps.map pl) = L at *
  generalize PO n ps = P at *
  generalize dl l = D1 at *
  generalize dl l' = D2 at *
  simp -implicitDefEqProofs [io, mp, ne, mCall_R, vl]
end
end K05
namespace K05
open Q DL PySem PySem.Spec PyProof.Rows
theorem io_1b {F : FN} {d' : D} {l l2 l' : List Int} {x : Option D} {r : En} {args : MA} {ds : List D} (ha : args (x :: some (dl l) :: r) = .ok ds (x :: some (dl l2) :: r)) (e : F (dl l2 :: ds) = .rt d' (dl l')) : mCallIo F 1 args (x :: some (dl l) :: r) = .ok d' (x :: some (dl l') :: r) := by
  rw [mCallIo_ap, ha]
  simp -implicitDefEqProofs [getO_1, e]
section
variable {n : Nat} {ps : List (List Int)} {S : D}
theorem repr_row {r : List Int} (hs : ∀ a ∈ r, a.natAbs < 2 ^ 80) (hl : r.length ≤ 20) : ∃ z, gRepr [.lst [pl r]] = some (.str z) := by
  have s1 : Sb 20 2 (pl r) := Sb.tup (W := 0) (n := 1) (fun d hd => by
    obtain ⟨a, ha, rfl⟩ := List.mem_map.mp hd
    exact Sb.int (Nat.lt_of_lt_of_le (hs a ha) (Nat.pow_le_pow_right (by decide) (by decide)))) (by rw [List.length_map]; omega)
  have s2 : Sb 100 3 (.lst [pl r]) := Sb.lst (W := 20) (n := 2) (fun d hd => by rw [List.mem_singleton.mp hd]; exact s1) (by simp)
  exact s2.shown (by decide) (by decide)
theorem b19_go (h1 : 1 ≤ n) (h4 : n ≤ 4) {r : List Int} (hs : ∀ a ∈ r, a.natAbs < 2 ^ 80) (hl : r.length ≤ 20) (dr R PT T : D) (o8 o9 o10 o12 : Option D) : mlaw_b19 (Em S dr n ps R PT T o8 o9 o10 (some (pl r)) o12) = .nx (Em S dr n ps R PT T o8 o9 o10 (some (pl r)) (some (.bl (isPl n r)))) := by
  have hx : ∀ a ∈ r, a.natAbs < 2 ^ 8000 := fun a ha => sm_up (hs a ha) (by omega)
  have v1 := fun ρ => v_lisPlane (n := n) hx (by omega) ρ
  have v2 := fun ρ => v_isPlane h1 h4 (Sq.tup (r.map D.int)) hx (by omega) ρ
  have e : D.tup (r.map D.int) = pl r := rfl
  rw [e] at v2
  have v3 := fun ρ => told0 (ps := [r]) (Sq.lst ([r].map pl)) ⟨by simp, fun p hp => by rw [List.mem_singleton.mp hp]; exact ⟨hx, by omega⟩⟩ h1 h4 ρ
  rw [ok_one] at v3
  have e2 : [r].map pl = [pl r] := rfl
  rw [e2] at v3
  obtain ⟨z1, r1⟩ := repr_bl (isPl n r)
  obtain ⟨z2, r2⟩ := repr_row hs hl
  have r3 : gRepr [sP] = some (.str "'![0, 1]'") := by kernel_rfl
  have n1 := neS_self z1
  have n2 := neS_self z2
  have n3 := neS_self "'![0, 1]'"
  unfold mlaw_b19
  unfold Em
  generalize D.lst (ps.map pl) = L at *
  generalize PO n ps = P at *
  generalize F_law_told = FT at *
  generalize pl r = RR at *
  cases c : isPl n r with
  | true =>
    rw [c] at v1 v2 v3 r1
    simp only [if_true] at v3
    simp -implicitDefEqProofs [mCall_R, v1, v2, v3, r1, r2, n1, n2, show 1 ≤ sizeLine by decide]
  | false =>
    rw [c] at v1 v2 v3 r1
    have ef : (false = true) = False := by simp
    simp only [ef, if_false] at v3
    simp -implicitDefEqProofs [mCall_R, v1, v2, v3, r1, r3, n1, n3, show 1 ≤ sizeLine by decide]
theorem a18_go (h1 : 1 ≤ n) (h4 : n ≤ 4) {pt : List Int} (hpt : rows 2 n pt) (l : List Int) (R T : D) (o8 o10 : Option D) : ∃ p l', isPl n p = true ∧ Pi 5 n p ∧ mlaw_s18 (Em S (dl l) n ps R (dl pt) T o8 none o10 none none) = .nx (Em S (dl l') n ps R (dl pt) T o8 (some (pl p)) o10 none none) := by
  obtain ⟨p, l', v, ok, pi5⟩ := v_plane h1 h4 hpt l
  refine ⟨p, l', ok, pi5, ?_⟩
  have io := io_1a (x := some S) (l := l) (l' := l') (F := Q.F_law_plane) (r := [some (.int (n : Nat)), some R, some (dl pt), some (.lst (ps.map pl)), some (PO n ps), some T, o8, none, o10, none, none]) (args := mCons (mVar 2) (mCons (mVar 4) mNil)) (ds := [.int (n : Nat), dl pt]) rfl v
  unfold mlaw_s18
  unfold Em
  generalize mCallIo Q.F_law_plane 1 (mCons (mVar 2) (mCons (mVar 4) mNil)) = M at *
  generalize D.lst (ps.map pl) = L at *
  generalize PO n ps = P at *
  generalize dl l = D1 at *
  generalize dl l' = D2 at *
  generalize dl pt = PT at *
  generalize pl p = PP at *
  simp -implicitDefEqProofs [io]
theorem a20_go (h1 : 1 ≤ n) (h4 : n ≤ 4) {p : List Int} (hp : Pi 5 n p) (l : List Int) (R PT T : D) (o8 o10 : Option D) : ∃ ρ', mlaw_s20 (Em S (dl l) n ps R PT T o8 (some (pl p)) o10 none none) = .nx ρ' := by
  have hp70 : ∀ a ∈ p, a.natAbs < 2 ^ 70 := fun a ha => sm_up (hp.2 a ha) (by omega)
  obtain ⟨r1, l1, v1, a1, b1, c1⟩ := v_spoilt3 (p := p) (k := 70) (by omega) (by omega) (by rw [hp.1]; omega) (by rw [hp.1]; omega) hp70 l
  obtain ⟨r2, l2, v2, a2, b2, c2⟩ := v_spoilt3 (p := p) (k := 70) (by omega) (by omega) (by rw [hp.1]; omega) (by rw [hp.1]; omega) hp70 l1
  have pn := hp.1
  obtain ⟨r3, l3, v3, a3, b3, c3⟩ := v_spoilt3 (p := r2) (k := 73) (by omega) (by omega) (by omega) (by omega) c2 l2
  have io1 := io_1a (x := some S) (l := l) (l' := l1) (F := Q.F_law_spoilt_v3) (r := [some (.int (n : Nat)), some R, some PT, some (.lst (ps.map pl)), some (PO n ps), some T, o8, some (pl p), o10, none, none]) (args := mCons (mVar 9) mNil) (ds := [pl p]) rfl v1
  have io2 := io_1a (x := some S) (l := l1) (l' := l2) (F := Q.F_law_spoilt_v3) (r := [some (.int (n : Nat)), some R, some PT, some (.lst (ps.map pl)), some (PO n ps), some T, o8, some (pl p), o10, none, none]) (args := mCons (mVar 9) mNil) (ds := [pl p]) rfl v2
  have io3 := io_1b (x := some S) (l := l1) (l2 := l2) (l' := l3) (F := Q.F_law_spoilt_v3) (r := [some (.int (n : Nat)), some R, some PT, some (.lst (ps.map pl)), some (PO n ps), some T, o8, some (pl p), o10, none, none]) (args := mCons (mCallIo Q.F_law_spoilt_v3 1 (mCons (mVar 9) mNil)) mNil) (ds := [pl r2]) (by rw [mCons_ap, io2]; rfl) v3
  have st : ∀ {r : List Int} {ds : List D} {o11 o12 : Option D}, (∀ a ∈ r, a.natAbs < 2 ^ 80) → r.length ≤ 20 → loopL (mgName 11) mlaw_b19 (pl r :: ds) (Em S (dl l3) n ps R PT T o8 (some (pl p)) o10 o11 o12) = loopL (mgName 11) mlaw_b19 ds (Em S (dl l3) n ps R PT T o8 (some (pl p)) o10 (some (pl r)) (some (.bl (isPl n r)))) := fun hs hl => loop_step rfl (b19_go h1 h4 hs hl _ _ _ _ _ _ _ _)
  have e : loopL (mgName 11) mlaw_b19 [pl p, pl r1, pl r3] (Em S (dl l3) n ps R PT T o8 (some (pl p)) o10 none none) = .nx (Em S (dl l3) n ps R PT T o8 (some (pl p)) o10 (some (pl r3)) (some (.bl (isPl n r3)))) := by
    rw [st (fun a ha => sm_up (hp70 a ha) (by omega)) (by omega), st (fun a ha => sm_up (c1 a ha) (by omega)) (by omega), st (fun a ha => sm_up (c3 a ha) (by omega)) (by omega)]
    rfl
  refine ⟨Em S (dl l3) n ps R PT T o8 (some (pl p)) o10 (some (pl r3)) (some (.bl (isPl n r3))), ?_⟩
  have gi : gIter (.lst [pl p, pl r1, pl r3]) = some [pl p, pl r1, pl r3] := rfl
  clear st io2 v1 v2 v3
  unfold mlaw_s20
  unfold Em at *
  generalize mlaw_b19 = B at *
  generalize mCallIo Q.F_law_spoilt_v3 1 (mCons (mCallIo Q.F_law_spoilt_v3 1 (mCons (mVar 9) mNil)) mNil) = M3 at *
  generalize mCallIo Q.F_law_spoilt_v3 1 (mCons (mVar 9) mNil) = M1 at *
  generalize D.lst (ps.map pl) = L at *
  generalize PO n ps = P at *
  generalize dl l = D0 at *
  generalize dl l1 = D1 at *
  generalize dl l3 = D3 at *
  generalize pl p = PP at *
  generalize pl r1 = P1 at *
  generalize pl r3 = P3 at *
  simp -implicitDefEqProofs [io1, io3, gi, e, show 3 ≤ sizeLine by decide]
end
theorem law_true : ∀ zs : List Int, zs.length ≤ 63 → ∃ o, Flaw [.scr (zs.map D.int)] = .rt (.bl true) o := by
  intro zs hz
  have sz := szv
  obtain ⟨l0, e0⟩ := qDraws_v zs hz
  suffices h : ∃ ρ', mlaw (pad 13 [.scr (zs.map D.int)]) = .rt (.bl true) ρ' by
    obtain ⟨ρ', h⟩ := h
    exact ⟨_, runM_rt (ds := [.scr (zs.map D.int)]) (np := 1) (dd := []) rfl h⟩
  generalize hS : D.scr (zs.map D.int) = S at *
  have a0 : mlaw_s0 (St (some S) none none none none none none none none none none none none) = .nx (St (some S) (some (dl l0)) none none none none none none none none none none none) := by
    simp -implicitDefEqProofs [mlaw_s0, mCall_R, e_draws, e0]
  have a1 : mlaw_s1 (St (some S) (some (dl l0)) none none none none none none none none none none none) = .nx (St (some S) (some (dl l0.reverse)) none none none none none none none none none none none) := by
    simp -implicitDefEqProofs [mlaw_s1, getO_1, gReverse]
  generalize l0.reverse = l1 at a1
  obtain ⟨x1, x2⟩ := fm_rng (drawI l1) (m := 4) (by decide)
  obtain ⟨n, hn⟩ : ∃ n : Nat, 1 + (drawI l1).fmod 4 = (n : Int) := ⟨(1 + (drawI l1).fmod 4).toNat, by omega⟩
  have n1 : 1 ≤ n := by omega
  have n4 : n ≤ 4 := by omega
  have a2 : mlaw_s2 (St (some S) (some (dl l1)) none none none none none none none none none none none) = .nx (St (some S) (some (dl l1.dropLast)) (some (.int (n : Nat))) none none none none none none none none none none) := by
    rw [← hn]
    simp -implicitDefEqProofs [mlaw_s2, io_next1, gMod_p]
  generalize l1.dropLast = l2 at a2
  obtain ⟨ps, pt, l3, e3, lps, okp, pi5, hpt⟩ := v_lplanes (most := 7) n1 n4 (by decide) l2
  have l12 := ok_len okp
  have a3 := a3_go (S := S) e3 (by rw [hpt.1]; exact n1)
  have a4 := a4_go (n := n) (ps := ps) (S := S) (dl l3) (dl pt)
  have a5 := a5_go (S := S) okp n1 n4 (dl l3) (dl pt) (.lst (ps.map pl))
  have a6 := a6_go (n := n) (ps := ps) (S := S) (by omega) (dl l3) (.lst (ps.map pl)) (dl pt)
  have a7 := a7_go (n := n) (ps := ps) (S := S) (dl l3) (.lst (ps.map pl)) (dl pt)
  have a8 := a8_go (n := n) (S := S) (ps.map pl) (by rw [List.length_map]; omega) (dl l3) (.lst (ps.map pl)) (dl pt) (.lst (ps.map pl)) (PO n ps)
  have a9 := a9_go (n := n) (S := S) (ps.map pl) (by rw [List.length_map]; omega) (dl l3) (dl pt) (.lst (ps.map pl)) (PO n ps) (.lst (ps.map pl ++ [.tup [.int 0, .int 0]]))
  have a10 := a10_go (S := S) okp n1 n4 (dl l3) (.lst (ps.map pl ++ [.tup [.int 1]])) (dl pt) (.lst (ps.map pl ++ [.tup [.int 0, .int 0]]))
  have a11 := a11_go (S := S) okp n1 n4 (dl l3) (.lst (ps.map pl ++ [.tup [.int 1]])) (dl pt) (.lst (ps.map pl ++ [.tup [.int 0, .int 0]]))
  have a12 := a12_go (S := S) okp n1 n4 (dl l3) (.lst (ps.map pl ++ [.tup [.int 1]])) (dl pt) (.lst (ps.map pl ++ [.tup [.int 0, .int 0]]))
  obtain ⟨D1, d1, m1, v1⟩ := v_lfirst pi5 n4 l12
  obtain ⟨D2, d2, m2, v2⟩ := v_lwhole pi5 n4 l12
  have a14 := a14_go (S := S) pi5 l12 n4 v1 (dl l3) (.lst (ps.map pl ++ [.tup [.int 1]])) (dl pt) (.lst (ps.map pl ++ [.tup [.int 0, .int 0]]))
  have a15 := a15_go (S := S) pi5 l12 n4 v2 (dl l3) (.lst (ps.map pl ++ [.tup [.int 1]])) (dl pt) (.lst (ps.map pl ++ [.tup [.int 0, .int 0]])) (tps D1)
  have a16 := a16_go (S := S) pi5 l12 n4 d1 m1 d2 m2 (dl l3) (.lst (ps.map pl ++ [.tup [.int 1]])) (dl pt) (.lst (ps.map pl ++ [.tup [.int 0, .int 0]]))
  obtain ⟨l4, a17⟩ := a17_go (S := S) okp pi5 n1 n4 l3 (.lst (ps.map pl ++ [.tup [.int 1]])) (dl pt) (.lst (ps.map pl ++ [.tup [.int 0, .int 0]])) (some (tps D1)) (some (tps D2))
  obtain ⟨p, l5, okp5, pip, a18⟩ := a18_go (S := S) (ps := ps) n1 n4 hpt l4 (.lst (ps.map pl ++ [.tup [.int 1]])) (.lst (ps.map pl ++ [.tup [.int 0, .int 0]])) (some (tps D1)) (some (tps D2))
  obtain ⟨ρ', a20⟩ := a20_go (S := S) (ps := ps) n1 n4 pip l5 (.lst (ps.map pl ++ [.tup [.int 1]])) (dl pt) (.lst (ps.map pl ++ [.tup [.int 0, .int 0]])) (some (tps D1)) (some (tps D2))
  refine ⟨ρ', ?_⟩
  show mlaw (St (some S) none none none none none none none none none none none none) = _
  unfold Em at *
  clear e3 v1 v2
  generalize tps D1 = X1 at *
  generalize tps D2 = X2 at *
  generalize D.lst (ps.map pl ++ [.tup [.int 1]]) = R1 at *
  generalize D.lst (ps.map pl ++ [.tup [.int 0, .int 0]]) = R2 at *
  generalize D.lst (ps.map pl) = L at *
  generalize PO n ps = P at *
  generalize dl pt = PT at *
  generalize dl l0 = D0 at *
  generalize dl l1 = D1' at *
  generalize dl l2 = D2' at *
  generalize dl l3 = D3 at *
  generalize dl l4 = D4 at *
  generalize dl l5 = D5 at *
  generalize pl p = PP at *
  unfold mlaw
  rw [msForget_ap]
  show msSeq _ _ (St (some S) none none none none none none none none none none none none) = _
  rw [seq_nx a0, seq_nx a1, seq_nx a2, msForget_ap]
  show msSeq _ _ (St (some S) (some D2') (some (.int (n : Nat))) none none none none none none none none none none) = _
  rw [seq_nx a3, seq_nx a4, seq_nx a5, seq_nx a6, msForget_ap]
  show msSeq _ _ (St (some S) (some D3) (some (.int (n : Nat))) (some L) (some PT) (some L) (some P) none none none none none none) = _
  rw [seq_nx a7, seq_nx a8, seq_nx a9, seq_nx a10, seq_nx a11, seq_nx a12, seq_nx a14, seq_nx a15, seq_nx a16, seq_nx a17, seq_nx a18, seq_nx a20]
  rfl
end K05
namespace K05
open DL L2 PySem PySem.Spec PyProof.Rows
def D_law_number : He.DefD := ⟨("_law_number", none), "_law_number", "_law_number", defArgs s_law_number, defBody s_law_number, defScope s_law_number, [], []⟩
def D_law_draws : He.DefD := ⟨("_law_draws", none), "_law_draws", "_law_draws", defArgs s_law_draws, defBody s_law_draws, defScope s_law_draws, [], []⟩
def D_law_divisor : He.DefD := ⟨("_law_divisor", none), "_law_divisor", "_law_divisor", defArgs s_law_divisor, defBody s_law_divisor, defScope s_law_divisor, [], []⟩
def D_law_next : He.DefD := ⟨("_law_next", none), "_law_next", "_law_next", defArgs s_law_next, defBody s_law_next, defScope s_law_next, [], []⟩
def D_law_plane : He.DefD := ⟨("_law_plane", none), "_law_plane", "_law_plane", defArgs s_law_plane, defBody s_law_plane, defScope s_law_plane, [], []⟩
def D_law_planes : He.DefD := ⟨("_law_planes", none), "_law_planes", "_law_planes", defArgs s_law_planes, defBody s_law_planes, defScope s_law_planes, [], []⟩
def D_law_lowest : He.DefD := ⟨("_law_lowest", none), "_law_lowest", "_law_lowest", defArgs s_law_lowest, defBody s_law_lowest, defScope s_law_lowest, [], []⟩
def D_law_over : He.DefD := ⟨("_law_over", none), "_law_over", "_law_over", defArgs s_law_over, defBody s_law_over, defScope s_law_over, [], []⟩
def D_law_less : He.DefD := ⟨("_law_less", none), "_law_less", "_law_less", defArgs s_law_less, defBody s_law_less, defScope s_law_less, [], []⟩
def D_law_times : He.DefD := ⟨("_law_times", none), "_law_times", "_law_times", defArgs s_law_times, defBody s_law_times, defScope s_law_times, [], []⟩
def D_law_taken : He.DefD := ⟨("_law_taken", none), "_law_taken", "_law_taken", defArgs s_law_taken, defBody s_law_taken, defScope s_law_taken, [], []⟩
def D_law_echelon : He.DefD := ⟨("_law_echelon", none), "_law_echelon", "_law_echelon", defArgs s_law_echelon, defBody s_law_echelon, defScope s_law_echelon, [], []⟩
def D_law_numbers : He.DefD := ⟨("_law_numbers", none), "_law_numbers", "_law_numbers", defArgs s_law_numbers, defBody s_law_numbers, defScope s_law_numbers, [], []⟩
def D_law_spoilt : He.DefD := ⟨("_law_spoilt", none), "_law_spoilt", "_law_spoilt", defArgs s_law_spoilt, defBody s_law_spoilt, defScope s_law_spoilt, [], []⟩
def D_law_is_plane : He.DefD := ⟨("_law_is_plane", none), "_law_is_plane", "_law_is_plane", defArgs s_law_is_plane, defBody s_law_is_plane, defScope s_law_is_plane, [], []⟩
def Dcheck_index : He.DefD := ⟨("check_index", none), "check_index", "check_index", defArgs scheck_index, defBody scheck_index, defScope scheck_index, [], []⟩
def Dcheck_indexes : He.DefD := ⟨("check_indexes", none), "check_indexes", "check_indexes", defArgs scheck_indexes, defBody scheck_indexes, defScope scheck_indexes, [], []⟩
def Dcheck_letters : He.DefD := ⟨("check_letters", none), "check_letters", "check_letters", defArgs scheck_letters, defBody scheck_letters, defScope scheck_letters, [], []⟩
def Ddivisor : He.DefD := ⟨("divisor", none), "divisor", "divisor", defArgs sdivisor, defBody sdivisor, defScope sdivisor, [], []⟩
def Dis_plane : He.DefD := ⟨("is_plane", none), "is_plane", "is_plane", defArgs sis_plane, defBody sis_plane, defScope sis_plane, [], []⟩
def Dother_way : He.DefD := ⟨("other_way", none), "other_way", "other_way", defArgs sother_way, defBody sother_way, defScope sother_way, [], []⟩
def Dare_planes : He.DefD := ⟨("are_planes", none), "are_planes", "are_planes", defArgs sare_planes, defBody sare_planes, defScope sare_planes, [], []⟩
def DPlanes_init : He.DefD := ⟨("Planes", some "__init__"), "__init__", "Planes.__init__", defArgs sPlanes_init, defBody sPlanes_init, defScope sPlanes_init, [], []⟩
def DPlanes_only : He.DefD := ⟨("Planes", some "only"), "only", "Planes.only", defArgs sPlanes_only, defBody sPlanes_only, defScope sPlanes_only, [], []⟩
def DPlanes_without : He.DefD := ⟨("Planes", some "without"), "without", "Planes.without", defArgs sPlanes_without, defBody sPlanes_without, defScope sPlanes_without, [], []⟩
def DPlanes_turned : He.DefD := ⟨("Planes", some "turned"), "turned", "Planes.turned", defArgs sPlanes_turned, defBody sPlanes_turned, defScope sPlanes_turned, [], []⟩
def D_law_method : He.DefD := ⟨("_law_method", none), "_law_method", "_law_method", defArgs s_law_method, defBody s_law_method, defScope s_law_method, [], []⟩
def DPlanes_planes : He.DefD := ⟨("Planes", some "planes"), "planes", "Planes.planes", defArgs sPlanes_planes, defBody sPlanes_planes, defScope sPlanes_planes, [], []⟩
def D_law_parts : He.DefD := ⟨("_law_parts", none), "_law_parts", "_law_parts", defArgs s_law_parts, defBody s_law_parts, defScope s_law_parts, [], []⟩
def D_law_told : He.DefD := ⟨("_law_told", none), "_law_told", "_law_told", defArgs s_law_told, defBody s_law_told, defScope s_law_told, [], []⟩
def D_law_lists : He.DefD := ⟨("_law_lists", none), "_law_lists", "_law_lists", defArgs s_law_lists, defBody s_law_lists, defScope s_law_lists, [], []⟩
def DPlanes_eq : He.DefD := ⟨("Planes", some "__eq__"), "__eq__", "Planes.__eq__", defArgs sPlanes_eq, defBody sPlanes_eq, defScope sPlanes_eq, [], []⟩
def DPlanes_len : He.DefD := ⟨("Planes", some "__len__"), "__len__", "Planes.__len__", defArgs sPlanes_len, defBody sPlanes_len, defScope sPlanes_len, [], []⟩
def Dlowest : He.DefD := ⟨("lowest", none), "lowest", "lowest", defArgs slowest, defBody slowest, defScope slowest, [], []⟩
def Dinverted : He.DefD := ⟨("inverted", none), "inverted", "inverted", defArgs sinverted, defBody sinverted, defScope sinverted, [], []⟩
def Dmultiplied : He.DefD := ⟨("multiplied", none), "multiplied", "multiplied", defArgs smultiplied, defBody smultiplied, defScope smultiplied, [], []⟩
def Dnegated : He.DefD := ⟨("negated", none), "negated", "negated", defArgs snegated, defBody snegated, defScope snegated, [], []⟩
def Dsummed : He.DefD := ⟨("summed", none), "summed", "summed", defArgs ssummed, defBody ssummed, defScope ssummed, [], []⟩
def Dlessened : He.DefD := ⟨("lessened", none), "lessened", "lessened", defArgs slessened, defBody slessened, defScope slessened, [], []⟩
def Dreduced : He.DefD := ⟨("reduced", none), "reduced", "reduced", defArgs sreduced, defBody sreduced, defScope sreduced, [], []⟩
def Drank_of_rows : He.DefD := ⟨("rank_of_rows", none), "rank_of_rows", "rank_of_rows", defArgs srank_of_rows, defBody srank_of_rows, defScope srank_of_rows, [], []⟩
def Dnumbers_of : He.DefD := ⟨("numbers_of", none), "numbers_of", "numbers_of", defArgs snumbers_of, defBody snumbers_of, defScope snumbers_of, [], []⟩
def DPlanes_rank : He.DefD := ⟨("Planes", some "rank"), "rank", "Planes.rank", defArgs sPlanes_rank, defBody sPlanes_rank, defScope sPlanes_rank, [], []⟩
def Dequations : He.DefD := ⟨("equations", none), "equations", "equations", defArgs sequations, defBody sequations, defScope sequations, [], []⟩
def Dsolved : He.DefD := ⟨("solved", none), "solved", "solved", defArgs ssolved, defBody ssolved, defScope ssolved, [], []⟩
def Dplace_of : He.DefD := ⟨("place_of", none), "place_of", "place_of", defArgs splace_of, defBody splace_of, defScope splace_of, [], []⟩
def DPlanes_is_central : He.DefD := ⟨("Planes", some "is_central"), "is_central", "Planes.is_central", defArgs sPlanes_is_central, defBody sPlanes_is_central, defScope sPlanes_is_central, [], []⟩
def Dlaw : He.DefD := ⟨("law", none), "law", "law", defArgs slaw, defBody slaw, defScope slaw, [], []⟩
def fns : List He.DefD := [D_law_number, D_law_draws, D_law_divisor, D_law_next, D_law_plane, D_law_planes, D_law_lowest, D_law_over, D_law_less, D_law_times, D_law_taken, D_law_echelon, D_law_numbers, D_law_spoilt, D_law_is_plane, Dcheck_index, Dcheck_indexes, Dcheck_letters, Ddivisor, Dis_plane, Dother_way, Dare_planes, DPlanes_init, DPlanes_only, DPlanes_without, DPlanes_turned, D_law_method, DPlanes_planes, D_law_parts, D_law_told, D_law_lists, DPlanes_eq, DPlanes_len, Dlowest, Dinverted, Dmultiplied, Dnegated, Dsummed, Dlessened, Dreduced, Drank_of_rows, Dnumbers_of, DPlanes_rank, Dequations, Dsolved, Dplace_of, DPlanes_is_central, Dlaw]
def fas : List He.Fa := [.glo "BadNumber", .glo "NotPlanes", .glo "PlaneError", .glo "Planes", .glo "ZERO", .glo "_law_divisor", .glo "_law_draws", .glo "_law_echelon", .glo "_law_is_plane", .glo "_law_less", .glo "_law_lists", .glo "_law_lowest", .glo "_law_method", .glo "_law_next", .glo "_law_number", .glo "_law_numbers", .glo "_law_over", .glo "_law_parts", .glo "_law_plane", .glo "_law_planes", .glo "_law_spoilt", .glo "_law_taken", .glo "_law_times", .glo "_law_told", .glo "are_planes", .glo "check_index", .glo "check_indexes", .glo "check_letters", .glo "divisor", .glo "equations", .glo "inverted", .glo "is_plane", .glo "law", .glo "lessened", .glo "lowest", .glo "multiplied", .glo "negated", .glo "numbers_of", .glo "other_way", .glo "place_of", .glo "rank_of_rows", .glo "reduced", .glo "solved", .glo "summed", .free "abs", .free "all", .free "any", .free "enumerate", .free "int", .free "isinstance", .free "len", .free "list", .free "range", .free "repr", .free "str", .free "sum", .free "tuple", .free "zip", .cls "Planes", .mkr "Planes", .meth "Planes" "__len__", .meth "Planes" "__eq__", .meth "Planes" "planes", .meth "Planes" "rank", .meth "Planes" "is_central", .meth "Planes" "without", .meth "Planes" "turned", .meth "Planes" "only", .noat "Planes" "kept", .noat "Planes" "n", .int "MOST_ENTRY" cMOST_ENTRY, .int "MOST_LETTERS" cMOST_LETTERS, .int "MOST_PLANES" cMOST_PLANES, .exc "PlaneError", .exc "NotPlanes", .exc "BadNumber", .exm "PlaneError" "PlaneError" true, .exm "NotPlanes" "PlaneError" true, .exm "BadNumber" "PlaneError" true]
def xfs (K : PySem.W.Frag) : Bool := (He.tupB K "ZERO" cZERO_d && (excB K "PlaneError" && (excB K "NotPlanes" && (excB K "BadNumber" && (kitB K "PlaneError" "BadNumber" false && (kitB K "NotPlanes" "BadNumber" false && (kitB K "BadNumber" "BadNumber" true && (kitB K "PlaneError" "NotPlanes" false && (kitB K "NotPlanes" "NotPlanes" true && (kitB K "BadNumber" "NotPlanes" false && true))))))))))
def loose0 : List Str := ["PlaneError", "NotPlanes", "BadNumber", "ZERO", "divisor", "lowest", "summed", "multiplied", "negated", "inverted", "lessened", "reduced", "rank_of_rows", "solved", "MOST_LETTERS", "MOST_PLANES", "MOST_ENTRY", "check_letters", "is_plane", "other_way"]
def loose1 : List Str := ["are_planes", "Planes", "check_index", "check_indexes", "numbers_of", "equations", "place_of", "_law_number", "_law_draws", "_law_next", "_law_divisor", "_law_lowest", "_law_plus", "_law_times", "_law_less", "_law_dot", "_law_fraction", "_law_plane", "_law_planes", "_law_point"]
def loose2 : List Str := ["_law_over", "_law_echelon", "_law_taken", "_law_pivots", "_law_is_plane", "_law_spoilt", "_law_told", "_law_method", "_law_numbers", "_law_parts", "_law_lists"]
def loose : List Str := loose0 ++ loose1 ++ loose2
abbrev R : PySem.W.OpenRow := PySem.W.OpenLaw.row PySem.Challenge.rw_planeworth_k05_planes_and_lists
abbrev hk : PySem.W.Hook := hookX 4 fas xfs fns
def ob (s : PySem.W.SharedT) : He.AlD := obXG 4 fas xfs fns (HandSHeadRun.getT s)
theorem ob_eq (s : PySem.W.SharedT) : ob s = hk.obs s.abs := obXG_eq (HandSHeadRun.getT_eq s)
theorem run (w : World) : HandSHeadRun.RunEq R (PySem.W.view R.prog [56]) hk ob 20000 loose w := by
  intro os
  kernel_rfl
theorem fcOk {K : PySem.W.Frag} {h : Heap} {mg : Str → Option Value} (X : K.In h) (G : h.Ns mainGlobals mg) (c : SaysX fas xfs fns K) : Fc K mg := by
  have x0 : xfs K = true := c.x1
  unfold xfs at x0
  obtain ⟨y0, x1⟩ := He.ba x0
  obtain ⟨y1, x2⟩ := He.ba x1
  obtain ⟨y2, x3⟩ := He.ba x2
  obtain ⟨y3, x4⟩ := He.ba x3
  obtain ⟨y4, x5⟩ := He.ba x4
  obtain ⟨y5, x6⟩ := He.ba x5
  obtain ⟨y6, x7⟩ := He.ba x6
  obtain ⟨y7, x8⟩ := He.ba x7
  obtain ⟨y8, x9⟩ := He.ba x8
  obtain ⟨y9, x10⟩ := He.ba x9
  exact {
    g_BadNumber := He.glo_ok X G (c.d.fact 0 rfl)
    g_NotPlanes := He.glo_ok X G (c.d.fact 1 rfl)
    g_PlaneError := He.glo_ok X G (c.d.fact 2 rfl)
    g_Planes := He.glo_ok X G (c.d.fact 3 rfl)
    g_ZERO := He.glo_ok X G (c.d.fact 4 rfl)
    g__law_divisor := He.glo_ok X G (c.d.fact 5 rfl)
    g__law_draws := He.glo_ok X G (c.d.fact 6 rfl)
    g__law_echelon := He.glo_ok X G (c.d.fact 7 rfl)
    g__law_is_plane := He.glo_ok X G (c.d.fact 8 rfl)
    g__law_less := He.glo_ok X G (c.d.fact 9 rfl)
    g__law_lists := He.glo_ok X G (c.d.fact 10 rfl)
    g__law_lowest := He.glo_ok X G (c.d.fact 11 rfl)
    g__law_method := He.glo_ok X G (c.d.fact 12 rfl)
    g__law_next := He.glo_ok X G (c.d.fact 13 rfl)
    g__law_number := He.glo_ok X G (c.d.fact 14 rfl)
    g__law_numbers := He.glo_ok X G (c.d.fact 15 rfl)
    g__law_over := He.glo_ok X G (c.d.fact 16 rfl)
    g__law_parts := He.glo_ok X G (c.d.fact 17 rfl)
    g__law_plane := He.glo_ok X G (c.d.fact 18 rfl)
    g__law_planes := He.glo_ok X G (c.d.fact 19 rfl)
    g__law_spoilt := He.glo_ok X G (c.d.fact 20 rfl)
    g__law_taken := He.glo_ok X G (c.d.fact 21 rfl)
    g__law_times := He.glo_ok X G (c.d.fact 22 rfl)
    g__law_told := He.glo_ok X G (c.d.fact 23 rfl)
    g_are_planes := He.glo_ok X G (c.d.fact 24 rfl)
    g_check_index := He.glo_ok X G (c.d.fact 25 rfl)
    g_check_indexes := He.glo_ok X G (c.d.fact 26 rfl)
    g_check_letters := He.glo_ok X G (c.d.fact 27 rfl)
    g_divisor := He.glo_ok X G (c.d.fact 28 rfl)
    g_equations := He.glo_ok X G (c.d.fact 29 rfl)
    g_inverted := He.glo_ok X G (c.d.fact 30 rfl)
    g_is_plane := He.glo_ok X G (c.d.fact 31 rfl)
    g_law := He.glo_ok X G (c.d.fact 32 rfl)
    g_lessened := He.glo_ok X G (c.d.fact 33 rfl)
    g_lowest := He.glo_ok X G (c.d.fact 34 rfl)
    g_multiplied := He.glo_ok X G (c.d.fact 35 rfl)
    g_negated := He.glo_ok X G (c.d.fact 36 rfl)
    g_numbers_of := He.glo_ok X G (c.d.fact 37 rfl)
    g_other_way := He.glo_ok X G (c.d.fact 38 rfl)
    g_place_of := He.glo_ok X G (c.d.fact 39 rfl)
    g_rank_of_rows := He.glo_ok X G (c.d.fact 40 rfl)
    g_reduced := He.glo_ok X G (c.d.fact 41 rfl)
    g_solved := He.glo_ok X G (c.d.fact 42 rfl)
    g_summed := He.glo_ok X G (c.d.fact 43 rfl)
    f_abs := He.free_ok X G (c.d.fact 44 rfl)
    f_all := He.free_ok X G (c.d.fact 45 rfl)
    f_any := He.free_ok X G (c.d.fact 46 rfl)
    f_enumerate := He.free_ok X G (c.d.fact 47 rfl)
    f_int := He.free_ok X G (c.d.fact 48 rfl)
    f_isinstance := He.free_ok X G (c.d.fact 49 rfl)
    f_len := He.free_ok X G (c.d.fact 50 rfl)
    f_list := He.free_ok X G (c.d.fact 51 rfl)
    f_range := He.free_ok X G (c.d.fact 52 rfl)
    f_repr := He.free_ok X G (c.d.fact 53 rfl)
    f_str := He.free_ok X G (c.d.fact 54 rfl)
    f_sum := He.free_ok X G (c.d.fact 55 rfl)
    f_tuple := He.free_ok X G (c.d.fact 56 rfl)
    f_zip := He.free_ok X G (c.d.fact 57 rfl)
    cl_Planes := He.cls_ok (c.d.fact 58 rfl)
    mk_Planes := He.mkr_ok (c.d.fact 59 rfl)
    me_Planes_len := He.meth_ok (c.d.fact 60 rfl)
    me_Planes_eq := He.meth_ok (c.d.fact 61 rfl)
    me_Planes_planes := He.meth_ok (c.d.fact 62 rfl)
    me_Planes_rank := He.meth_ok (c.d.fact 63 rfl)
    me_Planes_is_central := He.meth_ok (c.d.fact 64 rfl)
    me_Planes_without := He.meth_ok (c.d.fact 65 rfl)
    me_Planes_turned := He.meth_ok (c.d.fact 66 rfl)
    me_Planes_only := He.meth_ok (c.d.fact 67 rfl)
    na_Planes_kept := He.noat_ok (c.d.fact 68 rfl)
    na_Planes_n := He.noat_ok (c.d.fact 69 rfl)
    c_MOST_ENTRY := He.int_ok X G (c.d.fact 70 rfl)
    c_MOST_LETTERS := He.int_ok X G (c.d.fact 71 rfl)
    c_MOST_PLANES := He.int_ok X G (c.d.fact 72 rfl)
    e_PlaneError := (let z := He.exc_ok (c.d.fact 73 rfl); ⟨z.1, z.2.1, z.2.2.1, z.2.2.2, He.glo_ok X G (c.d.fact 2 rfl)⟩)
    e_NotPlanes := (let z := He.exc_ok (c.d.fact 74 rfl); ⟨z.1, z.2.1, z.2.2.1, z.2.2.2, He.glo_ok X G (c.d.fact 1 rfl)⟩)
    e_BadNumber := (let z := He.exc_ok (c.d.fact 75 rfl); ⟨z.1, z.2.1, z.2.2.1, z.2.2.2, He.glo_ok X G (c.d.fact 0 rfl)⟩)
    m_PlaneError_PlaneError := He.exm_ok (c.d.fact 76 rfl)
    m_PlaneError_NotPlanes := He.exm_ok (c.d.fact 77 rfl)
    m_PlaneError_BadNumber := He.exm_ok (c.d.fact 78 rfl)
    c_ZERO := y0
    x_PlaneError_PlaneError := excB_ok y1
    x_PlaneError_NotPlanes := excB_ok y2
    x_PlaneError_BadNumber := excB_ok y3
    k_PlaneError_BadNumber_PlaneError := kitB_ok y4
    k_PlaneError_BadNumber_NotPlanes := kitB_ok y5
    k_PlaneError_BadNumber_BadNumber := kitB_ok y6
    k_PlaneError_NotPlanes_PlaneError := kitB_ok y7
    k_PlaneError_NotPlanes_NotPlanes := kitB_ok y8
    k_PlaneError_NotPlanes_BadNumber := kitB_ok y9
    d__law_number := c.d.def_ 0 (d := D_law_number) rfl
    d__law_draws := c.d.def_ 1 (d := D_law_draws) rfl
    d__law_divisor := c.d.def_ 2 (d := D_law_divisor) rfl
    d__law_next := c.d.def_ 3 (d := D_law_next) rfl
    d__law_plane := c.d.def_ 4 (d := D_law_plane) rfl
    d__law_planes := c.d.def_ 5 (d := D_law_planes) rfl
    d__law_lowest := c.d.def_ 6 (d := D_law_lowest) rfl
    d__law_over := c.d.def_ 7 (d := D_law_over) rfl
    d__law_less := c.d.def_ 8 (d := D_law_less) rfl
    d__law_times := c.d.def_ 9 (d := D_law_times) rfl
    d__law_taken := c.d.def_ 10 (d := D_law_taken) rfl
    d__law_echelon := c.d.def_ 11 (d := D_law_echelon) rfl
    d__law_numbers := c.d.def_ 12 (d := D_law_numbers) rfl
    d__law_spoilt := c.d.def_ 13 (d := D_law_spoilt) rfl
    d__law_is_plane := c.d.def_ 14 (d := D_law_is_plane) rfl
    d_check_index := c.d.def_ 15 (d := Dcheck_index) rfl
    d_check_indexes := c.d.def_ 16 (d := Dcheck_indexes) rfl
    d_check_letters := c.d.def_ 17 (d := Dcheck_letters) rfl
    d_divisor := c.d.def_ 18 (d := Ddivisor) rfl
    d_is_plane := c.d.def_ 19 (d := Dis_plane) rfl
    d_other_way := c.d.def_ 20 (d := Dother_way) rfl
    d_are_planes := c.d.def_ 21 (d := Dare_planes) rfl
    d_Planes_init := c.d.def_ 22 (d := DPlanes_init) rfl
    d_Planes_only := c.d.def_ 23 (d := DPlanes_only) rfl
    d_Planes_without := c.d.def_ 24 (d := DPlanes_without) rfl
    d_Planes_turned := c.d.def_ 25 (d := DPlanes_turned) rfl
    d__law_method := c.d.def_ 26 (d := D_law_method) rfl
    d_Planes_planes := c.d.def_ 27 (d := DPlanes_planes) rfl
    d__law_parts := c.d.def_ 28 (d := D_law_parts) rfl
    d__law_told := c.d.def_ 29 (d := D_law_told) rfl
    d__law_lists := c.d.def_ 30 (d := D_law_lists) rfl
    d_Planes_eq := c.d.def_ 31 (d := DPlanes_eq) rfl
    d_Planes_len := c.d.def_ 32 (d := DPlanes_len) rfl
    d_lowest := c.d.def_ 33 (d := Dlowest) rfl
    d_inverted := c.d.def_ 34 (d := Dinverted) rfl
    d_multiplied := c.d.def_ 35 (d := Dmultiplied) rfl
    d_negated := c.d.def_ 36 (d := Dnegated) rfl
    d_summed := c.d.def_ 37 (d := Dsummed) rfl
    d_lessened := c.d.def_ 38 (d := Dlessened) rfl
    d_reduced := c.d.def_ 39 (d := Dreduced) rfl
    d_rank_of_rows := c.d.def_ 40 (d := Drank_of_rows) rfl
    d_numbers_of := c.d.def_ 41 (d := Dnumbers_of) rfl
    d_Planes_rank := c.d.def_ 42 (d := DPlanes_rank) rfl
    d_equations := c.d.def_ 43 (d := Dequations) rfl
    d_solved := c.d.def_ 44 (d := Dsolved) rfl
    d_place_of := c.d.def_ 45 (d := Dplace_of) rfl
    d_Planes_is_central := c.d.def_ 46 (d := DPlanes_is_central) rfl
    d_law := c.d.def_ 47 (d := Dlaw) rfl }
end K05
open PySem PySem.W PySem.Calls PyProof.Rows
theorem PySem.Challenge.cw_planeworth_k05_planes_and_lists_holds : PySem.Challenge.rw_planeworth_k05_planes_and_lists.Holds := by
  w_on; o_law
  refine HandSHeadRun.head_any (r := OpenLaw.row PySem.Challenge.rw_planeworth_k05_planes_and_lists) (q := view (OpenLaw.row PySem.Challenge.rw_planeworth_k05_planes_and_lists).prog [56]) (H := K05.hk) (ob := K05.ob)
    (M := 20000) (loose := K05.loose) (d := HandSHeadRun.topDef (OpenLaw.row PySem.Challenge.rw_planeworth_k05_planes_and_lists).prog 56) (kwd := []) K05.ob_eq
    (by kernel_rfl) (fun s => by kernel_rfl) K05.run (by kernel_rfl)
    (by kernel_rfl) (by kernel_rfl) (by rfl) (by first | assumption | decide +kernel) (by decide +kernel) ⟨rfl, rfl, rfl, rfl, rfl, by decide +kernel⟩ ?hw ?hc
  case hw => w_witness2
  case hc =>
    refine DL.walkG (l := PySem.Challenge.rw_planeworth_k05_planes_and_lists) (n := 63) (k := 9) (F := K05.Flaw) rfl (by decide) (by kernel_rfl) ⟨rfl, by decide, by decide⟩ ?C K05.law_true
    intro w mg fL h Y G hmg0
    obtain ⟨K, kin, c⟩ := Y
    have hmg : mg ("law" : PySem.Str) = some (.ref fL) := by
      have e : (HandSHeadRun.topDef (OpenLaw.row PySem.Challenge.rw_planeworth_k05_planes_and_lists).prog 56).name = ("law" : PySem.Str) := by kernel_rfl
      rw [← e]
      exact hmg0
    have fc := K05.fcOk kin G c
    have e := hmg.symm.trans fc.g_law
    cases e
    exact ⟨K, kin, fun base _ _ => K05.glaw fc base⟩
