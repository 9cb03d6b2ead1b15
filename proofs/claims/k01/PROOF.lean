import PyProof.Rows.All
import Wide.All
import OpenK.AllK
import Wide.FinOn
import KE.KStateDown
import HandS.ForMost
import HandS.ForExc
import HandS.Flow
import HandS.Wide
import HandS.HeadHook2
import HandS.TupAny
import HandS.TupMul
import HandS.Deep
import HandS.Style
import HandS.ExcCtx
import HandS.Defaults
import HandS.SortInts
import HandS.RaiseMore
import HandS.StrMore
import HandS.Conv
import PyProof.ListStr
import HandS.ExcIs
import HandS.ExcOwn
import HandS.FStr
import HandS.Ends
import HandS.HeadEnd
import HandS.Replace
import PyProof.Rows.StrMul
import HandS.IsInst
import HandS.More
import OpenK.KOps
import HandS.Zip
import KE.GoesZip
import KE.GoesMore
import KE.KItemsList
import HandS.ExcValue
import HandS.HotCalls
import HandS.TryOnly
import HandS.HeadHook3
import HandS.RepeatKit
import HandS.SortRule
import HandS.Dict
import HandS.ExcInit
import HandS.ExcField
import HandS.ExcSuper
import KE.KExcSuper
import HandS.Codes
import PyProof.ReprBulk
import HandS.Head0
import HandS.Head1
import HandS.Head2
import HandS.Head3
import PySem.Challenge.RW_planeworth_k01_texts_of_numbers_and_clea
set_option Elab.async false
set_option linter.all false
set_option maxRecDepth 100000
set_option maxHeartbeats 0
namespace DL
open L2 PySem PySem.Spec PyProof.Rows
inductive D where
  | non | bl (b : Bool) | int (i : Int) | str (x : Str)
  | tup (l : List D) | lst (l : List D)
  | scr (l : List D)
  | fn (x : Str)
  | obj (c : Str) (fs : List (Str × D))
  | exn (c : Str) (fs : List (Str × D))
  | dct (t : Bool) (ks vs : List D)
structure Xn where
  c : Str
  fs : List (Str × D) := []
abbrev En := List (Option D)
inductive R (α : Type) where
  | ok (a : α) (r : En)
  | ex (x : Xn) (r : En)
  | bad
def R.bind {α β : Type} : R α → (α → En → R β) → R β
  | .ok a r, f => f a r
  | .ex x r, _ => .ex x r
  | .bad, _ => .bad
abbrev ME := En → R D
abbrev MT := En → R Bool
abbrev MA := En → R (List D)
def SqTA (K : PySem.W.Frag) (A : Addr → Prop) (H : Hp) (a : Addr) (xs : List V) : Prop :=
  (Rd H a (.tup xs) ∧ ¬ A a) ∨
    ∃ (o : Obj) (its : Array Value) (n : Nat), K.lookup a = some o ∧ o.cls = .type "tuple" ∧ o.data = .seq its n ∧ its.size ≤ sizeLine ∧ Vals xs its.toList
def SqLA (K : PySem.W.Frag) (A : Addr → Prop) (H : Hp) (a : Addr) (xs : List V) : Prop :=
  (Rd H a (.lst xs) ∧ ¬ A a) ∨
    ∃ (o : Obj) (its : Array Value) (n : Nat), K.lookup a = some o ∧ o.cls = .type "list" ∧ o.dict = none ∧ o.data = .seq its n ∧ its.size ≤ sizeLine ∧ Vals xs its.toList
theorem SqTA.sq {K : PySem.W.Frag} {A : Addr → Prop} {H : Hp} {a : Addr} {xs : List V} (h : SqTA K A H a xs) : SqT K H a xs := h.imp (fun z => z.1) id
theorem SqLA.sq {K : PySem.W.Frag} {A : Addr → Prop} {H : Hp} {a : Addr} {xs : List V} (h : SqLA K A H a xs) : SqL K H a xs := h.imp (fun z => z.1) id
def ExA (oe : Obj) (a : Addr) : HO := .ext fun h => h.get? a = some oe
def keyK : D → Option Key
  | .int i => some (.inl i)
  | .str x => some (.inr x)
  | _ => none
def keysT : List D → Option (List Key)
  | [] => some []
  | d :: r => match keyK d, keysT r with
    | some k, some ks => some (k :: ks)
    | _, _ => none
def keyT : D → Option (List Key)
  | .tup l => keysT l
  | _ => none
mutual
inductive Rp (K : PySem.W.Frag) (A : Addr → Prop) (H : Hp) : V → D → Prop where
  | non : Rp K A H .non .non
  | bl (b : Bool) : Rp K A H (.bl b) (.bl b)
  | int (i : Int) : Rp K A H (.int i) (.int i)
  | str (x : Str) : Rp K A H (.str x) (.str x)
  | tup {a : Addr} {xs : List V} {ds : List D} : SqTA K A H a xs → RpA K A H xs ds → Rp K A H (.ref a) (.tup ds)
  | lst {a : Addr} {xs : List V} {ds : List D} : H a = some (.lst xs) → ¬ A a → RpA K A H xs ds → Rp K A H (.ref a) (.lst ds)
  | scr {a : Addr} {xs : List V} {ds : List D} : SqLA K A H a xs → RpA K A H xs ds → Rp K A H (.ref a) (.scr ds)
  | fn (x : Str) : Rp K A H (.ref (He.ga K x)) (.fn x)
  | obj {a dx : Addr} {c : Str} {fs : List (Str × V)} {ds : List (Str × D)} : H a = some (.ins (He.ga K c) dx fs) → ¬ A a → RpF K A H fs ds → Rp K A H (.ref a) (.obj c ds)
  | exn {a : Addr} {c : Str} {oe : Obj} : H a = some (ExA oe a) → ¬ A a → Zc (.ref (He.ga K c)) none oe → (∃ vs, oe.data = .fields vs) → Rp K A H (.ref a) (.exn c [])
  | dK {a : Addr} {kvs : List (Key × V)} {ks vs : List D} : H a = some (.dK kvs) → ¬ A a → ks.map keyK = kvs.map (fun p => some p.1) → RpA K A H (kvs.map (·.2)) vs → Rp K A H (.ref a) (.dct false ks vs)
  | dT {a : Addr} {kvs : List (List Key × V)} {ks vs : List D} : H a = some (.dT kvs) → ¬ A a → ks.map keyT = kvs.map (fun p => some p.1) → RpA K A H (kvs.map (·.2)) vs → Rp K A H (.ref a) (.dct true ks vs)
inductive RpA (K : PySem.W.Frag) (A : Addr → Prop) (H : Hp) : List V → List D → Prop where
  | nil : RpA K A H [] []
  | cons {v : V} {vs : List V} {d : D} {ds : List D} : Rp K A H v d → RpA K A H vs ds → RpA K A H (v :: vs) (d :: ds)
inductive RpF (K : PySem.W.Frag) (A : Addr → Prop) (H : Hp) : List (Str × V) → List (Str × D) → Prop where
  | nil : RpF K A H [] []
  | cons {f : Str} {v : V} {vs : List (Str × V)} {d : D} {ds : List (Str × D)} : Rp K A H v d → RpF K A H vs ds → RpF K A H ((f, v) :: vs) ((f, d) :: ds)
end
section
variable {K : PySem.W.Frag} {A A' : Addr → Prop} {H H' : Hp}
def Tr (A A' : Addr → Prop) (H H' : Hp) : Prop := ∀ a o, H a = some o → ¬ A a → H' a = some o ∧ ¬ A' a
theorem Tr.rd (t : Tr A A' H H') {a : Addr} {u : HO} (h : Rd H a u) (n : ¬ A a) : Rd H' a u ∧ ¬ A' a := by
  rcases h with h | ⟨o, h⟩
  · exact ⟨.inl (t a _ h n).1, (t a _ h n).2⟩
  · exact ⟨.inr ⟨o, (t a _ h n).1⟩, (t a _ h n).2⟩
theorem SqTA.tr (t : Tr A A' H H') {a : Addr} {xs : List V} (h : SqTA K A H a xs) : SqTA K A' H' a xs := h.imp (fun z => t.rd z.1 z.2) id
theorem SqLA.tr (t : Tr A A' H H') {a : Addr} {xs : List V} (h : SqLA K A H a xs) : SqLA K A' H' a xs := h.imp (fun z => t.rd z.1 z.2) id
mutual
theorem Rp.tr (t : Tr A A' H H') : ∀ {v : V} {d : D}, Rp K A H v d → Rp K A' H' v d
  | _, _, .non => .non
  | _, _, .bl b => .bl b
  | _, _, .int i => .int i
  | _, _, .str x => .str x
  | _, _, .tup h q => .tup (h.tr t) (RpA.tr t q)
  | _, _, .lst h n q => .lst (t _ _ h n).1 (t _ _ h n).2 (RpA.tr t q)
  | _, _, .scr h q => .scr (h.tr t) (RpA.tr t q)
  | _, _, .fn x => .fn x
  | _, _, .obj h n q => .obj (t _ _ h n).1 (t _ _ h n).2 (RpF.tr t q)
  | _, _, .exn h n z f => .exn (t _ _ h n).1 (t _ _ h n).2 z f
  | _, _, .dK h n e q => .dK (t _ _ h n).1 (t _ _ h n).2 e (RpA.tr t q)
  | _, _, .dT h n e q => .dT (t _ _ h n).1 (t _ _ h n).2 e (RpA.tr t q)
theorem RpA.tr (t : Tr A A' H H') : ∀ {v : List V} {d : List D}, RpA K A H v d → RpA K A' H' v d
  | _, _, .nil => .nil
  | _, _, .cons h q => .cons (Rp.tr t h) (RpA.tr t q)
theorem RpF.tr (t : Tr A A' H H') : ∀ {v : List (Str × V)} {d : List (Str × D)}, RpF K A H v d → RpF K A' H' v d
  | _, _, .nil => .nil
  | _, _, .cons h q => .cons (Rp.tr t h) (RpF.tr t q)
end
theorem RpA.length : ∀ {vs : List V} {ds : List D}, RpA K A H vs ds → vs.length = ds.length
  | _, _, .nil => rfl
  | _, _, .cons _ q => by rw [List.length_cons, List.length_cons, RpA.length q]
theorem RpA.get : ∀ {vs : List V} {ds : List D} {i : Nat} {d : D}, RpA K A H vs ds → ds[i]? = some d → ∃ v, vs[i]? = some v ∧ Rp K A H v d
  | _, _, _, _, .nil, e => by simp at e
  | _, _, 0, _, .cons h _, e => by simp at e; subst e; exact ⟨_, rfl, h⟩
  | _, _, i + 1, _, .cons _ q, e => by
    obtain ⟨v, h1, h2⟩ := RpA.get (i := i) q (by simpa using e)
    exact ⟨v, by simpa using h1, h2⟩
theorem RpA.app : ∀ {vs ws : List V} {ds es : List D}, RpA K A H vs ds → RpA K A H ws es → RpA K A H (vs ++ ws) (ds ++ es)
  | _, _, _, _, .nil, q => q
  | _, _, _, _, .cons h t, q => .cons h (RpA.app t q)
theorem RpA.take : ∀ {vs : List V} {ds : List D} (n : Nat), RpA K A H vs ds → RpA K A H (vs.take n) (ds.take n)
  | _, _, 0, _ => .nil
  | _, _, _ + 1, .nil => .nil
  | _, _, n + 1, .cons h t => .cons h (RpA.take n t)
theorem RpA.drop : ∀ {vs : List V} {ds : List D} (n : Nat), RpA K A H vs ds → RpA K A H (vs.drop n) (ds.drop n)
  | _, _, 0, h => h
  | _, _, _ + 1, .nil => .nil
  | _, _, n + 1, .cons _ t => RpA.drop n t
theorem RpA.set : ∀ {vs : List V} {ds : List D} {v : V} {d : D} (n : Nat), RpA K A H vs ds → Rp K A H v d → RpA K A H (vs.set n v) (ds.set n d)
  | _, _, _, _, _, .nil, _ => .nil
  | _, _, _, _, 0, .cons _ t, q => .cons q t
  | _, _, _, _, n + 1, .cons h t, q => .cons h (RpA.set n t q)
theorem RpA.rev : ∀ {vs : List V} {ds : List D}, RpA K A H vs ds → RpA K A H vs.reverse ds.reverse
  | _, _, .nil => .nil
  | _, _, .cons h t => by
    rw [List.reverse_cons, List.reverse_cons]
    exact (RpA.rev t).app (.cons h .nil)
theorem RpA.dropLast {vs : List V} {ds : List D} (h : RpA K A H vs ds) : RpA K A H vs.dropLast ds.dropLast := by
  rw [List.dropLast_eq_take, List.dropLast_eq_take, h.length]
  exact h.take _
theorem RpA.of_ints : ∀ (ns : List Int), RpA K A H (ns.map V.int) (ns.map D.int)
  | [] => .nil
  | n :: ns => .cons (.int n) (RpA.of_ints ns)
theorem RpA.of_strs : ∀ (ns : List Str), RpA K A H (ns.map V.str) (ns.map D.str)
  | [] => .nil
  | n :: ns => .cons (.str n) (RpA.of_strs ns)
theorem RpA.bls : ∀ {vs : List V} {ns : List Bool}, RpA K A H vs (ns.map D.bl) → vs = ns.map V.bl
  | vs, [], h => by cases h; rfl
  | vs, n :: ns, h => by
    rw [List.map_cons] at h
    cases h with
    | cons h t =>
      cases h
      rw [RpA.bls t, List.map_cons]
end
inductive Own (K : PySem.W.Frag) (A : Addr → Prop) (H : Hp) (p : Addr) : D → Prop where
  | lst {vs : List V} {ds : List D} : H p = some (.lst vs) → RpA K A H vs ds → Own K A H p (.lst ds)
  | obj {dx : Addr} {c : Str} {fs : List (Str × V)} {ds : List (Str × D)} : H p = some (.ins (He.ga K c) dx fs) → RpF K A H fs ds → Own K A H p (.obj c ds)
  | dK {kvs : List (Key × V)} {ks vs : List D} : H p = some (.dK kvs) → ks.map keyK = kvs.map (fun p => some p.1) → RpA K A H (kvs.map (·.2)) vs → Own K A H p (.dct false ks vs)
  | dT {kvs : List (List Key × V)} {ks vs : List D} : H p = some (.dT kvs) → ks.map keyT = kvs.map (fun p => some p.1) → RpA K A H (kvs.map (·.2)) vs → Own K A H p (.dct true ks vs)
theorem Own.there {K : PySem.W.Frag} {A : Addr → Prop} {H : Hp} {p : Addr} {d : D} (h : Own K A H p d) : ∃ o, H p = some o := by
  cases h with
  | lst e _ => exact ⟨_, e⟩
  | obj e _ => exact ⟨_, e⟩
  | dK e _ _ => exact ⟨_, e⟩
  | dT e _ _ => exact ⟨_, e⟩
theorem Own.tr {K : PySem.W.Frag} {A A' : Addr → Prop} {H H' : Hp} {p : Addr} {d : D} (h : Own K A H p d) (t : Tr A A' H H') (hp : ∀ o, H p = some o → H' p = some o) : Own K A' H' p d := by
  cases h with
  | lst e q => exact .lst (hp _ e) (q.tr t)
  | obj e q => exact .obj (hp _ e) (q.tr t)
  | dK e k q => exact .dK (hp _ e) k (q.tr t)
  | dT e k q => exact .dT (hp _ e) k (q.tr t)
theorem Own.freeze {K : PySem.W.Frag} {A A' : Addr → Prop} {H : Hp} {p : Addr} {d : D} (h : Own K A H p d) (s : ∀ a, A' a → A a) (n : ¬ A' p) : Rp K A' H (.ref p) d := by
  have t : Tr A A' H H := fun a o e q => ⟨e, fun z => q (s a z)⟩
  cases h with
  | lst e q => exact .lst e n (q.tr t)
  | obj e q => exact .obj e n (q.tr t)
  | dK e k q => exact .dK e n k (q.tr t)
  | dT e k q => exact .dT e n k (q.tr t)
structure Gd where
  A0 : Addr → Prop
  H0 : Hp
  io : Option Addr
  px : Option (Nat × Addr × Str)
structure RelS (K : PySem.W.Frag) (G : Gd) (O : List Nat) (A : Addr → Prop) (ms : Nat → Option Addr) (σ : L2.St) (H : Hp) (ρ : En) : Prop where
  sub : ∀ a, G.A0 a → A a
  trk0 : ∀ a, G.A0 a → ∃ o, G.H0 a = some o
  trk : ∀ a, A a → ∃ o, H a = some o
  keep : ∀ a o, G.H0 a = some o → G.io ≠ some a → H a = some o
  len : σ.length = ρ.length
  fz : ∀ i d, ρ[i]? = some (some d) → i ∉ O → ∃ v, σ[i]? = some (some v) ∧ Rp K A H v d
  ow : ∀ i d, ρ[i]? = some (some d) → i ∈ O → ∃ p, ms i = some p ∧ σ[i]? = some (some (.ref p)) ∧ Own K A H p d
  inA : ∀ i p, i ∈ O → ms i = some p → A p
  ok : ∀ i p, i ∈ O → ms i = some p → (i = 0 ∧ G.io = some p) ∨ ((i ≠ 0 ∨ G.io = none) ∧ G.H0 p = none)
  dist : ∀ i j p, i ∈ O → j ∈ O → ms i = some p → ms j = some p → i = j
  px : ∀ i a c, G.px = some (i, a, c) → i ∈ O ∧ σ[i]? = some (some (.ref a))
  io : ∀ p, G.io = some p → 0 ∈ O ∧ G.A0 p ∧ ms 0 = some p ∧ ∃ d, ρ[0]? = some (some d)
def Kp (O : List Nat) (ms : Nat → Option Addr) (H H' : Hp) : Prop := ∀ a o, H a = some o → (∀ i ∈ O, ms i ≠ some a) → H' a = some o
section
variable {O : List Nat} {ms : Nat → Option Addr}
theorem Kp.refl {H : Hp} : Kp O ms H H := fun _ _ e _ => e
theorem Kp.trans {H H1 H2 : Hp} (a : Kp O ms H H1) (b : Kp O ms H1 H2) : Kp O ms H H2 := fun x o e n => b x o (a x o e n) n
theorem Kp.same {H H' : Hp} (k : Same H H') : Kp O ms H H' := fun a o e _ => k a o e
theorem Tr.same {A : Addr → Prop} {H H' : Hp} (k : Same H H') : Tr A A H H' := fun a o e n => ⟨k a o e, n⟩
theorem RelS.kt {K : PySem.W.Frag} {G : Gd} {A : Addr → Prop} {σ : L2.St} {H0 H H' : Hp} {ρ : En} (R : RelS K G O A ms σ H0 ρ) (k : Kp O ms H H') : Tr A A H H' := fun a o e n => ⟨k a o e fun i m z => n (R.inA i a m z), n⟩
theorem RelS.same {K : PySem.W.Frag} {G : Gd} {A : Addr → Prop} {σ : L2.St} {H H' : Hp} {ρ : En} (h : RelS K G O A ms σ H ρ) (k : Same H H') : RelS K G O A ms σ H' ρ where
  sub := h.sub
  trk0 := h.trk0
  trk := fun a q => let ⟨o, e⟩ := h.trk a q; ⟨o, k _ _ e⟩
  keep := fun a o e n => k _ _ (h.keep a o e n)
  len := h.len
  fz := fun i d e n => let ⟨v, e1, q⟩ := h.fz i d e n; ⟨v, e1, q.tr (Tr.same k)⟩
  ow := fun i d e n => let ⟨p, e0, e1, q⟩ := h.ow i d e n; ⟨p, e0, e1, q.tr (Tr.same k) fun o z => k _ _ z⟩
  inA := h.inA
  ok := h.ok
  dist := h.dist
  px := h.px
  io := h.io
end
def XRel (K : PySem.W.Frag) (A : Addr → Prop) (H : Hp) (x : Xn) (dx : Option Addr) : Prop :=
  (x.fs = [] ∧ dx = none) ∨ (x.fs ≠ [] ∧ ∃ d fs, dx = some d ∧ H d = some (.xd fs) ∧ RpF K A H fs x.fs)
section
variable (K : PySem.W.Frag) (G : Gd) (O : List Nat) (W : WX) (A : Addr → Prop) (ms : Nat → Option Addr) (σ : L2.St)
def RPost {α β : Type} (H : Hp) (rel : Hp → β → α → Prop) (Q : β → Hp → Prop) : R α → Prop
  | .ok d ρ' => ∀ v H', RelS K G O A ms σ H' ρ' → Kp O ms H H' → rel H' v d → Q v H'
  | .ex x ρ' => ∀ dx H', RelS K G O A ms σ H' ρ' → Kp O ms H H' → XRel K A H' x dx → W (.ref (He.ga K x.c)) dx σ H'
  | .bad => False
end
section
variable {K : PySem.W.Frag} {G : Gd} {O : List Nat} {W : WX} {A : Addr → Prop} {ms : Nat → Option Addr} {σ : L2.St} {H H1 : Hp}
theorem RPost.from {α β : Type} {rel : Hp → β → α → Prop} {Q : β → Hp → Prop} {r : R α} (k : Kp O ms H H1) (h : RPost K G O W A ms σ H rel Q r) : RPost K G O W A ms σ H1 rel Q r := by
  cases r with
  | ok d ρ => exact fun v H' R k' q => h v H' R (k.trans k') q
  | ex x ρ => exact fun dx H' R k' q => h dx H' R (k.trans k') q
  | bad => exact h
theorem RPost.mono {α β : Type} {rel : Hp → β → α → Prop} {Q Q' : β → Hp → Prop} {r : R α} (h : RPost K G O W A ms σ H rel Q r) (w : ∀ v H', Q v H' → Q' v H') : RPost K G O W A ms σ H rel Q' r := by
  cases r with
  | ok d ρ => exact fun v H' R k' q => w _ _ (h v H' R k' q)
  | ex x ρ => exact h
  | bad => exact h
theorem RPost.bind {α β γ δ : Type} {rel : Hp → β → α → Prop} {rel' : Hp → δ → γ → Prop} {Q : δ → Hp → Prop} {r : R α} {f : α → En → R γ} (h : RPost K G O W A ms σ H rel' Q (r.bind f)) :
    RPost K G O W A ms σ H rel (fun v H1 => ∃ d ρ1, RelS K G O A ms σ H1 ρ1 ∧ Kp O ms H H1 ∧ rel H1 v d ∧ RPost K G O W A ms σ H1 rel' Q (f d ρ1)) r := by
  cases r with
  | ok d ρ => exact fun v H' R k' q => ⟨d, ρ, R, k', q, RPost.from k' h⟩
  | ex x ρ => exact h
  | bad => exact h
end
def tE (K : PySem.W.Frag) (G : Gd) (O : List Nat) (W : WX) (m : ME) : TE := fun σ H Q => ∃ A ms ρ, RelS K G O A ms σ H ρ ∧ RPost K G O W A ms σ H (Rp K A) Q (m ρ)
def tT (K : PySem.W.Frag) (G : Gd) (O : List Nat) (W : WX) (m : MT) : TT := fun σ H Q => ∃ A ms ρ, RelS K G O A ms σ H ρ ∧ RPost K G O W A ms σ H (fun _ => Eq) Q (m ρ)
def tA (K : PySem.W.Frag) (G : Gd) (O : List Nat) (W : WX) (m : MA) : TA := fun σ H Q => ∃ A ms ρ, RelS K G O A ms σ H ρ ∧ RPost K G O W A ms σ H (RpA K A) Q (m ρ)
def DE (X : Cx) (G : Gd) (O : List Nat) (W : WX) (e : Expr) (m : ME) : Prop := PE X e (tE X.K G O W m)
def DT (X : Cx) (G : Gd) (O : List Nat) (W : WX) (e : Expr) (m : MT) : Prop := PT X e (tT X.K G O W m)
def DA (X : Cx) (G : Gd) (O : List Nat) (W : WX) (es : List Expr) (m : MA) : Prop := PA X es (tA X.K G O W m)
theorem pe_imp {X : Cx} {e : Expr} {t t' : TE} (h : PE X e t) (w : ∀ σ H Q, t' σ H Q → t σ H Q) : PE X e t' := ⟨fun pins s σ H Q I q => h.run pins s σ H Q I (w σ H Q q)⟩
theorem pt_imp {X : Cx} {e : Expr} {t t' : TT} (h : PT X e t) (w : ∀ σ H Q, t' σ H Q → t σ H Q) : PT X e t' := ⟨fun pins s σ H Q I q => h.run pins s σ H Q I (w σ H Q q)⟩
theorem pw_imp {X : Cx} {e : Expr} {t t' : TT} (h : PW X e t) (w : ∀ σ H Q, t' σ H Q → t σ H Q) : PW X e t' := ⟨fun wh pins s σ H Q I q => h.run wh pins s σ H Q I (w σ H Q q)⟩
theorem pa_imp {X : Cx} {es : List Expr} {t t' : TA} (h : PA X es t) (w : ∀ σ H Q, t' σ H Q → t σ H Q) : PA X es t' := ⟨fun pos pins s σ H Q I q => h.run pos pins s σ H Q I (w σ H Q q)⟩
theorem ps_imp {X : Cx} {st : Stmt} {t t' : TS} (h : PS X st t) (w : ∀ D σ H, t' D σ H → t D σ H) : PS X st t' := ⟨fun pins s σ H D I q => h.run pins s σ H D I (w D σ H q)⟩
theorem pss_imp {X : Cx} {st : List Stmt} {t t' : TS} (h : PSs X st t) (w : ∀ D σ H, t' D σ H → t D σ H) : PSs X st t' := ⟨fun pins s σ H D I q => h.run pins s σ H D I (w D σ H q)⟩
end DL
namespace DL
open L2 PySem PySem.Spec PyProof.Rows
def ret {α : Type} (d : Option α) (ρ : En) : R α := match d with
  | some d => .ok d ρ
  | none => .bad
def mVar (i : Nat) : ME := fun ρ => match ρ[i]? with
  | some (some d) => .ok d ρ
  | _ => .bad
def mK (d : D) : ME := fun ρ => .ok d ρ
def m1 (g : D → Option D) (a : ME) : ME := fun ρ => (a ρ).bind fun x ρ1 => ret (g x) ρ1
def m2 (g : D → D → Option D) (a b : ME) : ME := fun ρ => (a ρ).bind fun x ρ1 => (b ρ1).bind fun y ρ2 => ret (g x y) ρ2
def mIf (c : MT) (a b : ME) : ME := fun ρ => (c ρ).bind fun k ρ1 => if k = true then a ρ1 else b ρ1
def tru : D → Option Bool
  | .non => some false
  | .bl b => some b
  | .int i => some (i != 0)
  | .str y => if y.length ≤ sizeLine then some ((y.length : Int) != 0) else none
  | .tup l => some (!l.isEmpty)
  | .lst l => some (!l.isEmpty)
  | .scr l => some (!l.isEmpty)
  | _ => none
def mTru (a : ME) : MT := fun ρ => (a ρ).bind fun x ρ1 => ret (tru x) ρ1
def mAndT (a b : MT) : MT := fun ρ => (a ρ).bind fun k ρ1 => if k = true then b ρ1 else .ok false ρ1
def mOrT (a b : MT) : MT := fun ρ => (a ρ).bind fun k ρ1 => if k = true then .ok true ρ1 else b ρ1
def mNotT (a : MT) : MT := fun ρ => (a ρ).bind fun k ρ1 => .ok (!k) ρ1
def mAnd (a b : ME) : ME := fun ρ => (a ρ).bind fun x ρ1 => (ret (tru x) ρ1).bind fun k ρ2 => if k = true then b ρ2 else .ok x ρ2
def mOr (a b : ME) : ME := fun ρ => (a ρ).bind fun x ρ1 => (ret (tru x) ρ1).bind fun k ρ2 => if k = true then .ok x ρ2 else b ρ2
def mNil : MA := fun ρ => .ok [] ρ
def mCons (a : ME) (b : MA) : MA := fun ρ => (a ρ).bind fun x ρ1 => (b ρ1).bind fun xs ρ2 => .ok (x :: xs) ρ2
def mN (g : List D → Option D) (a : MA) : ME := fun ρ => (a ρ).bind fun xs ρ1 => ret (g xs) ρ1
def gTup (xs : List D) : Option D := if xs.length ≤ sizeLine then some (.tup xs) else none
def gLst (xs : List D) : Option D := if xs.length ≤ sizeLine then some (.lst xs) else none
def mChain (g g' : D → D → Option D) (a b c : ME) : ME := fun ρ => (a ρ).bind fun x ρ1 => (b ρ1).bind fun y ρ2 => (ret (g x y) ρ2).bind fun k ρ3 => match k with
  | .bl true => (c ρ3).bind fun z ρ4 => ret (g' y z) ρ4
  | .bl false => .ok (.bl false) ρ3
  | _ => .bad
def gAdd : D → D → Option D
  | .int i, .int j => some (.int (i + j))
  | .str x, .str y => if x.length + y.length ≤ sizeLine then some (.str (x ++ y)) else none
  | .tup xs, .tup ys => if xs.length + ys.length ≤ sizeLine then some (.tup (xs ++ ys)) else none
  | .lst xs, .lst ys => if xs.length + ys.length ≤ sizeLine then some (.lst (xs ++ ys)) else none
  | _, _ => none
def gSub : D → D → Option D
  | .int i, .int j => some (.int (i - j))
  | _, _ => none
def okMul (i j : Int) : Bool := decide (i.natAbs.log2 + j.natAbs.log2 < 100000000)
def gMul : D → D → Option D
  | .int i, .int j => if okMul i j = true then some (.int (i * j)) else none
  | .lst xs, .int k => if -(2 ^ 63) ≤ k ∧ k < 2 ^ 63 ∧ xs.length * k.toNat ≤ sizeLine then some (.lst (List.replicate k.toNat xs).flatten) else none
  | _, _ => none
def gDiv : D → D → Option D
  | .int i, .int j => if j ≠ 0 ∧ j.natAbs.log2 < 9000 then some (.int (i.fdiv j)) else none
  | _, _ => none
instance {i j : Int} : Decidable (CPow i j) := by unfold CPow; infer_instance
def gPow : D → D → Option D
  | .int i, .int j => if CPow i j then some (.int (i ^ j.toNat)) else none
  | _, _ => none
def gMod : D → D → Option D
  | .int i, .int j => if j ≠ 0 then some (.int (i.fmod j)) else none
  | _, _ => none
def gNeg : D → Option D
  | .int i => some (.int (-i))
  | _ => none
def gLt : D → D → Option D
  | .int i, .int j => some (.bl (decide (i < j)))
  | .str i, .str j => some (.bl (decide (i.cps.toList < j.cps.toList)))
  | _, _ => none
def gGt : D → D → Option D
  | .int i, .int j => some (.bl (decide (j < i)))
  | .str i, .str j => some (.bl (decide (j.cps.toList < i.cps.toList)))
  | _, _ => none
def gLe : D → D → Option D
  | .int i, .int j => some (.bl (decide (i ≤ j)))
  | .str i, .str j => some (.bl (!decide (j.cps.toList < i.cps.toList)))
  | _, _ => none
def gGe : D → D → Option D
  | .int i, .int j => some (.bl (decide (j ≤ i)))
  | .str i, .str j => some (.bl (!decide (i.cps.toList < j.cps.toList)))
  | _, _ => none
mutual
def D.py : D → Option PyData
  | .non => some .none
  | .bl b => some (.bool b)
  | .int i => some (.int i)
  | .str x => some (.str x)
  | .tup l => (pyAll l).map .tuple
  | .lst l => (pyAll l).map .list
  | _ => none
def pyAll : List D → Option (List PyData)
  | [] => some []
  | d :: ds => (D.py d).bind fun x => (pyAll ds).map fun xs => x :: xs
end
def eqD (a b : D) : Option Bool := match a, b with
  | .int i, .int j => some (decide (i = j))
  | .str i, .str j => some (decide (i = j))
  | .bl i, .bl j => some (decide (i = j))
  | .non, .non => some true
  | a, b => match a.py, b.py with
    | some x, some y => if SeqAt.shaped x = true ∧ SeqAt.shaped y = true then some (PyData.eqv x y) else none
    | _, _ => none
def gEq (a b : D) : Option D := (eqD a b).map D.bl
def gNe (a b : D) : Option D := (eqD a b).map fun k => D.bl (!k)
def isNon : D → Bool
  | .non => true
  | _ => false
def gIs : D → D → Option D
  | a, .non => some (.bl (isNon a))
  | .bl a, .bl b => some (.bl (decide (a = b)))
  | _, _ => none
def gIsNot : D → D → Option D
  | a, .non => some (.bl (!isNon a))
  | .bl a, .bl b => some (.bl (!decide (a = b)))
  | _, _ => none
def inStr (x y : Str) : Bool := !(Builtin.Str.occurrences y x 0 y.length 1).isEmpty
def inD (a : D) (l : D) : Option Bool := match a, l with
  | .str x, .str y => some (inStr x y)
  | a, .lst ds => match a.py, pyAll ds with
    | some x, some ys => if SeqAt.shaped x = true ∧ SeqAt.shaped (.list ys) = true then some (ys.any fun z => PyData.eqv z x) else none
    | _, _ => none
  | a, .tup ds => match a.py, pyAll ds with
    | some x, some ys => if SeqAt.shaped x = true ∧ SeqAt.shaped (.list ys) = true then some (ys.any fun z => PyData.eqv z x) else none
    | _, _ => none
  | _, _ => none
def gIn (a l : D) : Option D := (inD a l).map D.bl
def Trk (A : Addr → Prop) (H : Hp) : Prop := ∀ p, A p → ∃ o, H p = some o
theorem Trk.no {A : Addr → Prop} {H : Hp} (t : Trk A H) {p : Addr} (h : H p = none) : ¬ A p := fun q => by
  obtain ⟨o, e⟩ := t p q
  rw [h] at e
  cases e
theorem same_upd {H : Hp} {p : Addr} {o : HO} (h : H p = none) : Same H (upd H p o) := fun b x e => by
  rw [upd_ne (ne_of_none e h)]
  exact e
inductive RpB (K : PySem.W.Frag) (A : Addr → Prop) (H : Hp) : V → D → Prop where
  | of {v : V} {d : D} : Rp K A H v d → RpB K A H v d
  | own {p : Addr} {ws : List V} {cs : List D} : H p = some (.lst ws) → RpA K A H ws cs → RpB K A H (.ref p) (.lst cs)
  | ownK {p : Addr} {kvs : List (Key × V)} {ks vs : List D} : H p = some (.dK kvs) → ks.map keyK = kvs.map (fun p => some p.1) → RpA K A H (kvs.map (·.2)) vs → RpB K A H (.ref p) (.dct false ks vs)
  | ownT {p : Addr} {kvs : List (List Key × V)} {ks vs : List D} : H p = some (.dT kvs) → ks.map keyT = kvs.map (fun p => some p.1) → RpA K A H (kvs.map (·.2)) vs → RpB K A H (.ref p) (.dct true ks vs)
section
variable {K : PySem.W.Frag} {A : Addr → Prop} {H : Hp} {v : V}
theorem RpB.non (h : RpB K A H v .non) : v = .non := by cases h with | of h => cases h; rfl
theorem RpB.bl {b : Bool} (h : RpB K A H v (.bl b)) : v = .bl b := by cases h with | of h => cases h; rfl
theorem RpB.int {i : Int} (h : RpB K A H v (.int i)) : v = .int i := by cases h with | of h => cases h; rfl
theorem RpB.str {x : Str} (h : RpB K A H v (.str x)) : v = .str x := by cases h with | of h => cases h; rfl
theorem RpB.tup {ds : List D} (h : RpB K A H v (.tup ds)) : ∃ a xs, v = .ref a ∧ SqTA K A H a xs ∧ RpA K A H xs ds := by cases h with | of h => cases h with | tup h q => exact ⟨_, _, rfl, h, q⟩
theorem RpB.lst {ds : List D} (h : RpB K A H v (.lst ds)) : ∃ a xs, v = .ref a ∧ H a = some (.lst xs) ∧ RpA K A H xs ds := by
  cases h with
  | of h => cases h with | lst h n q => exact ⟨_, _, rfl, h, q⟩
  | own h q => exact ⟨_, _, rfl, h, q⟩
theorem RpB.scr {ds : List D} (h : RpB K A H v (.scr ds)) : ∃ a xs, v = .ref a ∧ SqLA K A H a xs ∧ RpA K A H xs ds := by cases h with | of h => cases h with | scr h q => exact ⟨_, _, rfl, h, q⟩
end
def rD2 (K : PySem.W.Frag) (g : D → D → Option D) : R2 := fun x y H Q => ∃ A a b d, Trk A H ∧ RpB K A H x a ∧ RpB K A H y b ∧ g a b = some d ∧ ∀ v H', Same H H' → Rp K A H' v d → Q v H'
def Fr (K : PySem.W.Frag) (A : Addr → Prop) (H H' : Hp) (v : V) (d : D) : Prop := ∀ l, d = .lst l → ∃ p, v = .ref p ∧ H p = none ∧ Own K (fun a => A a ∨ a = p) H' p (.lst l)
def rF2 (K : PySem.W.Frag) (g : D → D → Option D) : R2 := fun x y H Q => ∃ A a b d, Trk A H ∧ RpB K A H x a ∧ RpB K A H y b ∧ g a b = some d ∧ ∀ v H', Same H H' → Rp K A H' v d → Fr K A H H' v d → Q v H'
def rDN (K : PySem.W.Frag) (g : List D → Option D) : List V → Hp → VK → Prop := fun xs H Q => ∃ A ds d, Trk A H ∧ (RpA K A H xs ds ∨ ∃ v c, xs = [v] ∧ ds = [c] ∧ RpB K A H v c) ∧ g ds = some d ∧ ∀ v H', Same H H' → Rp K A H' v d → Q v H'
section
variable {K : PySem.W.Frag} {A : Addr → Prop} {H : Hp}
theorem new_tup {p : Addr} {xs : List V} {ds : List D} (t : Trk A H) (h : RpA K A H xs ds) (hp : H p = none) : Rp K A (upd H p (.tup xs)) (.ref p) (.tup ds) :=
  .tup (.inl ⟨.inl upd_same, t.no hp⟩) (h.tr (Tr.same (same_upd hp)))
theorem new_lst {p : Addr} {xs : List V} {ds : List D} (t : Trk A H) (h : RpA K A H xs ds) (hp : H p = none) : Rp K A (upd H p (.lst xs)) (.ref p) (.lst ds) :=
  .lst upd_same (t.no hp) (h.tr (Tr.same (same_upd hp)))
theorem RpA.nil_iff {xs : List V} {ds : List D} (h : RpA K A H xs ds) : xs = [] ↔ ds = [] := by
  cases h with
  | nil => simp
  | cons _ _ => simp
end
theorem ite_d {c : Prop} [Decidable c] {x d : D} (h : (if c then some x else none) = some d) : c ∧ x = d := by
  by_cases q : c
  · rw [if_pos q] at h
    exact ⟨q, Option.some.inj h⟩
  · rw [if_neg q] at h
    cases h
section
variable {X : Cx}
theorem new_own' {K : PySem.W.Frag} {A : Addr → Prop} {H : Hp} {p : Addr} {xs : List V} {ds : List D} (t : Trk A H) (h : RpA K A H xs ds) (hp : H p = none) : Own K (fun a => A a ∨ a = p) (upd H p (.lst xs)) p (.lst ds) :=
  .lst upd_same (h.tr fun a u e n => ⟨same_upd hp _ _ e, fun z => z.elim n fun z => by rw [z, hp] at e; cases e⟩)
theorem new_fr {K : PySem.W.Frag} {A : Addr → Prop} {H : Hp} {p : Addr} {xs : List V} {ds : List D} (t : Trk A H) (h : RpA K A H xs ds) (hp : H p = none) : Fr K A H (upd H p (.lst xs)) (.ref p) (.lst ds) := fun l e => by
  cases e
  exact ⟨p, rfl, hp, new_own' t h hp⟩
theorem no_fr {K : PySem.W.Frag} {A : Addr → Prop} {H H' : Hp} {v : V} {d : D} (h : ∀ l, d ≠ .lst l) : Fr K A H H' v d := fun l e => absurd e (h l)
theorem od_addF : OpR X (binaryOp .Add) (rF2 X.K gAdd) := by
  intro pins s σ H x y v u Q I rx ry ⟨A, a, b, d, t, pa, pb, e, q⟩
  cases a with
  | int i =>
    cases b with
    | int j =>
      cases e
      rw [pa.int] at rx
      rw [pb.int] at ry
      exact op_add pins s σ H _ _ v u Q I rx ry ⟨i, j, rfl, rfl, q _ _ (Same.refl _) (.int _) (no_fr fun _ => nofun)⟩
    | _ => cases e
  | str i =>
    cases b with
    | str j =>
      obtain ⟨hz, rfl⟩ := ite_d (x := .str (i ++ j)) e
      rw [pa.str] at rx
      rw [pb.str] at ry
      exact op_add_str pins s σ H _ _ v u Q I rx ry ⟨i, j, rfl, rfl, hz, q _ _ (Same.refl _) (.str _) (no_fr fun _ => nofun)⟩
    | _ => cases e
  | tup xs =>
    cases b with
    | tup ys =>
      obtain ⟨hz, rfl⟩ := ite_d (x := .tup (xs ++ ys)) e
      obtain ⟨a1, x1, rfl, ha, da⟩ := pa.tup
      obtain ⟨a2, x2, rfl, hb, db⟩ := pb.tup
      refine op_catA pins s σ H _ _ v u Q I rx ry ⟨_, _, _, _, rfl, rfl, ha.sq, hb.sq, by rw [da.length, db.length]; exact hz, fun z => ?_, fun _ z => ?_, fun _ _ p hp => ?_⟩
      · rw [da.nil_iff.mp z, List.nil_append] at q
        exact q _ _ (Same.refl _) (.tup hb db) (no_fr fun _ => nofun)
      · rw [db.nil_iff.mp z, List.append_nil] at q
        exact q _ _ (Same.refl _) (.tup ha da) (no_fr fun _ => nofun)
      · exact q _ _ (same_upd hp) (new_tup t (da.app db) hp) (no_fr fun _ => nofun)
    | _ => cases e
  | lst xs =>
    cases b with
    | lst ys =>
      obtain ⟨hz, rfl⟩ := ite_d (x := .lst (xs ++ ys)) e
      obtain ⟨a1, x1, rfl, ha, da⟩ := pa.lst
      obtain ⟨a2, x2, rfl, hb, db⟩ := pb.lst
      refine op_cat pins s σ H _ _ v u Q I rx ry ⟨_, _, _, _, rfl, rfl, ha, hb, by rw [da.length, db.length]; exact hz, fun p hp => ?_⟩
      exact q _ _ (same_upd hp) (new_lst t (da.app db) hp) (new_fr t (da.app db) hp)
    | _ => cases e
  | _ => cases b <;> cases e
theorem OpR.weak {f : Value → Value → Sem Value} {g : D → D → Option D} (h : OpR X f (rF2 X.K g)) : OpR X f (rD2 X.K g) := fun pins s σ H x y v u Q I rx ry ⟨A, a, b, d, t, pa, pb, e, q⟩ => h pins s σ H x y v u Q I rx ry ⟨A, a, b, d, t, pa, pb, e, fun v H' s r _ => q v H' s r⟩
theorem od_add : OpR X (binaryOp .Add) (rD2 X.K gAdd) := OpR.weak od_addF
theorem od_sub : OpR X (binaryOp .Sub) (rD2 X.K gSub) := by
  intro pins s σ H x y v u Q I rx ry ⟨A, a, b, d, t, pa, pb, e, q⟩
  cases a with
  | int i =>
    cases b with
    | int j =>
      cases e
      rw [pa.int] at rx
      rw [pb.int] at ry
      exact op_sub pins s σ H _ _ v u Q I rx ry ⟨i, j, rfl, rfl, q _ _ (Same.refl _) (.int _)⟩
    | _ => cases e
  | _ => cases b <;> cases e
theorem okMul_ok {i j : Int} (h : okMul i j = true) : IntMulOk i j := by
  have b : ∀ x : Int, Builtin.Int.intBits x ≤ x.natAbs.log2 + 1 := fun x => by
    unfold Builtin.Int.intBits
    split <;> omega
  have h1 := b i
  have h2 := b j
  have h3 : i.natAbs.log2 + j.natAbs.log2 < 100000000 := of_decide_eq_true h
  have e : bitsLine = 134217728 := by decide
  unfold IntMulOk
  intro z
  rw [Bool.and_eq_true] at z
  have z2 := z.2
  unfold Builtin.Int.intTooBig at z2
  have z3 := of_decide_eq_true z2
  rw [e] at z3
  omega
theorem RpA.rep {K : PySem.W.Frag} {A : Addr → Prop} {H : Hp} {xs : List V} {ds : List D} (h : RpA K A H xs ds) : ∀ n : Nat, RpA K A H (List.replicate n xs).flatten (List.replicate n ds).flatten
  | 0 => .nil
  | n + 1 => by
    rw [List.replicate_succ, List.replicate_succ, List.flatten_cons, List.flatten_cons]
    exact h.app (RpA.rep h n)
theorem od_mulF : OpR X (binaryOp .Mult) (rF2 X.K gMul) := by
  intro pins s σ H x y v u Q I rx ry ⟨A, a, b, d, t, pa, pb, e, q⟩
  cases a with
  | int i =>
    cases b with
    | int j =>
      obtain ⟨hz, rfl⟩ := ite_d (x := .int (i * j)) e
      rw [pa.int] at rx
      rw [pb.int] at ry
      obtain ⟨t1, rfl⟩ := rx
      obtain ⟨t2, rfl⟩ := ry
      exact mul_int ⟨.int (i * j), H, I.tok _, ⟨_, rfl⟩, q _ _ (Same.refl _) (.int _) (no_fr fun _ => nofun)⟩ (okMul_ok hz)
    | _ => cases e
  | lst xs =>
    cases b with
    | int k =>
      obtain ⟨hz, rfl⟩ := ite_d (x := .lst (List.replicate k.toNat xs).flatten) e
      obtain ⟨a1, x1, rfl, ha, da⟩ := pa.lst
      rw [pb.int] at ry
      refine op_rep pins s σ H _ _ v u Q I rx ry ⟨_, k, _, rfl, rfl, ha, hz.1, hz.2.1, by rw [da.length]; exact hz.2.2, fun p hp => ?_⟩
      exact q _ _ (same_upd hp) (new_lst t (da.rep _) hp) (new_fr t (da.rep _) hp)
    | _ => cases e
  | _ => cases b <;> cases e
theorem od_mul : OpR X (binaryOp .Mult) (rD2 X.K gMul) := OpR.weak od_mulF
theorem od_div : OpR X (binaryOp .FloorDiv) (rD2 X.K gDiv) := by
  intro pins s σ H x y v u Q I rx ry ⟨A, a, b, d, t, pa, pb, e, q⟩
  cases a with
  | int i =>
    cases b with
    | int j =>
      obtain ⟨hz, rfl⟩ := ite_d (x := .int (i.fdiv j)) e
      rw [pa.int] at rx
      rw [pb.int] at ry
      obtain ⟨t1, rfl⟩ := rx
      obtain ⟨t2, rfl⟩ := ry
      exact floordiv_int hz.1 ⟨.int (i.fdiv j), H, I.tok _, ⟨_, rfl⟩, q _ _ (Same.refl _) (.int _)⟩ (.inl (PyProof.noPylong_of_log2 hz.2))
    | _ => cases e
  | _ => cases b <;> cases e
theorem od_mod : OpR X (binaryOp .Mod) (rD2 X.K gMod) := by
  intro pins s σ H x y v u Q I rx ry ⟨A, a, b, d, t, pa, pb, e, q⟩
  cases a with
  | int i =>
    cases b with
    | int j =>
      obtain ⟨hz, rfl⟩ := ite_d (x := .int (i.fmod j)) e
      rw [pa.int] at rx
      rw [pb.int] at ry
      exact op_modN pins s σ H _ _ v u Q I rx ry ⟨i, j, rfl, rfl, hz, q _ _ (Same.refl _) (.int _)⟩
    | _ => cases e
  | _ => cases b <;> cases e
theorem od_pow : OpR X (binaryOp .Pow) (rD2 X.K gPow) := by
  intro pins s σ H x y v u Q I rx ry ⟨A, a, b, d, t, pa, pb, e, q⟩
  cases a with
  | int i =>
    cases b with
    | int j =>
      obtain ⟨hz, rfl⟩ := ite_d (x := .int (i ^ j.toNat)) e
      rw [pa.int] at rx
      rw [pb.int] at ry
      exact op_pow pins s σ H _ _ v u Q I rx ry ⟨i, j, rfl, rfl, hz, q _ _ (Same.refl _) (.int _)⟩
    | _ => cases e
  | _ => cases b <;> cases e
theorem od_lt : OpR X (compareOp .Lt) (rD2 X.K gLt) := by
  intro pins s σ H x y v u Q I rx ry ⟨A, a, b, d, t, pa, pb, e, q⟩
  cases a with
  | int i =>
    cases b with
    | int j =>
      cases e
      rw [pa.int] at rx
      rw [pb.int] at ry
      exact op_lt pins s σ H _ _ v u Q I rx ry ⟨i, j, rfl, rfl, q _ _ (Same.refl _) (.bl _)⟩
    | _ => cases e
  | str i =>
    cases b with
    | str j =>
      cases e
      rw [pa.str] at rx
      rw [pb.str] at ry
      exact op_lt_str pins s σ H _ _ v u Q I rx ry ⟨i, j, rfl, rfl, q _ _ (Same.refl _) (.bl _)⟩
    | _ => cases e
  | _ => cases b <;> cases e
theorem od_gt : OpR X (compareOp .Gt) (rD2 X.K gGt) := by
  intro pins s σ H x y v u Q I rx ry ⟨A, a, b, d, t, pa, pb, e, q⟩
  cases a with
  | int i =>
    cases b with
    | int j =>
      cases e
      rw [pa.int] at rx
      rw [pb.int] at ry
      exact op_gt pins s σ H _ _ v u Q I rx ry ⟨i, j, rfl, rfl, q _ _ (Same.refl _) (.bl _)⟩
    | _ => cases e
  | str i =>
    cases b with
    | str j =>
      cases e
      rw [pa.str] at rx
      rw [pb.str] at ry
      exact op_gt_str pins s σ H _ _ v u Q I rx ry ⟨i, j, rfl, rfl, q _ _ (Same.refl _) (.bl _)⟩
    | _ => cases e
  | _ => cases b <;> cases e
theorem od_le : OpR X (compareOp .LtE) (rD2 X.K gLe) := by
  intro pins s σ H x y v u Q I rx ry ⟨A, a, b, d, t, pa, pb, e, q⟩
  cases a with
  | int i =>
    cases b with
    | int j =>
      cases e
      rw [pa.int] at rx
      rw [pb.int] at ry
      exact op_le pins s σ H _ _ v u Q I rx ry ⟨i, j, rfl, rfl, q _ _ (Same.refl _) (.bl _)⟩
    | _ => cases e
  | str i =>
    cases b with
    | str j =>
      cases e
      rw [pa.str] at rx
      rw [pb.str] at ry
      exact op_le_str pins s σ H _ _ v u Q I rx ry ⟨i, j, rfl, rfl, q _ _ (Same.refl _) (.bl _)⟩
    | _ => cases e
  | _ => cases b <;> cases e
theorem od_ge : OpR X (compareOp .GtE) (rD2 X.K gGe) := by
  intro pins s σ H x y v u Q I rx ry ⟨A, a, b, d, t, pa, pb, e, q⟩
  cases a with
  | int i =>
    cases b with
    | int j =>
      cases e
      rw [pa.int] at rx
      rw [pb.int] at ry
      exact op_ge pins s σ H _ _ v u Q I rx ry ⟨i, j, rfl, rfl, q _ _ (Same.refl _) (.bl _)⟩
    | _ => cases e
  | str i =>
    cases b with
    | str j =>
      cases e
      rw [pa.str] at rx
      rw [pb.str] at ry
      exact op_ge_str pins s σ H _ _ v u Q I rx ry ⟨i, j, rfl, rfl, q _ _ (Same.refl _) (.bl _)⟩
    | _ => cases e
  | _ => cases b <;> cases e
mutual
theorem Rp.dp {K : PySem.W.Frag} {A : Addr → Prop} {H : Hp} : ∀ {v : V} {d : D} {x : PyData}, Rp K A H v d → d.py = some x → Dp K H v x
  | _, _, _, .non, e => by cases e; exact .non
  | _, _, _, .bl b, e => by cases e; exact .bl b
  | _, _, _, .int i, e => by cases e; exact .int i
  | _, _, _, .str i, e => by cases e; exact .str i
  | _, .tup ds, _, .tup h q, e => by
    unfold D.py at e
    cases hp : pyAll ds with
    | none => rw [hp] at e; cases e
    | some ys => rw [hp] at e; cases e; exact .tup h.sq (RpA.dp q hp)
  | _, .lst ds, _, .lst h n q, e => by
    unfold D.py at e
    cases hp : pyAll ds with
    | none => rw [hp] at e; cases e
    | some ys => rw [hp] at e; cases e; exact .lst (SqL.of h) (RpA.dp q hp)
  | _, _, _, .scr _ _, e => by unfold D.py at e; cases e
  | _, _, _, .fn _, e => by unfold D.py at e; cases e
  | _, _, _, .obj _ _ _, e => by unfold D.py at e; cases e
  | _, _, _, .exn _ _ _ _, e => by unfold D.py at e; cases e
  | _, _, _, .dK _ _ _ _, e => by unfold D.py at e; cases e
  | _, _, _, .dT _ _ _ _, e => by unfold D.py at e; cases e
theorem RpA.dp {K : PySem.W.Frag} {A : Addr → Prop} {H : Hp} : ∀ {v : List V} {d : List D} {x : List PyData}, RpA K A H v d → pyAll d = some x → DpAll K H v x
  | _, _, _, .nil, e => by cases e; exact .nil
  | _, d :: ds, _, .cons h q, e => by
    unfold pyAll at e
    cases h1 : d.py with
    | none => rw [h1] at e; cases e
    | some y =>
      rw [h1] at e
      cases h2 : pyAll ds with
      | none => rw [h2] at e; cases e
      | some ys => rw [h2] at e; cases e; exact .cons (Rp.dp h h1) (RpA.dp q h2)
end
theorem RpB.dp {K : PySem.W.Frag} {A : Addr → Prop} {H : Hp} {v : V} {d : D} {x : PyData} (h : RpB K A H v d) (e : d.py = some x) : Dp K H v x := by
  cases h with
  | of h => exact h.dp e
  | @own p ws cs h q =>
    unfold D.py at e
    cases hp : pyAll cs with
    | none => rw [hp] at e; cases e
    | some ys => rw [hp] at e; cases e; exact .lst (SqL.of h) (RpA.dp q hp)
  | ownK _ _ _ => unfold D.py at e; cases e
  | ownT _ _ _ => unfold D.py at e; cases e
theorem eqD_some {a b : D} {k : Bool} (e : eqD a b = some k) : (∃ i j, a = .int i ∧ b = .int j ∧ k = decide (i = j)) ∨ (∃ i j, a = .str i ∧ b = .str j ∧ k = decide (i = j)) ∨ (∃ i j, a = .bl i ∧ b = .bl j ∧ k = decide (i = j)) ∨ (a = .non ∧ b = .non ∧ k = true) ∨
    ∃ x y, a.py = some x ∧ b.py = some y ∧ SeqAt.shaped x = true ∧ SeqAt.shaped y = true ∧ k = PyData.eqv x y := by
  unfold eqD at e
  split at e
  · cases e; exact .inl ⟨_, _, rfl, rfl, rfl⟩
  · cases e; exact .inr (.inl ⟨_, _, rfl, rfl, rfl⟩)
  · cases e; exact .inr (.inr (.inl ⟨_, _, rfl, rfl, rfl⟩))
  · cases e; exact .inr (.inr (.inr (.inl ⟨rfl, rfl, rfl⟩)))
  · split at e
    · rename_i x y hx hy
      split at e
      · rename_i hs
        cases e
        exact .inr (.inr (.inr (.inr ⟨x, y, hx, hy, hs.1, hs.2, rfl⟩)))
      · cases e
    · cases e
theorem map_some {α β : Type} {o : Option α} {f : α → β} {z : β} (e : o.map f = some z) : ∃ k, o = some k ∧ z = f k := by
  cases o with
  | none => cases e
  | some k => cases e; exact ⟨k, rfl, rfl⟩
theorem decI {i j : Int} : decide (V.int i = V.int j) = decide (i = j) := by rw [decide_eq_decide]; simp
theorem decS {i j : Str} : decide (V.str i = V.str j) = decide (i = j) := by rw [decide_eq_decide]; simp
theorem decB {i j : Bool} : decide (V.bl i = V.bl j) = decide (i = j) := by rw [decide_eq_decide]; simp
theorem od_eq (hu : X.A.units + 64 < cLine) : OpR X (compareOp .Eq) (rD2 X.K gEq) := by
  intro pins s σ H x y v u Q I rx ry ⟨A, a, b, d, t, pa, pb, e, q⟩
  obtain ⟨k, e2, rfl⟩ := map_some e
  rcases eqD_some e2 with ⟨i, j, rfl, rfl, rfl⟩ | ⟨i, j, rfl, rfl, rfl⟩ | ⟨i, j, rfl, rfl, rfl⟩ | ⟨rfl, rfl, rfl⟩ | ⟨x', y', hx, hy, sx, sy, rfl⟩
  · rw [pa.int] at rx; rw [pb.int] at ry
    exact op_eq pins s σ H _ _ v u Q I rx ry ⟨rfl, by rw [decI]; exact q _ _ (Same.refl _) (.bl _)⟩
  · rw [pa.str] at rx; rw [pb.str] at ry
    exact op_eq pins s σ H _ _ v u Q I rx ry ⟨rfl, by rw [decS]; exact q _ _ (Same.refl _) (.bl _)⟩
  · rw [pa.bl] at rx; rw [pb.bl] at ry
    exact op_eq pins s σ H _ _ v u Q I rx ry ⟨rfl, by rw [decB]; exact q _ _ (Same.refl _) (.bl _)⟩
  · rw [pa.non] at rx; rw [pb.non] at ry
    exact op_eq pins s σ H _ _ v u Q I rx ry ⟨rfl, q _ _ (Same.refl _) (.bl _)⟩
  · exact op_eqD hu pins s σ H _ _ v u Q I rx ry ⟨x', y', pa.dp hx, pb.dp hy, sx, sy, q _ _ (Same.refl _) (.bl _)⟩
theorem od_ne (hu : X.A.units + 64 < cLine) : OpR X (compareOp .NotEq) (rD2 X.K gNe) := by
  intro pins s σ H x y v u Q I rx ry ⟨A, a, b, d, t, pa, pb, e, q⟩
  obtain ⟨k, e2, rfl⟩ := map_some e
  rcases eqD_some e2 with ⟨i, j, rfl, rfl, rfl⟩ | ⟨i, j, rfl, rfl, rfl⟩ | ⟨i, j, rfl, rfl, rfl⟩ | ⟨rfl, rfl, rfl⟩ | ⟨x', y', hx, hy, sx, sy, rfl⟩
  · rw [pa.int] at rx; rw [pb.int] at ry
    exact op_ne pins s σ H _ _ v u Q I rx ry ⟨rfl, by rw [decI]; exact q _ _ (Same.refl _) (.bl _)⟩
  · rw [pa.str] at rx; rw [pb.str] at ry
    exact op_ne pins s σ H _ _ v u Q I rx ry ⟨rfl, by rw [decS]; exact q _ _ (Same.refl _) (.bl _)⟩
  · rw [pa.bl] at rx; rw [pb.bl] at ry
    exact op_ne pins s σ H _ _ v u Q I rx ry ⟨rfl, by rw [decB]; exact q _ _ (Same.refl _) (.bl _)⟩
  · rw [pa.non] at rx; rw [pb.non] at ry
    exact op_ne pins s σ H _ _ v u Q I rx ry ⟨rfl, q _ _ (Same.refl _) (.bl _)⟩
  · exact op_neD hu pins s σ H _ _ v u Q I rx ry ⟨x', y', pa.dp hx, pb.dp hy, sx, sy, q _ _ (Same.refl _) (.bl _)⟩
theorem isNon_dec {K : PySem.W.Frag} {A : Addr → Prop} {H : Hp} {x : V} {a : D} (h : RpB K A H x a) : decide (x = V.non) = isNon a := by
  cases h with
  | of h => cases h <;> simp [isNon]
  | own _ _ => simp [isNon]
  | ownK _ _ _ => simp [isNon]
  | ownT _ _ _ => simp [isNon]
theorem od_is : OpR X (compareOp .Is) (rD2 X.K gIs) := by
  intro pins s σ H x y v u Q I rx ry ⟨A, a, b, d, t, pa, pb, e, q⟩
  cases b with
  | non =>
    have e' : some (D.bl (isNon a)) = some d := by
      rw [← e]
      cases a <;> rfl
    cases e'
    rw [pb.non] at ry
    exact op_isN pins s σ H _ _ v u Q I rx ry ⟨rfl, by rw [isNon_dec pa]; exact q _ _ (Same.refl _) (.bl _)⟩
  | bl k =>
    cases a with
    | bl j =>
      cases e
      rw [pa.bl] at rx
      rw [pb.bl] at ry
      exact op_isBl pins s σ H _ _ v u Q I rx ry ⟨j, k, rfl, rfl, q _ _ (Same.refl _) (.bl _)⟩
    | _ => cases e
  | _ => cases a <;> cases e
theorem inD_some {a l : D} {k : Bool} (e : inD a l = some k) : (∃ x y, a = .str x ∧ l = .str y ∧ k = inStr x y) ∨
    ∃ ds x ys, (l = .lst ds ∨ l = .tup ds) ∧ a.py = some x ∧ pyAll ds = some ys ∧ SeqAt.shaped x = true ∧ SeqAt.shaped (.list ys) = true ∧ k = ys.any fun z => PyData.eqv z x := by
  unfold inD at e
  split at e
  · cases e; exact .inl ⟨_, _, rfl, rfl, rfl⟩
  · split at e
    · rename_i x y hx hy
      split at e
      · rename_i hs
        cases e
        exact .inr ⟨_, x, y, .inl rfl, hx, hy, hs.1, hs.2, rfl⟩
      · cases e
    · cases e
  · split at e
    · rename_i x y hx hy
      split at e
      · rename_i hs
        cases e
        exact .inr ⟨_, x, y, .inr rfl, hx, hy, hs.1, hs.2, rfl⟩
      · cases e
    · cases e
  · cases e
def rInT (K : PySem.W.Frag) : R2 := fun x y H Q => ∃ d ds, Dp K H x d ∧ Dp K H y (.tuple ds) ∧ SeqAt.shaped d = true ∧ SeqAt.shaped (.list ds) = true ∧ Q (.bl (ds.any fun z => PyData.eqv z d)) H
theorem op_inT (hu : X.A.units + 65 < cLine) : OpR X (compareOp .In) (rInT X.K) := by
  intro pins s σ H x y v u Q I rx ry h
  obtain ⟨d, ds, hd, he, sd, se, q⟩ := h
  obtain ⟨as, r1⟩ := Dp.reads I d x v hd rx
  obtain ⟨bs, r2⟩ := Dp.reads I (.tuple ds) y u he ry
  exact SeqAt.in_tuple_reads r2 r1 (SeqAt.canLay_of_shaped se) (SeqAt.canLay_of_shaped sd) (room_in_shaped sd hu) ⟨.bl _, H, I, rfl, q⟩
theorem od_in (hu : X.A.units + 65 < cLine) : OpR X (compareOp .In) (rD2 X.K gIn) := by
  intro pins s σ H x y v u Q I rx ry ⟨A, a, b, d, t, pa, pb, e, q⟩
  obtain ⟨k, e2, rfl⟩ := map_some e
  rcases inD_some e2 with ⟨i, j, rfl, rfl, rfl⟩ | ⟨ds, x', ys, hl, hx, hy, sx, sy, rfl⟩
  · rw [pa.str] at rx; rw [pb.str] at ry
    exact op_in_str pins s σ H _ _ v u Q I rx ry ⟨i, j, rfl, rfl, q _ _ (Same.refl _) (.bl _)⟩
  · rcases hl with rfl | rfl
    · exact op_inD hu pins s σ H _ _ v u Q I rx ry ⟨x', ys, pa.dp hx, pb.dp (by unfold D.py; rw [hy]; rfl), sx, sy, q _ _ (Same.refl _) (.bl _)⟩
    · exact op_inT hu pins s σ H _ _ v u Q I rx ry ⟨x', ys, pa.dp hx, pb.dp (by unfold D.py; rw [hy]; rfl), sx, sy, q _ _ (Same.refl _) (.bl _)⟩
end
end DL
namespace DL
open L2 PySem PySem.Spec PyProof.Rows
section
variable {X : Cx} {G : Gd} {O : List Nat} {W : WX} {a b c e : Expr} {es : List Expr} {ma mb mc : ME} {pos : Pos}
theorem de_var (i : Nat) {x : Str} {pos : Pos} (hO : O.contains i = false) (hN : X.N[i]? = some x) (hv : Vis X.env.scope x) (hd : (x == ("__debug__" : Str)) = false := by decide)
    (hcd : (x == ("__classdict__" : Str)) = false := by decide) : DE X G O W (.Name x pos) (mVar i) := by
  refine pe_imp (pe_var hN hv hd hcd) fun σ H Q ⟨A, ms, ρ, R, q⟩ => ?_
  unfold mVar at q
  split at q
  · rename_i d h
    obtain ⟨v, h1, h2⟩ := R.fz i d h fun z => by rw [List.contains_iff_mem.mpr z] at hO; cases hO
    exact ⟨v, h1, q v H R Kp.refl h2⟩
  · exact q.elim
theorem de_c {e : Expr} {v : V} {d : D} (h : PE X e (tC v)) (r : ∀ A H, Rp X.K A H v d) : DE X G O W e (mK d) :=
  pe_imp h fun σ H Q ⟨A, ms, ρ, R, q⟩ => q v H R Kp.refl (r A H)
theorem de_int {i j pos} : DE X G O W (.Constant (.int i) j pos) (mK (.int i)) := de_c pe_int fun _ _ => .int i
theorem de_bl {b j pos} : DE X G O W (.Constant (.bool b) j pos) (mK (.bl b)) := de_c pe_bl fun _ _ => .bl b
theorem de_non {j pos} : DE X G O W (.Constant .none j pos) (mK .non) := de_c pe_non fun _ _ => .non
theorem de_str {x j pos} : DE X G O W (.Constant (.str x) j pos) (mK (.str x)) := de_c pe_str fun _ _ => .str x
theorem rp_of {α : Type} {g : Option α} {ρ : En} {K : PySem.W.Frag} {A : Addr → Prop} {ms : Nat → Option Addr} {σ : L2.St} {H : Hp} {β : Type} {rel : Hp → β → α → Prop} {Q : β → Hp → Prop} (R : RelS K G O A ms σ H ρ)
    (h : RPost K G O W A ms σ H rel Q (ret g ρ)) : ∃ d, g = some d ∧ ∀ v H', Same H H' → rel H' v d → Q v H' := by
  cases g with
  | none => exact h.elim
  | some d => exact ⟨d, rfl, fun v H' s r => h v H' (R.same s) (Kp.same s) r⟩
theorem op2_go {r : R2} {g : D → D → Option D} {K : PySem.W.Frag} (hr : ∀ x y H Q, rD2 K g x y H Q → r x y H Q) {σ : L2.St} {H : Hp} {Q : VK} (h : tE K G O W (m2 g ma mb) σ H Q) : tOp r (tE K G O W ma) (tE K G O W mb) σ H Q := by
  obtain ⟨A, ms, ρ, R, q⟩ := h
  refine ⟨A, ms, ρ, R, q.bind.mono ?_⟩
  rintro x H1 ⟨d, ρ1, R1, k1, r1, q1⟩
  refine ⟨A, ms, ρ1, R1, q1.bind.mono ?_⟩
  rintro y H2 ⟨d2, ρ2, R2', k2, r2, q2⟩
  obtain ⟨z, hz, q3⟩ := rp_of R2' q2
  exact hr _ _ _ _ ⟨A, d, d2, z, R2'.trk, .of (r1.tr (R1.kt k2)), .of r2, hz, q3⟩
theorem de_bin {op : Operator} {g : D → D → Option D} (ho : OpR X (binaryOp op) (rD2 X.K g)) (ha : DE X G O W a ma) (hb : DE X G O W b mb) : DE X G O W (.BinOp a op b pos) (m2 g ma mb) :=
  pe_imp (pe_op ho ha hb) fun _ _ _ h => op2_go (fun _ _ _ _ z => z) h
theorem de_cmp {op : CmpOp} {g : D → D → Option D} (ho : OpR X (compareOp op) (rD2 X.K g)) (ha : DE X G O W a ma) (hb : DE X G O W b mb) (hm : behindInMarks op b = false) : DE X G O W (.Compare a [op] [b] pos) (m2 g ma mb) :=
  pe_imp (pe_cmpR ho ha hb hm) fun _ _ _ h => op2_go (fun _ _ _ _ z => z) h
theorem de_ix {g : D → D → Option D} (hr : IxR X (rD2 X.K g)) (ha : DE X G O W a ma) (hb : DE X G O W b mb) (hs : PlainIx b) : DE X G O W (.Subscript a b pos) (m2 g ma mb) :=
  pe_imp (pe_ix hr ha hb hs) fun _ _ _ h => op2_go (fun _ _ _ _ z => z) h
theorem tru_ok' {K : PySem.W.Frag} {A : Addr → Prop} {H : Hp} {x : V} {d : D} {k : Bool} (h : Rp K A H x d) (e : tru d = some k) : TruV K x H k := by
  cases h with
  | non => cases e; rfl
  | bl b => cases e; rfl
  | int i => cases e; rfl
  | str y =>
    have e' : (if y.length ≤ sizeLine then some ((y.length : Int) != 0) else none) = some k := e
    split at e'
    · rename_i hz
      cases e'
      exact ⟨hz, rfl⟩
    · cases e'
  | tup h q =>
    cases e
    refine .inr (.inl ⟨_, h.sq, ?_⟩)
    have := q.nil_iff
    cases q <;> rfl
  | lst h n q =>
    cases e
    refine .inl ⟨_, SqL.of h, ?_⟩
    cases q <;> rfl
  | scr h q =>
    cases e
    refine .inl ⟨_, h.sq, ?_⟩
    cases q <;> rfl
  | fn _ => cases e
  | obj _ _ _ => cases e
  | exn _ _ _ _ => cases e
  | dK _ _ _ _ => cases e
  | dT _ _ _ _ => cases e
theorem dt_tru (ha : DE X G O W a ma) (he : ∀ whole, isTrue a X.env whole = (do let v ← whole; standAt a.pos; holding [v] (truthy v)) := by intro _; rfl) : DT X G O W a (mTru ma) := by
  refine pt_imp (pt_truth ha he) fun σ H Q ⟨A, ms, ρ, R, q⟩ => ?_
  refine ⟨A, ms, ρ, R, q.bind.mono ?_⟩
  rintro x H1 ⟨d, ρ1, R1, k1, r1, q1⟩
  obtain ⟨z, hz, q2⟩ := rp_of R1 q1
  exact ⟨z, tru_ok' r1 hz, q2 z H1 (Same.refl _) rfl⟩
def asB : D → Option Bool
  | .bl b => some b
  | _ => none
def mTest (m : ME) : MT := fun ρ => (m ρ).bind fun x ρ1 => ret (asB x) ρ1
theorem test_go {t : TE} {m : ME} {K : PySem.W.Frag} (ht : ∀ σ H Q, tE K G O W m σ H Q → t σ H Q) {σ : L2.St} {H : Hp} {Q : Bool → Hp → Prop} (h : tT K G O W (mTest m) σ H Q) : tTest t σ H Q := by
  obtain ⟨A, ms, ρ, R, q⟩ := h
  refine ht _ _ _ ⟨A, ms, ρ, R, q.bind.mono ?_⟩
  rintro x H1 ⟨d, ρ1, R1, k1, r1, q1⟩
  obtain ⟨z, hz, q2⟩ := rp_of R1 q1
  cases d with
  | bl k =>
    cases hz
    cases r1
    exact ⟨_, rfl, q2 _ H1 (Same.refl _) rfl⟩
  | _ => cases hz
theorem dt_cmp {op : CmpOp} {g : D → D → Option D} (ho : OpR X (compareOp op) (rD2 X.K g)) (ha : DE X G O W a ma) (hb : DE X G O W b mb) (hm : behindInMarks op b = false) : DT X G O W (.Compare a [op] [b] pos) (mTest (m2 g ma mb)) :=
  pt_imp (pt_cmpR ho ha hb hm) fun _ _ _ h => test_go (fun _ _ _ z => op2_go (fun _ _ _ _ z => z) z) h
theorem chain_go {g g' : D → D → Option D} {K : PySem.W.Frag} {σ : L2.St} {H : Hp} {Q : VK} (h : tE K G O W (mChain g g' ma mb mc) σ H Q) : tChain (rD2 K g) (rD2 K g') (tE K G O W ma) (tE K G O W mb) (tE K G O W mc) σ H Q := by
  obtain ⟨A, ms, ρ, R, q⟩ := h
  refine ⟨A, ms, ρ, R, q.bind.mono ?_⟩
  rintro x H1 ⟨d, ρ1, R1, k1, r1, q1⟩
  refine ⟨A, ms, ρ1, R1, q1.bind.mono ?_⟩
  rintro y H2 ⟨d2, ρ2, R2', k2, r2, q2⟩
  obtain ⟨z, hz, q3⟩ := rp_of (rel := Rp K A) R2' q2.bind
  refine ⟨A, d, d2, z, R2'.trk, .of (r1.tr (R1.kt k2)), .of r2, hz, fun v H3 s r => ?_⟩
  obtain ⟨d3, ρ3, R3, k3, r3, q4⟩ := q3 v H3 s r
  cases d3 with
  | bl k =>
    cases r3
    refine ⟨_, rfl, ?_⟩
    cases k with
    | true =>
      rw [if_pos rfl]
      refine ⟨A, ms, ρ3, R3, RPost.mono (RPost.bind q4) ?_⟩
      rintro w H4 ⟨d4, ρ4, R4, k4, r4, q5⟩
      obtain ⟨z2, hz2, q6⟩ := rp_of R4 q5
      exact ⟨A, d2, d4, z2, R4.trk, .of ((r2.tr (R2'.kt k3)).tr (R3.kt k4)), .of r4, hz2, q6⟩
    | false =>
      rw [if_neg Bool.false_ne_true]
      exact q4 _ H3 R3 Kp.refl (.bl false)
  | _ => exact q4.elim
theorem dt_chain {op op' : CmpOp} {g g' : D → D → Option D} (ho : OpR X (compareOp op) (rD2 X.K g)) (ho' : OpR X (compareOp op') (rD2 X.K g')) (ha : DE X G O W a ma) (hb : DE X G O W b mb) (hc : DE X G O W c mc)
    (hm : lastMarks [op, op'] [b, c] = false := by with_unfolding_all rfl) : DT X G O W (.Compare a [op, op'] [b, c] pos) (mTest (mChain g g' ma mb mc)) :=
  pt_imp (pt_chain ho ho' ha hb hc hm) fun _ _ _ h => test_go (fun _ _ _ z => chain_go z) h
def DW (X : Cx) (G : Gd) (O : List Nat) (W : WX) (e : Expr) (m : MT) : Prop := PW X e (tT X.K G O W m)
variable {ta tb tc : MT} {rest : List Expr}
theorem DW.t (h : DW X G O W e ta) : DT X G O W e ta := PW.pt h
theorem dw_and1 (ha : DT X G O W a ta) : DW X G O W (.BoolOp .And [a] pos) ta := pw_and1 ha
theorem dw_or1 (ha : DT X G O W a ta) : DW X G O W (.BoolOp .Or [a] pos) ta := pw_or1 ha
theorem dw_and (ha : DT X G O W a ta) (hb : DW X G O W (.BoolOp .And (b :: rest) pos) tb) : DW X G O W (.BoolOp .And (a :: b :: rest) pos) (mAndT ta tb) := by
  refine pw_imp (pw_and ha hb) fun σ H Q ⟨A, ms, ρ, R, q⟩ => ?_
  refine ⟨A, ms, ρ, R, q.bind.mono ?_⟩
  rintro k H1 ⟨d, ρ1, R1, k1, rfl, q1⟩
  cases k with
  | true => exact ⟨A, ms, ρ1, R1, q1⟩
  | false => exact q1 _ H1 R1 Kp.refl rfl
theorem dw_or (ha : DT X G O W a ta) (hb : DW X G O W (.BoolOp .Or (b :: rest) pos) tb) : DW X G O W (.BoolOp .Or (a :: b :: rest) pos) (mOrT ta tb) := by
  refine pw_imp (pw_or ha hb) fun σ H Q ⟨A, ms, ρ, R, q⟩ => ?_
  refine ⟨A, ms, ρ, R, q.bind.mono ?_⟩
  rintro k H1 ⟨d, ρ1, R1, k1, rfl, q1⟩
  cases k with
  | true => exact q1 _ H1 R1 Kp.refl rfl
  | false => exact ⟨A, ms, ρ1, R1, q1⟩
theorem dt_not (ha : DT X G O W a ta) : DT X G O W (.UnaryOp .Not a pos) (mNotT ta) := by
  refine pt_imp (pt_not ha) fun σ H Q ⟨A, ms, ρ, R, q⟩ => ?_
  refine ⟨A, ms, ρ, R, q.bind.mono ?_⟩
  rintro k H1 ⟨d, ρ1, R1, k1, rfl, q1⟩
  exact q1 _ H1 R1 Kp.refl rfl
theorem de_if (hc : DT X G O W c tc) (ha : DE X G O W a ma) (hb : DE X G O W b mb) : DE X G O W (.IfExp c a b pos) (mIf tc ma mb) := by
  refine pe_imp (pe_ifExp hc ha hb) fun σ H Q ⟨A, ms, ρ, R, q⟩ => ?_
  refine ⟨A, ms, ρ, R, q.bind.mono ?_⟩
  rintro k H1 ⟨d, ρ1, R1, k1, rfl, q1⟩
  cases k with
  | true => exact ⟨A, ms, ρ1, R1, q1⟩
  | false => exact ⟨A, ms, ρ1, R1, q1⟩
theorem de_one {op} (ha : DE X G O W a ma) : DE X G O W (.BoolOp op [a] pos) ma := pe_one ha
theorem de_and (ha : DE X G O W a ma) (hb : DE X G O W (.BoolOp .And (b :: rest) pos) mb) : DE X G O W (.BoolOp .And (a :: b :: rest) pos) (mAnd ma mb) := by
  refine pe_imp (pe_andT ha hb) fun σ H Q ⟨A, ms, ρ, R, q⟩ => ?_
  refine ⟨A, ms, ρ, R, q.bind.mono ?_⟩
  rintro x H1 ⟨d, ρ1, R1, k1, r1, q1⟩
  obtain ⟨k, hk, q2⟩ := rp_of (rel := fun _ => @Eq Bool) R1 q1.bind
  obtain ⟨_, ρ2, R2', k2, rfl, q3⟩ := q2 k H1 (Same.refl _) rfl
  refine ⟨k, tru_ok' r1 hk, ?_⟩
  cases k with
  | true => exact ⟨A, ms, ρ2, R2', q3⟩
  | false => exact q3 _ H1 R2' Kp.refl r1
variable {mr : MA}
theorem da_nil : DA X G O W [] mNil := pa_imp pa_nil fun σ H Q ⟨A, ms, ρ, R, q⟩ => q [] H R Kp.refl .nil
theorem da_cons (ha : DE X G O W e ma) (hr : DA X G O W es mr) (hs : starEach (e :: es) X.env = (false, eval e X.env) :: starEach es X.env := by rfl) : DA X G O W (e :: es) (mCons ma mr) := by
  refine pa_imp (pa_cons ha hr hs) fun σ H Q ⟨A, ms, ρ, R, q⟩ => ?_
  refine ⟨A, ms, ρ, R, q.bind.mono ?_⟩
  rintro x H1 ⟨d, ρ1, R1, k1, r1, q1⟩
  refine ⟨A, ms, ρ1, R1, RPost.mono (RPost.bind q1) ?_⟩
  rintro xs H2 ⟨ds, ρ2, R2', k2, r2, q2⟩
  exact q2 _ H2 R2' Kp.refl (.cons (r1.tr (R1.kt k2)) r2)
theorem de_tup {x1} (h : DA X G O W es mr) : DE X G O W (.Tuple es x1 pos) (mN gTup mr) := by
  refine pe_imp (pe_tup h) fun σ H Q ⟨A, ms, ρ, R, q⟩ => ?_
  refine ⟨A, ms, ρ, R, q.bind.mono ?_⟩
  rintro xs H1 ⟨ds, ρ1, R1, k1, r1, q1⟩
  obtain ⟨z, hz, q2⟩ := rp_of R1 q1
  obtain ⟨hl, rfl⟩ := ite_d (x := .tup ds) hz
  exact ⟨by rw [r1.length]; exact hl, fun p hp => q2 _ _ (same_upd hp) (new_tup R1.trk r1 hp)⟩
def FPost (K : PySem.W.Frag) (G : Gd) (O : List Nat) (W : WX) (A : Addr → Prop) (ms : Nat → Option Addr) (σ : L2.St) (H : Hp) (Q : VK) : R D → Prop
  | .ok d ρ' => ∀ p H', RelS K G O A ms σ H' ρ' → RelS K G O (fun a => A a ∨ a = p) ms σ H' ρ' → Kp O ms H H' → H p = none → Own K (fun a => A a ∨ a = p) H' p d → Q (.ref p) H'
  | .ex x ρ' => ∀ dx H', RelS K G O A ms σ H' ρ' → Kp O ms H H' → XRel K A H' x dx → W (.ref (He.ga K x.c)) dx σ H'
  | .bad => False
def tF (K : PySem.W.Frag) (G : Gd) (O : List Nat) (W : WX) (m : ME) : TE := fun σ H Q => ∃ A ms ρ, RelS K G O A ms σ H ρ ∧ FPost K G O W A ms σ H Q (m ρ)
def DF (X : Cx) (G : Gd) (O : List Nat) (W : WX) (e : Expr) (m : ME) : Prop := PE X e (tF X.K G O W m)
theorem RelS.less {K : PySem.W.Frag} {A A' : Addr → Prop} {ms : Nat → Option Addr} {σ : L2.St} {H : Hp} {ρ : En} (R : RelS K G O A ms σ H ρ) (hs : ∀ a, A' a → A a) (h0 : ∀ a, G.A0 a → A' a) (ho : ∀ i p, i ∈ O → ms i = some p → A' p) : RelS K G O A' ms σ H ρ where
  sub := h0
  trk0 := R.trk0
  trk := fun a q => R.trk a (hs a q)
  keep := R.keep
  len := R.len
  fz := fun i d e n => let ⟨v, e1, q⟩ := R.fz i d e n; ⟨v, e1, q.tr fun a o z n => ⟨z, fun k => n (hs a k)⟩⟩
  ow := fun i d e n => let ⟨p, e0, e1, q⟩ := R.ow i d e n; ⟨p, e0, e1, q.tr (fun a o z n => ⟨z, fun k => n (hs a k)⟩) fun o z => z⟩
  inA := ho
  ok := R.ok
  dist := R.dist
  px := R.px
  io := R.io
theorem RelS.grow {K : PySem.W.Frag} {A : Addr → Prop} {ms : Nat → Option Addr} {σ : L2.St} {H H' : Hp} {ρ : En} {p : Addr} {o : HO} (R : RelS K G O A ms σ H ρ) (hp : H p = none) (s : Same H H') (hp' : H' p = some o) : RelS K G O (fun a => A a ∨ a = p) ms σ H' ρ := by
  have t : Tr A (fun a => A a ∨ a = p) H H' := fun a u e n => ⟨s _ _ e, fun z => z.elim n fun z => by rw [z, hp] at e; cases e⟩
  have R' := R.same s
  exact {
    sub := fun a q => .inl (R.sub a q)
    trk0 := R.trk0
    trk := fun a q => q.elim (R'.trk a) fun z => ⟨o, z ▸ hp'⟩
    keep := R'.keep
    len := R.len
    fz := fun i d e n => let ⟨v, e1, q⟩ := R.fz i d e n; ⟨v, e1, q.tr t⟩
    ow := fun i d e n => let ⟨q, e0, e1, w⟩ := R.ow i d e n; ⟨q, e0, e1, w.tr t fun o z => s _ _ z⟩
    inA := fun i q m e => .inl (R.inA i q m e)
    ok := R.ok
    dist := R.dist
    px := R.px
    io := R.io }
theorem RelS.msne {K : PySem.W.Frag} {A : Addr → Prop} {ms : Nat → Option Addr} {σ : L2.St} {H : Hp} {ρ : En} {p : Addr} (R : RelS K G O A ms σ H ρ) (hp : H p = none) : ∀ i ∈ O, ms i ≠ some p := fun i m z => by
  obtain ⟨o, e⟩ := R.trk p (R.inA i p m z)
  rw [hp] at e
  cases e
theorem Kp.none {K : PySem.W.Frag} {A : Addr → Prop} {ms : Nat → Option Addr} {σ : L2.St} {H H1 : Hp} {ρ : En} {p : Addr} (R : RelS K G O A ms σ H1 ρ) (k : Kp O ms H H1) (hp : H1 p = none) : H p = none := by
  cases e : H p with
  | none => rfl
  | some o =>
    have := k p o e (R.msne hp)
    rw [hp] at this
    cases this
theorem new_own {K : PySem.W.Frag} {A : Addr → Prop} {H : Hp} {p : Addr} {xs : List V} {ds : List D} (t : Trk A H) (h : RpA K A H xs ds) (hp : H p = none) : Own K (fun a => A a ∨ a = p) (upd H p (.lst xs)) p (.lst ds) :=
  .lst upd_same (h.tr fun a u e n => ⟨same_upd hp _ _ e, fun z => z.elim n fun z => by rw [z, hp] at e; cases e⟩)
theorem DF.toE {e : Expr} {m : ME} (h : DF X G O W e m) : DE X G O W e m := by
  refine pe_imp h fun σ H Q ⟨A, ms, ρ, R, q⟩ => ⟨A, ms, ρ, R, ?_⟩
  cases hm : m ρ with
  | bad => rw [hm] at q; exact q.elim
  | ex x ρ1 => rw [hm] at q; exact q
  | ok d ρ1 =>
    rw [hm] at q
    intro p H' R' _ k hp ow
    have np : ¬ A p := Trk.no (fun a z => R.trk a z) hp
    exact q (.ref p) H' R' k (ow.freeze (fun a z => .inl z) np)
theorem df_lst {es : List Expr} {mr : MA} (h : DA X G O W es mr) : DF X G O W (.List es pos) (mN gLst mr) := by
  refine pe_imp (pe_lst h) fun σ H Q ⟨A, ms, ρ, R, q⟩ => ⟨A, ms, ρ, R, ?_⟩
  unfold mN at q
  cases hm : mr ρ with
  | bad => rw [hm] at q; exact q.elim
  | ex x ρ1 => rw [hm] at q; exact q
  | ok ds ρ1 =>
    rw [hm] at q
    intro xs H1 R1 k1 r1
    have q' : FPost X.K G O W A ms σ H Q (ret (gLst ds) ρ1) := q
    unfold gLst at q'
    split at q'
    · rename_i hz
      refine ⟨by rw [r1.length]; exact hz, fun p hp => ?_⟩
      refine q' p _ (R1.same (same_upd hp)) (R1.grow hp (same_upd hp) upd_same) (k1.trans (Kp.same (same_upd hp))) ?_ (new_own R1.trk r1 hp)
      exact Kp.none R1 k1 hp
    · exact q'.elim
end
end DL
namespace DL
open L2 PySem PySem.Spec PyProof.Rows
inductive Out where
  | nx (r : En) | rt (d : D) (r : En) | bk (r : En) | ct (r : En) | ex (x : Xn) (r : En) | bad
abbrev MS := En → Out
inductive Ret where
  | rt (d o : D) | ex (x : Xn) (o : D) | bad
abbrev FN := List D → Ret
def RetR (K : PySem.W.Frag) (A : Addr → Prop) (fr : Bool) (H H' : Hp) (q : Option Addr) (v : V) (d o : D) : Prop :=
  if fr = true then ∃ r, v = .ref r ∧ H r = none ∧ Own K (fun a => A a ∨ a = r) H' r d ∧ ∀ p, q = some p → Own K (fun a => A a ∨ a = r) H' p o
  else Rp K A H' v d ∧ ∀ p, q = some p → Own K A H' p o
def KI (q : Option Addr) (H H' : Hp) : Prop := ∀ a o, H a = some o → q ≠ some a → H' a = some o
def ArgR (K : PySem.W.Frag) (A : Addr → Prop) (H : Hp) (q : Option Addr) (vs : List V) (ds : List D) : Prop :=
  match q with
  | none => RpA K A H vs ds
  | some p => ∃ vs' d ds', vs = .ref p :: vs' ∧ ds = d :: ds' ∧ A p ∧ Own K A H p d ∧ RpA K A H vs' ds'
def spD (K : PySem.W.Frag) (io fr : Bool) (F : FN) : Sp := fun vs H Q E => ∃ (A : Addr → Prop) (q : Option Addr) (ds : List D), Trk A H ∧ q.isSome = io ∧ ArgR K A H q vs ds ∧
  match F ds with
  | .rt d o => ∀ v H', KI q H H' → RetR K A fr H H' q v d o → Q v H'
  | .ex x o => ∀ dx H', KI q H H' → (∀ p, q = some p → Own K A H' p o) → XRel K A H' x dx → E (.ref (He.ga K x.c)) dx H'
  | .bad => False
structure FnG (P : Program) (w : World) (K : PySem.W.Frag) (mg : Str → Option Value) (base : Heap) (k : Nat) (f : Addr) (io fr : Bool) (F : FN) : Prop where
  run : ∀ (A : Around) (outer : List Env) (s : Shared) (H : Hp) (us : List Value) (vs : List V) (Q : VK) (E : XK), Room k A → A.guards = some [] → Env0 P w K mg base A outer s H → Vals vs us →
    spD K io fr F vs H Q E → codeAny (model P w) A (.call (.ref f) ⟨us, []⟩) (CR (L2N.CX P w) outer P w H s Q E) s
  kp : PySem.W.keepIn K (.ref f) = true
theorem FnG.mono {P : Program} {w : World} {K : PySem.W.Frag} {mg : Str → Option Value} {base : Heap} {j k : Nat} {f : Addr} {io fr : Bool} {F : FN} (h : FnG P w K mg base j f io fr F) (l : j ≤ k) : FnG P w K mg base k f io fr F :=
  ⟨fun A outer s H us vs Q E hr => h.run A outer s H us vs Q E (hr.mono l), h.kp⟩
section
variable (K : PySem.W.Frag) (G : Gd)
def RetG (fr : Bool) (v : V) (H' : Hp) (d o : D) : Prop := KI G.io G.H0 H' ∧ RetR K G.A0 fr G.H0 H' G.io v d o
def io0 (ρ : En) : D := match ρ[0]? with
  | some (some d) => d
  | _ => .non
variable (XC : List Nat → Prop) (Ol O O' : List Nat) (W : WX) (fr : Bool) (A : Addr → Prop) (H : Hp)
def SPost (D0 : Ends) : Out → Prop
  | .nx ρ' => ∀ σ' H' A' ms', RelS K G O' A' ms' σ' H' ρ' → Tr A A' H H' → D0.nx σ' H'
  | .rt d ρ' => ∀ v H', RetG K G fr v H' d (io0 ρ') → D0.rt v H'
  | .bk ρ' => ∀ σ' H' A' ms', RelS K G Ol A' ms' σ' H' ρ' → Tr A A' H H' → D0.bk σ' H'
  | .ct ρ' => ∀ σ' H' A' ms', RelS K G Ol A' ms' σ' H' ρ' → Tr A A' H H' → D0.ct σ' H'
  | .ex x ρ' => ∀ dx σ' H' A' ms' O'', XC O'' → RelS K G O'' A' ms' σ' H' ρ' → Tr A A' H H' → XRel K A' H' x dx → W (.ref (He.ga K x.c)) dx σ' H'
  | .bad => False
def tS (m : MS) : TS := fun D0 σ H => ∃ A ms ρ, RelS K G O A ms σ H ρ ∧ SPost K G XC Ol O' W fr A H D0 (m ρ)
end
def DS (X : Cx) (G : Gd) (XC : List Nat → Prop) (Ol O O' : List Nat) (W : WX) (fr : Bool) (st : Stmt) (m : MS) : Prop := PS X st (tS X.K G XC Ol O O' W fr m)
def DSs (X : Cx) (G : Gd) (XC : List Nat → Prop) (Ol O O' : List Nat) (W : WX) (fr : Bool) (sts : List Stmt) (m : MS) : Prop := PSs X sts (tS X.K G XC Ol O O' W fr m)
theorem Tr.trans {A A1 A2 : Addr → Prop} {H H1 H2 : Hp} (a : Tr A A1 H H1) (b : Tr A1 A2 H1 H2) : Tr A A2 H H2 := fun x o e n => let ⟨e1, n1⟩ := a x o e n; b x o e1 n1
theorem Tr.refl {A : Addr → Prop} {H : Hp} : Tr A A H H := fun _ _ e n => ⟨e, n⟩
theorem SPost.from {K : PySem.W.Frag} {G : Gd} {XC : List Nat → Prop} {Ol O' : List Nat} {W : WX} {fr : Bool} {A A1 : Addr → Prop} {H H1 : Hp} {D0 : Ends} {r : Out} (t : Tr A A1 H H1) (h : SPost K G XC Ol O' W fr A H D0 r) : SPost K G XC Ol O' W fr A1 H1 D0 r := by
  cases r with
  | nx ρ => exact fun σ' H' A' ms' R k => h σ' H' A' ms' R (t.trans k)
  | rt d ρ => exact h
  | bk ρ => exact fun σ' H' A' ms' R k => h σ' H' A' ms' R (t.trans k)
  | ct ρ => exact fun σ' H' A' ms' R k => h σ' H' A' ms' R (t.trans k)
  | ex x ρ => exact fun dx σ' H' A' ms' O'' c R k => h dx σ' H' A' ms' O'' c R (t.trans k)
  | bad => exact h
def pad (n : Nat) (ds : List D) : En := ds.map some ++ List.replicate (n - ds.length) none
def runM (n np : Nat) (dd : List D) (fr : Bool) (m : MS) : FN := fun ds => if (ds ++ dd).length = np then match m (pad n (ds ++ dd)) with
  | .nx ρ => if fr = true then .bad else .rt .non (io0 ρ)
  | .rt d ρ => .rt d (io0 ρ)
  | .ex x ρ => .ex x (io0 ρ)
  | _ => .bad
  else .bad
theorem pad_get {n : Nat} {ds : List D} {i : Nat} {d : D} (h : (pad n ds)[i]? = some (some d)) : ds[i]? = some d := by
  unfold pad at h
  by_cases hi : i < ds.length
  · rw [List.getElem?_append_left (by rw [List.length_map]; exact hi), List.getElem?_map] at h
    cases e : ds[i]? with
    | none => rw [e] at h; cases h
    | some x => rw [e] at h; cases h; rfl
  · rw [List.getElem?_append_right (by rw [List.length_map]; omega), List.getElem?_replicate] at h
    split at h
    · cases h
    · cases h
theorem start_get {N : List Str} {vs : List V} {i : Nat} {v : V} (h : vs[i]? = some v) : (L2.start N vs)[i]? = some (some v) := by
  unfold L2.start
  have hi := (List.getElem?_eq_some_iff.mp h).1
  rw [List.getElem?_append_left (by rw [List.length_map]; exact hi), List.getElem?_map, h]
  rfl
theorem start_rel {K : PySem.W.Frag} {A : Addr → Prop} {H : Hp} {q : Option Addr} {N : List Str} {vs : List V} {ds : List D} {O : List Nat} {np : Nat} (t : Trk A H) (h : ArgR K A H q vs ds) (hn : ds.length = np) (hN : np ≤ N.length)
    (hO : ∀ i, i < np → i ∈ O → i = 0 ∧ q.isSome = true) (hq : q.isSome = true → 0 ∈ O) : RelS K ⟨A, H, q, none⟩ O A (fun i => if i = 0 then q else none) (L2.start N vs) H (pad N.length ds) := by
  have hl : vs.length = ds.length := by
    cases q with
    | none => exact RpA.length h
    | some p =>
      obtain ⟨vs', d, ds', rfl, rfl, _, _, r⟩ := h
      rw [List.length_cons, List.length_cons, r.length]
  have lt : ∀ {i : Nat} {d : D}, (pad N.length ds)[i]? = some (some d) → i < np := fun {i d} e => by
    have := (List.getElem?_eq_some_iff.mp (pad_get e)).1
    omega
  have at0 : ∀ {i : Nat} {p : Addr}, (if i = 0 then q else none) = some p → i = 0 ∧ q = some p := fun {i p} e => by
    by_cases h : i = 0
    · rw [if_pos h] at e; exact ⟨h, e⟩
    · rw [if_neg h] at e; cases e
  refine ⟨fun _ z => z, t, t, fun _ _ e _ => e, ?_, fun i d e n => ?_, fun i d e m => ?_, fun i p m e => ?_, fun i p m e => .inl (at0 e), fun i j p m m' e e' => (at0 e).1.trans (at0 e').1.symm, fun i a c e => ?_, fun p e => ?_⟩
  all_goals try (cases (show (none : Option (Nat × Addr × Str)) = some (_, _, _) from e); done)
  · unfold L2.start pad
    rw [List.length_append, List.length_append, List.length_map, List.length_map, List.length_replicate, List.length_replicate, hl]
  · have e1 := pad_get e
    cases q with
    | none =>
      obtain ⟨v, h1, h2⟩ := RpA.get h e1
      exact ⟨v, start_get h1, h2⟩
    | some p =>
      obtain ⟨vs', d0, ds', rfl, rfl, _, _, r⟩ := h
      cases i with
      | zero => exact absurd (hq rfl) n
      | succ i =>
        obtain ⟨v, h1, h2⟩ := r.get (i := i) (by simpa using e1)
        exact ⟨v, start_get (by simpa using h1), h2⟩
  · obtain ⟨rfl, z⟩ := hO i (lt e) m
    have e1 := pad_get e
    cases q with
    | none => cases z
    | some p =>
      obtain ⟨vs', d0, ds', rfl, rfl, ap, ow, r⟩ := h
      cases (show some d0 = some d from e1)
      exact ⟨p, rfl, start_get rfl, ow⟩
  · obtain ⟨_, z⟩ := at0 e
    cases q with
    | none => cases z
    | some p' =>
      cases z
      obtain ⟨vs', d0, ds', rfl, rfl, ap, ow, r⟩ := h
      exact ap
  · have e' : q = some p := e
    subst e'
    obtain ⟨vs', d0, ds', rfl, rfl, ap, ow, r⟩ := h
    refine ⟨hq rfl, ap, rfl, d0, ?_⟩
    unfold pad
    rfl
theorem RelS.ki {K : PySem.W.Frag} {G : Gd} {O : List Nat} {A : Addr → Prop} {ms : Nat → Option Addr} {σ : L2.St} {H : Hp} {ρ : En} (R : RelS K G O A ms σ H ρ) : KI G.io G.H0 H := R.keep
theorem RelS.ioOwn {K : PySem.W.Frag} {G : Gd} {O : List Nat} {A : Addr → Prop} {ms : Nat → Option Addr} {σ : L2.St} {H : Hp} {ρ : En} (R : RelS K G O A ms σ H ρ) {p : Addr} (e : G.io = some p) : Own K A H p (io0 ρ) := by
  obtain ⟨h1, h2, h3, d, h4⟩ := R.io p e
  obtain ⟨p', e0, _, w⟩ := R.ow 0 d h4 h1
  rw [h3] at e0
  cases e0
  unfold io0
  rw [h4]
  exact w
theorem Own.less {K : PySem.W.Frag} {A A' : Addr → Prop} {H : Hp} {p : Addr} {d : D} (h : Own K A H p d) (s : ∀ a, A' a → A a) : Own K A' H p d := h.tr (fun a o e n => ⟨e, fun z => n (s a z)⟩) fun _ z => z
theorem Rp.less {K : PySem.W.Frag} {A A' : Addr → Prop} {H : Hp} {v : V} {d : D} (h : Rp K A H v d) (s : ∀ a, A' a → A a) : Rp K A' H v d := h.tr fun a o e n => ⟨e, fun z => n (s a z)⟩
section
variable {P : Program} {w : World} {K : PySem.W.Frag} {mg : Str → Option Value} {base : Heap} {x qual : Str} {params : Arguments} {body : List Stmt} {scope : Scope} {dvs : List V} {kws : List (Str × V)} {f : Addr} {fd : FuncData}
theorem fnG_of {N ps : List Str} {k : Nat} {io fr : Bool} {ds : List Value} {dw : List V} {dd : List D} {O O' : List Nat} {m : MS} (F : FunD K x qual params body scope dvs kws f fd) (S : FnScope N ps scope) (hb : Binds K fd ps ds) (hd : Vals dw ds)
    (rd : ∀ A H, RpA K A H dw dd) (hN : ps.length ≤ N.length) (hO : ∀ i, i < ps.length → i ∈ O → i = 0 ∧ io = true) (hq : io = true → 0 ∈ O)
    (hbody : ∀ (cdv : Value) (A : Around) (outer : List Env) (s : Shared) (H : Hp) (E : XK) (A0 : Addr → Prop) (q : Option Addr), q.isSome = io → Room k (A.deeper (envOfC qual scope s.heap.objs.size f cdv)) → A.guards = some [] →
      DSs (cxOf (L2N.CX P w) P w K mg base N qual scope f cdv A outer s H E) ⟨A0, H, q, none⟩ (fun _ => True) [] O O' (fun cls d _ H' => E cls d H') fr body m) :
    FnG P w K mg base (k + 1) f io fr (runM N.length ps.length dd fr m) := by
  refine ⟨fun A outer s H us vs Q E hr hg e0 rv hsp => ?_, F.kp⟩
  obtain ⟨oc, od, dV, kV, doc, pm, an, cdv, ct, osl, rfl, lk, hcd, _, _⟩ := F.ex
  obtain ⟨A0, q, args, trk, hio, ar, post⟩ := hsp
  have KXh : K.In s.heap := e0.mod.kin.keeps fun b o e => (e0.bs b o e).1
  have limit : s.heap.NoLimit := e0.mod.nolimit.keeps fun b o e => (e0.bs b o e).1
  have ar2 : ArgR K A0 H q (vs ++ dw) (args ++ dd) := by
    cases q with
    | none => exact RpA.app ar (rd _ _)
    | some p =>
      obtain ⟨vs', d0, ds', rfl, rfl, ap, ow, r⟩ := ar
      exact ⟨_, _, _, rfl, rfl, ap, ow, r.app (rd _ _)⟩
  have alen : (vs ++ dw).length = (args ++ dd).length := by
    cases q with
    | none => exact RpA.length ar2
    | some p =>
      obtain ⟨vs', d0, ds', e1, e2, _, _, r⟩ := ar2
      rw [e1, e2, List.length_cons, List.length_cons, r.length]
  unfold runM at post
  by_cases hnp : (args ++ dd).length = ps.length
  · rw [if_pos hnp] at post
    have rv2 : Vals (vs ++ dw) (us ++ ds) := rv.append hd
    have hul : (us ++ ds).length = ps.length := by rw [← rv2.length, alen]; exact hnp
    have hvl : (vs ++ dw).length = ps.length := by rw [alen]; exact hnp
    have kinds : ∀ y ∈ ps.zip (us ++ ds), scope.names.lookup y.1 = some .local ∨ (scope.names.lookup y.1 = some .cell ∧ ((cellsFrom (s.heap.objs.size + 1) scope.names []).lookup y.1).isSome = true) := fun ⟨n, v⟩ hy => by
      rcases S.par n (List.of_mem_zip hy).1 with z | z
      · exact .inl z
      · exact .inr ⟨z, PySem.W.cellsFrom_some _ _ _ (.inl z)⟩
    refine codeAny_call_function hr.depth (KXh _ _ lk) rfl S.co S.gen rfl (PySem.W.codeRec_of KXh hcd) (hb s us KXh hul _ _ _ _ ?_)
    refine wpAny_newFunctionEnv_cells S.kind kinds fun env henv s1 made => ?_
    subst henv
    refine ⟨limit.keeps made.toInCall.keep, codeAny_func ?_⟩
    have I : Inv (cxOf (L2N.CX P w) P w K mg base N qual scope f cdv A outer s H E) [] (L2.start N (vs ++ dw)) H s1 := inv_start S hr.hd e0 hvl rv2 made
    have R := start_rel (N := N) (O := O) (np := ps.length) trk ar2 hnp hN (fun i h1 h2 => by rw [hio]; exact hO i h1 h2) (fun z => hq (by rw [← hio]; exact z))
    have body := hbody cdv A outer s H E A0 q hio (hr.deeper _) hg
    have goal : tS K ⟨A0, H, q, none⟩ (fun _ => True) [] O O' (fun cls d _ H' => E cls d H') fr m { nx := fun _ H' => Q .non H', rt := Q } (L2.start N (vs ++ dw)) H := by
      refine ⟨A0, _, _, R, ?_⟩
      cases hm : m (pad N.length (args ++ dd)) with
      | bad => rw [hm] at post; exact post.elim
      | bk ρ => rw [hm] at post; exact post.elim
      | ct ρ => rw [hm] at post; exact post.elim
      | rt d ρ =>
        rw [hm] at post
        exact fun v H' rg => post v H' rg.1 rg.2
      | nx ρ =>
        rw [hm] at post
        cases fr with
        | true => exact post.elim
        | false => exact fun σ' H' A' ms' R' _ => post .non H' R'.ki ⟨.non, fun p e => (R'.ioOwn e).less R'.sub⟩
      | ex y ρ =>
        rw [hm] at post
        refine fun dx σ' H' A' ms' O'' _ R' _ xr => post dx H' R'.ki (fun p e => (R'.ioOwn e).less R'.sub) ?_
        rcases xr with z | ⟨ne, d, fs, e1, e2, r⟩
        · exact .inl z
        · exact .inr ⟨ne, d, fs, e1, e2, r.tr fun a o e n => ⟨e, fun z => n (R'.sub a z)⟩⟩
    refine wpAny_mono (body.run [] s1 (L2.start N (vs ++ dw)) H _ I goal) (fun fl s' hs => ?_) fun e s' hs => hs
    have done : ∀ {σ' : L2.St} {H' : Hp} {v : V} {u : Value}, Inv (cxOf (L2N.CX P w) P w K mg base N qual scope f cdv A outer s H E) [] σ' H' s' → RelV v u → Q v H' → CE outer P w H s Q u s' :=
      fun {σ' H' v u} J rv q => ⟨v, H', J.os, J.bare, J.base, J.hok, rv, q⟩
    cases fl with
    | ret u =>
      obtain ⟨v, σ', H', J, rv, qq⟩ := hs
      exact done J rv qq
    | next =>
      obtain ⟨σ', H', J, qq⟩ := hs
      exact done (v := V.non) (u := Value.none) J rfl qq
    | brk =>
      obtain ⟨_, _, _, qq⟩ := hs
      exact qq.elim
    | cont =>
      obtain ⟨_, _, _, qq⟩ := hs
      exact qq.elim
  · rw [if_neg hnp] at post
    exact post.elim
end
section
variable {X : Cx} {G : Gd} {O : List Nat} {W : WX} {k : Nat} {f : Addr} {io fr : Bool} {F : FN} {x : Str} {p pos : Pos} {e : Expr} {es : List Expr} {mr : MA}
theorem run_fnG {pins : List (Addr × Obj)} {σ : L2.St} {H : Hp} {s : Shared} {Q : VK} {us : List Value} {vs : List V} (C : FnG X.prog X.w X.K X.mg X.base k f io fr F) (hr : Room k X.A) (hg : X.A.guards = some []) (tk : L2N.Takes X W)
    (I : Inv X pins σ H s) (r : Vals vs us) (h : spD X.K io fr F vs H Q (WE W σ)) : wpAny (model X.prog X.w) X.A (call (.ref f) us) (EP X pins σ Q) X.xe s := by
  refine wpAny_call (codeAny_mono (C.run X.A X.stack s H us vs Q (WE W σ) hr hg I.env0 r h) fun res s' hres => ?_)
  cases res with
  | error e => exact L2N.passAt tk σ pins H s e s' I hres
  | ok fl =>
    cases fl with
    | ret u => exact I.after hres
    | next => exact hres.elim
    | brk => exact hres.elim
    | cont => exact hres.elim
def tCallG (K : PySem.W.Frag) (io fr : Bool) (F : FN) (W : WX) (t : TA) : TE := fun σ H Q => t σ H fun vs H1 => spD K io fr F vs H1 Q (WE W σ)
theorem pe_callG {t : TA} (C : FnG X.prog X.w X.K X.mg X.base k f io fr F) (hr : Room k X.A) (hg : X.A.guards = some []) (tk : L2N.Takes X W) (hn : Gl X x) (hm : X.mg x = some (.ref f)) (ha : PA X (e :: es) t)
    (hdb : (x == ("__debug__" : Str)) = false := by decide) (he : starEach (e :: es) X.env = (false, eval e X.env) :: starEach es X.env := by rfl) (hpl : (backTo pos (starEach es X.env)).any (·.1) = false := by rfl) :
    PE X (.Call (.Name x p) (e :: es) [] pos) (tCallG X.K io fr F W t) := by
  refine ⟨fun pins s σ H Q I h => wpAny_Call_Name_kw (ld_glob I hn hm ?_ hdb)⟩
  exact PySem.W.callWith_K (h₀ := X.base) I.ok.mod.kin C.kp (thn (ha.run pos pins s σ H _ I h) fun us s1 ⟨vs, H1, I1, r, q⟩ => ⟨I1.kIn, run_fnG C hr hg tk I1 r q⟩) he hpl
theorem pe_callG0 (C : FnG X.prog X.w X.K X.mg X.base k f io fr F) (hr : Room k X.A) (hg : X.A.guards = some []) (tk : L2N.Takes X W) (hn : Gl X x) (hm : X.mg x = some (.ref f)) (hdb : (x == ("__debug__" : Str)) = false := by decide) :
    PE X (.Call (.Name x p) [] [] pos) (tCallG X.K io fr F W tNil) := by
  refine ⟨fun pins s σ H Q I h => wpAny_Call_Name_kw (ld_glob I hn hm ?_ hdb)⟩
  exact PySem.W.callWith_K0 I.kIn C.kp (run_fnG (us := []) C hr hg tk I .nil h)
def mCall (F : FN) (args : MA) : ME := fun ρ => (args ρ).bind fun ds ρ1 => match F ds with
  | .rt d _ => .ok d ρ1
  | .ex x _ => .ex x ρ1
  | .bad => .bad
theorem call_goE {K : PySem.W.Frag} {σ : L2.St} {H : Hp} {Q : VK} (h : tE K G O W (mCall F mr) σ H Q) : tCallG K false false F W (tA K G O W mr) σ H Q := by
  obtain ⟨A, ms, ρ, R, q⟩ := h
  refine ⟨A, ms, ρ, R, q.bind.mono ?_⟩
  rintro vs H1 ⟨ds, ρ1, R1, k1, r1, q1⟩
  refine ⟨A, none, ds, R1.trk, rfl, r1, ?_⟩
  cases hF : F ds with
  | bad => rw [hF] at q1; exact q1.elim
  | rt d o =>
    rw [hF] at q1
    intro v H' ki ⟨rr, _⟩
    have s : Same H1 H' := fun a o e => ki a o e (by simp)
    exact q1 v H' (R1.same s) (Kp.same s) rr
  | ex y o =>
    rw [hF] at q1
    intro dx H' ki _ xr
    have s : Same H1 H' := fun a o e => ki a o e (by simp)
    exact q1 dx H' (R1.same s) (Kp.same s) xr
theorem call_goF {K : PySem.W.Frag} {σ : L2.St} {H : Hp} {Q : VK} (h : tF K G O W (mCall F mr) σ H Q) : tCallG K false true F W (tA K G O W mr) σ H Q := by
  obtain ⟨A, ms, ρ, R, q⟩ := h
  refine ⟨A, ms, ρ, R, ?_⟩
  unfold mCall at q
  cases hm : mr ρ with
  | bad => rw [hm] at q; exact q.elim
  | ex x ρ1 => rw [hm] at q; exact q
  | ok ds ρ1 =>
    rw [hm] at q
    intro vs H1 R1 k1 r1
    refine ⟨A, none, ds, R1.trk, rfl, r1, ?_⟩
    have q1 : FPost K G O W A ms σ H Q (match F ds with
      | .rt d _ => .ok d ρ1
      | .ex x _ => .ex x ρ1
      | .bad => .bad) := q
    cases hF : F ds with
    | bad => rw [hF] at q1; exact q1.elim
    | rt d o =>
      rw [hF] at q1
      intro v H' ki rr
      have s : Same H1 H' := fun a o e => ki a o e (by simp)
      obtain ⟨r, rfl, hr, ow, _⟩ := (show ∃ r, v = .ref r ∧ H1 r = none ∧ Own K (fun a => A a ∨ a = r) H' r d ∧ _ from rr)
      obtain ⟨o', ho'⟩ := ow.there
      refine q1 r H' (R1.same s) (R1.grow hr s ho') (k1.trans (Kp.same s)) ?_ ow
      exact Kp.none R1 k1 hr
    | ex y o =>
      rw [hF] at q1
      intro dx H' ki _ xr
      have s : Same H1 H' := fun a o e => ki a o e (by simp)
      exact q1 dx H' (R1.same s) (k1.trans (Kp.same s)) xr
theorem de_call (C : FnG X.prog X.w X.K X.mg X.base k f false false F) (hr : Room k X.A) (hg : X.A.guards = some []) (tk : L2N.Takes X W) (hn : Gl X x) (hm : X.mg x = some (.ref f)) (ha : DA X G O W (e :: es) mr)
    (hdb : (x == ("__debug__" : Str)) = false := by decide) (he : starEach (e :: es) X.env = (false, eval e X.env) :: starEach es X.env := by rfl) (hpl : (backTo pos (starEach es X.env)).any (·.1) = false := by rfl) :
    DE X G O W (.Call (.Name x p) (e :: es) [] pos) (mCall F mr) := pe_imp (pe_callG C hr hg tk hn hm ha hdb he hpl) fun _ _ _ h => call_goE h
theorem df_call (C : FnG X.prog X.w X.K X.mg X.base k f false true F) (hr : Room k X.A) (hg : X.A.guards = some []) (tk : L2N.Takes X W) (hn : Gl X x) (hm : X.mg x = some (.ref f)) (ha : DA X G O W (e :: es) mr)
    (hdb : (x == ("__debug__" : Str)) = false := by decide) (he : starEach (e :: es) X.env = (false, eval e X.env) :: starEach es X.env := by rfl) (hpl : (backTo pos (starEach es X.env)).any (·.1) = false := by rfl) :
    DF X G O W (.Call (.Name x p) (e :: es) [] pos) (mCall F mr) := pe_imp (pe_callG C hr hg tk hn hm ha hdb he hpl) fun _ _ _ h => call_goF h
theorem tNil_go {K : PySem.W.Frag} {σ : L2.St} {H : Hp} {Q : List V → Hp → Prop} (h : tA K G O W mNil σ H Q) : tNil σ H Q := by
  obtain ⟨A, ms, ρ, R, q⟩ := h
  exact q [] H R Kp.refl .nil
end
end DL
namespace DL
open L2 PySem PySem.Spec PyProof.Rows
theorem set_get_ne {ρ : En} {i j : Nat} {o : Option D} (h : i ≠ j) : (ρ.set j o)[i]? = ρ[i]? := List.getElem?_set_ne (Ne.symm h)
theorem RelS.setOwn {K : PySem.W.Frag} {G : Gd} {O : List Nat} {A : Addr → Prop} {ms : Nat → Option Addr} {σ : L2.St} {H H' : Hp} {ρ : En} {j : Nat} {p : Addr} {c d : D} (R : RelS K G O A ms σ H ρ) (hj : j ∈ O) (hc : ρ[j]? = some (some c)) (hp : ms j = some p)
    (k : ∀ a o, H a = some o → a ≠ p → H' a = some o) (ow : Own K A H' p d) : RelS K G O A ms σ H' (ρ.set j (some d)) := by
  have hlt : j < ρ.length := (List.getElem?_eq_some_iff.mp hc).1
  have aj : A p := R.inA j p hj hp
  have t : Tr A A H H' := fun a o e n => ⟨k a o e fun z => n (z ▸ aj), n⟩
  exact {
    sub := R.sub
    trk0 := R.trk0
    trk := fun a z => by
      by_cases h : a = p
      · rw [h]; exact ow.there
      · obtain ⟨o, e⟩ := R.trk a z
        exact ⟨o, k a o e h⟩
    keep := fun a o e n => by
      refine k a o (R.keep a o e n) fun z => ?_
      rcases R.ok j p hj hp with ⟨_, w⟩ | ⟨_, w⟩
      · exact n (z ▸ w)
      · rw [z, w] at e; cases e
    len := by rw [List.length_set]; exact R.len
    fz := fun i z e n => by
      have h : i ≠ j := fun q => n (q ▸ hj)
      rw [set_get_ne h] at e
      obtain ⟨v, e1, q⟩ := R.fz i z e n
      exact ⟨v, e1, q.tr t⟩
    ow := fun i z e m => by
      by_cases h : i = j
      · subst h
        rw [List.getElem?_set_self hlt] at e
        cases e
        obtain ⟨p', e0, e1, _⟩ := R.ow i c hc hj
        rw [hp] at e0
        cases e0
        exact ⟨p, hp, e1, ow⟩
      · rw [set_get_ne h] at e
        obtain ⟨q, e0, e1, w⟩ := R.ow i z e m
        exact ⟨q, e0, e1, w.tr t fun o u => k _ _ u fun z => h (R.dist i j p m hj (z ▸ e0) hp)⟩
    inA := R.inA
    ok := R.ok
    dist := R.dist
    px := R.px
    io := fun q e => by
      obtain ⟨h1, h2, h3, z, h4⟩ := R.io q e
      by_cases h : j = 0
      · subst h
        exact ⟨h1, h2, h3, d, List.getElem?_set_self hlt⟩
      · exact ⟨h1, h2, h3, z, by rw [set_get_ne (Ne.symm h)]; exact h4⟩ }
theorem Kp.own {O : List Nat} {ms : Nat → Option Addr} {j : Nat} {p : Addr} {H H' : Hp} (m : j ∈ O) (e : ms j = some p) (k : ∀ b o, H b = some o → b ≠ p → H' b = some o) : Kp O ms H H' := fun b o h n => k b o h fun z => n j m (z ▸ e)
section
variable {X : Cx} {G : Gd} {O : List Nat} {W : WX} {k : Nat} {f : Addr} {fr : Bool} {F : FN} {x y : Str} {p py pos : Pos} {e : Expr} {es : List Expr} {mr : MA}
def getO (ρ : En) (j : Nat) : Option D := match ρ[j]? with
  | some (some d) => some d
  | _ => none
theorem getO_some {ρ : En} {j : Nat} {d : D} (h : getO ρ j = some d) : ρ[j]? = some (some d) := by
  unfold getO at h
  split at h
  · rename_i z hz
    cases h
    exact hz
  · cases h
def mCallIo (F : FN) (j : Nat) (args : MA) : ME := fun ρ => match getO ρ j with
  | none => .bad
  | some _ => (args ρ).bind fun ds ρ1 => match getO ρ1 j with
    | none => .bad
    | some c => match F (c :: ds) with
      | .rt d o => .ok d (ρ1.set j (some o))
      | .ex x o => .ex x (ρ1.set j (some o))
      | .bad => .bad
theorem callio_go {K : PySem.W.Frag} {j : Nat} (hj : j ∈ O) {σ : L2.St} {H : Hp} {Q : VK} (h : tE K G O W (mCallIo F j mr) σ H Q) : tCallG K true false F W (tCons (tVar j) (tA K G O W mr)) σ H Q := by
  obtain ⟨A, ms, ρ, R, q⟩ := h
  unfold mCallIo at q
  cases hc : getO ρ j with
  | none => rw [hc] at q; exact q.elim
  | some c =>
    rw [hc] at q
    have q' : RPost K G O W A ms σ H (Rp K A) Q ((mr ρ).bind fun ds ρ1 => match getO ρ1 j with
      | none => .bad
      | some c => match F (c :: ds) with
        | .rt d o => .ok d (ρ1.set j (some o))
        | .ex x o => .ex x (ρ1.set j (some o))
        | .bad => .bad) := q
    obtain ⟨p, hp, hv, _⟩ := R.ow j c (getO_some hc) hj
    refine ⟨.ref p, hv, A, ms, ρ, R, q'.bind.mono ?_⟩
    rintro vs H1 ⟨ds, ρ1, R1, k1, r1, q1⟩
    cases hc1 : getO ρ1 j with
    | none => rw [hc1] at q1; exact q1.elim
    | some c1 =>
      rw [hc1] at q1
      have b1 := getO_some hc1
      obtain ⟨p', hp', _, oj⟩ := R1.ow j c1 b1 hj
      rw [hp] at hp'
      cases hp'
      refine ⟨A, some p, c1 :: ds, R1.trk, rfl, ⟨vs, c1, ds, rfl, rfl, R.inA j p hj hp, oj, r1⟩, ?_⟩
      have q2 : RPost K G O W A ms σ H1 (Rp K A) Q (match F (c1 :: ds) with
        | .rt d o => .ok d (ρ1.set j (some o))
        | .ex x o => .ex x (ρ1.set j (some o))
        | .bad => .bad) := q1
      cases hF : F (c1 :: ds) with
      | bad => rw [hF] at q2; exact q2.elim
      | rt d o =>
        rw [hF] at q2
        intro v H' ki ⟨rr, oo⟩
        have kk : ∀ a u, H1 a = some u → a ≠ p → H' a = some u := fun a u e n => ki a u e fun z => n (Option.some.inj z).symm
        exact q2 v H' (R1.setOwn hj b1 hp kk (oo _ rfl)) (Kp.own hj hp kk) rr
      | ex z o =>
        rw [hF] at q2
        intro dx H' ki oo xr
        have kk : ∀ a u, H1 a = some u → a ≠ p → H' a = some u := fun a u e n => ki a u e fun z => n (Option.some.inj z).symm
        exact q2 dx H' (R1.setOwn hj b1 hp kk (oo _ rfl)) (Kp.own hj hp kk) xr
theorem de_callio {j : Nat} (C : FnG X.prog X.w X.K X.mg X.base k f true false F) (hr : Room k X.A) (hg : X.A.guards = some []) (tk : L2N.Takes X W) (hn : Gl X x) (hm : X.mg x = some (.ref f)) (hj : O.contains j = true) (hy : PE X (.Name y py) (tVar j)) (ha : DA X G O W es mr)
    (hs : starEach (.Name y py :: es) X.env = (false, eval (.Name y py) X.env) :: starEach es X.env := by rfl)
    (hdb : (x == ("__debug__" : Str)) = false := by decide) (hpl : (backTo pos (starEach es X.env)).any (·.1) = false := by rfl) :
    DE X G O W (.Call (.Name x p) (.Name y py :: es) [] pos) (mCallIo F j mr) :=
  pe_imp (pe_callG C hr hg tk hn hm (pa_cons hy ha hs) hdb hs hpl) fun _ _ _ h => callio_go (List.contains_iff_mem.mp hj) h
def rOM (K : PySem.W.Frag) (g : List D → List D → Option (D × List D)) : V → List V → Hp → VK → Prop := fun x vs H Q => ∃ (A : Addr → Prop) (p : Addr) (cs ds : List D) (ws : List V) (z : D) (cs' : List D), x = .ref p ∧ A p ∧ Trk A H ∧ H p = some (.lst ws) ∧ RpA K A H ws cs ∧ RpA K A H vs ds ∧
  g cs ds = some (z, cs') ∧ ∀ v H', (∀ a o, H a = some o → a ≠ p → H' a = some o) → (∃ ws', H' p = some (.lst ws') ∧ RpA K A H' ws' cs') → Rp K A H' v z → Q v H'
def mOM (g : List D → List D → Option (D × List D)) (j : Nat) (args : MA) : ME := fun ρ => match getO ρ j with
  | some (.lst _) => (args ρ).bind fun ds ρ1 => match getO ρ1 j with
    | some (.lst cs) => match g cs ds with
      | some (z, cs') => .ok z (ρ1.set j (some (.lst cs')))
      | none => .bad
    | _ => .bad
  | _ => .bad
theorem own_lst {K : PySem.W.Frag} {A : Addr → Prop} {H : Hp} {p : Addr} {cs : List D} (h : Own K A H p (.lst cs)) : ∃ ws, H p = some (.lst ws) ∧ RpA K A H ws cs := by
  cases h with
  | lst e q => exact ⟨_, e, q⟩
theorem om_go {g : List D → List D → Option (D × List D)} {r : V → List V → Hp → VK → Prop} {K : PySem.W.Frag} (hr : ∀ x vs H Q, rOM K g x vs H Q → r x vs H Q) {j : Nat} (hj : j ∈ O) {σ : L2.St} {H : Hp} {Q : VK} (h : tE K G O W (mOM g j mr) σ H Q) :
    ∃ v, σ[j]? = some (some v) ∧ tyV K "list" v H ∧ tA K G O W mr σ H fun xs H2 => r v xs H2 Q := by
  obtain ⟨A, ms, ρ, R, q⟩ := h
  unfold mOM at q
  split at q
  · rename_i c hc
    obtain ⟨p, hp, e1, oj⟩ := R.ow j _ (getO_some hc) hj
    obtain ⟨ws, hw, _⟩ := own_lst oj
    refine ⟨_, e1, .inl ⟨rfl, _, SqL.of hw⟩, A, ms, ρ, R, RPost.mono (RPost.bind q) ?_⟩
    rintro vs H1 ⟨ds, ρ1, R1, k1, r1, q1⟩
    split at q1
    · rename_i cs hc1
      have b1 := getO_some hc1
      obtain ⟨p', hp', _, oj1⟩ := R1.ow j _ b1 hj
      rw [hp] at hp'
      cases hp'
      obtain ⟨ws1, hw1, rw1⟩ := own_lst oj1
      split at q1
      · rename_i z cs' hg
        refine hr _ _ _ _ ⟨A, p, cs, ds, ws1, z, cs', rfl, R.inA j p hj hp, R1.trk, hw1, rw1, r1, hg, fun v H' kk ⟨ws', hw', rw'⟩ rv => ?_⟩
        exact q1 v H' (R1.setOwn hj b1 hp kk (.lst hw' rw')) (Kp.own hj hp kk) rv
      · exact q1.elim
    · exact q1.elim
  · exact q.elim
theorem de_om {j : Nat} {name : Str} {id : String} {apos cpos : Pos} {g : List D → List D → Option (D × List D)} (hm : MtR X id (rOM X.K g)) (slot : Slot "list" name id) (hty : typeOf (.builtin id) = pure (.type "method_descriptor")) (hj : O.contains j = true) (hy : PE X (.Name y py) (tVar j)) (ha : DA X G O W (e :: es) mr)
    (hbase : attributeBase (.Name y py) name X.env (eval (.Name y py) X.env) = eval (.Name y py) X.env := by rfl)
    (hfew : ((backTo cpos (starEach (e :: es) X.env)).all (fun x => !x.1) && (backToKw cpos (keywordEach [] X.env)).all (fun x => x.1.isSome)
      && decide ((e :: es).length + ([] : List Keyword).length + (if ([] : List Keyword).isEmpty then 0 else 1) < 30)) = true := by rfl)
    (hline : (apos.endLine == cpos.line) = true := by rfl) (hs : starEach (e :: es) X.env = (false, eval e X.env) :: starEach es X.env := by rfl) (hplain : (backTo cpos (starEach es X.env)).any (·.1) = false := by rfl) :
    DE X G O W (.Call (.Attribute (.Name y py) name apos) (e :: es) [] cpos) (mOM g j mr) :=
  pe_imp (pe_bm PySem.F.plainAttrs_list slot hty hm hy ha hbase hfew hline hs hplain) fun _ _ _ h => om_go (fun _ _ _ _ z => z) (List.contains_iff_mem.mp hj) h
theorem de_om0 {j : Nat} {name : Str} {id : String} {apos cpos : Pos} {g : List D → List D → Option (D × List D)} (hm : MtR X id (rOM X.K g)) (slot : Slot "list" name id) (hty : typeOf (.builtin id) = pure (.type "method_descriptor")) (hj : O.contains j = true) (hy : PE X (.Name y py) (tVar j))
    (hbase : attributeBase (.Name y py) name X.env (eval (.Name y py) X.env) = eval (.Name y py) X.env := by rfl) (hline : (apos.endLine == cpos.line) = true := by rfl) :
    DE X G O W (.Call (.Attribute (.Name y py) name apos) [] [] cpos) (mOM g j mNil) := by
  refine pe_imp (pe_bm0 PySem.F.plainAttrs_list slot hty hm hy hbase hline) fun σ H Q h => ?_
  obtain ⟨v, h1, h2, h3⟩ := om_go (fun _ _ _ _ z => z) (List.contains_iff_mem.mp hj) h
  exact ⟨v, h1, h2, tNil_go h3⟩
def gAppend (cs ds : List D) : Option (D × List D) := match ds with
  | [d] => if cs.length < sizeLine then some (.non, cs ++ [d]) else none
  | _ => none
def gExtend (cs ds : List D) : Option (D × List D) := match ds with
  | [.lst es] => if cs.length + es.length ≤ sizeLine then some (.non, cs ++ es) else none
  | _ => none
def gPop (cs ds : List D) : Option (D × List D) := match ds with
  | [] => (cs[cs.length - 1]?).map fun z => (z, cs.dropLast)
  | [.int i] => if -(2 ^ 63) ≤ i ∧ i < 2 ^ 63 then (seqIndex? i cs.length).bind fun k => (cs[k]?).map fun z => (z, cs.eraseIdx k) else none
  | _ => none
def gReverse (cs ds : List D) : Option (D × List D) := match ds with
  | [] => some (.non, cs.reverse)
  | _ => none
theorem upd_out {H : Hp} {p : Addr} {o : HO} : ∀ a u, H a = some u → a ≠ p → (upd H p o) a = some u := fun a u e n => by rw [upd_ne n]; exact e
theorem RpA.upd {K : PySem.W.Frag} {A : Addr → Prop} {H : Hp} {p : Addr} {o : HO} {vs : List V} {ds : List D} (h : RpA K A H vs ds) (a : A p) : RpA K A (L2.upd H p o) vs ds := h.tr fun b o e n => ⟨upd_out b o e fun z => n (z ▸ a), n⟩
theorem Rp.upd {K : PySem.W.Frag} {A : Addr → Prop} {H : Hp} {p : Addr} {o : HO} {v : V} {d : D} (h : Rp K A H v d) (a : A p) : Rp K A (L2.upd H p o) v d := h.tr fun b o e n => ⟨upd_out b o e fun z => n (z ▸ a), n⟩
theorem om_append : MtR X "list.append" (rOM X.K gAppend) := by
  rintro pins s σ H x vs v us Q I rx rv ⟨A, p, cs, ds, ws, z, cs', rfl, ap, t, hp, rc, rd, hg, q⟩
  unfold gAppend at hg
  split at hg
  · rename_i d
    split at hg
    · rename_i hz
      cases hg
      cases rd with
      | cons r1 r2 =>
        cases r2
        refine mt_append pins s σ H _ _ v us Q I rx rv ⟨p, ws, _, rfl, rfl, hp, by rw [rc.length]; exact hz, ?_⟩
        exact q _ _ upd_out ⟨_, upd_same, (rc.upd ap).app (.cons (r1.upd ap) .nil)⟩ .non
    · cases hg
  · cases hg
theorem om_extend : MtR X "list.extend" (rOM X.K gExtend) := by
  rintro pins s σ H x vs v us Q I rx rv ⟨A, p, cs, ds, ws, z, cs', rfl, ap, t, hp, rc, rd, hg, q⟩
  unfold gExtend at hg
  split at hg
  · split at hg
    · rename_i hz
      cases hg
      cases rd with
      | cons r1 r2 =>
        cases r2
        cases r1 with
        | lst hb nb rb =>
          refine mt_extend pins s σ H _ _ v us Q I rx rv ⟨p, _, ws, _, rfl, rfl, hp, hb, by rw [rc.length, rb.length]; exact hz, ?_⟩
          exact q _ _ upd_out ⟨_, upd_same, (rc.upd ap).app (rb.upd ap)⟩ .non
    · cases hg
  · cases hg
theorem RpA.eraseIdx {K : PySem.W.Frag} {A : Addr → Prop} {H : Hp} : ∀ {vs : List V} {ds : List D} (n : Nat), RpA K A H vs ds → RpA K A H (vs.eraseIdx n) (ds.eraseIdx n)
  | _, _, _, .nil => .nil
  | _, _, 0, .cons _ t => t
  | _, _, n + 1, .cons h t => .cons h (RpA.eraseIdx n t)
theorem om_pop : MtR X "list.pop" (rOM X.K gPop) := by
  rintro pins s σ H x vs v us Q I rx rv ⟨A, p, cs, ds, ws, z, cs', rfl, ap, t, hp, rc, rd, hg, q⟩
  unfold gPop at hg
  split at hg
  · cases rd
    obtain ⟨y, hy, e⟩ := map_some hg
    cases e
    have hl := rc.length
    obtain ⟨w, hw, rw⟩ := rc.get hy
    refine mt_pop pins s σ H _ _ v us Q I rx rv ⟨p, ws, w, rfl, rfl, hp, by rw [hl]; exact hw, ?_⟩
    exact q _ _ upd_out ⟨_, upd_same, rc.dropLast.upd ap⟩ (rw.upd ap)
  · rename_i i
    split at hg
    · rename_i hz
      cases hk : seqIndex? i cs.length with
      | none => rw [hk] at hg; cases hg
      | some k =>
        rw [hk] at hg
        obtain ⟨y, hy, e⟩ := map_some (show (cs[k]?).map (fun z => (z, cs.eraseIdx k)) = some (z, cs') from hg)
        cases e
        cases rd with
        | cons r1 r2 =>
          cases r2
          cases r1
          obtain ⟨w, hw, rw⟩ := rc.get hy
          refine mt_popAt pins s σ H _ _ v us Q I rx rv ⟨p, ws, i, k, w, rfl, rfl, hp, hz.1, hz.2, by rw [rc.length]; exact hk, hw, ?_⟩
          exact q _ _ upd_out ⟨_, upd_same, (rc.eraseIdx k).upd ap⟩ (rw.upd ap)
    · cases hg
  · cases hg
theorem om_reverse : MtR X "list.reverse" (rOM X.K gReverse) := by
  rintro pins s σ H x vs v us Q I rx rv ⟨A, p, cs, ds, ws, z, cs', rfl, ap, t, hp, rc, rd, hg, q⟩
  unfold gReverse at hg
  split at hg
  · cases hg
    cases rd
    refine mt_reverse pins s σ H _ _ v us Q I rx rv ⟨p, ws, rfl, rfl, hp, ?_⟩
    exact q _ _ upd_out ⟨_, upd_same, rc.rev.upd ap⟩ .non
  · cases hg
end
abbrev MG := D → En → R Unit
def SlEq (vs : List Nat) (σ σ' : L2.St) : Prop := σ'.length = σ.length ∧ ∀ i, i ∉ vs → σ'[i]? = σ[i]?
theorem SlEq.refl {vs : List Nat} {σ : L2.St} : SlEq vs σ σ := ⟨rfl, fun _ _ => rfl⟩
theorem SlEq.trans {vs : List Nat} {σ σ1 σ2 : L2.St} (a : SlEq vs σ σ1) (b : SlEq vs σ1 σ2) : SlEq vs σ σ2 := ⟨b.1.trans a.1, fun i h => (b.2 i h).trans (a.2 i h)⟩
theorem SlEq.mono {vs ws : List Nat} {σ σ' : L2.St} (a : SlEq vs σ σ') (h : ∀ i ∈ vs, i ∈ ws) : SlEq ws σ σ' := ⟨a.1, fun i n => a.2 i fun m => n (h i m)⟩
theorem SlEq.set {vs : List Nat} {σ : L2.St} {i : Nat} {o : Option V} (h : i ∈ vs) : SlEq vs σ (σ.set i o) := ⟨List.length_set, fun j n => List.getElem?_set_ne fun e => n (by rw [← e]; exact h)⟩
def GPost (K : PySem.W.Frag) (G : Gd) (O : List Nat) (vs : List Nat) (A : Addr → Prop) (ms : Nat → Option Addr) (σ : L2.St) (H : Hp) (Q : L2.St → Hp → Prop) : R Unit → Prop
  | .ok _ ρ' => ∀ σ' H', SlEq vs σ σ' → RelS K G O A ms σ' H' ρ' → Kp O ms H H' → Q σ' H'
  | _ => False
def tG (K : PySem.W.Frag) (G : Gd) (O : List Nat) (vs : List Nat) (g : MG) : TG := fun v σ H Q => ∃ A ms ρ d, RelS K G O A ms σ H ρ ∧ Rp K A H v d ∧ GPost K G O vs A ms σ H Q (g d ρ)
def tGs (K : PySem.W.Frag) (G : Gd) (O : List Nat) (vs : List Nat) (g : List D → En → R Unit) : TGs := fun us σ H Q => ∃ A ms ρ ds, RelS K G O A ms σ H ρ ∧ RpA K A H us ds ∧ GPost K G O vs A ms σ H Q (g ds ρ)
def DG (X : Cx) (G : Gd) (O : List Nat) (vs : List Nat) (tg : Expr) (g : MG) : Prop := PG X tg (tG X.K G O vs g)
def DGs (X : Cx) (G : Gd) (O : List Nat) (vs : List Nat) (ts : List Expr) (g : List D → En → R Unit) : Prop := PGs X ts (tGs X.K G O vs g)
theorem pg_imp {X : Cx} {e : Expr} {t t' : TG} (h : PG X e t) (w : ∀ v σ H Q, t' v σ H Q → t v σ H Q) : PG X e t' := ⟨fun pins s σ H v u Q I r q => h.run pins s σ H v u Q I r (w v σ H Q q)⟩
theorem pgs_imp {X : Cx} {e : List Expr} {t t' : TGs} (h : PGs X e t) (w : ∀ v σ H Q, t' v σ H Q → t v σ H Q) : PGs X e t' := ⟨fun pins s σ H v u Q I r q => h.run pins s σ H v u Q I r (w v σ H Q q)⟩
theorem GPost.from {K : PySem.W.Frag} {G : Gd} {O : List Nat} {vs : List Nat} {A : Addr → Prop} {ms : Nat → Option Addr} {σ σ1 : L2.St} {H H1 : Hp} {Q : L2.St → Hp → Prop} {r : R Unit} (e : SlEq vs σ σ1) (k : Kp O ms H H1) (h : GPost K G O vs A ms σ H Q r) : GPost K G O vs A ms σ1 H1 Q r := by
  cases r with
  | ok u ρ => exact fun σ' H' e' R k' => h σ' H' (e.trans e') R (k.trans k')
  | ex _ _ => exact h
  | bad => exact h
theorem RelS.put {K : PySem.W.Frag} {G : Gd} {O : List Nat} {A : Addr → Prop} {ms : Nat → Option Addr} {σ : L2.St} {H : Hp} {ρ : En} {i : Nat} {v : V} {d : D} (R : RelS K G O A ms σ H ρ) (hi : i ∉ O) (hlt : i < ρ.length) (r : Rp K A H v d) : RelS K G O A ms (σ.set i (some v)) H (ρ.set i (some d)) := by
  have ne : ∀ {j : Nat}, j ∈ O → j ≠ i := fun {j} m z => hi (z ▸ m)
  have g : ∀ {j : Nat} {z : D}, j ∈ O → (ρ.set i (some d))[j]? = some (some z) → ρ[j]? = some (some z) := fun {j z} m e => by rw [set_get_ne (ne m)] at e; exact e
  exact {
    sub := R.sub
    trk0 := R.trk0
    trk := R.trk
    keep := R.keep
    len := by rw [List.length_set, List.length_set]; exact R.len
    fz := fun j z e n => by
      by_cases h : j = i
      · subst h
        rw [List.getElem?_set_self hlt] at e
        cases e
        exact ⟨v, List.getElem?_set_self (by rw [R.len]; exact hlt), r⟩
      · rw [set_get_ne h] at e
        obtain ⟨w, e1, q⟩ := R.fz j z e n
        exact ⟨w, by rw [List.getElem?_set_ne (Ne.symm h)]; exact e1, q⟩
    ow := fun j z e m => by
      obtain ⟨p, e0, e1, q⟩ := R.ow j z (g m e) m
      exact ⟨p, e0, by rw [List.getElem?_set_ne (Ne.symm (ne m))]; exact e1, q⟩
    inA := R.inA
    ok := R.ok
    dist := R.dist
    px := fun j a c e => let ⟨m, q⟩ := R.px j a c e; ⟨m, by rw [List.getElem?_set_ne (Ne.symm (ne m))]; exact q⟩
    io := fun p e => by
      obtain ⟨h1, h2, h3, z, h4⟩ := R.io p e
      exact ⟨h1, h2, h3, z, by rw [set_get_ne (ne h1)]; exact h4⟩ }
def mgName (i : Nat) : MG := fun d ρ => if i < ρ.length then .ok () (ρ.set i (some d)) else .bad
def mgNil : List D → En → R Unit := fun ds ρ => match ds with
  | [] => .ok () ρ
  | _ => .bad
def mgCons (g : MG) (gs : List D → En → R Unit) : List D → En → R Unit := fun ds ρ => match ds with
  | d :: r => (g d ρ).bind fun _ ρ1 => gs r ρ1
  | [] => .bad
def mgTup (n : Nat) (gs : List D → En → R Unit) : MG := fun d ρ => match d with
  | .tup ds => if ds.length = n then gs ds ρ else .bad
  | _ => .bad
section
variable {X : Cx} {G : Gd} {O vs : List Nat} {W : WX} {x : Str} {pos : Pos} {e : Expr} {es : List Expr} {g : MG} {gs : List D → En → R Unit}
theorem dg_name {i : Nat} (hv : vs.contains i = true) (hO : O.contains i = false) (hN : X.N.Nodup) (hi : X.N[i]? = some x) (hx : Loc X.env.scope x) (hf : X.fn x = true ∨ X.env.scope.names.lookup x = some .local := by first | exact .inl rfl | exact .inr rfl | assumption) : DG X G O vs (.Name x pos) (mgName i) := by
  refine pg_imp (pg_name hN hi hx hf) fun v σ H Q ⟨A, ms, ρ, d, R, r, q⟩ => ?_
  unfold mgName at q
  split at q
  · rename_i hl
    exact q _ _ (SlEq.set (List.contains_iff_mem.mp hv)) (R.put (fun z => by rw [List.contains_iff_mem.mpr z] at hO; cases hO) hl r) Kp.refl
  · exact q.elim
theorem dgs_nil : DGs X G O vs [] mgNil := pgs_imp pgs_nil fun us σ H Q ⟨A, ms, ρ, ds, R, r, q⟩ => by
  cases r with
  | nil => exact ⟨rfl, q _ _ SlEq.refl R Kp.refl⟩
  | cons _ _ => exact q.elim
theorem dgs_cons (h1 : DG X G O vs e g) (h2 : DGs X G O vs es gs) (hs : (assignEach (e :: es) X.env).map (·.2) = assign e X.env :: (assignEach es X.env).map (·.2) := by rfl) : DGs X G O vs (e :: es) (mgCons g gs) := by
  refine pgs_imp (pgs_cons h1 h2 hs) fun us σ H Q ⟨A, ms, ρ, ds, R, r, q⟩ => ?_
  cases r with
  | nil => exact q.elim
  | @cons v vr d dr r1 r2 =>
    refine ⟨_, _, rfl, A, ms, ρ, d, R, r1, ?_⟩
    have q' : GPost X.K G O vs A ms σ H Q ((g d ρ).bind fun _ ρ1 => gs dr ρ1) := q
    cases hg : g d ρ with
    | bad => rw [hg] at q'; exact q'.elim
    | ex y ρ1 => rw [hg] at q'; exact q'.elim
    | ok u ρ1 =>
      rw [hg] at q'
      have q : GPost X.K G O vs A ms σ H Q (gs dr ρ1) := q'
      exact fun σ' H' e' R' k => ⟨A, ms, ρ1, dr, R', r2.tr (R.kt k), GPost.from e' k q⟩
theorem dg_tup {k n : Nat} (hc : X.calm = true) (h : DGs X G O vs es gs) (hn : (assignEach es X.env).length = n := by rfl) (hst : (assignEach es X.env).findIdx? (·.1) = none := by rfl) : DG X G O vs (.Tuple es k pos) (mgTup n gs) := by
  refine pg_imp (pg_tup hc h hn hst) fun v σ H Q ⟨A, ms, ρ, d, R, r, q⟩ => ?_
  unfold mgTup at q
  split at q
  · split at q
    · rename_i ds hl
      cases r with
      | tup h1 h2 => exact ⟨_, _, rfl, h1.sq, by rw [h2.length]; exact hl, A, ms, ρ, ds, R, h2, q⟩
    · exact q.elim
  · exact q.elim
abbrev W0 : WX := fun _ _ _ _ => False
end
end DL
namespace DL
open L2 PySem PySem.Spec PyProof.Rows
def NPx (G : Gd) (j : Nat) : Prop := ∀ i a c, G.px = some (i, a, c) → i ≠ j
theorem NPx.no {G : Gd} {j : Nat} (h : G.px = none) : NPx G j := fun i a c e => by rw [h] at e; cases e
def obind {α : Type} (r : R α) (f : α → En → Out) : Out := match r with
  | .ok a ρ => f a ρ
  | .ex x ρ => .ex x ρ
  | .bad => .bad
def msNil : MS := fun ρ => .nx ρ
def msSeq (a b : MS) : MS := fun ρ => match a ρ with
  | .nx ρ1 => b ρ1
  | o => o
def msExpr (m : ME) : MS := fun ρ => obind (m ρ) fun _ ρ1 => .nx ρ1
def msAsg (m : ME) (g : MG) : MS := fun ρ => obind (m ρ) fun d ρ1 => match g d ρ1 with
  | .ok _ ρ2 => .nx ρ2
  | _ => .bad
def msOwn (i : Nat) (m : ME) : MS := fun ρ => obind (m ρ) fun d ρ1 => if i < ρ1.length then .nx (ρ1.set i (some d)) else .bad
def msRet (m : ME) : MS := fun ρ => obind (m ρ) fun d ρ1 => .rt d ρ1
def msRetN : MS := fun ρ => .rt .non ρ
def msRetO (j : Nat) : MS := fun ρ => match getO ρ j with
  | some d => .rt d ρ
  | none => .bad
def msIf (c : MT) (a b : MS) : MS := fun ρ => obind (c ρ) fun k ρ1 => if k = true then a ρ1 else b ρ1
def msBrk : MS := fun ρ => .bk ρ
def loopL (g : MG) (mb : MS) : List D → En → Out
  | [], ρ => .nx ρ
  | d :: r, ρ => match g d ρ with
    | .ok _ ρ1 => match mb ρ1 with
      | .nx ρ2 => loopL g mb r ρ2
      | .ct ρ2 => loopL g mb r ρ2
      | .bk ρ2 => .nx ρ2
      | o => o
    | _ => .bad
def msFor (mi : En → R (List D)) (g : MG) (mb : MS) : MS := fun ρ => obind (mi ρ) fun ds ρ1 => loopL g mb ds ρ1
def loopW (c : MT) (mb : MS) : Nat → En → Out
  | 0, _ => .bad
  | n + 1, ρ => match c ρ with
    | .ok true ρ1 => match mb ρ1 with
      | .nx ρ2 => loopW c mb n ρ2
      | .ct ρ2 => loopW c mb n ρ2
      | .bk ρ2 => .nx ρ2
      | o => o
    | .ok false ρ1 => .nx ρ1
    | .ex x ρ1 => .ex x ρ1
    | .bad => .bad
def msWhile (n : Nat) (c : MT) (mb : MS) : MS := loopW c mb n
section
variable {X : Cx} {G : Gd} {XC : List Nat → Prop} {Ol O O' O1 : List Nat} {W : WX} {fr : Bool} {st : Stmt} {sts rest : List Stmt} {ma mb mc : MS} {e c : Expr} {me : ME} {pos : Pos}
theorem dss_nil : DSs X G XC Ol O O W fr [] msNil := pss_imp pss_nil fun D0 σ H ⟨A, ms, ρ, R, q⟩ => q σ H A ms R Tr.refl
theorem dss_cons (h1 : DS X G XC Ol O O1 W fr st ma) (h2 : DSs X G XC Ol O1 O' W fr rest mb) : DSs X G XC Ol O O' W fr (st :: rest) (msSeq ma mb) := by
  refine pss_imp (pss_cons h1 h2) fun D0 σ H ⟨A, ms, ρ, R, q⟩ => ?_
  refine ⟨A, ms, ρ, R, ?_⟩
  unfold msSeq at q
  cases hm : ma ρ with
  | nx ρ1 =>
    rw [hm] at q
    exact fun σ' H' A' ms' R' t => ⟨A', ms', ρ1, R', SPost.from t q⟩
  | rt d ρ1 => rw [hm] at q; exact q
  | bk ρ1 => rw [hm] at q; exact q
  | ct ρ1 => rw [hm] at q; exact q
  | ex x ρ1 => rw [hm] at q; exact q
  | bad => rw [hm] at q; exact q.elim
theorem dss_one (h1 : DS X G XC Ol O O' W fr st ma) : DSs X G XC Ol O O' W fr [st] ma := pss_imp (pss_one h1) fun _ _ _ h => h
theorem eb {K : PySem.W.Frag} {α β : Type} {A : Addr → Prop} {ms : Nat → Option Addr} {σ : L2.St} {H : Hp} {D0 : Ends} {r : R α} {f : α → En → Out} {rel : Hp → β → α → Prop} {Q : β → Hp → Prop} (hx : XC O) (h : SPost K G XC Ol O' W fr A H D0 (obind r f))
    (w : ∀ a ρ1 v H1, r = .ok a ρ1 → RelS K G O A ms σ H1 ρ1 → Kp O ms H H1 → rel H1 v a → SPost K G XC Ol O' W fr A H1 D0 (f a ρ1) → Q v H1) : RPost K G O W A ms σ H rel Q r := by
  cases r with
  | ok a ρ1 => exact fun v H1 R k q => w a ρ1 v H1 rfl R k q (SPost.from (R.kt k) h)
  | ex x ρ1 => exact fun dx H1 R k xr => h dx σ H1 A ms O hx R (R.kt k) xr
  | bad => exact h
theorem ds_expr (hx : XC O) (he : DE X G O W e me) (hs : swapsWith e none pos.line X.env = pure false := by rfl) : DS X G XC Ol O O W fr (.Expr e pos) (msExpr me) := by
  refine ps_imp (ps_expr he hs) fun D0 σ H ⟨A, ms, ρ, R, q⟩ => ⟨A, ms, ρ, R, eb hx q ?_⟩
  exact fun a ρ1 v H1 _ R1 k r q1 => q1 σ H1 A ms R1 Tr.refl
theorem ds_brk : DS X G XC O O O' W fr (.Break pos) msBrk := ps_imp ps_break fun D0 σ H ⟨A, ms, ρ, R, q⟩ => q σ H A ms R Tr.refl
theorem ds_asg {tg : Expr} {g : MG} {vs : List Nat} (hx : XC O) (he : DE X G O W e me) (hg : DG X G O vs tg g) (hs : swapsWithSole [tg] e pos.line X.env = pure false := by rfl) (hw : swappedStores [tg] e X.env = pure none := by rfl) (h1 : (assignEach [tg] X.env).map (·.2) = [assign tg X.env] := by rfl) : DS X G XC Ol O O W fr (.Assign [tg] e pos) (msAsg me g) := by
  refine ps_imp (ps_asg he hg hs hw h1) fun D0 σ H ⟨A, ms, ρ, R, q⟩ => ⟨A, ms, ρ, R, eb hx q ?_⟩
  intro d ρ1 v H1 _ R1 k r q1
  refine ⟨A, ms, ρ1, d, R1, r, ?_⟩
  cases hg' : g d ρ1 with
  | ok u ρ2 =>
    rw [hg'] at q1
    exact fun σ' H' _ R' k' => q1 σ' H' A ms R' (R'.kt k')
  | ex y ρ2 => rw [hg'] at q1; exact q1.elim
  | bad => rw [hg'] at q1; exact q1.elim
theorem RelS.own {K : PySem.W.Frag} {A : Addr → Prop} {ms : Nat → Option Addr} {σ : L2.St} {H : Hp} {ρ : En} {i : Nat} {p : Addr} {d : D} (R : RelS K G O (fun a => A a ∨ a = p) ms σ H ρ) (hi : i ∈ O) (h0 : i ≠ 0 ∨ G.io = none) (hlt : i < ρ.length)
    (nm : ∀ j ∈ O, ms j ≠ some p) (hpx : NPx G i) (hp0 : G.H0 p = none) (ow : Own K (fun a => A a ∨ a = p) H p d) : RelS K G O (fun a => A a ∨ a = p) (fun j => if j = i then some p else ms j) (σ.set i (some (.ref p))) H (ρ.set i (some d)) := by
  have gne : ∀ {j : Nat} {z : D}, j ≠ i → (ρ.set i (some d))[j]? = some (some z) → ρ[j]? = some (some z) := fun {j z} n e => by rw [set_get_ne n] at e; exact e
  exact {
    sub := R.sub
    trk0 := R.trk0
    trk := R.trk
    keep := R.keep
    len := by rw [List.length_set, List.length_set]; exact R.len
    fz := fun j z e n => by
      have h : j ≠ i := fun q => n (q ▸ hi)
      obtain ⟨w, e1, q⟩ := R.fz j z (gne h e) n
      exact ⟨w, by rw [List.getElem?_set_ne (Ne.symm h)]; exact e1, q⟩
    ow := fun j z e m => by
      by_cases h : j = i
      · subst h
        rw [List.getElem?_set_self hlt] at e
        cases e
        exact ⟨p, if_pos rfl, List.getElem?_set_self (by rw [R.len]; exact hlt), ow⟩
      · obtain ⟨q, e0, e1, w⟩ := R.ow j z (gne h e) m
        exact ⟨q, (if_neg h).trans e0, by rw [List.getElem?_set_ne (Ne.symm h)]; exact e1, w⟩
    inA := fun j q m e => by
      by_cases h : j = i
      · rw [if_pos h] at e
        exact .inr (Option.some.inj e).symm
      · rw [if_neg h] at e
        exact R.inA j q m e
    ok := fun j q m e => by
      by_cases h : j = i
      · rw [if_pos h] at e
        cases e
        exact .inr ⟨h ▸ h0, hp0⟩
      · rw [if_neg h] at e
        exact R.ok j q m e
    dist := fun j j' q m m' e e' => by
      by_cases h : j = i
      · by_cases h' : j' = i
        · exact h.trans h'.symm
        · rw [if_pos h] at e
          rw [if_neg h'] at e'
          cases e
          exact absurd e' (nm j' m')
      · by_cases h' : j' = i
        · rw [if_neg h] at e
          rw [if_pos h'] at e'
          cases e'
          exact absurd e (nm j m)
        · rw [if_neg h] at e
          rw [if_neg h'] at e'
          exact R.dist j j' q m m' e e'
    px := fun j a c e => let ⟨m, q⟩ := R.px j a c e; ⟨m, by rw [List.getElem?_set_ne fun z => hpx j a c e z.symm]; exact q⟩
    io := fun q e => by
      obtain ⟨h1, h2, h3, z, h4⟩ := R.io q e
      have hi0 : (0 : Nat) ≠ i := fun w => by
        rcases h0 with k | k
        · exact k w.symm
        · rw [k] at e; cases e
      exact ⟨h1, h2, by rw [if_neg hi0]; exact h3, z, by rw [set_get_ne hi0]; exact h4⟩ }
theorem h0_none {K : PySem.W.Frag} {A : Addr → Prop} {ms : Nat → Option Addr} {σ : L2.St} {H : Hp} {ρ : En} {p : Addr} (R : RelS K G O A ms σ H ρ) (hp : H p = none) : G.H0 p = none := by
  cases e : G.H0 p with
  | none => rfl
  | some o =>
    by_cases q : G.io = some p
    · obtain ⟨_, h2, _⟩ := R.io p q
      obtain ⟨o', e'⟩ := R.trk p (R.sub p h2)
      rw [hp] at e'; cases e'
    · have := R.keep p o e q
      rw [hp] at this; cases this
theorem ds_own {i : Nat} {x : Str} {p : Pos} (hx : XC O) (he : DF X G O W e me) (hi : O.contains i = true) (h0 : i ≠ 0 ∨ G.io = none) (hN : X.N.Nodup) (hn : X.N[i]? = some x) (hl : Loc X.env.scope x)
    (hf : X.fn x = true ∨ X.env.scope.names.lookup x = some .local := by first | exact .inl rfl | exact .inr rfl | assumption)
    (hs : swapsWithSole [.Name x p] e pos.line X.env = pure false := by rfl) (hw : swappedStores [.Name x p] e X.env = pure none := by rfl) (hpx : NPx G i := by first | exact NPx.no rfl | assumption) : DS X G XC Ol O O W fr (.Assign [.Name x p] e pos) (msOwn i me) := by
  refine ps_imp (ps_asg he (pg_name hN hn hl hf) hs hw) fun D0 σ H ⟨A, ms, ρ, R, q⟩ => ⟨A, ms, ρ, R, ?_⟩
  unfold msOwn at q
  cases hm : me ρ with
  | bad => rw [hm] at q; exact q.elim
  | ex y ρ1 => rw [hm] at q; exact fun dx H1 R1 k xr => q dx σ H1 A ms O hx R1 (R1.kt k) xr
  | ok d ρ1 =>
    rw [hm] at q
    intro r H1 R1 R2 k hr ow
    have q' : SPost X.K G XC Ol O W fr A H D0 (if i < ρ1.length then .nx (ρ1.set i (some d)) else .bad) := q
    split at q'
    · rename_i hlt
      refine q' _ H1 _ _ (R2.own (List.contains_iff_mem.mp hi) h0 hlt (R.msne hr) hpx (h0_none R hr) ow) fun a o e n => ⟨(R1.kt k a o e n).1, fun z => z.elim n fun z => ?_⟩
      rw [z, hr] at e
      cases e
    · exact q'.elim
theorem ret_of {K : PySem.W.Frag} {A : Addr → Prop} {ms : Nat → Option Addr} {σ : L2.St} {H : Hp} {ρ : En} {v : V} {d : D} (R : RelS K G O A ms σ H ρ) (r : Rp K A H v d) : RetG K G false v H d (io0 ρ) := ⟨R.ki, r.less R.sub, fun p e => (R.ioOwn e).less R.sub⟩
theorem ds_ret (hx : XC O) (he : DE X G O W e me) : DS X G XC Ol O O' W false (.Return (some e) pos) (msRet me) := by
  refine ps_imp (ps_ret he) fun D0 σ H ⟨A, ms, ρ, R, q⟩ => ⟨A, ms, ρ, R, eb hx q ?_⟩
  exact fun d ρ1 v H1 _ R1 k r q1 => q1 v H1 (ret_of R1 r)
theorem ds_retO {j : Nat} {x : Str} {p : Pos} (hj : O.contains j = true) (h0 : j ≠ 0 ∨ G.io = none) (hy : PE X (.Name x p) (tVar j)) : DS X G XC Ol O O' W true (.Return (some (.Name x p)) pos) (msRetO j) := by
  refine ps_imp (ps_ret hy) fun D0 σ H ⟨A, ms, ρ, R, q⟩ => ?_
  unfold msRetO at q
  cases hc : getO ρ j with
  | none => rw [hc] at q; exact q.elim
  | some d =>
    rw [hc] at q
    have hj' := List.contains_iff_mem.mp hj
    have b := getO_some hc
    obtain ⟨p, e0, e1, oj⟩ := R.ow j d b hj'
    have aj := R.inA j p hj' e0
    have hp0 : G.H0 p = none := by
      rcases R.ok j p hj' e0 with ⟨z, w⟩ | ⟨_, w⟩
      · rcases h0 with k | k
        · exact absurd z k
        · rw [k] at w; cases w
      · exact w
    have less : ∀ a, (G.A0 a ∨ a = p) → A a := fun a z => z.elim (R.sub a) fun z => z ▸ aj
    exact ⟨_, e1, q (.ref p) H ⟨R.ki, p, rfl, hp0, oj.less less, fun p e => (R.ioOwn e).less less⟩⟩
theorem ds_if {mt : MT} {a b : List Stmt} (hx : XC O) (hc : DT X G O W c mt) (ha : DSs X G XC Ol O O' W fr a ma) (hb : DSs X G XC Ol O O' W fr b mb) : DS X G XC Ol O O' W fr (.If c a b pos) (msIf mt ma mb) := by
  refine ps_imp (ps_if hc ha hb) fun D0 σ H ⟨A, ms, ρ, R, q⟩ => ⟨A, ms, ρ, R, eb hx q ?_⟩
  intro k ρ1 v H1 _ R1 k1 r q1
  cases r
  cases k with
  | true => exact ⟨A, ms, ρ1, R1, q1⟩
  | false => exact ⟨A, ms, ρ1, R1, q1⟩
def ItOk (K : PySem.W.Frag) (A : Addr → Prop) (H : Hp) (J : It) (ds : List D) : Prop := ∀ A' H', Tr A A' H H' → Trk A' H' → (∀ i d, ds[i]? = some d → J.go i H' ∧ ∀ x H'', J.yld i H' x H'' → Same H' H'' ∧ Rp K A' H'' x d) ∧ J.stop ds.length H'
def tI (K : PySem.W.Frag) (G : Gd) (O : List Nat) (W : WX) (m : En → R (List D)) : TI := fun σ H Q => ∃ A ms ρ, RelS K G O A ms σ H ρ ∧ RPost K G O W A ms σ H (fun H' J ds => ItOk K A H' J ds) Q (m ρ)
def DI (X : Cx) (G : Gd) (O : List Nat) (W : WX) (tg e : Expr) (m : En → R (List D)) : Prop := PI X tg e (tI X.K G O W m)
theorem pi_imp {tg e : Expr} {t t' : TI} (h : PI X tg e t) (w : ∀ σ H Q, t' σ H Q → t σ H Q) : PI X tg e t' := ⟨fun pins s σ H R I q => h.run pins s σ H R I (w σ H R q)⟩
theorem ItOk.tr {K : PySem.W.Frag} {A A1 : Addr → Prop} {H H1 : Hp} {J : It} {ds : List D} (h : ItOk K A H J ds) (t : Tr A A1 H H1) : ItOk K A1 H1 J ds := fun A' H' t' => h A' H' (t.trans t')
theorem ds_for {tg iter : Expr} {vs : List Nat} {body : List Stmt} {mi : En → R (List D)} {g : MG} (hx : XC O) (hp : PassesOwn (model X.prog X.w) X.A X.env X.xe) (hc : X.calm = true) (hi : DI X G O W tg iter mi) (hg : DG X G O vs tg g) (hb : DSs X G XC O O O W fr body mb)
    (hs : ∀ x, foldedSetIterable iter X.env x = pure x := by intro _; rfl) : DS X G XC Ol O O W fr (.For tg iter body [] pos) (msFor mi g mb) := by
  refine ps_imp (ps_for hp hc hi hg hb hs) fun D0 σ H ⟨A, ms, ρ, R, q⟩ => ⟨A, ms, ρ, R, eb hx q ?_⟩
  intro ds ρ1 J H1 _ R1 k1 itok q1
  refine ⟨fun i m σ' H' => i ≤ ds.length ∧ m = ds.length - i ∧ ∃ A' ms' ρ', RelS X.K G O A' ms' σ' H' ρ' ∧ Tr A A' H1 H' ∧ SPost X.K G XC Ol O W fr A' H' D0 (loopL g mb (ds.drop i) ρ'),
    ⟨ds.length, Nat.zero_le _, rfl, A, ms, ρ1, R1, Tr.refl, q1⟩, ?_⟩
  rintro i m σ2 H2 ⟨hi, rfl, A2, ms2, ρ2, R2, t2, q2⟩
  obtain ⟨goes, stops⟩ := itok A2 H2 t2 R2.trk
  by_cases hlt : i < ds.length
  · have hd : ds[i]? = some ds[i] := List.getElem?_eq_getElem hlt
    obtain ⟨go, yl⟩ := goes i _ hd
    have e : ds.drop i = ds[i] :: ds.drop (i + 1) := List.drop_eq_getElem_cons hlt
    rw [e] at q2
    refine .inr ⟨go, fun σ' H' => i + 1 ≤ ds.length ∧ ∃ A' ms' ρ', RelS X.K G O A' ms' σ' H' ρ' ∧ Tr A A' H1 H' ∧ SPost X.K G XC Ol O W fr A' H' D0 (loopL g mb (ds.drop (i + 1)) ρ'), fun σ' H' ⟨w1, w2⟩ => ⟨ds.length - (i + 1), by omega, w1, rfl, w2⟩, fun x H3 hy => ?_⟩
    obtain ⟨s3, rx⟩ := yl x H3 hy
    refine ⟨A2, ms2, ρ2, ds[i], R2.same s3, rx, ?_⟩
    have q3 : SPost X.K G XC Ol O W fr A2 H3 D0 (match g ds[i] ρ2 with
      | .ok _ ρ1 => match mb ρ1 with
        | .nx ρ2 => loopL g mb (ds.drop (i + 1)) ρ2
        | .ct ρ2 => loopL g mb (ds.drop (i + 1)) ρ2
        | .bk ρ2 => .nx ρ2
        | o => o
      | _ => .bad) := SPost.from (Tr.same s3) q2
    have t3 : Tr A A2 H1 H3 := t2.trans (Tr.same s3)
    cases hgd : g ds[i] ρ2 with
    | bad => rw [hgd] at q3; exact q3.elim
    | ex y ρ3 => rw [hgd] at q3; exact q3.elim
    | ok u ρ3 =>
      rw [hgd] at q3
      intro σ4 H4 _ R4 k4
      refine ⟨A2, ms2, ρ3, R4, ?_⟩
      have t4 : Tr A A2 H1 H4 := t3.trans (R4.kt k4)
      have q4 := SPost.from (R4.kt k4) q3
      cases hm : mb ρ3 with
      | nx ρ5 =>
        simp only [hm] at q4
        exact fun σ' H' A' ms' R' t => ⟨hlt, A', ms', ρ5, R', t4.trans t, SPost.from t q4⟩
      | ct ρ5 =>
        simp only [hm] at q4
        exact fun σ' H' A' ms' R' t => ⟨hlt, A', ms', ρ5, R', t4.trans t, SPost.from t q4⟩
      | bk ρ5 =>
        simp only [hm] at q4
        exact fun σ' H' A' ms' R' t => q4 σ' H' A' ms' R' t
      | rt d ρ5 => simp only [hm] at q4; exact q4
      | ex y ρ5 => simp only [hm] at q4; exact q4
      | bad => simp only [hm] at q4; exact q4.elim
  · have e : i = ds.length := by omega
    subst e
    refine .inl ⟨stops, ?_⟩
    have q3 : SPost X.K G XC Ol O W fr A2 H2 D0 (loopL g mb (ds.drop ds.length) ρ2) := q2
    rw [List.drop_length] at q3
    exact q3 σ2 H2 A2 ms2 R2 Tr.refl
theorem ds_while {mt : MT} {body : List Stmt} (n : Nat) (hx : XC O) (hp : PassesOwn (model X.prog X.w) X.A X.env X.xe) (hc : DT X G O W c mt) (hb : DSs X G XC O O O W fr body mb) : DS X G XC Ol O O W fr (.While c body [] pos) (msWhile n mt mb) := by
  refine ps_imp (ps_while hp hc hb) fun D0 σ H ⟨A, ms, ρ, R, q⟩ => ?_
  refine ⟨fun m σ' H' => ∃ A' ms' ρ', RelS X.K G O A' ms' σ' H' ρ' ∧ SPost X.K G XC Ol O W fr A' H' D0 (loopW mt mb m ρ'), ⟨n, A, ms, ρ, R, q⟩, ?_⟩
  rintro m σ1 H1 ⟨A1, ms1, ρ1, R1, q1⟩
  cases m with
  | zero => exact q1.elim
  | succ m =>
    refine ⟨A1, ms1, ρ1, R1, ?_⟩
    have q2 : SPost X.K G XC Ol O W fr A1 H1 D0 (match mt ρ1 with
      | .ok true ρ1 => match mb ρ1 with
        | .nx ρ2 => loopW mt mb m ρ2
        | .ct ρ2 => loopW mt mb m ρ2
        | .bk ρ2 => .nx ρ2
        | o => o
      | .ok false ρ1 => .nx ρ1
      | .ex x ρ1 => .ex x ρ1
      | .bad => .bad) := q1
    cases hm : mt ρ1 with
    | bad => rw [hm] at q2; exact q2.elim
    | ex y ρ2 => rw [hm] at q2; exact fun dx H' R' k xr => q2 dx σ1 H' A1 ms1 O hx R' (R'.kt k) xr
    | ok b ρ2 =>
      rw [hm] at q2
      intro v H2 R2 k2 rv
      cases rv
      have q3 := SPost.from (R2.kt k2) q2
      cases b with
      | false => exact q3 σ1 H2 A1 ms1 R2 Tr.refl
      | true =>
        rw [if_pos rfl]
        refine ⟨fun σ' H' => ∃ A' ms' ρ', RelS X.K G O A' ms' σ' H' ρ' ∧ SPost X.K G XC Ol O W fr A' H' D0 (loopW mt mb m ρ'), fun σ' H' w => ⟨m, Nat.lt_succ_self _, w⟩, A1, ms1, ρ2, R2, ?_⟩
        cases hb' : mb ρ2 with
        | nx ρ5 =>
          simp only [hb'] at q3
          exact fun σ' H' A' ms' R' t => ⟨A', ms', ρ5, R', SPost.from t q3⟩
        | ct ρ5 =>
          simp only [hb'] at q3
          exact fun σ' H' A' ms' R' t => ⟨A', ms', ρ5, R', SPost.from t q3⟩
        | bk ρ5 =>
          simp only [hb'] at q3
          exact fun σ' H' A' ms' R' t => q3 σ' H' A' ms' R' t
        | rt d ρ5 => simp only [hb'] at q3; exact q3
        | ex y ρ5 => simp only [hb'] at q3; exact q3
        | bad => simp only [hb'] at q3; exact q3.elim
theorem RelS.forget {K : PySem.W.Frag} {A : Addr → Prop} {ms : Nat → Option Addr} {σ : L2.St} {H : Hp} {ρ : En} {j : Nat} (R : RelS K G O A ms σ H ρ) (hpx : NPx G j) (h0 : j ≠ 0 ∨ G.io = none) (hO : ∀ i, i ≠ j → (i ∈ O1 ↔ i ∈ O)) :
    RelS K G O1 A (fun i => if i = j then none else ms i) σ H (ρ.set j none) := by
  have ne : ∀ {i : Nat} {z : D}, (ρ.set j none)[i]? = some (some z) → i ≠ j := fun {i z} e h => by
    subst h
    by_cases hl : i < ρ.length
    · rw [List.getElem?_set_self hl] at e; cases e
    · rw [List.getElem?_eq_none (by rw [List.length_set]; omega)] at e; cases e
  have g : ∀ {i : Nat} {z : D}, (ρ.set j none)[i]? = some (some z) → ρ[i]? = some (some z) := fun {i z} e => by
    have e' := e
    rw [set_get_ne (ne e)] at e'
    exact e'
  have sm : ∀ {i : Nat} {p : Addr}, (if i = j then none else ms i) = some p → i ≠ j ∧ ms i = some p := fun {i p} e => by
    by_cases h : i = j
    · rw [if_pos h] at e; cases e
    · rw [if_neg h] at e; exact ⟨h, e⟩
  exact {
    sub := R.sub
    trk0 := R.trk0
    trk := R.trk
    keep := R.keep
    len := by rw [List.length_set]; exact R.len
    fz := fun i z e n => R.fz i z (g e) fun m => n ((hO i (ne e)).mpr m)
    ow := fun i z e m => by
      obtain ⟨p, e0, e1, w⟩ := R.ow i z (g e) ((hO i (ne e)).mp m)
      exact ⟨p, (if_neg (ne e)).trans e0, e1, w⟩
    inA := fun i p m e => R.inA i p ((hO i (sm e).1).mp m) (sm e).2
    ok := fun i p m e => R.ok i p ((hO i (sm e).1).mp m) (sm e).2
    dist := fun i i' p m m' e e' => R.dist i i' p ((hO i (sm e).1).mp m) ((hO i' (sm e').1).mp m') (sm e).2 (sm e').2
    px := fun i a c e => let ⟨m, q⟩ := R.px i a c e; ⟨(hO i (hpx i a c e)).mpr m, q⟩
    io := fun p e => by
      obtain ⟨h1, h2, h3, z, h4⟩ := R.io p e
      have n0 : (0 : Nat) ≠ j := fun w => by
        rcases h0 with k | k
        · exact k w.symm
        · rw [k] at e; cases e
      exact ⟨(hO 0 n0).mpr h1, h2, (if_neg n0).trans h3, z, by rw [set_get_ne n0]; exact h4⟩ }
def msForget (j : Nat) (m : MS) : MS := fun ρ => m (ρ.set j none)
theorem dss_forgetO (j : Nat) (h0 : j ≠ 0 ∨ G.io = none) (h : DSs X G XC Ol (j :: O) O' W fr sts ma) (hpx : NPx G j := by first | exact NPx.no rfl | assumption) : DSs X G XC Ol O O' W fr sts (msForget j ma) := by
  refine pss_imp h fun D0 σ H ⟨A, ms, ρ, R, q⟩ => ?_
  exact ⟨A, _, _, R.forget hpx h0 fun i hi => by simp [hi], q⟩
end
end DL
namespace DL
open L2 PySem PySem.Spec PyProof.Rows
def chars (s : Str) : List D := s.cps.toList.map fun c => .str ⟨#[c]⟩
def gIter : D → Option (List D)
  | .lst l => some l
  | .scr l => some l
  | .tup l => some l
  | .str s => some (chars s)
  | _ => none
def mIter (m : ME) : En → R (List D) := fun ρ => (m ρ).bind fun d ρ1 => ret (gIter d) ρ1
def rangeL (lo : Int) (n : Nat) : List D := (List.range n).map fun i => .int (lo + (i : Nat))
def okR (i : Int) : Bool := decide (-(2 ^ 62) ≤ i) && decide (i < 2 ^ 62)
def gRange1 : List D → Option (List D)
  | [.int j] => if okR j = true then some (rangeL 0 j.toNat) else none
  | _ => none
def mItN (g : List D → Option (List D)) (args : MA) : En → R (List D) := fun ρ => (args ρ).bind fun ds ρ1 => ret (g ds) ρ1
section
variable {X : Cx} {G : Gd} {O : List Nat} {W : WX} {a b e : Expr} {es : List Expr} {me : ME} {mr : MA} {tg : Expr} {p pos tpos : Pos} {elts : List Expr} {kk : Nat}
theorem pi_or {t1 t2 : TI} (h1 : PI X tg e t1) (h2 : PI X tg e t2) : PI X tg e (fun σ H Q => t1 σ H Q ∨ t2 σ H Q) := ⟨fun pins s σ H Q I q => q.elim (h1.run pins s σ H Q I) (h2.run pins s σ H Q I)⟩
theorem sql_at {K : PySem.W.Frag} {A A' : Addr → Prop} {H H' : Hp} {a : Addr} {xs : List V} (h : SqLA K A H a xs) (t : Tr A A' H H') : SqL K H' a xs := (h.tr t).sq
theorem itok_list {K : PySem.W.Frag} {A : Addr → Prop} {H : Hp} {a : Addr} {xs : List V} {ds : List D} (h : SqLA K A H a xs) (r : RpA K A H xs ds) : ItOk K A H (Itl K a) ds := by
  intro A' H' t tk
  have h' := sql_at h t
  have hl := r.length
  refine ⟨fun i d e => ?_, ⟨xs, h', Nat.le_of_eq hl⟩⟩
  obtain ⟨v, e1, rv⟩ := r.get e
  refine ⟨⟨xs, v, h', e1⟩, fun x H'' ⟨eq, y⟩ => ?_⟩
  subst eq
  have := y xs h'
  rw [e1] at this
  cases this
  exact ⟨Same.refl _, rv.tr t⟩
theorem itok_tup {K : PySem.W.Frag} {A : Addr → Prop} {H : Hp} {a : Addr} {xs : List V} {ds : List D} (h : SqTA K A H a xs) (r : RpA K A H xs ds) : ItOk K A H (Itt K a) ds := by
  intro A' H' t tk
  have h' := (h.tr t).sq
  have hl := r.length
  refine ⟨fun i d e => ?_, ⟨xs, h', Nat.le_of_eq hl⟩⟩
  obtain ⟨v, e1, rv⟩ := r.get e
  refine ⟨⟨xs, v, h', e1⟩, fun x H'' ⟨eq, y⟩ => ?_⟩
  subst eq
  have := y xs h'
  rw [e1] at this
  cases this
  exact ⟨Same.refl _, rv.tr t⟩
theorem itok_str {K : PySem.W.Frag} {A : Addr → Prop} {H : Hp} (s : Str) : ItOk K A H (Its s) (chars s) := by
  intro A' H' t tk
  have hl : (chars s).length = s.cps.size := by unfold chars; rw [List.length_map, Array.length_toList]
  refine ⟨fun i d e => ?_, by show s.cps.size ≤ (chars s).length; omega⟩
  have hi := (List.getElem?_eq_some_iff.mp e).1
  refine ⟨by show i < s.cps.size; omega, fun x H'' ⟨eq, c, hc, hx⟩ => ?_⟩
  subst eq hx
  refine ⟨Same.refl _, ?_⟩
  unfold chars at e
  rw [List.getElem?_map, Array.getElem?_toList, hc] at e
  cases e
  exact .str _
theorem itok_rng {K : PySem.W.Frag} {A : Addr → Prop} {H : Hp} (lo : Int) (n : Nat) : ItOk K A H (Itr lo n) (rangeL lo n) := by
  intro A' H' t tk
  have hl : (rangeL lo n).length = n := by unfold rangeL; rw [List.length_map, List.length_range]
  refine ⟨fun i d e => ?_, by show n ≤ (rangeL lo n).length; omega⟩
  have hi := (List.getElem?_eq_some_iff.mp e).1
  refine ⟨by show i < n; omega, fun x H'' ⟨eq, hx⟩ => ?_⟩
  subst eq hx
  refine ⟨Same.refl _, ?_⟩
  unfold rangeL at e
  rw [List.getElem?_map, List.getElem?_range (by omega)] at e
  cases e
  exact .int _
theorem di_seq (he : DE X G O W e me) : DI X G O W tg e (mIter me) := by
  refine pi_imp (pi_or (pi_list he) (pi_or (pi_tup he) (pi_str he))) fun σ H Q ⟨A, ms, ρ, R, q⟩ => ?_
  unfold mIter at q
  cases hm : me ρ with
  | bad => rw [hm] at q; exact q.elim
  | ex x ρ1 =>
    rw [hm] at q
    exact .inl ⟨A, ms, ρ, R, by rw [hm]; exact q⟩
  | ok d ρ1 =>
    rw [hm] at q
    cases d with
    | lst l =>
      refine .inl ⟨A, ms, ρ, R, ?_⟩
      rw [hm]
      intro v H1 R1 k1 r1
      cases r1 with
      | lst h1 n1 rr => exact ⟨_, rfl, ⟨_, SqL.of h1⟩, q _ H1 R1 k1 (itok_list (.inl ⟨.inl h1, n1⟩) rr)⟩
    | scr l =>
      refine .inl ⟨A, ms, ρ, R, ?_⟩
      rw [hm]
      intro v H1 R1 k1 r1
      cases r1 with
      | scr h1 rr => exact ⟨_, rfl, ⟨_, h1.sq⟩, q _ H1 R1 k1 (itok_list h1 rr)⟩
    | tup l =>
      refine .inr (.inl ⟨A, ms, ρ, R, ?_⟩)
      rw [hm]
      intro v H1 R1 k1 r1
      cases r1 with
      | tup h1 rr => exact ⟨_, rfl, ⟨_, h1.sq⟩, q _ H1 R1 k1 (itok_tup h1 rr)⟩
    | str z =>
      refine .inr (.inr ⟨A, ms, ρ, R, ?_⟩)
      rw [hm]
      intro v H1 R1 k1 r1
      cases r1
      exact ⟨_, rfl, q _ H1 R1 k1 (itok_str z)⟩
    | _ => exact q.elim
theorem okR_ok {i : Int} (h : okR i = true) : -(2 ^ 62) ≤ i ∧ i < 2 ^ 62 := by
  unfold okR at h
  rw [Bool.and_eq_true] at h
  exact ⟨of_decide_eq_true h.1, of_decide_eq_true h.2⟩
theorem ite_l {α : Type} {c : Prop} [Decidable c] {x d : α} (h : (if c then some x else none) = some d) : c ∧ x = d := by
  by_cases q : c
  · rw [if_pos q] at h
    exact ⟨q, Option.some.inj h⟩
  · rw [if_neg q] at h
    cases h
theorem itn_go {t : TA} {g : List D → Option (List D)} {K : PySem.W.Frag} (ht : ∀ σ H Q, tA K G O W mr σ H Q → t σ H Q) {σ : L2.St} {H : Hp} {Q : It → Hp → Prop} {P : List V → Hp → Prop} (h : tI K G O W (mItN g mr) σ H Q)
    (w : ∀ A vs ds l H1, Trk A H1 → RpA K A H1 vs ds → g ds = some l → (∀ J, ItOk K A H1 J l → Q J H1) → P vs H1) : t σ H P := by
  obtain ⟨A, ms, ρ, R, q⟩ := h
  refine ht _ _ _ ⟨A, ms, ρ, R, q.bind.mono ?_⟩
  rintro vs H1 ⟨ds, ρ1, R1, k1, r1, q1⟩
  obtain ⟨l, hl, q2⟩ := rp_of (rel := fun H' J ds => ItOk K A H' J ds) R1 q1
  exact w A vs ds l H1 R1.trk r1 hl fun J it => q2 J H1 (Same.refl _) it
theorem di_range1 (hg : Gl X "range") (hm : X.mg "range" = none) (ha : DA X G O W [a] mr) (hs : starEach [a] X.env = [(false, eval a X.env)] := by rfl) : DI X G O W tg (.Call (.Name "range" p) [a] [] pos) (mItN gRange1 mr) := by
  refine pi_imp (pi_range1 hg hm ha hs) fun σ H Q h => itn_go (fun _ _ _ z => z) h fun A vs ds l H1 tk r hl q => ?_
  unfold gRange1 at hl
  split at hl
  · obtain ⟨hj, rfl⟩ := ite_l hl
    cases r with
    | cons r r' =>
      cases r'
      cases r
      exact ⟨_, rfl, (okR_ok hj).1, (okR_ok hj).2, q _ (itok_rng _ _)⟩
  · cases hl
def wipeE (ρ : En) : List Nat → En
  | [] => ρ
  | v :: vs => (wipeE ρ vs).set v none
def restE (ρ0 : En) : List Nat → En → En
  | [], ρ => ρ
  | v :: vs, ρ => (restE ρ0 vs ρ).set v (match ρ0[v]? with
    | some o => o
    | none => none)
def lcLoop (vs : List Nat) (g : MG) (mt : MT) (me : ME) : List D → En → R (List D)
  | [], ρ => .ok [] ρ
  | d :: r, ρ => match g d (wipeE ρ vs) with
    | .ok _ ρ1 => match mt ρ1 with
      | .ok true ρ2 => match me ρ2 with
        | .ok y ρ3 => match lcLoop vs g mt me r ρ3 with
          | .ok ys ρ4 => .ok (y :: ys) ρ4
          | _ => .bad
        | _ => .bad
      | .ok false ρ2 => lcLoop vs g mt me r ρ2
      | _ => .bad
    | _ => .bad
def mLc (vs : List Nat) (mi : En → R (List D)) (g : MG) (mt : MT) (me : ME) : ME := fun ρ => (mi ρ).bind fun ds ρ1 => match lcLoop vs g mt me ds ρ1 with
  | .ok ys ρ2 => if ys.length ≤ sizeLine then .ok (.lst ys) (restE ρ1 vs ρ2) else .bad
  | _ => .bad
def mYes : MT := fun ρ => .ok true ρ
theorem RelS.unset {K : PySem.W.Frag} {A : Addr → Prop} {ms : Nat → Option Addr} {σ : L2.St} {H : Hp} {ρ : En} {i : Nat} (R : RelS K G O A ms σ H ρ) (hi : i ∉ O) : RelS K G O A ms (σ.set i none) H (ρ.set i none) := by
  have ne : ∀ {j : Nat}, j ∈ O → j ≠ i := fun {j} m z => hi (z ▸ m)
  have g : ∀ {j : Nat} {z : D}, j ∈ O → (ρ.set i none)[j]? = some (some z) → ρ[j]? = some (some z) := fun {j z} m e => by rw [set_get_ne (ne m)] at e; exact e
  exact {
    sub := R.sub
    trk0 := R.trk0
    trk := R.trk
    keep := R.keep
    len := by rw [List.length_set, List.length_set]; exact R.len
    fz := fun j z e n => by
      by_cases h : j = i
      · subst h
        by_cases hl : j < ρ.length
        · rw [List.getElem?_set_self hl] at e; cases e
        · rw [List.getElem?_eq_none (by rw [List.length_set]; omega)] at e; cases e
      · rw [set_get_ne h] at e
        obtain ⟨w, e1, q⟩ := R.fz j z e n
        exact ⟨w, by rw [List.getElem?_set_ne (Ne.symm h)]; exact e1, q⟩
    ow := fun j z e m => by
      obtain ⟨p, e0, e1, q⟩ := R.ow j z (g m e) m
      exact ⟨p, e0, by rw [List.getElem?_set_ne (Ne.symm (ne m))]; exact e1, q⟩
    inA := R.inA
    ok := R.ok
    dist := R.dist
    px := fun j a c e => let ⟨m, q⟩ := R.px j a c e; ⟨m, by rw [List.getElem?_set_ne (Ne.symm (ne m))]; exact q⟩
    io := fun p e => by
      obtain ⟨h1, h2, h3, z, h4⟩ := R.io p e
      exact ⟨h1, h2, h3, z, by rw [set_get_ne (ne h1)]; exact h4⟩ }
theorem RelS.wipe {K : PySem.W.Frag} {A : Addr → Prop} {ms : Nat → Option Addr} {σ : L2.St} {H : Hp} {ρ : En} (R : RelS K G O A ms σ H ρ) : ∀ vs : List Nat, (∀ i ∈ vs, i ∉ O) → RelS K G O A ms (L2.wipe σ vs) H (wipeE ρ vs)
  | [], _ => R
  | v :: vs, h => (RelS.wipe R vs fun i m => h i (List.mem_cons_of_mem _ m)).unset (h v List.mem_cons_self)
theorem restE_len (ρ0 ρ : En) : ∀ vs, (restE ρ0 vs ρ).length = ρ.length
  | [] => rfl
  | v :: vs => by unfold restE; rw [List.length_set, restE_len ρ0 ρ vs]
theorem restE_out {ρ0 ρ : En} {i : Nat} : ∀ {vs : List Nat}, i ∉ vs → (restE ρ0 vs ρ)[i]? = ρ[i]?
  | [], _ => rfl
  | v :: vs, h => by
    unfold restE
    rw [set_get_ne fun e => h (by rw [e]; exact List.mem_cons_self)]
    exact restE_out fun m => h (List.mem_cons_of_mem _ m)
theorem restE_in {ρ0 ρ : En} (hl : ρ.length = ρ0.length) {i : Nat} : ∀ {vs : List Nat}, i ∈ vs → (restE ρ0 vs ρ)[i]? = ρ0[i]?
  | v :: vs, h => by
    unfold restE
    by_cases e : i = v
    · subst e
      by_cases hi : i < ρ0.length
      · rw [List.getElem?_set_self (by rw [restE_len, hl]; exact hi), List.getElem?_eq_getElem hi]
      · rw [List.getElem?_eq_none (by rw [List.length_set, restE_len, hl]; omega), List.getElem?_eq_none (by omega)]
    · rw [set_get_ne e]
      exact restE_in hl ((List.mem_cons.mp h).resolve_left e)
theorem wipe_get {σ : L2.St} {i : Nat} : ∀ {vs : List Nat}, i ∉ vs → (L2.wipe σ vs)[i]? = σ[i]?
  | [], _ => rfl
  | v :: vs, h => by
    show ((L2.wipe σ vs).set v none)[i]? = _
    rw [List.getElem?_set_ne fun e => h (by rw [← e]; exact List.mem_cons_self)]
    exact wipe_get fun m => h (List.mem_cons_of_mem _ m)
theorem wipe_at {σ : L2.St} {i : Nat} : ∀ {vs : List Nat}, i ∈ vs → i < σ.length → (L2.wipe σ vs)[i]? = some none
  | v :: vs, h, hl => by
    show ((L2.wipe σ vs).set v none)[i]? = _
    by_cases e : i = v
    · subst e
      exact List.getElem?_set_self (by rw [L2.wipe_length]; exact hl)
    · rw [List.getElem?_set_ne fun q => e q.symm]
      exact wipe_at ((List.mem_cons.mp h).resolve_left e) hl
theorem wipe_eq {σ σ2 : L2.St} {vs : List Nat} (h : SlEq vs (L2.wipe σ vs) σ2) : L2.wipe σ2 vs = L2.wipe σ vs := by
  apply List.ext_getElem?
  intro i
  have hl : σ2.length = σ.length := by rw [h.1, L2.wipe_length]
  by_cases m : i ∈ vs
  · by_cases hi : i < σ.length
    · rw [wipe_at m (by rw [hl]; exact hi), wipe_at m hi]
    · rw [List.getElem?_eq_none (by rw [L2.wipe_length, hl]; omega), List.getElem?_eq_none (by rw [L2.wipe_length]; omega)]
  · rw [wipe_get m, h.2 i m]
theorem RelS.rest {K : PySem.W.Frag} {A A' : Addr → Prop} {ms : Nat → Option Addr} {σ : L2.St} {H1 H : Hp} {ρ0 ρ : En} {vs : List Nat} (hv : ∀ i ∈ vs, i ∉ O) (R0 : RelS K G O A' ms σ H1 ρ0) (t : Tr A' A H1 H) (R : RelS K G O A ms (L2.wipe σ vs) H (wipeE ρ vs)) (hl : ρ.length = ρ0.length) :
    RelS K G O A ms σ H (restE ρ0 vs ρ) := by
  have wE : ∀ {i : Nat}, i ∉ vs → (wipeE ρ vs)[i]? = ρ[i]? := fun {i} => by
    induction vs with
    | nil => exact fun _ => rfl
    | cons v vs ih =>
      intro h
      show ((wipeE ρ vs).set v none)[i]? = _
      rw [set_get_ne fun e => h (by rw [e]; exact List.mem_cons_self)]
      have : ∀ vs : List Nat, i ∉ vs → (wipeE ρ vs)[i]? = ρ[i]? := fun vs => by
        induction vs with
        | nil => exact fun _ => rfl
        | cons v vs ih2 =>
          intro h
          show ((wipeE ρ vs).set v none)[i]? = _
          rw [set_get_ne fun e => h (by rw [e]; exact List.mem_cons_self)]
          exact ih2 fun m => h (List.mem_cons_of_mem _ m)
      exact this vs fun m => h (List.mem_cons_of_mem _ m)
  have g : ∀ {i : Nat}, i ∈ O → (restE ρ0 vs ρ)[i]? = (wipeE ρ vs)[i]? := fun {i} m => by
    have nv : i ∉ vs := fun z => hv i z m
    rw [restE_out nv, wE nv]
  exact {
    sub := R.sub
    trk0 := R.trk0
    trk := R.trk
    keep := R.keep
    len := by rw [restE_len, hl]; exact R0.len
    fz := fun i d e n => by
      by_cases m : i ∈ vs
      · rw [restE_in hl m] at e
        obtain ⟨v, e1, q⟩ := R0.fz i d e n
        exact ⟨v, e1, q.tr t⟩
      · rw [restE_out m, ← wE m] at e
        obtain ⟨v, e1, q⟩ := R.fz i d e n
        rw [wipe_get m] at e1
        exact ⟨v, e1, q⟩
    ow := fun i d e m => by
      rw [g m] at e
      obtain ⟨p, e0, e1, q⟩ := R.ow i d e m
      rw [wipe_get fun z => hv i z m] at e1
      exact ⟨p, e0, e1, q⟩
    inA := R.inA
    ok := R.ok
    dist := R.dist
    px := R0.px
    io := fun p e => by
      obtain ⟨h1, h2, h3, z, h4⟩ := R.io p e
      exact ⟨h1, h2, h3, z, by rw [g h1]; exact h4⟩ }
end
end DL
namespace DL
open L2 PySem PySem.Spec PyProof.Rows
section
variable {X : Cx} {G : Gd} {O : List Nat} {W : WX}
theorem wipeE_out {ρ : En} {i : Nat} : ∀ {vs : List Nat}, i ∉ vs → (wipeE ρ vs)[i]? = ρ[i]?
  | [], _ => rfl
  | v :: vs, h => by
    show ((wipeE ρ vs).set v none)[i]? = _
    rw [set_get_ne fun e => h (by rw [e]; exact List.mem_cons_self)]
    exact wipeE_out fun m => h (List.mem_cons_of_mem _ m)
theorem wipeE_len (ρ : En) : ∀ vs, (wipeE ρ vs).length = ρ.length
  | [] => rfl
  | v :: vs => by
    show ((wipeE ρ vs).set v none).length = _
    rw [List.length_set, wipeE_len ρ vs]
theorem RelS.rewipe {K : PySem.W.Frag} {A : Addr → Prop} {ms : Nat → Option Addr} {σ σ2 : L2.St} {H : Hp} {ρ : En} {vs : List Nat} (hv : ∀ i ∈ vs, i ∉ O) (e : SlEq vs (L2.wipe σ vs) σ2) (R : RelS K G O A ms σ2 H ρ) : RelS K G O A ms (L2.wipe σ vs) H (wipeE ρ vs) := by
  rw [← wipe_eq e]
  exact R.wipe vs hv
theorem lc_goes {K : PySem.W.Frag} {A : Addr → Prop} {ms : Nat → Option Addr} {σ : L2.St} {H1 : Hp} {ρ1 ρf : En} {vs : List Nat} {g : MG} {mt : MT} {me : ME} {tt : TT} {J : It} {ds ys : List D} {Q : VK} (hv : ∀ i ∈ vs, i ∉ O)
    (htt : ∀ σ H Q, tT K G O W0 mt σ H Q → tt σ H Q) (R1 : RelS K G O A ms σ H1 ρ1) (it : ItOk K A H1 J ds) (hl : lcLoop vs g mt me ds ρ1 = .ok ys ρf) (hz : ys.length ≤ sizeLine)
    (q : ∀ p H', RelS K G O A ms σ H' (restE ρ1 vs ρf) → RelS K G O (fun a => A a ∨ a = p) ms σ H' (restE ρ1 vs ρf) → Kp O ms H1 H' → H1 p = none → Own K (fun a => A a ∨ a = p) H' p (.lst ys) → Q (.ref p) H') :
    ∀ L, H1 L = none → ∃ Wv : Nat → Nat → Hp → Prop, (∃ m, Wv 0 m (upd H1 L (.lst []))) ∧ ∀ i m H, Wv i m H →
      (J.stop i H ∧ Q (.ref L) H) ∨ (J.go i H ∧ ∃ Nx : Hp → Prop, (∀ H', Nx H' → ∃ m', m' < m ∧ Wv (i + 1) m' H') ∧ ∀ x H', J.yld i H x H' → tG K G O vs g x (L2.wipe σ vs) H' fun σ2 H2 => L2.wipe σ2 vs = L2.wipe σ vs ∧ tt σ2 H2 fun b H3 =>
        if b = true then tE K G O W0 me σ2 H3 fun y H4 => ∃ acc, H4 L = some (.lst acc) ∧ acc.length < sizeLine ∧ Nx (upd H4 L (.lst (acc ++ [y]))) else Nx H3) := by
  intro L hL
  have s0 : Same H1 (upd H1 L (.lst [])) := same_upd hL
  have t0 : Tr A (fun a => A a ∨ a = L) H1 (upd H1 L (.lst [])) := fun a u e n => ⟨s0 _ _ e, fun z => z.elim n fun z => by rw [z, hL] at e; cases e⟩
  have R2 : RelS K G O (fun a => A a ∨ a = L) ms σ (upd H1 L (.lst [])) ρ1 := R1.grow hL s0 upd_same
  have nL : ∀ i ∈ O, ms i ≠ some L := R1.msne hL
  refine ⟨fun i m H => i ≤ ds.length ∧ m = ds.length - i ∧ (∃ ρi acc y0 rest, RelS K G O (fun a => A a ∨ a = L) ms (L2.wipe σ vs) H (wipeE ρi vs) ∧ (∀ a o, (upd H1 L (.lst [])) a = some o → a ≠ L → (∀ i ∈ O, ms i ≠ some a) → H a = some o) ∧ H L = some (.lst acc) ∧ RpA K (fun a => A a ∨ a = L) H acc y0 ∧
    lcLoop vs g mt me (ds.drop i) ρi = .ok rest ρf ∧ ys = y0 ++ rest ∧ ρi.length = ρ1.length), ⟨ds.length, Nat.zero_le _, rfl, ρ1, [], [], ys, R2.wipe vs hv, fun _ _ e _ _ => e, upd_same, .nil, hl, rfl, rfl⟩, ?_⟩
  rintro i m H ⟨hi, rfl, ρi, acc, y0, rest, R, k, hacc, racc, hrest, hys, hlen⟩
  have kA : Tr A (fun a => A a ∨ a = L) H1 H := fun a u e n => by
    have nl : a ≠ L := fun z => by rw [z, hL] at e; cases e
    exact ⟨k a u (s0 _ _ e) nl fun i m z => n (R1.inA i a m z), fun z => z.elim n nl⟩
  obtain ⟨goes, stops⟩ := it _ H kA R.trk
  by_cases hlt : i < ds.length
  · have hd : ds[i]? = some ds[i] := List.getElem?_eq_getElem hlt
    obtain ⟨go, yl⟩ := goes i _ hd
    have e : ds.drop i = ds[i] :: ds.drop (i + 1) := List.drop_eq_getElem_cons hlt
    rw [e] at hrest
    refine .inr ⟨go, fun H' => (∃ ρi acc y0 rest, RelS K G O (fun a => A a ∨ a = L) ms (L2.wipe σ vs) H' (wipeE ρi vs) ∧ (∀ a o, (upd H1 L (.lst [])) a = some o → a ≠ L → (∀ i ∈ O, ms i ≠ some a) → H' a = some o) ∧ H' L = some (.lst acc) ∧ RpA K (fun a => A a ∨ a = L) H' acc y0 ∧
      lcLoop vs g mt me (ds.drop (i + 1)) ρi = .ok rest ρf ∧ ys = y0 ++ rest ∧ ρi.length = ρ1.length), fun H' w => ⟨ds.length - (i + 1), by omega, hlt, rfl, w⟩, fun x H3 hy => ?_⟩
    obtain ⟨s3, rx⟩ := yl x H3 hy
    have R3 := R.same s3
    refine ⟨_, ms, wipeE ρi vs, ds[i], R3, rx, ?_⟩
    unfold lcLoop at hrest
    cases hg : g ds[i] (wipeE ρi vs) with
    | bad => rw [hg] at hrest; cases hrest
    | ex y ρ2 => rw [hg] at hrest; cases hrest
    | ok u ρ2 =>
      rw [hg] at hrest
      intro σ4 H4 e4 R4 k4
      refine ⟨wipe_eq e4, htt _ _ _ ⟨_, ms, ρ2, R4, ?_⟩⟩
      cases hmt : mt ρ2 with
      | bad => simp only [hmt] at hrest; cases hrest
      | ex y ρ3 => simp only [hmt] at hrest; cases hrest
      | ok b ρ3 =>
        simp only [hmt] at hrest
        intro b' H5 R5 k5 hb
        cases hb
        have len5 : ρ3.length = ρ1.length := by rw [← R5.len, e4.1, L2.wipe_length, R1.len]
        have k5' : ∀ a o, (upd H1 L (.lst [])) a = some o → a ≠ L → (∀ i ∈ O, ms i ≠ some a) → H5 a = some o := fun a o h1 h2 h3 => k5 a o (k4 a o (s3 _ _ (k a o h1 h2 h3)) h3) h3
        have acc5 : H5 L = some (.lst acc) := k5 _ _ (k4 _ _ (s3 _ _ hacc) nL) nL
        have tr5 : Tr (fun a => A a ∨ a = L) (fun a => A a ∨ a = L) H H5 := ((Tr.same s3).trans (R.kt k4)).trans (R.kt k5)
        cases b with
        | false =>
          rw [if_neg Bool.false_ne_true]
          exact ⟨ρ3, acc, y0, rest, R5.rewipe hv e4, k5', acc5, racc.tr tr5, hrest, hys, len5⟩
        | true =>
          rw [if_pos rfl]
          refine ⟨_, ms, ρ3, R5, ?_⟩
          cases hme : me ρ3 with
          | bad => simp only [hme] at hrest; cases hrest
          | ex y ρ4 => simp only [hme] at hrest; cases hrest
          | ok y ρ4 =>
            simp only [hme] at hrest
            cases hr : lcLoop vs g mt me (ds.drop (i + 1)) ρ4 with
            | bad => simp only [hr] at hrest; cases hrest
            | ex z ρ5 => simp only [hr] at hrest; cases hrest
            | ok ys' ρ5 =>
              simp only [hr] at hrest
              cases hrest
              intro w H6 R6 k6 rw6
              have acc6 : H6 L = some (.lst acc) := k6 _ _ acc5 nL
              have al : (fun a => A a ∨ a = L) L := .inr rfl
              have lenacc : acc.length < sizeLine := by
                have := racc.length
                rw [hys, List.length_append, List.length_cons] at hz
                omega
              refine ⟨acc, acc6, lenacc, ρ4, acc ++ [w], y0 ++ [y], ys', ?_, ?_, upd_same, ?_, hr, by rw [hys]; simp, by rw [← R6.len, e4.1, L2.wipe_length, R1.len]⟩
              · -- the new list grew: no slot's own
                have R7 := R6.rewipe hv e4
                have tr7 : Tr (fun a => A a ∨ a = L) (fun a => A a ∨ a = L) H6 (upd H6 L (.lst (acc ++ [w]))) := fun a o e n => ⟨upd_out a o e fun z => n (.inr z), n⟩
                exact {
                  sub := R7.sub
                  trk0 := R7.trk0
                  trk := fun a z => by
                    by_cases h : a = L
                    · rw [h]; exact ⟨_, upd_same⟩
                    · obtain ⟨o, e⟩ := R7.trk a z
                      exact ⟨o, upd_out a o e h⟩
                  keep := fun a o e n => by
                    have := R7.keep a o e n
                    refine upd_out a o this fun z => ?_
                    have h0 := R1.keep a o e n
                    rw [z, hL] at h0
                    cases h0
                  len := R7.len
                  fz := fun j d e n => let ⟨v, e1, q⟩ := R7.fz j d e n; ⟨v, e1, q.tr tr7⟩
                  ow := fun j d e n => let ⟨p, e0, e1, q⟩ := R7.ow j d e n; ⟨p, e0, e1, q.tr tr7 fun o z => upd_out _ _ z fun h => nL j n (h ▸ e0)⟩
                  inA := R7.inA
                  ok := R7.ok
                  dist := R7.dist
                  px := R7.px
                  io := R7.io }
              · exact fun a o h1 h2 h3 => upd_out a o (k6 a o (k5' a o h1 h2 h3) h3) h2
              · exact ((racc.tr (tr5.trans (R5.kt k6))).upd al).app (.cons (rw6.upd al) .nil)
  · have e : i = ds.length := by omega
    subst e
    rw [List.drop_length] at hrest
    cases hrest
    rw [List.append_nil] at hys
    subst hys
    refine .inl ⟨stops, ?_⟩
    have Rf : RelS K G O (fun a => A a ∨ a = L) ms σ H (restE ρ1 vs ρf) := RelS.rest hv R1 kA R hlen
    have kf : Kp O ms H1 H := fun a o e n => k a o (s0 _ _ e) (fun z => by rw [z, hL] at e; cases e) n
    exact q L H (Rf.less (fun a z => .inl z) R1.sub fun j p m z => R1.inA j p m z) Rf kf hL (.lst hacc racc)
abbrev ownS (own : List (Str × Nat)) : List Nat := own.map (·.2)
theorem lc_go {K : PySem.W.Frag} {own : List (Str × Nat)} {mi : En → R (List D)} {g : MG} {mt : MT} {me : ME} {tt : TT} (hv : (ownS own).all (fun i => !O.contains i) = true) (htt : ∀ σ H Q, tT K G O W0 mt σ H Q → tt σ H Q) {σ : L2.St} {H : Hp} {Q : VK} (h : tF K G O W (mLc (ownS own) mi g mt me) σ H Q) :
    tLc (tI K G O W mi) (tG K G O (ownS own) g) tt (tE K G O W0 me) (own.map (·.2)) σ H Q := by
  have hv' : ∀ i ∈ ownS own, i ∉ O := fun i m z => by
    have := List.all_eq_true.mp hv i m
    rw [List.contains_iff_mem.mpr z] at this
    cases this
  obtain ⟨A, ms, ρ, R, q⟩ := h
  refine ⟨A, ms, ρ, R, ?_⟩
  unfold mLc at q
  cases hm : mi ρ with
  | bad => rw [hm] at q; exact q.elim
  | ex x ρ1 => rw [hm] at q; exact q
  | ok ds ρ1 =>
    rw [hm] at q
    intro J H1 R1 k1 itok
    have q1 : FPost K G O W A ms σ H Q (match lcLoop (ownS own) g mt me ds ρ1 with
      | .ok ys ρ2 => if ys.length ≤ sizeLine then .ok (.lst ys) (restE ρ1 (ownS own) ρ2) else .bad
      | _ => .bad) := q
    cases hl : lcLoop (ownS own) g mt me ds ρ1 with
    | bad => rw [hl] at q1; exact q1.elim
    | ex x ρ2 => rw [hl] at q1; exact q1.elim
    | ok ys ρ2 =>
      rw [hl] at q1
      have q2 : FPost K G O W A ms σ H Q (if ys.length ≤ sizeLine then .ok (.lst ys) (restE ρ1 (ownS own) ρ2) else .bad) := q1
      split at q2
      · rename_i hz
        exact lc_goes hv' htt R1 itok hl hz fun p H' r1 r2 k hp ow => q2 p H' r1 r2 (k1.trans k) (Kp.none R1 k1 hp) ow
      · exact q2.elim
theorem df_lc {elt tg iter : Expr} {ifs : List Expr} {scope : Scope} {own : List (Str × Nat)} {pos : Pos} {mi : En → R (List D)} {g : MG} {mt : MT} {me : ME} {tt : TT} (hc : X.calm = true) (hN : X.N.Nodup) (hv : (ownS own).all (fun i => !O.contains i) = true)
    (hi : DI X G O W tg iter mi) (ok : BlkOk X.N X.env.scope scope own)
    (hg : ∀ (s : Shared) (H : Hp) (C : Addr) (cl : List (Str × Addr)) (fp : List Addr), DG (X.blk s H scope (compEnvC scope cl C X.env) fp) G O (ownS own) tg g)
    (ht : ∀ (s : Shared) (H : Hp) (C : Addr) (cl : List (Str × Addr)) (fp : List Addr), PTs (X.blk s H scope (compEnvC scope cl C X.env) fp) ifs tt) (htt : ∀ σ H Q, tT X.K G O W0 mt σ H Q → tt σ H Q)
    (he : ∀ (s : Shared) (H : Hp) (C : Addr) (cl : List (Str × Addr)) (fp : List Addr), DE (X.blk s H scope (compEnvC scope cl C X.env) fp) G O W0 elt me) (hs : ∀ x, foldedSetIterable iter X.env x = pure x := by intro _; rfl) :
    DF X G O W (.ListComp elt [⟨tg, iter, ifs, 0⟩] scope pos) (mLc (ownS own) mi g mt me) :=
  pe_imp (pe_lc (te := tE X.K G O W0 me) (tt := tt) (g := tG X.K G O (ownS own) g) hc hN hi ok hg ht he hs) fun _ _ _ h => lc_go hv htt h
theorem tYes_go {K : PySem.W.Frag} : ∀ σ H Q, tT K G O W0 mYes σ H Q → tYes σ H Q := fun σ H Q ⟨A, ms, ρ, R, q⟩ => q true H R Kp.refl rfl
end
end DL
namespace DL
open L2 PySem PySem.Spec PyProof.Rows
inductive Bx where
  | ex (m : ME)
  | ow (j : Nat)
def evB : Bx → ME
  | .ex m => m
  | .ow j => fun ρ => match getO ρ j with
    | some d => .ok d ρ
    | none => .bad
def rdB (b : Bx) (d : D) (ρ : En) : Option D := match b with
  | .ex _ => some d
  | .ow j => getO ρ j
def DB (X : Cx) (G : Gd) (O : List Nat) (W : WX) (e : Expr) (b : Bx) : Prop := match b with
  | .ex m => DE X G O W e m
  | .ow j => O.contains j = true ∧ PE X e (tVar j)
section
variable {X : Cx} {G : Gd} {O : List Nat} {W : WX} {a b c e : Expr} {es : List Expr} {ma mb mc : ME} {ba bb : Bx} {mr : MA} {pos p : Pos} {x : Str}
theorem db_e (h : DE X G O W e ma) : DB X G O W e (.ex ma) := h
def tBx (K : PySem.W.Frag) (G : Gd) (O : List Nat) (W : WX) : Bx → TE
  | .ex m => tE K G O W m
  | .ow j => tVar j
theorem DB.pe (h : DB X G O W e ba) : PE X e (tBx X.K G O W ba) := by
  cases ba with
  | ex m => exact h
  | ow j => exact h.2
theorem own_at {K : PySem.W.Frag} {A : Addr → Prop} {ms : Nat → Option Addr} {σ : L2.St} {H : Hp} {ρ : En} {j : Nat} {d : D} (R : RelS K G O A ms σ H ρ) (hj : O.contains j = true) (h : getO ρ j = some d) : ∃ p, ms j = some p ∧ σ[j]? = some (some (.ref p)) ∧ Own K A H p d := R.ow j d (getO_some h) (List.contains_iff_mem.mp hj)
theorem own_b {K : PySem.W.Frag} {A : Addr → Prop} {H : Hp} {q : Addr} {d : D} (h : Own K A H q d) (n : ∀ c fs, d ≠ .obj c fs) : RpB K A H (.ref q) d := by
  cases h with
  | lst e r => exact .own e r
  | dK e k r => exact .ownK e k r
  | dT e k r => exact .ownT e k r
  | obj _ _ => exact absurd rfl (n _ _)
theorem DB.own (h : DB X G O W e ba) : ∀ j, ba = .ow j → O.contains j = true := fun j w => by subst w; exact h.1
def mTruO (j : Nat) : MT := fun ρ => match getO ρ j with
  | some (.lst l) => .ok (!l.isEmpty) ρ
  | _ => .bad
theorem dt_truO {j : Nat} (hj : O.contains j = true) (ha : PE X a (tVar j)) (he : ∀ whole, isTrue a X.env whole = (do let v ← whole; standAt a.pos; holding [v] (truthy v)) := by intro _; rfl) : DT X G O W a (mTruO j) := by
  refine pt_imp (pt_truth ha he) fun σ H Q ⟨A, ms, ρ, R, q⟩ => ?_
  unfold mTruO at q
  split at q
  · rename_i l h
    obtain ⟨pj, h1, h2, h3⟩ := own_at R hj h
    refine ⟨_, h2, !l.isEmpty, ?_, q _ H R Kp.refl rfl⟩
    cases h3 with
    | lst e r =>
      refine .inl ⟨_, SqL.of e, ?_⟩
      cases r <;> rfl
  · exact q.elim
def gIx (a b : D) : Option D := match a, b with
  | .lst l, .int i => L2.atI l i
  | .scr l, .int i => L2.atI l i
  | .tup l, .int i => L2.atI l i
  | .str z, .int i => if z.length ≤ sizeLine then (L2.atI z.cps.toList i).map fun c => .str ⟨#[c]⟩ else none
  | _, _ => none
theorem at_rp {K : PySem.W.Frag} {A : Addr → Prop} {H : Hp} {xs : List V} {ds : List D} {i : Int} {d : D} (h : RpA K A H xs ds) (e : L2.atI ds i = some d) : ∃ v, L2.atI xs i = some v ∧ Rp K A H v d := by
  unfold L2.atI at e ⊢
  rw [h.length]
  cases hj : ixN ds.length i with
  | none => rw [hj] at e; cases e
  | some j =>
    rw [hj] at e
    exact h.get (show ds[j]? = some d from e)
theorem ix_d : IxR X (rD2 X.K gIx) := by
  intro value slice pins s σ H x y v u Q I rx ry ⟨A, a, b, d, t, pa, pb, e, q⟩ hs
  cases a with
  | lst l =>
    cases b with
    | int i =>
      obtain ⟨p, xs, rfl, h1, r1⟩ := pa.lst
      obtain ⟨w, hw, rw'⟩ := at_rp r1 (show L2.atI l i = some d from e)
      rw [pb.int] at ry
      exact ix_list value slice pins s σ H _ _ v u Q I rx ry ⟨p, xs, i, w, rfl, rfl, SqL.of h1, hw, q w H (Same.refl _) rw'⟩ hs
    | _ => cases e
  | scr l =>
    cases b with
    | int i =>
      obtain ⟨p, xs, rfl, h1, r1⟩ := pa.scr
      obtain ⟨w, hw, rw'⟩ := at_rp r1 (show L2.atI l i = some d from e)
      rw [pb.int] at ry
      exact ix_list value slice pins s σ H _ _ v u Q I rx ry ⟨p, xs, i, w, rfl, rfl, h1.sq, hw, q w H (Same.refl _) rw'⟩ hs
    | _ => cases e
  | tup l =>
    cases b with
    | int i =>
      obtain ⟨p, xs, rfl, h1, r1⟩ := pa.tup
      obtain ⟨w, hw, rw'⟩ := at_rp r1 (show L2.atI l i = some d from e)
      rw [pb.int] at ry
      exact ix_tup value slice pins s σ H _ _ v u Q I rx ry ⟨p, xs, i, w, rfl, rfl, h1.sq, hw, q w H (Same.refl _) rw'⟩ hs
    | _ => cases e
  | str z =>
    cases b with
    | int i =>
      have e' : (if z.length ≤ sizeLine then (L2.atI z.cps.toList i).map (fun c => D.str ⟨#[c]⟩) else none) = some d := e
      split at e'
      · rename_i hz
        obtain ⟨c, hc, rfl⟩ := map_some e'
        rw [pa.str] at rx
        rw [pb.int] at ry
        exact ix_str value slice pins s σ H _ _ v u Q I rx ry ⟨z, i, c, rfl, rfl, hz, hc, q _ H (Same.refl _) (.str _)⟩ hs
      · cases e'
    | _ => cases e
  | _ => cases b <;> cases e
def cutD (xs : List D) (lo hi : Option Int) : List D := (xs.drop (HT.sIx xs.length 0 lo)).take (HT.sIx xs.length xs.length hi - HT.sIx xs.length 0 lo)
def gSl (d : D) (lo hi : Option Int) : Option D := match d with
  | .lst l => some (.lst (cutD l lo hi))
  | .tup l => some (.tup (cutD l lo hi))
  | .str z => if z.length ≤ sizeLine then some (.str (L2.cutS z lo hi)) else none
  | _ => none
theorem cut_rp {K : PySem.W.Frag} {A : Addr → Prop} {H : Hp} {xs : List V} {ds : List D} (h : RpA K A H xs ds) (lo hi : Option Int) : RpA K A H (L2.cutV xs lo hi) (cutD ds lo hi) := by
  unfold L2.cutV cutD
  rw [h.length]
  exact (h.drop _).take _
def rSlD (K : PySem.W.Frag) : V → Option Int → Option Int → Hp → VK → Prop := fun x lo hi H Q => ∃ A a d, Trk A H ∧ RpB K A H x a ∧ gSl a lo hi = some d ∧ ∀ v H', Same H H' → Rp K A H' v d → Fr K A H H' v d → Q v H'
theorem cutD_whole {l : List D} {lo hi : Option Int} (h : HT.sIx l.length 0 lo = 0 ∧ HT.sIx l.length l.length hi = l.length) : cutD l lo hi = l := by
  unfold cutD
  rw [h.1, h.2, List.drop_zero, Nat.sub_zero, List.take_length]
theorem sl_d : SlR X (rSlD X.K) := by
  intro pins s σ H x v vl vu lo hi sl Q I rx hs pl pu ⟨A, a, d, t, pa, e, q⟩
  cases a with
  | lst l =>
    cases e
    obtain ⟨p, xs, rfl, h1, r1⟩ := pa.lst
    exact sl_list pins s σ H _ v vl vu lo hi sl Q I rx hs pl pu ⟨p, xs, rfl, SqL.of h1, fun r hr => q _ _ (same_upd hr) (new_lst t (cut_rp r1 lo hi) hr) (new_fr t (cut_rp r1 lo hi) hr)⟩
  | tup l =>
    cases e
    obtain ⟨p, xs, rfl, h1, r1⟩ := pa.tup
    have hl := r1.length
    refine sl_tupA pins s σ H _ v vl vu lo hi sl Q I rx hs pl pu ⟨p, xs, rfl, h1.sq, fun w => ?_, fun _ r hr => q _ _ (same_upd hr) (new_tup t (cut_rp r1 lo hi) hr) (no_fr fun _ => nofun)⟩
    rw [hl] at w
    rw [cutD_whole w] at q
    exact q _ _ (Same.refl _) (.tup h1 r1) (no_fr fun _ => nofun)
  | str z =>
    obtain ⟨hz, rfl⟩ := ite_d (x := .str (L2.cutS z lo hi)) e
    rw [pa.str] at rx
    exact sl_str pins s σ H _ v vl vu lo hi sl Q I rx hs pl pu ⟨z, rfl, hz, q _ H (Same.refl _) (.str _) (no_fr fun _ => nofun)⟩
  | _ => cases e
abbrev MP := En → R (Option Int)
def mNoP : MP := fun ρ => .ok none ρ
def asI : D → Option (Option Int)
  | .int i => some (some i)
  | _ => none
def mPart (m : ME) : MP := fun ρ => (m ρ).bind fun d ρ1 => ret (asI d) ρ1
def tP (K : PySem.W.Frag) (G : Gd) (O : List Nat) (W : WX) (m : MP) : TO := fun σ H Q => ∃ A ms ρ, RelS K G O A ms σ H ρ ∧ RPost K G O W A ms σ H (fun _ => Eq) Q (m ρ)
def DP (X : Cx) (G : Gd) (O : List Nat) (W : WX) (e : Option Expr) (m : MP) : Prop := PO X e (tP X.K G O W m)
theorem po_imp {e : Option Expr} {t t' : TO} (h : PO X e t) (w : ∀ σ H Q, t' σ H Q → t σ H Q) : PO X e t' := ⟨fun pins s σ H Q I q => h.run pins s σ H Q I (w σ H Q q)⟩
theorem dp_no : DP X G O W none mNoP := po_imp po_none fun σ H Q ⟨A, ms, ρ, R, q⟩ => q none H R Kp.refl rfl
theorem dp_e (h : DE X G O W e ma) : DP X G O W (some e) (mPart ma) := by
  refine po_imp (po_some h) fun σ H Q ⟨A, ms, ρ, R, q⟩ => ⟨A, ms, ρ, R, RPost.mono (RPost.bind q) ?_⟩
  rintro x H1 ⟨d, ρ1, R1, k1, r1, q1⟩
  obtain ⟨z, hz, q2⟩ := rp_of (rel := fun _ => @Eq (Option Int)) R1 q1
  cases d with
  | int i =>
    cases hz
    cases r1
    exact ⟨i, rfl, q2 _ H1 (Same.refl _) rfl⟩
  | _ => cases hz
def mSl (b : Bx) (l h : MP) : ME := fun ρ => (evB b ρ).bind fun x ρ1 => (l ρ1).bind fun lo ρ2 => (h ρ2).bind fun hi ρ3 => ret ((rdB b x ρ3).bind fun x' => gSl x' lo hi) ρ3
theorem FPost.from {K : PySem.W.Frag} {A : Addr → Prop} {ms : Nat → Option Addr} {σ : L2.St} {H H1 : Hp} {ρ1 : En} {Q : VK} {r : R D} (R : RelS K G O A ms σ H1 ρ1) (k : Kp O ms H H1) (h : FPost K G O W A ms σ H Q r) : FPost K G O W A ms σ H1 Q r := by
  cases r with
  | ok d ρ => exact fun p H' R1 R2 k' hp ow => h p H' R1 R2 (k.trans k') (Kp.none R k hp) ow
  | ex x ρ => exact fun dx H' R1 k' q => h dx H' R1 (k.trans k') q
  | bad => exact h
theorem FPost.bind {α β : Type} {K : PySem.W.Frag} {A : Addr → Prop} {ms : Nat → Option Addr} {σ : L2.St} {H : Hp} {Q : VK} {rel : Hp → β → α → Prop} {r : R α} {f : α → En → R D} (h : FPost K G O W A ms σ H Q (r.bind f)) :
    RPost K G O W A ms σ H rel (fun v H1 => ∃ d ρ1, RelS K G O A ms σ H1 ρ1 ∧ Kp O ms H H1 ∧ rel H1 v d ∧ FPost K G O W A ms σ H1 Q (f d ρ1)) r := by
  cases r with
  | ok d ρ => exact fun v H' R k' q => ⟨d, ρ, R, k', q, FPost.from R k' h⟩
  | ex x ρ => exact h
  | bad => exact h
def isL (d : D) : Option D := match d with
  | .lst l => some (.lst l)
  | _ => none
def mL (m : ME) : ME := fun ρ => (m ρ).bind fun d ρ1 => ret (isL d) ρ1
variable {lo hi : Option Expr} {ml mh : MP} {p2 : Pos}
theorem sl_go {K : PySem.W.Frag} (hA : ∀ j, ba = .ow j → O.contains j = true) {σ : L2.St} {H : Hp} {Q : VK} (h : tE K G O W (mSl ba ml mh) σ H Q) : tSl (rSlD K) (tBx K G O W ba) (tP K G O W ml) (tP K G O W mh) σ H Q := by
  obtain ⟨A, ms, ρ, R, q⟩ := h
  have snd : ∀ (x : V) (d0 : D) (ρ1 : En) (H1 : Hp), RelS K G O A ms σ H1 ρ1 → (∀ ρ2 H2 d', RelS K G O A ms σ H2 ρ2 → Kp O ms H1 H2 → rdB ba d0 ρ2 = some d' → (∀ c fs, d' ≠ .obj c fs) → RpB K A H2 x d') →
      RPost K G O W A ms σ H1 (Rp K A) Q ((ml ρ1).bind fun lo ρ2 => (mh ρ2).bind fun hi ρ3 => ret ((rdB ba d0 ρ3).bind fun x' => gSl x' lo hi) ρ3) → tP K G O W ml σ H1 fun l H2 => tP K G O W mh σ H2 fun u H3 => rSlD K x l u H3 Q := by
    intro x d0 ρ1 H1 R1 hx q1
    refine ⟨A, ms, ρ1, R1, RPost.mono (RPost.bind q1) ?_⟩
    rintro l H2 ⟨lo, ρ2, R2', k2, rfl, q2⟩
    refine ⟨A, ms, ρ2, R2', RPost.mono (RPost.bind q2) ?_⟩
    rintro u H3 ⟨hi, ρ3, R3, k3, rfl, q3⟩
    obtain ⟨z, hz, q4⟩ := rp_of R3 q3
    cases hd : rdB ba d0 ρ3 with
    | none => rw [hd] at hz; cases hz
    | some d' =>
      rw [hd] at hz
      exact ⟨A, d', z, R3.trk, hx ρ3 H3 d' R3 (k2.trans k3) hd (fun c fs w => by subst w; cases hz), hz, fun v H' s r _ => q4 v H' s r⟩
  cases ba with
  | ex m =>
    refine ⟨A, ms, ρ, R, RPost.mono (RPost.bind q) ?_⟩
    rintro x H1 ⟨d, ρ1, R1, k1, r1, q1⟩
    exact snd x d ρ1 H1 R1 (fun ρ2 H2 d' R2' k2 e _ => by cases e; exact .of (r1.tr (R1.kt k2))) q1
  | ow j =>
    have q' : RPost K G O W A ms σ H (Rp K A) Q ((evB (.ow j) ρ).bind fun x ρ1 => (ml ρ1).bind fun lo ρ2 => (mh ρ2).bind fun hi ρ3 => ret ((rdB (.ow j) x ρ3).bind fun x' => gSl x' lo hi) ρ3) := q
    have e1 : evB (.ow j) ρ = (match getO ρ j with | some d => .ok d ρ | none => .bad) := rfl
    rw [e1] at q'
    cases hj : getO ρ j with
    | none => simp only [hj] at q'; exact q'.elim
    | some d =>
      simp only [hj] at q'
      obtain ⟨pj, h1, h2, h3⟩ := own_at R (hA j rfl) hj
      refine ⟨_, h2, snd _ d ρ H R (fun ρ2 H2 d' R2' k2 e n => ?_) q'⟩
      obtain ⟨pj', h1', h2', h3'⟩ := own_at R2' (hA j rfl) e
      rw [h1] at h1'
      cases h1'
      exact own_b h3' n
theorem de_sl (ha : DB X G O W a ba) (hl : DP X G O W lo ml) (hh : DP X G O W hi mh) : DE X G O W (.Subscript a (.Slice lo hi none p2) pos) (mSl ba ml mh) := pe_imp (pe_slice sl_d ha.pe hl hh) fun _ _ _ h => sl_go ha.own h
theorem cN_go {g : List D → Option D} {K : PySem.W.Frag} {σ : L2.St} {H : Hp} {Q : VK} (h : tE K G O W (mN g mr) σ H Q) : tCB (rDN K g) (tA K G O W mr) σ H Q := by
  obtain ⟨A, ms, ρ, R, q⟩ := h
  refine ⟨A, ms, ρ, R, RPost.mono (RPost.bind q) ?_⟩
  rintro vs H1 ⟨ds, ρ1, R1, k1, r1, q1⟩
  obtain ⟨z, hz, q2⟩ := rp_of R1 q1
  exact ⟨A, ds, z, R1.trk, .inl r1, hz, q2⟩
section
variable {id T : String} {g : List D → Option D} {j : Nat}
theorem de_b (hv : bootBuiltins x = some (.builtin id)) (hc : CallR X (.builtin id) (rDN X.K g)) (hg : Gl X x) (hm : X.mg x = none) (ha : DA X G O W (e :: es) mr) (hn : x ≠ "__name__" := by decide) (hdb : (x == ("__debug__" : Str)) = false := by decide)
    (he : starEach (e :: es) X.env = (false, eval e X.env) :: starEach es X.env := by rfl) (hpl : (backTo pos (starEach es X.env)).any (·.1) = false := by rfl) : DE X G O W (.Call (.Name x p) (e :: es) [] pos) (mN g mr) :=
  pe_imp (pe_callB hc hg hm hv ha hn hdb he hpl) fun _ _ _ h => cN_go h
theorem de_ty (hv : bootBuiltins x = some (.type T)) (hc : CallR X (.type T) (rDN X.K g)) (hg : Gl X x) (hm : X.mg x = none) (ha : DA X G O W (e :: es) mr) (hn : x ≠ "__name__" := by decide) (hdb : (x == ("__debug__" : Str)) = false := by decide)
    (he : starEach (e :: es) X.env = (false, eval e X.env) :: starEach es X.env := by rfl) (hpl : (backTo pos (starEach es X.env)).any (·.1) = false := by rfl) : DE X G O W (.Call (.Name x p) (e :: es) [] pos) (mN g mr) :=
  pe_imp (pe_callTy hc hg hm hv ha hn hdb he hpl) fun _ _ _ h => cN_go h
end
end
end DL
namespace DL
open L2 PySem PySem.Spec PyProof.Rows
def asBls : List D → Option (List Bool)
  | [] => some []
  | .bl i :: r => (asBls r).map (i :: ·)
  | _ :: _ => none
theorem asBls_eq : ∀ {l : List D} {ns : List Bool}, asBls l = some ns → l = ns.map D.bl
  | [], _, e => by cases e; rfl
  | .bl i :: r, _, e => by
    obtain ⟨k, hk, rfl⟩ := map_some (show (asBls r).map (i :: ·) = some _ from e)
    rw [asBls_eq hk]; rfl
  | .non :: _, _, e => by cases e
  | .int _ :: _, _, e => by cases e
  | .str _ :: _, _, e => by cases e
  | .tup _ :: _, _, e => by cases e
  | .lst _ :: _, _, e => by cases e
  | .scr _ :: _, _, e => by cases e
  | .fn _ :: _, _, e => by cases e
  | .obj _ _ :: _, _, e => by cases e
  | .exn _ _ :: _, _, e => by cases e
theorem asBls_map (ns : List Bool) : asBls (ns.map D.bl) = some ns := by
  induction ns with
  | nil => rfl
  | cons n ns ih => rw [List.map_cons]; unfold asBls; rw [ih]; rfl
def gLen : List D → Option D
  | [.lst l] => some (.int l.length)
  | [.tup l] => some (.int l.length)
  | [.scr l] => some (.int l.length)
  | [.str z] => if z.length ≤ sizeLine then some (.int z.length) else none
  | _ => none
def gAbs : List D → Option D
  | [.int i] => some (.int (if i < 0 then -i else i))
  | _ => none
def gInt : List D → Option D
  | [.int i] => some (.int i)
  | [.bl k] => some (.int (if k then 1 else 0))
  | [.str a] => if a.length ≤ 640 then (PySem.intText? a).map D.int else none
  | _ => none
def shownD (d : D) : Option Str := match d.py with
  | some x => if x.showable = true ∧ x.shown.length ≤ sizeLine ∧ x.depth ≤ 60 then some x.shown else none
  | none => none
def gRepr : List D → Option D
  | [d] => (shownD d).map D.str
  | _ => none
def gStr : List D → Option D
  | [.str a] => some (.str a)
  | [.int i] => if i.natAbs.log2 < 1920 then some (.str (toString i)) else none
  | [.lst l] => (shownD (.lst l)).map D.str
  | [.tup l] => (shownD (.tup l)).map D.str
  | _ => none
def gAll : List D → Option D
  | [.lst l] => (asBls l).map fun bs => .bl (bs.all id)
  | _ => none
def gTuple : List D → Option D
  | [.lst l] => some (.tup l)
  | [.scr l] => some (.tup l)
  | [.tup l] => some (.tup l)
  | _ => none
theorem one_arg {K : PySem.W.Frag} {A : Addr → Prop} {H : Hp} {xs : List V} {a : D} (h : RpA K A H xs [a] ∨ ∃ v c, xs = [v] ∧ [a] = [c] ∧ RpB K A H v c) : ∃ v, xs = [v] ∧ RpB K A H v a := by
  rcases h with h | ⟨v, c, rfl, e, h⟩
  · cases h with
    | cons h t => cases t; exact ⟨_, rfl, .of h⟩
  · cases e; exact ⟨_, rfl, h⟩
section
variable {X : Cx}
theorem b_len : CallR X (.builtin "len") (rDN X.K gLen) := by
  intro pins s σ H xs us Q I r ⟨A, ds, d, t, p, e, q⟩
  unfold gLen at e
  split at e
  · rename_i l
    cases e
    obtain ⟨v, rfl, hv⟩ := one_arg p
    obtain ⟨a, ys, rfl, h, rr⟩ := hv.lst
    exact call_len_seq pins s σ H _ us Q I r ⟨a, ys, rfl, .inl (SqL.of h), by rw [rr.length]; exact q _ _ (Same.refl _) (.int _)⟩
  · rename_i l
    cases e
    obtain ⟨v, rfl, hv⟩ := one_arg p
    obtain ⟨a, ys, rfl, h, rr⟩ := hv.tup
    exact call_len_seq pins s σ H _ us Q I r ⟨a, ys, rfl, .inr h.sq, by rw [rr.length]; exact q _ _ (Same.refl _) (.int _)⟩
  · rename_i l
    cases e
    obtain ⟨v, rfl, hv⟩ := one_arg p
    obtain ⟨a, ys, rfl, h, rr⟩ := hv.scr
    exact call_len_seq pins s σ H _ us Q I r ⟨a, ys, rfl, .inl h.sq, by rw [rr.length]; exact q _ _ (Same.refl _) (.int _)⟩
  · rename_i z
    obtain ⟨hz, rfl⟩ := ite_d (x := .int z.length) e
    obtain ⟨v, rfl, hv⟩ := one_arg p
    rw [hv.str] at r
    exact call_len_str pins s σ H _ us Q I r ⟨z, rfl, hz, q _ _ (Same.refl _) (.int _)⟩
  · cases e
theorem b_abs : CallR X (.builtin "abs") (rDN X.K gAbs) := by
  intro pins s σ H xs us Q I r ⟨A, ds, d, t, p, e, q⟩
  unfold gAbs at e
  split at e
  · rename_i i
    cases e
    obtain ⟨v, rfl, hv⟩ := one_arg p
    rw [hv.int] at r
    exact call_abs pins s σ H _ us Q I r ⟨i, rfl, q _ _ (Same.refl _) (.int _)⟩
  · cases e
theorem b_int : CallR X (.type "int") (rDN X.K gInt) := by
  intro pins s σ H xs us Q I r ⟨A, ds, d, t, p, e, q⟩
  unfold gInt at e
  split at e
  · rename_i i
    cases e
    obtain ⟨v, rfl, hv⟩ := one_arg p
    rw [hv.int] at r
    exact call_int1 pins s σ H _ us Q I r (.inl ⟨i, rfl, q _ _ (Same.refl _) (.int _)⟩)
  · rename_i i
    cases e
    obtain ⟨v, rfl, hv⟩ := one_arg p
    rw [hv.bl] at r
    exact call_int1 pins s σ H _ us Q I r (.inr ⟨i, rfl, q _ _ (Same.refl _) (.int _)⟩)
  · rename_i a
    split at e
    · rename_i hz
      obtain ⟨n, hn, rfl⟩ := map_some e
      obtain ⟨v, rfl, hv⟩ := one_arg p
      rw [hv.str] at r
      exact call_int_str pins s σ H _ us Q I r ⟨a, n, rfl, hn, hz, q _ _ (Same.refl _) (.int _)⟩
    · cases e
  · cases e
mutual
theorem py_noDict : ∀ {d : D} {x : PyData}, d.py = some x → x.hasDict = false
  | .non, _, e => by cases e; simp only [PyData.hasDict]
  | .bl _, _, e => by cases e; simp only [PyData.hasDict]
  | .int _, _, e => by cases e; simp only [PyData.hasDict]
  | .str _, _, e => by cases e; simp only [PyData.hasDict]
  | .tup ds, _, e => by
    unfold D.py at e
    cases hp : pyAll ds with
    | none => rw [hp] at e; cases e
    | some ys => rw [hp] at e; cases e; simp only [PyData.hasDict]; exact pyAll_noDict hp
  | .lst ds, _, e => by
    unfold D.py at e
    cases hp : pyAll ds with
    | none => rw [hp] at e; cases e
    | some ys => rw [hp] at e; cases e; simp only [PyData.hasDict]; exact pyAll_noDict hp
  | .scr _, _, e => by unfold D.py at e; cases e
  | .fn _, _, e => by unfold D.py at e; cases e
  | .obj _ _, _, e => by unfold D.py at e; cases e
  | .exn _ _, _, e => by unfold D.py at e; cases e
theorem pyAll_noDict : ∀ {d : List D} {x : List PyData}, pyAll d = some x → PyData.hasDictAll x = false
  | [], _, e => by cases e; simp only [PyData.hasDictAll]
  | d :: ds, _, e => by
    unfold pyAll at e
    cases h1 : d.py with
    | none => rw [h1] at e; cases e
    | some y =>
      rw [h1] at e
      cases h2 : pyAll ds with
      | none => rw [h2] at e; cases e
      | some ys => rw [h2] at e; cases e; simp only [PyData.hasDictAll, py_noDict h1, pyAll_noDict h2, Bool.or_self]
end
theorem shownD_some {d : D} {z : Str} (e : shownD d = some z) : ∃ x, d.py = some x ∧ x.showable = true ∧ x.shown.length ≤ sizeLine ∧ x.depth ≤ 60 ∧ z = x.shown := by
  unfold shownD at e
  split at e
  · rename_i x hx
    split at e
    · rename_i h
      cases e
      exact ⟨x, hx, h.1, h.2.1, h.2.2, rfl⟩
    · cases e
  · cases e
theorem b_repr (hg : X.A.guards = some []) (hu : X.A.units + 64 < cLine) : CallR X (.builtin "repr") (rDN X.K gRepr) := by
  intro pins s σ H xs us Q I r ⟨A, ds, d, t, p, e, q⟩
  unfold gRepr at e
  split at e
  · rename_i c
    obtain ⟨z, hz, rfl⟩ := map_some e
    obtain ⟨v, rfl, hv⟩ := one_arg p
    obtain ⟨x, hx, h1, h2, h3, rfl⟩ := shownD_some hz
    have dp := hv.dp hx
    obtain ⟨u, rfl, ru⟩ := vals1 r
    have fin : ∀ h' tk u', (∀ b o, s.heap.get? b = some o → h'.get? b = some o) → EP X pins σ Q (.str x.shown u') { s with heap := h', toks := tk } := fun h' tk u' hk => ⟨.str x.shown, H, I.kept hk, ⟨_, rfl⟩, q _ _ (Same.refl _) (.str _)⟩
    have nd := py_noDict hx
    obtain ⟨as, rd⟩ := Dp.reads I x v u dp ru
    cases rd with
    | none =>
      refine PySem.P.repr_of_none ?_
      exact ⟨.str _, H, I.tok _, ⟨_, rfl⟩, q _ _ (Same.refl _) (.str _)⟩
    | bool b =>
      refine PySem.P.repr_of_bool ?_
      refine ⟨.str _, H, I.tok _, ⟨_, rfl⟩, ?_⟩
      have := q _ H (Same.refl _) (.str _)
      simpa [PyData.shown] using this
    | int i t =>
      refine PySem.P.repr_of_int (by simpa [PyData.showable] using h1) ?_
      refine ⟨.str _, H, I.tok _, ⟨_, rfl⟩, ?_⟩
      have := q _ H (Same.refl _) (.str _)
      simpa [PyData.shown] using this
    | str y t =>
      refine PySem.P.repr_of_str (Q := EP X pins σ Q) ?_ (by simpa [PyData.shown] using h2)
      refine ⟨.str _, H, I.tok _, ⟨_, rfl⟩, ?_⟩
      have := q _ H (Same.refl _) (.str _)
      simpa [PyData.shown] using this
    | list a1 a2 a3 a4 =>
      refine repr_of_reads' (h₀ := s.heap) (Reads.list a1 a2 a3 a4) h1 (PyData.noDict_hsm nd) hg (by omega) (fun _ _ z => z) (fun h' u' tk hk => fin h' tk u' hk) h2
    | tuple a1 a2 a3 a4 =>
      refine repr_of_reads' (h₀ := s.heap) (Reads.tuple a1 a2 a3 a4) h1 (PyData.noDict_hsm nd) hg (by omega) (fun _ _ z => z) (fun h' u' tk hk => fin h' tk u' hk) h2
    | dict => simp [PyData.hasDict] at nd
  · cases e
theorem str_seq (hg : X.A.guards = some []) (hu : X.A.units + 64 < cLine) {pins : List (Addr × Obj)} {s : Shared} {σ : L2.St} {H : Hp} {us : List Value} {Q : VK} {A : Addr → Prop} {v : V} {c : D} {z : Str} (I : Inv X pins σ H s) (r : Vals [v] us) (hv : RpB X.K A H v c) (hc : (∃ l, c = .lst l) ∨ ∃ l, c = .tup l)
    (hz : shownD c = some z) (q : ∀ v H', Same H H' → Rp X.K A H' v (.str z) → Q v H') : wpAny (model X.prog X.w) X.A (call (.type "str") us) (EP X pins σ Q) X.xe s := by
  obtain ⟨x, hx, h1, h2, h3, rfl⟩ := shownD_some hz
  have dp := hv.dp hx
  obtain ⟨u, rfl, ru⟩ := vals1 r
  have fin : ∀ h' tk u', (∀ b o, s.heap.get? b = some o → h'.get? b = some o) → EP X pins σ Q (.str x.shown u') { s with heap := h', toks := tk } := fun h' tk u' hk => ⟨.str x.shown, H, I.kept hk, ⟨_, rfl⟩, q _ _ (Same.refl _) (.str _)⟩
  have nd := py_noDict hx
  obtain ⟨as, rd⟩ := Dp.reads I x v u dp ru
  have ok : (∃ l, x = .list l) ∨ ∃ l, x = .tuple l := by
    rcases hc with ⟨l, rfl⟩ | ⟨l, rfl⟩
    · unfold D.py at hx
      obtain ⟨k, _, rfl⟩ := map_some hx
      exact .inl ⟨_, rfl⟩
    · unfold D.py at hx
      obtain ⟨k, _, rfl⟩ := map_some hx
      exact .inr ⟨_, rfl⟩
  cases rd with
  | list a1 a2 a3 a4 => exact str_of_reads (h₀ := s.heap) (Reads.list a1 a2 a3 a4) h1 (PyData.noDict_hsm nd) hg (by omega) (fun _ _ z => z) (fun h' u' tk hk => fin h' tk u' hk) h2
  | tuple a1 a2 a3 a4 => exact str_of_reads (h₀ := s.heap) (Reads.tuple a1 a2 a3 a4) h1 (PyData.noDict_hsm nd) hg (by omega) (fun _ _ z => z) (fun h' u' tk hk => fin h' tk u' hk) h2
  | _ =>
    rcases ok with ⟨l, ok⟩ | ⟨l, ok⟩ <;> cases ok
theorem b_str (hg : X.A.guards = some []) (hu : X.A.units + 64 < cLine) : CallR X (.type "str") (rDN X.K gStr) := by
  intro pins s σ H xs us Q I r ⟨A, ds, d, t, p, e, q⟩
  unfold gStr at e
  split at e
  · rename_i a
    cases e
    obtain ⟨v, rfl, hv⟩ := one_arg p
    rw [hv.str] at r
    exact SkE.call_str_str pins s σ H _ us Q I r ⟨a, rfl, q _ _ (Same.refl _) (.str _)⟩
  · rename_i i
    obtain ⟨hz, rfl⟩ := ite_d (x := .str (toString i)) e
    obtain ⟨v, rfl, hv⟩ := one_arg p
    rw [hv.int] at r
    exact call_str_int pins s σ H _ us Q I r ⟨i, rfl, hz, q _ _ (Same.refl _) (.str _)⟩
  · rename_i l
    obtain ⟨z, hz, rfl⟩ := map_some e
    obtain ⟨v, rfl, hv⟩ := one_arg p
    exact str_seq hg hu I r hv (.inl ⟨l, rfl⟩) hz q
  · rename_i l
    obtain ⟨z, hz, rfl⟩ := map_some e
    obtain ⟨v, rfl, hv⟩ := one_arg p
    exact str_seq hg hu I r hv (.inr ⟨l, rfl⟩) hz q
  · cases e
theorem b_all (hc : X.calm = true) : CallR X (.builtin "all") (rDN X.K gAll) := by
  intro pins s σ H xs us Q I r ⟨A, ds, d, t, p, e, q⟩
  unfold gAll at e
  split at e
  · rename_i l
    obtain ⟨bs, hb, rfl⟩ := map_some e
    obtain ⟨v, rfl, hv⟩ := one_arg p
    obtain ⟨a, ys, rfl, h, rr⟩ := hv.lst
    rw [asBls_eq hb] at rr
    rw [rr.bls] at h
    exact cr_all hc pins s σ H _ us Q I r ⟨a, bs, rfl, SqL.of h, q _ _ (Same.refl _) (.bl _)⟩
  · cases e
theorem b_tuple : CallR X (.type "tuple") (rDN X.K gTuple) := by
  intro pins s σ H xs us Q I r ⟨A, ds, d, t, p, e, q⟩
  unfold gTuple at e
  split at e
  · cases e
    obtain ⟨v, rfl, hv⟩ := one_arg p
    obtain ⟨a, ys, rfl, h, rr⟩ := hv.lst
    exact call_tuple_of pins s σ H _ us Q I r ⟨a, ys, rfl, .inl ⟨SqL.of h, fun l hl => q _ _ (same_upd hl) (new_tup t rr hl)⟩⟩
  · cases e
    obtain ⟨v, rfl, hv⟩ := one_arg p
    obtain ⟨a, ys, rfl, h, rr⟩ := hv.scr
    exact call_tuple_of pins s σ H _ us Q I r ⟨a, ys, rfl, .inl ⟨h.sq, fun l hl => q _ _ (same_upd hl) (new_tup t rr hl)⟩⟩
  · cases e
    obtain ⟨v, rfl, hv⟩ := one_arg p
    obtain ⟨a, ys, rfl, h, rr⟩ := hv.tup
    exact call_tuple_of pins s σ H _ us Q I r ⟨a, ys, rfl, .inr ⟨h.sq, q _ _ (Same.refl _) (.tup h rr)⟩⟩
  · cases e
end
theorem bt_len : bootBuiltins "len" = some (.builtin "len") := by decide +kernel
theorem bt_int : bootBuiltins "int" = some (.type "int") := by decide +kernel
theorem bt_str : bootBuiltins "str" = some (.type "str") := by decide +kernel
theorem bt_tuple : bootBuiltins "tuple" = some (.type "tuple") := by decide +kernel
theorem bt_repr : bootBuiltins "repr" = some (.builtin "repr") := by decide +kernel
theorem bt_abs : bootBuiltins "abs" = some (.builtin "abs") := by decide +kernel
theorem bt_all : bootBuiltins "all" = some (.builtin "all") := by decide +kernel
theorem bt_isinstance : bootBuiltins "isinstance" = some (.builtin "isinstance") := by decide +kernel
end DL
namespace DL
open L2 PySem PySem.Spec PyProof.Rows
section
variable {X : Cx} {G : Gd} {XC : List Nat → Prop} {Ol O O' O1 : List Nat} {W : WX} {fr : Bool} {a b c e : Expr} {es : List Expr} {ma mb mc me : ME} {mr : MA} {pos p : Pos} {x y : Str}
def putP : List Nat → List D → En → Out
  | [], [], ρ => .nx ρ
  | i :: is, d :: ds, ρ => if i < ρ.length then putP is ds (ρ.set i (some d)) else .bad
  | _, _, _ => .bad
def msPar (is : List Nat) (m : MA) : MS := fun ρ => obind (m ρ) fun ds ρ1 => putP is ds ρ1
theorem ds_par {i j : Nat} {px py pt : Pos} {kt k2 pt2} (hx : XC O) (hc : X.calm = true) (hN : X.N.Nodup) (hi : X.N[i]? = some x) (hj : X.N[j]? = some y) (hij : i ≠ j) (oi : O.contains i = false) (oj : O.contains j = false)
    (hlx : X.env.scope.names.lookup x = some .local) (hly : X.env.scope.names.lookup y = some .local) (ha : DA X G O W [a, b] mr)
    (hw : swappedStores [.Tuple [.Name x px, .Name y py] kt pt] (.Tuple [a, b] k2 pt2) X.env = pure (some [x, y]) := by rfl)
    (hs : swapsWithSole [.Tuple [.Name x px, .Name y py] kt pt] (.Tuple [a, b] k2 pt2) pos.line X.env = pure false := by rfl) :
    DS X G XC Ol O O W fr (.Assign [.Tuple [.Name x px, .Name y py] kt pt] (.Tuple [a, b] k2 pt2) pos) (msPar [i, j] mr) := by
  have ni : i ∉ O := fun z => by rw [List.contains_iff_mem.mpr z] at oi; cases oi
  have nj : j ∉ O := fun z => by rw [List.contains_iff_mem.mpr z] at oj; cases oj
  refine ps_imp (ps_par hc hN hi hj hij hlx hly ha hw hs) fun D0 σ H ⟨A, ms, ρ, R, q⟩ => ⟨A, ms, ρ, R, eb hx q ?_⟩
  intro ds ρ1 vs H1 _ R1 k1 r q1
  cases r with
  | nil => exact q1.elim
  | cons r1 r =>
    cases r with
    | nil =>
      simp only [putP] at q1
      split at q1 <;> exact q1.elim
    | cons r2 r =>
      cases r with
      | cons _ _ =>
        simp only [putP] at q1
        split at q1
        · split at q1 <;> exact q1.elim
        · exact q1.elim
      | nil =>
        simp only [putP] at q1
        split at q1
        · rename_i h1
          split at q1
          · rename_i h2
            exact ⟨_, _, rfl, q1 _ H1 A ms ((R1.put ni h1 r1).put nj h2 r2) Tr.refl⟩
          · exact q1.elim
        · exact q1.elim
def gFmt : D → Option D
  | .str y => if y.length ≤ sizeLine then some (.str y) else none
  | .int i => if i.natAbs.log2 < 1920 then some (.str (toString i)) else none
  | _ => none
theorem de_fmt (ha : DE X G O W e ma) : DE X G O W (.FormattedValue e (-1) none pos) (m1 gFmt ma) := by
  refine pe_imp (pe_fmt ha) fun σ H Q ⟨A, ms, ρ, R, q⟩ => ⟨A, ms, ρ, R, RPost.mono (RPost.bind q) ?_⟩
  rintro v H1 ⟨d, ρ1, R1, k1, r1, q1⟩
  obtain ⟨z, hz, q2⟩ := rp_of R1 q1
  cases d with
  | str y =>
    obtain ⟨hl, rfl⟩ := ite_d (x := .str y) hz
    cases r1
    exact .inl ⟨y, rfl, hl, q2 _ H1 (Same.refl _) (.str _)⟩
  | int i =>
    obtain ⟨hl, rfl⟩ := ite_d (x := .str (toString i)) hz
    cases r1
    exact .inr ⟨i, rfl, hl, q2 _ H1 (Same.refl _) (.str _)⟩
  | _ => cases hz
inductive DJ (X : Cx) (G : Gd) (O : List Nat) (W : WX) : List Expr → List ME → Prop where
  | nil : DJ X G O W [] []
  | cons {e : Expr} {m : ME} {es : List Expr} {ms : List ME} (h : DE X G O W e m) (r : DJ X G O W es ms) : DJ X G O W (e :: es) (m :: ms)
def mJs : List ME → Str → ME
  | [], acc, ρ => .ok (.str acc) ρ
  | m :: ms, acc, ρ => (m ρ).bind fun d ρ1 => match d with
    | .str y => if (acc ++ y).length ≤ sizeLine then mJs ms (acc ++ y) ρ1 else .bad
    | _ => .bad
theorem DJ.pj {es : List Expr} {ms : List ME} (h : DJ X G O W es ms) : PJ X es (ms.map (tE X.K G O W)) := by
  induction h with
  | nil => exact .nil
  | cons h r ih => exact .cons h ih
theorem js_go {K : PySem.W.Frag} {σ : L2.St} {Q : VK} : ∀ {ms : List ME} {acc : Str} {H : Hp}, tE K G O W (mJs ms acc) σ H Q → tJs (ms.map (tE K G O W)) acc σ H fun out H1 => Q (.str out) H1
  | [], acc, H, ⟨A, ms, ρ, R, q⟩ => q _ H R Kp.refl (.str _)
  | m :: r, acc, H, ⟨A, ms, ρ, R, q⟩ => by
    refine ⟨A, ms, ρ, R, RPost.mono (RPost.bind q) ?_⟩
    rintro v H1 ⟨d, ρ1, R1, k1, r1, q1⟩
    cases d with
    | str y =>
      cases r1
      have q2 : RPost K G O W A ms σ H1 (Rp K A) Q (if (acc ++ y).length ≤ sizeLine then mJs r (acc ++ y) ρ1 else .bad) := q1
      split at q2
      · rename_i hz
        exact ⟨y, rfl, hz, js_go ⟨A, ms, ρ1, R1, q2⟩⟩
      · exact q2.elim
    | _ => exact q1.elim
theorem de_joined {v1 v2 : Expr} {rest : List Expr} {ms : List ME} (h : DJ X G O W (v1 :: v2 :: rest) ms) : DE X G O W (.JoinedStr (v1 :: v2 :: rest) pos) (mJs ms Str.empty) := pe_imp (pe_joined h.pj) fun _ _ _ h => js_go h
def msRaise (c : Str) : MS := fun ρ => .ex ⟨c, []⟩ ρ
theorem ds_raise {C : Str} (hx : XC O) (hc : X.calm = true) (tk : L2N.Takes X W) (he : L2N.PMk X e (fun _ H Q => Q (.ref (He.ga X.K C)) none H)) : DS X G XC Ol O O' W fr (.Raise (some e) none pos) (msRaise C) := by
  refine ps_imp (L2N.ps_raise hc tk he) fun D0 σ H ⟨A, ms, ρ, R, q⟩ => ?_
  exact q none σ H A ms O hx R Tr.refl (.inl ⟨rfl, rfl⟩)
theorem pss_ex {ι : Type} {sts : List Stmt} {P : ι → Prop} {t : ι → TS} (h : ∀ i, P i → PSs X sts (t i)) : PSs X sts (fun D σ H => ∃ i, P i ∧ t i D σ H) := ⟨fun pins s σ H D I ⟨i, p, q⟩ => (h i p).run pins s σ H D I q⟩
def fgt (i : Nat) : Out → Out
  | .nx ρ => .nx (ρ.set i none)
  | .rt d ρ => .rt d ρ
  | .bk ρ => .bk (ρ.set i none)
  | .ct ρ => .ct (ρ.set i none)
  | .ex _ _ => .bad
  | .bad => .bad
def msTryAs (mt : Str → Option Bool) (i : Nat) (mb : MS) (ms : Str → MS) : MS := fun ρ => match mb ρ with
  | .ex y ρ1 => match mt y.c with
    | some true => match y.fs with
      | [] => if i < ρ1.length then fgt i (ms y.c (ρ1.set i none)) else .bad
      | _ => .bad
    | some false => .ex y ρ1
    | none => .bad
  | o => o
def Mt (X : Cx) (c : Value) (mt : Str → Option Bool) : Prop := ∀ y b, mt y = some b → PySem.W.exmOne X.K (.ref (He.ga X.K y)) c = some b
def Gd.at (G : Gd) (i : Nat) (a : Addr) (c : Str) : Gd := { G with px := some (i, a, c) }
theorem RelS.named {K : PySem.W.Frag} {A : Addr → Prop} {ms : Nat → Option Addr} {σ : L2.St} {H : Hp} {ρ : En} {i : Nat} {a : Addr} {c : Str} (R : RelS K G O A ms σ H ρ) (hi : i ∉ O) (hlt : i < ρ.length) (hn : G.px = none) (h0 : i ≠ 0 ∨ G.io = none) :
    RelS K (G.at i a c) (i :: O) A (fun j => if j = i then none else ms j) (σ.set i (some (.ref a))) H (ρ.set i none) := by
  have R1 := R.forget (O1 := i :: O) (NPx.no hn) h0 fun j hj => by simp [hj]
  have ne : ∀ {j : Nat} {z : D}, (ρ.set i none)[j]? = some (some z) → j ≠ i := fun {j z} e h => by
    subst h
    rw [List.getElem?_set_self hlt] at e; cases e
  exact {
    sub := R1.sub
    trk0 := R1.trk0
    trk := R1.trk
    keep := R1.keep
    len := by rw [List.length_set]; exact R1.len
    fz := fun j d e n => let ⟨v, e1, q⟩ := R1.fz j d e n; ⟨v, by rw [List.getElem?_set_ne (Ne.symm (ne e))]; exact e1, q⟩
    ow := fun j d e m => let ⟨p, e0, e1, q⟩ := R1.ow j d e m; ⟨p, e0, by rw [List.getElem?_set_ne (Ne.symm (ne e))]; exact e1, q⟩
    inA := R1.inA
    ok := R1.ok
    dist := R1.dist
    px := fun j a' c' e => by
      cases e
      exact ⟨List.mem_cons_self, List.getElem?_set_self (by rw [R.len]; exact hlt)⟩
    io := R1.io }
theorem RelS.unnamed {K : PySem.W.Frag} {A : Addr → Prop} {ms : Nat → Option Addr} {σ : L2.St} {H : Hp} {ρ : En} {i : Nat} {a : Addr} {c : Str} (R : RelS K (G.at i a c) (i :: O) A ms σ H ρ) (hi : i ∉ O) (hn : G.px = none) (h0 : i ≠ 0 ∨ G.io = none) :
    RelS K G O A (fun j => if j = i then none else ms j) (σ.set i none) H (ρ.set i none) := by
  have ne : ∀ {j : Nat} {z : D}, (ρ.set i none)[j]? = some (some z) → j ≠ i := fun {j z} e h => by
    subst h
    by_cases hl : j < ρ.length
    · rw [List.getElem?_set_self hl] at e; cases e
    · rw [List.getElem?_eq_none (by rw [List.length_set]; omega)] at e; cases e
  have g : ∀ {j : Nat} {z : D}, (ρ.set i none)[j]? = some (some z) → ρ[j]? = some (some z) := fun {j z} e => by
    have e' := e
    rw [set_get_ne (ne e)] at e'
    exact e'
  have sm : ∀ {j : Nat} {p : Addr}, (if j = i then none else ms j) = some p → j ≠ i ∧ ms j = some p := fun {j p} e => by
    by_cases h : j = i
    · rw [if_pos h] at e; cases e
    · rw [if_neg h] at e; exact ⟨h, e⟩
  exact {
    sub := R.sub
    trk0 := R.trk0
    trk := R.trk
    keep := R.keep
    len := by rw [List.length_set, List.length_set]; exact R.len
    fz := fun j d e n => by
      have nj := ne e
      obtain ⟨v, e1, q⟩ := R.fz j d (g e) fun m => (List.mem_cons.mp m).elim nj n
      exact ⟨v, by rw [List.getElem?_set_ne (Ne.symm nj)]; exact e1, q⟩
    ow := fun j d e m => by
      have nj := ne e
      obtain ⟨p, e0, e1, q⟩ := R.ow j d (g e) (List.mem_cons_of_mem _ m)
      exact ⟨p, (if_neg nj).trans e0, by rw [List.getElem?_set_ne (Ne.symm nj)]; exact e1, q⟩
    inA := fun j p m e => R.inA j p (List.mem_cons_of_mem _ m) (sm e).2
    ok := fun j p m e => R.ok j p (List.mem_cons_of_mem _ m) (sm e).2
    dist := fun j j' p m m' e e' => R.dist j j' p (List.mem_cons_of_mem _ m) (List.mem_cons_of_mem _ m') (sm e).2 (sm e').2
    px := fun j a' c' e => by rw [hn] at e; cases e
    io := fun p e => by
      obtain ⟨h1, h2, h3, z, h4⟩ := R.io p e
      have n0 : (0 : Nat) ≠ i := fun w => by
        rcases h0 with k | k
        · exact k w.symm
        · rw [k] at e; cases e
      exact ⟨(List.mem_cons.mp h1).resolve_left n0, h2, (if_neg n0).trans h3, z, by rw [set_get_ne n0]; exact h4⟩ }
theorem ds_tryAs {n : Str} {c : Value} {i : Nat} {body suite : List Stmt} {b₀ : Stmt} {np pos' : Pos} {mt : Str → Option Bool} {mb : MS} {ms : Str → MS} (hx : XC O) (hs : X.stack = X.env :: X.outer) (hf : X.env.frame = some X.env.locals) (hN : X.N.Nodup) (hi : X.N[i]? = some n) (hln : X.env.kindOf n = some .local) (hc : Names X x c) (tk : L2N.Takes X W)
    (hmt : Mt X c mt) (oi : O.contains i = false) (h0 : i ≠ 0 ∨ G.io = none) (hn : G.px = none)
    (hb : ∀ (W : WX) (pn : List (Addr × Obj)) (xe : Value → Shared → Prop), L2N.Takes (X.tr pn xe) W → PassesOwn (model X.prog X.w) X.A X.env xe → DSs (X.tr pn xe) G (fun o => o = O) Ol O O W fr body mb)
    (hsu : ∀ (a : Addr) (oe : Obj) (k : Str) (pn : List (Addr × Obj)), L2N.Zn (.ref (He.ga X.K k)) none oe → (∃ vs, oe.data = .fields vs) → mt k = some true → DSs (X.suite a ((a, oe) :: pn)) (G.at i a k) (fun o => o = i :: O) (i :: Ol) (i :: O) (i :: O) W0 fr (b₀ :: suite) (ms k))
    (nol : Ol.contains i = false) :
    DS X G XC Ol O O W fr (.Try body [.ExceptHandler (some (.Name x np)) (some n) (b₀ :: suite) pos'] [] [] pos) (msTryAs mt i mb ms) := by
  have ni : i ∉ O := fun z => by rw [List.contains_iff_mem.mpr z] at oi; cases oi
  have nl : i ∉ Ol := fun z => by rw [List.contains_iff_mem.mpr z] at nol; cases nol
  let ts : Addr → Value → Option Addr → TS := fun a cls d D σ H => ∃ k : Str, (cls = .ref (He.ga X.K k) ∧ d = none ∧ mt k = some true) ∧ tS X.K (G.at i a k) (fun o => o = i :: O) (i :: Ol) (i :: O) (i :: O) W0 fr (ms k) D σ H
  refine ps_imp (L2N.ps_try_as (ts := ts) (Wout := W) (tb := fun W => tS X.K G (fun o => o = O) Ol O O W fr mb) hs hf hN hi hln hc tk (fun W pn xe t p => hb W pn xe t p) (fun a oe cls d pn hz hd => ?_)) fun D0 σ H ⟨A, ms', ρ, R, q⟩ => ?_
  · refine pss_ex fun k ⟨e1, e2, e3⟩ => ?_
    subst e1 e2
    exact hsu a oe k pn hz hd e3
  · refine ⟨A, ms', ρ, R, ?_⟩
    unfold msTryAs at q
    cases hm : mb ρ with
    | nx ρ1 => rw [hm] at q; exact q
    | rt d ρ1 => rw [hm] at q; exact q
    | bk ρ1 => rw [hm] at q; exact q
    | ct ρ1 => rw [hm] at q; exact q
    | bad => rw [hm] at q; exact q.elim
    | ex y ρ1 =>
      rw [hm] at q
      intro dx σ1 H1 A1 ms1 O'' hO R1 t1 xr
      have hO' : O'' = O := hO
      subst hO'
      have q1 := SPost.from t1 q
      have q1 : SPost X.K G XC Ol O'' W fr A1 H1 D0 (match mt y.c with
        | some true => match y.fs with
          | [] => if i < ρ1.length then fgt i (ms y.c (ρ1.set i none)) else .bad
          | _ => .bad
        | some false => .ex y ρ1
        | none => .bad) := q1
      cases hb1 : mt y.c with
      | none => simp only [hb1] at q1; exact q1.elim
      | some b =>
        simp only [hb1] at q1
        refine ⟨b, hmt _ _ hb1, fun e1 a na => ?_, fun e1 => ?_⟩
        · subst e1
          obtain ⟨yc, yf⟩ := y
          cases yf with
          | cons _ _ => exact q1.elim
          | nil =>
            have q2 : SPost X.K G XC Ol O'' W fr A1 H1 D0 (if i < ρ1.length then fgt i (ms yc (ρ1.set i none)) else .bad) := q1
            have dn : dx = none := by
              rcases xr with ⟨_, z⟩ | ⟨z, _⟩
              · exact z
              · exact absurd rfl z
            subst dn
            split at q2
            · rename_i hlt
              refine ⟨yc, ⟨rfl, rfl, hb1⟩, A1, _, _, R1.named ni hlt hn h0, ?_⟩
              cases hr : ms yc (ρ1.set i none) with
              | nx ρ2 => rw [hr] at q2; exact fun σ' H' A' ms' R' t => q2 _ H' A' _ (R'.unnamed ni hn h0) t
              | bk ρ2 => rw [hr] at q2; exact fun σ' H' A' ms' R' t => q2 _ H' A' _ (R'.unnamed nl hn h0) t
              | ct ρ2 => rw [hr] at q2; exact fun σ' H' A' ms' R' t => q2 _ H' A' _ (R'.unnamed nl hn h0) t
              | rt d ρ2 => rw [hr] at q2; exact q2
              | ex z ρ2 => rw [hr] at q2; exact q2.elim
              | bad => rw [hr] at q2; exact q2.elim
            · exact q2.elim
        · subst e1
          have q2 : SPost X.K G XC Ol O'' W fr A1 H1 D0 (.ex y ρ1) := q1
          exact q2 dx σ1 H1 A1 ms1 O'' hx R1 Tr.refl xr
end
end DL
namespace DL
open L2 PySem PySem.Spec PyProof.Rows
section
variable {X : Cx} {G : Gd} {XC : List Nat → Prop} {Ol O O' O1 : List Nat} {W : WX} {fr : Bool} {a b c e o : Expr} {es : List Expr} {ma mb mc me mo : ME} {mr : MA} {pos p apos : Pos} {x y : Str}
theorem de_isE {i : Nat} {n C k : Str} {v : Bool} {ad : Addr} {np cp : Pos} (hpx : G.px = some (i, ad, k)) (hC : CallR X (.builtin "isinstance") (rIsE X.K (He.ga X.K k) ad)) (ht : PySem.W.kitOne X.K (.ref (He.ga X.K k)) (.ref (He.ga X.K C)) = some v)
    (hg : Gl X "isinstance") (hm : X.mg "isinstance" = none) (hN : X.N[i]? = some n) (hv : Vis X.env.scope n) (hcg : Gl X C) (hcm : X.mg C = some (.ref (He.ga X.K C)))
    (hd1 : (n == ("__debug__" : Str)) = false := by decide) (hd2 : (n == ("__classdict__" : Str)) = false := by decide) (hd3 : (C == ("__debug__" : Str)) = false := by decide)
    (he : starEach [.Name n np, .Name C cp] X.env = (false, eval (.Name n np) X.env) :: starEach [.Name C cp] X.env := by rfl) (he2 : starEach [.Name C cp] X.env = (false, eval (.Name C cp) X.env) :: starEach [] X.env := by rfl) (hpl : (backTo pos (starEach [.Name C cp] X.env)).any (·.1) = false := by rfl) :
    DE X G O W (.Call (.Name "isinstance" p) [.Name n np, .Name C cp] [] pos) (mK (.bl v)) := by
  refine pe_imp (pe_callB hC hg hm bt_isinstance (pa_cons (pe_var hN hv hd1 hd2) (pa_cons (pe_glob (v := .ref (He.ga X.K C)) hcg hcm rfl hd3) pa_nil he2) he) (by decide) (by decide) he hpl) fun σ H Q ⟨A, ms, ρ, R, q⟩ => ?_
  obtain ⟨_, h1⟩ := R.px i ad k hpx
  exact ⟨_, h1, .ref (He.ga X.K C), .ref (He.ga X.K C), v, rfl, fun u r => r, ht, q _ H R Kp.refl (.bl v)⟩
def mCallV (tab : Str → Option FN) (f : ME) (args : MA) : ME := fun ρ => (f ρ).bind fun d ρ1 => match d with
  | .fn x => match tab x with
    | some F => mCall F args ρ1
    | none => .bad
  | _ => .bad
def rMD (K : PySem.W.Frag) (g : D → List D → Option D) : V → List V → Hp → VK → Prop := fun x xs H Q => ∃ A c ds d, Trk A H ∧ RpB K A H x c ∧ (RpA K A H xs ds ∨ ∃ v c, xs = [v] ∧ ds = [c] ∧ RpB K A H v c) ∧ g c ds = some d ∧ ∀ v H', Same H H' → Rp K A H' v d → Fr K A H H' v d → Q v H'
def isStr : D → Bool
  | .str _ => true
  | _ => false
def mM (g : D → List D → Option D) (o : ME) (args : MA) : ME := fun ρ => (o ρ).bind fun x ρ1 => if isStr x = true then (args ρ1).bind fun xs ρ2 => ret (g x xs) ρ2 else .bad
theorem strm_go {K : PySem.W.Frag} {g : D → List D → Option D} {σ : L2.St} {H : Hp} {Q : VK} (h : tE K G O W (mM g mo mr) σ H Q) : tBM K "str" (rMD K g) (tE K G O W mo) (tA K G O W mr) σ H Q := by
  obtain ⟨A, ms, ρ, R, q⟩ := h
  refine ⟨A, ms, ρ, R, RPost.mono (RPost.bind q) ?_⟩
  rintro v H1 ⟨d, ρ1, R1, k1, r1, q1⟩
  split at q1
  · cases d with
    | str z =>
      cases r1
      refine ⟨rfl, A, ms, ρ1, R1, RPost.mono (RPost.bind q1) ?_⟩
      rintro vs H2 ⟨ds, ρ2, R2', k2, r2, q2⟩
      obtain ⟨z', hz, q3⟩ := rp_of R2' q2
      exact ⟨A, _, ds, z', R2'.trk, .of (.str z), .inl r2, hz, fun v H' s r _ => q3 v H' s r⟩
    | _ => rename_i h; cases h
  · exact q1.elim
section
variable {name : Str} {id : String} {g : D → List D → Option D}
theorem de_sm (slot : Slot "str" name id) (hty : typeOf (.builtin id) = pure (.type "method_descriptor")) (hm : MtR X id (rMD X.K g)) (ho : DE X G O W o mo) (ha : DA X G O W (e :: es) mr)
    (hbase : attributeBase o name X.env (eval o X.env) = eval o X.env := by rfl)
    (hfew : ((backTo pos (starEach (e :: es) X.env)).all (fun x => !x.1) && (backToKw pos (keywordEach [] X.env)).all (fun x => x.1.isSome)
      && decide ((e :: es).length + ([] : List Keyword).length + (if ([] : List Keyword).isEmpty then 0 else 1) < 30)) = true := by rfl)
    (hline : (apos.endLine == pos.line) = true := by rfl) (hs : starEach (e :: es) X.env = (false, eval e X.env) :: starEach es X.env := by rfl) (hplain : (backTo pos (starEach es X.env)).any (·.1) = false := by rfl) :
    DE X G O W (.Call (.Attribute o name apos) (e :: es) [] pos) (mM g mo mr) := pe_imp (pe_bm PySem.F.plainAttrs_str slot hty hm ho ha hbase hfew hline hs hplain) fun _ _ _ h => strm_go h
end
def gSplit (x : D) (xs : List D) : Option D := match x, xs with
  | .str a, [.str b] => if (b.length == 0) = false ∧ a.length + 2 ≤ sizeLine then some (.lst ((Txt.split a b).map D.str)) else none
  | _, _ => none
theorem mt_splitD : MtR X "str.split" (rMD X.K gSplit) := by
  rintro pins s σ H v xs u us Q I rx rs ⟨A, c, ds, d, t, rc, ra, hg, q⟩
  unfold gSplit at hg
  split at hg
  · rename_i a b
    obtain ⟨hz, rfl⟩ := ite_d (x := .lst ((Txt.split a b).map D.str)) hg
    rw [rc.str] at rx
    obtain ⟨w, rfl, hw⟩ := one_arg ra
    rw [hw.str] at rs
    refine mt_split pins s σ H _ _ u us Q I rx rs ⟨a, b, rfl, rfl, hz.1, hz.2, fun r hr => ?_⟩
    exact q _ _ (same_upd hr) (new_lst t (RpA.of_strs _) hr) (new_fr t (RpA.of_strs _) hr)
  · cases hg
end
end DL
namespace DL
open L2 PySem PySem.Spec PyProof.Rows
theorem lawG {P : Program} {w : World} {K : PySem.W.Frag} {mg mB : Str → Option Value} {k : Nat} {fL sc : Addr} {F : FN} {t0 : Shared} {ws : List Value} {zs : List Int} {o : D} (kin : K.In t0.heap) (nsG : t0.heap.Ns mainGlobals mg) (nsB : t0.heap.Ns builtinsNs mB)
    (bB : ∀ y : Str, y ≠ "__name__" → mB y = bootBuiltins y) (noL : t0.heap.NoLimit) (noG : t0.gens = #[]) (hsc : t0.heap.get? sc = some { cls := .type "list", data := .seq ws.toArray }) (itg : IntsAre ws zs) (few : zs.length ≤ sizeLine) (room : Room k callerA)
    (C : ∀ base : Heap, K.In base → base.Ns mainGlobals mg → FnG P w K mg base k fL false false F) (hF : F [.scr (zs.map D.int)] = .rt (.bl true) o) :
    codeAny (model P w) callerA (.call (.ref fL) ⟨[.ref sc], []⟩) (fun r t => r = .ok (.ret (.bool true)) ∧ OldK t0.heap t.heap ∧ t.os = t0.os ∧ AllBare t.gens) t0 := by
  have rz := vals_ints itg
  have lz := itg.length
  have main : ∀ J : Hp, Only J → SqL K J sc (zs.map V.int) → HOk P w J t0.heap → (∀ b, J b ≠ none → b = sc) → (J sc ≠ none → K.lookup sc = none) →
      codeAny (model P w) callerA (.call (.ref fL) ⟨[.ref sc], []⟩) (fun r t => r = .ok (.ret (.bool true)) ∧ OldK t0.heap t.heap ∧ t.os = t0.os ∧ AllBare t.gens) t0 := by
    intro J only sq ok1 at1 no1
    have keepB : ∀ {b : Addr} {ob : Obj}, t0.heap.get? b = some ob → J b = none → (hidT t0.heap J).get? b = some ob := fun x y => hidT_get x y
    have noDict : ∀ {b : Addr} {ob : Obj} {es : Array DictEntry} {ep : Nat}, t0.heap.get? b = some ob → ob.data = .dict es ep → J b = none := fun {b ob es ep} x y => by
      cases z : J b with
      | none => rfl
      | some u =>
        obtain rfl : b = sc := at1 b (by rw [z]; simp)
        rw [hsc] at x
        cases x
        cases (show Data.seq ws.toArray _ = Data.dict es ep from y)
    have nsT : ∀ {b : Addr} {m : Str → Option Value}, t0.heap.Ns b m → (hidT t0.heap J).Ns b m := fun {b m} ⟨ob, es, ep, x, y, r⟩ => ⟨ob, es, ep, keepB x (noDict x y), y, r⟩
    have kinB : K.In (hidT t0.heap J) := fun b ob x => keepB (kin b ob x) (by
      cases z : J b with
      | none => rfl
      | some u =>
        obtain rfl : b = sc := at1 b (by rw [z]; simp)
        rw [no1 (by rw [z]; simp)] at x
        cases x)
    have modB : Mod K mg (hidT t0.heap J) := ⟨kinB, nsT nsG, ⟨mB, nsT nsB, bB⟩, let ⟨m1, x, y⟩ := noL; ⟨m1, nsT x, y⟩⟩
    have env0 : Env0 P w K mg (hidT t0.heap J) callerA [] t0 J := ⟨rfl, modB, fun b ob x => of_hidT x, Nat.le_of_eq (hidT_size _ _), trivial, fun b hb => absurd (show b ∈ ([] : List Addr) from hb) List.not_mem_nil, ok1, .of_eq noG⟩
    have sp1 : spD K false false F [.ref sc] J (fun v _ => v = .bl true) (fun _ _ _ => False) := by
      refine ⟨fun _ => False, none, [.scr (zs.map D.int)], fun _ z => z.elim, rfl, ?_, ?_⟩
      · exact .cons (.scr (sq.imp (fun z => ⟨z, fun z => z⟩) id) (RpA.of_ints zs)) .nil
      · rw [hF]
        intro v J' _ rr
        have rr' : Rp K (fun _ => False) J' v (.bl true) := rr.1
        cases rr'
        rfl
    refine codeAny_mono ((C _ kinB (nsT nsG)).run callerA [] t0 J [.ref sc] [.ref sc] _ _ room rfl env0 (.cons rfl .nil) sp1) fun r t hr => ?_
    cases r with
    | error e =>
      obtain ⟨_, _, _, _, _, _, _, _, _, _, _, _, z⟩ := (show L2N.CX P w [] J t0 (fun _ _ _ => False) e t from hr)
      exact z.elim
    | ok fl =>
      cases fl with
      | next => exact hr.elim
      | brk => exact hr.elim
      | cont => exact hr.elim
      | ret u =>
        obtain ⟨v, J', os1, bare1, un1, ok2, rv, qv⟩ := hr
        obtain rfl : v = .bl true := qv
        obtain rfl : u = Value.bool true := rv
        refine ⟨rfl, OldK.of_keep fun b ob x => ?_, os1, bare1⟩
        cases z : J b with
        | none => exact un1.keep b ob x z (fun y => absurd (show b ∈ ([] : List Addr) from y) List.not_mem_nil) List.not_mem_nil
        | some u =>
          rcases only b with y | ⟨o1, xs, y⟩
          · rw [z] at y; cases y
          · obtain ⟨g1, _⟩ := ok1 b _ y
            obtain ⟨g2, _⟩ := ok2 b _ (un1.frzs b o1 _ y)
            rw [x] at g1
            cases g1
            exact g2
  cases lk : K.lookup sc with
  | some ob =>
    have x := kin sc ob lk
    rw [hsc] at x
    cases x
    exact main (fun _ => none) (fun _ => .inl rfl) (.inr ⟨_, ws.toArray, _, lk, rfl, rfl, rfl, by rw [List.size_toArray, lz]; exact few, by simpa using rz⟩) (fun b u z => by cases (show (none : Option HO) = some u from z)) (fun b z => absurd rfl z) fun z => absurd rfl z
  | none =>
    let ob : Obj := { cls := .type "list", data := .seq ws.toArray }
    refine main (fun b => if b = sc then some (.frz ob (.lst (zs.map V.int))) else none) (fun b => ?_) (.inl (.inr ⟨ob, if_pos rfl⟩)) (fun b u z => ?_) (fun b z => ?_) fun _ => lk
    · by_cases hb : b = sc
      · exact .inr ⟨_, _, if_pos hb⟩
      · exact .inl (if_neg hb)
    · by_cases hb : b = sc
      · cases (if_pos hb).symm.trans z
        subst hb
        exact ⟨hsc, by rw [List.length_map]; exact few, ws, _, rz, hsc⟩
      · cases (if_neg hb).symm.trans z
    · by_cases hb : b = sc
      · exact hb
      · exact absurd (if_neg hb) z
theorem walkG {l : PySem.W.OpenLaw} {n k : Nat} {q : Program} {loose : List Str} {XP : (Str → Option Value) → Heap → Prop} {YP : World → Heap → Prop} {d : DefRec} {F : FN} (hn : l.most = some n) (hn2 : n ≤ sizeLine) (hdf : d.params.defaults = []) (room : Room k callerA)
    (C : ∀ (w : World) (mg : Str → Option Value) (fL : Addr) (h : Heap), YP w h → h.Ns mainGlobals mg → mg d.name = some (.ref fL) → ∃ K : PySem.W.Frag, K.In h ∧ ∀ base : Heap, K.In base → base.Ns mainGlobals mg → FnG l.prog w K mg base k fL false false F)
    (hF : ∀ zs : List Int, zs.length ≤ n → ∃ o, F [.scr (zs.map D.int)] = .rt (.bl true) o) : PySem.W.WalkO q loose XP YP l.row.toRowW d [] (fun f vs => PySem.call f vs) := by
  refine Att.attach_call hn hdf fun w t1 t0 mg mB fL o pm cd doc sc ws zs G Y ho hd hcd hmg hobj hints hlen hg => ?_
  obtain ⟨K, kin, hC⟩ := C w mg fL _ Y G.T.g hmg
  obtain ⟨o', e⟩ := hF zs hlen
  exact lawG kin G.T.g G.T.b G.T.builtins G.T.nolimit hg hobj hints (Nat.le_trans hlen hn2) room hC e
abbrev Ok (P : Program) (w : World) (K : PySem.W.Frag) (mg : Str → Option Value) (k : Nat) (x : Str) (io fr : Bool) (F : FN) : Prop := ∀ base : Heap, FnG P w K mg base k (He.ga K x) io fr F
theorem Room.u64 {k : Nat} {A : Around} (r : Room k A) : A.units + 64 < cLine := by have := r.un; omega
theorem Room.u65 {k : Nat} {A : Around} (r : Room k A) : A.units + 65 < cLine := by have := r.un; omega
section
variable {X : Cx} {G : Gd} {XC : List Nat → Prop} {Ol O O' O1 : List Nat} {W : WX} {fr : Bool} {a b c e o : Expr} {es : List Expr} {ma mb mc me mo : ME} {mr : MA} {pos p apos : Pos} {x y : Str}
theorem v_ (i : Nat) {x : Str} {pos : Pos} (hO : O.contains i = false := by rfl) (hN : X.N[i]? = some x := by rfl) (hv : Vis X.env.scope x := by first | exact Or.inl rfl | exact Or.inr (Or.inl rfl) | exact Or.inr (Or.inr rfl))
    (hd : (x == ("__debug__" : Str)) = false := by decide) (hcd : (x == ("__classdict__" : Str)) = false := by decide) : DE X G O W (.Name x pos) (mVar i) := de_var i hO hN hv hd hcd
theorem gv_ {x : Str} {d : D} {v : V} {u : Value} (hm : X.mg x = some u) (ru : RelV v u) (hr : ∀ A H, Rp X.K A H v d) (hg : Gl X x := by rfl) (hd : (x == ("__debug__" : Str)) = false := by decide) : DE X G O W (.Name x pos) (mK d) := de_c (pe_glob hg hm ru hd) hr
theorem pm (op : CmpOp) (b : Expr) (h : behindInMarks op b = false := by rfl) : behindInMarks op b = false := h
end
end DL
namespace DL
open L2 PySem PySem.Spec PyProof.Rows
section
variable {X : Cx} {G : Gd} {XC : List Nat → Prop} {Ol O O' O1 : List Nat} {W : WX} {fr : Bool} {a b c e o : Expr} {es : List Expr} {ma mb mc me mo : ME} {mr : MA} {pos p apos : Pos} {x y : Str}
theorem tE_tF {K : PySem.W.Frag} {m : ME} {σ : L2.St} {H : Hp} {Q : VK} (h : tE K G O W m σ H Q) : tF K G O W m σ H Q := by
  obtain ⟨A, ms, ρ, R, q⟩ := h
  refine ⟨A, ms, ρ, R, ?_⟩
  cases hm : m ρ with
  | bad => rw [hm] at q; exact q.elim
  | ex x ρ1 => rw [hm] at q; exact q
  | ok d ρ1 =>
    rw [hm] at q
    intro p H' R' _ k hp ow
    have np : ¬ A p := Trk.no (fun a z => R.trk a z) hp
    exact q (.ref p) H' R' k (ow.freeze (fun a z => .inl z) np)
theorem put_post {K : PySem.W.Frag} {i : Nat} {D0 : Ends} {σ : L2.St} {H : Hp} (hx : XC O) (oi : O.contains i = false) (h : tS K G XC Ol O O W fr (msAsg me (mgName i)) D0 σ H) : tAsg (tE K G O W me) (gName i) D0 σ H := by
  obtain ⟨A, ms, ρ, R, q⟩ := h
  have ni : i ∉ O := fun z => by rw [List.contains_iff_mem.mpr z] at oi; cases oi
  refine ⟨A, ms, ρ, R, eb hx q ?_⟩
  intro d ρ1 v H1 _ R1 k r q1
  unfold mgName at q1
  split at q1
  · rename_i ρ2 he
    split at he
    · rename_i hlt
      cases he
      exact q1 _ H1 A ms (R1.put ni hlt r) Tr.refl
    · cases he
  · exact q1.elim
section
variable {i : Nat} {py spos : Pos} {elt tg iter : Expr} {ifs : List Expr} {scope : Scope} {own : List (Str × Nat)} {mi : En → R (List D)} {g : MG} {mt : MT} {tt : TT}
theorem ds_setLc (hx : XC O) (oi : O.contains i = false) (hc : X.calm = true) (hN : X.N.Nodup) (hy : X.N[i]? = some y) (hyl : X.env.scope.names.lookup y = some .local) (hsw : swapsWith (.ListComp elt [⟨tg, iter, ifs, 0⟩] scope pos) (some (.Name y py)) spos.line X.env = pure true) (hv : (ownS own).all (fun i => !O.contains i) = true)
    (hi : DI X G O W tg iter mi) (ok : BlkOk X.N X.env.scope scope own)
    (hg : ∀ (s : Shared) (H : Hp) (C : Addr) (cl : List (Str × Addr)) (fp : List Addr), DG (X.blk s H scope (compEnvC scope cl C X.env) fp) G O (ownS own) tg g)
    (ht : ∀ (s : Shared) (H : Hp) (C : Addr) (cl : List (Str × Addr)) (fp : List Addr), PTs (X.blk s H scope (compEnvC scope cl C X.env) fp) ifs tt) (htt : ∀ σ H Q, tT X.K G O W0 mt σ H Q → tt σ H Q)
    (he : ∀ (s : Shared) (H : Hp) (C : Addr) (cl : List (Str × Addr)) (fp : List Addr), DE (X.blk s H scope (compEnvC scope cl C X.env) fp) G O W0 elt me) (hs : ∀ x, foldedSetIterable iter X.env x = pure x := by intro _; rfl) :
    DS X G XC Ol O O W fr (.Assign [.Name y py] (.ListComp elt [⟨tg, iter, ifs, 0⟩] scope pos) spos) (msAsg (mLc (ownS own) mi g mt me) (mgName i)) :=
  ps_imp (ps_setLc (te := tE X.K G O W0 me) (tt := tt) (g := tG X.K G O (ownS own) g) hc hN hy hyl hsw hi ok hg ht he hs) fun D0 σ H h => lc_go (W := W) hv htt (tE_tF (put_post hx oi h))
end
theorem takes0 (h : X.xe = fun _ _ => False) : L2N.Takes X W0 := fun u s' ⟨_, _, _, _, _, _, _, _, _, _, _, _, _, _, _, _, z⟩ => z.elim
end
end DL
namespace DL
open L2 PySem PySem.Spec PyProof.Rows
abbrev XF := PySem.W.Frag → Bool
def obX (fa : List He.Fa) (xf : XF) (fn : List He.DefD) (K : PySem.W.Frag) : He.AlD := (xf K && ((fa.all fun f => f.ok K) && fn.all fun d => d.ok K), fn.map fun d => He.fnW K d.at_)
def SaysX (fa : List He.Fa) (xf : XF) (fn : List He.DefD) (K : PySem.W.Frag) : Prop := obX fa xf fn K = He.valD fn
section
variable {fa : List He.Fa} {xf : XF} {fn : List He.DefD} {K : PySem.W.Frag}
theorem SaysX.x1 (c : SaysX fa xf fn K) : xf K = true := (He.ba (show (xf K && ((fa.all fun f => f.ok K) && fn.all fun d => d.ok K)) = true from congrArg (fun z : He.AlD => z.1) c)).1
theorem SaysX.d (c : SaysX fa xf fn K) : He.SaysD fa fn K := by
  have c1 : (xf K && ((fa.all fun f => f.ok K) && fn.all fun d => d.ok K)) = true := congrArg (fun z : He.AlD => z.1) c
  have c2 : (fn.map fun d => He.fnW K d.at_) = fn.map He.DefD.val := congrArg (fun z : He.AlD => z.2) c
  exact Prod.ext (He.ba c1).2 c2
end
def excB (K : PySem.W.Frag) (x : Str) : Bool :=
  decide (PySem.W.findIn K (.ref (He.ga K x)) "__getattribute__" = some (some (.builtin "BaseException.__getattribute__"))) && (decide (PySem.W.findIn K (.ref (He.ga K x)) "__getattr__" = some none) && (decide (PySem.W.subIn K (.ref (He.ga K x)) (.type "BaseException") = some true) &&
    (PySem.W.hasDictIn K (He.ga K x) && (decide (PySem.W.findIn K (.ref (He.ga K x)) "__class__" = some (some (.builtin "object.__class__"))) && (decide (PySem.W.specialIn K (.builtin "object.__class__") "__get__" = some (some (.builtin "getset_descriptor.__get__"))) &&
      (decide (PySem.W.takesIn K (.builtin "object.__class__") = some true) && decide (PySem.W.mroIn K (He.ga K x) (.type "object") = some true)))))))
theorem excB_ok {K : PySem.W.Frag} {x : Str} (h : excB K x = true) : ExcC K (He.ga K x) := by
  unfold excB at h
  obtain ⟨h1, h⟩ := He.ba h
  obtain ⟨h2, h⟩ := He.ba h
  obtain ⟨h3, h⟩ := He.ba h
  obtain ⟨h4, h⟩ := He.ba h
  obtain ⟨h5, h⟩ := He.ba h
  obtain ⟨h6, h⟩ := He.ba h
  obtain ⟨h7, h8⟩ := He.ba h
  exact ⟨of_decide_eq_true h1, of_decide_eq_true h2, of_decide_eq_true h3, h4, of_decide_eq_true h5, of_decide_eq_true h6, of_decide_eq_true h7, of_decide_eq_true h8⟩
def kitB (K : PySem.W.Frag) (x y : Str) (b : Bool) : Bool := decide (PySem.W.kitOne K (.ref (He.ga K x)) (.ref (He.ga K y)) = some b)
theorem kitB_ok {K : PySem.W.Frag} {x y : Str} {b : Bool} (h : kitB K x y b = true) : PySem.W.kitOne K (.ref (He.ga K x)) (.ref (He.ga K y)) = some b := of_decide_eq_true h
section
variable {X : Cx} {G : Gd} {XC : List Nat → Prop} {Ol O O' O1 : List Nat} {W : WX} {fr : Bool} {a b c e o : Expr} {es : List Expr} {ma mb mc me mo : ME} {mr : MA} {pos p apos : Pos} {x y : Str}
theorem gi_ {x : Str} {i : Int} (hm : ∃ t, X.mg x = some (.int i t)) (hg : Gl X x := by rfl) (hd : (x == ("__debug__" : Str)) = false := by decide) : DE X G O W (.Name x pos) (mK (.int i)) := by
  obtain ⟨t, e⟩ := hm
  exact gv_ (v := .int i) e ⟨t, rfl⟩ (fun _ _ => .int i) hg hd
theorem gs_ {x z : Str} (hm : ∃ t, X.mg x = some (.str z t)) (hg : Gl X x := by rfl) (hd : (x == ("__debug__" : Str)) = false := by decide) : DE X G O W (.Name x pos) (mK (.str z)) := by
  obtain ⟨t, e⟩ := hm
  exact gv_ (v := .str z) e ⟨t, rfl⟩ (fun _ _ => .str z) hg hd
structure ExcOk (K : PySem.W.Frag) (mg : Str → Option Value) (C : Str) : Prop where
  ex : PySem.W.excIn K (He.ga K C) He.veBase "ValueError.__new__" = true
  kp : PySem.W.keepIn K (.ref (He.ga K C)) = true
  bs : PySem.W.subIn K (.ref (He.ga K C)) (.type "BaseException") = some true
  ty : PySem.W.typeIn K (.ref (He.ga K C)) = some (.type "type")
  gl : mg C = some (.ref (He.ga K C))
theorem ds_raiseC {C m : Str} {j : Nat} {p2 pos2 : Pos} (ec : ExcOk X.K X.mg C) (hx : XC O) (tk : L2N.Takes X W) (hc : X.calm = true := by rfl) (hg : Gl X C := by rfl) (hdb : (C == ("__debug__" : Str)) = false := by decide) : DS X G XC Ol O O' W fr (.Raise (some (.Call (.Name C p) [.Constant (.str m) j p2] [] pos2)) none pos) (msRaise C) :=
  ds_raise hx hc tk (L2N.pmk_own PySem.F.excBase_ValueError ec.ex ec.gl ec.kp (raises_own ec.bs ec.ty) hg hdb)
theorem callIsE {k : Str} {a : Addr} {oe : Obj} {pn : List (Addr × Obj)} (C : ExcC X.K (He.ga X.K k)) (hz : L2N.Zn (.ref (He.ga X.K k)) none oe) (hf : ∃ vs, oe.data = .fields vs) : CallR (X.suite a ((a, oe) :: pn)) (.builtin "isinstance") (rIsE X.K (He.ga X.K k) a) := call_isE C hz.zc hf
end
section
variable {P : Program} {w : World} {K : PySem.W.Frag} {mg : Str → Option Value} {base : Heap} {N : List Str} {qual : Str} {scope : Scope} {f : Addr} {cdv : Value} {A : Around} {outer : List Env} {s : Shared} {H : Hp} {E : XK}
theorem cx_tk : L2N.Takes (cxOf (L2N.CX P w) P w K mg base N qual scope f cdv A outer s H E) (fun cls d _ H' => E cls d H') := L2N.takes_of rfl rfl rfl rfl
theorem cx_pw : PassesOwn (model (cxOf (L2N.CX P w) P w K mg base N qual scope f cdv A outer s H E).prog (cxOf (L2N.CX P w) P w K mg base N qual scope f cdv A outer s H E).w) (cxOf (L2N.CX P w) P w K mg base N qual scope f cdv A outer s H E).A (cxOf (L2N.CX P w) P w K mg base N qual scope f cdv A outer s H E).env (cxOf (L2N.CX P w) P w K mg base N qual scope f cdv A outer s H E).xe := passes_of rfl
end
end DL
namespace DL
open L2 PySem PySem.Spec PyProof.Rows
def Ret.R (r : Ret) (ρ : En) : R D := match r with
  | .rt d _ => .ok d ρ
  | .ex x _ => .ex x ρ
  | .bad => .bad
theorem mCall_R (F : FN) (args : MA) (ρ : En) : mCall F args ρ = (args ρ).bind fun ds ρ1 => (F ds).R ρ1 := rfl
section
variable {ρ ρ1 : En} {d : D} {α β : Type} {x : Xn}
@[simp] theorem bind_ok (a : α) (r : En) (f : α → En → R β) : R.bind (.ok a r) f = f a r := rfl
@[simp] theorem bind_ex (x : Xn) (r : En) (f : α → En → R β) : R.bind (.ex x r : R α) f = .ex x r := rfl
@[simp] theorem obind_ok (a : α) (r : En) (f : α → En → Out) : obind (.ok a r) f = f a r := rfl
@[simp] theorem obind_ex (x : Xn) (r : En) (f : α → En → Out) : obind (.ex x r : R α) f = .ex x r := rfl
@[simp] theorem ret_some (a : α) : ret (some a) ρ = .ok a ρ := rfl
@[simp] theorem ret_none : ret (none : Option α) ρ = .bad := rfl
@[simp] theorem mK_ap : mK d ρ = .ok d ρ := rfl
@[simp] theorem mVar_ap (i : Nat) : mVar i ρ = match ρ[i]? with | some (some d) => .ok d ρ | _ => .bad := by unfold mVar; rfl
@[simp] theorem m1_ap (g : D → Option D) (a : ME) : m1 g a ρ = (a ρ).bind fun x ρ1 => ret (g x) ρ1 := rfl
@[simp] theorem m2_ap (g : D → D → Option D) (a b : ME) : m2 g a b ρ = (a ρ).bind fun x ρ1 => (b ρ1).bind fun y ρ2 => ret (g x y) ρ2 := rfl
@[simp] theorem mIf_ap (c : MT) (a b : ME) : mIf c a b ρ = (c ρ).bind fun k ρ1 => if k = true then a ρ1 else b ρ1 := by
  unfold mIf; cases c ρ with
  | ok k r => cases k <;> rfl
  | ex _ _ => rfl
  | bad => rfl
@[simp] theorem mTest_ap (m : ME) : mTest m ρ = (m ρ).bind fun x ρ1 => ret (asB x) ρ1 := rfl
@[simp] theorem asB_bl (b : Bool) : asB (.bl b) = some b := rfl
@[simp] theorem mTru_ap (m : ME) : mTru m ρ = (m ρ).bind fun x ρ1 => ret (tru x) ρ1 := rfl
@[simp] theorem mNotT_ap (m : MT) : mNotT m ρ = (m ρ).bind fun x ρ1 => .ok (!x) ρ1 := rfl
@[simp] theorem mAndT_ap (a b : MT) : mAndT a b ρ = (a ρ).bind fun k ρ1 => if k = true then b ρ1 else .ok false ρ1 := by
  unfold mAndT; cases a ρ with
  | ok k r => cases k <;> rfl
  | ex _ _ => rfl
  | bad => rfl
@[simp] theorem mOrT_ap (a b : MT) : mOrT a b ρ = (a ρ).bind fun k ρ1 => if k = true then .ok true ρ1 else b ρ1 := by
  unfold mOrT; cases a ρ with
  | ok k r => cases k <;> rfl
  | ex _ _ => rfl
  | bad => rfl
@[simp] theorem mNil_ap : mNil ρ = .ok [] ρ := rfl
@[simp] theorem mCons_ap (a : ME) (b : MA) : mCons a b ρ = (a ρ).bind fun x ρ1 => (b ρ1).bind fun xs ρ2 => .ok (x :: xs) ρ2 := rfl
@[simp] theorem mN_ap (g : List D → Option D) (a : MA) : mN g a ρ = (a ρ).bind fun xs ρ1 => ret (g xs) ρ1 := rfl
@[simp] theorem msNil_ap : msNil ρ = .nx ρ := rfl
@[simp] theorem msSeq_ap (a b : MS) : msSeq a b ρ = match a ρ with | .nx ρ1 => b ρ1 | o => o := rfl
@[simp] theorem msExpr_ap (m : ME) : msExpr m ρ = obind (m ρ) fun _ ρ1 => .nx ρ1 := rfl
@[simp] theorem msAsg_ap (m : ME) (g : MG) : msAsg m g ρ = obind (m ρ) fun d ρ1 => match g d ρ1 with | .ok _ ρ2 => .nx ρ2 | _ => .bad := rfl
@[simp] theorem msOwn_ap (i : Nat) (m : ME) : msOwn i m ρ = obind (m ρ) fun d ρ1 => if i < ρ1.length then .nx (ρ1.set i (some d)) else .bad := rfl
@[simp] theorem msRet_ap (m : ME) : msRet m ρ = obind (m ρ) fun d ρ1 => .rt d ρ1 := rfl
@[simp] theorem msRetN_ap : msRetN ρ = .rt .non ρ := rfl
@[simp] theorem msRetO_ap (j : Nat) : msRetO j ρ = match getO ρ j with | some d => .rt d ρ | none => .bad := rfl
@[simp] theorem msIf_ap (c : MT) (a b : MS) : msIf c a b ρ = obind (c ρ) fun k ρ1 => if k = true then a ρ1 else b ρ1 := rfl
@[simp] theorem msBrk_ap : msBrk ρ = .bk ρ := rfl
@[simp] theorem msFor_ap (mi : En → R (List D)) (g : MG) (mb : MS) : msFor mi g mb ρ = obind (mi ρ) fun ds ρ1 => loopL g mb ds ρ1 := rfl
@[simp] theorem msWhile_ap (n : Nat) (c : MT) (mb : MS) : msWhile n c mb ρ = loopW c mb n ρ := rfl
@[simp] theorem msForget_ap (j : Nat) (m : MS) : msForget j m ρ = m (ρ.set j none) := rfl
@[simp] theorem msPar_ap (is : List Nat) (m : MA) : msPar is m ρ = obind (m ρ) fun ds ρ1 => putP is ds ρ1 := rfl
@[simp] theorem msRaise_ap (c : Str) : msRaise c ρ = .ex ⟨c, []⟩ ρ := rfl
@[simp] theorem mgName_ap (i : Nat) : mgName i d ρ = if i < ρ.length then .ok () (ρ.set i (some d)) else .bad := rfl
@[simp] theorem mgNil_ap : mgNil [] ρ = .ok () ρ := rfl
@[simp] theorem mgCons_ap (g : MG) (gs : List D → En → R Unit) (r : List D) : mgCons g gs (d :: r) ρ = (g d ρ).bind fun _ ρ1 => gs r ρ1 := rfl
@[simp] theorem mgTup_ap (n : Nat) (gs : List D → En → R Unit) (ds : List D) : mgTup n gs (.tup ds) ρ = if ds.length = n then gs ds ρ else .bad := rfl
@[simp] theorem putP_nil : putP [] [] ρ = .nx ρ := rfl
@[simp] theorem putP_cons (i : Nat) (is : List Nat) (ds : List D) : putP (i :: is) (d :: ds) ρ = if i < ρ.length then putP is ds (ρ.set i (some d)) else .bad := rfl
@[simp] theorem mItN_ap (g : List D → Option (List D)) (a : MA) : mItN g a ρ = (a ρ).bind fun ds ρ1 => ret (g ds) ρ1 := rfl
@[simp] theorem mIter_ap (m : ME) : mIter m ρ = (m ρ).bind fun d ρ1 => ret (gIter d) ρ1 := rfl
@[simp] theorem mOM_ap (g : List D → List D → Option (D × List D)) (j : Nat) (args : MA) : mOM g j args ρ = match getO ρ j with
  | some (.lst _) => (args ρ).bind fun ds ρ1 => match getO ρ1 j with
    | some (.lst cs) => match g cs ds with
      | some (z, cs') => .ok z (ρ1.set j (some (.lst cs')))
      | none => .bad
    | _ => .bad
  | _ => .bad := rfl
@[simp] theorem mTruO_ap (j : Nat) : mTruO j ρ = match getO ρ j with | some (.lst l) => .ok (!l.isEmpty) ρ | _ => .bad := rfl
theorem mCallIo_ap (F : FN) (j : Nat) (args : MA) : mCallIo F j args ρ = match getO ρ j with
  | none => .bad
  | some _ => (args ρ).bind fun ds ρ1 => match getO ρ1 j with
    | none => .bad
    | some c => match F (c :: ds) with
      | .rt d o => .ok d (ρ1.set j (some o))
      | .ex x o => .ex x (ρ1.set j (some o))
      | .bad => .bad := rfl
@[simp] theorem mCallV_ap (tab : Str → Option FN) (f : ME) (args : MA) : mCallV tab f args ρ = (f ρ).bind fun d ρ1 => match d with
  | .fn x => match tab x with
    | some F => mCall F args ρ1
    | none => .bad
  | _ => .bad := rfl
@[simp] theorem gTup_ap (xs : List D) : gTup xs = if xs.length ≤ sizeLine then some (.tup xs) else none := rfl
@[simp] theorem gLst_ap (xs : List D) : gLst xs = if xs.length ≤ sizeLine then some (.lst xs) else none := rfl
@[simp] theorem gAdd_ii (i j : Int) : gAdd (.int i) (.int j) = some (.int (i + j)) := rfl
@[simp] theorem gSub_ii (i j : Int) : gSub (.int i) (.int j) = some (.int (i - j)) := rfl
theorem gMul_ii (i j : Int) : gMul (.int i) (.int j) = if okMul i j = true then some (.int (i * j)) else none := rfl
theorem gDiv_ii (i j : Int) : gDiv (.int i) (.int j) = if j ≠ 0 ∧ j.natAbs.log2 < 9000 then some (.int (i.fdiv j)) else none := rfl
theorem gMod_ii (i j : Int) : gMod (.int i) (.int j) = if j ≠ 0 then some (.int (i.fmod j)) else none := rfl
@[simp] theorem gNeg_i (i : Int) : gNeg (.int i) = some (.int (-i)) := rfl
@[simp] theorem gLt_ii (i j : Int) : gLt (.int i) (.int j) = some (.bl (decide (i < j))) := rfl
@[simp] theorem gGt_ii (i j : Int) : gGt (.int i) (.int j) = some (.bl (decide (j < i))) := rfl
@[simp] theorem gLe_ii (i j : Int) : gLe (.int i) (.int j) = some (.bl (decide (i ≤ j))) := rfl
@[simp] theorem gGe_ii (i j : Int) : gGe (.int i) (.int j) = some (.bl (decide (j ≤ i))) := rfl
@[simp] theorem gEq_ii (i j : Int) : gEq (.int i) (.int j) = some (.bl (decide (i = j))) := rfl
@[simp] theorem gNe_ii (i j : Int) : gNe (.int i) (.int j) = some (.bl (!decide (i = j))) := rfl
@[simp] theorem gEq_ss (i j : Str) : gEq (.str i) (.str j) = some (.bl (decide (i = j))) := rfl
@[simp] theorem gNe_ss (i j : Str) : gNe (.str i) (.str j) = some (.bl (!decide (i = j))) := rfl
@[simp] theorem gIs_n (d : D) : gIs d .non = some (.bl (isNon d)) := by cases d <;> rfl
@[simp] theorem gIsNot_n (d : D) : gIsNot d .non = some (.bl (!isNon d)) := by cases d <;> rfl
@[simp] theorem gIs_b (a b : Bool) : gIs (.bl a) (.bl b) = some (.bl (decide (a = b))) := rfl
@[simp] theorem gIsNot_b (a b : Bool) : gIsNot (.bl a) (.bl b) = some (.bl (!decide (a = b))) := rfl
@[simp] theorem gInt_i (i : Int) : gInt [.int i] = some (.int i) := rfl
@[simp] theorem gInt_b (k : Bool) : gInt [.bl k] = some (.int (if k then 1 else 0)) := rfl
@[simp] theorem gAbs_i (i : Int) : gAbs [.int i] = some (.int (if i < 0 then -i else i)) := rfl
@[simp] theorem mAnd_ap (a b : ME) : mAnd a b ρ = (a ρ).bind fun x ρ1 => (ret (tru x) ρ1).bind fun k ρ2 => if k = true then b ρ2 else .ok x ρ2 := by
  unfold mAnd
  cases a ρ with
  | ok x r =>
    simp only [bind_ok]
    try (cases tru x with
    | none => rfl
    | some k => cases k <;> rfl)
  | ex _ _ => rfl
  | bad => rfl
@[simp] theorem tru_bl (b : Bool) : tru (.bl b) = some b := rfl
@[simp] theorem gIx_t (l : List D) (i : Int) : gIx (.tup l) (.int i) = L2.atI l i := rfl
@[simp] theorem gIx_l (l : List D) (i : Int) : gIx (.lst l) (.int i) = L2.atI l i := rfl
@[simp] theorem gRange1_i (j : Int) : gRange1 [.int j] = if okR j = true then some (rangeL 0 j.toNat) else none := rfl
@[simp] theorem Ret.R_rt (d o : D) : Ret.R (.rt d o) ρ = .ok d ρ := rfl
@[simp] theorem Ret.R_ex (x : Xn) (o : D) : Ret.R (.ex x o) ρ = .ex x ρ := rfl
theorem mLc_ap (vs : List Nat) (mi : En → R (List D)) (g : MG) (mt : MT) (me : ME) : mLc vs mi g mt me ρ = (mi ρ).bind fun ds ρ1 => match lcLoop vs g mt me ds ρ1 with
  | .ok ys ρ2 => if ys.length ≤ sizeLine then .ok (.lst ys) (restE ρ1 vs ρ2) else .bad
  | _ => .bad := rfl
theorem mTryAs_ap (mt : Str → Option Bool) (i : Nat) (mb : MS) (ms : Str → MS) : msTryAs mt i mb ms ρ = match mb ρ with
  | .ex y ρ1 => match mt y.c with
    | some true => match y.fs with
      | [] => if i < ρ1.length then fgt i (ms y.c (ρ1.set i none)) else .bad
      | _ => .bad
    | some false => .ex y ρ1
    | none => .bad
  | o => o := rfl
end
theorem lg {n k : Nat} (h : n < 2 ^ k) (hk : 0 < k) : n.log2 < k := by
  by_cases z : n = 0
  · subst z; simpa using hk
  · exact (Nat.log2_lt z).mpr h
theorem sm_mul {a b : Int} {i j : Nat} (h1 : a.natAbs < 2 ^ i) (h2 : b.natAbs < 2 ^ j) : (a * b).natAbs < 2 ^ (i + j) := by
  rw [Int.natAbs_mul, Nat.pow_add]
  exact Nat.mul_lt_mul'' h1 h2
theorem sm_add {a b : Int} {i : Nat} (h1 : a.natAbs < 2 ^ i) (h2 : b.natAbs < 2 ^ i) : (a + b).natAbs < 2 ^ (i + 1) := by
  have := Int.natAbs_add_le a b
  rw [Nat.pow_succ]
  omega
theorem sm_up {a : Int} {i j : Nat} (h : a.natAbs < 2 ^ i) (l : i ≤ j) : a.natAbs < 2 ^ j := Nat.lt_of_lt_of_le h (Nat.pow_le_pow_right (by decide) l)
theorem okMul_of {a b : Int} {i j : Nat} (h1 : a.natAbs < 2 ^ i) (h2 : b.natAbs < 2 ^ j) (hi : 0 < i) (hj : 0 < j) (h : i + j < 100000000) : okMul a b = true := by
  unfold okMul
  have := lg h1 hi
  have := lg h2 hj
  exact decide_eq_true (by omega)
theorem gMul_sm {a b : Int} {i j : Nat} (h1 : a.natAbs < 2 ^ i) (h2 : b.natAbs < 2 ^ j) (hi : 0 < i) (hj : 0 < j) (h : i + j < 100000000) : gMul (.int a) (.int b) = some (.int (a * b)) := by rw [gMul_ii, if_pos (okMul_of h1 h2 hi hj h)]
theorem gDiv_sm {a b : Int} {j : Nat} (h0 : b ≠ 0) (h2 : b.natAbs < 2 ^ j) (hj : 0 < j) (h : j ≤ 9000) : gDiv (.int a) (.int b) = some (.int (a.fdiv b)) := by
  rw [gDiv_ii, if_pos ⟨h0, Nat.lt_of_lt_of_le (lg h2 hj) h⟩]
theorem gMod_nz {a b : Int} (h0 : b ≠ 0) : gMod (.int a) (.int b) = some (.int (a.fmod b)) := by rw [gMod_ii, if_pos h0]
end DL
namespace DL
open L2 PySem PySem.Spec PyProof.Rows
def mqNumber : MS := (msSeq (msIf (mTest (m2 gLt (mVar 0) (mK (.int 0)))) (msRet (m2 gSub (mK (.int 0)) (mVar 0))) msNil) (msRet (mVar 0)))
def qNumber : FN := runM 1 1 [] false mqNumber
def mqInner : MS := (msSeq (msIf (mTest (m2 gEq (mVar 3) (mK (.int 0)))) msBrk msNil) (msSeq (msExpr (mOM gAppend 1 (mCons (m2 gMod (mN gInt (mCons (mVar 3) mNil)) (mK (.int 1000))) mNil))) (msAsg (m2 gDiv (mVar 3) (mK (.int 1000))) (mgName 3))))
def mqBody : MS := (msSeq (msAsg (mCall qNumber (mCons (mVar 2) mNil)) (mgName 3)) (msIf (mTest (m2 gGe (mVar 3) (mK (.int 1000000000000000000)))) (msFor (mItN gRange1 (mCons (mK (.int 60)) mNil)) (mgName 4) mqInner) (msSeq (msAsg (m2 gMod (mN gInt (mCons (m2 gAdd (m2 gMul (mVar 3) (mK (.int 48271))) (mK (.int 11))) mNil)) (mK (.int 2147483647))) (mgName 5)) (msSeq (msAsg (m2 gMod (mN gInt (mCons (m2 gAdd (m2 gMul (mVar 5) (mK (.int 69621))) (mVar 3)) mNil)) (mK (.int 2147483629))) (mgName 6)) (msExpr (mOM gExtend 1 (mCons (mN gLst (mCons (m2 gMod (mN gInt (mCons (mVar 3) mNil)) (mK (.int 1000))) (mCons (m2 gMod (mN gInt (mCons (mVar 5) mNil)) (mK (.int 1000))) (mCons (m2 gMod (mN gInt (mCons (mVar 6) mNil)) (mK (.int 1000))) mNil)))) mNil)))))))
def mqDraws : MS := (msForget 1 (msSeq (msOwn 1 (mN gLst mNil)) (msSeq (msFor (mIter (mVar 0)) (mgName 2) mqBody) (msRetO 1))))
def qDraws : FN := runM 7 1 [] true mqDraws
def mqNext : MS := (msSeq (msIf (mTruO 0) (msRet (mOM gPop 0 mNil)) msNil) (msRet (mK (.int 0))))
def qNext : FN := runM 1 1 [] false mqNext
theorem qNumber_v (n : Int) (ρ : En) : (qNumber [.int n]).R ρ = .ok (.int (if n < 0 then -n else n)) ρ := by
  by_cases h : n < 0
  · simp [qNumber, runM, mqNumber, pad, h]
  · simp [qNumber, runM, mqNumber, pad, h]
theorem getO_1 (a : Option D) (d : D) (r : En) : getO (a :: some d :: r) 1 = some d := rfl
theorem getO_0 (d : D) (r : En) : getO (some d :: r) 0 = some d := rfl
def drawI (l : List Int) : Int := l.getLastD 0
theorem qNext_v (l : List Int) : qNext [.lst (l.map .int)] = .rt (.int (drawI l)) (.lst (l.dropLast.map .int)) := by
  rcases List.eq_nil_or_concat l with h | ⟨r, z, h⟩
  · subst h; rfl
  · subst h
    simp [qNext, runM, mqNext, pad, getO_0, gPop, drawI, io0]
theorem inner_v (s : Option D) (o2 o4 o5 o6 : Option D) : ∀ (ds : List D) (acc : List Int) (n : Int), acc.length + ds.length < sizeLine →
    ∃ (acc' : List Int) (n' : Int) (o4' : Option D), loopL (mgName 4) mqInner ds [s, some (.lst (acc.map .int)), o2, some (.int n), o4, o5, o6] = .nx [s, some (.lst (acc'.map .int)), o2, some (.int n'), o4', o5, o6] ∧ acc'.length ≤ acc.length + ds.length := by
  intro ds
  induction ds generalizing o4 with
  | nil => exact fun acc n _ => ⟨acc, n, o4, rfl, Nat.le_refl _⟩
  | cons d r ih =>
    intro acc n h
    rw [List.length_cons] at h
    by_cases hn : n = 0
    · subst hn
      refine ⟨acc, 0, some d, ?_, by omega⟩
      simp [loopL, mqInner]
    · obtain ⟨acc', n', o4', e, l⟩ := ih (some d) (acc ++ [n.fmod 1000]) (n.fdiv 1000) (by rw [List.length_append, List.length_singleton]; omega)
      refine ⟨acc', n', o4', ?_, by rw [List.length_append, List.length_singleton] at l; rw [List.length_cons]; omega⟩
      rw [← e]
      have h1 : acc.length < sizeLine := by omega
      have h2 : ∀ x : Int, gDiv (.int x) (.int 1000) = some (.int (x.fdiv 1000)) := fun x => gDiv_sm (j := 10) (by decide) (by decide) (by decide) (by decide)
      simp [loopL, mqInner, hn, getO_1, gAppend, gMod_ii, h1, h2]
theorem body_v (s : Option D) : ∀ (cells acc : List Int) (o2 o3 o4 o5 o6 : Option D), acc.length + 60 * cells.length < sizeLine →
    ∃ (acc' : List Int) (o2' o3' o4' o5' o6' : Option D), loopL (mgName 2) mqBody (cells.map .int) [s, some (.lst (acc.map .int)), o2, o3, o4, o5, o6] = .nx [s, some (.lst (acc'.map .int)), o2', o3', o4', o5', o6'] ∧ acc'.length ≤ acc.length + 60 * cells.length := by
  intro cells
  induction cells with
  | nil => exact fun acc o2 o3 o4 o5 o6 _ => ⟨acc, o2, o3, o4, o5, o6, rfl, Nat.le_refl _⟩
  | cons c r ih =>
    intro acc o2 o3 o4 o5 o6 h
    rw [List.length_cons] at h
    rw [List.map_cons]
    by_cases hc : (1000000000000000000 : Int) ≤ (if c < 0 then -c else c)
    · obtain ⟨acc1, n1, o41, e1, l1⟩ := inner_v s (some (.int c)) o4 o5 o6 (rangeL 0 60) acc (if c < 0 then -c else c) (by
        have : (rangeL 0 60).length = 60 := by simp [rangeL]
        omega)
      have hl : (rangeL 0 60).length = 60 := by simp [rangeL]
      obtain ⟨acc', o2', o3', o4', o5', o6', e, l⟩ := ih acc1 (some (.int c)) (some (.int n1)) o41 o5 o6 (by omega)
      refine ⟨acc', o2', o3', o4', o5', o6', ?_, by rw [List.length_cons]; omega⟩
      rw [← e]
      have ok60 : okR 60 = true := by decide
      have e1' : loopL (mgName 4) mqInner (rangeL 0 60) [s, some (.lst (acc.map .int)), some (.int c), some (.int (if c < 0 then -c else c)), o4, o5, o6] = _ := e1
      have t60 : Int.toNat 60 = 60 := rfl
      simp only [loopL]
      simp [mqBody, mCall_R, qNumber_v, hc, ok60, e1']
    · have hs : (if c < 0 then -c else c).natAbs < 2 ^ 60 := by
        split <;> split at hc <;> omega
      have m1 := gMul_sm (a := if c < 0 then -c else c) (b := 48271) (i := 60) (j := 20) hs (by decide) (by decide) (by decide) (by decide)
      have p1 : ∀ x : Int, (x.fmod 2147483647).natAbs < 2 ^ 60 := fun x => by
        rw [Int.fmod_eq_emod_of_nonneg _ (by decide)]
        omega
      have m2' := fun x : Int => gMul_sm (a := x.fmod 2147483647) (b := 69621) (i := 60) (j := 20) (p1 x) (by decide) (by decide) (by decide) (by decide)
      obtain ⟨acc', o2', o3', o4', o5', o6', e, l⟩ := ih (acc ++ [(if c < 0 then -c else c).fmod 1000, ((((if c < 0 then -c else c) * 48271 + 11).fmod 2147483647)).fmod 1000, ((((((if c < 0 then -c else c) * 48271 + 11).fmod 2147483647) * 69621 + (if c < 0 then -c else c)).fmod 2147483629)).fmod 1000])
        (some (.int c)) (some (.int (if c < 0 then -c else c))) o4 (some (.int (((if c < 0 then -c else c) * 48271 + 11).fmod 2147483647))) (some (.int (((((if c < 0 then -c else c) * 48271 + 11).fmod 2147483647) * 69621 + (if c < 0 then -c else c)).fmod 2147483629))) (by simp; omega)
      refine ⟨acc', o2', o3', o4', o5', o6', ?_, by simp at l; rw [List.length_cons]; omega⟩
      rw [← e]
      have h3 : 3 ≤ sizeLine := by decide
      have h4 : acc.length + 3 ≤ sizeLine := by omega
      simp only [loopL]
      simp [mqBody, mCall_R, qNumber_v, hc, m1, m2', gMod_ii, getO_1, gExtend, h3, h4]
theorem qDraws_v (zs : List Int) (h : zs.length ≤ 63) : ∃ l : List Int, ∀ ρ, (qDraws [.scr (zs.map .int)]).R ρ = .ok (.lst (l.map .int)) ρ := by
  have hz : sizeLine = 16777216 := by decide
  obtain ⟨acc', o2', o3', o4', o5', o6', e, l⟩ := body_v (some (.scr (zs.map .int))) zs [] none none none none none (by simp; omega)
  refine ⟨acc', fun ρ => ?_⟩
  have e' : loopL (mgName 2) mqBody (zs.map .int) [some (.scr (zs.map .int)), some (.lst []), none, none, none, none, none] = _ := e
  have h0 : 0 ≤ sizeLine := by decide
  simp [qDraws, runM, mqDraws, pad, gIter, h0, e', getO_1]
end DL
namespace DL
open L2 PySem PySem.Spec PyProof.Rows
theorem eu_step {b r k : Nat} (hb : b < 2 ^ (k + 1)) (hr : 0 < r) (hrb : r < b) : b % r < 2 ^ k := by
  have h1 := Nat.mod_lt b hr
  rw [Nat.pow_succ] at hb
  by_cases h : 2 * r ≤ b
  · omega
  · have e : b % r = b - r := by rw [Nat.mod_eq_sub_mod (by omega), Nat.mod_eq_of_lt (by omega)]
    omega
theorem fmod_nat (a b : Nat) : (a : Int).fmod (b : Int) = ((a % b : Nat) : Int) := by
  rw [Int.fmod_eq_emod_of_nonneg _ (Int.natCast_nonneg b)]
  exact (Int.natCast_emod a b).symm
def mEuC : MT := mTest (m2 gNe (mVar 1) (mK (.int 0)))
def mEuB : MS := msPar [0, 1] (mCons (mVar 1) (mCons (m2 gMod (mVar 0) (mVar 1)) mNil))
theorem eu_zero (a n : Nat) : loopW mEuC mEuB (n + 1) [some (.int (a : Int)), some (.int ((0 : Nat) : Int))] = .nx [some (.int (a : Int)), some (.int 0)] := by
  simp [loopW, mEuC]
theorem eu_one {a b n : Nat} (hb : b ≠ 0) : loopW mEuC mEuB (n + 1) [some (.int (a : Int)), some (.int (b : Int))] = loopW mEuC mEuB n [some (.int (b : Int)), some (.int ((a % b : Nat) : Int))] := by
  have h : (b : Int) ≠ 0 := by omega
  rw [← fmod_nat]
  simp [loopW, mEuC, mEuB, h, gMod_nz h, hb]
theorem eu_loop : ∀ (k a b n : Nat), b < 2 ^ k → 2 * k + 1 ≤ n → loopW mEuC mEuB n [some (.int (a : Int)), some (.int (b : Int))] = .nx [some (.int (Nat.gcd a b : Nat)), some (.int 0)]
  | k, a, b, 0, _, h => by omega
  | 0, a, b, n + 1, hb, h => by
    obtain rfl : b = 0 := by simpa using hb
    rw [Nat.gcd_zero_right]
    exact eu_zero a n
  | k + 1, a, b, n + 1, hb, h => by
    by_cases b0 : b = 0
    · subst b0
      rw [Nat.gcd_zero_right]
      exact eu_zero a n
    · rw [eu_one b0]
      have g1 : Nat.gcd a b = Nat.gcd b (a % b) := by rw [Nat.gcd_comm a b, Nat.gcd_rec b a, Nat.gcd_comm]
      by_cases r0 : a % b = 0
      · rw [g1, r0, Nat.gcd_zero_right]
        obtain ⟨m, rfl⟩ : ∃ m, n = m + 1 := ⟨n - 1, by omega⟩
        exact eu_zero b m
      · have hrb := Nat.mod_lt a (Nat.pos_of_ne_zero b0)
        obtain ⟨m, rfl⟩ : ∃ m, n = m + 1 := ⟨n - 1, by omega⟩
        rw [eu_one r0]
        have g2 : Nat.gcd b (a % b) = Nat.gcd (a % b) (b % (a % b)) := by rw [Nat.gcd_comm b, Nat.gcd_rec (a % b) b, Nat.gcd_comm]
        rw [g1, g2]
        exact eu_loop k (a % b) (b % (a % b)) m (eu_step hb (Nat.pos_of_ne_zero r0) hrb) (by omega)
def mqDivisor : MS := (msSeq (msPar [0, 1] (mCons (mN gAbs (mCons (mVar 0) mNil)) (mCons (mN gAbs (mCons (mVar 1) mNil)) mNil))) (msSeq (msWhile 1000000 mEuC mEuB) (msRet (mVar 0))))
def qDivisor : FN := runM 2 2 [] false mqDivisor
theorem abs_cast (a : Int) : (if a < 0 then -a else a) = ((a.natAbs : Nat) : Int) := by split <;> omega
theorem qDivisor_v (a b : Int) (hb : b.natAbs < 2 ^ 8000) (ρ : En) : (qDivisor [.int a, .int b]).R ρ = .ok (.int (Int.gcd a b : Nat)) ρ := by
  have e := eu_loop 8000 a.natAbs b.natAbs 1000000 hb (by decide)
  rw [Int.gcd_eq_natAbs_gcd_natAbs]
  simp [qDivisor, runM, mqDivisor, pad, abs_cast, e]
def mEv : MS := (msSeq (msIf (mTest (m2 gEq (mVar 3) (mK (.int 0)))) msBrk msNil) (msPar [2, 3] (mCons (mVar 3) (mCons (m2 gMod (mN gInt (mCons (mVar 2) mNil)) (mVar 3)) mNil))))
theorem ev_zero (x y : Option D) (a : Nat) (o : Option D) : ∀ ds : List D, ∃ o', loopL (mgName 4) mEv ds [x, y, some (.int (a : Int)), some (.int ((0 : Nat) : Int)), o] = .nx [x, y, some (.int (a : Int)), some (.int 0), o']
  | [] => ⟨o, rfl⟩
  | d :: r => ⟨some d, by simp [loopL, mEv]⟩
theorem ev_one (x y : Option D) {a b : Nat} (o : Option D) (hb : b ≠ 0) (d : D) (ds : List D) : loopL (mgName 4) mEv (d :: ds) [x, y, some (.int (a : Int)), some (.int (b : Int)), o] = loopL (mgName 4) mEv ds [x, y, some (.int (b : Int)), some (.int ((a % b : Nat) : Int)), some d] := by
  have h : (b : Int) ≠ 0 := by omega
  rw [← fmod_nat]
  simp [loopL, mEv, h, gMod_nz h, hb]
theorem ev_loop (x y : Option D) : ∀ (k a b : Nat) (o : Option D) (ds : List D), b < 2 ^ k → 2 * k ≤ ds.length → ∃ o', loopL (mgName 4) mEv ds [x, y, some (.int (a : Int)), some (.int (b : Int)), o] = .nx [x, y, some (.int (Nat.gcd a b : Nat)), some (.int 0), o']
  | 0, a, b, o, ds, hb, h => by
    obtain rfl : b = 0 := by simpa using hb
    rw [Nat.gcd_zero_right]
    exact ev_zero x y a o ds
  | k + 1, a, b, o, [], hb, h => by simp at h
  | k + 1, a, b, o, [_], hb, h => by simp at h; omega
  | k + 1, a, b, o, d :: d2 :: ds, hb, h => by
    by_cases b0 : b = 0
    · subst b0
      rw [Nat.gcd_zero_right]
      exact ev_zero x y a o _
    · rw [ev_one x y o b0]
      have g1 : Nat.gcd a b = Nat.gcd b (a % b) := by rw [Nat.gcd_comm a b, Nat.gcd_rec b a, Nat.gcd_comm]
      by_cases r0 : a % b = 0
      · rw [g1, r0, Nat.gcd_zero_right]
        exact ev_zero x y b _ _
      · have hrb := Nat.mod_lt a (Nat.pos_of_ne_zero b0)
        rw [ev_one x y _ r0]
        have g2 : Nat.gcd b (a % b) = Nat.gcd (a % b) (b % (a % b)) := by rw [Nat.gcd_comm b, Nat.gcd_rec (a % b) b, Nat.gcd_comm]
        rw [g1, g2]
        exact ev_loop x y k (a % b) (b % (a % b)) _ ds (eu_step hb (Nat.pos_of_ne_zero r0) hrb) (by simp at h; omega)
def mqLD (mi : En → R (List D)) : MS := (msSeq (msAsg (mN gAbs (mCons (mVar 0) mNil)) (mgName 2)) (msSeq (msAsg (mN gAbs (mCons (mVar 1) mNil)) (mgName 3)) (msSeq (msFor mi (mgName 4) mEv) (msRet (mVar 2)))))
def qLDivisor : FN := runM 5 2 [] false (mqLD (mItN gRange1 (mCons (m2 gPow (mK (.int 10)) (mK (.int 9))) mNil)))
theorem rangeL_length (i : Int) (n : Nat) : (rangeL i n).length = n := by simp [rangeL]
theorem mqLD_v {mi : En → R (List D)} {ds : List D} (hmi : ∀ ρ, mi ρ = .ok ds ρ) (hl : 16000 ≤ ds.length) (a b : Int) (hb : b.natAbs < 2 ^ 8000) (ρ : En) : (runM 5 2 [] false (mqLD mi) [.int a, .int b]).R ρ = .ok (.int (Int.gcd a b : Nat)) ρ := by
  obtain ⟨o', e⟩ := ev_loop (some (.int a)) (some (.int b)) 8000 a.natAbs b.natAbs none ds hb hl
  rw [Int.gcd_eq_natAbs_gcd_natAbs]
  simp [runM, mqLD, pad, abs_cast, hmi, e]
theorem p9 : gPow (.int 10) (.int 9) = some (.int 1000000000) := by
  have c : CPow 10 9 := by decide
  show (if CPow 10 9 then some (D.int (10 ^ (9 : Int).toNat)) else none) = _
  rw [if_pos c] <;> rfl
theorem r9 : ∃ ds, gRange1 [.int 1000000000] = some ds ∧ 16000 ≤ ds.length := by
  have ok9 : okR 1000000000 = true := by decide
  exact ⟨rangeL 0 (Int.toNat 1000000000), by rw [gRange1_i, if_pos ok9], by rw [rangeL_length]; decide⟩
theorem qLDivisor_v (a b : Int) (hb : b.natAbs < 2 ^ 8000) (ρ : En) : (qLDivisor [.int a, .int b]).R ρ = .ok (.int (Int.gcd a b : Nat)) ρ := by
  obtain ⟨ds, hds, hl⟩ := r9
  refine mqLD_v (fun ρ => ?_) hl a b hb ρ
  rw [mItN_ap, mCons_ap, m2_ap, mK_ap, bind_ok, mK_ap, bind_ok, p9, ret_some, bind_ok, mNil_ap, bind_ok, bind_ok, hds, ret_some]
def sgcd (a b : Int) : Int := if b < 0 then -(Int.gcd a b : Int) else (Int.gcd a b : Int)
def low (a b : Int) : Int × Int := (a.fdiv (sgcd a b), b.fdiv (sgcd a b))
def tupI (p : Int × Int) : D := .tup [.int p.1, .int p.2]
theorem sgcd_ne {a b : Int} (h : b ≠ 0) : sgcd a b ≠ 0 := by
  have : 0 < Int.gcd a b := Int.gcd_pos_of_ne_zero_right a h
  unfold sgcd
  split <;> omega
theorem gcd_le {a b : Int} (h : b ≠ 0) : Int.gcd a b ≤ b.natAbs := by
  rw [Int.gcd_eq_natAbs_gcd_natAbs]
  exact Nat.gcd_le_right _ (by omega)
theorem sgcd_sm {a b : Int} {k : Nat} (h : b ≠ 0) (hb : b.natAbs < 2 ^ k) : (sgcd a b).natAbs < 2 ^ k := by
  have := gcd_le (a := a) h
  unfold sgcd
  split <;> omega
def mqLowest (F : FN) (neg : ME) : MS := (msSeq (msAsg (mCall F (mCons (mVar 0) (mCons (mVar 1) mNil))) (mgName 2)) (msSeq (msIf (mTest (m2 gLt (mVar 1) (mK (.int 0)))) (msAsg neg (mgName 2)) msNil) (msRet (mN gTup (mCons (m2 gDiv (mVar 0) (mVar 2)) (mCons (m2 gDiv (mVar 1) (mVar 2)) mNil))))))
def qLLowest : FN := runM 3 2 [] false (mqLowest qLDivisor (m2 gSub (mK (.int 0)) (mVar 2)))
theorem two_le : 2 ≤ sizeLine := by decide
theorem lowest_gen {F : FN} {neg : ME} {a b : Int} (h : b ≠ 0) (hb : b.natAbs < 2 ^ 8000) (hF : ∀ ρ, (F [.int a, .int b]).R ρ = .ok (.int (Int.gcd a b : Nat)) ρ) (hn : ∀ (x y : Option D) (z : Int), neg [x, y, some (.int z)] = .ok (.int (-z)) [x, y, some (.int z)]) (ρ : En) :
    (runM 3 2 [] false (mqLowest F neg) [.int a, .int b]).R ρ = .ok (tupI (low a b)) ρ := by
  have d1 := fun x : Int => gDiv_sm (a := x) (sgcd_ne (a := a) h) (sgcd_sm (a := a) h hb) (by decide) (by decide)
  by_cases n : b < 0
  · have e : sgcd a b = -(Int.gcd a b : Int) := if_pos n
    rw [e] at d1
    simp [runM, mqLowest, pad, mCall_R, hF, n, d1, two_le, tupI, low, e, hn]
  · have e : sgcd a b = (Int.gcd a b : Int) := if_neg n
    rw [e] at d1
    simp [runM, mqLowest, pad, mCall_R, hF, n, d1, two_le, tupI, low, e]
theorem qLLowest_v {a b : Int} (h : b ≠ 0) (hb : b.natAbs < 2 ^ 8000) (ρ : En) : (qLLowest [.int a, .int b]).R ρ = .ok (tupI (low a b)) ρ := lowest_gen h hb (qLDivisor_v a b hb) (fun x y z => by simp) ρ
def isNum (a b : Int) : Bool := decide (1 ≤ b) && decide (Int.gcd a b = 1)
theorem low_sm {a b : Int} {i j : Nat} (h1 : a.natAbs < 2 ^ i) (h2 : b.natAbs < 2 ^ j) : (low a b).1.natAbs < 2 ^ i ∧ (low a b).2.natAbs < 2 ^ j :=
  ⟨Nat.lt_of_le_of_lt (Int.natAbs_fdiv_le_natAbs _ _) h1, Nat.lt_of_le_of_lt (Int.natAbs_fdiv_le_natAbs _ _) h2⟩
theorem low_num {a b : Int} (h : b ≠ 0) : isNum (low a b).1 (low a b).2 = true := by
  have g0 : 0 < Int.gcd a b := Int.gcd_pos_of_ne_zero_right a h
  have da : (Int.gcd a b : Int) ∣ a := Int.gcd_dvd_left a b
  have db : (Int.gcd a b : Int) ∣ b := Int.gcd_dvd_right a b
  obtain ⟨x, hx⟩ := da
  obtain ⟨y, hy⟩ := db
  generalize hg : Int.gcd a b = g at *
  have gi : (g : Int) ≠ 0 := by omega
  have cop : Int.gcd x y = 1 := by
    have e : Int.gcd a b = g * Int.gcd x y := by
      rw [hx, hy, Int.gcd_mul_left]
      simp
    rw [hg] at e
    exact Nat.eq_of_mul_eq_mul_left g0 (by omega)
  unfold low sgcd isNum
  rw [hg]
  by_cases n : b < 0
  · rw [if_pos n]
    have e1 : a.fdiv (-(g : Int)) = -x := by
      have : a = (-x) * (-(g : Int)) := by rw [hx, Int.neg_mul_neg, Int.mul_comm]
      rw [this, Int.mul_fdiv_cancel _ (by omega)]
    have e2 : b.fdiv (-(g : Int)) = -y := by
      have : b = (-y) * (-(g : Int)) := by rw [hy, Int.neg_mul_neg, Int.mul_comm]
      rw [this, Int.mul_fdiv_cancel _ (by omega)]
    rw [e1, e2]
    have y0 : y < 0 := by
      by_cases q : 0 ≤ y
      · have : 0 ≤ (g : Int) * y := Int.mul_nonneg (by omega) q
        omega
      · omega
    simp [cop]
    omega
  · rw [if_neg n]
    have e1 : a.fdiv (g : Int) = x := by rw [hx, Int.mul_comm, Int.mul_fdiv_cancel _ gi]
    have e2 : b.fdiv (g : Int) = y := by rw [hy, Int.mul_comm, Int.mul_fdiv_cancel _ gi]
    rw [e1, e2]
    have y0 : 0 < y := by
      by_cases q : y ≤ 0
      · have : (g : Int) * y ≤ 0 := Int.mul_nonpos_of_nonneg_of_nonpos (by omega) q
        omega
      · omega
    simp [cop]
    omega
def mqIsNumber : MS := (msSeq (msAsg (mVar 0) (mgTup 2 (mgCons (mgName 1) (mgCons (mgName 2) mgNil)))) (msRet (mAnd (m2 gGe (mVar 2) (mK (.int 1))) (m2 gEq (mCall qDivisor (mCons (mVar 1) (mCons (mVar 2) mNil))) (mK (.int 1))))))
def qIsNumber : FN := runM 3 1 [] false mqIsNumber
theorem qIsNumber_v {a b : Int} (hb : b.natAbs < 2 ^ 8000) (ρ : En) : (qIsNumber [tupI (a, b)]).R ρ = .ok (.bl (isNum a b)) ρ := by
  have e : decide (((Int.gcd a b : Nat) : Int) = 1) = decide (Int.gcd a b = 1) := by rw [decide_eq_decide]; omega
  by_cases h : 1 ≤ b
  · simp [qIsNumber, runM, mqIsNumber, pad, tupI, mCall_R, qDivisor_v a b hb, isNum, h, e]
  · simp [qIsNumber, runM, mqIsNumber, pad, tupI, mCall_R, qDivisor_v a b hb, isNum, h]
theorem int_len {a : Int} (h : a.natAbs < 2 ^ 1900) : (Str.ofString (toString a)).length ≤ 2000 := by
  have e := int_text_length_le (k := 1900) (by decide) (lg h (by decide))
  rw [PySem.ofString_length]; omega
end DL
namespace DL
open L2 PySem PySem.Spec PyProof.Rows
end DL
namespace DL
open L2 PySem PySem.Spec PyProof.Rows
end DL
namespace DL
open L2 PySem PySem.Spec PyProof.Rows
end DL
namespace DL
open L2 PySem PySem.Spec PyProof.Rows
section
variable {K : PySem.W.Frag} {A A' : Addr → Prop} {H H' : Hp}
def putD (f : Str) (v : D) : List (Str × D) → List (Str × D)
  | [] => [(f, v)]
  | (g, x) :: r => if g = f then (g, v) :: r else (g, x) :: putD f v r
theorem RpF.put : ∀ {vs : List (Str × V)} {ds : List (Str × D)} {f : Str} {v : V} {d : D}, RpF K A H vs ds → Rp K A H v d → RpF K A H (putF f v vs) (putD f d ds)
  | _, _, f, v, d, .nil, q => .cons q .nil
  | _, _, f, v, d, .cons (f := g) h t, q => by
    unfold putF putD
    by_cases z : g = f
    · rw [if_pos z, if_pos z]; exact .cons q t
    · rw [if_neg z, if_neg z]; exact .cons h (RpF.put t q)
theorem RpF.length : ∀ {vs : List (Str × V)} {ds : List (Str × D)}, RpF K A H vs ds → vs.length = ds.length
  | _, _, .nil => rfl
  | _, _, .cons _ q => by rw [List.length_cons, List.length_cons, RpF.length q]
end
section
variable {X : Cx} {G : Gd} {XC : List Nat → Prop} {Ol O O' O1 : List Nat} {W : WX} {fr : Bool} {a b c e o : Expr} {es : List Expr} {ma mb mc me mo : ME} {mr : MA} {pos p apos cpos : Pos} {x y f m : Str} {py : Pos} {cls : Str → Bool}
theorem RpF.upd {K : PySem.W.Frag} {A : Addr → Prop} {H : Hp} {p : Addr} {o : HO} {vs : List (Str × V)} {ds : List (Str × D)} (h : RpF K A H vs ds) (a : A p) : RpF K A (L2.upd H p o) vs ds := h.tr fun b o e n => ⟨upd_out b o e fun z => n (z ▸ a), n⟩
end
end DL
namespace DL
open L2 PySem PySem.Spec PyProof.Rows
section
variable {X : Cx} {G : Gd} {XC : List Nat → Prop} {Ol O O' O1 : List Nat} {W : WX} {fr : Bool} {a b c e o : Expr} {es : List Expr} {ma mb mc me mo : ME} {mr : MA} {pos p apos cpos : Pos} {x y f m : Str} {py : Pos} {cls : Str → Bool}
theorem spD.mono {K : PySem.W.Frag} {io fr : Bool} {F : FN} {vs : List V} {H : Hp} {Q Q' : VK} {E E' : XK} (h : spD K io fr F vs H Q E) (w : ∀ v H', Q v H' → Q' v H') (w2 : ∀ c d H', E c d H' → E' c d H') : spD K io fr F vs H Q' E' := by
  obtain ⟨A, q, ds, t, hio, ar, post⟩ := h
  refine ⟨A, q, ds, t, hio, ar, ?_⟩
  cases hF : F ds with
  | bad => rw [hF] at post; exact post.elim
  | rt d o => rw [hF] at post; exact fun v H' ki rr => w _ _ (post v H' ki rr)
  | ex y o => rw [hF] at post; exact fun dx H' ki oo xr => w2 _ _ _ (post dx H' ki oo xr)
end
end DL
namespace DL
open L2 PySem PySem.Spec PyProof.Rows
inductive Sr where
  | l (a : Addr) | t (a : Addr) | s (x : Str)
namespace Sr
def has (K : PySem.W.Frag) : Sr → List V → Hp → Prop
  | .l a, xs, H => SqL K H a xs
  | .t a, xs, H => SqT K H a xs
  | .s z, xs, _ => xs = z.cps.toList.map fun c => .str ⟨#[c]⟩
end Sr
theorem Draws.tuple {prog : Program} {w : World} {A : Around} (hh : A.handled = none) (it l : Addr) (hne : l ≠ it) (items : Array Value) :
    Draws prog w A it [it, l] items.size (fun i v => items[i]? = some v) (fun i h => h.IsTupleIter it l i ∧ h.IsTuple l items) where
  live := fun _ _ st => let ⟨o, ho, _⟩ := st.1; ⟨o, ho⟩
  frame := fun _ _ _ st hk => ⟨st.1.at fun o e => hk it (by simp) o e, st.2.at fun o e => hk l (by simp) o e⟩
  item := fun i s Q E hi st hQ => by
    refine RZ.nextOf_tuple_item st.1 st.2 (x := items[i]) (by simp [hi]) fun h' hit' hs' => ?_
    exact hQ _ h' s.toks (by simp [hi]) ⟨hit', st.2.at fun o e => hs'.extBut _ _ hne e⟩ hs'
  done := fun s Q E st hE => RZ.nextOf_tuple_end hh st.1 st.2 (by simp) hE
theorem Sr.inj {X : Cx} {pins : List (Addr × Obj)} {σ : L2.St} {H : Hp} {s : Shared} (I : Inv X pins σ H s) (r : Sr) {xs ys : List V} (h : r.has X.K xs H) (h' : r.has X.K ys H) : xs = ys := by
  cases r with
  | l a => exact I.list_inj h h'
  | t a => exact I.tuple_inj h h'
  | s z => exact h.trans h'.symm
end DL
namespace DL
open L2 PySem PySem.Spec PyProof.Rows
end DL
namespace DL
open L2 PySem PySem.Spec PyProof.Rows
def cbody : Stmt → List Stmt
  | .ClassDef _ _ _ b _ _ _ _ _ _ _ => b
  | _ => []
end DL
namespace DL
open L2 PySem PySem.Spec PyProof.Rows
def tb : List (Str × FN) → Str → Option FN
  | [], _ => none
  | (y, F) :: r, x => if x = y then some F else tb r x
end DL
namespace DL
open L2 PySem PySem.Spec PyProof.Rows
end DL
namespace DL
open L2 PySem PySem.Spec PyProof.Rows
def IsZipF (h : Heap) (z TI TO T : Addr) (f : Bool) : Prop := h.get? z = some { cls := .type "zip", data := .fields #[rawInt T, .bool f, .bool false, .ref TI, .ref TO] }
end DL
namespace DL
open L2 PySem PySem.Spec PyProof.Rows
end DL
namespace DL
open L2 PySem PySem.Spec PyProof.Rows
section
variable {prog : Program} {w : World} {A : Around} {E : Value → Shared → Prop} {s : Shared} {z TI TO T i1 i2 : Addr} {fp1 fp2 : List Addr} {n1 n2 i : Nat} {P1 P2 : Nat → Value → Prop} {St1 St2 : Nat → Heap → Prop} {a1 a2 : Value} {f : Bool} {oT : Obj}
def Zs (z TI TO b0 : Addr) (h : Heap) : Prop := (IsZip h z TI TO .none ∧ ∃ a b, IsTupOf2 h TO a b) ∨ ∃ T f o, IsZipF h z TI TO T f ∧ b0 ≤ T ∧ h.get? T = some o
theorem Zs.keep {b0 : Addr} {h h' : Heap} (hz : Zs z TI TO b0 h) (k : ∀ c o, c = z ∨ c = TO ∨ b0 ≤ c → h.get? c = some o → h'.get? c = some o) : Zs z TI TO b0 h' := by
  rcases hz with ⟨a, x, y, b⟩ | ⟨T, f, o, a, b, c⟩
  · exact .inl ⟨k _ _ (.inl rfl) a, x, y, k _ _ (.inr (.inl rfl)) b⟩
  · exact .inr ⟨T, f, o, k _ _ (.inl rfl) a, b, k _ _ (.inr (.inr b)) c⟩
def AccZ (b0 : Addr) (P1 P2 : Nat → Value → Prop) (h : Heap) (acc : Array Value) (i : Nat) : Prop :=
  ∃ Ts : List Addr, Ts.length = i ∧ acc = (Ts.map Value.ref).toArray ∧ Ts.Pairwise (· < ·) ∧ ∀ (j : Nat) (T : Addr), Ts[j]? = some T → b0 ≤ T ∧ ∃ x y, IsTupOf2 h T x y ∧ P1 j x ∧ P2 j y
theorem AccZ.size {b0 : Addr} {h : Heap} {acc : Array Value} (a : AccZ b0 P1 P2 h acc i) : acc.size = i := by
  obtain ⟨Ts, e1, e2, _⟩ := a
  rw [e2, List.size_toArray, List.length_map, e1]
theorem AccZ.keep {b0 : Addr} {h h' : Heap} {acc : Array Value} (a : AccZ b0 P1 P2 h acc i) (k : ∀ c o, b0 ≤ c → h.get? c = some o → h'.get? c = some o) : AccZ b0 P1 P2 h' acc i :=
  let ⟨Ts, e1, e2, e3, e4⟩ := a
  ⟨Ts, e1, e2, e3, fun j T e => let ⟨b, x, y, t, p, q⟩ := e4 j T e; ⟨b, x, y, k _ _ b t, p, q⟩⟩
theorem AccZ.push {b0 : Addr} {h : Heap} {acc : Array Value} {x y : Value} {T : Addr} (a : AccZ b0 P1 P2 h acc i) (hT : b0 ≤ T) (ht : IsTupOf2 h T x y) (hx : P1 i x) (hy : P2 i y) (hlt : ∀ (c : Addr) (o : Obj), acc.toList.contains (.ref c) = true → c < T) : AccZ b0 P1 P2 h (acc.push (.ref T)) (i + 1) := by
  obtain ⟨Ts, e1, e2, e3, e4⟩ := a
  refine ⟨Ts ++ [T], by rw [List.length_append, e1]; rfl, by rw [e2]; simp, ?_, fun j U hj => ?_⟩
  · rw [List.pairwise_append]
    refine ⟨e3, List.pairwise_singleton _ _, fun c hc d hd => ?_⟩
    rw [List.mem_singleton.mp hd]
    refine hlt c { cls := .none, data := .seq #[] } ?_
    rw [e2]
    simp [List.contains_iff_mem, hc]
  · by_cases l : j < Ts.length
    · rw [List.getElem?_append_left l] at hj
      exact e4 j U hj
    · rw [List.getElem?_append_right (by omega)] at hj
      have hj0 : j - Ts.length = 0 := by
        have := (List.getElem?_eq_some_iff.mp hj).1
        simp at this
        omega
      rw [hj0] at hj
      cases hj
      have : j = i := by omega
      subst this
      exact ⟨hT, x, y, ht, hx, hy⟩
theorem Zs.type {b0 : Addr} {h : Heap} (hz : Zs z TI TO b0 h) : ∃ o, h.get? z = some o ∧ o.cls = .type "zip" := by
  rcases hz with ⟨a, _⟩ | ⟨T, f, o, a, _⟩
  · exact ⟨_, a, rfl⟩
  · exact ⟨_, a, rfl⟩
end
end DL
namespace DL
open L2 PySem PySem.Spec PyProof.Rows
end DL
namespace DL
open L2 PySem PySem.Spec PyProof.Rows
end DL
namespace DL
open L2 PySem PySem.Spec PyProof.Rows
end DL
namespace DL
open L2 PySem PySem.Spec PyProof.Rows
end DL
namespace DL
open L2 PySem PySem.Spec PyProof.Rows
end DL
namespace DL
open HotX L2 PySem PySem.Spec PyProof.Rows
end DL
namespace DL
open L2 PySem PySem.Spec PyProof.Rows
end DL
namespace DL
open L2 PySem PySem.Spec PyProof.Rows
end DL
namespace DL
open L2 PySem PySem.Spec PyProof.Rows
theorem traced_of {h B : Heap} {e : Addr} {Z Z' : Obj → Prop} {fl : Value} (z : ∀ o, Z o → Z' o) : HandSPX.TracedZ h B e Z fl → HandSPX.TracedZ h B e Z' fl
  | ⟨oe, vs, T, oT, ts, he, hz, r⟩ => ⟨oe, vs, T, oT, ts, he, z _ hz, r⟩
theorem sky_of {B : Heap} {l : List Env} {a L : Addr} {Z Z' : Obj → Prop} {h : Heap} (z : ∀ o, Z o → Z' o) : Sky B l a Z L h → Sky B l a Z' L h
  | .inl ⟨x1, x2, x3, oe, vs, he, hz, r⟩ => .inl ⟨x1, x2, x3, oe, vs, he, z _ hz, r⟩
  | .inr (.inl ⟨x1, x2, x3, t⟩) => .inr (.inl ⟨x1, x2, x3, traced_of z t⟩)
  | .inr (.inr ⟨x1, x2, x3, t⟩) => .inr (.inr ⟨x1, x2, x3, traced_of z t⟩)
theorem takes_n {X : Cx} {W : WX} (t : L2.Takes X W) : L2N.Takes X W := fun u s' ⟨a, B, sI, pins, σ, H, cls, d, e, I, nb, up, sky, r⟩ =>
  t u s' ⟨a, B, sI, pins, σ, H, cls, d, e, I, nb, up, sky_of (fun o h => L2N.Zn.zc h) sky, r⟩
def noX : Out → Out
  | .ex _ _ => .bad
  | o => o
def msTryO (mt : Str → Option Bool) (mb ms : MS) : MS := fun ρ => match mb ρ with
  | .ex y ρ1 => match mt y.c with
    | some true => match y.fs with
      | [] => noX (ms ρ1)
      | _ => .bad
    | _ => .bad
  | o => o
section
variable {X : Cx} {G : Gd} {XC : List Nat → Prop} {Ol O : List Nat} {W : WX} {fr : Bool} {pos : Pos} {x : Str}
theorem ds_tryOnly {c : Value} {body suite : List Stmt} {b₀ : Stmt} {np pos' : Pos} {mt : Str → Option Bool} {mb ms : MS} (hx : XC O) (hs : X.stack = X.env :: X.outer) (hf : X.env.frame = some X.env.locals) (hc : Names X x c)
    (hmt : Mt X c mt)
    (hb : ∀ (W : WX) (pn : List (Addr × Obj)) (xe : Value → Shared → Prop), L2N.Takes (X.tr pn xe) W → PassesOwn (model X.prog X.w) X.A X.env xe → DSs (X.tr pn xe) G (fun o => o = O) Ol O O W fr body mb)
    (hsu : ∀ (a : Addr) (oe : Obj) (pn : List (Addr × Obj)), DSs (X.suite a ((a, oe) :: pn)) G (fun o => o = O) Ol O O W0 fr (b₀ :: suite) ms) :
    DS X G XC Ol O O W fr (.Try body [.ExceptHandler (some (.Name x np)) none (b₀ :: suite) pos'] [] [] pos) (msTryO mt mb ms) := by
  let ts : Addr → Value → Option Addr → TS := fun a cls d D σ H => tS X.K G (fun o => o = O) Ol O O W0 fr ms D σ H
  have tk0 : L2.Takes X W0 := fun u s' ⟨a, B, sI, pins, σ, H, cls, d, e, I, nb, up, sky, na, os, ag, w⟩ => w.elim
  refine ps_imp (L2.ps_try_only (ts := ts) (Wout := W0) (tb := fun W => tS X.K G (fun o => o = O) Ol O O W fr mb) hs hf hc tk0 (fun W pn xe t p => hb W pn xe (takes_n t) p) (fun a oe cls d pn hz hd => hsu a oe pn)) fun D0 σ H ⟨A, ms', ρ, R, q⟩ => ?_
  refine ⟨A, ms', ρ, R, ?_⟩
  unfold msTryO at q
  cases hm : mb ρ with
  | nx ρ1 => rw [hm] at q; exact q
  | rt d ρ1 => rw [hm] at q; exact q
  | bk ρ1 => rw [hm] at q; exact q
  | ct ρ1 => rw [hm] at q; exact q
  | bad => rw [hm] at q; exact q.elim
  | ex y ρ1 =>
    rw [hm] at q
    intro dx σ1 H1 A1 ms1 O'' hO R1 t1 xr
    have hO' : O'' = O := hO
    subst hO'
    have q1 := SPost.from t1 q
    have q1 : SPost X.K G XC Ol O'' W fr A1 H1 D0 (match mt y.c with
      | some true => match y.fs with
        | [] => noX (ms ρ1)
        | _ => .bad
      | _ => .bad) := q1
    cases hb1 : mt y.c with
    | none => simp only [hb1] at q1; exact q1.elim
    | some b =>
      cases b with
      | false => simp only [hb1] at q1; exact q1.elim
      | true =>
        simp only [hb1] at q1
        refine ⟨true, hmt _ _ hb1, fun _ a na => ?_, fun e1 => by cases e1⟩
        obtain ⟨yc, yf⟩ := y
        cases yf with
        | cons _ _ => exact q1.elim
        | nil =>
          have q2 : SPost X.K G XC Ol O'' W fr A1 H1 D0 (noX (ms ρ1)) := q1
          refine ⟨A1, _, _, R1, ?_⟩
          cases hr : ms ρ1 with
          | nx ρ2 => rw [hr] at q2; exact q2
          | bk ρ2 => rw [hr] at q2; exact q2
          | ct ρ2 => rw [hr] at q2; exact q2
          | rt d ρ2 => rw [hr] at q2; exact q2
          | ex z ρ2 => rw [hr] at q2; exact q2.elim
          | bad => rw [hr] at q2; exact q2.elim
end
end DL
namespace DL
open L2 PySem PySem.Spec PyProof.Rows
section
variable {X : Cx} {G : Gd} {O : List Nat} {W : WX} {k : Nat} {f : Addr} {F : FN} {x : Str} {p pos : Pos}
theorem tCallG_nil {K : PySem.W.Frag} {fr : Bool} {σ : L2.St} {H : Hp} {Q : VK} (h : tCallG K false fr F W (tA K G O W mNil) σ H Q) : tCallG K false fr F W tNil σ H Q :=
  tNil_go h
theorem de_call0 (C : FnG X.prog X.w X.K X.mg X.base k f false false F) (hr : Room k X.A) (hg : X.A.guards = some []) (tk : L2N.Takes X W) (hn : Gl X x) (hm : X.mg x = some (.ref f)) (hdb : (x == ("__debug__" : Str)) = false := by decide) :
    DE X G O W (.Call (.Name x p) [] [] pos) (mCall F mNil) := pe_imp (pe_callG0 C hr hg tk hn hm hdb) fun _ _ _ h => tCallG_nil (call_goE h)
end
end DL
namespace DL
open L2 PySem PySem.Spec PyProof.Rows
end DL
namespace DL
open L2 PySem PySem.Spec PyProof.Rows
mutual
def relD (K : PySem.W.Frag) : Value → D → Bool
  | .none, .non => true
  | .bool b, .bl c => decide (b = c)
  | .int i _, .int j => decide (i = j)
  | .str x _, .str y => decide (x = y)
  | .ref a, .tup ds => match K.lookup a with
    | some ⟨.type c, _, .seq its _, _⟩ => decide (c = "tuple") && (decide (its.size ≤ sizeLine) && relDs K its.toList ds)
    | _ => false
  | .ref a, .scr ds => match K.lookup a with
    | some ⟨.type c, none, .seq its _, _⟩ => decide (c = "list") && (decide (its.size ≤ sizeLine) && relDs K its.toList ds)
    | _ => false
  | _, _ => false
def relDs (K : PySem.W.Frag) : List Value → List D → Bool
  | [], [] => true
  | u :: us, d :: ds => relD K u d && relDs K us ds
  | _, _ => false
end
abbrev Tb := List (Str × D)
def tabB (K : PySem.W.Frag) (x : Str) (t : Tb) : Bool := t.all fun q => match PySem.W.nsIn K (He.ga K x) q.1 with
  | some (some u) => relD K u q.2
  | _ => false
def TabOk (K : PySem.W.Frag) (w : World) (x : Str) (t : Tb) : Prop := He.dicW K (He.ga K x) = some (He.keysIn w.params (t.map (·.1))) ∧ tabB K x t = true
def tbAt (t : Tb) (z : Str) : Option D := (t.find? fun p => decide (p.1 = z)).map (·.2)
theorem keys_no {P : Params} {z : Str} : ∀ {l : List DictEntry} {ks : List Str}, l.map He.keyOf = He.keysIn P ks → z ∉ ks → l.find? (·.key.isStr z) = none ∧ l.any (·.refKey) = false
  | [], _, _, _ => ⟨rfl, rfl⟩
  | e :: r, [], h, _ => by cases h
  | e :: r, k :: ks, h, m => by
    have h1 : He.keyOf e :: r.map He.keyOf = some (k, PyData.keyHash P k) :: He.keysIn P ks := h
    injection h1 with h2 h3
    obtain ⟨r1, r2⟩ := keys_no h3 fun q => m (List.mem_cons_of_mem _ q)
    unfold He.keyOf at h2
    split at h2
    · rename_i x t q
      have h4 := Option.some.inj h2
      obtain ⟨h5, h6⟩ := Prod.mk.inj h4
      have ne : e.key.isStr z = false := by
        rw [q]
        show (x == z) = false
        have : x ≠ z := fun e => m (by rw [← e, h5]; exact List.mem_cons_self)
        simpa using this
      refine ⟨by rw [List.find?_cons, ne]; exact r1, ?_⟩
      rw [List.any_cons, r2]
      unfold DictEntry.refKey
      rw [q]
      rfl
    · cases h2
section
variable {K : PySem.W.Frag} {w : World} {x : Str} {t : Tb}
theorem TabOk.kd (h : TabOk K w x t) : ∃ es n, KDict K w (He.ga K x) es n ∧ es.toList.map He.keyOf = He.keysIn w.params (t.map (·.1)) := by
  obtain ⟨es, n, D⟩ := He.dicW_ok h.1
  refine ⟨es, n, D, ?_⟩
  have e := h.1
  unfold He.dicW at e
  rw [D.at_] at e
  have e1 : (match decide ("dict" = "dict") && ((#[] : Array (Option Value)).isEmpty && !(He.ga K x == sysModules)) with
    | true => some (es.toList.map He.keyOf)
    | false => none) = some (He.keysIn w.params (t.map (·.1))) := e
  rw [D.low] at e1
  exact Option.some.inj e1
theorem TabOk.no (h : TabOk K w x t) {z : Str} (hz : tbAt t z = none) : PySem.W.nsIn K (He.ga K x) z = some none := by
  obtain ⟨es, n, D, e⟩ := h.kd
  have m : z ∉ t.map (·.1) := fun m => by
    obtain ⟨p, hp, e⟩ := List.mem_map.mp m
    unfold tbAt at hz
    rw [Option.map_eq_none_iff, List.find?_eq_none] at hz
    exact hz p hp (decide_eq_true e)
  obtain ⟨r1, r2⟩ := keys_no e m
  unfold PySem.W.nsIn
  rw [D.at_]
  simp only [r1, r2]
  rfl
end
def gIxT (t : Tb) : D → D → Option D
  | _, .str z => tbAt t z
  | _, _ => none
abbrev AlX := He.AlD × List (Option (List (Option (Str × Int))))
abbrev Tabs := List (Str × List Str)
def obXT (fa : List He.Fa) (xf : XF) (fn : List He.DefD) (ts : Tabs) (K : PySem.W.Frag) : AlX := (obX fa xf fn K, ts.map fun t => He.dicW K (He.ga K t.1))
def valXT (fn : List He.DefD) (ts : Tabs) (w : World) : AlX := (He.valD fn, ts.map fun t => some (He.keysIn w.params t.2))
def SaysXT (fa : List He.Fa) (xf : XF) (fn : List He.DefD) (ts : Tabs) (w : World) (K : PySem.W.Frag) : Prop := obXT fa xf fn ts K = valXT fn ts w
section
variable {fa : List He.Fa} {xf : XF} {fn : List He.DefD} {ts : Tabs} {w : World} {K : PySem.W.Frag}
theorem SaysXT.x (c : SaysXT fa xf fn ts w K) : SaysX fa xf fn K := congrArg (fun z : AlX => z.1) c
theorem SaysXT.x1 (c : SaysXT fa xf fn ts w K) : xf K = true := c.x.x1
theorem SaysXT.d (c : SaysXT fa xf fn ts w K) : He.SaysD fa fn K := c.x.d
end
end DL
namespace DL
open PySem
theorem u1 {n c : Nat} (h : n + 64 < c) : n + 1 < c := by omega
end DL
namespace DL
open L2 PySem PySem.Spec PyProof.Rows
structure FnX (P : Program) (w : World) (K : PySem.W.Frag) (mg : Str → Option Value) (base : Heap) (k : Nat) (f : Addr) (ok : Str → Prop) (F : Str → Ret) : Prop where
  run : ∀ (A : Around) (outer : List Env) (s : Shared) (H : Hp) (p : Addr × Obj) (c : Str) (Q : VK), L2H.RoomH k A → A.guards = some [] → L2H.Hot1 A p → L2H.PinOk outer H s p → L2N.Zn (.ref (He.ga K c)) none p.2 → (∃ vs, p.2.data = .fields vs) → ok c → Env0 P w K mg base A outer s H →
    (∃ A0 : Addr → Prop, (∀ a, A0 a → ∃ o, H a = some o) ∧ match F c with
      | .rt d _ => ∀ v H', Same H H' → Rp K A0 H' v d → Q v H'
      | _ => False) →
    codeAny (model P w) A (.call (.ref f) ⟨[.ref p.1], []⟩) (CR (L2N.CX P w) outer P w H s Q fun _ _ _ => False) s
  kp : PySem.W.keepIn K (.ref f) = true
theorem FnX.mono {P : Program} {w : World} {K : PySem.W.Frag} {mg : Str → Option Value} {base : Heap} {j k : Nat} {f : Addr} {ok : Str → Prop} {F : Str → Ret} (h : FnX P w K mg base j f ok F) (l : j ≤ k) : FnX P w K mg base k f ok F :=
  ⟨fun A outer s H p c Q hr => h.run A outer s H p c Q (hr.mono l), h.kp⟩
end DL
namespace DL
open L2 PySem PySem.Spec PyProof.Rows
end DL
namespace DL
open L2 PySem PySem.Spec PyProof.Rows
section
variable {X : Cx}
theorem vals_ints : ∀ {ns : List Int} {us : List Value}, Vals (ns.map V.int) us → ∃ ts : List Tok, us.length = ns.length ∧ ∀ (i : Nat) (v : Value), us[i]? = some v → ∃ t, v = Value.int (ns.getD i 0) t
  | [], us, h => by
    cases h
    exact ⟨[], rfl, fun i v e => by simp at e⟩
  | n :: ns, us, h => by
    rw [List.map_cons] at h
    cases h with
    | cons r t =>
      obtain ⟨t0, rfl⟩ := r
      obtain ⟨_, h1, h2⟩ := vals_ints t
      refine ⟨[], by rw [List.length_cons, List.length_cons, h1], fun i v e => ?_⟩
      cases i with
      | zero => cases e; exact ⟨t0, rfl⟩
      | succ i => exact h2 i v (by simpa using e)
end
end DL
namespace CbK
open PySem PySem.Spec PyProof.Rows
section
variable {prog : Program} {w : World} {A : Around} {E : Value → Shared → Prop} {s : Shared}
theorem StopE.type {e : Value} {h : Heap} (q : CpRep.StopE e h) : ({ s with heap := h } : Shared).TypeIs e "StopIteration" := by
  obtain ⟨a, o, vs, rfl, ho, hc, _⟩ := q
  exact ⟨o, ho, hc⟩
end
end CbK
namespace DL
open L2 PySem PySem.Spec PyProof.Rows
end DL
namespace DL
open L2 PySem PySem.Spec PyProof.Rows
end DL
namespace DL
open PySem.W L2 PySem PySem.Spec PyProof.Rows
theorem call_mw {prog : Program} {w : World} {A : Around} {E : Value → Shared → Prop} {h : Heap} {g : Array GenState} {d : Drawn} {t : Nat} {os : OsState} {nm q : Str} {C N : Addr} {bs bm : List Value} {hdct : Bool} {sn : List Str} {sub : List Value} {ab : Bool} {col : Option Bool} {dd : Option Addr} {k0 k1 k2 k3 k5 : Option Value}
    {u e t0 : Addr} {rest : List Value} {Q : Value → Shared → Prop}
    (hC : h.get? C = some (excClassObj nm q C N bs bm hdct sn sub ab col dd k0 k1 k2 k3 k5 "ValueError.__new__")) (he : h.get? e = some (HandSPX.excO C t0)) (hu : h.get? u = some (kxs_mw "ValueError.__init__" e)) (hrest : rest.length ≤ sizeLine)
    (hq : ∀ h' t1, (∀ b o, b ≠ e → h.get? b = some o → h'.get? b = some o) → h'.get? e = some (HandSPX.excO C t1) → Q .none ⟨h', g, d, t, os⟩) :
    wpAny (model prog w) A (call (.ref u) rest) Q E ⟨h, g, d, t, os⟩ := by
  refine wpAny_call (codeAny_of_tree ?_)
  show wpAny _ A.in1 (callAny (.ref u) ⟨rest, []⟩) _ _ _
  simp only [callAny]
  refine wpAny_bind (wpAny_load hu ?_)
  simp only [kxs_mw, show (Value.type "method-wrapper" == Value.type "method" || Value.type "method-wrapper" == Value.type "builtin_function_or_method" || Value.type "method-wrapper" == Value.type "method-wrapper") = true by decide, if_true]
  refine W.KFB.if_so (by decide) ?_
  refine wpAny_bind (ESX.check_bound F.excBase_ValueError hC he rfl ?_)
  refine wpAny_bind (wpAny_pure (wpAny_pure ?_))
  refine ⟨Code.quiet_builtin _ (by decide +kernel), codeAny_builtin F.excBase_ValueError.initEntry ?_⟩
  rw [Around.under_plainId F.excBase_ValueError.init.plain _]
  wp_walk
  refine hq _ h.objs.size (fun b o hb ho => ?_) ?_
  · rw [Heap.get?_update_other _ _ (Ne.symm hb)]
    exact Heap.get?_push_of_some _ ho
  · rw [Heap.get?_update_self _ (Heap.get?_push_of_some _ he) rfl]
    rfl
structure XIn (P : Program) (K : PySem.W.Frag) (mg : Str → Option Value) (C f cc : Addr) (fld : Str) : Prop where
  T : OexC K C
  cell : ∃ cl cld csl, K.lookup cc = some ⟨cl, cld, .cell (some (.ref C)), csl⟩
  sup : mg "super" = none
  opq : nsIn K cStatics "thirdparty.any" = some none
  alo : ks_superIn K C C "__init__" = some (some (.builtin "ValueError.__init__"))
  subV : subIn K (.ref C) (.type "ValueError") = some true
  mroC : mroIn K C (.ref C) = some true
  no : findIn K (.ref C) fld = some none
structure XScope (sf x : Str) (sc : Scope) : Prop where
  kind : sc.kind = .function
  co : sc.isCoroutine = false
  gen : sc.isGenerator = false
  nc : ∀ y ∈ sc.names, y.2 ≠ .cell
  slf : sc.names.lookup sf = some .local
  par : sc.names.lookup x = some .local
  sup : sc.names.lookup ("super" : Str) = some .globalImplicit
  cls : sc.names.lookup ("__class__" : Str) = some .free
abbrev wordE (pre x : Str) (j : Nat) (q1 q2 q3 q4 : Pos) : Expr := .JoinedStr [.Constant (.str pre) j q1, .FormattedValue (.Name x q2) (-1) none q3] q4
abbrev supE (p0 p1 : Pos) : Expr := .Call (.Name "super" p0) [] [] p1
section
variable {P : Program} {w : World} {K : Frag} {mg : Str → Option Value} {base : Heap} {s : Shared} {a C f cc cda : Addr} {name qual sf x fld pre : Str} {params : Arguments} {scope : Scope} {dV kV doc pm ct oc ccl : Value} {an od cdd : Option Addr} {osl ccs : Array (Option Value)} {vs : Array Value} {file : Str} {tf : Tok}
theorem init_code {A : Around} {R : Result → Shared → Prop} {n : Int} {t : Tok} {t1 : Addr} {p0 p1 p2 p3 p5 p6 p7 p8 q1 q2 q3 q4 q5 : Pos} {j : Nat}
    (B : XIn P K mg C f cc fld) (S : XScope sf x scope) (M : Mod K mg base) (bk : ∀ b o, base.get? b = some o → s.heap.get? b = some o) (hka : ∀ b o, base.get? b = some o → b ≠ a) (ho1 : s.heap.get? a = some (HandSPX.excO C t1)) (hsx : sf ≠ x) (hn : n.natAbs.log2 < 1000) (hpre : (Str.empty ++ pre).length ≤ sizeLine) (hlen : (Str.empty ++ pre ++ (toString n : Str)).length ≤ sizeLine)
    (hf : K.lookup f = some ⟨oc, od, .func (ksFn name qual params [.Expr (.Call (.Attribute (supE p0 p1) "__init__" p2) [wordE pre x j q1 q2 q3 q4] [] p3) p5, .Assign [.Attribute (.Name sf p6) fld p7] (.Name x q5) p8] scope dV kV doc pm an (.ref cda) ct cc), osl⟩)
    (hcd : codeIn K (.ref cda) qual = true) (hcode : K.lookup cda = some ⟨ccl, cdd, .fields vs, ccs⟩) (hvs : vs[2]? = some (.str file tf)) (hfile : ((P.main.file : Str) == file) = true)
    (htop : (P.main.scope.names.lookup ("super" : Str)).isSome = false) (hdep : A.depth < recursionLimit)
    (hbind : BindsTo s (ksFn name qual params [.Expr (.Call (.Attribute (supE p0 p1) "__init__" p2) [wordE pre x j q1 q2 q3 q4] [] p3) p5, .Assign [.Attribute (.Name sf p6) fld p7] (.Name x q5) p8] scope dV kV doc pm an (.ref cda) ct cc) ⟨[.ref a, .int n t], []⟩ [(sf, .ref a), (x, .int n t)])
    (hp : ∃ ar, (params.posonlyargs ++ params.args).head? = some ar ∧ ar.arg = sf)
    {pl : Env → Sem Bool} (hev : ∀ env, eval (.Call (.Attribute (supE p0 p1) "__init__" p2) [wordE pre x j q1 q2 q3 q4] [] p3) env = (do
      let ov ← attributeBase (supE p0 p1) "__init__" env (eval (supE p0 p1) env)
      standAt p2.atName
      let (f, first) ← holding [ov] (getMethod ov "__init__" (pl env))
      callWith p3 f first (backTo p3 (starEach [wordE pre x j q1 q2 q3 q4] env)) []))
    (hst : ∀ env, starEach [wordE pre x j q1 q2 q3 q4] env = [(false, eval (wordE pre x j q1 q2 q3 q4) env)])
    (hs1 : ∀ env, swapsWith (.Call (.Attribute (supE p0 p1) "__init__" p2) [wordE pre x j q1 q2 q3 q4] [] p3) none p5.line env = pure false)
    (hs2 : ∀ env, swapsWith (.Name x q5) (some (.Attribute (.Name sf p6) fld p7)) p8.line env = pure false)
    (hdb1 : (x == ("__debug__" : Str)) = false) (hdb2 : (sf == ("__debug__" : Str)) = false)
    (hR : ∀ h' tk' dx t2, (∀ b o, b ≠ a → s.heap.get? b = some o → h'.get? b = some o) → s.heap.get? dx = none → dx ≠ a → h'.get? a = some { cls := .ref C, dict := some dx, data := .fields #[.ref t2, .none, .none, .none, .bool false, .none] } →
      h'.Ns1 dx (fun y => if y = fld then some (.int n t) else none) → R (.ok (.ret .none)) { s with heap := h', toks := tk' }) :
    codeAny (model P w) A (.call (.ref f) ⟨[.ref a, .int n t], []⟩) R s := by
  have kin : K.In s.heap := M.kin.keeps bk
  refine ks_codeAny_call_defAt hdep (kin _ _ hf) rfl (M.nolimit.keeps bk) (codeRec_of kin hcd) rfl hbind S.nc ?_ (fun h₀ hns hk => ?_) S.co S.gen S.kind
  · intro y hy
    rcases List.mem_cons.mp hy with rfl | hy
    · exact S.slf
    · rw [List.mem_singleton.mp hy]; exact S.par
  obtain ⟨nm, q, N, bs, bm, sn, sub, ab, col, dd, k0, k1, k2, k3, k5, hC, hbm⟩ := B.T.cls
  have hcl : clsIn K C = some { name := nm, bases := bs, mro := .ref C :: bm, ns := N, qualname := q, hasDict := true, slotNames := sn, subclasses := sub, abstract := ab, collection := col, hasDel := false } := by unfold clsIn; rw [hC] <;> rfl
  have kin1 : K.In h₀ := kin.keeps hk
  have bk1 : ∀ b o, base.get? b = some o → h₀.get? b = some o := fun b o e => hk b o (bk b o e)
  have la : s.heap.objs.size ≠ a := Nat.ne_of_gt (Heap.lt_size ho1)
  have hns1 : (fun y => List.lookup y ([(sf, Value.ref a), (x, .int n t)] : List (Str × Value)).reverse) sf = some (.ref a) := by
    have e : (sf == x) = false := by simpa using hsx
    simp [List.lookup, e]
  have hns2 : (fun y => List.lookup y ([(sf, Value.ref a), (x, .int n t)] : List (Str × Value)).reverse) x = some (.int n t) := by
    simp [List.lookup]
  generalize hm : (fun y => List.lookup y ([(sf, Value.ref a), (x, .int n t)] : List (Str × Value)).reverse) = m at hns hns1 hns2
  have ho1' := hk _ _ ho1
  obtain ⟨ar, hp1, hp2⟩ := hp
  obtain ⟨cl, cld, csl, hcell⟩ := B.cell
  obtain ⟨mb, blt1, blt2⟩ := M.blt
  have hD := kin1 _ _ hC
  refine ks_wpAt_execs_cons (ks_wpAt_Expr_any (ks_wpAt_MethodCall (ks_wpAt_super_base (f := f) (cc := cda) (ar := ar) S.sup S.cls rfl rfl (kin1 _ _ hf) rfl hp1 rfl (kin1 _ _ hcode) rfl hvs hfile htop ?_) (hev _)) ?_ (hs1 _))
  · refine ks_loadName_global S.kind S.sup (Calls.loadGlobal_builtin (M.glob.keeps bk1) B.sup (blt1.keeps bk1) ((blt2 _ (by decide)).trans (by decide +kernel)) ⟨rfl, ?_⟩)
    refine wpAny_loadName_free S.kind S.cls rfl ⟨_, kin1 _ _ hcell, rfl⟩ ?_
    rw [hp2]
    refine wpAny_loadName_local S.kind S.slf hns hns1 ?_
    refine ks_wpAny_isType_cls hD rfl ⟨rfl, ?_⟩
    refine ks_wpAny_call_super hD rfl ho1' rfl (fun c z => by cases z) (looks_mroIn kin1 B.mroC) (fun h' e k => ?_)
    have kin2 := kin1.keeps k
    refine kxs_getMethod kxs_ValueError e (looks_opaque kin2 B.opq) (l₀ := .ref C :: bm) (fun A Q E s k q => wpAny_bind ((looks_clsIn kin2 hcl) A _ E s k (wpAny_pure q))) rfl kin2 ?_ ?_ ?_ (by decide) ?_
    · have := B.alo
      unfold ks_superIn at this
      rw [hcl] at this
      exact this
    · exact (InstAt.type (⟨k _ _ ho1', rfl, rfl, trivial⟩ : InstAt h' a _ C none)).andThen (looks_subIn kin2 B.subV)
    · intro z
      have z' := k _ _ ho1'
      rw [z, k _ _ hD] at z'
      cases z'
    · have k3 : ∀ b o, h'.get? b = some o → (h'.push (kxs_mw "ValueError.__init__" a)).get? b = some o := fun b o z => Heap.get?_push_of_some _ z
      have hu : (h'.push (kxs_mw "ValueError.__init__" a)).get? h'.objs.size = some (kxs_mw "ValueError.__init__" a) := Heap.get?_push_at rfl rfl
      have kin3 := kin2.keeps k3
      have ns3 := (hns.keeps k).keeps k3
      have ho3 := k3 _ _ (k _ _ ho1')
      have up3 : ∀ b o, s.heap.get? b = some o → (h'.push (kxs_mw "ValueError.__init__" a)).get? b = some o := fun b o z => k3 _ _ (k _ _ (hk _ _ z))
      generalize hh3 : h'.push (kxs_mw "ValueError.__init__" a) = h3 at *
      generalize h'.objs.size = u at *
      rw [hst]
      refine kxs_callWith (i := "ValueError.__init__") (x := a) rfl (Calls.evalArgs_plain (Calls.spliced_cons ?_))
      refine wpAny_JoinedStr (pos := q4) ?_
      have e0 : ∀ env, evalEach [.Constant (.str pre) j q1, .FormattedValue (.Name x q2) (-1) none q3] env = [eval (.Constant (.str pre) j q1) env, eval (.FormattedValue (.Name x q2) (-1) none q3) env] := fun env => by first | rfl | simp [evalEach]
      rw [e0]
      refine Calls.Constant_str ⟨pre, _, rfl, hpre, ?_⟩
      refine wpAny_FormattedValue_plain (ESX.ldL ns3 hns2 ?_ S.kind S.par hdb1)
      refine wpAny_formatField_int (by omega) ⟨_, _, rfl, hlen, hlen, ?_⟩
      refine Calls.spliced_nil ⟨hu, ?_⟩
      refine call_mw (kin3 _ _ hC) ho3 hu (show 1 ≤ sizeLine by rw [sizeLine_eq]; decide) (fun h4 t4 k4 ho4 => ?_)
      have ns4 : h4.Ns s.heap.objs.size m := by
        obtain ⟨oL, es, ep, hL, r⟩ := ns3
        exact ⟨oL, es, ep, k4 _ _ la hL, r⟩
      have kna : ∀ b o, K.lookup b = some o → b ≠ a := fun b o e => hka b o (M.kin _ _ e)
      have kin4 : K.In h4 := fun b o e => k4 b o (kna b o e) (kin3 b o e)
      refine ks_wpAt_execs_cons (ks_wpAt_Assign_Attr (wpAt_of_wpAny (ESX.ldL ns4 hns2 (ESX.ldL ns4 hns1 ?_ S.kind S.slf hdb2) S.kind S.par hdb1)) (hs2 _))
      refine PySem.W.set_plain kin4 (ox := HandSPX.excO C t4) (od := none) ⟨ho4, rfl, rfl, trivial⟩ B.T.sa ?_
      refine PySem.HandSPX.exc_osa kin4 ho4 hcl (show PySem.HandSPX.refsVE (.ref C :: bm) = true from hbm) rfl B.no (fun h5 tk5 dx k5' dn dne hx hnx => ?_)
      refine wpAt_of_wpAny (wpAny_pure (hR h5 _ dx t4 (fun b o hb e => k5' b o hb (k4 b o hb (up3 b o e))) ?_ dne hx hnx))
      cases e : s.heap.get? dx with
      | none => rfl
      | some o => exact absurd (Heap.lt_size (k4 _ _ dne (up3 _ _ e))) (Nat.not_lt.mpr dn)
  · have e : ∀ env : Env, env.scope = scope → interactive env = false := fun env h => by simp [interactive, h, S.kind]
    exact e _ rfl
end
structure XCls (P : Program) (K : Frag) (mg : Str → Option Value) (c fld pre : Str) : Prop where
  ex : ∃ (f cc cda : Addr) (name qual sf x : Str) (params : Arguments) (scope : Scope) (dV kV doc pm ct oc ccl : Value) (an od cdd : Option Addr) (osl ccs : Array (Option Value)) (vs : Array Value) (file : Str) (tf : Tok) (p0 p1 p2 p3 p5 p6 p7 p8 q1 q2 q3 q4 q5 : Pos) (j : Nat) (pl : Env → Sem Bool),
    XIn P K mg (He.ga K c) f cc fld ∧ XScope sf x scope ∧ sf ≠ x ∧ findIn K (.ref (He.ga K c)) "__init__" = some (some (.ref f)) ∧ typeIn K (.ref f) = some (.type "function") ∧
    K.lookup f = some ⟨oc, od, .func (ksFn name qual params [.Expr (.Call (.Attribute (supE p0 p1) "__init__" p2) [wordE pre x j q1 q2 q3 q4] [] p3) p5, .Assign [.Attribute (.Name sf p6) fld p7] (.Name x q5) p8] scope dV kV doc pm an (.ref cda) ct cc), osl⟩ ∧
    codeIn K (.ref cda) qual = true ∧ K.lookup cda = some ⟨ccl, cdd, .fields vs, ccs⟩ ∧ vs[2]? = some (.str file tf) ∧ ((P.main.file : Str) == file) = true ∧ (P.main.scope.names.lookup ("super" : Str)).isSome = false ∧
    (∀ s a n t, BindsTo s (ksFn name qual params [.Expr (.Call (.Attribute (supE p0 p1) "__init__" p2) [wordE pre x j q1 q2 q3 q4] [] p3) p5, .Assign [.Attribute (.Name sf p6) fld p7] (.Name x q5) p8] scope dV kV doc pm an (.ref cda) ct cc) ⟨[.ref a, .int n t], []⟩ [(sf, .ref a), (x, .int n t)]) ∧
    (∃ ar, (params.posonlyargs ++ params.args).head? = some ar ∧ ar.arg = sf) ∧
    (∀ env, eval (.Call (.Attribute (supE p0 p1) "__init__" p2) [wordE pre x j q1 q2 q3 q4] [] p3) env = (do
      let ov ← attributeBase (supE p0 p1) "__init__" env (eval (supE p0 p1) env)
      standAt p2.atName
      let (f, first) ← holding [ov] (getMethod ov "__init__" (pl env))
      callWith p3 f first (backTo p3 (starEach [wordE pre x j q1 q2 q3 q4] env)) [])) ∧
    (∀ env, starEach [wordE pre x j q1 q2 q3 q4] env = [(false, eval (wordE pre x j q1 q2 q3 q4) env)]) ∧
    (∀ env, swapsWith (.Call (.Attribute (supE p0 p1) "__init__" p2) [wordE pre x j q1 q2 q3 q4] [] p3) none p5.line env = pure false) ∧
    (∀ env, swapsWith (.Name x q5) (some (.Attribute (.Name sf p6) fld p7)) p8.line env = pure false) ∧ (x == ("__debug__" : Str)) = false ∧ (sf == ("__debug__" : Str)) = false
def tMkX (K : Frag) (c fld pre : Str) (ta : TA) : L2.St → Hp → XK → Prop := fun σ H Q => ta σ H fun vs H1 => ∃ n : Int, vs = [.int n] ∧ n.natAbs.log2 < 1000 ∧ (Str.empty ++ pre).length ≤ sizeLine ∧ (Str.empty ++ pre ++ (toString n : Str)).length ≤ sizeLine ∧ ∀ d, H1 d = none → Q (.ref (He.ga K c)) (some d) (upd H1 d (.xd [(fld, .int n)]))
theorem pmk_x {X : Cx} {c fld pre : Str} {e : Expr} {ta : TA} {p pos : Pos} {k : Nat} (C : XCls X.prog X.K X.mg c fld pre) (hr : Room (k + 1) X.A) (hm : X.mg c = some (.ref (He.ga X.K c))) (ha : PA X [e] ta) (hg : Gl X c := by rfl)
    (hdb : (c == ("__debug__" : Str)) = false := by decide) (he : starEach [e] X.env = (false, eval e X.env) :: starEach [] X.env := by rfl) (hpl : (backTo pos (starEach [] X.env)).any (·.1) = false := by rfl) :
    L2N.PMk X (.Call (.Name c p) [e] [] pos) (tMkX X.K c fld pre ta) := by
  intro pins s σ H Q I h
  obtain ⟨f, cc, cda, name, qual, sf, x, params, scope, dV, kV, doc, pm, ct, oc, ccl, an, od, cdd, osl, ccs, vs, file, tf, p0, p1, p2, p3, p5, p6, p7, p8, q1, q2, q3, q4, q5, j, pl, B, S, hsx, iC, tI, hf, hcd, hcode, hvs, hfile, htop, hbind, hp, hev, hst, hs1, hs2, hdb1, hdb2⟩ := C.ex
  obtain ⟨nm, q, N, bs, bm, sn, sub, ab, col, dd, k0, k1, k2, k3, k5, hC, hbm⟩ := B.T.cls
  refine wpAny_Call_Name_kw (ld_glob I hg hm ?_ hdb)
  refine PySem.W.callWith_K (h₀ := X.base) I.ok.mod.kin B.T.kC (thn (ha.run pos pins s σ H _ I h) fun us s1 ⟨ws, H1, I1, r1, n, ew, g1, g2, g3, q1'⟩ => ⟨I1.kIn, ?_⟩) he hpl
  subst ew
  obtain ⟨u0, rfl, ru⟩ := vals1 r1
  obtain ⟨tk0, rfl⟩ := ru
  show wpAny _ _ (call (.ref (He.ga X.K c)) [Value.int n tk0]) _ _ _
  obtain ⟨hp', g, dr, tk, os⟩ := s1
  have kk : ∀ b o, hp'.get? b = some o → ((hp'.push (PySem.W.kdv_tup [Value.int n tk0])).push (PySem.HandSPX.excO (He.ga X.K c) hp'.objs.size)).get? b = some o := fun b o e => Heap.get?_push_of_some _ (Heap.get?_push_of_some _ e)
  have hget : ((hp'.push (PySem.W.kdv_tup [Value.int n tk0])).push (PySem.HandSPX.excO (He.ga X.K c) hp'.objs.size)).get? (hp'.objs.size + 1) = some (PySem.HandSPX.excO (He.ga X.K c) hp'.objs.size) := by heap_get
  have na : ∀ b o, hp'.get? b = some o → b ≠ hp'.objs.size + 1 := fun b o e => Nat.ne_of_lt (Nat.lt_succ_of_lt (Heap.lt_size e))
  refine wpAny_call (PySem.HandSPX.call_own F.excBase_ValueError (fun Y => PySem.HandSPX.refsVE_contains Y bm hbm) (I1.kIn _ _ hC) (PySem.W.looks_findIn I1.kIn iC) (fun self => PySem.W.bind_fn I1.kIn self tI) (show 1 ≤ sizeLine by rw [sizeLine_eq]; decide) ?_)
  refine init_code (s := ⟨(hp'.push (PySem.W.kdv_tup [Value.int n tk0])).push (PySem.HandSPX.excO (He.ga X.K c) hp'.objs.size), g, dr, tk, os⟩) B S I1.mod (fun b o e => kk b o (I1.bk b o e)) (fun b o e => na b o (I1.bk b o e)) hget hsx g1 g2 g3 hf hcd hcode hvs hfile htop ?_ (hbind _ _ _ _) hp hev hst hs1 hs2 hdb1 hdb2 (fun h' tk' dx t2 kx hdx dne hx hnx => ?_)
  · exact (hr.make (He.ga X.K c) [Value.int n tk0] []).depth
  · refine ⟨rfl, ?_⟩
    generalize hh0 : (hp'.push (PySem.W.kdv_tup [Value.int n tk0])).push (PySem.HandSPX.excO (He.ga X.K c) hp'.objs.size) = h0 at *
    generalize hA : hp'.objs.size + 1 = a at *
    have hdn : hp'.get? dx = none := by
      cases e : hp'.get? dx with
      | none => rfl
      | some o => rw [kk _ _ e] at hdx; cases hdx
    have Hd : H1 dx = none := I1.hok.gone hdn
    have Ha : H1 a = none := I1.hok.fresh (by rw [← hA]; exact Nat.le_succ _)
    obtain ⟨G, g1', g2'⟩ := restrict h' fun b => decide (b ≠ a)
    have gk : ∀ b, b ≠ a → G.get? b = h'.get? b := fun b hb => g1' b (decide_eq_true hb)
    have ge : G.get? a = none := g2' a (by simp)
    have kG : ∀ b o, hp'.get? b = some o → G.get? b = some o := fun b o e => by
      rw [gk b (na b o e)]
      exact kx b o (na b o e) (kk b o e)
    have J : Inv X pins σ (upd H1 dx (.xd [(fld, .int n)])) ⟨G, g, dr, tk', os⟩ := by
      refine I1.laidN (t' := tk') (a := dx) (o := .xd [(fld, .int n)]) kG hdn Hd ?_
      obtain ⟨m0, hm0⟩ : ∃ m0, m0 = (fun y => if y = fld then some (Value.int n tk0) else none) := ⟨_, rfl⟩
      refine ⟨_, hnx.at fun o y => (gk dx dne).trans y, fun y => ?_⟩
      rw [lookup_put]
      by_cases hy : y = fld
      · rw [if_pos hy, if_pos hy]; exact ⟨tk0, rfl⟩
      · rw [if_neg hy, if_neg hy]; exact True.intro
    refine ⟨a, _, _, ⟨G, g, dr, tk', os⟩, _, .ref (He.ga X.K c), some dx, rfl, J, fun b o e => ?_, ge, hx, ⟨rfl, rfl, fun vs e => by cases e; rfl⟩, rfl, rfl, ?_, rfl, I1.bare, raises_own B.T.exC B.T.tyC, q1' dx Hd⟩
    · by_cases hb : b = a
      · rw [hb, ge] at e; cases e
      · rw [← gk b hb]; exact e
    · rw [upd_ne (Ne.symm dne)]; exact Ha
end DL
namespace DL
open L2 PySem PySem.Spec PyProof.Rows
section
variable {X : Cx} {G : Gd} {XC : List Nat → Prop} {Ol O O' : List Nat} {W : WX} {fr : Bool} {e : Expr} {me : ME} {mr : MA} {pos p : Pos} {x : Str}
def TellOk (pre : Str) (n : Int) : Prop := n.natAbs.log2 < 1000 ∧ (Str.empty ++ pre).length ≤ sizeLine ∧ (Str.empty ++ pre ++ (toString n : Str)).length ≤ sizeLine
instance {pre : Str} {n : Int} : Decidable (TellOk pre n) := by unfold TellOk; infer_instance
def msRaiseX (c fld pre : Str) (m : MA) : MS := fun ρ => obind (m ρ) fun ds ρ1 => match ds with
  | [.int n] => if TellOk pre n then .ex ⟨c, [(fld, .int n)]⟩ ρ1 else .bad
  | _ => .bad
theorem RelS.up {K : PySem.W.Frag} {A : Addr → Prop} {ms : Nat → Option Addr} {σ : L2.St} {H : Hp} {ρ : En} {d : Addr} {o : HO} (R : RelS K G O A ms σ H ρ) (h : H d = none) : RelS K G O A ms σ (upd H d o) ρ := R.same (same_upd h)
theorem ds_raiseX {c fld pre : Str} {k : Nat} {p2 : Pos} (C : XCls X.prog X.K X.mg c fld pre) (hr : Room (k + 1) X.A) (hm : X.mg c = some (.ref (He.ga X.K c))) (hx : XC O) (tk : L2N.Takes X W) (ha : DA X G O W [e] mr) (hc : X.calm = true := by rfl) (hg : Gl X c := by rfl) (hdb : (c == ("__debug__" : Str)) = false := by decide)
    (he : starEach [e] X.env = (false, eval e X.env) :: starEach [] X.env := by rfl) (hpl : (backTo p2 (starEach [] X.env)).any (·.1) = false := by rfl) :
    DS X G XC Ol O O' W fr (.Raise (some (.Call (.Name c p) [e] [] p2)) none pos) (msRaiseX c fld pre mr) := by
  refine ps_imp (L2N.ps_raise hc tk (pmk_x C hr hm ha hg hdb he hpl)) fun D0 σ H ⟨A, ms, ρ, R, q⟩ => ⟨A, ms, ρ, R, eb hx q ?_⟩
  intro ds ρ1 vs H1 _ R1 k1 r q1
  split at q1
  · split at q1
    · rename_i n _ hn
      cases r with
      | cons r1 r2 =>
        cases r2
        cases r1
        refine ⟨n, rfl, hn.1, hn.2.1, hn.2.2, fun d hd => ?_⟩
        exact q1 (some d) σ _ A ms O hx (R1.up hd) (Tr.same (same_upd hd)) (.inr ⟨by simp, d, [(fld, .int n)], rfl, upd_same, .cons (.int n) .nil⟩)
    · exact q1.elim
  · exact q1.elim
def okF : List (Str × D) → Bool
  | [] => true
  | [(_, .int _)] => true
  | _ => false
def msTryF (mt : Str → Option Bool) (i : Nat) (mb : MS) (ms : Str → List (Str × D) → MS) : MS := fun ρ => match mb ρ with
  | .ex y ρ1 => match mt y.c with
    | some true => if okF y.fs = true then (if i < ρ1.length then fgt i (ms y.c y.fs (ρ1.set i none)) else .bad) else .bad
    | some false => .ex y ρ1
    | none => .bad
  | o => o
def Gd.addX (G : Gd) (d : Option Addr) (vs : List (Str × V)) : Gd := { G with H0 := fun b => if d = some b then some (.xd vs) else G.H0 b }
def XG (G : Gd) (d : Option Addr) (fs : List (Str × D)) : Prop := (fs = [] ∧ d = none) ∨ ∃ dd f n, fs = [(f, .int n)] ∧ d = some dd ∧ G.H0 dd = some (.xd [(f, .int n)]) ∧ G.io ≠ some dd
theorem own_xd {K : PySem.W.Frag} {A : Addr → Prop} {H : Hp} {p dd : Addr} {d : D} {vs : List (Str × V)} (h : Own K A H p d) (e : H dd = some (.xd vs)) : p ≠ dd := fun z => by
  subst z
  cases h with
  | lst e1 _ => rw [e] at e1; cases e1
  | obj e1 _ => rw [e] at e1; cases e1
  | dK e1 _ _ => rw [e] at e1; cases e1
  | dT e1 _ _ => rw [e] at e1; cases e1
theorem addX_none (G : Gd) (vs : List (Str × V)) : G.addX none vs = G := by
  unfold Gd.addX
  simp
theorem RelS.addX {K : PySem.W.Frag} {A : Addr → Prop} {ms : Nat → Option Addr} {σ : L2.St} {H : Hp} {ρ : En} {dd : Addr} {vs : List (Str × V)} (R : RelS K G O A ms σ H ρ) (e : H dd = some (.xd vs)) :
    RelS K (G.addX (some dd) vs) O A (fun j => if ms j = some dd then none else ms j) σ H ρ := by
  have sm : ∀ {j : Nat} {p : Addr}, (if ms j = some dd then none else ms j) = some p → ms j = some p ∧ p ≠ dd := fun {j p} z => by
    by_cases h : ms j = some dd
    · rw [if_pos h] at z; cases z
    · rw [if_neg h] at z
      exact ⟨z, fun w => h (w ▸ z)⟩
  exact {
    sub := R.sub
    trk0 := fun b z => by
      obtain ⟨o, w⟩ := R.trk0 b z
      show ∃ o, (if some dd = some b then some (HO.xd vs) else G.H0 b) = some o
      by_cases h : dd = b
      · exact ⟨_, if_pos (congrArg some h)⟩
      · exact ⟨o, (if_neg fun z => h (Option.some.inj z)).trans w⟩
    trk := R.trk
    keep := fun b o z n => by
      have z' : (if some dd = some b then some (HO.xd vs) else G.H0 b) = some o := z
      by_cases h : dd = b
      · rw [if_pos (congrArg some h)] at z'
        cases z'
        rw [← h]; exact e
      · rw [if_neg fun z => h (Option.some.inj z)] at z'
        exact R.keep b o z' n
    len := R.len
    fz := R.fz
    ow := fun j d z m => by
      obtain ⟨p, e0, e1, w⟩ := R.ow j d z m
      have ne := own_xd w e
      exact ⟨p, (if_neg fun y => ne (by rw [e0] at y; exact Option.some.inj y)).trans e0, e1, w⟩
    inA := fun j p m z => R.inA j p m (sm z).1
    ok := fun j p m z => by
      obtain ⟨z1, ne⟩ := sm z
      rcases R.ok j p m z1 with w | ⟨w1, w2⟩
      · exact .inl w
      · refine .inr ⟨w1, ?_⟩
        show (if some dd = some p then some (HO.xd vs) else G.H0 p) = none
        rw [if_neg fun y => ne (Option.some.inj y).symm]
        exact w2
    dist := fun j j' p m m' z z' => R.dist j j' p m m' (sm z).1 (sm z').1
    px := R.px
    io := fun p z => by
      obtain ⟨h1, h2, h3, d, h4⟩ := R.io p z
      obtain ⟨p', e0, _, w⟩ := R.ow 0 d h4 h1
      rw [h3] at e0
      cases e0
      have ne := own_xd w e
      exact ⟨h1, h2, (if_neg fun y => ne (by rw [h3] at y; exact Option.some.inj y)).trans h3, d, h4⟩ }
theorem h0_addX {K : PySem.W.Frag} {A : Addr → Prop} {ms : Nat → Option Addr} {σ : L2.St} {H : Hp} {ρ : En} {dd : Addr} {vs : List (Str × V)} (R : RelS K G O A ms σ H ρ) (e : H dd = some (.xd vs)) (b : Addr) (o : HO) (h : G.H0 b = some o) : (G.addX (some dd) vs).H0 b = some o := by
  show (if some dd = some b then some (HO.xd vs) else G.H0 b) = some o
  by_cases hb : dd = b
  · rw [if_pos (congrArg some hb)]
    subst hb
    have : G.io ≠ some dd := fun z => by
      obtain ⟨h1, h2, h3, d, h4⟩ := R.io dd z
      obtain ⟨p', e0, _, w⟩ := R.ow 0 d h4 h1
      rw [h3] at e0
      cases e0
      exact own_xd w e rfl
    have := R.keep dd o h this
    rw [e] at this
    exact this
  · rw [if_neg fun z => hb (Option.some.inj z)]
    exact h
theorem RelS.remX {K : PySem.W.Frag} {A : Addr → Prop} {ms : Nat → Option Addr} {σ : L2.St} {H : Hp} {ρ : En} {d : Option Addr} {vs : List (Str × V)} (R : RelS K (G.addX d vs) O A ms σ H ρ) (up : ∀ b o, G.H0 b = some o → (G.addX d vs).H0 b = some o) (t0 : ∀ b, G.A0 b → ∃ o, G.H0 b = some o) : RelS K G O A ms σ H ρ where
  sub := R.sub
  trk0 := t0
  trk := R.trk
  keep := fun b o z n => R.keep b o (up b o z) n
  len := R.len
  fz := R.fz
  ow := R.ow
  inA := R.inA
  ok := fun j p m z => by
    rcases R.ok j p m z with w | ⟨w1, w2⟩
    · exact .inl w
    · refine .inr ⟨w1, ?_⟩
      cases q : G.H0 p with
      | none => rfl
      | some o => rw [up _ _ q] at w2; cases w2
  dist := R.dist
  px := R.px
  io := R.io
theorem retG_remX {K : PySem.W.Frag} {v : V} {H : Hp} {d : Option Addr} {vs : List (Str × V)} {z o : D} (h : RetG K (G.addX d vs) fr v H z o) (up : ∀ b o, G.H0 b = some o → (G.addX d vs).H0 b = some o) : RetG K G fr v H z o := by
  obtain ⟨h1, h2⟩ := h
  refine ⟨fun b o' e n => h1 b o' (up b o' e) n, ?_⟩
  unfold RetR at h2 ⊢
  cases fr with
  | false => exact h2
  | true =>
    simp only [if_true] at h2 ⊢
    obtain ⟨r, e1, e2, e3⟩ := h2
    refine ⟨r, e1, ?_, e3⟩
    cases q : G.H0 r with
    | none => rfl
    | some o => rw [up _ _ q] at e2; cases e2
theorem sp_remX {K : PySem.W.Frag} {A : Addr → Prop} {H : Hp} {D0 : Ends} {W : WX} {d : Option Addr} {vs : List (Str × V)} {r : Out} (up : ∀ b o, G.H0 b = some o → (G.addX d vs).H0 b = some o) (t0 : ∀ b, G.A0 b → ∃ o, G.H0 b = some o) (hr : ∀ z ρ, r ≠ .ex z ρ) (h : SPost K G XC Ol O' W fr A H D0 r) : SPost K (G.addX d vs) XC Ol O' W fr A H D0 r := by
  cases r with
  | nx ρ => exact fun σ' H' A' ms' R t => h σ' H' A' ms' (R.remX up t0) t
  | rt z ρ => exact fun v H' rg => h v H' (retG_remX rg up)
  | bk ρ => exact fun σ' H' A' ms' R t => h σ' H' A' ms' (R.remX up t0) t
  | ct ρ => exact fun σ' H' A' ms' R t => h σ' H' A' ms' (R.remX up t0) t
  | ex z ρ => exact absurd rfl (hr z ρ)
  | bad => exact h
theorem ds_tryF {n : Str} {c : Value} {i : Nat} {body suite : List Stmt} {b₀ : Stmt} {np pos' : Pos} {mt : Str → Option Bool} {mb : MS} {ms : Str → List (Str × D) → MS} (hx : XC O) (hs : X.stack = X.env :: X.outer) (hf : X.env.frame = some X.env.locals) (hN : X.N.Nodup) (hi : X.N[i]? = some n) (hln : X.env.kindOf n = some .local) (hc : Names X x c) (tk : L2N.Takes X W)
    (hmt : Mt X c mt) (oi : O.contains i = false) (h0 : i ≠ 0 ∨ G.io = none) (hn : G.px = none)
    (hb : ∀ (W : WX) (pn : List (Addr × Obj)) (xe : Value → Shared → Prop), L2N.Takes (X.tr pn xe) W → PassesOwn (model X.prog X.w) X.A X.env xe → DSs (X.tr pn xe) G (fun o => o = O) Ol O O W fr body mb)
    (hsu : ∀ (a : Addr) (oe : Obj) (k : Str) (fs : List (Str × D)) (d : Option Addr) (vs : List (Str × V)) (pn : List (Addr × Obj)), L2N.Zn (.ref (He.ga X.K k)) d oe → (∃ vs, oe.data = .fields vs) → mt k = some true → XG (G.addX d vs) d fs → DSs (X.suite a ((a, oe) :: pn)) ((G.addX d vs).at i a k) (fun o => o = i :: O) (i :: Ol) (i :: O) (i :: O) W0 fr (b₀ :: suite) (ms k fs))
    (nol : Ol.contains i = false) :
    DS X G XC Ol O O W fr (.Try body [.ExceptHandler (some (.Name x np)) (some n) (b₀ :: suite) pos'] [] [] pos) (msTryF mt i mb ms) := by
  have ni : i ∉ O := fun z => by rw [List.contains_iff_mem.mpr z] at oi; cases oi
  have nl : i ∉ Ol := fun z => by rw [List.contains_iff_mem.mpr z] at nol; cases nol
  let ts : Addr → Value → Option Addr → TS := fun a cls d D1 σ H => ∃ (k : Str × List (Str × D) × List (Str × V)), (cls = .ref (He.ga X.K k.1) ∧ mt k.1 = some true ∧ XG (G.addX d k.2.2) d k.2.1) ∧ tS X.K ((G.addX d k.2.2).at i a k.1) (fun o => o = i :: O) (i :: Ol) (i :: O) (i :: O) W0 fr (ms k.1 k.2.1) D1 σ H
  refine ps_imp (L2N.ps_try_as (ts := ts) (Wout := W) (tb := fun W => tS X.K G (fun o => o = O) Ol O O W fr mb) hs hf hN hi hln hc tk (fun W pn xe t p => hb W pn xe t p) (fun a oe cls d pn hz hd => ?_)) fun D0 σ H ⟨A, ms', ρ, R, q⟩ => ?_
  · refine pss_ex fun k ⟨e1, e3, e4⟩ => ?_
    subst e1
    exact hsu a oe k.1 k.2.1 d k.2.2 pn hz hd e3 e4
  · refine ⟨A, ms', ρ, R, ?_⟩
    unfold msTryF at q
    cases hm : mb ρ with
    | nx ρ1 => rw [hm] at q; exact q
    | rt d ρ1 => rw [hm] at q; exact q
    | bk ρ1 => rw [hm] at q; exact q
    | ct ρ1 => rw [hm] at q; exact q
    | bad => rw [hm] at q; exact q.elim
    | ex y ρ1 =>
      rw [hm] at q
      intro dx σ1 H1 A1 ms1 O'' hO R1 t1 xr
      have hO' : O'' = O := hO
      subst hO'
      have q1 := SPost.from t1 q
      have q1 : SPost X.K G XC Ol O'' W fr A1 H1 D0 (match mt y.c with
        | some true => if okF y.fs = true then (if i < ρ1.length then fgt i (ms y.c y.fs (ρ1.set i none)) else .bad) else .bad
        | some false => .ex y ρ1
        | none => .bad) := q1
      cases hb1 : mt y.c with
      | none => simp only [hb1] at q1; exact q1.elim
      | some b =>
        simp only [hb1] at q1
        refine ⟨b, hmt _ _ hb1, fun e1 a na => ?_, fun e1 => ?_⟩
        · subst e1
          obtain ⟨yc, yf⟩ := y
          have q2 : SPost X.K G XC Ol O'' W fr A1 H1 D0 (if okF yf = true then (if i < ρ1.length then fgt i (ms yc yf (ρ1.set i none)) else .bad) else .bad) := q1
          split at q2
          · rename_i hok
            split at q2
            · rename_i hlt
              -- the fields
              have fin : ∀ (d : Option Addr) (vs : List (Str × V)) (msz : Nat → Option Addr), dx = d → XG (G.addX d vs) d yf → RelS X.K (G.addX d vs) O'' A1 msz σ1 H1 ρ1 → (∀ b o, G.H0 b = some o → (G.addX d vs).H0 b = some o) → ts a (.ref (He.ga X.K yc)) dx { nx := fun σ' H' => D0.nx (σ'.set i none) H', rt := D0.rt, bk := fun σ' H' => D0.bk (σ'.set i none) H', ct := fun σ' H' => D0.ct (σ'.set i none) H' } (σ1.set i (some (.ref a))) H1 := by
                intro d vs msz ed xg R2 up
                subst ed
                refine ⟨(yc, yf, vs), ⟨rfl, hb1, xg⟩, A1, _, _, R2.named ni hlt hn h0, ?_⟩
                have q3 := sp_remX up R1.trk0 (fun z ρ w => by cases hz : ms yc yf (ρ1.set i none) <;> rw [hz] at w <;> cases w) q2
                show SPost X.K ((G.addX dx vs).at i a yc) (fun o => o = i :: O'') (i :: Ol) (i :: O'') W0 fr A1 H1 { nx := fun σ' H' => D0.nx (σ'.set i none) H', rt := D0.rt, bk := fun σ' H' => D0.bk (σ'.set i none) H', ct := fun σ' H' => D0.ct (σ'.set i none) H' } (ms yc yf (ρ1.set i none))
                cases hr : ms yc yf (ρ1.set i none) with
                | nx ρ2 => rw [hr] at q3; exact fun σ' H' A' ms' R' t => q3 _ H' A' _ (RelS.unnamed R' ni hn h0) t
                | bk ρ2 => rw [hr] at q3; exact fun σ' H' A' ms' R' t => q3 _ H' A' _ (RelS.unnamed R' nl hn h0) t
                | ct ρ2 => rw [hr] at q3; exact fun σ' H' A' ms' R' t => q3 _ H' A' _ (RelS.unnamed R' nl hn h0) t
                | rt d ρ2 => rw [hr] at q3; exact q3
                | ex z ρ2 => rw [hr] at q2; exact q2.elim
                | bad => rw [hr] at q2; exact q2.elim
              rcases xr with ⟨w1, w2⟩ | ⟨w1, dd, vs, w2, w3, w4⟩
              · refine fin none [] ms1 w2 (.inl ⟨w1, rfl⟩) (by rw [addX_none]; exact R1) (by rw [addX_none]; exact fun _ _ z => z)
              · have R2 := R1.addX w3
                have io : G.io ≠ some dd := fun z => by
                  obtain ⟨h1, h2, h3, d, h4⟩ := R1.io dd z
                  obtain ⟨p', e0, _, w⟩ := R1.ow 0 d h4 h1
                  rw [h3] at e0
                  cases e0
                  exact own_xd w w3 rfl
                have fsn : ∃ f n, yf = [(f, .int n)] ∧ vs = [(f, .int n)] := by
                  have w4' : RpF X.K A1 H1 vs yf := w4
                  cases yf with
                  | nil => exact absurd rfl w1
                  | cons a0 r0 =>
                    obtain ⟨f, d0⟩ := a0
                    cases r0 with
                    | cons _ _ => cases d0 <;> cases hok
                    | nil =>
                      cases d0 with
                      | int n =>
                        cases w4' with
                        | cons h t =>
                          cases h
                          cases t
                          exact ⟨f, n, rfl, rfl⟩
                      | _ => cases hok
                obtain ⟨f, n, ef, ev⟩ := fsn
                refine fin (some dd) vs _ w2 (.inr ⟨dd, f, n, ef, rfl, ?_, io⟩) R2 (h0_addX R1 w3)
                show (if some dd = some dd then some (HO.xd vs) else G.H0 dd) = _
                rw [if_pos rfl, ev]
            · exact q2.elim
          · exact q2.elim
        · subst e1
          have q2 : SPost X.K G XC Ol O'' W fr A1 H1 D0 (.ex y ρ1) := q1
          exact q2 dx σ1 H1 A1 ms1 O'' hx R1 Tr.refl xr
def mXf (ok : Str → Bool) (k f : Str) (fs : List (Str × D)) : ME := fun ρ => if ok k = true then match fs with
  | [(g, .int n)] => if g = f then .ok (.int n) ρ else .bad
  | _ => .bad
  else .bad
def XfOk (K : PySem.W.Frag) (f : Str) (ok : Str → Bool) : Prop := ∀ k, ok k = true → XfC K (He.ga K k) ∧ PySem.W.findIn K (.ref (He.ga K k)) f = some none
theorem de_xf {i : Nat} {n k f : Str} {ok : Str → Bool} {fs : List (Str × D)} {d : Option Addr} {ad : Addr} {oe : Obj} {pn : List (Addr × Obj)} {np : Pos} (hok : XfOk X.K f ok) (hpx : G.px = some (i, ad, k)) (hg : XG G d fs) (hz : L2N.Zn (.ref (He.ga X.K k)) d oe) (hf : ∃ vs, oe.data = .fields vs)
    (hN : X.N[i]? = some n) (hv : Vis X.env.scope n) (hd1 : (n == ("__debug__" : Str)) = false := by decide) (hd2 : (n == ("__classdict__" : Str)) = false := by decide)
    (hb : attributeBase (.Name n np) f X.env (eval (.Name n np) X.env) = eval (.Name n np) X.env := by rfl) :
    DE (X.suite ad ((ad, oe) :: pn)) G O W (.Attribute (.Name n np) f pos) (mXf ok k f fs) := by
  by_cases hk : ok k = true
  · obtain ⟨T, hno⟩ := hok k hk
    have hv' : PE (X.suite ad ((ad, oe) :: pn)) (.Name n np) (tVar i) := pe_var hN hv hd1 hd2
    refine pe_imp (pe_xf T hno hz.zc hf hv' hb) fun σ H Q ⟨A, ms, ρ, R, q⟩ => ?_
    unfold mXf at q
    rw [if_pos hk] at q
    split at q
    · split at q
      · rename_i g m _ e
        subst e
        obtain ⟨_, h1⟩ := R.px i ad k hpx
        rcases hg with ⟨w, _⟩ | ⟨dd, f', n', ef, ed, eh, io⟩
        · cases w
        · cases ef
          refine ⟨_, h1, rfl, rfl, dd, _, .int m, ed, R.keep dd _ eh io, ?_, q _ H R Kp.refl (.int m)⟩
          simp [List.lookup]
      · exact q.elim
    · exact q.elim
  · refine ⟨fun pins s σ H Q I ⟨A, ms, ρ, R, q⟩ => ?_⟩
    unfold mXf at q
    rw [if_neg hk] at q
    exact q.elim
end
end DL
namespace DL
open L2 PySem PySem.Spec PyProof.Rows
def oexB (K : PySem.W.Frag) (C : Addr) : Bool := (match K.lookup C with
  | some ⟨.type "type", _, .cls cd, sl⟩ => (match cd.mro, sl.toList with
    | .ref C' :: bm, [_, _, _, _, some (.builtin n), _] => C' == C && (n == "ValueError.__new__" && (!cd.hasDel && (cd.hasDict && PySem.HandSPX.refsVE bm)))
    | _, _ => false)
  | _ => false) && (decide (PySem.W.findIn K (.ref C) "__setattr__" = some (some (.builtin "object.__setattr__"))) && (decide (PySem.W.subIn K (.ref C) (.type "BaseException") = some true) && (decide (PySem.W.typeIn K (.ref C) = some (.type "type")) && PySem.W.keepIn K (.ref C))))
theorem oexB_ok {K : PySem.W.Frag} {C : Addr} (h : oexB K C = true) : OexC K C := by
  unfold oexB at h
  obtain ⟨h1, h⟩ := He.ba h
  obtain ⟨h2, h⟩ := He.ba h
  obtain ⟨h3, h⟩ := He.ba h
  obtain ⟨h4, h5⟩ := He.ba h
  refine ⟨?_, of_decide_eq_true h2, of_decide_eq_true h3, of_decide_eq_true h4, h5⟩
  split at h1
  · rename_i dd cd sl ho
    split at h1
    · rename_i C' bm k0 k1 k2 k3 n k5 hm hs
      simp only [Bool.and_eq_true, beq_iff_eq, Bool.not_eq_true'] at h1
      obtain ⟨rfl, rfl, hdel, hdict, ht⟩ := h1
      obtain ⟨nm, bs, mro, ns, qn, hd, sn, sub, ab, col, del⟩ := cd
      dsimp only at hm hdel hdict
      subst hm hdel hdict
      have hsl : sl = #[k0, k1, k2, k3, some (.builtin "ValueError.__new__"), k5] := by
        obtain ⟨l⟩ := sl
        simp only at hs
        rw [hs]
      subst hsl
      exact ⟨nm, qn, ns, bs, bm, sn, sub, ab, col, dd, k0, k1, k2, k3, k5, ho, ht⟩
    · cases h1
  · cases h1
def iniB (K : PySem.W.Frag) (file : Str) (C f : Addr) (fld : Str) : Bool :=
  oexB K C && (decide (PySem.W.nsIn K cStatics "thirdparty.any" = some none) && (decide (PySem.W.ks_superIn K C C "__init__" = some (some (.builtin "ValueError.__init__"))) && (decide (PySem.W.subIn K (.ref C) (.type "ValueError") = some true) && (decide (PySem.W.mroIn K C (.ref C) = some true) &&
    (decide (PySem.W.findIn K (.ref C) fld = some none) && (decide (PySem.W.findIn K (.ref C) "__init__" = some (some (.ref f))) && (decide (PySem.W.typeIn K (.ref f) = some (.type "function")) && (match K.lookup f with
      | some ⟨_, _, .func fd, _⟩ => (match fd.defaults with
        | .none => true
        | _ => false) && (match fd.closure with
        | [(_, cc)] => (match fd.code with
          | .ref cda => (match K.lookup cc with
            | some ⟨_, _, .cell (some (.ref C')), _⟩ => C' == C
            | _ => false) && (PySem.W.codeIn K (.ref cda) fd.qualname && (match K.lookup cda with
              | some ⟨_, _, .fields vs, _⟩ => (match (vs[2]? : Option Value) with
                | some (.str fl _) => file == fl
                | _ => false)
              | _ => false))
          | _ => false)
        | _ => false)
      | _ => false))))))))
abbrev FnC : Type := Option (Str × Str × Arguments × FuncBody × Scope × Addr × List Str × Addr)
def fnC (K : PySem.W.Frag) (f : Addr) : FnC := match K.lookup f with
  | some ⟨_, _, .func fd, _⟩ => some (fd.name, fd.qualname, fd.params, fd.body, fd.scope, fd.globals, fd.closure.map (·.1), fd.builtins)
  | _ => none
theorem xcls_of {P : Program} {K : PySem.W.Frag} {mg : Str → Option Value} {c fld pre name qual sf x : Str} {params : Arguments} {scope : Scope} {p0 p1 p2 p3 p5 p6 p7 p8 q1 q2 q3 q4 q5 : Pos} {j : Nat} {pl : Env → Sem Bool}
    (e : fnC K (He.ma K (He.ga K c) "__init__") = some (name, qual, params, .stmts [.Expr (.Call (.Attribute (supE p0 p1) "__init__" p2) [wordE pre x j q1 q2 q3 q4] [] p3) p5, .Assign [.Attribute (.Name sf p6) fld p7] (.Name x q5) p8], scope, mainGlobals, [("__class__" : Str)], builtinsNs))
    (b : iniB K P.main.file (He.ga K c) (He.ma K (He.ga K c) "__init__") fld = true) (hsup : mg "super" = none) (S : XScope sf x scope) (hsx : sf ≠ x) (htop : (P.main.scope.names.lookup ("super" : Str)).isSome = false)
    (hbind : ∀ (kV doc pm : Value) (an : Option Addr) (cda : Addr) (ct : Value) (cc : Addr) (s : Shared) (a : Addr) (n : Int) (t : Tok), BindsTo s (PySem.W.ksFn name qual params [.Expr (.Call (.Attribute (supE p0 p1) "__init__" p2) [wordE pre x j q1 q2 q3 q4] [] p3) p5, .Assign [.Attribute (.Name sf p6) fld p7] (.Name x q5) p8] scope .none kV doc pm an (.ref cda) ct cc) ⟨[.ref a, .int n t], []⟩ [(sf, .ref a), (x, .int n t)])
    (hp : ∃ ar, (params.posonlyargs ++ params.args).head? = some ar ∧ ar.arg = sf)
    (hev : ∀ env, eval (.Call (.Attribute (supE p0 p1) "__init__" p2) [wordE pre x j q1 q2 q3 q4] [] p3) env = (do
      let ov ← attributeBase (supE p0 p1) "__init__" env (eval (supE p0 p1) env)
      standAt p2.atName
      let (f, first) ← holding [ov] (getMethod ov "__init__" (pl env))
      callWith p3 f first (backTo p3 (starEach [wordE pre x j q1 q2 q3 q4] env)) []))
    (hst : ∀ env, starEach [wordE pre x j q1 q2 q3 q4] env = [(false, eval (wordE pre x j q1 q2 q3 q4) env)])
    (hs1 : ∀ env, swapsWith (.Call (.Attribute (supE p0 p1) "__init__" p2) [wordE pre x j q1 q2 q3 q4] [] p3) none p5.line env = pure false)
    (hs2 : ∀ env, swapsWith (.Name x q5) (some (.Attribute (.Name sf p6) fld p7)) p8.line env = pure false) (hdb1 : (x == ("__debug__" : Str)) = false) (hdb2 : (sf == ("__debug__" : Str)) = false) : XCls P K mg c fld pre := by
  generalize hf : He.ma K (He.ga K c) "__init__" = f at *
  unfold iniB at b
  obtain ⟨h1, b⟩ := He.ba b
  obtain ⟨h2, b⟩ := He.ba b
  obtain ⟨h3, b⟩ := He.ba b
  obtain ⟨h4, b⟩ := He.ba b
  obtain ⟨h5, b⟩ := He.ba b
  obtain ⟨h6, b⟩ := He.ba b
  obtain ⟨h7, b⟩ := He.ba b
  obtain ⟨h8, b⟩ := He.ba b
  unfold fnC at e
  cases q : K.lookup f with
  | none => rw [q] at b; cases b
  | some o =>
    obtain ⟨oc, od, dt, osl⟩ := o
    rw [q] at b e
    cases dt with
    | func fd =>
      obtain ⟨n1, n2, n3, n4, n5, n6, n7, n8, n9, n10, n11, n12, n13, n14, n15⟩ := fd
      simp only [Option.some.injEq, Prod.mk.injEq] at e
      obtain ⟨e1, e2, e3, e4, e5, e6, e7, e8⟩ := e
      subst e1 e2 e3 e4 e5 e6 e8
      simp only at b
      obtain ⟨bd, b9⟩ := He.ba b
      clear b
      have hd8 : n8 = .none := by
        cases n8 <;> first | rfl | cases bd
      subst hd8
      split at b9
      · rename_i nm cc
        have : nm = ("__class__" : Str) := by simpa using e7
        subst this
        split at b9
        · rename_i cda
          obtain ⟨b1, b9⟩ := He.ba b9
          obtain ⟨b2, b3⟩ := He.ba b9
          split at b1
          · rename_i ccls ccld C' ccsl hcc
            split at b3
            · rename_i kcl kcd kvs ksl hcda
              split at b3
              · rename_i fl ftk hfl
                have eC : C' = He.ga K c := by simpa using b1
                subst eC
                exact ⟨f, cc, cda, _, _, sf, x, _, _, .none, n9, n10, n11, n14, oc, kcl, n12, od, kcd, osl, ksl, kvs, fl, ftk, p0, p1, p2, p3, p5, p6, p7, p8, q1, q2, q3, q4, q5, j, pl,
                  ⟨oexB_ok h1, ⟨ccls, ccld, ccsl, hcc⟩, hsup, of_decide_eq_true h2, of_decide_eq_true h3, of_decide_eq_true h4, of_decide_eq_true h5, of_decide_eq_true h6⟩, S, hsx, of_decide_eq_true h7, of_decide_eq_true h8, q, b2, hcda, hfl, b3, htop,
                  fun s a n t => hbind n9 n10 n11 n12 cda n14 cc s a n t, hp, hev, hst, hs1, hs2, hdb1, hdb2⟩
              · cases b3
            · cases b3
          · cases b1
        · cases b9
      · cases b9
    | _ => cases b
structure InD where
  c : Str
  val : FnC
abbrev AlY : Type := He.AlD × List FnC
def obY (fa : List He.Fa) (xf : XF) (fn : List He.DefD) (ins : List InD) (K : PySem.W.Frag) : AlY := (obX fa xf fn K, ins.map fun d => fnC K (He.ma K (He.ga K d.c) "__init__"))
def valY (fn : List He.DefD) (ins : List InD) : AlY := (He.valD fn, ins.map InD.val)
def SaysY (fa : List He.Fa) (xf : XF) (fn : List He.DefD) (ins : List InD) (K : PySem.W.Frag) : Prop := obY fa xf fn ins K = valY fn ins
def obYG (n : Nat) (fa : List He.Fa) (xf : XF) (fn : List He.DefD) (ins : List InD) (g : Addr → Option Obj) : AlY := obY fa xf fn ins (He.frG g (cStatics :: He.asD g n))
def hookY (n : Nat) (fa : List He.Fa) (xf : XF) (fn : List He.DefD) (ins : List InD) : PySem.W.Hook where
  α := AlY
  obs := fun t => obYG n fa xf fn ins t.heap.get?
  val := fun _ => valY fn ins
  says := fun _ hp => ∃ K : PySem.W.Frag, K.In hp ∧ SaysY fa xf fn ins K
  of := fun _ _ z => ⟨_, He.frG_in, z⟩
  keeps := fun _ _ _ ⟨K, z, c⟩ k => ⟨K, PySem.W.Frag.In.keeps z k, c⟩
theorem obYG_eq {n : Nat} {fa : List He.Fa} {xf : XF} {fn : List He.DefD} {ins : List InD} {g : Addr → Option Obj} {t : Shared} (h : ∀ a, g a = t.heap.get? a) : obYG n fa xf fn ins g = (hookY n fa xf fn ins).obs t := by
  have z : g = t.heap.get? := funext h
  rw [z] <;> rfl
section
variable {fa : List He.Fa} {xf : XF} {fn : List He.DefD} {ins : List InD} {K : PySem.W.Frag}
theorem SaysY.x (c : SaysY fa xf fn ins K) : SaysX fa xf fn K := congrArg (fun z : AlY => z.1) c
theorem SaysY.x1 (c : SaysY fa xf fn ins K) : xf K = true := c.x.x1
theorem SaysY.d (c : SaysY fa xf fn ins K) : He.SaysD fa fn K := c.x.d
theorem SaysY.ini (c : SaysY fa xf fn ins K) (i : Nat) {d : InD} (h : ins[i]? = some d := by rfl) : fnC K (He.ma K (He.ga K d.c) "__init__") = d.val := by
  have e : ins.map (fun d => fnC K (He.ma K (He.ga K d.c) "__init__")) = ins.map InD.val := congrArg (fun z : AlY => z.2) c
  have e2 : (ins.map fun d => fnC K (He.ma K (He.ga K d.c) "__init__"))[i]? = (ins.map InD.val)[i]? := by rw [e]
  rw [List.getElem?_map, List.getElem?_map, h] at e2
  exact Option.some.inj e2
end
def xfldB (K : PySem.W.Frag) (c f : Str) : Bool := xfB K (He.ga K c) && decide (PySem.W.findIn K (.ref (He.ga K c)) f = some none)
theorem xfldB_ok {K : PySem.W.Frag} {c f : Str} (h : xfldB K c f = true) : XfC K (He.ga K c) ∧ PySem.W.findIn K (.ref (He.ga K c)) f = some none :=
  ⟨xfB_ok (He.ba h).1, of_decide_eq_true (He.ba h).2⟩
end DL
namespace DL
open L2 PySem PySem.Spec PyProof.Rows
def CPowW (i j : Int) : Prop := 0 ≤ j ∧ j ≤ 1000 ∧ i.natAbs.log2 < 1000
instance {i j : Int} : Decidable (CPowW i j) := by unfold CPowW; infer_instance
def gPowW : D → D → Option D
  | .int i, .int j => if CPowW i j then some (.int (i ^ j.toNat)) else none
  | _, _ => none
theorem op_powW {X : Cx} : OpR X (binaryOp .Pow) (rI CPowW fun i j => .int (i ^ j.toNat)) := opI fun i j _ _ _ _ _ hc q => pow_int hc.1 (by
  have h0 := hc.1
  have h1 := hc.2.1
  have h2 := hc.2.2
  have hb : Builtin.Int.intBits i ≤ 1000 := by
    unfold Builtin.Int.intBits
    split <;> omega
  have h3 : (Builtin.Int.intBits i : Int) * j ≤ 1000 * j := Int.mul_le_mul_of_nonneg_right (by omega) h0
  omega) q
theorem od_powW {X : Cx} : OpR X (binaryOp .Pow) (rD2 X.K gPowW) := by
  intro pins s σ H x y v u Q I rx ry ⟨A, a, b, d, t, pa, pb, e, q⟩
  cases a with
  | int i =>
    cases b with
    | int j =>
      obtain ⟨hz, rfl⟩ := ite_d (x := .int (i ^ j.toNat)) e
      rw [pa.int] at rx
      rw [pb.int] at ry
      exact op_powW pins s σ H _ _ v u Q I rx ry ⟨i, j, rfl, rfl, hz, q _ _ (Same.refl _) (.int _)⟩
    | _ => cases e
  | _ => cases b <;> cases e
end DL
namespace Q
open DL L2 PySem PySem.Spec PyProof.Rows
def m_law_number : MS := (msSeq (msIf (mTest (m2 gLt (mVar 0) (mK (.int 0)))) (msRet (m2 gSub (mK (.int 0)) (mVar 0))) msNil) (msRet (mVar 0)))
def F_law_number : FN := runM 1 1 [] false m_law_number
def m_law_draws_b0 : MS := (msSeq (msIf (mTest (m2 gEq (mVar 3) (mK (.int 0)))) msBrk msNil) (msSeq (msExpr (mOM gAppend 1 (mCons (m2 gMod (mN gInt (mCons (mVar 3) mNil)) (mK (.int 1000))) mNil))) (msAsg (m2 gDiv (mVar 3) (mK (.int 1000))) (mgName 3))))
def m_law_draws_b1 : MS := (msSeq (msAsg (mCall Q.F_law_number (mCons (mVar 2) mNil)) (mgName 3)) (msIf (mTest (m2 gGe (mVar 3) (mK (.int 1000000000000000000)))) (msFor (mItN gRange1 (mCons (mK (.int 60)) mNil)) (mgName 4) m_law_draws_b0) (msSeq (msAsg (m2 gMod (mN gInt (mCons (m2 gAdd (m2 gMul (mVar 3) (mK (.int 48271))) (mK (.int 11))) mNil)) (mK (.int 2147483647))) (mgName 5)) (msSeq (msAsg (m2 gMod (mN gInt (mCons (m2 gAdd (m2 gMul (mVar 5) (mK (.int 69621))) (mVar 3)) mNil)) (mK (.int 2147483629))) (mgName 6)) (msExpr (mOM gExtend 1 (mCons (mN gLst (mCons (m2 gMod (mN gInt (mCons (mVar 3) mNil)) (mK (.int 1000))) (mCons (m2 gMod (mN gInt (mCons (mVar 5) mNil)) (mK (.int 1000))) (mCons (m2 gMod (mN gInt (mCons (mVar 6) mNil)) (mK (.int 1000))) mNil)))) mNil)))))))
def m_law_draws : MS := (msForget 1 (msSeq (msOwn 1 (mN gLst mNil)) (msSeq (msFor (mIter (mVar 0)) (mgName 2) m_law_draws_b1) (msRetO 1))))
def F_law_draws : FN := runM 7 1 [] true m_law_draws
def m_law_divisor_b0 : MS := (msSeq (msIf (mTest (m2 gEq (mVar 3) (mK (.int 0)))) msBrk msNil) (msPar [2, 3] (mCons (mVar 3) (mCons (m2 gMod (mN gInt (mCons (mVar 2) mNil)) (mVar 3)) mNil))))
def m_law_divisor : MS := (msSeq (msAsg (mN gAbs (mCons (mVar 0) mNil)) (mgName 2)) (msSeq (msAsg (mN gAbs (mCons (mVar 1) mNil)) (mgName 3)) (msSeq (msFor (mItN gRange1 (mCons (m2 gPow (mK (.int 10)) (mK (.int 9))) mNil)) (mgName 4) m_law_divisor_b0) (msRet (mVar 2)))))
def F_law_divisor : FN := runM 5 2 [] false m_law_divisor
def m_law_next : MS := (msSeq (msIf (mTruO 0) (msRet (mOM gPop 0 mNil)) msNil) (msRet (mK (.int 0))))
def F_law_next : FN := runM 1 1 [] false m_law_next
def m_law_lowest : MS := (msSeq (msAsg (mCall Q.F_law_divisor (mCons (mVar 0) (mCons (mVar 1) mNil))) (mgName 2)) (msSeq (msIf (mTest (m2 gLt (mVar 1) (mK (.int 0)))) (msAsg (m2 gSub (mK (.int 0)) (mVar 2)) (mgName 2)) msNil) (msRet (mN gTup (mCons (m2 gDiv (mVar 0) (mVar 2)) (mCons (m2 gDiv (mVar 1) (mVar 2)) mNil))))))
def F_law_lowest : FN := runM 3 2 [] false m_law_lowest
def m_law_fraction : MS := (msRet (mCall Q.F_law_lowest (mCons (m2 gSub (m2 gMod (mN gInt (mCons (mCallIo Q.F_law_next 0 mNil) mNil)) (mK (.int 13))) (mK (.int 6))) (mCons (m2 gAdd (mK (.int 1)) (m2 gMod (mN gInt (mCons (mCallIo Q.F_law_next 0 mNil) mNil)) (mK (.int 4)))) mNil))))
def F_law_fraction : FN := runM 1 1 [] false m_law_fraction
def mdivisor_b0 : MS := (msPar [0, 1] (mCons (mVar 1) (mCons (m2 gMod (mVar 0) (mVar 1)) mNil)))
def mdivisor_c1 : MT := (mTest (m2 gNe (mVar 1) (mK (.int 0))))
def mdivisor : MS := (msSeq (msPar [0, 1] (mCons (mN gAbs (mCons (mVar 0) mNil)) (mCons (mN gAbs (mCons (mVar 1) mNil)) mNil))) (msSeq (msWhile 1000000 mdivisor_c1 mdivisor_b0) (msRet (mVar 0))))
def Fdivisor : FN := runM 2 2 [] false mdivisor
def mis_number : MS := (msSeq (msAsg (mVar 0) (mgTup 2 (mgCons (mgName 1) (mgCons (mgName 2) mgNil)))) (msRet (mAnd (m2 gGe (mVar 2) (mK (.int 1))) (m2 gEq (mCall Q.Fdivisor (mCons (mVar 1) (mCons (mVar 2) mNil))) (mK (.int 1))))))
def Fis_number : FN := runM 3 1 [] false mis_number
end Q
namespace Q
open DL L2 PySem PySem.Spec PyProof.Rows
end Q
namespace Q
open DL L2 PySem PySem.Spec PyProof.Rows
end Q
namespace Q
open DL L2 PySem PySem.Spec PyProof.Rows
end Q
namespace Q
open DL L2 PySem PySem.Spec PyProof.Rows
end Q
namespace Q
open DL L2 PySem PySem.Spec PyProof.Rows
end Q
namespace Q
open DL L2 PySem PySem.Spec PyProof.Rows
def mwithout_divisor_b0 : MS := (msAsg (mCall Q.Fdivisor (mCons (mVar 1) (mCons (mVar 2) mNil))) (mgName 1))
def mwithout_divisor : MS := (msSeq (msAsg (mK (.int 0)) (mgName 1)) (msSeq (msFor (mIter (mVar 0)) (mgName 2) mwithout_divisor_b0) (msSeq (msIf (mTest (m2 gEq (mVar 1) (mK (.int 0)))) (msRet (mN gTuple (mCons (mVar 0) mNil))) msNil) (msRet (mN gTuple (mCons (mLc [2] (mIter (mVar 0)) (mgName 2) mYes (m2 gDiv (mVar 2) (mVar 1))) mNil))))))
def Fwithout_divisor : FN := runM 3 1 [] false mwithout_divisor
def mcleared_row_b0 : MS := (msAsg (m2 gMul (m2 gDiv (mVar 1) (mCall Q.Fdivisor (mCons (mVar 1) (mCons (mVar 3) mNil)))) (mVar 3)) (mgName 1))
def mcleared_row_e1 : ME := (m2 gMul (mVar 2) (m2 gDiv (mVar 1) (mVar 3)))
def mcleared_row : MS := (msSeq (msAsg (mK (.int 1)) (mgName 1)) (msSeq (msFor (mIter (mVar 0)) (mgTup 2 (mgCons (mgName 2) (mgCons (mgName 3) mgNil))) mcleared_row_b0) (msRet (mCall Q.Fwithout_divisor (mCons (mLc [2, 3] (mIter (mVar 0)) (mgTup 2 (mgCons (mgName 2) (mgCons (mgName 3) mgNil))) mYes mcleared_row_e1) mNil)))))
def Fcleared_row : FN := runM 4 1 [] false mcleared_row
end Q
namespace Q
open DL L2 PySem PySem.Spec PyProof.Rows
def mcheck_number : MS := (msIf (mNotT (mTru (mCall Q.Fis_number (mCons (mVar 0) mNil)))) (msRaise "NotNumber") msNil)
def Fcheck_number : FN := runM 1 1 [] false mcheck_number
end Q
namespace Q
open DL L2 PySem PySem.Spec PyProof.Rows
end Q
namespace Q
open DL L2 PySem PySem.Spec PyProof.Rows
def m_law_long_b0 : MS := (msAsg (m2 gAdd (m2 gMul (mVar 1) (mK (.int 1000))) (m2 gMod (mN gInt (mCons (mCallIo Q.F_law_next 0 mNil) mNil)) (mK (.int 1000)))) (mgName 1))
def m_law_long : MS := (msSeq (msAsg (mK (.int 0)) (mgName 1)) (msSeq (msFor (mItN gRange1 (mCons (m2 gAdd (mK (.int 1)) (m2 gMod (mN gInt (mCons (mCallIo Q.F_law_next 0 mNil) mNil)) (mK (.int 12)))) mNil)) (mgName 2) m_law_long_b0) (msRet (mVar 1))))
def F_law_long : FN := runM 3 1 [] false m_law_long
def m_law_pair : MS := (msSeq (msIf (mTest (m2 gEq (m2 gMod (mN gInt (mCons (mCallIo Q.F_law_next 0 mNil) mNil)) (mK (.int 2))) (mK (.int 0)))) (msRet (mCallIo Q.F_law_fraction 0 mNil)) msNil) (msSeq (msAsg (mCallIo Q.F_law_long 0 mNil) (mgName 1)) (msRet (mCall Q.F_law_lowest (mCons (m2 gSub (mVar 1) (m2 gMul (m2 gMul (mK (.int 2)) (mVar 1)) (m2 gMod (mN gInt (mCons (mCallIo Q.F_law_next 0 mNil) mNil)) (mK (.int 2))))) (mCons (m2 gAdd (mCallIo Q.F_law_long 0 mNil) (mK (.int 1))) mNil))))))
def F_law_pair : FN := runM 2 1 [] false m_law_pair
def mnumber_text_s0 : MS := (msExpr (mCall Q.Fcheck_number (mCons (mVar 0) mNil)))
def mnumber_text_s1 : MS := (msAsg (mVar 0) (mgTup 2 (mgCons (mgName 1) (mgCons (mgName 2) mgNil))))
def mnumber_text_s2 : MS := (msIf (mOrT (mTest (m2 gGe (mN gAbs (mCons (mVar 1) mNil)) (mK (.int 10000000000000000000000000000000000000000000000000000000000000000000000000000000000000000000000000000000000000000000000000000000000000000000000000000000000000000000000000000000000000000000000000000000000000000000000000000000000000000000000000000000000000000000000000000000000000000000000000000000000000000000000000000000000000000000000000000000000000000000000000000000000000000000000000000000000000000)))) (mTest (m2 gGe (mVar 2) (mK (.int 10000000000000000000000000000000000000000000000000000000000000000000000000000000000000000000000000000000000000000000000000000000000000000000000000000000000000000000000000000000000000000000000000000000000000000000000000000000000000000000000000000000000000000000000000000000000000000000000000000000000000000000000000000000000000000000000000000000000000000000000000000000000000000000000000000000000000000))))) (msRaise "TooLarge") msNil)
def mnumber_text_s3 : MS := (msIf (mTest (m2 gEq (mVar 2) (mK (.int 1)))) (msRet (mN gStr (mCons (mVar 1) mNil))) msNil)
def mnumber_text_s4 : MS := (msRet (mJs [(m1 gFmt (mVar 1)), (mK (.str "/")), (m1 gFmt (mVar 2))] Str.empty))
def mnumber_text : MS := (msSeq mnumber_text_s0 (msSeq mnumber_text_s1 (msSeq mnumber_text_s2 (msSeq mnumber_text_s3 mnumber_text_s4))))
def Fnumber_text : FN := runM 3 1 [] false mnumber_text
def m_law_text : MS := (msSeq (msIf (mTest (m2 gEq (m2 gIx (mVar 0) (mK (.int 1))) (mK (.int 1)))) (msRet (mN gStr (mCons (m2 gIx (mVar 0) (mK (.int 0))) mNil))) msNil) (msRet (m2 gAdd (m2 gAdd (mN gStr (mCons (m2 gIx (mVar 0) (mK (.int 0))) mNil)) (mK (.str "/"))) (mN gStr (mCons (m2 gIx (mVar 0) (mK (.int 1))) mNil)))))
def F_law_text : FN := runM 1 1 [] false m_law_text
def minteger_in_e0 : ME := (m2 gIn (mVar 2) (mK (.str "0123456789")))
def minteger_in : MS := (msSeq (msAsg (mIf (mTest (m2 gEq (mSl (.ex (mVar 0)) mNoP (mPart (mK (.int 1)))) (mK (.str "-")))) (mSl (.ex (mVar 0)) (mPart (mK (.int 1))) mNoP) (mVar 0)) (mgName 1)) (msSeq (msIf (mOrT (mNotT (mTest (mChain gLe gLe (mK (.int 1)) (mN gLen (mCons (mVar 1) mNil)) (mK (.int 400))))) (mNotT (mTru (mN gAll (mCons (mLc [2] (mIter (mVar 1)) (mgName 2) mYes minteger_in_e0) mNil))))) (msRet (mK .non)) msNil) (msSeq (msIf (mTest (m2 gNe (mN gStr (mCons (mN gInt (mCons (mVar 0) mNil)) mNil)) (mVar 0))) (msRet (mK .non)) msNil) (msRet (mN gInt (mCons (mVar 0) mNil))))))
def Finteger_in : FN := runM 3 1 [] false minteger_in
def mread_number_s0 : MS := (msAsg (mM gSplit (mVar 0) (mCons (mK (.str "/")) mNil)) (mgName 1))
def mread_number_s1 : MS := (msIf (mTest (m2 gGt (mN gLen (mCons (mVar 1) mNil)) (mK (.int 2)))) (msRaiseX "Malformed" "at" "word " (mCons (mK (.int 0)) mNil)) msNil)
def mread_number_s2 : MS := (msAsg (mCall Q.Finteger_in (mCons (m2 gIx (mVar 1) (mK (.int 0))) mNil)) (mgName 2))
def mread_number_s3 : MS := (msAsg (mIf (mTest (m2 gEq (mN gLen (mCons (mVar 1) mNil)) (mK (.int 1)))) (mK (.int 1)) (mCall Q.Finteger_in (mCons (m2 gIx (mVar 1) (mK (.int 1))) mNil))) (mgName 3))
def mread_number_s4 : MS := (msIf (mOrT (mTest (m2 gIs (mVar 2) (mK .non))) (mOrT (mTest (m2 gIs (mVar 3) (mK .non))) (mOrT (mAndT (mTest (m2 gEq (mN gLen (mCons (mVar 1) mNil)) (mK (.int 2)))) (mTest (m2 gLt (mVar 3) (mK (.int 2))))) (mNotT (mTru (mCall Q.Fis_number (mCons (mN gTup (mCons (mVar 2) (mCons (mVar 3) mNil))) mNil))))))) (msRaiseX "Malformed" "at" "word " (mCons (mK (.int 0)) mNil)) msNil)
def mread_number_s5 : MS := (msRet (mN gTup (mCons (mVar 2) (mCons (mVar 3) mNil))))
def mread_number : MS := (msSeq mread_number_s0 (msSeq mread_number_s1 (msSeq mread_number_s2 (msSeq mread_number_s3 (msSeq mread_number_s4 mread_number_s5)))))
def Fread_number : FN := runM 4 1 [] false mread_number
def m_law_spoilt_v2_s0 : MS := (msAsg (m2 gMod (mN gInt (mCons (mCallIo Q.F_law_next 0 mNil) mNil)) (m2 gAdd (mN gLen (mCons (mVar 1) mNil)) (mK (.int 1)))) (mgName 2))
def m_law_spoilt_v2_s1 : MS := (msAsg (m2 gIx (mK (.str "0123456789-+/. a")) (m2 gMod (mN gInt (mCons (mCallIo Q.F_law_next 0 mNil) mNil)) (mK (.int 16)))) (mgName 3))
def m_law_spoilt_v2_s2 : MS := (msAsg (m2 gMod (mN gInt (mCons (mCallIo Q.F_law_next 0 mNil) mNil)) (mK (.int 3))) (mgName 4))
def m_law_spoilt_v2_s3 : MS := (msIf (mTest (m2 gEq (mVar 4) (mK (.int 0)))) (msRet (m2 gAdd (m2 gAdd (mSl (.ex (mVar 1)) mNoP (mPart (mVar 2))) (mVar 3)) (mSl (.ex (mVar 1)) (mPart (mVar 2)) mNoP))) msNil)
def m_law_spoilt_v2_s4 : MS := (msIf (mTest (m2 gEq (mVar 4) (mK (.int 1)))) (msRet (m2 gAdd (m2 gAdd (mSl (.ex (mVar 1)) mNoP (mPart (mVar 2))) (mVar 3)) (mSl (.ex (mVar 1)) (mPart (m2 gAdd (mVar 2) (mK (.int 1)))) mNoP))) msNil)
def m_law_spoilt_v2_s5 : MS := (msRet (m2 gAdd (mSl (.ex (mVar 1)) mNoP (mPart (mVar 2))) (mSl (.ex (mVar 1)) (mPart (m2 gAdd (mVar 2) (mK (.int 1)))) mNoP)))
def m_law_spoilt_v2 : MS := (msSeq m_law_spoilt_v2_s0 (msSeq m_law_spoilt_v2_s1 (msSeq m_law_spoilt_v2_s2 (msSeq m_law_spoilt_v2_s3 (msSeq m_law_spoilt_v2_s4 m_law_spoilt_v2_s5)))))
def F_law_spoilt_v2 : FN := runM 5 2 [] false m_law_spoilt_v2
def mcleared_b0 : MS := (msExpr (mCall Q.Fcheck_number (mCons (mVar 1) mNil)))
def mcleared : MS := (msSeq (msFor (mIter (mVar 0)) (mgName 1) mcleared_b0) (msRet (mCall Q.Fcleared_row (mCons (mVar 0) mNil))))
def Fcleared : FN := runM 2 1 [] false mcleared
def m_law_cleared_v2_s0 : MS := (msAsg (mK (.int 1)) (mgName 1))
def m_law_cleared_v2_b1 : MS := (msAsg (m2 gMul (m2 gDiv (mVar 1) (mCall Q.F_law_divisor (mCons (mVar 1) (mCons (m2 gIx (mVar 2) (mK (.int 1))) mNil)))) (m2 gIx (mVar 2) (mK (.int 1)))) (mgName 1))
def m_law_cleared_v2_s2 : MS := (msFor (mIter (mVar 0)) (mgName 2) m_law_cleared_v2_b1)
def m_law_cleared_v2_e3 : ME := (m2 gMul (m2 gIx (mVar 2) (mK (.int 0))) (m2 gDiv (mVar 1) (m2 gIx (mVar 2) (mK (.int 1)))))
def m_law_cleared_v2_s4 : MS := (msAsg (mLc [2] (mIter (mVar 0)) (mgName 2) mYes m_law_cleared_v2_e3) (mgName 3))
def m_law_cleared_v2_s5 : MS := (msAsg (mK (.int 0)) (mgName 4))
def m_law_cleared_v2_b6 : MS := (msAsg (mCall Q.F_law_divisor (mCons (mVar 4) (mCons (mVar 5) mNil))) (mgName 4))
def m_law_cleared_v2_s7 : MS := (msFor (mIter (mVar 3)) (mgName 5) m_law_cleared_v2_b6)
def m_law_cleared_v2_s8 : MS := (msIf (mTest (m2 gEq (mVar 4) (mK (.int 0)))) (msRet (mN gTuple (mCons (mVar 3) mNil))) msNil)
def m_law_cleared_v2_s9 : MS := (msRet (mN gTuple (mCons (mLc [5] (mIter (mVar 3)) (mgName 5) mYes (m2 gDiv (mVar 5) (mVar 4))) mNil)))
def m_law_cleared_v2 : MS := (msSeq m_law_cleared_v2_s0 (msSeq m_law_cleared_v2_s2 (msSeq m_law_cleared_v2_s4 (msSeq m_law_cleared_v2_s5 (msSeq m_law_cleared_v2_s7 (msSeq m_law_cleared_v2_s8 m_law_cleared_v2_s9))))))
def F_law_cleared_v2 : FN := runM 6 1 [] false m_law_cleared_v2
def m_law_integer_in_e0 : ME := (m2 gIn (mVar 2) (mK (.str "0123456789")))
def m_law_integer_in : MS := (msSeq (msAsg (mIf (mTest (m2 gEq (mSl (.ex (mVar 0)) mNoP (mPart (mK (.int 1)))) (mK (.str "-")))) (mSl (.ex (mVar 0)) (mPart (mK (.int 1))) mNoP) (mVar 0)) (mgName 1)) (msSeq (msIf (mOrT (mTest (m2 gEq (mVar 1) (mK (.str "")))) (mOrT (mTest (m2 gGt (mN gLen (mCons (mVar 1) mNil)) (mK (.int 400)))) (mNotT (mTru (mN gAll (mCons (mLc [2] (mIter (mVar 1)) (mgName 2) mYes m_law_integer_in_e0) mNil)))))) (msRet (mK .non)) msNil) (msSeq (msIf (mAndT (mTest (m2 gEq (m2 gIx (mVar 1) (mK (.int 0))) (mK (.str "0")))) (mTest (m2 gNe (mVar 0) (mK (.str "0"))))) (msRet (mK .non)) msNil) (msRet (mN gInt (mCons (mVar 0) mNil))))))
def F_law_integer_in : FN := runM 3 1 [] false m_law_integer_in
def m_law_read_s0 : MS := (msAsg (mM gSplit (mVar 0) (mCons (mK (.str "/")) mNil)) (mgName 1))
def m_law_read_e1 : ME := (mCall Q.F_law_integer_in (mCons (mVar 3) mNil))
def m_law_read_s2 : MS := (msAsg (mLc [3] (mIter (mVar 1)) (mgName 3) mYes m_law_read_e1) (mgName 2))
def m_law_read_s3 : MS := (msIf (mOrT (mTest (m2 gGt (mN gLen (mCons (mVar 1) mNil)) (mK (.int 2)))) (mTest (m2 gIn (mK .non) (mVar 2)))) (msRet (mK (.str "!0"))) msNil)
def m_law_read_s4 : MS := (msIf (mTest (m2 gEq (mN gLen (mCons (mVar 1) mNil)) (mK (.int 1)))) (msRet (mN gTup (mCons (m2 gIx (mVar 2) (mK (.int 0))) (mCons (mK (.int 1)) mNil)))) msNil)
def m_law_read_s5 : MS := (msIf (mOrT (mTest (m2 gLt (m2 gIx (mVar 2) (mK (.int 1))) (mK (.int 2)))) (mTest (m2 gNe (mCall Q.F_law_divisor (mCons (m2 gIx (mVar 2) (mK (.int 0))) (mCons (m2 gIx (mVar 2) (mK (.int 1))) mNil))) (mK (.int 1))))) (msRet (mK (.str "!0"))) msNil)
def m_law_read_s6 : MS := (msRet (mN gTup (mCons (m2 gIx (mVar 2) (mK (.int 0))) (mCons (m2 gIx (mVar 2) (mK (.int 1))) mNil))))
def m_law_read : MS := (msSeq m_law_read_s0 (msSeq m_law_read_s2 (msSeq m_law_read_s3 (msSeq m_law_read_s4 (msSeq m_law_read_s5 m_law_read_s6)))))
def F_law_read : FN := runM 4 1 [] false m_law_read
end Q
namespace Q
open DL L2 PySem PySem.Spec PyProof.Rows
theorem e_draws : F_law_draws = qDraws := rfl
theorem e_next : F_law_next = qNext := rfl
theorem e_div : Fdivisor = qDivisor := rfl
theorem e_ldiv : F_law_divisor = qLDivisor := rfl
theorem e_llow : F_law_lowest = qLLowest := rfl
theorem e_isn : Fis_number = qIsNumber := rfl
def fr (q : Rat) : D := .tup [.int q.num, .int (q.den : Int)]
theorem low_dvd (a : Int) {b : Int} (h : b ≠ 0) : a = (low a b).1 * sgcd a b ∧ b = (low a b).2 * sgcd a b := by
  have d1 : sgcd a b ∣ a := by
    have := Int.gcd_dvd_left a b
    unfold sgcd
    split
    · exact Int.neg_dvd.mpr this
    · exact this
  have d2 : sgcd a b ∣ b := by
    have := Int.gcd_dvd_right a b
    unfold sgcd
    split
    · exact Int.neg_dvd.mpr this
    · exact this
  exact ⟨(Int.fdiv_mul_cancel d1).symm, (Int.fdiv_mul_cancel d2).symm⟩
theorem isNum_split {a b : Int} (h : isNum a b = true) : 1 ≤ b ∧ Int.gcd a b = 1 := by
  unfold isNum at h
  rw [Bool.and_eq_true] at h
  exact ⟨of_decide_eq_true h.1, of_decide_eq_true h.2⟩
theorem num_rat {a b : Int} (h : isNum a b = true) : ∃ q : Rat, q.num = a ∧ (q.den : Int) = b := by
  obtain ⟨h1, h2⟩ := isNum_split h
  have e : ((b.toNat : Nat) : Int) = b := Int.toNat_of_nonneg (by omega)
  refine ⟨⟨a, b.toNat, by omega, ?_⟩, rfl, e⟩
  have : Int.gcd a b = Nat.gcd a.natAbs b.toNat := by
    rw [Int.gcd_eq_natAbs_gcd_natAbs]
    congr 1
    omega
  rw [this] at h2
  exact h2
theorem rat_num (q : Rat) : isNum q.num (q.den : Int) = true := by
  have h1 := q.den_pos
  have h2 := q.reduced
  unfold isNum
  rw [Bool.and_eq_true]
  refine ⟨decide_eq_true (by omega), decide_eq_true ?_⟩
  rw [Int.gcd_eq_natAbs_gcd_natAbs]
  exact h2
theorem low_fr (a : Int) {b : Int} (h : b ≠ 0) : tupI (low a b) = fr (Rat.divInt a b) := by
  obtain ⟨q, h1, h2⟩ := num_rat (low_num (a := a) h)
  obtain ⟨d1, d2⟩ := low_dvd a h
  have e : q = Rat.divInt a b := by
    rw [← Rat.num_divInt_den q]
    have hd : (q.den : Int) ≠ 0 := by have := q.den_pos; omega
    refine (Rat.divInt_eq_divInt_iff hd h).mpr ?_
    rw [h1, h2]
    generalize (low a b).1 = x at *
    generalize (low a b).2 = y at *
    generalize sgcd a b = s at *
    rw [d2, d1]
    simp only [Int.mul_comm, Int.mul_left_comm]
  rw [← e]
  unfold fr tupI
  rw [h1, h2]
def Sz (k : Nat) (q : Rat) : Prop := q.num.natAbs < 2 ^ k ∧ q.den < 2 ^ k
theorem Sz.up {i j : Nat} {q : Rat} (h : Sz i q) (l : i ≤ j) : Sz j q :=
  ⟨sm_up h.1 l, Nat.lt_of_lt_of_le h.2 (Nat.pow_le_pow_right (by decide) l)⟩
theorem Sz.d {k : Nat} {q : Rat} (h : Sz k q) : ((q.den : Int)).natAbs < 2 ^ k := h.2
theorem fr_low {a b : Int} (h : b ≠ 0) {k : Nat} (h1 : a.natAbs < 2 ^ k) (h2 : b.natAbs < 2 ^ k) : Sz k (Rat.divInt a b) := by
  have e := low_fr a h
  have s := low_sm h1 h2
  unfold fr tupI at e
  injection e with e
  injection e with e1 e2
  injection e2 with e2 _
  injection e1 with e1
  injection e2 with e2
  refine ⟨by rw [← e1]; exact s.1, ?_⟩
  have := s.2
  rw [e2] at this
  exact this
theorem dne (q : Rat) : (q.den : Int) ≠ 0 := by have := q.den_pos; omega
theorem add_div (p q : Rat) : p + q = Rat.divInt (p.num * (q.den : Int) + q.num * (p.den : Int)) ((p.den : Int) * (q.den : Int)) := by
  conv => lhs; rw [← Rat.num_divInt_den p, ← Rat.num_divInt_den q]
  rw [Rat.divInt_add_divInt _ _ (dne p) (dne q)]
theorem Sz.add {i j : Nat} {p q : Rat} (h1 : Sz i p) (h2 : Sz j q) : Sz (i + j + 1) (p + q) := by
  rw [add_div]
  refine fr_low (Int.mul_ne_zero (dne p) (dne q)) ?_ (sm_up (sm_mul h1.d h2.d) (by omega))
  have a := sm_mul h1.1 h2.d
  have b := sm_mul h2.1 h1.d
  rw [Nat.add_comm j i] at b
  exact sm_add a b
theorem Sz.int {k : Nat} {a : Int} (h : a.natAbs < 2 ^ k) (hk : 0 < k) : Sz k (a : Rat) := ⟨h, Nat.one_lt_two_pow (by omega)⟩
theorem Sz.zero : Sz 1 0 := ⟨by decide, by decide⟩
theorem ix0 (q : Rat) : gIx (fr q) (.int 0) = some (.int q.num) := rfl
theorem ix1 (q : Rat) : gIx (fr q) (.int 1) = some (.int (q.den : Int)) := rfl
theorem mulS {a b : Int} {i j : Nat} (h1 : a.natAbs < 2 ^ i) (h2 : b.natAbs < 2 ^ j) (h : i + j ≤ 8000) : gMul (.int a) (.int b) = some (.int (a * b)) :=
  gMul_sm (i := i + 1) (j := j + 1) (sm_up h1 (by omega)) (sm_up h2 (by omega)) (by omega) (by omega) (by omega)
theorem s8 {a : Int} {i : Nat} (h : a.natAbs < 2 ^ i) (l : i ≤ 8000) : a.natAbs < 2 ^ 8000 := sm_up h l
section
variable {i j : Nat} {p q : Rat}
theorem v_llowest {a b : Int} (h : b ≠ 0) (hb : b.natAbs < 2 ^ 8000) (ρ : En) : (F_law_lowest [.int a, .int b]).R ρ = .ok (fr (Rat.divInt a b)) ρ := by
  rw [e_llow, ← low_fr a h]
  exact qLLowest_v h hb ρ
end
end Q
namespace Q
open DL L2 PySem PySem.Spec PyProof.Rows
theorem restE_wipe {ρ ρ2 : En} {vs : List Nat} (h : wipeE ρ2 vs = wipeE ρ vs) : restE ρ vs ρ2 = ρ := by
  have hl : ρ2.length = ρ.length := by rw [← wipeE_len ρ2 vs, h, wipeE_len]
  apply List.ext_getElem?
  intro i
  by_cases m : i ∈ vs
  · exact restE_in hl m
  · rw [restE_out m, ← wipeE_out m, h, wipeE_out m]
section
variable {α : Type} {vs : List Nat} {g : MG} {mt : MT} {me : ME} {ρ ρ0 : En} {mi : En → R (List D)} {enc : α → D} {st : α → En} {p : α → Bool} {f : α → D}
theorem lc_gen (hw : ∀ a, wipeE (st a) vs = wipeE ρ vs) : ∀ (as : List α) (ρ' : En), (∀ a ∈ as, g (enc a) (wipeE ρ vs) = .ok () (st a)) → (∀ a ∈ as, mt (st a) = .ok (p a) (st a)) → (∀ a ∈ as, p a = true → me (st a) = .ok (f a) (st a)) → wipeE ρ' vs = wipeE ρ vs →
    ∃ ρ'', lcLoop vs g mt me (as.map enc) ρ' = .ok ((as.filter p).map f) ρ'' ∧ wipeE ρ'' vs = wipeE ρ vs
  | [], ρ', _, _, _, e => ⟨ρ', rfl, e⟩
  | a :: as, ρ', hg, ht, he, e => by
    obtain ⟨ρ'', e1, e2⟩ := lc_gen hw as (st a) (fun x hx => hg x (List.mem_cons_of_mem _ hx)) (fun x hx => ht x (List.mem_cons_of_mem _ hx)) (fun x hx => he x (List.mem_cons_of_mem _ hx)) (hw a)
    refine ⟨ρ'', ?_, e2⟩
    rw [List.map_cons, List.filter_cons]
    have h1 := hg a List.mem_cons_self
    have h2 := ht a List.mem_cons_self
    cases hp : p a with
    | true =>
      have h3 := he a List.mem_cons_self hp
      rw [hp] at h2
      simp only [lcLoop, e, h1, h2, h3, e1, if_true, List.map_cons]
    | false =>
      rw [hp] at h2
      simp only [lcLoop, e, h1, h2, e1, Bool.false_eq_true, if_false]
theorem mLc_filt {as : List α} (hi : mi ρ0 = .ok (as.map enc) ρ) (hz : as.length ≤ sizeLine) (hw : ∀ a, wipeE (st a) vs = wipeE ρ vs) (hg : ∀ a ∈ as, g (enc a) (wipeE ρ vs) = .ok () (st a)) (ht : ∀ a ∈ as, mt (st a) = .ok (p a) (st a)) (he : ∀ a ∈ as, p a = true → me (st a) = .ok (f a) (st a)) :
    mLc vs mi g mt me ρ0 = .ok (.lst ((as.filter p).map f)) ρ := by
  obtain ⟨ρ'', e1, e2⟩ := lc_gen (f := f) (p := p) hw as ρ hg ht he rfl
  rw [mLc_ap, hi, bind_ok, e1]
  have hl : ((as.filter p).map f).length ≤ sizeLine := by rw [List.length_map]; exact Nat.le_trans (List.length_filter_le _ _) hz
  simp only [hl, if_true, restE_wipe e2]
theorem mLc_map {as : List α} (hi : mi ρ0 = .ok (as.map enc) ρ) (hz : as.length ≤ sizeLine) (hw : ∀ a, wipeE (st a) vs = wipeE ρ vs) (hg : ∀ a ∈ as, g (enc a) (wipeE ρ vs) = .ok () (st a)) (he : ∀ a ∈ as, me (st a) = .ok (f a) (st a)) :
    mLc vs mi g mYes me ρ0 = .ok (.lst (as.map f)) ρ := by
  have := mLc_filt (p := fun _ => true) (f := f) hi hz hw hg (mt := mYes) (fun _ _ => rfl) (fun a ha _ => he a ha)
  have e : as.filter (fun _ => true) = as := List.filter_eq_self.mpr fun _ _ => rfl
  rw [e] at this
  exact this
variable {σ : Type} {mb : MS} {J : List α → σ → En → Prop} {F : σ → α → σ}
end
def Pd : Nat → D → Prop
  | _, .int _ => True
  | _, .non => True
  | _, .str x => PyData.canLay0 (.str x) = true
  | n + 1, .tup l => ∀ d ∈ l, Pd n d
  | n + 1, .lst l => ∀ d ∈ l, Pd n d
  | _, _ => False
theorem pyAll_nil : pyAll [] = some [] := by unfold pyAll; rfl
theorem py_all {n : Nat} (ih : ∀ d, Pd n d → ∃ x, d.py = some x ∧ x.canLay0 = true ∧ x.depth ≤ n + 1) : ∀ l : List D, (∀ d ∈ l, Pd n d) → ∃ xs, pyAll l = some xs ∧ PyData.canLayAll0 xs = true ∧ PyData.depthAll xs ≤ n + 1
  | [], _ => ⟨[], by unfold pyAll; rfl, rfl, by simp [PyData.depthAll]⟩
  | d :: l, h => by
    obtain ⟨x, e1, e2, e3⟩ := ih d (h d List.mem_cons_self)
    obtain ⟨xs, f1, f2, f3⟩ := py_all ih l fun z hz => h z (List.mem_cons_of_mem _ hz)
    refine ⟨x :: xs, by unfold pyAll; rw [e1, f1]; rfl, by simp [PyData.canLayAll0, e2, f2], ?_⟩
    simp only [PyData.depthAll]
    omega
theorem Pd.py : ∀ (n : Nat) (d : D), Pd n d → ∃ x, d.py = some x ∧ x.canLay0 = true ∧ x.depth ≤ n + 1
  | n, .int i, _ => ⟨.int i, by unfold D.py; rfl, rfl, by simp [PyData.depth]⟩
  | n, .non, _ => ⟨.none, by unfold D.py; rfl, rfl, by simp [PyData.depth]⟩
  | n, .str x, h => ⟨.str x, by unfold D.py; rfl, by unfold Pd at h; exact h, by simp [PyData.depth]⟩
  | n + 1, .tup l, h => by
    unfold Pd at h
    obtain ⟨xs, e1, e2, e3⟩ := py_all (Pd.py n) l h
    refine ⟨.tuple xs, by unfold D.py; rw [e1]; rfl, by unfold PyData.canLay0; exact e2, ?_⟩
    simp only [PyData.depth]
    omega
  | n + 1, .lst l, h => by
    unfold Pd at h
    obtain ⟨xs, e1, e2, e3⟩ := py_all (Pd.py n) l h
    refine ⟨.list xs, by unfold D.py; rw [e1]; rfl, by unfold PyData.canLay0; exact e2, ?_⟩
    simp only [PyData.depth]
    omega
  | 0, .tup l, h => by unfold Pd at h; exact h.elim
  | 0, .lst l, h => by unfold Pd at h; exact h.elim
  | 0, .bl _, h => by unfold Pd at h; exact h.elim
  | n + 1, .bl _, h => by unfold Pd at h; exact h.elim
  | 0, .scr _, h => by unfold Pd at h; exact h.elim
  | n + 1, .scr _, h => by unfold Pd at h; exact h.elim
  | 0, .fn _, h => by unfold Pd at h; exact h.elim
  | n + 1, .fn _, h => by unfold Pd at h; exact h.elim
  | 0, .obj _ _, h => by unfold Pd at h; exact h.elim
  | n + 1, .obj _ _, h => by unfold Pd at h; exact h.elim
  | 0, .exn _ _, h => by unfold Pd at h; exact h.elim
  | n + 1, .exn _ _, h => by unfold Pd at h; exact h.elim
  | 0, .dct _ _ _, h => by unfold Pd at h; exact h.elim
  | n + 1, .dct _ _ _, h => by unfold Pd at h; exact h.elim
theorem py_tup {l : List D} {y : PyData} (e : D.py (.tup l) = some y) : ∃ ys, y = .tuple ys ∧ pyAll l = some ys := by
  unfold D.py at e
  cases h : pyAll l with
  | none => rw [h] at e; cases e
  | some z => rw [h] at e; cases e; exact ⟨z, rfl, rfl⟩
theorem py_lst {l : List D} {y : PyData} (e : D.py (.lst l) = some y) : ∃ ys, y = .list ys ∧ pyAll l = some ys := by
  unfold D.py at e
  cases h : pyAll l with
  | none => rw [h] at e; cases e
  | some z => rw [h] at e; cases e; exact ⟨z, rfl, rfl⟩
theorem py_int {i : Int} {y : PyData} (e : D.py (.int i) = some y) : y = .int i := by unfold D.py at e; cases e; rfl
theorem py_non {y : PyData} (e : D.py .non = some y) : y = .none := by unfold D.py at e; cases e; rfl
theorem py_str {i : Str} {y : PyData} (e : D.py (.str i) = some y) : y = .str i := by unfold D.py at e; cases e; rfl
theorem py_cons {d : D} {l : List D} {y : List PyData} (e : pyAll (d :: l) = some y) : ∃ z zs, y = z :: zs ∧ d.py = some z ∧ pyAll l = some zs := by
  unfold pyAll at e
  cases h : d.py with
  | none => rw [h] at e; cases e
  | some z =>
    cases h2 : pyAll l with
    | none => rw [h, h2] at e; cases e
    | some zs => rw [h, h2] at e; cases e; exact ⟨z, zs, rfl, rfl, rfl⟩
theorem py_nil {y : List PyData} (e : pyAll [] = some y) : y = [] := by unfold pyAll at e; cases e; rfl
def EqvOk (n : Nat) : Prop := ∀ (m : Nat) (a b : D) (x y : PyData), Pd n a → Pd m b → a.py = some x → b.py = some y → (PyData.eqv x y = true ↔ a = b)
theorem eqvAll_pd {n : Nat} (ih : EqvOk n) (m : Nat) : ∀ (a b : List D) (x y : List PyData), (∀ d ∈ a, Pd n d) → (∀ d ∈ b, Pd m d) → pyAll a = some x → pyAll b = some y → (PyData.eqvAll x y = true ↔ a = b)
  | [], [], x, y, _, _, ea, eb => by rw [py_nil ea, py_nil eb]; simp [PyData.eqvAll]
  | [], b :: bs, x, y, _, hb, ea, eb => by
    obtain ⟨z, zs, rfl, _⟩ := py_cons eb
    rw [py_nil ea]; simp [PyData.eqvAll]
  | a :: as, [], x, y, _, hb, ea, eb => by
    obtain ⟨z, zs, rfl, _⟩ := py_cons ea
    rw [py_nil eb]; simp [PyData.eqvAll]
  | a :: as, b :: bs, x, y, ha, hb, ea, eb => by
    obtain ⟨z, zs, rfl, h, h2⟩ := py_cons ea
    obtain ⟨z', zs', rfl, h3, h4⟩ := py_cons eb
    have e1 := ih m a b z z' (ha a List.mem_cons_self) (hb b List.mem_cons_self) h h3
    have e2 := eqvAll_pd ih m as bs zs zs' (fun d hd => ha d (List.mem_cons_of_mem _ hd)) (fun d hd => hb d (List.mem_cons_of_mem _ hd)) h2 h4
    simp only [PyData.eqvAll, Bool.and_eq_true, List.cons.injEq]
    rw [e1, e2]
theorem pd_cases {n : Nat} {d : D} (h : Pd n d) : (∃ i, d = .int i) ∨ d = .non ∨ (∃ z, d = .str z) ∨ (∃ m l, n = m + 1 ∧ d = .tup l ∧ ∀ x ∈ l, Pd m x) ∨ (∃ m l, n = m + 1 ∧ d = .lst l ∧ ∀ x ∈ l, Pd m x) := by
  cases d with
  | int i => exact .inl ⟨i, rfl⟩
  | non => exact .inr (.inl rfl)
  | str z => exact .inr (.inr (.inl ⟨z, rfl⟩))
  | tup l =>
    cases n with
    | zero => unfold Pd at h; exact h.elim
    | succ n => unfold Pd at h; exact .inr (.inr (.inr (.inl ⟨n, l, rfl, rfl, h⟩)))
  | lst l =>
    cases n with
    | zero => unfold Pd at h; exact h.elim
    | succ n => unfold Pd at h; exact .inr (.inr (.inr (.inr ⟨n, l, rfl, rfl, h⟩)))
  | bl b => cases n <;> (unfold Pd at h; exact h.elim)
  | scr b => cases n <;> (unfold Pd at h; exact h.elim)
  | fn b => cases n <;> (unfold Pd at h; exact h.elim)
  | obj b c => cases n <;> (unfold Pd at h; exact h.elim)
  | exn b c => cases n <;> (unfold Pd at h; exact h.elim)
  | dct b c d => cases n <;> (unfold Pd at h; exact h.elim)
theorem eqv_pd : ∀ n, EqvOk n := by
  intro n
  induction n with
  | zero =>
    intro m a b x y ha hb ea eb
    rcases pd_cases ha with ⟨i, rfl⟩ | rfl | ⟨i, rfl⟩ | ⟨m', l, e, _⟩ | ⟨m', l, e, _⟩
    case inr.inr.inr.inl => omega
    case inr.inr.inr.inr => omega
    all_goals first | (have ex := py_int ea) | (have ex := py_non ea) | (have ex := py_str ea)
    all_goals subst ex
    all_goals
      rcases pd_cases hb with ⟨j, rfl⟩ | rfl | ⟨j, rfl⟩ | ⟨m', l, e, rfl, _⟩ | ⟨m', l, e, rfl, _⟩
    all_goals first
      | (obtain ⟨ys, rfl, _⟩ := py_tup eb) | (obtain ⟨ys, rfl, _⟩ := py_lst eb) | (have ey := py_int eb; subst ey) | (have ey := py_non eb; subst ey) | (have ey := py_str eb; subst ey)
    all_goals simp [PyData.eqv]
  | succ n ih =>
    intro m a b x y ha hb ea eb
    rcases pd_cases ha with ⟨i, rfl⟩ | rfl | ⟨i, rfl⟩ | ⟨m', l, e, rfl, hl⟩ | ⟨m', l, e, rfl, hl⟩
    case inr.inr.inr.inl =>
      obtain rfl : m' = n := by omega
      obtain ⟨xs, rfl, hx⟩ := py_tup ea
      rcases pd_cases hb with ⟨j, rfl⟩ | rfl | ⟨j, rfl⟩ | ⟨m2, l2, e2, rfl, hl2⟩ | ⟨m2, l2, e2, rfl, hl2⟩
      case inr.inr.inr.inl =>
        obtain ⟨ys, rfl, hy⟩ := py_tup eb
        simp only [PyData.eqv, D.tup.injEq]
        exact eqvAll_pd ih m2 l l2 xs ys hl hl2 hx hy
      all_goals first
        | (obtain ⟨ys, rfl, _⟩ := py_lst eb) | (have ey := py_int eb; subst ey) | (have ey := py_non eb; subst ey) | (have ey := py_str eb; subst ey)
      all_goals simp [PyData.eqv]
    case inr.inr.inr.inr =>
      obtain rfl : m' = n := by omega
      obtain ⟨xs, rfl, hx⟩ := py_lst ea
      rcases pd_cases hb with ⟨j, rfl⟩ | rfl | ⟨j, rfl⟩ | ⟨m2, l2, e2, rfl, hl2⟩ | ⟨m2, l2, e2, rfl, hl2⟩
      case inr.inr.inr.inr =>
        obtain ⟨ys, rfl, hy⟩ := py_lst eb
        simp only [PyData.eqv, D.lst.injEq]
        exact eqvAll_pd ih m2 l l2 xs ys hl hl2 hx hy
      all_goals first
        | (obtain ⟨ys, rfl, _⟩ := py_tup eb) | (have ey := py_int eb; subst ey) | (have ey := py_non eb; subst ey) | (have ey := py_str eb; subst ey)
      all_goals simp [PyData.eqv]
    all_goals first | (have ex := py_int ea) | (have ex := py_non ea) | (have ex := py_str ea)
    all_goals subst ex
    all_goals
      rcases pd_cases hb with ⟨j, rfl⟩ | rfl | ⟨j, rfl⟩ | ⟨m', l, e, rfl, _⟩ | ⟨m', l, e, rfl, _⟩
    all_goals first
      | (obtain ⟨ys, rfl, _⟩ := py_tup eb) | (obtain ⟨ys, rfl, _⟩ := py_lst eb) | (have ey := py_int eb; subst ey) | (have ey := py_non eb; subst ey) | (have ey := py_str eb; subst ey)
    all_goals simp [PyData.eqv]
section
variable {n m : Nat} {a b : D} {P : Prop} [Decidable P]
theorem eqD_pd (ha : Pd n a) (hb : Pd m b) (hn : n ≤ 60) (hm : m ≤ 60) (h : a = b ↔ P) : eqD a b = some (decide P) := by
  obtain ⟨x, e1, e2, e3⟩ := ha.py
  obtain ⟨y, f1, f2, f3⟩ := hb.py
  have sx : SeqAt.shaped x = true := by unfold SeqAt.shaped; rw [Bool.and_eq_true]; exact ⟨e2, decide_eq_true (by omega)⟩
  have sy : SeqAt.shaped y = true := by unfold SeqAt.shaped; rw [Bool.and_eq_true]; exact ⟨f2, decide_eq_true (by omega)⟩
  have key := eqv_pd n m a b x y ha hb e1 f1
  have kd : PyData.eqv x y = decide P := by
    rw [Bool.eq_iff_iff, key, decide_eq_true_iff, h]
  unfold eqD
  split
  · unfold D.py at e1 f1; cases e1; cases f1; rw [← kd]; simp only [PyData.eqv] <;> first | rfl | (rw [Bool.eq_iff_iff]; simp)
  · unfold D.py at e1 f1; cases e1; cases f1; rw [← kd]; simp only [PyData.eqv] <;> first | rfl | (rw [Bool.eq_iff_iff]; simp)
  · unfold D.py at e1 f1; cases e1; cases f1; rw [← kd]; simp only [PyData.eqv] <;> first | rfl | (rw [Bool.eq_iff_iff]; simp)
  · unfold D.py at e1 f1; cases e1; cases f1; rw [← kd]; simp only [PyData.eqv] <;> first | rfl | (rw [Bool.eq_iff_iff]; simp)
  · rw [e1, f1]
    show (if _ then _ else _) = _
    rw [if_pos ⟨sx, sy⟩, kd]
theorem gNe_pd (ha : Pd n a) (hb : Pd m b) (hn : n ≤ 60) (hm : m ≤ 60) (h : a = b ↔ P) : gNe a b = some (.bl (!decide P)) := by
  unfold gNe
  rw [eqD_pd ha hb hn hm h]
  rfl
end
theorem asBls_map {α : Type} (f : α → Bool) : ∀ l : List α, asBls (l.map fun a => .bl (f a)) = some (l.map f)
  | [] => rfl
  | a :: l => by
    rw [List.map_cons]
    unfold asBls
    rw [asBls_map f l]
    rfl
end Q
namespace Q
open DL L2 PySem PySem.Spec PyProof.Rows
def pl (p : List Int) : D := .tup (p.map .int)
def Sq (d : D) (l : List D) : Prop := d = .tup l ∨ d = .lst l
theorem Sq.tup (l : List D) : Sq (.tup l) l := .inl rfl
theorem Sq.lst (l : List D) : Sq (.lst l) l := .inr rfl
section
variable {d : D} {l : List D} (h : Sq d l)
include h
theorem Sq.len : gLen [d] = some (.int l.length) := by rcases h with rfl | rfl <;> rfl
end
def gcdL (xs : List Int) (g : Nat) : Nat := xs.foldl (fun g a => Int.gcd g a) g
def isPl (n : Nat) (xs : List Int) : Bool := decide (xs.length = n + 1) && xs.all (fun a => decide (a.natAbs ≤ 1000)) && decide (gcdL xs 0 = 1) && (xs.take n).any (fun a => decide (a ≠ 0))
end Q
namespace Q
open DL L2 PySem PySem.Spec PyProof.Rows
theorem szv : sizeLine = 16777216 := by decide
end Q
namespace Q
open DL L2 PySem PySem.Spec PyProof.Rows
abbrev S := SX.S
abbrev sD (l : List Nat) : D := .str (S l)
theorem S_inj {a b : List Nat} (h : S a = S b) : a = b := by
  have := congrArg (fun x : Str => x.cps.toList) h
  simpa [S, SX.S] using this
theorem chars_S (l : List Nat) : chars (S l) = l.map fun c => sD [c] := rfl
theorem S_len (l : List Nat) : (S l).length = l.length := by simp [S, SX.S, Str.length]
theorem S_app (a b : List Nat) : S a ++ S b = S (a ++ b) := by
  refine TL.ext_tl ?_
  rw [TL.tl_append]
theorem gEq_S (a b : List Nat) : gEq (sD a) (sD b) = some (.bl (decide (a = b))) := by
  show some (D.bl (decide (S a = S b))) = _
  congr 2
  rw [decide_eq_decide]
  exact ⟨S_inj, fun h => by rw [h]⟩
theorem gNe_S (a b : List Nat) : gNe (sD a) (sD b) = some (.bl (!decide (a = b))) := by
  show some (D.bl (!decide (S a = S b))) = _
  congr 3
  rw [decide_eq_decide]
  exact ⟨S_inj, fun h => by rw [h]⟩
theorem in_one (c : Nat) (a : List Nat) : gIn (sD [c]) (sD a) = some (.bl (decide (c ∈ a))) := by
  show some (D.bl (inStr (S [c]) (S a))) = _
  have := SX.in_one a c
  unfold inStr
  rw [show (!(Builtin.Str.occurrences (S a) (S [c]) 0 (S a).length 1).isEmpty) = decide (c ∈ a) from this]
theorem gAdd_S (a b : List Nat) (h : a.length + b.length ≤ sizeLine) : gAdd (sD a) (sD b) = some (sD (a ++ b)) := by
  show (if (S a).length + (S b).length ≤ sizeLine then some (D.str (S a ++ S b)) else none) = _
  rw [S_len, S_len, if_pos h, S_app]
end Q
namespace Q
open DL L2 PySem PySem.Spec PyProof.Rows
def PO (n : Nat) (ps : List (List Int)) : D := .obj "Planes" [("n", .int n), ("kept", .tup (ps.map pl))]
def frs (q : List Rat) : D := .tup (q.map fr)
def dotR (a b : List Rat) : Rat := (a.zip b).foldl (fun t p => t + p.1 * p.2) 0
end Q
namespace Q
open DL L2 PySem PySem.Spec PyProof.Rows
def heightR (n : Nat) (p : List Int) (q : List Rat) : Rat := dotR ((p.take n).map fun a : Int => (a : Rat)) q + ((-(p.getD n 0) : Int) : Rat)
theorem isPl_len {n : Nat} {p : List Int} (h : isPl n p = true) : p.length = n + 1 ∧ (∀ a ∈ p, a.natAbs ≤ 1000) := by
  unfold isPl at h
  simp only [Bool.and_eq_true, decide_eq_true_eq, List.all_eq_true] at h
  exact ⟨h.1.1.1, h.1.1.2⟩
def Pi (k n : Nat) (p : List Int) : Prop := p.length = n + 1 ∧ ∀ a ∈ p, a.natAbs < 2 ^ k
theorem Pi.of {n : Nat} {p : List Int} (h : isPl n p = true) : Pi 10 n p := by
  obtain ⟨h1, h2⟩ := isPl_len h
  exact ⟨h1, fun a ha => Nat.lt_of_le_of_lt (h2 a ha) (by decide)⟩
end Q
namespace Q
open DL L2 PySem PySem.Spec PyProof.Rows
theorem rangeL_enc (n : Nat) : rangeL 0 n = (List.range n).map fun i => D.int (i : Nat) := by
  unfold rangeL
  congr 1
  funext i
  simp
theorem okR_nat {n : Nat} (h : n ≤ 1000000) : okR (n : Int) = true := by
  unfold okR
  simp
  omega
theorem range1 {n : Nat} (h : n ≤ 1000000) : gRange1 [.int (n : Int)] = some ((List.range n).map fun i => D.int (i : Nat)) := by
  rw [gRange1_i, if_pos (okR_nat h), ← rangeL_enc]
  rfl
end Q
namespace Q
open DL L2 PySem PySem.Spec PyProof.Rows
abbrev dl (l : List Int) : D := .lst (l.map D.int)
theorem fm_rng (x : Int) {m : Int} (h : 0 < m) : 0 ≤ x.fmod m ∧ x.fmod m < m := by
  rw [Int.fmod_eq_emod_of_nonneg _ (by omega)]
  exact ⟨Int.emod_nonneg _ (by omega), Int.emod_lt_of_pos _ h⟩
theorem io_next (l : List Int) (r : En) : mCallIo F_law_next 0 mNil (some (dl l) :: r) = .ok (.int (drawI l)) (some (dl l.dropLast) :: r) := by
  rw [mCallIo_ap, getO_0]
  simp -implicitDefEqProofs [getO_0, e_next, qNext_v]
theorem io_next1 (x : Option D) (l : List Int) (r : En) : mCallIo F_law_next 1 mNil (x :: some (dl l) :: r) = .ok (.int (drawI l)) (x :: some (dl l.dropLast) :: r) := by
  rw [mCallIo_ap, getO_1]
  simp -implicitDefEqProofs [getO_1, e_next, qNext_v]
theorem io_0 {F : FN} {d' : D} {l l' : List Int} {r : En} (e : F [dl l] = .rt d' (dl l')) : mCallIo F 0 mNil (some (dl l) :: r) = .ok d' (some (dl l') :: r) := by
  rw [mCallIo_ap, getO_0]
  simp -implicitDefEqProofs [getO_0, e]
theorem io_1 {F : FN} {d' : D} {l l' : List Int} {x : Option D} {r : En} (e : F [dl l] = .rt d' (dl l')) : mCallIo F 1 mNil (x :: some (dl l) :: r) = .ok d' (x :: some (dl l') :: r) := by
  rw [mCallIo_ap, getO_1]
  simp -implicitDefEqProofs [getO_1, e]
theorem io_1a {F : FN} {d' : D} {l l' : List Int} {x : Option D} {r : En} {args : MA} {ds : List D} (ha : args (x :: some (dl l) :: r) = .ok ds (x :: some (dl l) :: r)) (e : F (dl l :: ds) = .rt d' (dl l')) : mCallIo F 1 args (x :: some (dl l) :: r) = .ok d' (x :: some (dl l') :: r) := by
  rw [mCallIo_ap, getO_1, ha]
  simp -implicitDefEqProofs [getO_1, e]
theorem gMod_p (x : Int) {m : Int} (h : 0 < m) : gMod (.int x) (.int m) = some (.int (x.fmod m)) := gMod_nz (by omega)
section
variable {β : Type} {i : Nat} {me : ME} {P : β → Prop} {enc : β → D} {E : List Int → Option D → En}
theorem lc_io (hs : ∀ l o o', (E l o).set i o' = E l o') (hl : ∀ l o, i < (E l o).length)
    (hm : ∀ l d, ∃ c l', P c ∧ me (E l (some d)) = .ok (enc c) (E l' (some d))) : ∀ (ds : List D) (l : List Int) (o : Option D),
    ∃ (cs : List β) (l' : List Int) (o' : Option D), lcLoop [i] (mgName i) mYes me ds (E l o) = .ok (cs.map enc) (E l' o') ∧ cs.length = ds.length ∧ ∀ c ∈ cs, P c
  | [], l, o => ⟨[], l, o, rfl, rfl, fun c h => nomatch h⟩
  | d :: r, l, o => by
    obtain ⟨c, l1, hc, e1⟩ := hm l d
    obtain ⟨cs, l2, o2, e2, n2, p2⟩ := lc_io hs hl hm r l1 (some d)
    have w : wipeE (E l o) [i] = E l none := hs l o none
    have g1 : mgName i d (E l none) = .ok () (E l (some d)) := by
      rw [mgName_ap, if_pos (hl l none), hs]
    have hY : mYes (E l (some d)) = .ok true (E l (some d)) := rfl
    refine ⟨c :: cs, l2, o2, ?_, by rw [List.length_cons, List.length_cons, n2], fun x hx => ?_⟩
    · simp only [lcLoop, w, g1, hY, e1, e2, List.map_cons]
    · rcases List.mem_cons.mp hx with z | z
      · rw [z]; exact hc
      · exact p2 x z
theorem mLc_io {mi : En → R (List D)} {ρ : En} {l : List Int} {o : Option D} {ds : List D} (hi : mi ρ = .ok ds (E l o)) (hz : ds.length ≤ sizeLine) (hs : ∀ l o o', (E l o).set i o' = E l o') (hl : ∀ l o, i < (E l o).length) (hg : (E l o)[i]? = some o)
    (hm : ∀ l d, ∃ c l', P c ∧ me (E l (some d)) = .ok (enc c) (E l' (some d))) :
    ∃ (cs : List β) (l' : List Int), mLc [i] mi (mgName i) mYes me ρ = .ok (.lst (cs.map enc)) (E l' o) ∧ cs.length = ds.length ∧ ∀ c ∈ cs, P c := by
  obtain ⟨cs, l', o', e, n, p⟩ := lc_io hs hl hm ds l o
  refine ⟨cs, l', ?_, n, p⟩
  have r : restE (E l o) [i] (E l' o') = E l' o := by
    show (E l' o').set i (match (E l o)[i]? with | some o => o | none => none) = _
    rw [hg]
    exact hs _ _ _
  rw [mLc_ap, hi, bind_ok, e]
  show (if (cs.map enc).length ≤ sizeLine then R.ok (D.lst (cs.map enc)) (restE (E l o) [i] (E l' o')) else R.bad) = _
  rw [if_pos (by rw [List.length_map, n]; exact hz), r]
end
theorem gcdL_cons (a : Int) (xs : List Int) (g : Nat) : gcdL (a :: xs) g = gcdL xs (Int.gcd g a) := rfl
theorem gcdL_dvd : ∀ (xs : List Int) (g : Nat), ((gcdL xs g : Nat) : Int) ∣ (g : Int) ∧ ∀ a ∈ xs, ((gcdL xs g : Nat) : Int) ∣ a
  | [], g => ⟨Int.dvd_refl _, fun a h => nomatch h⟩
  | x :: xs, g => by
    obtain ⟨h1, h2⟩ := gcdL_dvd xs (Int.gcd g x)
    rw [gcdL_cons]
    refine ⟨Int.dvd_trans h1 (Int.gcd_dvd_left _ _), fun a ha => ?_⟩
    rcases List.mem_cons.mp ha with rfl | ha
    · exact Int.dvd_trans h1 (Int.gcd_dvd_right _ _)
    · exact h2 a ha
def primL (xs : List Int) : List Int := xs.map fun a => a.fdiv (gcdL xs 0 : Nat)
theorem primL_abs {xs : List Int} {b : Int} (hb : b ∈ primL xs) : ∃ a ∈ xs, b.natAbs ≤ a.natAbs := by
  obtain ⟨a, ha, rfl⟩ := List.mem_map.mp hb
  exact ⟨a, ha, Int.natAbs_fdiv_le_natAbs _ _⟩
theorem v_fraction (l : List Int) : ∃ (q : Rat) (l' : List Int), F_law_fraction [dl l] = .rt (fr q) (dl l') ∧ Sz 3 q := by
  obtain ⟨r1, r2⟩ := fm_rng (drawI l) (m := 13) (by decide)
  obtain ⟨r3, r4⟩ := fm_rng (drawI l.dropLast) (m := 4) (by decide)
  have hb : (1 + (drawI l.dropLast).fmod 4).natAbs < 2 ^ 3 := by omega
  have ha : ((drawI l).fmod 13 - 6).natAbs < 2 ^ 3 := by omega
  have hv := fun ρ => v_llowest (a := (drawI l).fmod 13 - 6) (b := 1 + (drawI l.dropLast).fmod 4) (by omega) (s8 hb (by decide)) ρ
  refine ⟨Rat.divInt ((drawI l).fmod 13 - 6) (1 + (drawI l.dropLast).fmod 4), l.dropLast.dropLast, ?_, fr_low (by omega) ha hb⟩
  simp -implicitDefEqProofs [F_law_fraction, runM, m_law_fraction, pad, io_next, gMod_p, mCall_R, hv, io0]
end Q
namespace DL
open L2 PySem PySem.Spec PyProof.Rows
def Dw (l : List Int) : Prop := ∀ x ∈ l, 0 ≤ x ∧ x < 1000
theorem Dw.app {a b : List Int} (h : Dw a) (k : Dw b) : Dw (a ++ b) := fun x m => (List.mem_append.mp m).elim (h x) (k x)
theorem Dw.rev {l : List Int} (h : Dw l) : Dw l.reverse := fun x m => h x (List.mem_reverse.mp m)
end DL
namespace Q
open DL L2 PySem PySem.Spec PyProof.Rows
section
variable {n : Nat} {pt : List Int}
abbrev Sp (n : Nat) (pt : List Int) (l row : List Int) (o4 o5 o6 o7 o8 : Option D) : En := [some (dl l), some (.int n), some (dl pt), some (dl row), o4, o5, o6, o7, o8]
theorem getD_mem {row : List Int} {j : Nat} (h : j < row.length) : row.getD j 0 ∈ row := by
  have : row.getD j 0 = row[j] := by simp [List.getD, h]
  rw [this]
  exact List.getElem_mem _
theorem seq_nx {a b : MS} {ρ ρ1 : En} (h : a ρ = .nx ρ1) : msSeq a b ρ = b ρ1 := by rw [msSeq_ap, h]
theorem seq_rt {a b : MS} {ρ ρ1 : En} {d : D} (h : a ρ = .rt d ρ1) : msSeq a b ρ = .rt d ρ1 := by rw [msSeq_ap, h]
theorem seq_ex {a b : MS} {ρ ρ1 : En} {x : Xn} (h : a ρ = .ex x ρ1) : msSeq a b ρ = .ex x ρ1 := by rw [msSeq_ap, h]
theorem runM_rt {n np : Nat} {dd : List D} {fr : Bool} {m : MS} {ds : List D} {d : D} {ρ : En} (hl : (ds ++ dd).length = np) (h : m (pad n (ds ++ dd)) = .rt d ρ) : runM n np dd fr m ds = .rt d (io0 ρ) := by
  unfold runM
  rw [if_pos hl, h]
theorem runM_ex {n np : Nat} {dd : List D} {fr : Bool} {m : MS} {ds : List D} {x : Xn} {ρ : En} (hl : (ds ++ dd).length = np) (h : m (pad n (ds ++ dd)) = .ex x ρ) : runM n np dd fr m ds = .ex x (io0 ρ) := by
  unfold runM
  rw [if_pos hl, h]
end
end Q
namespace Q
open DL L2 PySem PySem.Spec PyProof.Rows
end Q
namespace Q
open DL L2 PySem PySem.Spec PyProof.Rows
section
variable {n : Nat} {pt : List Int}
theorem loop_step {g : MG} {mb : MS} {d : D} {ds : List D} {ρ ρ1 ρ2 : En} (h1 : g d ρ = .ok () ρ1) (h2 : mb ρ1 = .nx ρ2) : loopL g mb (d :: ds) ρ = loopL g mb ds ρ2 := by
  simp only [loopL, h1, h2]
end
end Q
namespace Q
open DL L2 PySem PySem.Spec PyProof.Rows
def clr (xs : List Int) : List Int := if 1 < gcdL xs 0 then primL xs else xs
theorem clr_loop {F : FN} (hv : ∀ (g : Nat) (a : Int), a.natAbs < 2 ^ 8000 → ∀ ρ : En, (F [.int (g : Int), .int a]).R ρ = .ok (.int (Int.gcd g a : Nat)) ρ) (r : Option D) : ∀ (ys : List Int) (g : Nat) (o : Option D), (∀ a ∈ ys, a.natAbs < 2 ^ 8000) →
    ∃ o', loopL (mgName 2) (msAsg (mCall F (mCons (mVar 1) (mCons (mVar 2) mNil))) (mgName 1)) (ys.map D.int) [r, some (.int (g : Int)), o] = .nx [r, some (.int (gcdL ys g : Nat)), o']
  | [], g, o, _ => ⟨o, rfl⟩
  | a :: ys, g, o, hy => by
    obtain ⟨o', e⟩ := clr_loop hv r ys (Int.gcd g a) (some (.int a)) fun z hz => hy z (List.mem_cons_of_mem _ hz)
    refine ⟨o', ?_⟩
    have h := fun ρ => hv g a (hy a List.mem_cons_self) ρ
    rw [List.map_cons]
    simp -implicitDefEqProofs [loopL, mCall_R, h]
    exact e
theorem gcdL_lt {xs : List Int} {k : Nat} (h : ∀ a ∈ xs, a.natAbs < 2 ^ k) : gcdL xs 0 < 2 ^ k := by
  by_cases z : ∃ a ∈ xs, a ≠ 0
  · obtain ⟨a, ha, hne⟩ := z
    have := (gcdL_dvd xs 0).2 a ha
    have h5 := Int.natAbs_dvd_natAbs.mpr this
    have h6 := Nat.le_of_dvd (by omega) h5
    have := h a ha
    simp only [Int.natAbs_natCast] at *
    omega
  · have : ∀ xs : List Int, (¬ ∃ a ∈ xs, a ≠ 0) → gcdL xs 0 = 0 := by
      intro xs
      induction xs with
      | nil => exact fun _ => rfl
      | cons a r ih =>
        intro z
        have a0 : a = 0 := Classical.byContradiction fun n => z ⟨a, List.mem_cons_self, n⟩
        rw [gcdL_cons, a0]
        exact ih fun ⟨b, hb, n⟩ => z ⟨b, List.mem_cons_of_mem _ hb, n⟩
    rw [this xs z]
    exact Nat.two_pow_pos k
end Q
namespace Q
open DL L2 PySem PySem.Spec PyProof.Rows
abbrev nl (ps : List Nat) : D := .lst (ps.map fun i => D.int (i : Nat))
def Rw (W k : Nat) (r : List Rat) : Prop := r.length = W ∧ ∀ x ∈ r, Sz k x
theorem Rw.up {W i j : Nat} {r : List Rat} (h : Rw W i r) (l : i ≤ j) : Rw W j r := ⟨h.1, fun x hx => (h.2 x hx).up l⟩
theorem Rw.g {W k c : Nat} {r : List Rat} (h : Rw W k r) (hc : c < W) : Sz k (r.getD c 0) := by
  have e : r.getD c 0 = r[c]'(by rw [h.1]; exact hc) := by simp [List.getD, h.1, hc]
  rw [e]
  exact h.2 _ (List.getElem_mem _)
theorem getD_memM {M : List (List Rat)} {i : Nat} (h : i < M.length) : M.getD i [] ∈ M := by
  have e : M.getD i [] = M[i] := by simp [List.getD, h]
  rw [e]
  exact List.getElem_mem _
section
variable {d0 : D} {cs : Nat} {M : List (List Rat)} {ps : List Nat} {o7 o9 : Option D} {W k m top col : Nat}
abbrev Rd (d0 : D) (cs : Nat) (L P : D) (o5 o6 o7 o8 o9 : Option D) : En := [some d0, some (.int cs), some L, none, some P, o5, o6, o7, o8, o9, none]
end
end Q
namespace Q
open DL L2 PySem PySem.Spec PyProof.Rows
section
variable {d0 : D} {cs : Nat} {M : List (List Rat)} {ps : List Nat} {o5 o6 o7 o8 o9 : Option D} {W k m top col : Nat}
def Mx (m W k : Nat) (M : List (List Rat)) : Prop := M.length = m ∧ ∀ r ∈ M, Rw W k r
theorem Mx.up {m W i j : Nat} (h : Mx m W i M) (l : i ≤ j) : Mx m W j M := ⟨h.1, fun r hr => (h.2 r hr).up l⟩
def kk (k : Nat) : Nat → Nat
  | 0 => k
  | n + 1 => 4 * kk k n + 1
end
end Q
namespace Q
open DL L2 PySem PySem.Spec PyProof.Rows
end Q
namespace Q
open DL L2 PySem PySem.Spec PyProof.Rows
section
variable {w top col : Nat} {M : List (List Rat)}
def Zr (w : Nat) (M : List (List Rat)) : Prop := ∀ r ∈ M, r.getD w 0 = 0
theorem Zr.g (h : Zr w M) (i : Nat) : (M.getD i []).getD w 0 = 0 := by
  by_cases l : i < M.length
  · exact h _ (getD_memM l)
  · have : M.getD i [] = [] := by simp [List.getD, Nat.not_lt.mp l]
    rw [this]; rfl
theorem Zr.set (h : Zr w M) (i : Nat) {r : List Rat} (hr : r.getD w 0 = 0) : Zr w (M.set i r) := fun x hx => by
  rcases List.mem_or_eq_of_mem_set hx with z | z
  · exact h x z
  · rw [z]; exact hr
end
end Q
namespace Q
open DL L2 PySem PySem.Spec PyProof.Rows
end Q
namespace Q
open DL L2 PySem PySem.Spec PyProof.Rows
end Q
namespace Q
open DL L2 PySem PySem.Spec PyProof.Rows
def RwI (W k : Nat) (r : List Int) : Prop := r.length = W ∧ ∀ x ∈ r, x.natAbs < 2 ^ k
theorem RwI.up {W i j : Nat} {r : List Int} (h : RwI W i r) (l : i ≤ j) : RwI W j r := ⟨h.1, fun x hx => sm_up (h.2 x hx) l⟩
theorem RwI.g {W k c : Nat} {r : List Int} (h : RwI W k r) (hc : c < W) : (r.getD c 0).natAbs < 2 ^ k := h.2 _ (getD_mem (by rw [h.1]; exact hc))
section
variable {d0 : D} {cs : Nat} {M : List (List Int)} {ps : List Nat} {o5 o6 o7 o8 o9 o10 o11 : Option D} {W k m top col : Nat} {T : List Int}
def MxI (m W k : Nat) (M : List (List Int)) : Prop := M.length = m ∧ ∀ r ∈ M, RwI W k r
theorem MxI.up {m W i j : Nat} {M : List (List Int)} (h : MxI m W i M) (l : i ≤ j) : MxI m W j M := ⟨h.1, fun r hr => (h.2 r hr).up l⟩
end
end Q
namespace Q
open DL L2 PySem PySem.Spec PyProof.Rows
section
variable {M : List (List Int)} {ps : List Nat} {W m c : Nat}
abbrev en (M : List (List Int)) (i j : Nat) : Int := (M.getD i []).getD j 0
end
end Q
namespace Q
open DL L2 PySem PySem.Spec PyProof.Rows
end Q
namespace Q
open DL L2 PySem PySem.Spec PyProof.Rows
end Q
namespace Q
open DL L2 PySem PySem.Spec PyProof.Rows
end Q
namespace Q
open DL L2 PySem PySem.Spec PyProof.Rows
abbrev Tie := List Nat × List Int
end Q
namespace Q
open DL L2 PySem PySem.Spec PyProof.Rows
abbrev TL : Xn := ⟨"TooLarge", []⟩
end Q
namespace Q
open DL L2 PySem PySem.Spec PyProof.Rows
end Q
namespace Q
open DL L2 PySem PySem.Spec PyProof.Rows
end Q
namespace Q
abbrev Vc := Nat → Rat
inductive Rs (L : List Vc) : Vc → Prop
  | zero : Rs L fun _ => 0
  | add {v r : Vc} (a : Rat) : Rs L v → r ∈ L → Rs L fun i => v i + a * r i
theorem Rs.mem {L : List Vc} {r : Vc} (h : r ∈ L) : Rs L r := by
  have := Rs.add 1 (Rs.zero (L := L)) h
  have e : (fun i => (0 : Rat) + 1 * r i) = r := by funext i; grind
  rw [e] at this
  exact this
theorem Rs.comb {L : List Vc} {u v : Vc} (a : Rat) (hu : Rs L u) (hv : Rs L v) : Rs L fun i => u i + a * v i := by
  induction hv with
  | zero =>
    have e : (fun i => u i + a * (0 : Rat)) = u := by funext i; grind
    rw [e]; exact hu
  | add b _ hr ih =>
    have := Rs.add (a * b) ih hr
    refine Eq.mp ?_ this
    congr 1
    funext i
    grind
theorem Rs.sub {L L' : List Vc} (h : ∀ r ∈ L, Rs L' r) {v : Vc} (hv : Rs L v) : Rs L' v := by
  induction hv with
  | zero => exact .zero
  | add a _ hr ih => exact ih.comb a (h _ hr)
structure Rref (D : List (Nat × Vc)) : Prop where
  asc : D.Pairwise fun p q => p.1 < q.1
  one : ∀ p ∈ D, p.2 p.1 = 1
  zer : ∀ p ∈ D, ∀ q ∈ D, p.1 ≠ q.1 → q.2 p.1 = 0
  led : ∀ p ∈ D, ∀ i, i < p.1 → p.2 i = 0
end Q
namespace Q
def vec (r : List Rat) : Vc := fun i => r.getD i 0
section
variable {M : List (List Rat)} {ps : List Nat} {W m top col h : Nat} {hs : List Nat}
def row (M : List (List Rat)) (i : Nat) : Vc := vec (M.getD i [])
end
end Q
namespace Q
def rowsV (M : List (List Rat)) : List Vc := M.map vec
structure Red (M0 : List (List Rat)) (W c : Nat) (s : List (List Rat) × List Nat) : Prop where
  len : s.1.length = M0.length
  wid : ∀ r ∈ s.1, r.length = W
  plen : s.2.length ≤ s.1.length
  asc : s.2.Pairwise (· < ·)
  lt : ∀ p ∈ s.2, p < c
  one : ∀ i p, s.2[i]? = some p → ∀ j, j < s.1.length → row s.1 j p = if j = i then 1 else 0
  led : ∀ i p, s.2[i]? = some p → ∀ t, t < p → row s.1 i t = 0
  low : ∀ j, s.2.length ≤ j → j < s.1.length → ∀ t, t < c → row s.1 j t = 0
  spn : ∀ v, Rs (rowsV s.1) v ↔ Rs (rowsV M0) v
section
variable {M0 : List (List Rat)} {W c : Nat}
theorem Red.start {M : List (List Rat)} (h : ∀ r ∈ M, r.length = W) : Red M W 0 (M, []) :=
  ⟨rfl, h, Nat.zero_le _, .nil, (fun p hp => nomatch hp), (fun i p e => by simp at e), (fun i p e => by simp at e), (fun j _ _ t ht => by omega), fun v => Iff.rfl⟩
end
end Q
namespace Q
end Q
namespace Q
structure LE where
  left : List (List Rat)
  piv : List Nat
  done : List (List Rat)
def LE.D (s : LE) : List (Nat × Vc) := (s.piv.zip s.done).map fun p => (p.1, vec p.2)
structure Lred (M0 : List (List Rat)) (W c : Nat) (s : LE) : Prop where
  wl : ∀ r ∈ s.left, r.length = W
  wd : ∀ r ∈ s.done, r.length = W
  pl : s.piv.length = s.done.length
  lt : ∀ p ∈ s.piv, p < c
  rr : Rref s.D
  low : ∀ r ∈ s.left, ∀ t, t < c → vec r t = 0
  spn : ∀ v, Rs (rowsV (s.done ++ s.left)) v ↔ Rs (rowsV M0) v
section
variable {M0 : List (List Rat)} {W c : Nat} {s : LE}
theorem Lred.start {M : List (List Rat)} (h : ∀ r ∈ M, r.length = W) : Lred M W 0 ⟨M, [], []⟩ :=
  ⟨h, (fun r hr => nomatch hr), rfl, (fun p hp => nomatch hp), ⟨.nil, (fun p hp => nomatch hp), (fun p hp => nomatch hp), (fun p hp => nomatch hp)⟩, (fun r _ t ht => by omega), fun v => Iff.rfl⟩
end
end Q
namespace Q
end Q
namespace Q
open DL L2 PySem PySem.Spec PyProof.Rows
end Q
namespace Q
open DL L2 PySem PySem.Spec PyProof.Rows
end Q
namespace Q
open DL L2 PySem PySem.Spec PyProof.Rows
def Cd (d : Int) (a : Nat) (x : Rat) : Prop := ∃ N : Int, x * (d : Rat) = (N : Rat) ∧ N.natAbs < 2 ^ a
def Cm (d : Int) (a : Nat) (L : List (List Rat)) : Prop := d ≠ 0 ∧ d.natAbs < 2 ^ a ∧ ∀ r ∈ L, ∀ x ∈ r, Cd d a x
theorem Cd.zero (d : Int) (a : Nat) : Cd d a 0 := ⟨0, by simp, Nat.two_pow_pos a⟩
theorem Cd.up {d : Int} {a b : Nat} {x : Rat} (h : Cd d a x) (l : a ≤ b) : Cd d b x := let ⟨N, e, h⟩ := h; ⟨N, e, Nat.lt_of_lt_of_le h (Nat.pow_le_pow_right (by decide) l)⟩
theorem Cm.up {d : Int} {a b : Nat} {L : List (List Rat)} (h : Cm d a L) (l : a ≤ b) : Cm d b L := ⟨h.1, Nat.lt_of_lt_of_le h.2.1 (Nat.pow_le_pow_right (by decide) l), fun r hr x hx => (h.2.2 r hr x hx).up l⟩
theorem Cd.g {d : Int} {a : Nat} {r : List Rat} (h : ∀ x ∈ r, Cd d a x) (c : Nat) : Cd d a (r.getD c 0) := by
  by_cases hc : c < r.length
  · have e : r.getD c 0 = r[c] := by simp [List.getD, hc]
    rw [e]
    exact h _ (List.getElem_mem _)
  · have e : r.getD c 0 = 0 := by simp [List.getD, hc]
    rw [e]
    exact Cd.zero d a
theorem pow2 (a : Nat) : 2 ^ (2 * a + 1) = 2 ^ a * 2 ^ a * 2 := by rw [Nat.pow_succ, Nat.two_mul, Nat.pow_add]
theorem mul_lt {x y : Int} {a : Nat} (hx : x.natAbs < 2 ^ a) (hy : y.natAbs < 2 ^ a) : (x * y).natAbs < 2 ^ a * 2 ^ a := by
  rw [Int.natAbs_mul]
  exact Nat.mul_lt_mul'' hx hy
section
variable {d Nc : Int} {a : Nat} {xc : Rat}
theorem Cd.keep {y : Rat} (hy : Cd d a y) (hN' : Nc.natAbs < 2 ^ a) : Cd (d * Nc) (2 * a + 1) y := by
  obtain ⟨N, e, hN⟩ := hy
  refine ⟨N * Nc, ?_, ?_⟩
  · rw [Rat.intCast_mul, Rat.intCast_mul, ← e]
    grind
  · have := mul_lt hN hN'
    rw [pow2]
    omega
theorem Cd.less {u v y : Rat} (hu : Cd d a u) (hv : Cd d a v) (hy : Cd d a y) (hx : xc * (d : Rat) = (Nc : Rat)) (hN' : Nc.natAbs < 2 ^ a) (nz : xc ≠ 0) : Cd (d * Nc) (2 * a + 1) (u + (-v) * (y * xc⁻¹)) := by
  obtain ⟨N1, e1, h1⟩ := hu
  obtain ⟨N2, e2, h2⟩ := hv
  obtain ⟨N3, e3, h3⟩ := hy
  refine ⟨N1 * Nc - N2 * N3, ?_, ?_⟩
  · rw [Rat.intCast_mul, Rat.intCast_sub, Rat.intCast_mul, Rat.intCast_mul, ← hx, ← e1, ← e2, ← e3]
    have := Rat.inv_mul_cancel xc nz
    grind
  · have a1 := mul_lt h1 hN'
    have a2 := mul_lt h2 h3
    rw [pow2]
    omega
end
end Q
namespace Q
open DL L2 PySem PySem.Spec PyProof.Rows
def Tq (B : Nat) (x : Rat) : Prop := ∃ N : Int, x * 12 = (N : Rat) ∧ N.natAbs ≤ B
theorem Tq.zero : Tq 0 0 := ⟨0, by simp, by decide⟩
theorem Tq.up {A B : Nat} {x : Rat} (h : Tq A x) (l : A ≤ B) : Tq B x := let ⟨N, e, b⟩ := h; ⟨N, e, Nat.le_trans b l⟩
theorem Tq.add {A B : Nat} {x y : Rat} (h1 : Tq A x) (h2 : Tq B y) : Tq (A + B) (x + y) := by
  obtain ⟨N, e, b⟩ := h1
  obtain ⟨M, e', b'⟩ := h2
  refine ⟨N + M, ?_, by omega⟩
  rw [Rat.add_mul, e, e', Rat.intCast_add]
end Q
namespace Q
open DL L2 PySem PySem.Spec PyProof.Rows
end Q
namespace Q
open DL L2 PySem PySem.Spec PyProof.Rows
abbrev Sg3 (w : List Nat) : Prop := ∀ c ∈ w, c ∈ [43, 45, 48]
abbrev NNm : Xn := ⟨"NotNumber", []⟩
theorem v_isn {a : Int × Int} (h : a.2.natAbs < 2 ^ 8000) (ρ : En) : (Fis_number [tupI a]).R ρ = .ok (.bl (isNum a.1 a.2)) ρ := by
  rw [e_isn]
  exact qIsNumber_v (a := a.1) (b := a.2) h ρ
end Q
namespace Q
open DL L2 PySem PySem.Spec PyProof.Rows
theorem v_chkN {a : Int × Int} (h : a.2.natAbs < 2 ^ 8000) (ρ : En) : (Fcheck_number [tupI a]).R ρ = if isNum a.1 a.2 = true then .ok .non ρ else .ex NNm ρ := by
  have hv := fun ρ => v_isn h ρ
  cases c : isNum a.1 a.2 with
  | true =>
    rw [c] at hv
    generalize tupI a = T at *
    simp -implicitDefEqProofs [Fcheck_number, runM, mcheck_number, pad, mCall_R, hv]
  | false =>
    rw [c] at hv
    generalize tupI a = T at *
    simp -implicitDefEqProofs [Fcheck_number, runM, mcheck_number, pad, mCall_R, hv]
theorem v_chkQ {q : Rat} {i : Nat} (h : Sz i q) (l : i ≤ 8000) (ρ : En) : (Fcheck_number [fr q]).R ρ = .ok .non ρ := by
  have := v_chkN (a := (q.num, (q.den : Int))) (s8 h.d l) ρ
  rw [if_pos (rat_num q)] at this
  exact this
end Q
namespace Q
open DL L2 PySem PySem.Spec PyProof.Rows
end Q
namespace Q
open DL L2 PySem PySem.Spec PyProof.Rows
theorem ixS {u : List Nat} {j : Nat} (h : j < u.length) (hl : u.length ≤ 10000) : gIx (sD u) (.int (j : Int)) = some (sD [u.getD j 0]) := by
  have e : u.getD j 0 = u[j] := by simp [List.getD, h]
  rw [e]
  show (if (S u).length ≤ sizeLine then (L2.atI u (j : Int)).map (fun c => D.str ⟨#[c]⟩) else none) = _
  have e2 : L2.atI u (j : Int) = some u[j] := by
    unfold L2.atI L2.ixN
    simp [h]
  rw [if_pos (by rw [S_len, szv]; omega), e2]
  rfl
theorem sl_toS {w : List Nat} (h : w.length ≤ 10000) (i : Nat) : gSl (sD w) none (some (i : Int)) = some (sD (w.take i)) := by
  show (if (S w).length ≤ sizeLine then some (D.str (L2.cutS (S w) none (some (i : Int)))) else none) = _
  rw [if_pos (by rw [S_len, szv]; omega), C8.cutS_slice, SX.slice_to (by omega), Int.toNat_natCast]
theorem sl_fromS {w : List Nat} (h : w.length ≤ 10000) (i : Nat) : gSl (sD w) (some (i : Int)) none = some (sD (w.drop i)) := by
  show (if (S w).length ≤ sizeLine then some (D.str (L2.cutS (S w) (some (i : Int)) none)) else none) = _
  rw [if_pos (by rw [S_len, szv]; omega), C8.cutS_slice, SX.slice_from (by omega), Int.toNat_natCast]
def Sw (W n : Nat) (d : D) : Prop := ∃ x, d.py = some x ∧ x.showable = true ∧ x.leavesShort 2000 = true ∧ x.weight ≤ W ∧ x.depth ≤ n
theorem Sw.up {W W' n n' : Nat} {d : D} (h : Sw W n d) (a : W ≤ W') (b : n ≤ n') : Sw W' n' d := let ⟨x, h1, h2, h3, h4, h5⟩ := h; ⟨x, h1, h2, h3, Nat.le_trans h4 a, Nat.le_trans h5 b⟩
theorem Sw.int {a : Int} {k : Nat} (h : a.natAbs < 2 ^ k) (hk : k ≤ 1900) (k0 : 0 < k) : Sw k 1 (.int a) := by
  have h' : a.natAbs < 2 ^ 1900 := Nat.lt_of_lt_of_le h (Nat.pow_le_pow_right (by decide) hk)
  have l1 := lg h' (by decide)
  have l2 := lg h k0
  refine ⟨.int a, rfl, ?_, ?_, ?_, ?_⟩
  · simp only [PyData.showable, decide_eq_true_eq]; omega
  · unfold PyData.leavesShort
    have e : PyData.shown (.int a) = Str.ofString (toString a) := by simp only [PyData.shown] <;> rfl
    rw [e]
    exact decide_eq_true (int_len h')
  · unfold PyData.weight
    split <;> omega
  · simp [PyData.depth]
theorem Sw.bl (b : Bool) : Sw 0 1 (.bl b) := ⟨.bool b, rfl, by simp [PyData.showable], by simp [PyData.leavesShort], by simp [PyData.weight], by simp [PyData.depth]⟩
theorem Sw.non : Sw 0 1 .non := ⟨.none, rfl, by simp [PyData.showable], by simp [PyData.leavesShort], by simp [PyData.weight], by simp [PyData.depth]⟩
theorem Sw.str {l : List Nat} (h : ∀ c ∈ l, c < 1114112) : Sw l.length 1 (sD l) := ⟨.str (S l), rfl, by simp [PyData.showable], by
  unfold PyData.leavesShort
  rw [List.all_eq_true]
  intro c hc
  have := h c hc
  exact decide_eq_true (by omega), by unfold PyData.weight; simp [S, SX.S], by simp [PyData.depth]⟩
theorem Sw.all {W n : Nat} : ∀ l : List D, (∀ d ∈ l, Sw W n d) → ∃ xs, pyAll l = some xs ∧ PyData.showableAll xs = true ∧ PyData.leavesShortAll 2000 xs = true ∧ PyData.weightAll xs ≤ l.length * (W + 1) ∧ PyData.depthAll xs ≤ n
  | [], _ => ⟨[], pyAll_nil, rfl, rfl, by simp [PyData.weightAll], by simp [PyData.depthAll]⟩
  | d :: l, h => by
    obtain ⟨x, a1, a2, a3, a4, a5⟩ := h d List.mem_cons_self
    obtain ⟨xs, b1, b2, b3, b4, b5⟩ := Sw.all l fun d hd => h d (List.mem_cons_of_mem _ hd)
    refine ⟨x :: xs, ?_, ?_, ?_, ?_, ?_⟩
    · unfold pyAll
      rw [a1, b1]
      rfl
    · simp [PyData.showableAll, a2, b2]
    · simp [PyData.leavesShortAll, a3, b3]
    · rw [List.length_cons, Nat.succ_mul]
      simp only [PyData.weightAll]
      omega
    · simp only [PyData.depthAll]
      omega
theorem Sw.tup {W n : Nat} {l : List D} (h : ∀ d ∈ l, Sw W n d) : Sw (l.length * (W + 1)) (n + 1) (.tup l) := by
  obtain ⟨xs, b1, b2, b3, b4, b5⟩ := Sw.all l h
  refine ⟨.tuple xs, ?_, ?_, ?_, ?_, ?_⟩
  · unfold D.py
    rw [b1]; rfl
  · simpa [PyData.showable] using b2
  · simpa [PyData.leavesShort] using b3
  · simpa [PyData.weight] using b4
  · simp only [PyData.depth]; omega
theorem Sw.lst {W n : Nat} {l : List D} (h : ∀ d ∈ l, Sw W n d) : Sw (l.length * (W + 1)) (n + 1) (.lst l) := by
  obtain ⟨xs, b1, b2, b3, b4, b5⟩ := Sw.all l h
  refine ⟨.list xs, ?_, ?_, ?_, ?_, ?_⟩
  · unfold D.py
    rw [b1]; rfl
  · simpa [PyData.showable] using b2
  · simpa [PyData.leavesShort] using b3
  · simpa [PyData.weight] using b4
  · simp only [PyData.depth]; omega
theorem Sw.shown {W n : Nat} {d : D} (h : Sw W n d) (hW : W ≤ 8000) (hn : n ≤ 60) : ∃ z, gRepr [d] = some (.str z) := by
  obtain ⟨x, h1, h2, h3, h4, h5⟩ := h
  have k := PyData.shown_le 2000 (by decide) x h3
  have sz := szv
  refine ⟨x.shown, ?_⟩
  show (shownD d).map D.str = _
  unfold shownD
  have l : x.shown.length ≤ sizeLine := by omega
  simp only [h1]
  rw [if_pos ⟨h2, l, by omega⟩]
  rfl
theorem neS_self (z : Str) : gNe (.str z) (.str z) = some (.bl false) := by simp
end Q
namespace Q
open DL L2 PySem PySem.Spec PyProof.Rows
end Q
namespace Q
open DL L2 PySem PySem.Spec PyProof.Rows
end Q
namespace Q
open DL L2 PySem PySem.Spec PyProof.Rows
end Q
namespace Q
open DL L2 PySem PySem.Spec PyProof.Rows
end Q
namespace Q
open DL L2 PySem PySem.Spec PyProof.Rows
def m_law_refuses_b0 : MS := (msSeq (msAsg (m1 (fun d => gIxT [("+", .int 1), ("-", .int (-1)), ("0", .int 0)] .non d) (m2 gIx (mVar 1) (m2 gIx (mVar 2) (mVar 6)))) (mgName 7)) (msSeq (msIf (mTest (m2 gLt (m2 gMul (mVar 7) (m2 gIx (mVar 3) (mVar 6))) (mK (.int 0)))) (msRet (mK (.bl false))) msNil) (msSeq (msAsg (mOr (mVar 4) (m2 gNe (mVar 7) (mK (.int 0)))) (mgName 4)) (msAsg (m2 gAdd (mVar 5) (m2 gMul (m2 gIx (mVar 3) (mVar 6)) (m2 gIx (m2 gIx (mVar 0) (m2 gIx (mVar 2) (mVar 6))) (m1 gNeg (mK (.int 1)))))) (mgName 5)))))
def m_law_refuses : MS := (msSeq (msAsg (mK (.bl false)) (mgName 4)) (msSeq (msAsg (mK (.int 0)) (mgName 5)) (msSeq (msFor (mItN gRange1 (mCons (mN gLen (mCons (mVar 2) mNil)) mNil)) (mgName 6) m_law_refuses_b0) (msRet (mOr (m2 gGt (mVar 5) (mK (.int 0))) (mAnd (m2 gEq (mVar 5) (mK (.int 0))) (mVar 4)))))))
def F_law_refuses : FN := runM 8 4 [] false m_law_refuses
def m_law_refused_e0 : ME := (m2 gSub (mK (.int 0)) (mVar 5))
def m_law_refused_b1 : MS := (msSeq (msIf (mTru (mCall Q.F_law_refuses (mCons (mVar 0) (mCons (mVar 2) (mCons (mVar 3) (mCons (mVar 4) mNil)))))) (msRet (mK (.bl true))) msNil) (msIf (mTru (mCall Q.F_law_refuses (mCons (mVar 0) (mCons (mVar 2) (mCons (mVar 3) (mCons (mLc [5] (mIter (mVar 4)) (mgName 5) mYes m_law_refused_e0) mNil)))))) (msRet (mK (.bl true))) msNil))
def m_law_refused : MS := (msSeq (msFor (mIter (mVar 1)) (mgTup 2 (mgCons (mgName 3) (mgCons (mgName 4) mgNil))) m_law_refused_b1) (msRet (mK (.bl false))))
def F_law_refused : FN := runM 6 3 [] false m_law_refused
end Q
namespace Q
open DL L2 PySem PySem.Spec PyProof.Rows
section
variable {n : Nat} {ps : List (List Int)} {w ix : List Nat} {fs : List Int} {d : D}
structure TieOk (n : Nat) (ps : List (List Int)) (w ix : List Nat) (fs : List Int) : Prop where
  hp : ∀ p ∈ ps, p.length = n + 1 ∧ ∀ a ∈ p, a.natAbs < 2 ^ 10
  hw : w.length = ps.length
  hl : ps.length ≤ 12
  h3 : Sg3 w
  hix : ∀ a ∈ ix, a < ps.length
  hf : fs.length = ix.length
  hz : ∀ f ∈ fs, f.natAbs < 2 ^ 2001
end
end Q
namespace Q
open DL L2 PySem PySem.Spec PyProof.Rows
end Q
namespace Q
open DL L2 PySem PySem.Spec PyProof.Rows
end Q
namespace Q
open DL L2 PySem PySem.Spec PyProof.Rows
end Q
namespace Q
open DL PySem PySem.Spec PyProof.Rows
section
variable {n k i : Nat} {ps : List (List Int)} {u w : List Nat}
def Sg (u : List Nat) : Prop := ∀ c ∈ u, c < 1114112
theorem Sg.g (h : Sg u) (j : Nat) : u.getD j 0 < 1114112 := by
  by_cases hj : j < u.length
  · have e : u.getD j 0 = u[j] := by simp [List.getD, hj]
    rw [e]
    exact h _ (List.getElem_mem _)
  · have e : u.getD j 0 = 0 := by simp [List.getD, hj]
    omega
end
end Q
namespace Q
open DL PySem PySem.Spec PyProof.Rows
section
variable {K : Nat} {T : Nat → Rat}
def keyT (T : Nat → Rat) (c : Int) (j : Nat) : Int := (T j).num * c.fdiv ((T j).den : Int)
end
end Q
namespace Q
open DL PySem PySem.Spec PyProof.Rows
section
variable {n : Nat} {ps : List (List Int)} {q1 q2 : List Rat}
def hA (n : Nat) (ps : List (List Int)) (q : List Rat) (j : Nat) : Rat := heightR n (ps.getD j []) q
end
end Q
namespace Q
open DL PySem PySem.Spec PyProof.Rows
def Un (t : Rat) : Prop := 0 ≤ t ∧ t ≤ 1 ∧ Sz 420 t
def hv (q : Rat) : Rat := Rat.divInt q.num (2 * (q.den : Int))
def Us (t : Rat) : Prop := 0 ≤ t ∧ t ≤ 1 ∧ Sz 205 t
theorem Us.un {t : Rat} (h : Us t) : Un t := ⟨h.1, h.2.1, h.2.2.up (by decide)⟩
end Q
namespace Q
open DL PySem PySem.Spec PyProof.Rows
end Q
namespace Q
open DL L2 PySem PySem.Spec PyProof.Rows
end Q
namespace Q
open DL L2 PySem PySem.Spec PyProof.Rows
@[simp] theorem mChain_apK (g g' : D → D → Option D) (a b c : ME) (ρ : En) : mChain g g' a b c ρ = (a ρ).bind fun x ρ1 => (b ρ1).bind fun y ρ2 => (ret (g x y) ρ2).bind fun k ρ3 => match k with
  | .bl true => (c ρ3).bind fun z ρ4 => ret (g' y z) ρ4
  | .bl false => .ok (.bl false) ρ3
  | _ => .bad := rfl
theorem lc_mapK {i : Nat} {me : ME} {f : D → D} {ρ0 : En} (hi : i < ρ0.length) : ∀ (ds : List D) (ρ : En), (∀ d ∈ ds, me (ρ0.set i (some d)) = .ok (f d) (ρ0.set i (some d))) → ρ.set i none = ρ0.set i none →
    ∃ ρ', lcLoop [i] (mgName i) mYes me ds ρ = .ok (ds.map f) ρ' ∧ ρ'.set i none = ρ0.set i none
  | [], ρ, _, e => ⟨ρ, rfl, e⟩
  | d :: r, ρ, h, e => by
    have hl : (ρ.set i none).length = ρ0.length := by rw [e, List.length_set]
    have g1 : mgName i d (ρ.set i none) = .ok () (ρ0.set i (some d)) := by
      rw [mgName_ap, if_pos (by rw [hl]; exact hi), e, List.set_set]
    obtain ⟨ρ', e1, e2⟩ := lc_mapK hi r (ρ0.set i (some d)) (fun z hz => h z (List.mem_cons_of_mem _ hz)) (by rw [List.set_set])
    refine ⟨ρ', ?_, e2⟩
    have w : wipeE ρ [i] = ρ.set i none := rfl
    have hY : mYes (ρ0.set i (some d)) = .ok true (ρ0.set i (some d)) := rfl
    simp only [lcLoop, w, g1, hY, h d List.mem_cons_self, e1, List.map_cons]
theorem mLc_mapK {i : Nat} {mi : En → R (List D)} {me : ME} {f : D → D} {ρ0 : En} {ds : List D} (hi : i < ρ0.length) (hm : mi ρ0 = .ok ds ρ0) (hz : ds.length ≤ sizeLine) (h : ∀ d ∈ ds, me (ρ0.set i (some d)) = .ok (f d) (ρ0.set i (some d))) :
    mLc [i] mi (mgName i) mYes me ρ0 = .ok (.lst (ds.map f)) ρ0 := by
  obtain ⟨ρ', e1, e2⟩ := lc_mapK hi ds ρ0 h rfl
  have r : restE ρ0 [i] ρ' = ρ0 := by
    show ρ'.set i (match ρ0[i]? with | some o => o | none => none) = ρ0
    rw [List.getElem?_eq_getElem hi]
    show ρ'.set i ρ0[i] = ρ0
    have : ρ'.set i ρ0[i] = (ρ'.set i none).set i ρ0[i] := by rw [List.set_set]
    rw [this, e2, List.set_set, List.set_getElem_self]
  rw [mLc_ap, hm, bind_ok, e1]
  show (if (ds.map f).length ≤ sizeLine then R.ok (D.lst (ds.map f)) (restE ρ0 [i] ρ') else R.bad) = _
  rw [if_pos (by rw [List.length_map]; exact hz), r]
abbrev digs (l : List Nat) : Bool := l.all fun c => decide (48 ≤ c) && decide (c ≤ 57)
theorem snoc_ind {P : List Nat → Prop} (nil : P []) (append_singleton : ∀ l c, P l → P (l ++ [c])) (l : List Nat) : P l := by
  have z : ∀ n (l : List Nat), l.length = n → P l := by
    intro n
    induction n with
    | zero =>
      intro l h
      rw [List.length_eq_zero_iff.mp h]
      exact nil
    | succ n ih =>
      intro l h
      rcases List.eq_nil_or_concat l with e | ⟨r, c, e⟩
      · rw [e]; exact nil
      · rw [e, List.concat_eq_append] at h ⊢
        exact append_singleton r c (ih r (by simpa using h))
  exact z _ l rfl
theorem digs_all {l : List Nat} (h : digs l = true) : NumText.AllDigits l := fun c hc => by
  have z := List.all_eq_true.mp h c hc
  simpa using z
theorem val_snoc (l : List Nat) (c : Nat) : NumText.digitsVal (l ++ [c]) = NumText.digitsVal l * 10 + (c - 48) := by
  unfold NumText.digitsVal
  rw [List.foldl_append]
  rfl
theorem val_lt : ∀ {l : List Nat}, NumText.AllDigits l → NumText.digitsVal l < 10 ^ l.length := by
  intro l
  induction l using snoc_ind with
  | nil => intro _; decide
  | append_singleton l c ih =>
    intro h
    have h1 := ih fun d hd => h d (List.mem_append_left _ hd)
    have h2 := h c (List.mem_append_right _ List.mem_cons_self)
    rw [val_snoc, List.length_append, List.length_singleton, Nat.pow_succ]
    omega
theorem val_pos : ∀ {l : List Nat}, NumText.AllDigits l → l ≠ [] → l.head? ≠ some 48 → 0 < NumText.digitsVal l := by
  intro l
  induction l using snoc_ind with
  | nil => intro _ h; exact absurd rfl h
  | append_singleton l c ih =>
    intro h _ hd
    rw [val_snoc]
    by_cases e : l = []
    · subst e
      have h2 := h c (List.mem_append_right _ List.mem_cons_self)
      have : c ≠ 48 := fun z => hd (by rw [z]; rfl)
      omega
    · have := ih (fun d hd => h d (List.mem_append_left _ hd)) e (fun z => hd (by
        cases l with
        | nil => exact absurd rfl e
        | cons a r => simpa using z))
      omega
theorem num_back : ∀ {l : List Nat}, NumText.AllDigits l → l ≠ [] → l.head? ≠ some 48 → TL.numL (NumText.digitsVal l) = l := by
  intro l
  induction l using snoc_ind with
  | nil => intro _ h; exact absurd rfl h
  | append_singleton l c ih =>
    intro h _ hd
    have h2 := h c (List.mem_append_right _ List.mem_cons_self)
    rw [val_snoc]
    by_cases e : l = []
    · subst e
      have : NumText.digitsVal [] = 0 := rfl
      rw [this, TL.numL_lt (by omega)]
      have : 48 + (0 * 10 + (c - 48)) = c := by omega
      rw [this]
      rfl
    · have hd' : l.head? ≠ some 48 := fun z => hd (by
        cases l with
        | nil => exact absurd rfl e
        | cons a r => simpa using z)
      have hA : NumText.AllDigits l := fun d hd => h d (List.mem_append_left _ hd)
      have p := val_pos hA e hd'
      rw [TL.numL_step (by omega)]
      have e1 : (NumText.digitsVal l * 10 + (c - 48)) / 10 = NumText.digitsVal l := by omega
      have e2 : 48 + (NumText.digitsVal l * 10 + (c - 48)) % 10 = c := by omega
      rw [e1, e2, ih hA e hd']
theorem num_head (n : Nat) (h : 0 < n) : (TL.numL n).head? ≠ some 48 := by
  induction n using Nat.strongRecOn with
  | _ n ih =>
    by_cases c : n < 10
    · rw [TL.numL_lt c]
      simp
      omega
    · rw [TL.numL_step (by omega)]
      have := ih (n / 10) (by omega) (by omega)
      have ne := TL.numL_ne (n / 10)
      cases e : TL.numL (n / 10) with
      | nil => exact absurd e ne
      | cons a r => rw [e] at this; simpa using this
theorem num_canon {l : List Nat} (h : NumText.AllDigits l) (hne : l ≠ []) : TL.numL (NumText.digitsVal l) = l ↔ (l.head? ≠ some 48 ∨ l = [48]) := by
  constructor
  · intro e
    by_cases z : NumText.digitsVal l = 0
    · rw [z, TL.numL_lt (by decide)] at e
      exact .inr e.symm
    · exact .inl (by rw [← e]; exact num_head _ (by omega))
  · rintro (z | z)
    · exact num_back h hne z
    · subst z; rfl
theorem neg_text {n : Nat} (h : 0 < n) : Str.ofString (toString (-(n : Int))) = S (45 :: TL.numL n) := by
  obtain ⟨m, rfl⟩ : ∃ m, n = m + 1 := ⟨n - 1, by omega⟩
  have e : toString (-((m + 1 : Nat) : Int)) = "-" ++ toString ((m + 1 : Nat) : Int) := by
    show toString (Int.negSucc m) = _
    rfl
  refine TL.ext_tl ?_
  rw [e, TL.tl_ofString]
  have e2 := TL.tl_num (m + 1)
  rw [TL.tl_ofString] at e2
  rw [String.toList_append, List.map_append, e2]
  rfl
theorem allc {i : Nat} {mi : En → R (List D)} {me : ME} {p : Nat → Bool} {ρ0 : En} {w : List Nat} (hi : i < ρ0.length) (hm : mi ρ0 = .ok (chars (S w)) ρ0) (hz : w.length ≤ sizeLine) (h : ∀ c, me (ρ0.set i (some (sD [c]))) = .ok (.bl (p c)) (ρ0.set i (some (sD [c])))) :
    mN gAll (mCons (mLc [i] mi (mgName i) mYes me) mNil) ρ0 = .ok (.bl (w.all p)) ρ0 := by
  let f : D → D := fun d => match d with
    | .str z => .bl (p (z.cps.toList.headD 0))
    | _ => .non
  have e : (chars (S w)).map f = (w.map p).map D.bl := by
    rw [chars_S, List.map_map, List.map_map]
    rfl
  have l := mLc_mapK (f := f) hi hm (by rw [chars_S, List.length_map]; exact hz) (fun d hd => by
    rw [chars_S] at hd
    obtain ⟨c, _, rfl⟩ := List.mem_map.mp hd
    exact h c)
  rw [mN_ap, mCons_ap, l, bind_ok, mNil_ap, bind_ok, bind_ok]
  have g : gAll [.lst ((chars (S w)).map f)] = some (.bl (w.all p)) := by
    rw [e]
    show (asBls ((w.map p).map D.bl)).map (fun bs => D.bl (bs.all id)) = _
    rw [DL.asBls_map]
    show some (D.bl ((w.map p).all id)) = _
    rw [List.all_map]
    rfl
  rw [g, ret_some]
theorem l_em : D.str "" = sD [] := rfl
def Asc (w : List Nat) : Prop := w.length ≤ 600 ∧ ∀ c ∈ w, c < 128
theorem gLen_T {w : List Nat} (h : w.length ≤ sizeLine) : gLen [sD w] = some (.int (w.length : Nat)) := by
  show (if (S w).length ≤ sizeLine then some (D.int (S w).length) else none) = _
  rw [if_pos (by rw [S_len]; exact h), S_len]
theorem int_digs {w : List Nat} (h : digs w = true) (hne : w ≠ []) (hl : w.length ≤ 640) : gInt [sD w] = some (.int (NumText.digitsVal w : Nat)) := by
  show (if (S w).length ≤ 640 then (PySem.intText? (S w)).map D.int else none) = _
  rw [if_pos (by rw [S_len]; exact hl), SX.int_S h hne (by omega)]
  rfl
theorem int_neg {w : List Nat} (h : digs w = true) (hne : w ≠ []) (hl : w.length + 1 ≤ 640) : gInt [sD (45 :: w)] = some (.int (-(NumText.digitsVal w : Nat))) := by
  show (if (S (45 :: w)).length ≤ 640 then (PySem.intText? (S (45 :: w))).map D.int else none) = _
  rw [if_pos (by rw [S_len, List.length_cons]; exact hl), PySem.intText_neg (x := S (45 :: w)) (cs := w) rfl (digs_all h) hne (by rw [S_len, List.length_cons]; omega)]
  rfl
theorem str_nat {n : Nat} (h : n.log2 < 1920) : gStr [.int (n : Int)] = some (sD (TL.numL n)) := by
  show (if (n : Int).natAbs.log2 < 1920 then some (D.str (toString (n : Int))) else none) = _
  rw [if_pos (by simpa using h)]
  congr 2
  exact SX.num_S n
theorem str_negn {n : Nat} (h : n.log2 < 1920) (h0 : 0 < n) : gStr [.int (-(n : Int))] = some (sD (45 :: TL.numL n)) := by
  show (if (-(n : Int)).natAbs.log2 < 1920 then some (D.str (toString (-(n : Int)))) else none) = _
  rw [if_pos (by simpa using h)]
  congr 2
  exact neg_text h0
def fgL : List Nat := (List.range 10).map (48 + ·)
theorem l_fg2 : D.str "0123456789" = sD fgL := rfl
theorem l_0 : D.str "0" = sD [48] := rfl
theorem l_mi : D.str "-" = sD [45] := rfl
theorem l_sl : D.str "/" = sD [47] := rfl
theorem fg_mem (c : Nat) : decide (c ∈ fgL) = (decide (48 ≤ c) && decide (c ≤ 57)) := by
  rw [← Bool.decide_and, decide_eq_decide]
  unfold fgL
  rw [List.mem_map]
  constructor
  · rintro ⟨a, ha, rfl⟩
    have := List.mem_range.mp ha
    omega
  · intro z
    exact ⟨c - 48, List.mem_range.mpr (by omega), by omega⟩
theorem lenS {w : List Nat} (h : Asc w) : w.length ≤ sizeLine := by
  have : sizeLine = 16777216 := by decide
  have := h.1
  omega
theorem ixc0 {c : Nat} {r : List Nat} (h : (c :: r).length ≤ sizeLine) : gIx (sD (c :: r)) (.int 0) = some (sD [c]) := by
  show (if (S (c :: r)).length ≤ sizeLine then (L2.atI (S (c :: r)).cps.toList 0).map (fun c => D.str ⟨#[c]⟩) else none) = _
  rw [if_pos (by rw [S_len]; exact h)]
  have : L2.atI (S (c :: r)).cps.toList 0 = some c := by
    show L2.atI (c :: r) 0 = some c
    simp [L2.atI, L2.ixN]
  rw [this]
  rfl
theorem head48 (c : Nat) (r : List Nat) : decide ((c :: r).head? = some 48) = decide (c = 48) := by rw [decide_eq_decide]; simp
theorem sl_take {w : List Nat} (h : w.length ≤ sizeLine) : gSl (sD w) none (some 1) = some (sD (w.take 1)) := by
  show (if (S w).length ≤ sizeLine then some (D.str (L2.cutS (S w) none (some 1))) else none) = _
  rw [if_pos (by rw [S_len]; exact h)]
  cases w with
  | nil => rfl
  | cons c r =>
    congr 2
theorem sl_drop {w : List Nat} (h : w.length ≤ sizeLine) : gSl (sD w) (some 1) none = some (sD (w.drop 1)) := by
  show (if (S w).length ≤ sizeLine then some (D.str (L2.cutS (S w) (some 1) none)) else none) = _
  rw [if_pos (by rw [S_len]; exact h)]
  cases w with
  | nil => rfl
  | cons c r =>
    congr 2
    refine TL.ext_tl ?_
    show ((c :: r).drop (HT.sIx (S (c :: r)).length 0 (some 1))).take (HT.sIx (S (c :: r)).length (S (c :: r)).length none - HT.sIx (S (c :: r)).length 0 (some 1)) = r
    rw [S_len]
    have e1 : HT.sIx (c :: r).length 0 (some 1) = 1 := by
      simp [HT.sIx]
      try omega
    have e2 : HT.sIx (c :: r).length (c :: r).length none = (c :: r).length := rfl
    rw [e1, e2]
    simp
theorem ten_two (n : Nat) : 10 ^ n ≤ 2 ^ (4 * n) := by
  rw [Nat.pow_mul]
  exact Nat.pow_le_pow_left (by decide) n
def fig (w : List Nat) : List Nat := if w.take 1 = [45] then w.drop 1 else w
def neg (w : List Nat) : Bool := decide (w.take 1 = [45])
def intOk (w : List Nat) : Bool := decide (1 ≤ (fig w).length) && (decide ((fig w).length ≤ 400) && (digs (fig w) && (!decide ((fig w).head? = some 48) || decide (w = [48]))))
def intI (w : List Nat) : Int := if neg w = true then -(NumText.digitsVal (fig w) : Nat) else (NumText.digitsVal (fig w) : Nat)
def intV (w : List Nat) : D := if intOk w = true then .int (intI w) else .non
theorem neg_eq {w : List Nat} (h : w.take 1 = [45]) : w = 45 :: w.drop 1 := by
  cases w with
  | nil => simp at h
  | cons c r => simp at h; rw [h]; rfl
theorem int_str {w : List Nat} (h1 : 1 ≤ (fig w).length) (h2 : (fig w).length ≤ 400) (hd : digs (fig w) = true) :
    gInt [sD w] = some (.int (intI w)) ∧ ∃ z, gStr [.int (intI w)] = some (sD z) ∧ decide (z = w) = (!decide ((fig w).head? = some 48) || decide (w = [48])) := by
  have hne : fig w ≠ [] := by intro z; rw [z] at h1; simp at h1
  have hA := digs_all hd
  have vl := val_lt hA
  have lg2 : (NumText.digitsVal (fig w)).log2 < 1920 := by
    refine Nat.lt_of_lt_of_le (lg (k := 4 * 400) (Nat.lt_of_lt_of_le vl (Nat.le_trans (Nat.pow_le_pow_right (by decide) h2) (ten_two 400))) (by decide)) (by decide)
  have can := num_canon hA hne
  by_cases n : w.take 1 = [45]
  · have ef : fig w = w.drop 1 := if_pos n
    have ei : intI w = -(NumText.digitsVal (fig w) : Nat) := if_pos (decide_eq_true n)
    have ew := neg_eq n
    have nw : decide (w = [48]) = false := decide_eq_false fun z => by rw [z] at n; simp at n
    refine ⟨?_, ?_⟩
    · have := int_neg hd hne (by omega)
      rw [ef] at this
      rw [ei, ef]
      rw [← ew] at this
      exact this
    · rw [ei, nw, Bool.or_false]
      by_cases z : NumText.digitsVal (fig w) = 0
      · refine ⟨[48], ?_, ?_⟩
        · rw [z]
          exact str_nat (n := 0) (by decide)
        · have hh : (fig w).head? = some 48 := by
            by_cases q : (fig w).head? = some 48
            · exact q
            · have := val_pos hA hne q
              omega
          rw [decide_eq_true hh]
          exact decide_eq_false fun q => by rw [← q] at n; simp at n
      · refine ⟨45 :: TL.numL (NumText.digitsVal (fig w)), str_negn lg2 (by omega), ?_⟩
        rw [← decide_not, decide_eq_decide]
        constructor
        · intro q
          have q2 : TL.numL (NumText.digitsVal (fig w)) = fig w := by
            rw [ew] at q
            have := (List.cons.injEq _ _ _ _ ▸ q : (45 : Nat) = 45 ∧ _).2
            rw [← ew, ← ef] at this
            exact this
          rcases can.mp q2 with c | c
          · exact c
          · exfalso
            rw [c] at z
            exact z rfl
        · intro q
          rw [can.mpr (.inl q), ef, ← ew]
  · have ef : fig w = w := if_neg n
    have ei : intI w = (NumText.digitsVal (fig w) : Nat) := if_neg (by simp [neg, n])
    rw [ef] at hne hA hd lg2 can h1 h2
    rw [ei, ef]
    refine ⟨int_digs hd hne (by omega), TL.numL (NumText.digitsVal w), str_nat lg2, ?_⟩
    rw [← decide_not, ← Bool.decide_or, decide_eq_decide]
    exact can
theorem seq_nxK {a b : MS} {ρ ρ1 : En} {o : Out} (h : a ρ = .nx ρ1) (h2 : b ρ1 = o) : msSeq a b ρ = o := by
  rw [msSeq_ap, h]
  exact h2
def IA0 : MS := (msAsg (mIf (mTest (m2 gEq (mSl (.ex (mVar 0)) mNoP (mPart (mK (.int 1)))) (mK (.str "-")))) (mSl (.ex (mVar 0)) (mPart (mK (.int 1))) mNoP) (mVar 0)) (mgName 1))
def IA1 : MS := (msIf (mOrT (mNotT (mTest (mChain gLe gLe (mK (.int 1)) (mN gLen (mCons (mVar 1) mNil)) (mK (.int 400))))) (mNotT (mTru (mN gAll (mCons (mLc [2] (mIter (mVar 1)) (mgName 2) mYes (m2 gIn (mVar 2) (mK (.str "0123456789")))) mNil))))) (msRet (mK .non)) msNil)
def IA2 : MS := (msIf (mTest (m2 gNe (mN gStr (mCons (mN gInt (mCons (mVar 0) mNil)) mNil)) (mVar 0))) (msRet (mK .non)) msNil)
def IA3 : MS := (msRet (mN gInt (mCons (mVar 0) mNil)))
theorem minteger_in_eq : minteger_in = (msSeq IA0 (msSeq IA1 (msSeq IA2 IA3))) := rfl
def IB0 : MS := (msAsg (mIf (mTest (m2 gEq (mSl (.ex (mVar 0)) mNoP (mPart (mK (.int 1)))) (mK (.str "-")))) (mSl (.ex (mVar 0)) (mPart (mK (.int 1))) mNoP) (mVar 0)) (mgName 1))
def IB1 : MS := (msIf (mOrT (mTest (m2 gEq (mVar 1) (mK (.str "")))) (mOrT (mTest (m2 gGt (mN gLen (mCons (mVar 1) mNil)) (mK (.int 400)))) (mNotT (mTru (mN gAll (mCons (mLc [2] (mIter (mVar 1)) (mgName 2) mYes (m2 gIn (mVar 2) (mK (.str "0123456789")))) mNil)))))) (msRet (mK .non)) msNil)
def IB2 : MS := (msIf (mAndT (mTest (m2 gEq (m2 gIx (mVar 1) (mK (.int 0))) (mK (.str "0")))) (mTest (m2 gNe (mVar 0) (mK (.str "0"))))) (msRet (mK .non)) msNil)
def IB3 : MS := (msRet (mN gInt (mCons (mVar 0) mNil)))
theorem m_law_integer_in_eq : m_law_integer_in = (msSeq IB0 (msSeq IB1 (msSeq IB2 IB3))) := rfl
theorem mSl_e (m : ME) (l h : MP) (ρ : En) : mSl (.ex m) l h ρ = (m ρ).bind fun x ρ1 => (l ρ1).bind fun lo ρ2 => (h ρ2).bind fun hi ρ3 => ret (gSl x lo hi) ρ3 := rfl
theorem mNoP_e (ρ : En) : mNoP ρ = .ok none ρ := rfl
theorem mPart_e (m : ME) (ρ : En) : mPart m ρ = (m ρ).bind fun d ρ1 => ret (asI d) ρ1 := rfl
theorem asI_i (i : Int) : asI (.int i) = some (some i) := rfl
theorem ia0 {w : List Nat} (h : Asc w) : IA0 [some (sD w), none, none] = .nx [some (sD w), some (sD (fig w)), none] := by
  have t := sl_take (lenS h)
  have dr := sl_drop (lenS h)
  have e := gEq_S (w.take 1) [45]
  by_cases n : w.take 1 = [45]
  · have ef : fig w = w.drop 1 := if_pos n
    rw [ef]
    rw [decide_eq_true n] at e
    rw [n] at t e
    generalize w.drop 1 = r at dr ⊢
    simp -implicitDefEqProofs [IA0, mSl_e, mNoP_e, mPart_e, asI_i, t, dr, l_mi, e, -gEq_ss]
  · have ef : fig w = w := if_neg n
    rw [ef]
    rw [decide_eq_false n] at e
    simp -implicitDefEqProofs [IA0, mSl_e, mNoP_e, mPart_e, asI_i, t, l_mi, e, -gEq_ss]
theorem fin_of {m : MS} {d : D} {ρ ρ1 : En} {w : D} (h : m [some w, none, none] = .rt d ρ1) : (runM 3 1 [] false m [w]).R ρ = .ok d ρ := by
  unfold runM
  rw [List.append_nil, if_pos (show [w].length = 1 from rfl)]
  have : pad 3 [w] = [some w, none, none] := rfl
  rw [this, h]
  rfl
theorem all_fig {w : List Nat} (h : Asc w) : mN gAll (mCons (mLc [2] (mIter (mVar 1)) (mgName 2) mYes (m2 gIn (mVar 2) (mK (sD fgL)))) mNil) [some (sD w), some (sD (fig w)), none] = .ok (.bl (digs (fig w))) [some (sD w), some (sD (fig w)), none] :=
  allc (i := 2) (ρ0 := [some (sD w), some (sD (fig w)), none]) (w := fig w) (p := fun c => decide (48 ≤ c) && decide (c ≤ 57)) (mi := mIter (mVar 1)) (me := m2 gIn (mVar 2) (mK (sD fgL))) (by simp) rfl (by
    have := lenS h
    unfold fig
    split
    · rw [List.length_drop]; omega
    · exact this) fun c => by
    show (R.ok (sD [c]) _).bind _ = _
    rw [bind_ok, mK_ap, bind_ok, in_one, ret_some, fg_mem]
theorem fig_len {w : List Nat} (h : Asc w) : (fig w).length ≤ sizeLine := by
  have := lenS h
  unfold fig
  split
  · rw [List.length_drop]; omega
  · exact this
abbrev st (w : List Nat) : En := [some (sD w), some (sD (fig w)), none]
def figOk (w : List Nat) : Bool := decide (1 ≤ (fig w).length) && (decide ((fig w).length ≤ 400) && digs (fig w))
theorem ia1 {w : List Nat} (h : Asc w) : IA1 (st w) = if figOk w = true then .nx (st w) else .rt .non (st w) := by
  have ha := all_fig h
  have hl := gLen_T (fig_len h)
  unfold figOk
  by_cases h1 : 1 ≤ (fig w).length
  · have i1 : (1 : Int) ≤ ((fig w).length : Int) := by omega
    by_cases h2 : (fig w).length ≤ 400
    · have i2 : ((fig w).length : Int) ≤ 400 := by omega
      cases hd : digs (fig w) with
      | true =>
        rw [hd] at ha
        simp -implicitDefEqProofs [IA1, l_fg2, ha, hl, h1, h2, i1, i2, -mN_ap, mN_ap gLen]
      | false =>
        rw [hd] at ha
        simp -implicitDefEqProofs [IA1, l_fg2, ha, hl, h1, h2, i1, i2, -mN_ap, mN_ap gLen]
    · have i2 : ¬ ((fig w).length : Int) ≤ 400 := by omega
      simp -implicitDefEqProofs [IA1, l_fg2, ha, hl, h1, h2, i1, i2, -mN_ap, mN_ap gLen]
  · have i1 : ¬ (1 : Int) ≤ ((fig w).length : Int) := by omega
    simp -implicitDefEqProofs [IA1, l_fg2, ha, hl, h1, i1, -mN_ap, mN_ap gLen]
theorem ib1 {w : List Nat} (h : Asc w) : IB1 (st w) = if figOk w = true then .nx (st w) else .rt .non (st w) := by
  have ha := all_fig h
  have hl := gLen_T (fig_len h)
  have he := gEq_S (fig w) []
  have e0 : decide (fig w = []) = !decide (1 ≤ (fig w).length) := by
    cases fig w with
    | nil => rfl
    | cons a b => simp
  rw [e0] at he
  unfold figOk
  by_cases h1 : 1 ≤ (fig w).length
  · rw [decide_eq_true h1] at he
    by_cases h2 : (fig w).length ≤ 400
    · have i2 : ¬ (400 : Int) < ((fig w).length : Int) := by omega
      cases hd : digs (fig w) with
      | true =>
        rw [hd] at ha
        simp -implicitDefEqProofs [IB1, l_fg2, l_em, he, ha, hl, h1, h2, i2, -mN_ap, mN_ap gLen, -gEq_ss]
      | false =>
        rw [hd] at ha
        simp -implicitDefEqProofs [IB1, l_fg2, l_em, he, ha, hl, h1, h2, i2, -mN_ap, mN_ap gLen, -gEq_ss]
    · have i2 : (400 : Int) < ((fig w).length : Int) := by omega
      simp -implicitDefEqProofs [IB1, l_fg2, l_em, he, ha, hl, h1, h2, i2, -mN_ap, mN_ap gLen, -gEq_ss]
  · rw [decide_eq_false h1] at he
    simp -implicitDefEqProofs [IB1, l_fg2, l_em, he, h1, -mN_ap, mN_ap gLen, -gEq_ss]
theorem intOk_fig (w : List Nat) : intOk w = (figOk w && (!decide ((fig w).head? = some 48) || decide (w = [48]))) := by
  unfold intOk figOk
  simp only [Bool.and_assoc]
theorem v_integer_in {w : List Nat} (h : Asc w) (ρ : En) : (Finteger_in [sD w]).R ρ = .ok (intV w) ρ := by
  have s1 := ia1 h
  unfold intV
  rw [intOk_fig]
  cases k : figOk w with
  | false =>
    rw [k] at s1
    refine fin_of (ρ1 := st w) ?_
    rw [minteger_in_eq]
    exact seq_nxK (ia0 h) (seq_rt s1)
  | true =>
    rw [k] at s1
    unfold figOk at k
    rw [Bool.and_eq_true, Bool.and_eq_true] at k
    obtain ⟨gi, z, gs, hz⟩ := int_str (of_decide_eq_true k.1) (of_decide_eq_true k.2.1) k.2.2
    have ne := gNe_S z w
    rw [hz] at ne
    rw [Bool.true_and]
    cases c : (!decide ((fig w).head? = some 48) || decide (w = [48])) with
    | true =>
      rw [c] at ne
      refine fin_of (ρ1 := st w) ?_
      rw [minteger_in_eq]
      refine seq_nxK (ia0 h) (seq_nxK s1 (seq_nxK (ρ1 := st w) ?_ ?_))
      · simp -implicitDefEqProofs [IA2, gi, gs, ne, -gNe_ss]
      · simp -implicitDefEqProofs [IA3, gi]
    | false =>
      rw [c] at ne
      refine fin_of (ρ1 := st w) ?_
      rw [minteger_in_eq]
      refine seq_nxK (ia0 h) (seq_nxK s1 (seq_rt ?_))
      simp -implicitDefEqProofs [IA2, gi, gs, ne, -gNe_ss]
theorem v_law_integer_in {w : List Nat} (h : Asc w) (ρ : En) : (F_law_integer_in [sD w]).R ρ = .ok (intV w) ρ := by
  have s1 := ib1 h
  have s0 : IB0 [some (sD w), none, none] = .nx (st w) := ia0 h
  unfold intV
  rw [intOk_fig]
  cases k : figOk w with
  | false =>
    rw [k] at s1
    refine fin_of (ρ1 := st w) ?_
    rw [m_law_integer_in_eq]
    exact seq_nxK s0 (seq_rt s1)
  | true =>
    rw [k] at s1
    unfold figOk at k
    rw [Bool.and_eq_true, Bool.and_eq_true] at k
    obtain ⟨gi, _⟩ := int_str (of_decide_eq_true k.1) (of_decide_eq_true k.2.1) k.2.2
    obtain ⟨c, x0, hh⟩ : ∃ c, gIx (sD (fig w)) (.int 0) = some (sD [c]) ∧ decide ((fig w).head? = some 48) = decide (c = 48) := by
      have k1 := of_decide_eq_true k.1
      have kl := fig_len h
      cases e : fig w with
      | nil => rw [e] at k1; simp at k1
      | cons c r => rw [e] at kl; exact ⟨c, ixc0 kl, head48 c r⟩
    have e0 := gEq_S [c] [48]
    have d0 : decide ([c] = [48]) = decide (c = 48) := by rw [decide_eq_decide]; simp
    rw [d0, ← hh] at e0
    have n0 := gNe_S w [48]
    rw [Bool.true_and]
    cases a : decide ((fig w).head? = some 48) with
    | false =>
      rw [a] at e0
      refine fin_of (ρ1 := st w) ?_
      rw [m_law_integer_in_eq]
      refine seq_nxK s0 (seq_nxK s1 (seq_nxK (ρ1 := st w) ?_ ?_))
      · simp -implicitDefEqProofs [IB2, l_0, x0, e0, -gEq_ss]
      · simp -implicitDefEqProofs [IB3, gi]
    | true =>
      rw [a] at e0
      cases b : decide (w = [48]) with
      | true =>
        rw [b] at n0
        refine fin_of (ρ1 := st w) ?_
        rw [m_law_integer_in_eq]
        refine seq_nxK s0 (seq_nxK s1 (seq_nxK (ρ1 := st w) ?_ ?_))
        · simp -implicitDefEqProofs [IB2, l_0, x0, e0, n0, -gEq_ss, -gNe_ss]
        · simp -implicitDefEqProofs [IB3, gi]
      | false =>
        rw [b] at n0
        refine fin_of (ρ1 := st w) ?_
        rw [m_law_integer_in_eq]
        refine seq_nxK s0 (seq_nxK s1 (seq_rt ?_))
        simp -implicitDefEqProofs [IB2, l_0, x0, e0, n0, -gEq_ss, -gNe_ss]
theorem sp_len (s : Nat) : ∀ (l cur : List Nat), (∀ w ∈ TL.spl [s] 0 cur l, w.length ≤ cur.length + l.length ∧ ∀ c ∈ w, c ∈ cur ∨ c ∈ l) ∧ (TL.spl [s] 0 cur l).length ≤ l.length + 1
  | [], cur => by
    rw [TL.spl_nil]
    refine ⟨fun w h => ?_, Nat.le_refl _⟩
    rw [List.mem_singleton.mp h]
    exact ⟨by simp, fun c hc => .inl hc⟩
  | c :: r, cur => by
    unfold TL.spl
    split
    · obtain ⟨h1, h2⟩ := sp_len s r []
      have h1' : ∀ w ∈ TL.spl [s] ([s].length - 1) [] r, w.length ≤ ([] : List Nat).length + r.length ∧ ∀ c ∈ w, c ∈ ([] : List Nat) ∨ c ∈ r := h1
      have h2' : (TL.spl [s] ([s].length - 1) [] r).length ≤ r.length + 1 := h2
      refine ⟨fun w h => ?_, by show (TL.spl [s] ([s].length - 1) [] r).length + 1 ≤ (r.length + 1) + 1; omega⟩
      rcases List.mem_cons.mp h with h | h
      · rw [h]; exact ⟨by simp, fun d hd => .inl hd⟩
      · obtain ⟨a, b⟩ := h1' w h
        rw [List.length_nil] at a
        refine ⟨by rw [List.length_cons]; omega, fun d hd => ?_⟩
        rcases b d hd with z | z
        · cases z
        · exact .inr (List.mem_cons_of_mem _ z)
    · obtain ⟨h1, h2⟩ := sp_len s r (cur ++ [c])
      refine ⟨fun w h => ?_, by rw [List.length_cons]; omega⟩
      obtain ⟨a, b⟩ := h1 w h
      rw [List.length_append, List.length_singleton] at a
      refine ⟨by rw [List.length_cons]; omega, fun d hd => ?_⟩
      rcases b d hd with z | z
      · rcases List.mem_append.mp z with z | z
        · exact .inl z
        · rw [List.mem_singleton.mp z]; exact .inr List.mem_cons_self
      · exact .inr (List.mem_cons_of_mem _ z)
end Q
namespace Q
open DL L2 PySem PySem.Spec PyProof.Rows
end Q
namespace Q
open DL L2 PySem PySem.Spec PyProof.Rows
end Q
namespace Q
open DL L2 PySem PySem.Spec PyProof.Rows
section
variable {W K : Nat} {s : LE} {M : List (List Rat)}
def LE.all (s : LE) : List (List Rat) := s.left ++ s.done
end
end Q
namespace Q
theorem Rs.split {b v : Vc} {B : List Vc} (h : Rs (b :: B) v) : ∃ a : Rat, Rs B fun i => v i + a * b i := by
  induction h with
  | zero =>
    refine ⟨0, ?_⟩
    have e : (fun i => (0 : Rat) + 0 * b i) = fun _ => 0 := by funext i; grind
    rw [e]; exact .zero
  | @add u r c _ hm ih =>
    obtain ⟨a, ha⟩ := ih
    rcases List.mem_cons.mp hm with e | m
    · subst e
      refine ⟨a - c, ?_⟩
      have e : (fun i => u i + c * r i + (a - c) * r i) = fun i => u i + a * r i := by funext i; grind
      rw [e]; exact ha
    · refine ⟨a, ?_⟩
      have := ha.comb c (Rs.mem m)
      refine Eq.mp ?_ this
      congr 1
      funext i
      grind
end Q
namespace Q
end Q
namespace Q
end Q
namespace Q
open DL L2 PySem PySem.Spec PyProof.Rows
end Q
namespace Q
open DL L2 PySem PySem.Spec PyProof.Rows
end Q
namespace Q
open DL L2 PySem PySem.Spec PyProof.Rows
end Q
namespace Q
open DL L2 PySem PySem.Spec PyProof.Rows
end Q
namespace Q
open DL L2 PySem PySem.Spec PyProof.Rows
section
def Tw (k : Nat) (x : Rat) : Prop := ∃ N : Int, x * (12 : Rat) ^ k = (N : Rat) ∧ N.natAbs ≤ 84 ^ k
theorem Tw.s {k : Nat} {x : Rat} (h : Tw k x) : Tw (k + 1) x := by
  obtain ⟨N, e, hN⟩ := h
  refine ⟨N * 12, ?_, ?_⟩
  · rw [Rat.intCast_mul, ← e, Rat.pow_succ]
    have : ((12 : Int) : Rat) = 12 := rfl
    rw [this]
    grind
  · rw [Int.natAbs_mul, Nat.pow_succ]
    exact Nat.mul_le_mul hN (by decide)
theorem Tw.up {j k : Nat} {x : Rat} (h : Tw j x) (l : j ≤ k) : Tw k x := by
  obtain ⟨d, rfl⟩ : ∃ d, k = j + d := ⟨k - j, by omega⟩
  clear l
  induction d with
  | zero => exact h
  | succ d ih => exact ih.s
theorem Tw.int {z : Int} (h : z.natAbs ≤ 7) : Tw 1 (z : Rat) := ⟨z * 12, by rw [Rat.intCast_mul]; have : ((12 : Int) : Rat) = 12 := rfl; rw [this]; grind, by rw [Int.natAbs_mul]; show z.natAbs * 12 ≤ 84 ^ 1; omega⟩
theorem Tw.comb {k : Nat} {a b x : Rat} (ha : Tw k a) (hb : Tw k b) (hx : ∃ N : Int, x * (12 : Rat) = (N : Rat) ∧ N.natAbs ≤ 72) : Tw (k + 1) (a + x * b) := by
  obtain ⟨A, ea, hA⟩ := ha
  obtain ⟨B, eb, hB⟩ := hb
  obtain ⟨N, en, hN⟩ := hx
  refine ⟨12 * A + N * B, ?_, ?_⟩
  · rw [Rat.intCast_add, Rat.intCast_mul, Rat.intCast_mul, ← ea, ← eb, ← en, Rat.pow_succ]
    have : ((12 : Int) : Rat) = 12 := rfl
    rw [this]
    grind
  · rw [Nat.pow_succ]
    have h1 : (N * B).natAbs ≤ 72 * 84 ^ k := by rw [Int.natAbs_mul]; exact Nat.mul_le_mul hN hB
    omega
end
end Q
namespace Q
open DL L2 PySem PySem.Spec PyProof.Rows
end Q
namespace Q
open DL L2 PySem PySem.Spec PyProof.Rows
end Q
namespace Q
open DL L2 PySem PySem.Spec PyProof.Rows
end Q
namespace Q
open DL L2 PySem PySem.Spec PyProof.Rows
section
variable {n w : Nat} {A : List (List Rat)} {b v xs : List Rat} {d : D}
def Tc (c : Nat) (x : Rat) : Prop := ∃ N : Int, x * (12 : Rat) ^ 6 = (N : Rat) ∧ N.natAbs ≤ c * 84 ^ 6
theorem Tc.of {x : Rat} (h : Tw 6 x) : Tc 1 x := by
  obtain ⟨N, e, hN⟩ := h
  exact ⟨N, e, by rw [Nat.one_mul]; exact hN⟩
theorem Tc.zero : Tc 0 0 := ⟨0, by simp, by simp⟩
theorem Tc.add {i j : Nat} {x y : Rat} (h : Tc i x) (g : Tc j y) : Tc (i + j) (x + y) := by
  obtain ⟨N, e, hN⟩ := h
  obtain ⟨M, f, hM⟩ := g
  refine ⟨N + M, ?_, ?_⟩
  · rw [Rat.intCast_add, ← e, ← f]
    grind
  · rw [Nat.add_mul]
    omega
theorem Tc.up {i j : Nat} {x : Rat} (h : Tc i x) (l : i ≤ j) : Tc j x := by
  obtain ⟨N, e, hN⟩ := h
  exact ⟨N, e, Nat.le_trans hN (Nat.mul_le_mul_right _ l)⟩
end
end Q
namespace Q
end Q
namespace Q
end Q
namespace Q
end Q
namespace Q
open DL L2 PySem PySem.Spec PyProof.Rows
end Q
namespace Q
open DL L2 PySem PySem.Spec PyProof.Rows
end Q
namespace Q
open DL L2 PySem PySem.Spec PyProof.Rows
section
def Sb (B n : Nat) (d : D) : Prop := ∃ x, d.py = some x ∧ x.showable = true ∧ x.leavesShort 2000 = true ∧ x.bulk ≤ B ∧ x.depth ≤ n
theorem Sb.int {a : Int} (h : a.natAbs < 2 ^ 1900) : Sb 0 1 (.int a) := by
  have l1 := lg h (by decide)
  refine ⟨.int a, rfl, ?_, ?_, ?_, ?_⟩
  · simp only [PyData.showable, decide_eq_true_eq]; omega
  · unfold PyData.leavesShort
    have e : PyData.shown (.int a) = Str.ofString (toString a) := by simp only [PyData.shown] <;> rfl
    rw [e]
    exact decide_eq_true (int_len h)
  · unfold PyData.bulk
    omega
  · simp [PyData.depth]
theorem Sb.all {W n : Nat} : ∀ l : List D, (∀ d ∈ l, Sb W n d) → ∃ xs, pyAll l = some xs ∧ PyData.showableAll xs = true ∧ PyData.leavesShortAll 2000 xs = true ∧ PyData.bulkAll xs ≤ l.length * (W + 1) ∧ PyData.depthAll xs ≤ n
  | [], _ => ⟨[], pyAll_nil, rfl, rfl, by simp [PyData.bulkAll], by simp [PyData.depthAll]⟩
  | d :: l, h => by
    obtain ⟨x, a1, a2, a3, a4, a5⟩ := h d List.mem_cons_self
    obtain ⟨xs, b1, b2, b3, b4, b5⟩ := Sb.all l fun d hd => h d (List.mem_cons_of_mem _ hd)
    refine ⟨x :: xs, ?_, ?_, ?_, ?_, ?_⟩
    · unfold pyAll
      rw [a1, b1]
      rfl
    · simp [PyData.showableAll, a2, b2]
    · simp [PyData.leavesShortAll, a3, b3]
    · rw [List.length_cons, Nat.succ_mul]
      simp only [PyData.bulkAll]
      omega
    · simp only [PyData.depthAll]
      omega
theorem Sb.tup {W n B : Nat} {l : List D} (h : ∀ d ∈ l, Sb W n d) (hB : l.length * (W + 1) ≤ B) : Sb B (n + 1) (.tup l) := by
  obtain ⟨xs, b1, b2, b3, b4, b5⟩ := Sb.all l h
  refine ⟨.tuple xs, ?_, ?_, ?_, ?_, ?_⟩
  · unfold D.py
    rw [b1]; rfl
  · simpa [PyData.showable] using b2
  · simpa [PyData.leavesShort] using b3
  · have : PyData.bulk (.tuple xs) = PyData.bulkAll xs := by simp [PyData.bulk]
    omega
  · simp only [PyData.depth]; omega
theorem Sb.lst {W n B : Nat} {l : List D} (h : ∀ d ∈ l, Sb W n d) (hB : l.length * (W + 1) ≤ B) : Sb B (n + 1) (.lst l) := by
  obtain ⟨xs, b1, b2, b3, b4, b5⟩ := Sb.all l h
  refine ⟨.list xs, ?_, ?_, ?_, ?_, ?_⟩
  · unfold D.py
    rw [b1]; rfl
  · simpa [PyData.showable] using b2
  · simpa [PyData.leavesShort] using b3
  · have : PyData.bulk (.list xs) = PyData.bulkAll xs := by simp [PyData.bulk]
    omega
  · simp only [PyData.depth]; omega
theorem Sb.shown {W n : Nat} {d : D} (h : Sb W n d) (hW : W ≤ 8000) (hn : n ≤ 60) : ∃ z, gRepr [d] = some (.str z) := by
  obtain ⟨x, h1, h2, h3, h4, h5⟩ := h
  have k := PyData.shown_le_bulk 2000 (by decide) x h3
  have sz := szv
  refine ⟨x.shown, ?_⟩
  show (shownD d).map D.str = _
  unfold shownD
  have l : x.shown.length ≤ sizeLine := by omega
  simp only [h1]
  rw [if_pos ⟨h2, l, by omega⟩]
  rfl
theorem Sb.fr {x : Rat} (h : Sz 1900 x) : Sb 2 2 (Q.fr x) := Sb.tup (W := 0) (fun d hd => by
  simp only [List.mem_cons, List.not_mem_nil, or_false] at hd
  rcases hd with rfl | rfl
  · exact Sb.int h.1
  · exact Sb.int h.2) (by simp)
end
end Q
namespace Q
open DL L2 PySem PySem.Spec PyProof.Rows
def turnT (s : Int) (t : Tie) : Tie := (t.1, t.2.map fun f => s * f)
structure TsOk (n : Nat) (ps : List (List Int)) (w : List Nat) (F : List Tie) : Prop where
  hp : ∀ p ∈ ps, p.length = n + 1 ∧ ∀ a ∈ p, a.natAbs < 2 ^ 10
  hw : w.length = ps.length
  hl : ps.length ≤ 12
  h3 : Sg3 w
  hF : F.length ≤ 1000000
  ht : ∀ t ∈ F, t.1.length ≤ 5 ∧ (∀ a ∈ t.1, a < ps.length) ∧ t.2.length = t.1.length ∧ ∀ a ∈ t.2, a.natAbs < 2 ^ 2000
section
variable {n : Nat} {ps : List (List Int)} {w : List Nat} {F : List Tie}
theorem TsOk.turn (g : TsOk n ps w F) {t : Tie} (h : t ∈ F) {s : Int} (hs : s = 1 ∨ s = -1) : TieOk n ps w t.1 (turnT s t).2 := by
  obtain ⟨t1, t2, t3, t4⟩ := g.ht t h
  refine ⟨g.hp, g.hw, g.hl, g.h3, t2, by unfold turnT; rw [List.length_map]; exact t3, fun f hf => ?_⟩
  obtain ⟨a, ha, rfl⟩ := List.mem_map.mp hf
  have := t4 a ha
  have p : (2 : Nat) ^ 2000 ≤ 2 ^ 2001 := Nat.pow_le_pow_right (by decide) (by decide)
  rcases hs with rfl | rfl
  · rw [Int.one_mul]; exact Nat.lt_of_lt_of_le this p
  · rw [Int.neg_mul, Int.one_mul, Int.natAbs_neg]; exact Nat.lt_of_lt_of_le this p
end
end Q
namespace Q
open DL L2 PySem PySem.Spec PyProof.Rows
end Q
namespace Q
open DL L2 PySem PySem.Spec PyProof.Rows
end Q
namespace Q
open DL L2 PySem PySem.Spec PyProof.Rows
end Q
namespace Q
open DL L2 PySem PySem.Spec PyProof.Rows
section
variable {n : Nat} {ps : List (List Int)} {w : List Nat} {F : List Tie}
theorem TsOk.plain (g : TsOk n ps w F) {t : Tie} (h : t ∈ F) : TieOk n ps w t.1 t.2 := by
  have := g.turn h (s := 1) (.inl rfl)
  have e1 : (turnT 1 t).2 = t.2 := by unfold turnT; simp
  rw [e1] at this
  exact this
end
end Q
namespace Q
open DL L2 PySem PySem.Spec PyProof.Rows
end Q
namespace Q
open DL L2 PySem PySem.Spec PyProof.Rows
end Q
namespace Q
open DL L2 PySem PySem.Spec PyProof.Rows
end Q
namespace Q
open DL L2 PySem PySem.Spec PyProof.Rows
end Q
namespace Q
open DL L2 PySem PySem.Spec PyProof.Rows
end Q
namespace Q
open DL L2 PySem PySem.Spec PyProof.Rows
end Q
namespace Q
open DL L2 PySem PySem.Spec PyProof.Rows
end Q
namespace Q
open DL L2 PySem PySem.Spec PyProof.Rows
theorem clr_prim {xs : List Int} (h : gcdL xs 0 ≠ 0) : clr xs = xs.map fun a => a.fdiv (gcdL xs 0 : Nat) := by
  unfold clr
  by_cases c : 1 < gcdL xs 0
  · rw [if_pos c]
    rfl
  · rw [if_neg c]
    have e : gcdL xs 0 = 1 := by omega
    rw [e]
    have : (fun a : Int => a.fdiv ((1 : Nat) : Int)) = id := by
      funext a
      exact Int.fdiv_one a
    rw [this, List.map_id]
theorem v_without {xs : List Int} (hx : ∀ a ∈ xs, a.natAbs < 2 ^ 8000) (hl : xs.length ≤ 1000) (ρ : En) : (Fwithout_divisor [dl xs]).R ρ = .ok (pl (clr xs)) ρ := by
  have sz := szv
  obtain ⟨o', e⟩ := clr_loop (F := Fdivisor) (fun g a h ρ => by rw [e_div]; exact qDivisor_v (g : Int) a h ρ) (some (dl xs)) xs 0 none hx
  have e' : loopL (mgName 2) mwithout_divisor_b0 (xs.map D.int) [some (dl xs), some (.int 0), none] = .nx [some (dl xs), some (.int (gcdL xs 0 : Nat)), o'] := e
  have glt := gcdL_lt hx
  suffices h : mwithout_divisor [some (dl xs), none, none] = .rt (pl (clr xs)) [some (dl xs), some (.int (gcdL xs 0 : Nat)), o'] by
    unfold Fwithout_divisor
    rw [runM_rt (ds := [dl xs]) (np := 1) (dd := []) (ρ := [some (dl xs), some (.int (gcdL xs 0 : Nat)), o']) rfl h]
    rfl
  by_cases c : gcdL xs 0 = 0
  · have ec : clr xs = xs := by
      unfold clr
      rw [if_neg (by omega)]
    rw [ec]
    have gt : gTuple [.lst (xs.map D.int)] = some (pl xs) := rfl
    rw [c] at e' ⊢
    have e2 : loopL (mgName 2) mwithout_divisor_b0 (xs.map D.int) [some (.lst (xs.map D.int)), some (.int 0), none] = .nx [some (.lst (xs.map D.int)), some (.int 0), o'] := e'
    show mwithout_divisor [some (.lst (xs.map D.int)), none, none] = .rt (pl xs) [some (.lst (xs.map D.int)), some (.int 0), o']
    generalize pl xs = P at *
    generalize xs.map D.int = X at *
    unfold mwithout_divisor
    generalize mwithout_divisor_b0 = B at *
    simp -implicitDefEqProofs [gIter, e2, gt]
  · have e6 := mLc_map (vs := [2]) (g := mgName 2) (me := m2 gDiv (mVar 2) (mVar 1)) (mi := mIter (mVar 0)) (as := xs) (enc := D.int)
      (ρ0 := [some (dl xs), some (.int (gcdL xs 0 : Nat)), o']) (ρ := [some (dl xs), some (.int (gcdL xs 0 : Nat)), o'])
      (st := fun a => [some (dl xs), some (.int (gcdL xs 0 : Nat)), some (.int a)]) (f := fun a => D.int (a.fdiv (gcdL xs 0 : Nat)))
      (by simp [gIter]) (by omega) (fun _ => rfl) (fun a _ => rfl) (fun a ha => by
        have := gDiv_sm (a := a) (b := (gcdL xs 0 : Nat)) (j := 8000) (by omega) (by simpa using glt) (by decide) (by decide)
        generalize gcdL xs 0 = g at *
        simp -implicitDefEqProofs [this])
    have em : xs.map (fun a => D.int (a.fdiv (gcdL xs 0 : Nat))) = (clr xs).map D.int := by
      rw [clr_prim c, List.map_map]
      rfl
    rw [em] at e6
    have c' : ¬ ((gcdL xs 0 : Nat) : Int) = 0 := by omega
    have gt : gTuple [.lst ((clr xs).map D.int)] = some (pl (clr xs)) := rfl
    have gi : gIter (dl xs) = some (xs.map D.int) := rfl
    generalize ((gcdL xs 0 : Nat) : Int) = g at *
    generalize (clr xs).map D.int = Z at *
    generalize pl (clr xs) = P at *
    generalize dl xs = X at *
    unfold mwithout_divisor
    generalize mwithout_divisor_b0 = B at *
    simp -implicitDefEqProofs [gi, e', c', e6, gt]
end Q
namespace Q
open DL L2 PySem PySem.Spec PyProof.Rows
def lcmF : List Rat → Nat → Nat
  | [], c => c
  | y :: ys, c => lcmF ys (c / Int.gcd c y.den * y.den)
theorem lcm_step {c : Nat} {y : Rat} (hc : 0 < c) : 0 < c / Int.gcd c y.den * y.den := by
  have h1 : Int.gcd (c : Int) (y.den : Int) ∣ c := by
    have := Int.gcd_dvd_left (a := (c : Int)) (b := (y.den : Int))
    exact Int.natCast_dvd_natCast.mp this
  have h2 := Nat.le_of_dvd hc h1
  have h3 : 0 < Int.gcd (c : Int) (y.den : Int) := Nat.pos_of_dvd_of_pos h1 hc
  exact Nat.mul_pos (Nat.div_pos h2 h3) y.den_pos
theorem cr_loop {X : D} {K : Nat} : ∀ (ys : List Rat) (c j : Nat) (o2 o3 : Option D), (∀ y ∈ ys, Sz K y) → 0 < c → c < 2 ^ j → j + ys.length * K ≤ 7900 → 0 < j →
    ∃ o2' o3', loopL (mgTup 2 (mgCons (mgName 2) (mgCons (mgName 3) mgNil))) mcleared_row_b0 (ys.map fr) [some X, some (.int (c : Nat)), o2, o3] = .nx [some X, some (.int (lcmF ys c : Nat)), o2', o3'] ∧ 0 < lcmF ys c ∧ lcmF ys c < 2 ^ (j + ys.length * K)
  | [] => fun c j o2 o3 _ hc hj _ _ => ⟨o2, o3, rfl, hc, by show c < 2 ^ (j + 0 * K); rw [Nat.zero_mul, Nat.add_zero]; exact hj⟩
  | y :: ys => fun c j o2 o3 hy hc hj hK k0 => by
    rw [List.length_cons, Nat.succ_mul] at hK ⊢
    have sy := hy y List.mem_cons_self
    have hb : y.den < 2 ^ K := sy.2
    have hg : Int.gcd (c : Int) (y.den : Int) ≤ c := Nat.le_of_dvd hc (Int.natCast_dvd_natCast.mp (Int.gcd_dvd_left (a := (c : Int)) (b := (y.den : Int))))
    have hg0 : 0 < Int.gcd (c : Int) (y.den : Int) := Nat.pos_of_dvd_of_pos (Int.natCast_dvd_natCast.mp (Int.gcd_dvd_left (a := (c : Int)) (b := (y.den : Int)))) hc
    have hq : c / Int.gcd (c : Int) (y.den : Int) < 2 ^ j := Nat.lt_of_le_of_lt (Nat.div_le_self _ _) hj
    have hnew : c / Int.gcd (c : Int) (y.den : Int) * y.den < 2 ^ (j + K) := by
      rw [Nat.pow_add]
      exact Nat.mul_lt_mul_of_lt_of_le hq (Nat.le_of_lt hb) (Nat.two_pow_pos K)
    obtain ⟨o2', o3', e, q1, q2⟩ := cr_loop (X := X) (K := K) ys (c / Int.gcd (c : Int) (y.den : Int) * y.den) (j + K) (some (.int y.num)) (some (.int (y.den : Nat))) (fun z hz => hy z (List.mem_cons_of_mem _ hz)) (lcm_step hc) hnew (by omega) (by omega)
    refine ⟨o2', o3', ?_, q1, by rw [show j + (ys.length * K + K) = j + K + ys.length * K by omega]; exact q2⟩
    rw [List.map_cons, show lcmF (y :: ys) c = lcmF ys (c / Int.gcd (c : Int) (y.den : Int) * y.den) from rfl, ← e]
    have vd := fun ρ => qDivisor_v (c : Int) (y.den : Int) (s8 (i := K) (by simpa using hb) (by omega)) ρ
    rw [← e_div] at vd
    have d1 := gDiv_sm (a := (c : Int)) (b := ((Int.gcd (c : Int) (y.den : Int) : Nat) : Int)) (j := j) (by omega) (by rw [Int.natAbs_natCast]; exact Nat.lt_of_le_of_lt hg hj) (by omega) (by omega)
    have e1 : (c : Int).fdiv ((Int.gcd (c : Int) (y.den : Int) : Nat) : Int) = ((c / Int.gcd (c : Int) (y.den : Int) : Nat) : Int) := by
      rw [Int.fdiv_eq_ediv_of_nonneg _ (by omega)]
      rfl
    rw [e1] at d1
    have m1 := mulS (a := ((c / Int.gcd (c : Int) (y.den : Int) : Nat) : Int)) (b := (y.den : Int)) (i := j) (j := K) (by rw [Int.natAbs_natCast]; exact hq) (by rw [Int.natAbs_natCast]; exact hb) (by omega)
    have e2 : ((c / Int.gcd (c : Int) (y.den : Int) : Nat) : Int) * (y.den : Int) = ((c / Int.gcd (c : Int) (y.den : Int) * y.den : Nat) : Int) := by rw [Int.natCast_mul]
    rw [e2] at m1
    have gg : mgTup 2 (mgCons (mgName 2) (mgCons (mgName 3) mgNil)) (fr y) [some X, some (.int (c : Nat)), o2, o3] = .ok () [some X, some (.int (c : Nat)), some (.int y.num), some (.int (y.den : Nat))] := by
      show mgTup 2 (mgCons (mgName 2) (mgCons (mgName 3) mgNil)) (.tup [.int y.num, .int (y.den : Int)]) _ = _
      generalize y.num = a
      generalize (y.den : Int) = b
      simp
    refine loop_step gg ?_
    generalize ((c / Int.gcd (c : Int) (y.den : Int) * y.den : Nat) : Int) = n2 at *
    generalize ((c / Int.gcd (c : Int) (y.den : Int) : Nat) : Int) = n1 at *
    generalize ((Int.gcd (c : Int) (y.den : Int) : Nat) : Int) = n0 at *
    generalize (y.den : Int) = b at *
    generalize (c : Int) = ci at *
    generalize y.num = a at *
    simp -implicitDefEqProofs [mcleared_row_b0, mCall_R, vd, d1, m1]
end Q
namespace Q
open DL L2 PySem PySem.Spec PyProof.Rows
def wholeR (v : List Rat) : List Int := v.map fun y => y.num * ((lcmF v 1 / y.den : Nat) : Int)
theorem v_clearedRow {v : List Rat} {K : Nat} (hv : ∀ y ∈ v, Sz K y) (hl : v.length ≤ 100) (hK : 1 + v.length * K + K ≤ 7000) (ρ : En) : (Fcleared_row [frs v]).R ρ = .ok (pl (clr (wholeR v))) ρ := by
  have sz := szv
  obtain ⟨o2, o3, e, q1, q2⟩ := cr_loop (X := frs v) (K := K) v 1 1 none none hv (by decide) (by decide) (by omega) (by decide)
  have gi : gIter (frs v) = some (v.map fr) := rfl
  have lc := mLc_map (as := v) (enc := fr) (vs := [2, 3]) (g := mgTup 2 (mgCons (mgName 2) (mgCons (mgName 3) mgNil))) (mi := mIter (mVar 0)) (me := mcleared_row_e1) (ρ0 := [some (frs v), some (.int (lcmF v 1 : Nat)), o2, o3]) (ρ := [some (frs v), some (.int (lcmF v 1 : Nat)), o2, o3])
    (st := fun y => [some (frs v), some (.int (lcmF v 1 : Nat)), some (.int y.num), some (.int (y.den : Nat))]) (f := fun y => .int (y.num * ((lcmF v 1 / y.den : Nat) : Int))) (by
      generalize v.map fr = Z at *
      generalize frs v = X at *
      simp -implicitDefEqProofs [gi]) (by omega) (fun _ => rfl) (fun y _ => by
      show mgTup 2 (mgCons (mgName 2) (mgCons (mgName 3) mgNil)) (.tup [.int y.num, .int (y.den : Int)]) _ = _
      generalize y.num = a
      generalize (y.den : Int) = b
      generalize frs v = X at *
      simp [wipeE]) (fun y hy => by
      have sy := hv y hy
      have hd := y.den_pos
      have d1 := gDiv_sm (a := (lcmF v 1 : Nat)) (b := (y.den : Int)) (j := K + 1) (by omega) (by rw [Int.natAbs_natCast]; exact Nat.lt_of_lt_of_le sy.2 (Nat.pow_le_pow_right (by decide) (by omega))) (by omega) (by omega)
      have e1 : ((lcmF v 1 : Nat) : Int).fdiv (y.den : Int) = ((lcmF v 1 / y.den : Nat) : Int) := by
        rw [Int.fdiv_eq_ediv_of_nonneg _ (by omega)]
        rfl
      rw [e1] at d1
      have m1 := mulS (a := y.num) (b := ((lcmF v 1 / y.den : Nat) : Int)) (i := K) (j := 1 + v.length * K) sy.1 (by rw [Int.natAbs_natCast]; exact Nat.lt_of_le_of_lt (Nat.div_le_self _ _) q2) (by omega)
      generalize y.num * ((lcmF v 1 / y.den : Nat) : Int) = m at *
      generalize ((lcmF v 1 / y.den : Nat) : Int) = n1 at *
      generalize ((lcmF v 1 : Nat) : Int) = n0 at *
      generalize (y.den : Int) = b at *
      generalize y.num = a at *
      generalize frs v = X at *
      simp -implicitDefEqProofs [mcleared_row_e1, d1, m1])
  have em : v.map (fun y => D.int (y.num * ((lcmF v 1 / y.den : Nat) : Int))) = (wholeR v).map D.int := by
    unfold wholeR
    rw [List.map_map]
    rfl
  rw [em] at lc
  have vw := fun ρ => v_without (xs := wholeR v) (fun a ha => by
    obtain ⟨y, hy, rfl⟩ := List.mem_map.mp ha
    have sy := hv y hy
    rw [Int.natAbs_mul, Int.natAbs_natCast]
    have h1 : lcmF v 1 / y.den < 2 ^ (1 + v.length * K) := Nat.lt_of_le_of_lt (Nat.div_le_self _ _) q2
    have h2 : y.num.natAbs * (lcmF v 1 / y.den) < 2 ^ (K + (1 + v.length * K)) := by
      rw [Nat.pow_add]
      exact Nat.mul_lt_mul_of_lt_of_le sy.1 (Nat.le_of_lt h1) (Nat.two_pow_pos _)
    exact Nat.lt_of_lt_of_le h2 (Nat.pow_le_pow_right (by decide) (by omega))) (by unfold wholeR; rw [List.length_map]; omega) ρ
  have h : mcleared_row (pad 4 [frs v]) = .rt (pl (clr (wholeR v))) [some (frs v), some (.int (lcmF v 1 : Nat)), o2, o3] := by
    show mcleared_row [some (frs v), none, none, none] = _
    have e' : loopL (mgTup 2 (mgCons (mgName 2) (mgCons (mgName 3) mgNil))) mcleared_row_b0 (v.map fr) [some (frs v), some (.int 1), none, none] = .nx [some (frs v), some (.int (lcmF v 1 : Nat)), o2, o3] := e
    have vw' : ∀ ρ, (Fwithout_divisor [.lst ((wholeR v).map D.int)]).R ρ = .ok (pl (clr (wholeR v))) ρ := vw
    generalize pl (clr (wholeR v)) = P at *
    generalize (wholeR v).map D.int = Z at *
    generalize v.map fr = Z0 at *
    generalize frs v = X at *
    generalize ((lcmF v 1 : Nat) : Int) = n0 at *
    unfold mcleared_row
    generalize mcleared_row_b0 = B at *
    simp -implicitDefEqProofs [gi, e', mCall_R, lc, vw']
  rw [show Fcleared_row [frs v] = _ from runM_rt (ds := [frs v]) (np := 1) (dd := []) rfl h]
  rfl
end Q
namespace Q
open DL PySem PySem.Spec PyProof.Rows
def intP (p : List Nat) : PyData := if intOk p = true then .int (intI p) else .none
theorem py_ints : ∀ ps : List (List Nat), pyAll (ps.map intV) = some (ps.map intP)
  | [] => rfl
  | p :: r => by
    rw [List.map_cons]
    unfold pyAll
    rw [py_ints r]
    have : (intV p).py = some (intP p) := by unfold intV intP; cases intOk p <;> rfl
    rw [this]
    rfl
theorem lay_ints : ∀ ps : List (List Nat), PyData.canLayAll0 (ps.map intP) = true ∧ PyData.depthAll (ps.map intP) = 0
  | [] => ⟨rfl, rfl⟩
  | p :: r => by
    rw [List.map_cons]
    unfold PyData.canLayAll0 PyData.depthAll
    rw [(lay_ints r).1, (lay_ints r).2]
    unfold intP
    cases intOk p <;> exact ⟨rfl, rfl⟩
theorem none_in (ps : List (List Nat)) : gIn .non (.lst (ps.map intV)) = some (.bl (ps.any fun p => !intOk p)) := by
  show (inD .non (.lst (ps.map intV))).map D.bl = _
  have e : inD .non (.lst (ps.map intV)) = (match D.py .non, pyAll (ps.map intV) with
    | some x, some ys => if SeqAt.shaped x = true ∧ SeqAt.shaped (.list ys) = true then some (ys.any fun z => PyData.eqv z x) else none
    | _, _ => none) := rfl
  have s1 : SeqAt.shaped .none = true := by decide
  have s2 : SeqAt.shaped (.list (ps.map intP)) = true := by
    unfold SeqAt.shaped PyData.canLay0
    rw [(lay_ints ps).1, Bool.true_and]
    unfold PyData.depth
    rw [(lay_ints ps).2]
    rfl
  have e2 : D.py .non = some .none := rfl
  rw [e, e2, py_ints]
  show (if _ then some _ else none : Option Bool).map D.bl = _
  rw [if_pos ⟨s1, s2⟩]
  show some (D.bl _) = _
  congr 2
  rw [List.any_map]
  congr 1
  funext p
  show PyData.eqv (intP p) .none = _
  unfold intP
  cases intOk p <;> rfl
theorem intI_lt {p : List Nat} (h : intOk p = true) : (intI p).natAbs < 2 ^ 1900 := by
  rw [intOk_fig] at h
  rw [Bool.and_eq_true] at h
  have k := h.1
  unfold figOk at k
  rw [Bool.and_eq_true, Bool.and_eq_true] at k
  have v := val_lt (digs_all k.2.2)
  have l2 := of_decide_eq_true k.2.1
  have b : NumText.digitsVal (fig p) < 2 ^ 1900 := Nat.lt_of_lt_of_le v (Nat.le_trans (Nat.pow_le_pow_right (by decide) l2) (Nat.le_trans (ten_two 400) (Nat.pow_le_pow_right (by decide) (by decide))))
  unfold intI
  split
  · rw [Int.natAbs_neg]; exact b
  · exact b
abbrev spl47 (w : List Nat) : List (List Nat) := TL.spl [47] 0 [] w
theorem split_sl {w : List Nat} (h : w.length ≤ 5000) : gSplit (sD w) [sD [47]] = some (.lst ((spl47 w).map sD)) := by
  have sz := szv
  show (if (((S [47] : Str).length == 0) = false ∧ (S w).length + 2 ≤ sizeLine) then some (D.lst ((Txt.split (S w) (S [47])).map D.str)) else none) = _
  rw [if_pos ⟨rfl, by rw [S_len]; omega⟩, SX.split_S (by decide) (by decide), List.map_map]
  rfl
theorem spl_no : ∀ (u cur : List Nat), 47 ∉ u → TL.spl [47] 0 cur u = [cur ++ u]
  | [], cur, _ => by rw [TL.spl_nil, List.append_nil]
  | c :: r, cur, h => by
    have hc : c ≠ 47 := fun z => h (z ▸ List.mem_cons_self)
    have e : TL.pre [47] (c :: r) = false := by simp [TL.pre, hc]
    unfold TL.spl
    rw [if_neg (by rw [e]; decide), spl_no r (cur ++ [c]) (fun z => h (List.mem_cons_of_mem _ z))]
    simp
theorem spl_two : ∀ (u cur v : List Nat), 47 ∉ u → 47 ∉ v → TL.spl [47] 0 cur (u ++ 47 :: v) = [cur ++ u, v]
  | [], cur, v, _, hv => by
    rw [List.nil_append, List.append_nil]
    unfold TL.spl
    rw [if_pos (by simp [TL.pre])]
    have := spl_no v [] hv
    show cur :: TL.spl [47] 0 [] v = _
    rw [this]; rfl
  | c :: r, cur, v, h, hv => by
    have hc : c ≠ 47 := fun z => h (z ▸ List.mem_cons_self)
    rw [List.cons_append]
    have e : TL.pre [47] (c :: (r ++ 47 :: v)) = false := by simp [TL.pre, hc]
    unfold TL.spl
    rw [if_neg (by rw [e]; decide), spl_two r (cur ++ [c]) v (fun z => h (List.mem_cons_of_mem _ z)) hv]
    simp
def okRead : List (List Nat) → Bool
  | [p] => intOk p
  | [p, q] => intOk p && (intOk q && (decide (2 ≤ intI q) && decide (Int.gcd (intI p) (intI q) = 1)))
  | _ => false
def valRead : List (List Nat) → D
  | [p] => .tup [.int (intI p), .int 1]
  | [p, q] => .tup [.int (intI p), .int (intI q)]
  | _ => .non
abbrev Mal : Xn := ⟨"Malformed", [("at", .int 0)]⟩
theorem tell0 : TellOk "word " 0 := by
  have sz := szv
  refine ⟨by decide, ?_, ?_⟩
  · have : (Str.empty ++ ("word " : Str)).length = 5 := by decide +kernel
    rw [this, sz]; decide
  · have : (Str.empty ++ ("word " : Str) ++ ((toString (0 : Int) : String) : Str)).length = 6 := by decide +kernel
    rw [this, sz]; decide
theorem b8000 {a : Int} (h : a.natAbs < 2 ^ 1900) : a.natAbs < 2 ^ 8000 := s8 h (by decide)
theorem isN1 (a : Int) : isNum a 1 = true := by simp [isNum]
theorem isN2 {a b : Int} (h : 2 ≤ b) : isNum a b = decide (Int.gcd a b = 1) := by
  unfold isNum
  rw [decide_eq_true (show (1 : Int) ≤ b by omega), Bool.true_and]
abbrev Erd (W P : D) (o2 o3 : Option D) : En := [some W, some P, o2, o3]
theorem isNon_int (i : Int) : gIs (.int i) .non = some (.bl false) := rfl
theorem isNon_i (i : Int) : isNon (.int i) = false := rfl
theorem isNon_n : isNon .non = true := rfl
theorem spl_ne : ∀ (l cur : List Nat), TL.spl [47] 0 cur l ≠ []
  | [], cur => by rw [TL.spl_nil]; simp
  | c :: r, cur => by
    unfold TL.spl
    split
    · simp
    · exact spl_ne r (cur ++ [c])
theorem v_read {w : List Nat} (hw : w.length ≤ 5000) (hp : ∀ p ∈ spl47 w, Asc p) (ρ : En) : (Fread_number [sD w]).R ρ = if okRead (spl47 w) = true then .ok (valRead (spl47 w)) ρ else .ex Mal ρ := by
  have sz := szv
  have sp := split_sl hw
  have isn : Fis_number = qIsNumber := e_isn
  have wl : (spl47 w).length ≤ w.length + 1 := (sp_len 47 w []).2
  have t0 := tell0
  have rx : ∀ σ : En, (msRaiseX "Malformed" "at" "word " (mCons (mK (.int 0)) mNil)) σ = .ex Mal σ := fun σ => by
    unfold msRaiseX
    simp -implicitDefEqProofs [t0]
  have s0 : mread_number_s0 [some (sD w), none, none, none] = .nx (Erd (sD w) (.lst ((spl47 w).map sD)) none none) := by
    have l : D.str "/" = sD [47] := l_sl
    rw [← l] at sp
    have st : isStr (sD w) = true := rfl
    generalize sD w = W at *
    generalize D.lst ((spl47 w).map sD) = P at *
    simp -implicitDefEqProofs [mread_number_s0, mM, st, sp]
  have gl : gLen [.lst ((spl47 w).map sD)] = some (.int ((spl47 w).length : Nat)) := by
    show some (D.int _) = _
    rw [List.length_map]
  have fin : ∀ (o : Out), mread_number [some (sD w), none, none, none] = o → (∀ d ρ1, o = .rt d ρ1 → (Fread_number [sD w]).R ρ = .ok d ρ) ∧ (∀ ρ1, o = .ex Mal ρ1 → (Fread_number [sD w]).R ρ = .ex Mal ρ) := by
    intro o ho
    refine ⟨fun d ρ1 e => ?_, fun ρ1 e => ?_⟩
    · have := runM_rt (n := 4) (np := 1) (dd := []) (fr := false) (m := mread_number) (ds := [sD w]) (d := d) (ρ := ρ1) rfl (ho.trans e)
      unfold Fread_number
      rw [this, Ret.R_rt]
    · have := runM_ex (n := 4) (np := 1) (dd := []) (fr := false) (m := mread_number) (ds := [sD w]) (x := Mal) (ρ := ρ1) rfl (ho.trans e)
      unfold Fread_number
      rw [this, Ret.R_ex]
  have gi : ∀ p : List Nat, Asc p → (gIs (intV p) .non = some (.bl (!intOk p))) := fun p _ => by
    unfold intV
    cases intOk p <;> rfl
  have hw0 : spl47 w ≠ [] := spl_ne w []
  have big : 2 ≤ sizeLine := by omega
  have n0 : gIs .non .non = some (.bl true) := rfl
  have fx : ∀ (I J : Option D) (P : D), mread_number [some (sD w), none, none, none] = .ex Mal [some (sD w), some P, I, J] → (Fread_number [sD w]).R ρ = .ex Mal ρ := fun I J P h => (fin _ rfl).2 _ h
  generalize hps : spl47 w = ps at *
  match ps, hps with
  | [], _ => exact absurd rfl hw0
  | [p], _ =>
    have hp0 := hp p List.mem_cons_self
    have vi := fun ρ => v_integer_in hp0 ρ
    have g0 := gi p hp0
    have ix : gIx (.lst ([p].map sD)) (.int 0) = some (sD p) := rfl
    show _ = if intOk p = true then R.ok (D.tup [.int (intI p), .int 1]) ρ else _
    cases k : intOk p with
    | true =>
      have ev : intV p = .int (intI p) := by unfold intV; rw [if_pos k]
      rw [ev] at vi
      have b := b8000 (intI_lt k)
      have vn := fun ρ => qIsNumber_v (a := intI p) (b := 1) (s8 (i := 1) (by decide) (by decide)) ρ
      rw [isN1] at vn
      rw [← isn] at vn
      have vn' : ∀ ρ, (Fis_number [.tup [.int (intI p), .int 1]]).R ρ = .ok (.bl true) ρ := vn
      rw [if_pos rfl]
      generalize sD p = Pp at *
      generalize D.lst ([p].map sD) = PL at *
      generalize sD w = W at *
      refine (fin _ rfl).1 _ (Erd W PL (some (.int (intI p))) (some (.int 1))) ?_
      unfold mread_number
      rw [seq_nx s0]
      simp -implicitDefEqProofs [mread_number_s1, mread_number_s2, mread_number_s3, mread_number_s4, mread_number_s5, mCall_R, gl, ix, vi, isNon_i, isNon_n, isNon_int, vn', big]
    | false =>
      have ev : intV p = .non := by unfold intV; rw [if_neg (by rw [k]; decide)]
      rw [ev] at vi
      rw [if_neg (by decide)]
      generalize sD p = Pp at *
      generalize D.lst ([p].map sD) = PL at *
      generalize sD w = W at *
      refine (fin _ rfl).2 (Erd W PL (some .non) (some (.int 1))) ?_
      unfold mread_number
      rw [seq_nx s0]
      simp -implicitDefEqProofs [mread_number_s1, mread_number_s2, mread_number_s3, mread_number_s4, mCall_R, gl, ix, vi, rx, n0, isNon_i, isNon_n]
  | [p, q], _ =>
    have hp0 := hp p List.mem_cons_self
    have hq0 := hp q (List.mem_cons_of_mem _ List.mem_cons_self)
    have vi := fun ρ => v_integer_in hp0 ρ
    have vj := fun ρ => v_integer_in hq0 ρ
    have ix : gIx (.lst ([p, q].map sD)) (.int 0) = some (sD p) := rfl
    have iy : gIx (.lst ([p, q].map sD)) (.int 1) = some (sD q) := rfl
    show _ = if (intOk p && (intOk q && (decide (2 ≤ intI q) && decide (Int.gcd (intI p) (intI q) = 1)))) = true then R.ok (D.tup [.int (intI p), .int (intI q)]) ρ else _
    cases k : intOk p with
    | false =>
      have ev : intV p = .non := by unfold intV; rw [if_neg (by rw [k]; decide)]
      rw [ev] at vi
      rw [Bool.false_and, if_neg (by decide)]
      generalize sD p = Pp at *
      generalize sD q = Qq at *
      generalize D.lst ([p, q].map sD) = PL at *
      generalize sD w = W at *
      generalize intV q = Vq at *
      refine (fin _ rfl).2 (Erd W PL (some .non) (some Vq)) ?_
      unfold mread_number
      rw [seq_nx s0]
      simp -implicitDefEqProofs [mread_number_s1, mread_number_s2, mread_number_s3, mread_number_s4, mCall_R, gl, ix, iy, vi, vj, rx, n0, isNon_i, isNon_n]
    | true =>
      have ev : intV p = .int (intI p) := by unfold intV; rw [if_pos k]
      rw [ev] at vi
      rw [Bool.true_and]
      cases k2 : intOk q with
      | false =>
        have ev2 : intV q = .non := by unfold intV; rw [if_neg (by rw [k2]; decide)]
        rw [ev2] at vj
        rw [Bool.false_and, if_neg (by decide)]
        generalize sD p = Pp at *
        generalize sD q = Qq at *
        generalize D.lst ([p, q].map sD) = PL at *
        generalize sD w = W at *
        refine (fin _ rfl).2 (Erd W PL (some (.int (intI p))) (some .non)) ?_
        unfold mread_number
        rw [seq_nx s0]
        simp -implicitDefEqProofs [mread_number_s1, mread_number_s2, mread_number_s3, mread_number_s4, mCall_R, gl, ix, iy, vi, vj, rx, n0, isNon_i, isNon_n]
      | true =>
        have ev2 : intV q = .int (intI q) := by unfold intV; rw [if_pos k2]
        rw [ev2] at vj
        rw [Bool.true_and]
        have b := b8000 (intI_lt k2)
        have vn := fun ρ => qIsNumber_v (a := intI p) (b := intI q) b ρ
        rw [← isn] at vn
        by_cases h2 : 2 ≤ intI q
        · rw [isN2 h2] at vn
          have h2' : ¬ intI q < 2 := by omega
          rw [decide_eq_true h2, Bool.true_and]
          cases hg : decide (Int.gcd (intI p) (intI q) = 1) with
          | true =>
            rw [hg] at vn
            have vn' : ∀ ρ, (Fis_number [.tup [.int (intI p), .int (intI q)]]).R ρ = .ok (.bl true) ρ := vn
            rw [if_pos rfl]
            generalize sD p = Pp at *
            generalize sD q = Qq at *
            generalize D.lst ([p, q].map sD) = PL at *
            generalize sD w = W at *
            refine (fin _ rfl).1 _ (Erd W PL (some (.int (intI p))) (some (.int (intI q)))) ?_
            unfold mread_number
            rw [seq_nx s0]
            simp -implicitDefEqProofs [mread_number_s1, mread_number_s2, mread_number_s3, mread_number_s4, mread_number_s5, mCall_R, gl, ix, iy, vi, vj, isNon_i, vn', big, h2']
          | false =>
            rw [hg] at vn
            have vn' : ∀ ρ, (Fis_number [.tup [.int (intI p), .int (intI q)]]).R ρ = .ok (.bl false) ρ := vn
            rw [if_neg (by decide)]
            generalize sD p = Pp at *
            generalize sD q = Qq at *
            generalize D.lst ([p, q].map sD) = PL at *
            generalize sD w = W at *
            refine (fin _ rfl).2 (Erd W PL (some (.int (intI p))) (some (.int (intI q)))) ?_
            unfold mread_number
            rw [seq_nx s0]
            simp -implicitDefEqProofs [mread_number_s1, mread_number_s2, mread_number_s3, mread_number_s4, mread_number_s5, mCall_R, gl, ix, iy, vi, vj, isNon_i, vn', big, h2', rx]
        · have h2' : intI q < 2 := by omega
          rw [decide_eq_false h2, Bool.false_and, if_neg (by decide)]
          generalize sD p = Pp at *
          generalize sD q = Qq at *
          generalize D.lst ([p, q].map sD) = PL at *
          generalize sD w = W at *
          refine (fin _ rfl).2 (Erd W PL (some (.int (intI p))) (some (.int (intI q)))) ?_
          unfold mread_number
          rw [seq_nx s0]
          simp -implicitDefEqProofs [mread_number_s1, mread_number_s2, mread_number_s3, mread_number_s4, mread_number_s5, mCall_R, gl, ix, iy, vi, vj, isNon_i, big, h2', rx]
  | p :: q :: r :: ps', _ =>
    show _ = if false = true then _ else _
    rw [if_neg (by decide)]
    have g3 : ¬ (((p :: q :: r :: ps').length : Nat) : Int) ≤ 2 := by simp only [List.length_cons]; omega
    have g3' : (2 : Int) < (((p :: q :: r :: ps').length : Nat) : Int) := by simp only [List.length_cons]; omega
    generalize D.lst ((p :: q :: r :: ps').map sD) = PL at *
    generalize (p :: q :: r :: ps').length = N at *
    generalize sD w = W at *
    refine (fin _ rfl).2 (Erd W PL none none) ?_
    unfold mread_number
    rw [seq_nx s0]
    simp -implicitDefEqProofs [mread_number_s1, gl, g3', rx]
end Q
namespace Q
open DL PySem PySem.Spec PyProof.Rows
def lreadV (ps : List (List Nat)) : D := if okRead ps = true then valRead ps else .str "!0"
theorem v_lread {w : List Nat} (hw : w.length ≤ 5000) (hp : ∀ p ∈ spl47 w, Asc p) (ρ : En) : (F_law_read [sD w]).R ρ = .ok (lreadV (spl47 w)) ρ := by
  have sz := szv
  have sp := split_sl hw
  have wl : (spl47 w).length ≤ w.length + 1 := (sp_len 47 w []).2
  have hne : spl47 w ≠ [] := spl_ne w []
  have gl : gLen [.lst ((spl47 w).map sD)] = some (.int ((spl47 w).length : Nat)) := by
    show some (D.int _) = _
    rw [List.length_map]
  have ni := none_in (spl47 w)
  have s0 : m_law_read_s0 [some (sD w), none, none, none] = .nx [some (sD w), some (.lst ((spl47 w).map sD)), none, none] := by
    have l : D.str "/" = sD [47] := l_sl
    rw [← l] at sp
    have st : isStr (sD w) = true := rfl
    generalize sD w = W at *
    generalize D.lst ((spl47 w).map sD) = P at *
    simp -implicitDefEqProofs [m_law_read_s0, mM, st, sp]
  have lc := mLc_map (as := spl47 w) (enc := sD) (vs := [3]) (g := mgName 3) (mi := mIter (mVar 1)) (me := m_law_read_e1) (ρ0 := [some (sD w), some (.lst ((spl47 w).map sD)), none, none]) (ρ := [some (sD w), some (.lst ((spl47 w).map sD)), none, none])
    (st := fun p => [some (sD w), some (.lst ((spl47 w).map sD)), none, some (sD p)]) (f := intV) rfl (by omega) (fun _ => rfl) (fun p _ => rfl) (fun p h => by
      have v := fun ρ => v_law_integer_in (hp p h) ρ
      generalize D.lst ((spl47 w).map sD) = P at *
      generalize sD p = Pp at *
      generalize intV p = V at *
      generalize sD w = W at *
      simp -implicitDefEqProofs [m_law_read_e1, mCall_R, v])
  have s2 : m_law_read_s2 [some (sD w), some (.lst ((spl47 w).map sD)), none, none] = .nx [some (sD w), some (.lst ((spl47 w).map sD)), some (.lst ((spl47 w).map intV)), none] := by
    generalize D.lst ((spl47 w).map sD) = P at *
    generalize D.lst ((spl47 w).map intV) = V at *
    generalize sD w = W at *
    simp -implicitDefEqProofs [m_law_read_s2, lc]
  have fin : ∀ d ρ1, m_law_read [some (sD w), none, none, none] = .rt d ρ1 → (F_law_read [sD w]).R ρ = .ok d ρ := fun d ρ1 e => by
    have := runM_rt (n := 4) (np := 1) (dd := []) (fr := false) (m := m_law_read) (ds := [sD w]) (d := d) (ρ := ρ1) rfl e
    unfold F_law_read
    rw [this, Ret.R_rt]
  have big : 2 ≤ sizeLine := by omega
  refine fin _ [some (sD w), some (.lst ((spl47 w).map sD)), some (.lst ((spl47 w).map intV)), none] ?_
  unfold m_law_read
  rw [seq_nx s0, seq_nx s2]
  generalize hps : spl47 w = ps at *
  have t1 : ∀ (o : Bool), m_law_read_s3 [some (sD w), some (.lst (ps.map sD)), some (.lst (ps.map intV)), none] = (if decide (2 < ps.length) = true ∨ (ps.any fun p => !intOk p) = true then .rt (.str "!0") [some (sD w), some (.lst (ps.map sD)), some (.lst (ps.map intV)), none] else .nx [some (sD w), some (.lst (ps.map sD)), some (.lst (ps.map intV)), none]) := fun _ => by
    have c : (2 : Int) < (ps.length : Nat) ↔ 2 < ps.length := by omega
    generalize D.lst (ps.map sD) = P at *
    generalize D.lst (ps.map intV) = V at *
    generalize sD w = W at *
    generalize (ps.any fun p => !intOk p) = b at *
    by_cases h : 2 < ps.length
    · simp -implicitDefEqProofs [m_law_read_s3, gl, h]
      simp [c.mpr h]
    · have h' : ¬ (2 : Int) < (ps.length : Nat) := fun z => h (c.mp z)
      simp -implicitDefEqProofs [m_law_read_s3, gl, h, h', ni]
  match ps, hps with
  | [], _ => exact absurd rfl hne
  | [p], _ =>
    have ix : gIx (.lst ([p].map intV)) (.int 0) = some (intV p) := rfl
    have a1 : ([p].any fun p => !intOk p) = !intOk p := by simp
    have lv : lreadV [p] = if intOk p = true then .tup [.int (intI p), .int 1] else .str "!0" := rfl
    rw [lv]
    have t := t1 true
    rw [a1] at t
    cases k : intOk p with
    | true =>
      have ev : intV p = .int (intI p) := by unfold intV; rw [if_pos k]
      rw [k, if_neg (by simp)] at t
      rw [seq_nx t, if_pos rfl]
      rw [ev] at ix
      generalize D.lst ([p].map sD) = P at *
      generalize D.lst ([p].map intV) = V at *
      generalize sD w = W at *
      simp -implicitDefEqProofs [m_law_read_s4, gl, ix, big]
    | false =>
      rw [k, if_pos (by simp)] at t
      rw [seq_rt t, if_neg (by decide)]
  | [p, q], _ =>
    have ix : gIx (.lst ([p, q].map intV)) (.int 0) = some (intV p) := rfl
    have iy : gIx (.lst ([p, q].map intV)) (.int 1) = some (intV q) := rfl
    have a1 : ([p, q].any fun p => !intOk p) = (!intOk p || !intOk q) := by simp
    have lv : lreadV [p, q] = if (intOk p && (intOk q && (decide (2 ≤ intI q) && decide (Int.gcd (intI p) (intI q) = 1)))) = true then .tup [.int (intI p), .int (intI q)] else .str "!0" := rfl
    rw [lv]
    have t := t1 true
    rw [a1] at t
    cases k : intOk p with
    | false =>
      rw [k, if_pos (by simp)] at t
      rw [seq_rt t, Bool.false_and, if_neg (by decide)]
    | true =>
      have ev : intV p = .int (intI p) := by unfold intV; rw [if_pos k]
      rw [Bool.true_and]
      cases k2 : intOk q with
      | false =>
        rw [k2, if_pos (by simp)] at t
        rw [seq_rt t, Bool.false_and, if_neg (by decide)]
      | true =>
        have ev2 : intV q = .int (intI q) := by unfold intV; rw [if_pos k2]
        rw [k, k2, if_neg (by simp)] at t
        rw [seq_nx t, Bool.true_and]
        rw [ev] at ix
        rw [ev2] at iy
        have vd := fun ρ => qLDivisor_v (intI p) (intI q) (b8000 (intI_lt k2)) ρ
        rw [← e_ldiv] at vd
        have hc : ((Int.gcd (intI p) (intI q) : Nat) : Int) = 1 ↔ Int.gcd (intI p) (intI q) = 1 := by omega
        generalize D.lst ([p, q].map sD) = P at *
        generalize D.lst ([p, q].map intV) = V at *
        generalize sD w = W at *
        generalize Int.gcd (intI p) (intI q) = g at *
        by_cases h2 : 2 ≤ intI q
        · have h2' : ¬ intI q < 2 := by omega
          rw [decide_eq_true h2, Bool.true_and]
          by_cases hg : g = 1
          · subst hg
            rw [if_pos (by decide)]
            simp -implicitDefEqProofs [m_law_read_s4, m_law_read_s5, m_law_read_s6, gl, ix, iy, big, h2', mCall_R, vd]
          · have hg' : ¬ ((g : Nat) : Int) = 1 := fun z => hg (hc.mp z)
            rw [decide_eq_false hg, if_neg (by decide)]
            simp -implicitDefEqProofs [m_law_read_s4, m_law_read_s5, m_law_read_s6, gl, ix, iy, big, h2', mCall_R, vd, hg']
        · have h2' : intI q < 2 := by omega
          rw [decide_eq_false h2, Bool.false_and, if_neg (by decide)]
          simp -implicitDefEqProofs [m_law_read_s4, m_law_read_s5, m_law_read_s6, gl, ix, iy, big, h2', mCall_R, vd]
  | p :: q :: r :: ps', _ =>
    have t := t1 true
    rw [if_pos (.inl (by simp only [List.length_cons]; exact decide_eq_true (by omega)))] at t
    rw [seq_rt t]
    rfl
end Q
namespace Q
open DL PySem PySem.Spec PyProof.Rows
def txtI (a : Int) : List Nat := if a < 0 then 45 :: TL.numL a.natAbs else TL.numL a.natAbs
theorem logS {a : Int} {i : Nat} (h : a.natAbs < 2 ^ i) (hi : i ≤ 1920) (h0 : 0 < i) : a.natAbs.log2 < 1920 := by
  have := lg h h0
  omega
theorem toS_txt (a : Int) : (Str.ofString (toString a) : Str) = S (txtI a) := by
  unfold txtI
  split
  · obtain ⟨n, rfl⟩ : ∃ n : Nat, a = -(n : Int) := ⟨a.natAbs, by omega⟩
    have hn : 0 < n := by omega
    rw [Int.natAbs_neg, Int.natAbs_natCast]
    exact neg_text hn
  · obtain ⟨n, rfl⟩ : ∃ n : Nat, a = (n : Int) := ⟨a.natAbs, by omega⟩
    rw [Int.natAbs_natCast]
    exact SX.num_S n
theorem str_txt {a : Int} (h : a.natAbs.log2 < 1920) : gStr [.int a] = some (sD (txtI a)) := by
  show (if a.natAbs.log2 < 1920 then some (D.str (toString a)) else none) = _
  rw [if_pos h]
  show some (D.str (Str.ofString (toString a))) = _
  rw [toS_txt]
theorem fmt_txt {a : Int} (h : a.natAbs.log2 < 1920) : gFmt (.int a) = some (sD (txtI a)) := by
  show (if a.natAbs.log2 < 1920 then some (D.str (toString a)) else none) = _
  rw [if_pos h]
  show some (D.str (Str.ofString (toString a))) = _
  rw [toS_txt]
theorem digs_num (n : Nat) : digs (TL.numL n) = true := List.all_eq_true.mpr fun c hc => by
  have := TL.numL_digits n c hc
  simpa using this
theorem num_ne45 (n : Nat) : (TL.numL n).take 1 ≠ [45] := by
  intro z
  have h := TL.numL_digits n 45
  cases e : TL.numL n with
  | nil => exact absurd e (TL.numL_ne n)
  | cons c r =>
    rw [e] at z h
    simp at z
    have := h (by rw [z]; exact List.mem_cons_self)
    omega
theorem fig_txt (a : Int) : fig (txtI a) = TL.numL a.natAbs ∧ neg (txtI a) = decide (a < 0) := by
  unfold fig neg txtI
  by_cases h : a < 0
  · simp [h]
  · rw [if_neg h, if_neg (num_ne45 _), decide_eq_false (num_ne45 _), decide_eq_false h]
    exact ⟨rfl, rfl⟩
theorem intI_txt (a : Int) : intI (txtI a) = a := by
  unfold intI
  rw [(fig_txt a).1, (fig_txt a).2, TL.numL_val]
  by_cases h : a < 0
  · rw [if_pos (decide_eq_true h)]; omega
  · rw [if_neg (by simpa using h)]; omega
theorem num_len_lo {n k : Nat} (h : 10 ^ k ≤ n) : k < (TL.numL n).length := by
  rcases Nat.lt_or_ge k (TL.numL n).length with c | c
  · exact c
  · have v := val_lt (TL.numL_digits n)
    rw [TL.numL_val] at v
    have := Nat.pow_le_pow_right (n := 10) (by decide) c
    omega
theorem ok_txt (a : Int) : intOk (txtI a) = decide (a.natAbs < 10 ^ 400) := by
  rw [intOk_fig]
  unfold figOk
  rw [(fig_txt a).1, digs_num, Bool.and_true]
  have ne := TL.numL_ne a.natAbs
  have l1 : 1 ≤ (TL.numL a.natAbs).length := List.length_pos_iff.mpr ne
  rw [decide_eq_true l1, Bool.true_and]
  by_cases h : a.natAbs < 10 ^ 400
  · rw [decide_eq_true h, decide_eq_true (TL.numL_len (by decide) h), Bool.true_and]
    by_cases z : a.natAbs = 0
    · have : a = 0 := by omega
      subst this
      have : txtI 0 = [48] := by
        unfold txtI
        rw [if_neg (by decide)]
        exact TL.numL_lt (by decide)
      rw [decide_eq_true this, Bool.or_true]
    · rw [decide_eq_false (num_head _ (by omega))]
      rfl
  · have := num_len_lo (k := 400) (n := a.natAbs) (by omega)
    rw [decide_eq_false h, decide_eq_false (by omega), Bool.false_and]
theorem txt_no (a : Int) : 47 ∉ txtI a := by
  have h := TL.numL_free (n := a.natAbs) (s := 47) (.inl (by decide))
  unfold txtI
  split
  · intro z
    rcases List.mem_cons.mp z with c | c
    · omega
    · exact h c
  · exact h
theorem txt_asc (a : Int) : ∀ c ∈ txtI a, c < 128 := by
  have h : ∀ c ∈ TL.numL a.natAbs, c < 128 := fun c hc => by
    have := TL.numL_digits a.natAbs c hc
    omega
  unfold txtI
  split
  · intro c z
    rcases List.mem_cons.mp z with e | e
    · omega
    · exact h c e
  · exact h
theorem txt_len {a : Int} {k : Nat} (h : a.natAbs < 10 ^ k) (k0 : 0 < k) : (txtI a).length ≤ k + 1 := by
  have := TL.numL_len k0 h
  unfold txtI
  split
  · rw [List.length_cons]; omega
  · omega
theorem asc_txt {a : Int} {k : Nat} (h : a.natAbs < 10 ^ k) (k0 : 0 < k) (k5 : k ≤ 500) : Asc (txtI a) := ⟨by have := txt_len h k0; omega, txt_asc a⟩
def nT (a b : Int) : List Nat := if b = 1 then txtI a else txtI a ++ 47 :: txtI b
theorem nT_spl (a b : Int) : spl47 (nT a b) = if b = 1 then [txtI a] else [txtI a, txtI b] := by
  unfold nT
  split
  · exact spl_no _ [] (txt_no a)
  · exact spl_two _ [] _ (txt_no a) (txt_no b)
theorem nT_asc (a b : Int) : ∀ c ∈ nT a b, c < 128 := by
  unfold nT
  split
  · exact txt_asc a
  · intro c z
    rcases List.mem_append.mp z with e | e
    · exact txt_asc a c e
    · rcases List.mem_cons.mp e with q | q
      · omega
      · exact txt_asc b c q
theorem nT_len {a b : Int} {k : Nat} (h1 : a.natAbs < 10 ^ k) (h2 : b.natAbs < 10 ^ k) (k0 : 0 < k) : (nT a b).length ≤ 2 * k + 3 := by
  have l1 := txt_len h1 k0
  have l2 := txt_len h2 k0
  unfold nT
  split
  · omega
  · rw [List.length_append, List.length_cons]; omega
theorem nT_parts {a b : Int} {k : Nat} (h1 : a.natAbs < 10 ^ k) (h2 : b.natAbs < 10 ^ k) (k0 : 0 < k) (k5 : k ≤ 500) : ∀ p ∈ spl47 (nT a b), Asc p := by
  rw [nT_spl]
  intro p hp
  split at hp
  · rw [List.mem_singleton.mp hp]; exact asc_txt h1 k0 k5
  · rcases List.mem_cons.mp hp with e | e
    · rw [e]; exact asc_txt h1 k0 k5
    · rw [List.mem_singleton.mp e]; exact asc_txt h2 k0 k5
theorem back_ok {a b : Int} (h : isNum a b = true) (h1 : a.natAbs < 10 ^ 400) (h2 : b.natAbs < 10 ^ 400) : okRead (spl47 (nT a b)) = true ∧ valRead (spl47 (nT a b)) = .tup [.int a, .int b] := by
  unfold isNum at h
  rw [Bool.and_eq_true] at h
  have b1 := of_decide_eq_true h.1
  rw [nT_spl]
  split
  · rename_i e
    subst e
    exact ⟨by show intOk (txtI a) = true; rw [ok_txt, decide_eq_true h1], by show D.tup [.int (intI (txtI a)), .int 1] = _; rw [intI_txt]⟩
  · refine ⟨?_, by show D.tup [.int (intI (txtI a)), .int (intI (txtI b))] = _; rw [intI_txt, intI_txt]⟩
    show (intOk (txtI a) && (intOk (txtI b) && (decide (2 ≤ intI (txtI b)) && decide (Int.gcd (intI (txtI a)) (intI (txtI b)) = 1)))) = true
    rw [ok_txt, ok_txt, intI_txt, intI_txt, decide_eq_true h1, decide_eq_true h2, h.2, decide_eq_true (by omega)]
    rfl
theorem back_no {a b : Int} (h : ¬ (a.natAbs < 10 ^ 400 ∧ (b = 1 ∨ b.natAbs < 10 ^ 400))) : okRead (spl47 (nT a b)) = false := by
  rw [nT_spl]
  split
  · rename_i e
    show intOk (txtI a) = false
    rw [ok_txt]
    exact decide_eq_false fun z => h ⟨z, .inl e⟩
  · show (intOk (txtI a) && (intOk (txtI b) && _)) = false
    rw [ok_txt, ok_txt]
    by_cases z : a.natAbs < 10 ^ 400
    · rw [decide_eq_false (p := b.natAbs < 10 ^ 400) fun w => h ⟨z, .inr w⟩, Bool.false_and, Bool.and_false]
    · rw [decide_eq_false z, Bool.false_and]
theorem ten400 : 10 ^ 400 ≤ 2 ^ 1600 := ten_two 400
theorem ten401 : 10 ^ 401 ≤ 2 ^ 1604 := ten_two 401
theorem log401 {a : Int} (h : a.natAbs < 10 ^ 401) : a.natAbs.log2 < 1920 := by
  have : a.natAbs < 2 ^ 1604 := Nat.lt_of_lt_of_le h ten401
  exact logS this (by decide) (by decide)
theorem log400 {a : Int} (h : a.natAbs < 10 ^ 400) : a.natAbs.log2 < 1920 := by
  have : a.natAbs < 2 ^ 1600 := Nat.lt_of_lt_of_le h ten400
  exact logS this (by decide) (by decide)
abbrev TLg : Xn := ⟨"TooLarge", []⟩
def cTen : Int := 10000000000000000000000000000000000000000000000000000000000000000000000000000000000000000000000000000000000000000000000000000000000000000000000000000000000000000000000000000000000000000000000000000000000000000000000000000000000000000000000000000000000000000000000000000000000000000000000000000000000000000000000000000000000000000000000000000000000000000000000000000000000000000000000000000000000000000
theorem cTen_eq : cTen = ((10 ^ 400 : Nat) : Int) := by decide +kernel
def ntS2 (T : Int) : MS := (msIf (mOrT (mTest (m2 gGe (mN gAbs (mCons (mVar 1) mNil)) (mK (.int T)))) (mTest (m2 gGe (mVar 2) (mK (.int T))))) (msRaise "TooLarge") msNil)
theorem ntS2_eq : mnumber_text_s2 = ntS2 cTen := rfl
theorem v_numberText {a b : Int} (hn : isNum a b = true) (hb : b.natAbs < 2 ^ 8000) (ρ : En) : (Fnumber_text [tupI (a, b)]).R ρ = if a.natAbs < 10 ^ 400 ∧ b.natAbs < 10 ^ 400 then .ok (sD (nT a b)) ρ else .ex TLg ρ := by
  have sz := szv
  have ck : ∀ ρ, (Fcheck_number [tupI (a, b)]).R ρ = if isNum a b = true then .ok .non ρ else .ex NNm ρ := fun ρ => v_chkN (a := (a, b)) hb ρ
  simp only [if_pos hn] at ck
  have ab : (if a < 0 then -a else a) = (a.natAbs : Int) := by split <;> omega
  have b1 : 1 ≤ b := by unfold isNum at hn; rw [Bool.and_eq_true] at hn; exact of_decide_eq_true hn.1
  have s0 : mnumber_text_s0 [some (tupI (a, b)), none, none] = .nx [some (tupI (a, b)), none, none] := by
    generalize tupI (a, b) = P at *
    simp -implicitDefEqProofs [mnumber_text_s0, mCall_R, ck]
  have s1 : mnumber_text_s1 [some (tupI (a, b)), none, none] = .nx [some (tupI (a, b)), some (.int a), some (.int b)] := by
    unfold tupI
    simp -implicitDefEqProofs [mnumber_text_s1]
  have fin : ∀ (o : Out), mnumber_text [some (tupI (a, b)), none, none] = o → (∀ d ρ1, o = .rt d ρ1 → (Fnumber_text [tupI (a, b)]).R ρ = .ok d ρ) ∧ (∀ ρ1, o = .ex TLg ρ1 → (Fnumber_text [tupI (a, b)]).R ρ = .ex TLg ρ) := by
    intro o ho
    refine ⟨fun d ρ1 e => ?_, fun ρ1 e => ?_⟩
    · have := runM_rt (n := 3) (np := 1) (dd := []) (fr := false) (m := mnumber_text) (ds := [tupI (a, b)]) (d := d) (ρ := ρ1) rfl (ho.trans e)
      unfold Fnumber_text
      rw [this, Ret.R_rt]
    · have := runM_ex (n := 3) (np := 1) (dd := []) (fr := false) (m := mnumber_text) (ds := [tupI (a, b)]) (x := TLg) (ρ := ρ1) rfl (ho.trans e)
      unfold Fnumber_text
      rw [this, Ret.R_ex]
  by_cases h : a.natAbs < 10 ^ 400 ∧ b.natAbs < 10 ^ 400
  · rw [if_pos h]
    have c1 : ¬ cTen ≤ (a.natAbs : Int) := by rw [cTen_eq]; have := h.1; omega
    have c2 : ¬ cTen ≤ b := by rw [cTen_eq]; have := h.2; omega
    have s2 : mnumber_text_s2 [some (tupI (a, b)), some (.int a), some (.int b)] = .nx [some (tupI (a, b)), some (.int a), some (.int b)] := by
      rw [ntS2_eq]
      generalize cTen = T at *
      generalize tupI (a, b) = P at *
      simp -implicitDefEqProofs [ntS2, ab, c1, c2]
    have st := str_txt (log400 h.1)
    have f1 := fmt_txt (log400 h.1)
    have f2 := fmt_txt (log400 h.2)
    refine (fin _ rfl).1 _ [some (tupI (a, b)), some (.int a), some (.int b)] ?_
    unfold mnumber_text
    rw [seq_nx s0, seq_nx s1, seq_nx s2]
    generalize tupI (a, b) = P at *
    unfold nT
    by_cases e : b = 1
    · rw [if_pos e]
      simp -implicitDefEqProofs [mnumber_text_s3, e, st]
    · rw [if_neg e]
      have s3 : mnumber_text_s3 [some P, some (.int a), some (.int b)] = .nx [some P, some (.int a), some (.int b)] := by
        simp -implicitDefEqProofs [mnumber_text_s3, e]
      rw [seq_nx s3]
      have l1 := txt_len h.1 (by decide)
      have l2 := txt_len h.2 (by decide)
      have j1 : Str.empty ++ S (txtI a) = S (txtI a) := S_app [] _
      have j2 : S (txtI a) ++ S [47] = S (txtI a ++ [47]) := S_app _ _
      have j3 : S (txtI a ++ [47]) ++ S (txtI b) = S (txtI a ++ 47 :: txtI b) := by rw [S_app]; simp
      have k1 : (S (txtI a)).length ≤ sizeLine := by rw [S_len]; omega
      have k2 : (S (txtI a ++ [47])).length ≤ sizeLine := by rw [S_len]; simp; omega
      have k3 : (S (txtI a ++ 47 :: txtI b)).length ≤ sizeLine := by rw [S_len]; simp; omega
      have hs : D.str "/" = D.str (S [47]) := rfl
      have h4 : mJs [(m1 gFmt (mVar 1)), (mK (.str "/")), (m1 gFmt (mVar 2))] Str.empty [some P, some (.int a), some (.int b)] = .ok (sD (txtI a ++ 47 :: txtI b)) [some P, some (.int a), some (.int b)] := by
        rw [hs]
        have e1 : m1 gFmt (mVar 1) [some P, some (.int a), some (.int b)] = .ok (sD (txtI a)) [some P, some (.int a), some (.int b)] := by simp -implicitDefEqProofs [f1]
        have e2 : m1 gFmt (mVar 2) [some P, some (.int a), some (.int b)] = .ok (sD (txtI b)) [some P, some (.int a), some (.int b)] := by simp -implicitDefEqProofs [f2]
        unfold mJs
        rw [e1]
        show (if (Str.empty ++ S (txtI a)).length ≤ sizeLine then mJs _ (Str.empty ++ S (txtI a)) _ else .bad) = _
        rw [j1, if_pos k1]
        unfold mJs
        rw [mK_ap]
        show (if (S (txtI a) ++ S [47]).length ≤ sizeLine then mJs _ (S (txtI a) ++ S [47]) _ else .bad) = _
        rw [j2, if_pos k2]
        unfold mJs
        rw [e2]
        show (if (S (txtI a ++ [47]) ++ S (txtI b)).length ≤ sizeLine then mJs _ (S (txtI a ++ [47]) ++ S (txtI b)) _ else .bad) = _
        rw [j3, if_pos k3]
        rfl
      generalize sD (txtI a ++ 47 :: txtI b) = R at *
      simp -implicitDefEqProofs [mnumber_text_s4, h4]
  · rw [if_neg h]
    have s2 : mnumber_text_s2 [some (tupI (a, b)), some (.int a), some (.int b)] = .ex TLg [some (tupI (a, b)), some (.int a), some (.int b)] := by
      rw [ntS2_eq]
      by_cases h1 : a.natAbs < 10 ^ 400
      · have c1 : ¬ cTen ≤ (a.natAbs : Int) := by rw [cTen_eq]; omega
        have c2 : cTen ≤ b := by
          rw [cTen_eq]
          have : ¬ b.natAbs < 10 ^ 400 := fun z => h ⟨h1, z⟩
          omega
        generalize cTen = T at *
        generalize tupI (a, b) = P at *
        simp -implicitDefEqProofs [ntS2, ab, c1, c2]
      · have c1 : cTen ≤ (a.natAbs : Int) := by rw [cTen_eq]; omega
        generalize cTen = T at *
        generalize tupI (a, b) = P at *
        simp -implicitDefEqProofs [ntS2, ab, c1]
    refine (fin _ rfl).2 [some (tupI (a, b)), some (.int a), some (.int b)] ?_
    unfold mnumber_text
    rw [seq_nx s0, seq_nx s1]
    exact seq_ex s2
theorem v_ltext {a b : Int} (h1 : a.natAbs < 10 ^ 401) (h2 : b.natAbs < 10 ^ 401) (ρ : En) : (F_law_text [tupI (a, b)]).R ρ = .ok (sD (nT a b)) ρ := by
  have sz := szv
  have st1 := str_txt (log401 h1)
  have st2 := str_txt (log401 h2)
  have l1 := txt_len h1 (by decide)
  have l2 := txt_len h2 (by decide)
  have i0 : gIx (tupI (a, b)) (.int 0) = some (.int a) := rfl
  have i1 : gIx (tupI (a, b)) (.int 1) = some (.int b) := rfl
  have a1 := gAdd_S (txtI a) [47] (by simp; omega)
  have a2 := gAdd_S (txtI a ++ [47]) (txtI b) (by simp; omega)
  have hs : D.str "/" = sD [47] := rfl
  rw [← hs] at a1
  have e3 : txtI a ++ [47] ++ txtI b = txtI a ++ 47 :: txtI b := by simp
  rw [e3] at a2
  unfold F_law_text
  by_cases e : b = 1
  · have en : nT a b = txtI a := if_pos e
    rw [en]
    subst e
    generalize tupI (a, 1) = P at *
    generalize sD (txtI a) = R2 at *
    simp -implicitDefEqProofs [runM, m_law_text, pad, i0, i1, st1]
  · have en : nT a b = txtI a ++ 47 :: txtI b := if_neg e
    rw [en]
    generalize tupI (a, b) = P at *
    generalize sD (txtI a ++ 47 :: txtI b) = R at *
    generalize sD (txtI a ++ [47]) = R1 at *
    generalize sD (txtI a) = R2 at *
    generalize sD (txtI b) = R3 at *
    simp -implicitDefEqProofs [runM, m_law_text, pad, i0, i1, st1, st2, e, a1, a2]
end Q
namespace Q
open DL PySem PySem.Spec PyProof.Rows
abbrev As (w : List Nat) : Prop := ∀ c ∈ w, c < 128
abbrev Esp (l : List Int) (U : D) (o2 o3 o4 : Option D) : En := [some (dl l), some U, o2, o3, o4]
theorem as_take {u : List Nat} (h : As u) (i : Nat) : As (u.take i) := fun c hc => h c (List.mem_of_mem_take hc)
theorem as_drop {u : List Nat} (h : As u) (i : Nat) : As (u.drop i) := fun c hc => h c (List.mem_of_mem_drop hc)
theorem as_app {u w : List Nat} (h : As u) (h' : As w) : As (u ++ w) := fun c hc => (List.mem_append.mp hc).elim (h c) (h' c)
def signs16 : List Nat := [48, 49, 50, 51, 52, 53, 54, 55, 56, 57, 45, 43, 47, 46, 32, 97]
theorem sign16 {j : Nat} (h : j < 16) : ∃ c, c < 128 ∧ gIx (.str "0123456789-+/. a") (.int (j : Int)) = some (sD [c]) := by
  have e : D.str "0123456789-+/. a" = sD signs16 := rfl
  rw [e]
  refine ⟨_, ?_, ixS (u := signs16) (by simpa [signs16] using h) (by decide)⟩
  have : ∀ c ∈ signs16, c < 128 := by decide
  rw [List.getD_eq_getElem?_getD, List.getElem?_eq_getElem (show j < signs16.length from h)]
  exact this _ (List.getElem_mem _)
theorem v_spoilt2 {u : List Nat} (gu : As u) (hl : u.length ≤ 200) (l : List Int) : ∃ (v : List Nat) (l' : List Int), F_law_spoilt_v2 [dl l, sD u] = .rt (sD v) (dl l') ∧ v.length ≤ u.length + 1 ∧ As v := by
  have sz := szv
  have gl := gLen_T (w := u) (by omega)
  obtain ⟨a1, a2⟩ := fm_rng (drawI l) (m := (u.length : Int) + 1) (by omega)
  obtain ⟨i, hi⟩ : ∃ i : Nat, (drawI l).fmod ((u.length : Int) + 1) = (i : Int) := ⟨((drawI l).fmod ((u.length : Int) + 1)).toNat, by omega⟩
  have e0 : m_law_spoilt_v2_s0 (Esp l (sD u) none none none) = .nx (Esp l.dropLast (sD u) (some (.int (i : Nat))) none none) := by
    rw [← hi]
    have gm := gMod_p (drawI l) (m := (u.length : Int) + 1) (by omega)
    generalize sD u = U at *
    simp -implicitDefEqProofs [m_law_spoilt_v2_s0, io_next, gl, gm]
  generalize l.dropLast = l1 at *
  obtain ⟨b1, b2⟩ := fm_rng (drawI l1) (m := 16) (by omega)
  obtain ⟨j, hj⟩ : ∃ j : Nat, (drawI l1).fmod 16 = (j : Int) := ⟨((drawI l1).fmod 16).toNat, by omega⟩
  obtain ⟨c, hc, ec⟩ := sign16 (j := j) (by omega)
  have e1 : m_law_spoilt_v2_s1 (Esp l1 (sD u) (some (.int (i : Nat))) none none) = .nx (Esp l1.dropLast (sD u) (some (.int (i : Nat))) (some (sD [c])) none) := by
    rw [← hj] at ec
    generalize sD u = U at *
    generalize sD [c] = C at *
    simp -implicitDefEqProofs [m_law_spoilt_v2_s1, io_next, gMod_p, ec]
  generalize l1.dropLast = l2 at *
  obtain ⟨c1, c2⟩ := fm_rng (drawI l2) (m := 3) (by omega)
  have e2 : m_law_spoilt_v2_s2 (Esp l2 (sD u) (some (.int (i : Nat))) (some (sD [c])) none) = .nx (Esp l2.dropLast (sD u) (some (.int (i : Nat))) (some (sD [c])) (some (.int ((drawI l2).fmod 3)))) := by
    generalize sD u = U at *
    generalize sD [c] = C at *
    simp -implicitDefEqProofs [m_law_spoilt_v2_s2, io_next, gMod_p]
  generalize l2.dropLast = l3 at *
  generalize (drawI l2).fmod 3 = kd at *
  have t1 := sl_toS (w := u) (by omega) i
  have t2 := sl_fromS (w := u) (by omega) i
  have t3 := sl_fromS (w := u) (by omega) (i + 1)
  have ci : ((i + 1 : Nat) : Int) = (i : Int) + 1 := by omega
  rw [ci] at t3
  have l1' : (u.take i).length ≤ 200 := by rw [List.length_take]; omega
  have l2' : (u.drop i).length ≤ 200 := by rw [List.length_drop]; omega
  have l3' : (u.drop (i + 1)).length ≤ 200 := by rw [List.length_drop]; omega
  have g1 := gAdd_S (u.take i) [c] (by simp; omega)
  have g2 := gAdd_S (u.take i ++ [c]) (u.drop i) (by simp; omega)
  have g3 := gAdd_S (u.take i ++ [c]) (u.drop (i + 1)) (by simp; omega)
  have g4 := gAdd_S (u.take i) (u.drop (i + 1)) (by simp; omega)
  have s1 := as_take gu i
  have s2 := as_drop gu i
  have s3 := as_drop gu (i + 1)
  have s4 : As [c] := fun x hx => by simp only [List.mem_cons, List.not_mem_nil, or_false] at hx; omega
  have go : ∀ (v : List Nat) (ρ' : En), m_law_spoilt_v2 (Esp l (sD u) none none none) = .rt (sD v) ρ' → (io0 ρ' = dl l3) → v.length ≤ u.length + 1 → As v → ∃ (v : List Nat) (l' : List Int), F_law_spoilt_v2 [dl l, sD u] = .rt (sD v) (dl l') ∧ v.length ≤ u.length + 1 ∧ As v := by
    intro v ρ' e z hv gv
    refine ⟨v, l3, ?_, hv, gv⟩
    rw [← z]
    exact runM_rt (n := 5) (np := 2) (dd := []) (ds := [dl l, sD u]) rfl e
  unfold m_law_spoilt_v2 at go
  rw [seq_nx e0, seq_nx e1, seq_nx e2] at go
  by_cases d0 : kd = 0
  · have e3 : m_law_spoilt_v2_s3 (Esp l3 (sD u) (some (.int (i : Nat))) (some (sD [c])) (some (.int kd))) = .rt (sD (u.take i ++ [c] ++ u.drop i)) (Esp l3 (sD u) (some (.int (i : Nat))) (some (sD [c])) (some (.int kd))) := by
      generalize sD (u.take i ++ [c] ++ u.drop i) = R at *
      generalize sD (u.take i ++ [c]) = R1 at *
      generalize sD (u.take i) = R2 at *
      generalize sD (u.drop i) = R3 at *
      generalize sD u = U at *
      generalize sD [c] = C at *
      simp -implicitDefEqProofs [m_law_spoilt_v2_s3, d0, mSl, evB, rdB, mNoP, mPart, asI, t1, t2, g1, g2]
    rw [seq_rt e3] at go
    exact go _ _ rfl rfl (by simp; omega) (as_app (as_app s1 s4) s2)
  · have e3 : m_law_spoilt_v2_s3 (Esp l3 (sD u) (some (.int (i : Nat))) (some (sD [c])) (some (.int kd))) = .nx (Esp l3 (sD u) (some (.int (i : Nat))) (some (sD [c])) (some (.int kd))) := by
      generalize sD u = U at *
      generalize sD [c] = C at *
      simp -implicitDefEqProofs [m_law_spoilt_v2_s3, d0]
    rw [seq_nx e3] at go
    by_cases d1 : kd = 1
    · have e4 : m_law_spoilt_v2_s4 (Esp l3 (sD u) (some (.int (i : Nat))) (some (sD [c])) (some (.int kd))) = .rt (sD (u.take i ++ [c] ++ u.drop (i + 1))) (Esp l3 (sD u) (some (.int (i : Nat))) (some (sD [c])) (some (.int kd))) := by
        generalize sD (u.take i ++ [c] ++ u.drop (i + 1)) = R at *
        generalize sD (u.take i ++ [c]) = R1 at *
        generalize sD (u.take i) = R2 at *
        generalize sD (u.drop (i + 1)) = R3 at *
        generalize sD u = U at *
        generalize sD [c] = C at *
        simp -implicitDefEqProofs [m_law_spoilt_v2_s4, d1, mSl, evB, rdB, mNoP, mPart, asI, t1, t3, g1, g3]
      rw [seq_rt e4] at go
      exact go _ _ rfl rfl (by simp; omega) (as_app (as_app s1 s4) s3)
    · have e4 : m_law_spoilt_v2_s4 (Esp l3 (sD u) (some (.int (i : Nat))) (some (sD [c])) (some (.int kd))) = .nx (Esp l3 (sD u) (some (.int (i : Nat))) (some (sD [c])) (some (.int kd))) := by
        generalize sD u = U at *
        generalize sD [c] = C at *
        simp -implicitDefEqProofs [m_law_spoilt_v2_s4, d1]
      have e5 : m_law_spoilt_v2_s5 (Esp l3 (sD u) (some (.int (i : Nat))) (some (sD [c])) (some (.int kd))) = .rt (sD (u.take i ++ u.drop (i + 1))) (Esp l3 (sD u) (some (.int (i : Nat))) (some (sD [c])) (some (.int kd))) := by
        generalize sD (u.take i ++ u.drop (i + 1)) = R at *
        generalize sD (u.take i) = R2 at *
        generalize sD (u.drop (i + 1)) = R3 at *
        generalize sD u = U at *
        generalize sD [c] = C at *
        simp -implicitDefEqProofs [m_law_spoilt_v2_s5, mSl, evB, rdB, mNoP, mPart, asI, t1, t3, g4]
      rw [seq_nx e4, e5] at go
      exact go _ _ rfl rfl (by simp; omega) (as_app s1 s3)
theorem long_loop : ∀ (ds : List D) (l : List Int) (t : Int) (k : Nat) (o : Option D), 0 ≤ t → t < 1000 ^ k → k + ds.length ≤ 12 →
    ∃ (l' : List Int) (t' : Int) (o' : Option D), loopL (mgName 2) m_law_long_b0 ds [some (dl l), some (.int t), o] = .nx [some (dl l'), some (.int t'), o'] ∧ 0 ≤ t' ∧ t' < 1000 ^ (k + ds.length)
  | [], l, t, k, o, h0, h1, _ => ⟨l, t, o, rfl, h0, h1⟩
  | d :: r, l, t, k, o, h0, h1, hk => by
    rw [List.length_cons] at hk
    obtain ⟨r1, r2⟩ := fm_rng (drawI l) (m := 1000) (by decide)
    have h2 : t * 1000 + (drawI l).fmod 1000 < 1000 ^ (k + 1) := by
      have e : (1000 : Int) ^ (k + 1) = 1000 ^ k * 1000 := Int.pow_succ ..
      generalize (1000 : Int) ^ k = P at *
      omega
    obtain ⟨l', t', o', e, q1, q2⟩ := long_loop r l.dropLast (t * 1000 + (drawI l).fmod 1000) (k + 1) (some d) (by omega) h2 (by omega)
    refine ⟨l', t', o', ?_, q1, by rw [List.length_cons, show k + (r.length + 1) = k + 1 + r.length by omega]; exact q2⟩
    rw [← e]
    refine loop_step (ρ1 := [some (dl l), some (.int t), some d]) rfl ?_
    have hb : t < 1000 ^ 12 := Int.lt_of_lt_of_le h1 (by
      have : (1000 : Nat) ^ k ≤ 1000 ^ 12 := Nat.pow_le_pow_right (by decide) (by omega)
      exact_mod_cast this)
    have hm := mulS (a := t) (b := 1000) (i := 120) (j := 10) (by
      have : (1000 : Int) ^ 12 < 2 ^ 120 := by decide
      omega) (by decide) (by decide)
    simp -implicitDefEqProofs [m_law_long_b0, io_next, gMod_p, hm]
theorem v_long (l : List Int) : ∃ (t : Int) (l' : List Int), F_law_long [dl l] = .rt (.int t) (dl l') ∧ 0 ≤ t ∧ t < 1000 ^ 12 := by
  obtain ⟨r1, r2⟩ := fm_rng (drawI l) (m := 12) (by decide)
  obtain ⟨m, hm⟩ : ∃ m : Nat, 1 + (drawI l).fmod 12 = (m : Int) := ⟨(1 + (drawI l).fmod 12).toNat, by omega⟩
  have rg : gRange1 [.int (m : Int)] = some (rangeL 0 m) := by
    rw [gRange1_i, if_pos (okR_nat (by omega))]
    rfl
  obtain ⟨l', t, o', e, q1, q2⟩ := long_loop (rangeL 0 m) l.dropLast 0 0 none (by decide) (by decide) (by rw [rangeL_length]; omega)
  rw [rangeL_length] at q2
  refine ⟨t, l', ?_, q1, Int.lt_of_lt_of_le q2 (by
    have : (1000 : Nat) ^ (0 + m) ≤ 1000 ^ 12 := Nat.pow_le_pow_right (by decide) (by omega)
    exact_mod_cast this)⟩
  generalize rangeL 0 m = Z at *
  unfold F_law_long m_law_long
  generalize m_law_long_b0 = B at *
  simp -implicitDefEqProofs [runM, pad, io_next, gMod_p, hm, rg, e, io0]
theorem v_pair (l : List Int) : ∃ (q : Rat) (l' : List Int), F_law_pair [dl l] = .rt (fr q) (dl l') ∧ Sz 121 q := by
  obtain ⟨q0, l0, f0, z0⟩ := v_fraction l.dropLast
  have g0 := io_0 (r := [none]) f0
  by_cases h : (drawI l).fmod 2 = 0
  · refine ⟨q0, l0, ?_, z0.up (by decide)⟩
    unfold F_law_pair
    generalize fr q0 = Q0 at *
    simp -implicitDefEqProofs [runM, m_law_pair, pad, io_next, gMod_p, h, g0, io0]
  · obtain ⟨t1, l1, f1, a1, b1⟩ := v_long l.dropLast
    obtain ⟨t2, l2, f2, a2, b2⟩ := v_long l1.dropLast
    have p12 : (1000 : Int) ^ 12 < 2 ^ 120 := by decide
    obtain ⟨r1, r2⟩ := fm_rng (drawI l1) (m := 2) (by decide)
    have m1 := mulS (a := 2) (b := t1) (i := 2) (j := 120) (by decide) (by omega) (by decide)
    have m2 := mulS (a := 2 * t1) (b := (drawI l1).fmod 2) (i := 121) (j := 2) (by omega) (by omega) (by decide)
    have hN : (t1 - 2 * t1 * (drawI l1).fmod 2).natAbs < 2 ^ 120 := by
      rcases (by omega : (drawI l1).fmod 2 = 0 ∨ (drawI l1).fmod 2 = 1) with e | e <;> rw [e] <;> omega
    have hD : (t2 + 1).natAbs < 2 ^ 121 := by omega
    have hv := fun ρ => v_llowest (a := t1 - 2 * t1 * (drawI l1).fmod 2) (b := t2 + 1) (by omega) (s8 hD (by decide)) ρ
    refine ⟨Rat.divInt (t1 - 2 * t1 * (drawI l1).fmod 2) (t2 + 1), l2, ?_, fr_low (by omega) (Nat.lt_of_lt_of_le hN (by decide)) hD⟩
    have g1 := io_0 (r := [none]) f1
    have g2 := io_0 (r := [some (.int t1)]) f2
    unfold F_law_pair
    generalize fr (Rat.divInt (t1 - 2 * t1 * (drawI l1).fmod 2) (t2 + 1)) = Q1 at *
    simp -implicitDefEqProofs [runM, m_law_pair, pad, io_next, gMod_p, h, g1, g2, io0, m1, m2, mCall_R, hv]
end Q
namespace Q
open DL PySem PySem.Spec PyProof.Rows
abbrev Ecl (X : D) (c : D) (o2 o3 o4 o5 : Option D) : En := [some X, some c, o2, o3, o4, o5]
theorem lcr_loop {X : D} {K : Nat} : ∀ (ys : List Rat) (c j : Nat) (o2 : Option D), (∀ y ∈ ys, Sz K y) → 0 < c → c < 2 ^ j → j + ys.length * K ≤ 7900 → 0 < j →
    ∃ o2', loopL (mgName 2) m_law_cleared_v2_b1 (ys.map fr) (Ecl X (.int (c : Nat)) o2 none none none) = .nx (Ecl X (.int (lcmF ys c : Nat)) o2' none none none) ∧ 0 < lcmF ys c ∧ lcmF ys c < 2 ^ (j + ys.length * K)
  | [] => fun c j o2 _ hc hj _ _ => ⟨o2, rfl, hc, by show c < 2 ^ (j + 0 * K); rw [Nat.zero_mul, Nat.add_zero]; exact hj⟩
  | y :: ys => fun c j o2 hy hc hj hK k0 => by
    rw [List.length_cons, Nat.succ_mul] at hK ⊢
    have sy := hy y List.mem_cons_self
    have hb : y.den < 2 ^ K := sy.2
    have hg : Int.gcd (c : Int) (y.den : Int) ≤ c := Nat.le_of_dvd hc (Int.natCast_dvd_natCast.mp (Int.gcd_dvd_left (a := (c : Int)) (b := (y.den : Int))))
    have hg0 : 0 < Int.gcd (c : Int) (y.den : Int) := Nat.pos_of_dvd_of_pos (Int.natCast_dvd_natCast.mp (Int.gcd_dvd_left (a := (c : Int)) (b := (y.den : Int)))) hc
    have hq : c / Int.gcd (c : Int) (y.den : Int) < 2 ^ j := Nat.lt_of_le_of_lt (Nat.div_le_self _ _) hj
    have hnew : c / Int.gcd (c : Int) (y.den : Int) * y.den < 2 ^ (j + K) := by
      rw [Nat.pow_add]
      exact Nat.mul_lt_mul_of_lt_of_le hq (Nat.le_of_lt hb) (Nat.two_pow_pos K)
    obtain ⟨o2', e, q1, q2⟩ := lcr_loop (X := X) (K := K) ys (c / Int.gcd (c : Int) (y.den : Int) * y.den) (j + K) (some (fr y)) (fun z hz => hy z (List.mem_cons_of_mem _ hz)) (lcm_step hc) hnew (by omega) (by omega)
    refine ⟨o2', ?_, q1, by rw [show j + (ys.length * K + K) = j + K + ys.length * K by omega]; exact q2⟩
    rw [List.map_cons, show lcmF (y :: ys) c = lcmF ys (c / Int.gcd (c : Int) (y.den : Int) * y.den) from rfl, ← e]
    have vd := fun ρ => qLDivisor_v (c : Int) (y.den : Int) (s8 (i := K) (by simpa using hb) (by omega)) ρ
    rw [← e_ldiv] at vd
    have d1 := gDiv_sm (a := (c : Int)) (b := ((Int.gcd (c : Int) (y.den : Int) : Nat) : Int)) (j := j) (by omega) (by rw [Int.natAbs_natCast]; exact Nat.lt_of_le_of_lt hg hj) (by omega) (by omega)
    have e1 : (c : Int).fdiv ((Int.gcd (c : Int) (y.den : Int) : Nat) : Int) = ((c / Int.gcd (c : Int) (y.den : Int) : Nat) : Int) := by
      rw [Int.fdiv_eq_ediv_of_nonneg _ (by omega)]
      rfl
    rw [e1] at d1
    have m1 := mulS (a := ((c / Int.gcd (c : Int) (y.den : Int) : Nat) : Int)) (b := (y.den : Int)) (i := j) (j := K) (by rw [Int.natAbs_natCast]; exact hq) (by rw [Int.natAbs_natCast]; exact hb) (by omega)
    have e2 : ((c / Int.gcd (c : Int) (y.den : Int) : Nat) : Int) * (y.den : Int) = ((c / Int.gcd (c : Int) (y.den : Int) * y.den : Nat) : Int) := by rw [Int.natCast_mul]
    rw [e2] at m1
    have ix : gIx (fr y) (.int 1) = some (.int (y.den : Int)) := rfl
    refine loop_step (ρ1 := Ecl X (.int (c : Nat)) (some (fr y)) none none none) rfl ?_
    generalize ((c / Int.gcd (c : Int) (y.den : Int) * y.den : Nat) : Int) = n2 at *
    generalize ((c / Int.gcd (c : Int) (y.den : Int) : Nat) : Int) = n1 at *
    generalize ((Int.gcd (c : Int) (y.den : Int) : Nat) : Int) = n0 at *
    generalize (y.den : Int) = b at *
    generalize (c : Int) = ci at *
    generalize fr y = Y at *
    simp -implicitDefEqProofs [m_law_cleared_v2_b1, mCall_R, ix, vd, d1, m1]
theorem lcg_loop (X C W : D) (o2 : Option D) : ∀ (xs : List Int) (g : Nat) (o5 : Option D), (∀ a ∈ xs, a.natAbs < 2 ^ 8000) →
    ∃ o5', loopL (mgName 5) m_law_cleared_v2_b6 (xs.map D.int) (Ecl X C o2 (some W) (some (.int (g : Nat))) o5) = .nx (Ecl X C o2 (some W) (some (.int (gcdL xs g : Nat))) o5')
  | [] => fun g o5 _ => ⟨o5, rfl⟩
  | x :: xs => fun g o5 h => by
    obtain ⟨o5', e⟩ := lcg_loop X C W o2 xs (Int.gcd g x) (some (.int x)) (fun a ha => h a (List.mem_cons_of_mem _ ha))
    refine ⟨o5', ?_⟩
    rw [List.map_cons, gcdL_cons, ← e]
    have vd := fun ρ => qLDivisor_v (g : Int) x (h x List.mem_cons_self) ρ
    rw [← e_ldiv] at vd
    refine loop_step (ρ1 := Ecl X C o2 (some W) (some (.int (g : Nat))) (some (.int x))) rfl ?_
    generalize ((Int.gcd (g : Int) x : Nat) : Int) = n0 at *
    generalize (g : Int) = gi at *
    simp -implicitDefEqProofs [m_law_cleared_v2_b6, mCall_R, vd]
theorem v_lcleared2 {v : List Rat} {K : Nat} (hv : ∀ y ∈ v, Sz K y) (hl : v.length ≤ 100) (hK : 1 + v.length * K + K ≤ 7000) (ρ : En) : (F_law_cleared_v2 [frs v]).R ρ = .ok (pl (clr (wholeR v))) ρ := by
  have sz := szv
  obtain ⟨o2, e, q1, q2⟩ := lcr_loop (X := frs v) (K := K) v 1 1 none hv (by decide) (by decide) (by omega) (by decide)
  have gi : gIter (frs v) = some (v.map fr) := rfl
  have s0 : m_law_cleared_v2_s0 [some (frs v), none, none, none, none, none] = .nx (Ecl (frs v) (.int 1) none none none none) := by
    generalize frs v = X at *
    simp -implicitDefEqProofs [m_law_cleared_v2_s0]
  have s2 : m_law_cleared_v2_s2 (Ecl (frs v) (.int 1) none none none none) = .nx (Ecl (frs v) (.int (lcmF v 1 : Nat)) o2 none none none) := by
    have e' : loopL (mgName 2) m_law_cleared_v2_b1 (v.map fr) (Ecl (frs v) (.int 1) none none none none) = .nx (Ecl (frs v) (.int (lcmF v 1 : Nat)) o2 none none none) := e
    generalize v.map fr = Z at *
    generalize frs v = X at *
    generalize ((lcmF v 1 : Nat) : Int) = n0 at *
    unfold m_law_cleared_v2_s2
    generalize m_law_cleared_v2_b1 = B at *
    simp -implicitDefEqProofs [gi, e']
  have lc := mLc_map (as := v) (enc := fr) (vs := [2]) (g := mgName 2) (mi := mIter (mVar 0)) (me := m_law_cleared_v2_e3) (ρ0 := Ecl (frs v) (.int (lcmF v 1 : Nat)) o2 none none none) (ρ := Ecl (frs v) (.int (lcmF v 1 : Nat)) o2 none none none)
    (st := fun y => Ecl (frs v) (.int (lcmF v 1 : Nat)) (some (fr y)) none none none) (f := fun y => .int (y.num * ((lcmF v 1 / y.den : Nat) : Int))) (by
      generalize v.map fr = Z at *
      generalize frs v = X at *
      simp -implicitDefEqProofs [gi]) (by omega) (fun _ => rfl) (fun y _ => rfl) (fun y hy => by
      have sy := hv y hy
      have hd := y.den_pos
      have d1 := gDiv_sm (a := (lcmF v 1 : Nat)) (b := (y.den : Int)) (j := K + 1) (by omega) (by rw [Int.natAbs_natCast]; exact Nat.lt_of_lt_of_le sy.2 (Nat.pow_le_pow_right (by decide) (by omega))) (by omega) (by omega)
      have e1 : ((lcmF v 1 : Nat) : Int).fdiv (y.den : Int) = ((lcmF v 1 / y.den : Nat) : Int) := by
        rw [Int.fdiv_eq_ediv_of_nonneg _ (by omega)]
        rfl
      rw [e1] at d1
      have m1 := mulS (a := y.num) (b := ((lcmF v 1 / y.den : Nat) : Int)) (i := K) (j := 1 + v.length * K) sy.1 (by rw [Int.natAbs_natCast]; exact Nat.lt_of_le_of_lt (Nat.div_le_self _ _) q2) (by omega)
      have ix1 : gIx (fr y) (.int 1) = some (.int (y.den : Int)) := rfl
      have ix0 : gIx (fr y) (.int 0) = some (.int y.num) := rfl
      generalize y.num * ((lcmF v 1 / y.den : Nat) : Int) = m at *
      generalize ((lcmF v 1 / y.den : Nat) : Int) = n1 at *
      generalize ((lcmF v 1 : Nat) : Int) = n0 at *
      generalize (y.den : Int) = b at *
      generalize y.num = a at *
      generalize fr y = Y at *
      generalize frs v = X at *
      simp -implicitDefEqProofs [m_law_cleared_v2_e3, ix0, ix1, d1, m1])
  have em : v.map (fun y => D.int (y.num * ((lcmF v 1 / y.den : Nat) : Int))) = (wholeR v).map D.int := by
    unfold wholeR
    rw [List.map_map]
    rfl
  rw [em] at lc
  have hw : ∀ a ∈ wholeR v, a.natAbs < 2 ^ 8000 := fun a ha => by
    obtain ⟨y, hy, rfl⟩ := List.mem_map.mp ha
    have sy := hv y hy
    rw [Int.natAbs_mul, Int.natAbs_natCast]
    have h1 : lcmF v 1 / y.den < 2 ^ (1 + v.length * K) := Nat.lt_of_le_of_lt (Nat.div_le_self _ _) q2
    have h2 : y.num.natAbs * (lcmF v 1 / y.den) < 2 ^ (K + (1 + v.length * K)) := by
      rw [Nat.pow_add]
      exact Nat.mul_lt_mul_of_lt_of_le sy.1 (Nat.le_of_lt h1) (Nat.two_pow_pos _)
    exact Nat.lt_of_lt_of_le h2 (Nat.pow_le_pow_right (by decide) (by omega))
  have wl : (wholeR v).length = v.length := List.length_map ..
  generalize wholeR v = xs at *
  generalize hX : frs v = X at *
  generalize ((lcmF v 1 : Nat) : Int) = n0 at *
  have s4 : m_law_cleared_v2_s4 (Ecl X (.int n0) o2 none none none) = .nx (Ecl X (.int n0) o2 (some (dl xs)) none none) := by
    show _ = Out.nx (Ecl X (.int n0) o2 (some (.lst (xs.map D.int))) none none)
    generalize xs.map D.int = Z at *
    unfold m_law_cleared_v2_s4
    generalize m_law_cleared_v2_e3 = B at *
    simp -implicitDefEqProofs [lc]
  have s5 : m_law_cleared_v2_s5 (Ecl X (.int n0) o2 (some (dl xs)) none none) = .nx (Ecl X (.int n0) o2 (some (dl xs)) (some (.int 0)) none) := by
    generalize dl xs = Z at *
    simp -implicitDefEqProofs [m_law_cleared_v2_s5]
  obtain ⟨o5, e7⟩ := lcg_loop X (.int n0) (dl xs) o2 xs 0 none hw
  have s7 : m_law_cleared_v2_s7 (Ecl X (.int n0) o2 (some (dl xs)) (some (.int 0)) none) = .nx (Ecl X (.int n0) o2 (some (dl xs)) (some (.int (gcdL xs 0 : Nat))) o5) := by
    have e7' : loopL (mgName 5) m_law_cleared_v2_b6 (xs.map D.int) (Ecl X (.int n0) o2 (some (dl xs)) (some (.int 0)) none) = _ := e7
    have g7 : gIter (dl xs) = some (xs.map D.int) := rfl
    generalize xs.map D.int = Z2 at *
    generalize dl xs = Z at *
    generalize ((gcdL xs 0 : Nat) : Int) = g at *
    unfold m_law_cleared_v2_s7
    generalize m_law_cleared_v2_b6 = B at *
    simp -implicitDefEqProofs [g7, e7']
  have fin : ∀ d ρ1, m_law_cleared_v2 [some X, none, none, none, none, none] = .rt d ρ1 → (F_law_cleared_v2 [X]).R ρ = .ok d ρ := fun d ρ1 e => by
    have := runM_rt (n := 6) (np := 1) (dd := []) (fr := false) (m := m_law_cleared_v2) (ds := [X]) (d := d) (ρ := ρ1) rfl e
    unfold F_law_cleared_v2
    rw [this, Ret.R_rt]
  have glt := gcdL_lt hw
  refine fin _ (Ecl X (.int n0) o2 (some (dl xs)) (some (.int (gcdL xs 0 : Nat))) o5) ?_
  unfold m_law_cleared_v2
  rw [seq_nx s0, seq_nx s2, seq_nx s4, seq_nx s5, seq_nx s7]
  by_cases c : gcdL xs 0 = 0
  · have ec : clr xs = xs := by
      unfold clr
      rw [if_neg (by omega)]
    have gt : gTuple [dl xs] = some (pl xs) := rfl
    rw [ec, c]
    have s8 : m_law_cleared_v2_s8 (Ecl X (.int n0) o2 (some (dl xs)) (some (.int ((0 : Nat) : Int))) o5) = .rt (pl xs) (Ecl X (.int n0) o2 (some (dl xs)) (some (.int ((0 : Nat) : Int))) o5) := by
      generalize pl xs = P at *
      generalize dl xs = Z at *
      simp -implicitDefEqProofs [m_law_cleared_v2_s8, gt]
    exact seq_rt s8
  · have c' : ¬ ((gcdL xs 0 : Nat) : Int) = 0 := by omega
    have e6 := mLc_map (vs := [5]) (g := mgName 5) (me := m2 gDiv (mVar 5) (mVar 4)) (mi := mIter (mVar 3)) (as := xs) (enc := D.int)
      (ρ0 := Ecl X (.int n0) o2 (some (dl xs)) (some (.int (gcdL xs 0 : Nat))) o5) (ρ := Ecl X (.int n0) o2 (some (dl xs)) (some (.int (gcdL xs 0 : Nat))) o5)
      (st := fun a => Ecl X (.int n0) o2 (some (dl xs)) (some (.int (gcdL xs 0 : Nat))) (some (.int a))) (f := fun a => D.int (a.fdiv (gcdL xs 0 : Nat)))
      rfl (by omega) (fun _ => rfl) (fun a _ => rfl) (fun a ha => by
        have := gDiv_sm (a := a) (b := (gcdL xs 0 : Nat)) (j := 8000) (by omega) (by simpa using glt) (by decide) (by decide)
        generalize dl xs = Z at *
        generalize gcdL xs 0 = g at *
        simp -implicitDefEqProofs [this])
    have em : xs.map (fun a => D.int (a.fdiv (gcdL xs 0 : Nat))) = (clr xs).map D.int := by
      rw [clr_prim c, List.map_map]
      rfl
    rw [em] at e6
    have gt : gTuple [.lst ((clr xs).map D.int)] = some (pl (clr xs)) := rfl
    generalize (clr xs).map D.int = Y at *
    generalize pl (clr xs) = P at *
    generalize dl xs = Z at *
    generalize ((gcdL xs 0 : Nat) : Int) = g at *
    simp -implicitDefEqProofs [m_law_cleared_v2_s8, m_law_cleared_v2_s9, c', e6, gt]
theorem v_pcleared {v : List Rat} {K : Nat} (hv : ∀ y ∈ v, Sz K y) (hl : v.length ≤ 100) (hK : 1 + v.length * K + K ≤ 7000) (ρ : En) : (Fcleared [frs v]).R ρ = .ok (pl (clr (wholeR v))) ρ := by
  have sz := szv
  have vc := fun ρ => v_clearedRow hv hl hK ρ
  have lp : ∀ (ys : List Rat), (∀ y ∈ ys, Sz K y) → ∀ o, ∃ o', loopL (mgName 1) mcleared_b0 (ys.map fr) [some (frs v), o] = .nx [some (frs v), o'] := by
    intro ys
    induction ys with
    | nil => exact fun _ o => ⟨o, rfl⟩
    | cons y ys ih =>
      intro h o
      obtain ⟨o', e⟩ := ih (fun z hz => h z (List.mem_cons_of_mem _ hz)) (some (fr y))
      have ck := fun ρ => v_chkQ (h y List.mem_cons_self) (by omega) ρ
      refine ⟨o', ?_⟩
      rw [List.map_cons, ← e]
      refine loop_step (ρ1 := [some (frs v), some (fr y)]) rfl ?_
      generalize frs v = X at *
      generalize fr y = Y at *
      simp -implicitDefEqProofs [mcleared_b0, mCall_R, ck]
  obtain ⟨o', e⟩ := lp v hv none
  have gi : gIter (frs v) = some (v.map fr) := rfl
  have h : mcleared [some (frs v), none] = .rt (pl (clr (wholeR v))) [some (frs v), o'] := by
    generalize pl (clr (wholeR v)) = P at *
    generalize v.map fr = Z at *
    generalize frs v = X at *
    unfold mcleared
    generalize mcleared_b0 = B at *
    simp -implicitDefEqProofs [gi, e, mCall_R, vc]
  have := runM_rt (n := 2) (np := 1) (dd := []) (fr := false) (m := mcleared) (ds := [frs v]) rfl h
  unfold Fcleared
  rw [this, Ret.R_rt]
theorem v_pclearedNo {v : List Rat} {K : Nat} (hv : ∀ y ∈ v, Sz K y) (hK : K ≤ 8000) {a b : Int} (hb : b.natAbs < 2 ^ 8000) (hn : isNum a b = false) {r : List D} (ρ : En) : (Fcleared [.tup (v.map fr ++ tupI (a, b) :: r)]).R ρ = .ex NNm ρ := by
  have ck : ∀ ρ, (Fcheck_number [tupI (a, b)]).R ρ = if isNum a b = true then .ok .non ρ else .ex NNm ρ := fun ρ => v_chkN (a := (a, b)) hb ρ
  rw [hn] at ck
  have lp : ∀ (ys : List Rat), (∀ y ∈ ys, Sz K y) → ∀ (X : D) o, loopL (mgName 1) mcleared_b0 (ys.map fr ++ tupI (a, b) :: r) [some X, o] = .ex NNm [some X, some (tupI (a, b))] := by
    intro ys
    induction ys with
    | nil =>
      intro _ X o
      have hb : mcleared_b0 [some X, some (tupI (a, b))] = .ex NNm [some X, some (tupI (a, b))] := by
        generalize tupI (a, b) = T at *
        simp -implicitDefEqProofs [mcleared_b0, mCall_R, ck]
      show loopL (mgName 1) mcleared_b0 (tupI (a, b) :: r) [some X, o] = _
      have hg : mgName 1 (tupI (a, b)) [some X, o] = .ok () [some X, some (tupI (a, b))] := rfl
      simp only [loopL, hg, hb]
    | cons y ys ih =>
      intro h X o
      have ck := fun ρ => v_chkQ (h y List.mem_cons_self) (by omega) ρ
      rw [List.map_cons, List.cons_append, ← ih (fun z hz => h z (List.mem_cons_of_mem _ hz)) X (some (fr y))]
      refine loop_step (ρ1 := [some X, some (fr y)]) rfl ?_
      generalize fr y = Y at *
      simp -implicitDefEqProofs [mcleared_b0, mCall_R, ck]
  have e := lp v hv (.tup (v.map fr ++ tupI (a, b) :: r)) none
  have gi : gIter (.tup (v.map fr ++ tupI (a, b) :: r)) = some (v.map fr ++ tupI (a, b) :: r) := rfl
  have h : mcleared [some (.tup (v.map fr ++ tupI (a, b) :: r)), none] = .ex NNm [some (.tup (v.map fr ++ tupI (a, b) :: r)), some (tupI (a, b))] := by
    generalize D.tup (v.map fr ++ tupI (a, b) :: r) = X at *
    generalize v.map fr ++ tupI (a, b) :: r = Z at *
    generalize tupI (a, b) = T at *
    unfold mcleared
    generalize mcleared_b0 = B at *
    simp -implicitDefEqProofs [gi, e]
  have := runM_ex (n := 2) (np := 1) (dd := []) (fr := false) (m := mcleared) (ds := [.tup (v.map fr ++ tupI (a, b) :: r)]) rfl h
  unfold Fcleared
  rw [this, Ret.R_ex]
end Q
namespace K01
open DL L2 PySem PySem.Spec PyProof.Rows
abbrev prog : Program := PySem.Challenge.pw_planeworth_k01_texts_of_numbers_and_clea
def top (i : Nat) : Stmt := prog.main.body.getD i (.Pass ⟨0, 0, 0, 0⟩)
abbrev s_law_number : Stmt := top 19
abbrev s_law_draws : Stmt := top 20
abbrev s_law_next : Stmt := top 21
abbrev s_law_long : Stmt := top 25
abbrev s_law_divisor : Stmt := top 22
abbrev s_law_lowest : Stmt := top 23
abbrev s_law_fraction : Stmt := top 24
abbrev s_law_pair : Stmt := top 26
abbrev sdivisor : Stmt := top 9
abbrev sis_number : Stmt := top 10
abbrev scheck_number : Stmt := top 11
abbrev snumber_text : Stmt := top 12
abbrev s_law_text : Stmt := top 27
abbrev sinteger_in : Stmt := top 13
abbrev sread_number : Stmt := top 14
abbrev s_law_written : Stmt := top 31
abbrev s_law_told : Stmt := top 30
abbrev s_law_large : Stmt := top 34
abbrev s_law_spoilt : Stmt := top 32
abbrev swithout_divisor : Stmt := top 15
abbrev scleared_row : Stmt := top 16
abbrev scleared : Stmt := top 17
abbrev s_law_cleared : Stmt := top 33
abbrev s_law_refused : Stmt := top 35
abbrev s_law_integer_in : Stmt := top 28
abbrev s_law_read : Stmt := top 29
abbrev slaw : Stmt := top 36
abbrev cBEYOND : Int := 10000000000000000000000000000000000000000000000000000000000000000000000000000000000000000000000000000000000000000000000000000000000000000000000000000000000000000000000000000000000000000000000000000000000000000000000000000000000000000000000000000000000000000000000000000000000000000000000000000000000000000000000000000000000000000000000000000000000000000000000000000000000000000000000000000000000000000
abbrev cFIGURES : Str := "0123456789"
abbrev cMOST_FIGURES : Int := 400
structure Fc (K : PySem.W.Frag) (mg : Str → Option Value) : Prop where
  g_Malformed : mg "Malformed" = some (.ref (He.ga K "Malformed"))
  g_NotNumber : mg "NotNumber" = some (.ref (He.ga K "NotNumber"))
  g_PlaneError : mg "PlaneError" = some (.ref (He.ga K "PlaneError"))
  g_TooLarge : mg "TooLarge" = some (.ref (He.ga K "TooLarge"))
  g__law_cleared : mg "_law_cleared" = some (.ref (He.ga K "_law_cleared"))
  g__law_divisor : mg "_law_divisor" = some (.ref (He.ga K "_law_divisor"))
  g__law_draws : mg "_law_draws" = some (.ref (He.ga K "_law_draws"))
  g__law_fraction : mg "_law_fraction" = some (.ref (He.ga K "_law_fraction"))
  g__law_integer_in : mg "_law_integer_in" = some (.ref (He.ga K "_law_integer_in"))
  g__law_large : mg "_law_large" = some (.ref (He.ga K "_law_large"))
  g__law_long : mg "_law_long" = some (.ref (He.ga K "_law_long"))
  g__law_lowest : mg "_law_lowest" = some (.ref (He.ga K "_law_lowest"))
  g__law_next : mg "_law_next" = some (.ref (He.ga K "_law_next"))
  g__law_number : mg "_law_number" = some (.ref (He.ga K "_law_number"))
  g__law_pair : mg "_law_pair" = some (.ref (He.ga K "_law_pair"))
  g__law_read : mg "_law_read" = some (.ref (He.ga K "_law_read"))
  g__law_refused : mg "_law_refused" = some (.ref (He.ga K "_law_refused"))
  g__law_spoilt : mg "_law_spoilt" = some (.ref (He.ga K "_law_spoilt"))
  g__law_text : mg "_law_text" = some (.ref (He.ga K "_law_text"))
  g__law_told : mg "_law_told" = some (.ref (He.ga K "_law_told"))
  g__law_written : mg "_law_written" = some (.ref (He.ga K "_law_written"))
  g_check_number : mg "check_number" = some (.ref (He.ga K "check_number"))
  g_cleared : mg "cleared" = some (.ref (He.ga K "cleared"))
  g_cleared_row : mg "cleared_row" = some (.ref (He.ga K "cleared_row"))
  g_divisor : mg "divisor" = some (.ref (He.ga K "divisor"))
  g_integer_in : mg "integer_in" = some (.ref (He.ga K "integer_in"))
  g_is_number : mg "is_number" = some (.ref (He.ga K "is_number"))
  g_law : mg "law" = some (.ref (He.ga K "law"))
  g_number_text : mg "number_text" = some (.ref (He.ga K "number_text"))
  g_read_number : mg "read_number" = some (.ref (He.ga K "read_number"))
  g_without_divisor : mg "without_divisor" = some (.ref (He.ga K "without_divisor"))
  f_abs : mg "abs" = none
  f_all : mg "all" = none
  f_int : mg "int" = none
  f_isinstance : mg "isinstance" = none
  f_len : mg "len" = none
  f_range : mg "range" = none
  f_repr : mg "repr" = none
  f_str : mg "str" = none
  f_super : mg "super" = none
  f_tuple : mg "tuple" = none
  c_BEYOND : ∃ t, mg "BEYOND" = some (.int cBEYOND t)
  c_FIGURES : ∃ t, mg "FIGURES" = some (.str cFIGURES t)
  c_MOST_FIGURES : ∃ t, mg "MOST_FIGURES" = some (.int cMOST_FIGURES t)
  e_PlaneError : ExcOk K mg "PlaneError"
  e_NotNumber : ExcOk K mg "NotNumber"
  e_TooLarge : ExcOk K mg "TooLarge"
  m_Malformed_PlaneError : PySem.W.exmOne K (.ref (He.ga K "PlaneError")) (.ref (He.ga K "Malformed")) = some false
  m_Malformed_NotNumber : PySem.W.exmOne K (.ref (He.ga K "NotNumber")) (.ref (He.ga K "Malformed")) = some false
  m_Malformed_TooLarge : PySem.W.exmOne K (.ref (He.ga K "TooLarge")) (.ref (He.ga K "Malformed")) = some false
  m_Malformed_Malformed : PySem.W.exmOne K (.ref (He.ga K "Malformed")) (.ref (He.ga K "Malformed")) = some true
  m_NotNumber_PlaneError : PySem.W.exmOne K (.ref (He.ga K "PlaneError")) (.ref (He.ga K "NotNumber")) = some false
  m_NotNumber_NotNumber : PySem.W.exmOne K (.ref (He.ga K "NotNumber")) (.ref (He.ga K "NotNumber")) = some true
  m_NotNumber_TooLarge : PySem.W.exmOne K (.ref (He.ga K "TooLarge")) (.ref (He.ga K "NotNumber")) = some false
  m_NotNumber_Malformed : PySem.W.exmOne K (.ref (He.ga K "Malformed")) (.ref (He.ga K "NotNumber")) = some false
  m_PlaneError_PlaneError : PySem.W.exmOne K (.ref (He.ga K "PlaneError")) (.ref (He.ga K "PlaneError")) = some true
  m_PlaneError_NotNumber : PySem.W.exmOne K (.ref (He.ga K "NotNumber")) (.ref (He.ga K "PlaneError")) = some true
  m_PlaneError_TooLarge : PySem.W.exmOne K (.ref (He.ga K "TooLarge")) (.ref (He.ga K "PlaneError")) = some true
  m_PlaneError_Malformed : PySem.W.exmOne K (.ref (He.ga K "Malformed")) (.ref (He.ga K "PlaneError")) = some true
  x_Malformed : XCls prog K mg "Malformed" "at" "word "
  xf_Malformed_at : XfC K (He.ga K "Malformed") ∧ PySem.W.findIn K (.ref (He.ga K "Malformed")) "at" = some none
  x_Malformed_Malformed : ExcC K (He.ga K "Malformed")
  x_NotNumber_NotNumber : ExcC K (He.ga K "NotNumber")
  x_PlaneError_PlaneError : ExcC K (He.ga K "PlaneError")
  x_PlaneError_NotNumber : ExcC K (He.ga K "NotNumber")
  x_PlaneError_TooLarge : ExcC K (He.ga K "TooLarge")
  x_PlaneError_Malformed : ExcC K (He.ga K "Malformed")
  k_PlaneError_TooLarge_PlaneError : PySem.W.kitOne K (.ref (He.ga K "PlaneError")) (.ref (He.ga K "TooLarge")) = some false
  k_PlaneError_TooLarge_NotNumber : PySem.W.kitOne K (.ref (He.ga K "NotNumber")) (.ref (He.ga K "TooLarge")) = some false
  k_PlaneError_TooLarge_TooLarge : PySem.W.kitOne K (.ref (He.ga K "TooLarge")) (.ref (He.ga K "TooLarge")) = some true
  k_PlaneError_TooLarge_Malformed : PySem.W.kitOne K (.ref (He.ga K "Malformed")) (.ref (He.ga K "TooLarge")) = some false
  d__law_number : ∃ fd, FunD K "_law_number" "_law_number" (defArgs s_law_number) (defBody s_law_number) (defScope s_law_number) [] [] (He.ga K "_law_number") fd
  d__law_draws : ∃ fd, FunD K "_law_draws" "_law_draws" (defArgs s_law_draws) (defBody s_law_draws) (defScope s_law_draws) [] [] (He.ga K "_law_draws") fd
  d__law_next : ∃ fd, FunD K "_law_next" "_law_next" (defArgs s_law_next) (defBody s_law_next) (defScope s_law_next) [] [] (He.ga K "_law_next") fd
  d__law_long : ∃ fd, FunD K "_law_long" "_law_long" (defArgs s_law_long) (defBody s_law_long) (defScope s_law_long) [] [] (He.ga K "_law_long") fd
  d__law_divisor : ∃ fd, FunD K "_law_divisor" "_law_divisor" (defArgs s_law_divisor) (defBody s_law_divisor) (defScope s_law_divisor) [] [] (He.ga K "_law_divisor") fd
  d__law_lowest : ∃ fd, FunD K "_law_lowest" "_law_lowest" (defArgs s_law_lowest) (defBody s_law_lowest) (defScope s_law_lowest) [] [] (He.ga K "_law_lowest") fd
  d__law_fraction : ∃ fd, FunD K "_law_fraction" "_law_fraction" (defArgs s_law_fraction) (defBody s_law_fraction) (defScope s_law_fraction) [] [] (He.ga K "_law_fraction") fd
  d__law_pair : ∃ fd, FunD K "_law_pair" "_law_pair" (defArgs s_law_pair) (defBody s_law_pair) (defScope s_law_pair) [] [] (He.ga K "_law_pair") fd
  d_divisor : ∃ fd, FunD K "divisor" "divisor" (defArgs sdivisor) (defBody sdivisor) (defScope sdivisor) [] [] (He.ga K "divisor") fd
  d_is_number : ∃ fd, FunD K "is_number" "is_number" (defArgs sis_number) (defBody sis_number) (defScope sis_number) [] [] (He.ga K "is_number") fd
  d_check_number : ∃ fd, FunD K "check_number" "check_number" (defArgs scheck_number) (defBody scheck_number) (defScope scheck_number) [] [] (He.ga K "check_number") fd
  d_number_text : ∃ fd, FunD K "number_text" "number_text" (defArgs snumber_text) (defBody snumber_text) (defScope snumber_text) [] [] (He.ga K "number_text") fd
  d__law_text : ∃ fd, FunD K "_law_text" "_law_text" (defArgs s_law_text) (defBody s_law_text) (defScope s_law_text) [] [] (He.ga K "_law_text") fd
  d_integer_in : ∃ fd, FunD K "integer_in" "integer_in" (defArgs sinteger_in) (defBody sinteger_in) (defScope sinteger_in) [] [] (He.ga K "integer_in") fd
  d_read_number : ∃ fd, FunD K "read_number" "read_number" (defArgs sread_number) (defBody sread_number) (defScope sread_number) [] [] (He.ga K "read_number") fd
  d__law_written : ∃ fd, FunD K "_law_written" "_law_written" (defArgs s_law_written) (defBody s_law_written) (defScope s_law_written) [] [] (He.ga K "_law_written") fd
  d__law_told : ∃ fd, FunD K "_law_told" "_law_told" (defArgs s_law_told) (defBody s_law_told) (defScope s_law_told) [] [] (He.ga K "_law_told") fd
  d__law_large : ∃ fd, FunD K "_law_large" "_law_large" (defArgs s_law_large) (defBody s_law_large) (defScope s_law_large) [] [] (He.ga K "_law_large") fd
  d__law_spoilt : ∃ fd, FunD K "_law_spoilt" "_law_spoilt" (defArgs s_law_spoilt) (defBody s_law_spoilt) (defScope s_law_spoilt) [] [] (He.ga K "_law_spoilt") fd
  d_without_divisor : ∃ fd, FunD K "without_divisor" "without_divisor" (defArgs swithout_divisor) (defBody swithout_divisor) (defScope swithout_divisor) [] [] (He.ga K "without_divisor") fd
  d_cleared_row : ∃ fd, FunD K "cleared_row" "cleared_row" (defArgs scleared_row) (defBody scleared_row) (defScope scleared_row) [] [] (He.ga K "cleared_row") fd
  d_cleared : ∃ fd, FunD K "cleared" "cleared" (defArgs scleared) (defBody scleared) (defScope scleared) [] [] (He.ga K "cleared") fd
  d__law_cleared : ∃ fd, FunD K "_law_cleared" "_law_cleared" (defArgs s_law_cleared) (defBody s_law_cleared) (defScope s_law_cleared) [] [] (He.ga K "_law_cleared") fd
  d__law_refused : ∃ fd, FunD K "_law_refused" "_law_refused" (defArgs s_law_refused) (defBody s_law_refused) (defScope s_law_refused) [] [] (He.ga K "_law_refused") fd
  d__law_integer_in : ∃ fd, FunD K "_law_integer_in" "_law_integer_in" (defArgs s_law_integer_in) (defBody s_law_integer_in) (defScope s_law_integer_in) [] [] (He.ga K "_law_integer_in") fd
  d__law_read : ∃ fd, FunD K "_law_read" "_law_read" (defArgs s_law_read) (defBody s_law_read) (defScope s_law_read) [] [] (He.ga K "_law_read") fd
  d_law : ∃ fd, FunD K "law" "law" (defArgs slaw) (defBody slaw) (defScope slaw) [] [] (He.ga K "law") fd
abbrev sIni_Malformed : Stmt := (cbody (top 4)).getD 0 (.Pass ⟨0, 0, 0, 0⟩)
def okX_at (k : Str) : Bool := decide (k = "Malformed")
theorem okX_at_ok {K : PySem.W.Frag} {mg : Str → Option Value} (fc : Fc K mg) : XfOk K "at" okX_at := by
  intro k h
  simp only [okX_at, Bool.or_eq_true, decide_eq_true_eq] at h
  subst h; exact fc.xf_Malformed_at
def mtMalformed (k : Str) : Option Bool := if k = "PlaneError" then some false else if k = "NotNumber" then some false else if k = "TooLarge" then some false else if k = "Malformed" then some true else none
section
variable {K : PySem.W.Frag} {mg : Str → Option Value}
theorem mtMalformed_ok (fc : Fc K mg) : ∀ k b, mtMalformed k = some b → PySem.W.exmOne K (.ref (He.ga K k)) (.ref (He.ga K "Malformed")) = some b := by
  intro k b h
  unfold mtMalformed at h
  repeat' split at h
  · subst k; cases h; exact fc.m_Malformed_PlaneError
  · subst k; cases h; exact fc.m_Malformed_NotNumber
  · subst k; cases h; exact fc.m_Malformed_TooLarge
  · subst k; cases h; exact fc.m_Malformed_Malformed
  · cases h
end
def mtNotNumber (k : Str) : Option Bool := if k = "PlaneError" then some false else if k = "NotNumber" then some true else if k = "TooLarge" then some false else if k = "Malformed" then some false else none
section
variable {K : PySem.W.Frag} {mg : Str → Option Value}
theorem mtNotNumber_ok (fc : Fc K mg) : ∀ k b, mtNotNumber k = some b → PySem.W.exmOne K (.ref (He.ga K k)) (.ref (He.ga K "NotNumber")) = some b := by
  intro k b h
  unfold mtNotNumber at h
  repeat' split at h
  · subst k; cases h; exact fc.m_NotNumber_PlaneError
  · subst k; cases h; exact fc.m_NotNumber_NotNumber
  · subst k; cases h; exact fc.m_NotNumber_TooLarge
  · subst k; cases h; exact fc.m_NotNumber_Malformed
  · cases h
end
def mtPlaneError (k : Str) : Option Bool := if k = "PlaneError" then some true else if k = "NotNumber" then some true else if k = "TooLarge" then some true else if k = "Malformed" then some true else none
section
variable {K : PySem.W.Frag} {mg : Str → Option Value}
theorem mtPlaneError_ok (fc : Fc K mg) : ∀ k b, mtPlaneError k = some b → PySem.W.exmOne K (.ref (He.ga K k)) (.ref (He.ga K "PlaneError")) = some b := by
  intro k b h
  unfold mtPlaneError at h
  repeat' split at h
  · subst k; cases h; exact fc.m_PlaneError_PlaneError
  · subst k; cases h; exact fc.m_PlaneError_NotNumber
  · subst k; cases h; exact fc.m_PlaneError_TooLarge
  · subst k; cases h; exact fc.m_PlaneError_Malformed
  · cases h
theorem mtPlaneError_ex (fc : Fc K mg) {k : Str} (h : mtPlaneError k = some true) : ExcC K (He.ga K k) := by
  unfold mtPlaneError at h
  repeat' split at h
  · subst k; exact fc.x_PlaneError_PlaneError
  · subst k; exact fc.x_PlaneError_NotNumber
  · subst k; exact fc.x_PlaneError_TooLarge
  · subst k; exact fc.x_PlaneError_Malformed
  · cases h
end
def kTooLarge (k : Str) : Bool := decide (k = "TooLarge")
theorem isPlaneError_TooLarge {K : PySem.W.Frag} {mg : Str → Option Value} (fc : Fc K mg) {k : Str} (h : mtPlaneError k = some true) : PySem.W.kitOne K (.ref (He.ga K k)) (.ref (He.ga K "TooLarge")) = some (kTooLarge k) := by
  unfold mtPlaneError at h
  repeat' split at h
  · subst k; exact fc.k_PlaneError_TooLarge_PlaneError
  · subst k; exact fc.k_PlaneError_TooLarge_NotNumber
  · subst k; exact fc.k_PlaneError_TooLarge_TooLarge
  · subst k; exact fc.k_PlaneError_TooLarge_Malformed
  · cases h
def m_law_written : MS := (msTryAs mtPlaneError 1 (msRet (mCall Q.Fnumber_text (mCons (mVar 0) mNil))) (fun k => (msRet (m2 gAdd (mK (.str "!")) (mN gStr (mCons (mN gInt (mCons (mK (.bl (kTooLarge k))) mNil)) mNil))))))
def F_law_written : FN := runM 2 1 [] false m_law_written
def m_law_told : MS := (msTryF mtMalformed 1 (msRet (mCall Q.Fread_number (mCons (mVar 0) mNil))) (fun k fs => (msRet (m2 gAdd (mK (.str "!")) (mN gStr (mCons (mXf okX_at k "at" fs) mNil))))))
def F_law_told : FN := runM 2 1 [] false m_law_told
def m_law_large_b0 : MS := (msIf (mOrT (mTest (m2 gNe (mCall Q.Fnumber_text (mCons (mVar 2) mNil)) (mCall Q.F_law_text (mCons (mVar 2) mNil)))) (mTest (m2 gNe (mCall Q.Fread_number (mCons (mCall Q.F_law_text (mCons (mVar 2) mNil)) mNil)) (mVar 2)))) (msRet (mK (.bl false))) msNil)
def m_law_large_b1 : MS := (msIf (mOrT (mTest (m2 gNe (mCall F_law_written (mCons (mVar 2) mNil)) (mK (.str "!1")))) (mTest (m2 gNe (mCall F_law_told (mCons (mCall Q.F_law_text (mCons (mVar 2) mNil)) mNil)) (mK (.str "!0"))))) (msRet (mK (.bl false))) msNil)
def m_law_large : MS := (msSeq (msAsg (m2 gSub (m2 gPowW (m2 gPow (mK (.int 10)) (mK (.int 50))) (mK (.int 8))) (mK (.int 1))) (mgName 1)) (msSeq (msFor (mIter (mN gLst (mCons (mN gTup (mCons (mVar 1) (mCons (mK (.int 1)) mNil))) (mCons (mN gTup (mCons (m2 gSub (mK (.int 0)) (mVar 1)) (mCons (mK (.int 1)) mNil))) (mCons (mN gTup (mCons (mK (.int 1)) (mCons (mVar 1) mNil))) (mCons (mN gTup (mCons (m2 gSub (mVar 1) (mK (.int 1))) (mCons (mVar 1) mNil))) mNil)))))) (mgName 2) m_law_large_b0) (msSeq (msFor (mIter (mN gLst (mCons (mN gTup (mCons (m2 gAdd (mVar 1) (mK (.int 1))) (mCons (mK (.int 1)) mNil))) (mCons (mN gTup (mCons (m2 gSub (m2 gSub (mK (.int 0)) (mVar 1)) (mK (.int 1))) (mCons (mK (.int 1)) mNil))) (mCons (mN gTup (mCons (mK (.int 1)) (mCons (m2 gAdd (mVar 1) (mK (.int 1))) mNil))) (mCons (mN gTup (mCons (mVar 1) (mCons (m2 gAdd (mVar 1) (mK (.int 1))) mNil))) mNil)))))) (mgName 2) m_law_large_b1) (msRet (mK (.bl true))))))
def F_law_large : FN := runM 3 0 [] false m_law_large
def m_law_refused : MS := (msTryO mtNotNumber (msSeq (msExpr (mCall Q.Fcleared (mCons (mVar 0) mNil))) (msRet (mK (.bl false)))) (msRet (mK (.bl true))))
def F_law_refused : FN := runM 1 1 [] false m_law_refused
def mlaw_s0 : MS := (msOwn 1 (mCall Q.F_law_draws (mCons (mVar 0) mNil)))
def mlaw_s1 : MS := (msExpr (mOM gReverse 1 mNil))
def mlaw_s2 : MS := (msAsg (mCallIo Q.F_law_pair 1 mNil) (mgName 2))
def mlaw_s3 : MS := (msAsg (mCall Q.Fnumber_text (mCons (mVar 2) mNil)) (mgName 3))
def mlaw_s4 : MS := (msIf (mOrT (mTest (m2 gNe (mVar 3) (mCall Q.F_law_text (mCons (mVar 2) mNil)))) (mTest (m2 gNe (mN gRepr (mCons (mCall Q.Fread_number (mCons (mVar 3) mNil)) mNil)) (mN gRepr (mCons (mVar 2) mNil))))) (msRet (mK (.bl false))) msNil)
def mlaw_s5 : MS := (msAsg (mN gLst (mCons (mK (.str "")) (mCons (mK (.str "-")) (mCons (mK (.str "+1")) (mCons (mK (.str "01")) (mCons (mK (.str "-0")) (mCons (mK (.str "1/1")) (mCons (mK (.str "1/0")) (mCons (mK (.str "2/4")) (mCons (mK (.str "1/-2")) (mCons (mK (.str "1/2/3")) (mCons (mK (.str " 1")) (mCons (mK (.str "1 ")) (mCons (mK (.str "0/2")) (mCons (mK (.str "1.5")) (mCons (mK (.str "1/")) (mCons (mK (.str "/2")) (mCons (mK (.str "--1")) mNil)))))))))))))))))) (mgName 4))
def mlaw_b6 : MS := (msIf (mTest (m2 gNe (mN gRepr (mCons (mCall F_law_told (mCons (mVar 5) mNil)) mNil)) (mN gRepr (mCons (mCall Q.F_law_read (mCons (mVar 5) mNil)) mNil)))) (msRet (mK (.bl false))) msNil)
def mlaw_s7 : MS := (msFor (mIter (m2 gAdd (mVar 4) (mN gLst (mCons (mCallIo Q.F_law_spoilt_v2 1 (mCons (mVar 3) mNil)) (mCons (mCallIo Q.F_law_spoilt_v2 1 (mCons (mCallIo Q.F_law_spoilt_v2 1 (mCons (mVar 3) mNil)) mNil)) (mCons (m2 gAdd (mVar 3) (mK (.str "/2"))) (mCons (m2 gAdd (mK (.str "-")) (mVar 3)) mNil))))))) (mgName 5) mlaw_b6)
def mlaw_s8 : MS := (msAsg (mN gTuple (mCons (mLc [7] (mItN gRange1 (mCons (m2 gMod (mN gInt (mCons (mCallIo Q.F_law_next 1 mNil) mNil)) (mK (.int 7))) mNil)) (mgName 7) mYes (mCallIo Q.F_law_pair 1 mNil)) mNil)) (mgName 6))
def mlaw_e9 : ME := (mN gTup (mCons (mK (.int 0)) (mCons (mK (.int 1)) mNil)))
def mlaw_s10 : MS := (msIf (mTest (m2 gEq (m2 gMod (mN gInt (mCons (mCallIo Q.F_law_next 1 mNil) mNil)) (mK (.int 4))) (mK (.int 1)))) (msAsg (mN gTuple (mCons (mLc [8] (mIter (mVar 6)) (mgName 8) mYes mlaw_e9) mNil)) (mgName 6)) msNil)
def mlaw_s11 : MS := (msIf (mTest (m2 gNe (mN gRepr (mCons (mCall Q.Fcleared (mCons (mVar 6) mNil)) mNil)) (mN gRepr (mCons (mCall Q.F_law_cleared_v2 (mCons (mVar 6) mNil)) mNil)))) (msRet (mK (.bl false))) msNil)
def mlaw_s12 : MS := (msIf (mOrT (mNotT (mTru (mCall F_law_refused (mCons (m2 gAdd (mVar 6) (mN gTup (mCons (mN gTup (mCons (mK (.int 2)) (mCons (mK (.int 4)) mNil))) mNil))) mNil)))) (mNotT (mTru (mCall F_law_refused (mCons (m2 gAdd (mN gTup (mCons (mN gTup (mCons (mK (.int 1)) (mCons (mK (.int 0)) mNil))) mNil)) (mVar 6)) mNil))))) (msRet (mK (.bl false))) msNil)
def mlaw_s13 : MS := (msRet (mCall F_law_large mNil))
def mlaw : MS := (msForget 1 (msSeq mlaw_s0 (msSeq mlaw_s1 (msSeq mlaw_s2 (msSeq mlaw_s3 (msSeq mlaw_s4 (msSeq mlaw_s5 (msSeq mlaw_s7 (msSeq mlaw_s8 (msSeq mlaw_s10 (msSeq mlaw_s11 (msSeq mlaw_s12 mlaw_s13))))))))))))
def Flaw : FN := runM 9 1 [] false mlaw
section
variable {w : World} {K : PySem.W.Frag} {mg : Str → Option Value}
abbrev N_law_number : List Str := ["cell"]
theorem c_law_number : FnScope N_law_number ["cell"] (defScope s_law_number) := ⟨rfl, rfl, rfl, by decide +kernel, rfl, by decide +kernel, by decide +kernel⟩
theorem g_law_number (fc : Fc K mg) : Ok prog w K mg 1 "_law_number" false false Q.F_law_number := by
  intro base
  obtain ⟨fd, F⟩ := fc.d__law_number
  refine fnG_of (ps := ["cell"]) (N := N_law_number) (O := []) (O' := []) F c_law_number (F.bindsN fun _ _ _ _ _ _ us hl => match us, hl with | [_], _ => rfl) .nil (fun _ _ => .nil) (by decide) (by decide) (by decide) fun cdv A outer s H E A0 q hio hr hg => ?_
  obtain rfl : q = none := by cases q with
    | none => rfl
    | some _ => cases hio
  have hu := Room.u64 hr
  have hv := Room.u65 hr
  exact (dss_cons (ds_if trivial (dt_cmp od_lt (v_ 0) de_int (pm _ _)) (dss_one (ds_ret trivial (de_bin od_sub de_int (v_ 0)))) dss_nil) (dss_one (ds_ret trivial (v_ 0))))
abbrev N_law_draws : List Str := ["script", "draws", "cell", "rest", "k", "once", "twice"]
theorem c_law_draws : FnScope N_law_draws ["script"] (defScope s_law_draws) := ⟨rfl, rfl, rfl, by decide +kernel, rfl, by decide +kernel, by decide +kernel⟩
theorem g_law_draws (fc : Fc K mg) : Ok prog w K mg 2 "_law_draws" false true Q.F_law_draws := by
  intro base
  obtain ⟨fd, F⟩ := fc.d__law_draws
  refine fnG_of (ps := ["script"]) (N := N_law_draws) (O := []) (O' := []) F c_law_draws (F.bindsN fun _ _ _ _ _ _ us hl => match us, hl with | [_], _ => rfl) .nil (fun _ _ => .nil) (by decide) (by decide) (by decide) fun cdv A outer s H E A0 q hio hr hg => ?_
  obtain rfl : q = none := by cases q with
    | none => rfl
    | some _ => cases hio
  have hu := Room.u64 hr
  have hv := Room.u65 hr
  exact (dss_forgetO 1 (.inl (by decide)) (dss_cons (ds_own trivial (df_lst da_nil) rfl (.inl (by decide)) c_law_draws.nd rfl (Or.inl rfl)) (dss_cons (ds_for (vs := [2]) trivial cx_pw rfl (di_seq (v_ 0)) (dg_name rfl rfl c_law_draws.nd rfl (Or.inl rfl)) (dss_cons (ds_asg (vs := [3]) trivial (de_call (g_law_number fc _) (hr.mono (by decide)) hg cx_tk (by rfl) fc.g__law_number (da_cons (v_ 2) da_nil)) (dg_name rfl rfl c_law_draws.nd rfl (Or.inl rfl))) (dss_one (ds_if trivial (dt_cmp od_ge (v_ 3) de_int (pm _ _)) (dss_one (ds_for (vs := [4]) trivial cx_pw rfl (di_range1 (by rfl) fc.f_range (da_cons de_int da_nil)) (dg_name rfl rfl c_law_draws.nd rfl (Or.inl rfl)) (dss_cons (ds_if trivial (dt_cmp (od_eq hu) (v_ 3) de_int (pm _ _)) (dss_one ds_brk) dss_nil) (dss_cons (ds_expr trivial (de_om om_append PySem.F.slot_list_append PySem.F.type_list_append (by rfl) (pv 1) (da_cons (de_bin od_mod (de_ty bt_int b_int (by rfl) fc.f_int (da_cons (v_ 3) da_nil)) de_int) da_nil))) (dss_one (ds_asg (vs := [3]) trivial (de_bin od_div (v_ 3) de_int) (dg_name rfl rfl c_law_draws.nd rfl (Or.inl rfl)))))))) (dss_cons (ds_asg (vs := [5]) trivial (de_bin od_mod (de_ty bt_int b_int (by rfl) fc.f_int (da_cons (de_bin od_add (de_bin od_mul (v_ 3) de_int) de_int) da_nil)) de_int) (dg_name rfl rfl c_law_draws.nd rfl (Or.inl rfl))) (dss_cons (ds_asg (vs := [6]) trivial (de_bin od_mod (de_ty bt_int b_int (by rfl) fc.f_int (da_cons (de_bin od_add (de_bin od_mul (v_ 5) de_int) (v_ 3)) da_nil)) de_int) (dg_name rfl rfl c_law_draws.nd rfl (Or.inl rfl))) (dss_one (ds_expr trivial (de_om om_extend PySem.F.slot_list_extend PySem.F.type_list_extend (by rfl) (pv 1) (da_cons (DF.toE (df_lst (da_cons (de_bin od_mod (de_ty bt_int b_int (by rfl) fc.f_int (da_cons (v_ 3) da_nil)) de_int) (da_cons (de_bin od_mod (de_ty bt_int b_int (by rfl) fc.f_int (da_cons (v_ 5) da_nil)) de_int) (da_cons (de_bin od_mod (de_ty bt_int b_int (by rfl) fc.f_int (da_cons (v_ 6) da_nil)) de_int) da_nil))))) da_nil)))))))))) (dss_one (ds_retO rfl (.inl (by decide)) (pv 1))))))
abbrev N_law_next : List Str := ["draws"]
theorem c_law_next : FnScope N_law_next ["draws"] (defScope s_law_next) := ⟨rfl, rfl, rfl, by decide +kernel, rfl, by decide +kernel, by decide +kernel⟩
theorem g_law_next (fc : Fc K mg) : Ok prog w K mg 1 "_law_next" true false Q.F_law_next := by
  intro base
  obtain ⟨fd, F⟩ := fc.d__law_next
  refine fnG_of (ps := ["draws"]) (N := N_law_next) (O := [0]) (O' := []) F c_law_next (F.bindsN fun _ _ _ _ _ _ us hl => match us, hl with | [_], _ => rfl) .nil (fun _ _ => .nil) (by decide) (by decide) (by decide) fun cdv A outer s H E A0 q hio hr hg => ?_
  have hu := Room.u64 hr
  have hv := Room.u65 hr
  exact (dss_cons (ds_if trivial (dt_truO (by rfl) (pv 0)) (dss_one (ds_ret trivial (de_om0 om_pop PySem.F.slot_list_pop PySem.F.type_list_pop (by rfl) (pv 0)))) dss_nil) (dss_one (ds_ret trivial de_int)))
abbrev N_law_long : List Str := ["draws", "total", "j"]
theorem c_law_long : FnScope N_law_long ["draws"] (defScope s_law_long) := ⟨rfl, rfl, rfl, by decide +kernel, rfl, by decide +kernel, by decide +kernel⟩
theorem g_law_long (fc : Fc K mg) : Ok prog w K mg 2 "_law_long" true false Q.F_law_long := by
  intro base
  obtain ⟨fd, F⟩ := fc.d__law_long
  refine fnG_of (ps := ["draws"]) (N := N_law_long) (O := [0]) (O' := []) F c_law_long (F.bindsN fun _ _ _ _ _ _ us hl => match us, hl with | [_], _ => rfl) .nil (fun _ _ => .nil) (by decide) (by decide) (by decide) fun cdv A outer s H E A0 q hio hr hg => ?_
  have hu := Room.u64 hr
  have hv := Room.u65 hr
  exact (dss_cons (ds_asg (vs := [1]) trivial de_int (dg_name rfl rfl c_law_long.nd rfl (Or.inl rfl))) (dss_cons (ds_for (vs := [2]) trivial cx_pw rfl (di_range1 (by rfl) fc.f_range (da_cons (de_bin od_add de_int (de_bin od_mod (de_ty bt_int b_int (by rfl) fc.f_int (da_cons (de_callio (g_law_next fc _) (hr.mono (by decide)) hg cx_tk (by rfl) fc.g__law_next (by rfl) (pv 0) da_nil) da_nil)) de_int)) da_nil)) (dg_name rfl rfl c_law_long.nd rfl (Or.inl rfl)) (dss_one (ds_asg (vs := [1]) trivial (de_bin od_add (de_bin od_mul (v_ 1) de_int) (de_bin od_mod (de_ty bt_int b_int (by rfl) fc.f_int (da_cons (de_callio (g_law_next fc _) (hr.mono (by decide)) hg cx_tk (by rfl) fc.g__law_next (by rfl) (pv 0) da_nil) da_nil)) de_int)) (dg_name rfl rfl c_law_long.nd rfl (Or.inl rfl))))) (dss_one (ds_ret trivial (v_ 1)))))
abbrev N_law_divisor : List Str := ["a", "b", "one", "other", "j"]
theorem c_law_divisor : FnScope N_law_divisor ["a", "b"] (defScope s_law_divisor) := ⟨rfl, rfl, rfl, by decide +kernel, rfl, by decide +kernel, by decide +kernel⟩
theorem g_law_divisor (fc : Fc K mg) : Ok prog w K mg 1 "_law_divisor" false false Q.F_law_divisor := by
  intro base
  obtain ⟨fd, F⟩ := fc.d__law_divisor
  refine fnG_of (ps := ["a", "b"]) (N := N_law_divisor) (O := []) (O' := []) F c_law_divisor (F.bindsN fun _ _ _ _ _ _ us hl => match us, hl with | [_, _], _ => rfl) .nil (fun _ _ => .nil) (by decide) (by decide) (by decide) fun cdv A outer s H E A0 q hio hr hg => ?_
  obtain rfl : q = none := by cases q with
    | none => rfl
    | some _ => cases hio
  have hu := Room.u64 hr
  have hv := Room.u65 hr
  exact (dss_cons (ds_asg (vs := [2]) trivial (de_b bt_abs b_abs (by rfl) fc.f_abs (da_cons (v_ 0) da_nil)) (dg_name rfl rfl c_law_divisor.nd rfl (Or.inl rfl))) (dss_cons (ds_asg (vs := [3]) trivial (de_b bt_abs b_abs (by rfl) fc.f_abs (da_cons (v_ 1) da_nil)) (dg_name rfl rfl c_law_divisor.nd rfl (Or.inl rfl))) (dss_cons (ds_for (vs := [4]) trivial cx_pw rfl (di_range1 (by rfl) fc.f_range (da_cons (de_bin od_pow de_int de_int) da_nil)) (dg_name rfl rfl c_law_divisor.nd rfl (Or.inl rfl)) (dss_cons (ds_if trivial (dt_cmp (od_eq hu) (v_ 3) de_int (pm _ _)) (dss_one ds_brk) dss_nil) (dss_one (ds_par (i := 2) (j := 3) trivial rfl c_law_divisor.nd rfl rfl (by decide) rfl rfl rfl rfl (da_cons (v_ 3) (da_cons (de_bin od_mod (de_ty bt_int b_int (by rfl) fc.f_int (da_cons (v_ 2) da_nil)) (v_ 3)) da_nil)))))) (dss_one (ds_ret trivial (v_ 2))))))
abbrev N_law_lowest : List Str := ["a", "b", "common"]
theorem c_law_lowest : FnScope N_law_lowest ["a", "b"] (defScope s_law_lowest) := ⟨rfl, rfl, rfl, by decide +kernel, rfl, by decide +kernel, by decide +kernel⟩
theorem g_law_lowest (fc : Fc K mg) : Ok prog w K mg 2 "_law_lowest" false false Q.F_law_lowest := by
  intro base
  obtain ⟨fd, F⟩ := fc.d__law_lowest
  refine fnG_of (ps := ["a", "b"]) (N := N_law_lowest) (O := []) (O' := []) F c_law_lowest (F.bindsN fun _ _ _ _ _ _ us hl => match us, hl with | [_, _], _ => rfl) .nil (fun _ _ => .nil) (by decide) (by decide) (by decide) fun cdv A outer s H E A0 q hio hr hg => ?_
  obtain rfl : q = none := by cases q with
    | none => rfl
    | some _ => cases hio
  have hu := Room.u64 hr
  have hv := Room.u65 hr
  exact (dss_cons (ds_asg (vs := [2]) trivial (de_call (g_law_divisor fc _) (hr.mono (by decide)) hg cx_tk (by rfl) fc.g__law_divisor (da_cons (v_ 0) (da_cons (v_ 1) da_nil))) (dg_name rfl rfl c_law_lowest.nd rfl (Or.inl rfl))) (dss_cons (ds_if trivial (dt_cmp od_lt (v_ 1) de_int (pm _ _)) (dss_one (ds_asg (vs := [2]) trivial (de_bin od_sub de_int (v_ 2)) (dg_name rfl rfl c_law_lowest.nd rfl (Or.inl rfl)))) dss_nil) (dss_one (ds_ret trivial (de_tup (da_cons (de_bin od_div (v_ 0) (v_ 2)) (da_cons (de_bin od_div (v_ 1) (v_ 2)) da_nil)))))))
abbrev N_law_fraction : List Str := ["draws"]
theorem c_law_fraction : FnScope N_law_fraction ["draws"] (defScope s_law_fraction) := ⟨rfl, rfl, rfl, by decide +kernel, rfl, by decide +kernel, by decide +kernel⟩
theorem g_law_fraction (fc : Fc K mg) : Ok prog w K mg 3 "_law_fraction" true false Q.F_law_fraction := by
  intro base
  obtain ⟨fd, F⟩ := fc.d__law_fraction
  refine fnG_of (ps := ["draws"]) (N := N_law_fraction) (O := [0]) (O' := []) F c_law_fraction (F.bindsN fun _ _ _ _ _ _ us hl => match us, hl with | [_], _ => rfl) .nil (fun _ _ => .nil) (by decide) (by decide) (by decide) fun cdv A outer s H E A0 q hio hr hg => ?_
  have hu := Room.u64 hr
  have hv := Room.u65 hr
  exact (dss_one (ds_ret trivial (de_call (g_law_lowest fc _) (hr.mono (by decide)) hg cx_tk (by rfl) fc.g__law_lowest (da_cons (de_bin od_sub (de_bin od_mod (de_ty bt_int b_int (by rfl) fc.f_int (da_cons (de_callio (g_law_next fc _) (hr.mono (by decide)) hg cx_tk (by rfl) fc.g__law_next (by rfl) (pv 0) da_nil) da_nil)) de_int) de_int) (da_cons (de_bin od_add de_int (de_bin od_mod (de_ty bt_int b_int (by rfl) fc.f_int (da_cons (de_callio (g_law_next fc _) (hr.mono (by decide)) hg cx_tk (by rfl) fc.g__law_next (by rfl) (pv 0) da_nil) da_nil)) de_int)) da_nil)))))
abbrev N_law_pair : List Str := ["draws", "a"]
theorem c_law_pair : FnScope N_law_pair ["draws"] (defScope s_law_pair) := ⟨rfl, rfl, rfl, by decide +kernel, rfl, by decide +kernel, by decide +kernel⟩
theorem g_law_pair (fc : Fc K mg) : Ok prog w K mg 4 "_law_pair" true false Q.F_law_pair := by
  intro base
  obtain ⟨fd, F⟩ := fc.d__law_pair
  refine fnG_of (ps := ["draws"]) (N := N_law_pair) (O := [0]) (O' := []) F c_law_pair (F.bindsN fun _ _ _ _ _ _ us hl => match us, hl with | [_], _ => rfl) .nil (fun _ _ => .nil) (by decide) (by decide) (by decide) fun cdv A outer s H E A0 q hio hr hg => ?_
  have hu := Room.u64 hr
  have hv := Room.u65 hr
  exact (dss_cons (ds_if trivial (dt_cmp (od_eq hu) (de_bin od_mod (de_ty bt_int b_int (by rfl) fc.f_int (da_cons (de_callio (g_law_next fc _) (hr.mono (by decide)) hg cx_tk (by rfl) fc.g__law_next (by rfl) (pv 0) da_nil) da_nil)) de_int) de_int (pm _ _)) (dss_one (ds_ret trivial (de_callio (g_law_fraction fc _) (hr.mono (by decide)) hg cx_tk (by rfl) fc.g__law_fraction (by rfl) (pv 0) da_nil))) dss_nil) (dss_cons (ds_asg (vs := [1]) trivial (de_callio (g_law_long fc _) (hr.mono (by decide)) hg cx_tk (by rfl) fc.g__law_long (by rfl) (pv 0) da_nil) (dg_name rfl rfl c_law_pair.nd rfl (Or.inl rfl))) (dss_one (ds_ret trivial (de_call (g_law_lowest fc _) (hr.mono (by decide)) hg cx_tk (by rfl) fc.g__law_lowest (da_cons (de_bin od_sub (v_ 1) (de_bin od_mul (de_bin od_mul de_int (v_ 1)) (de_bin od_mod (de_ty bt_int b_int (by rfl) fc.f_int (da_cons (de_callio (g_law_next fc _) (hr.mono (by decide)) hg cx_tk (by rfl) fc.g__law_next (by rfl) (pv 0) da_nil) da_nil)) de_int))) (da_cons (de_bin od_add (de_callio (g_law_long fc _) (hr.mono (by decide)) hg cx_tk (by rfl) fc.g__law_long (by rfl) (pv 0) da_nil) de_int) da_nil)))))))
abbrev Ndivisor : List Str := ["a", "b"]
theorem cdivisor : FnScope Ndivisor ["a", "b"] (defScope sdivisor) := ⟨rfl, rfl, rfl, by decide +kernel, rfl, by decide +kernel, by decide +kernel⟩
theorem gdivisor (fc : Fc K mg) : Ok prog w K mg 1 "divisor" false false Q.Fdivisor := by
  intro base
  obtain ⟨fd, F⟩ := fc.d_divisor
  refine fnG_of (ps := ["a", "b"]) (N := Ndivisor) (O := []) (O' := []) F cdivisor (F.bindsN fun _ _ _ _ _ _ us hl => match us, hl with | [_, _], _ => rfl) .nil (fun _ _ => .nil) (by decide) (by decide) (by decide) fun cdv A outer s H E A0 q hio hr hg => ?_
  obtain rfl : q = none := by cases q with
    | none => rfl
    | some _ => cases hio
  have hu := Room.u64 hr
  have hv := Room.u65 hr
  exact (dss_cons (ds_par (i := 0) (j := 1) trivial rfl cdivisor.nd rfl rfl (by decide) rfl rfl rfl rfl (da_cons (de_b bt_abs b_abs (by rfl) fc.f_abs (da_cons (v_ 0) da_nil)) (da_cons (de_b bt_abs b_abs (by rfl) fc.f_abs (da_cons (v_ 1) da_nil)) da_nil))) (dss_cons (ds_while _ trivial cx_pw (dt_cmp (od_ne hu) (v_ 1) de_int (pm _ _)) (dss_one (ds_par (i := 0) (j := 1) trivial rfl cdivisor.nd rfl rfl (by decide) rfl rfl rfl rfl (da_cons (v_ 1) (da_cons (de_bin od_mod (v_ 0) (v_ 1)) da_nil))))) (dss_one (ds_ret trivial (v_ 0)))))
abbrev Nis_number : List Str := ["x", "a", "b"]
theorem cis_number : FnScope Nis_number ["x"] (defScope sis_number) := ⟨rfl, rfl, rfl, by decide +kernel, rfl, by decide +kernel, by decide +kernel⟩
theorem gis_number (fc : Fc K mg) : Ok prog w K mg 2 "is_number" false false Q.Fis_number := by
  intro base
  obtain ⟨fd, F⟩ := fc.d_is_number
  refine fnG_of (ps := ["x"]) (N := Nis_number) (O := []) (O' := []) F cis_number (F.bindsN fun _ _ _ _ _ _ us hl => match us, hl with | [_], _ => rfl) .nil (fun _ _ => .nil) (by decide) (by decide) (by decide) fun cdv A outer s H E A0 q hio hr hg => ?_
  obtain rfl : q = none := by cases q with
    | none => rfl
    | some _ => cases hio
  have hu := Room.u64 hr
  have hv := Room.u65 hr
  exact (dss_cons (ds_asg (vs := [1, 2]) trivial (v_ 0) (dg_tup rfl (dgs_cons (dg_name rfl rfl cis_number.nd rfl (Or.inl rfl)) (dgs_cons (dg_name rfl rfl cis_number.nd rfl (Or.inl rfl)) dgs_nil)))) (dss_one (ds_ret trivial (de_and (de_cmp od_ge (v_ 2) de_int (pm _ _)) (de_one (de_cmp (od_eq hu) (de_call (gdivisor fc _) (hr.mono (by decide)) hg cx_tk (by rfl) fc.g_divisor (da_cons (v_ 1) (da_cons (v_ 2) da_nil))) de_int (pm _ _)))))))
abbrev Ncheck_number : List Str := ["x"]
theorem ccheck_number : FnScope Ncheck_number ["x"] (defScope scheck_number) := ⟨rfl, rfl, rfl, by decide +kernel, rfl, by decide +kernel, by decide +kernel⟩
theorem gcheck_number (fc : Fc K mg) : Ok prog w K mg 3 "check_number" false false Q.Fcheck_number := by
  intro base
  obtain ⟨fd, F⟩ := fc.d_check_number
  refine fnG_of (ps := ["x"]) (N := Ncheck_number) (O := []) (O' := []) F ccheck_number (F.bindsN fun _ _ _ _ _ _ us hl => match us, hl with | [_], _ => rfl) .nil (fun _ _ => .nil) (by decide) (by decide) (by decide) fun cdv A outer s H E A0 q hio hr hg => ?_
  obtain rfl : q = none := by cases q with
    | none => rfl
    | some _ => cases hio
  have hu := Room.u64 hr
  have hv := Room.u65 hr
  exact (dss_one (ds_if trivial (dt_not (dt_tru (de_call (gis_number fc _) (hr.mono (by decide)) hg cx_tk (by rfl) fc.g_is_number (da_cons (v_ 0) da_nil)))) (dss_one (ds_raiseC fc.e_NotNumber trivial cx_tk)) dss_nil))
abbrev Nnumber_text : List Str := ["x", "a", "b"]
theorem cnumber_text : FnScope Nnumber_text ["x"] (defScope snumber_text) := ⟨rfl, rfl, rfl, by decide +kernel, rfl, by decide +kernel, by decide +kernel⟩
theorem gnumber_text (fc : Fc K mg) : Ok prog w K mg 4 "number_text" false false Q.Fnumber_text := by
  intro base
  obtain ⟨fd, F⟩ := fc.d_number_text
  refine fnG_of (ps := ["x"]) (N := Nnumber_text) (O := []) (O' := []) F cnumber_text (F.bindsN fun _ _ _ _ _ _ us hl => match us, hl with | [_], _ => rfl) .nil (fun _ _ => .nil) (by decide) (by decide) (by decide) fun cdv A outer s H E A0 q hio hr hg => ?_
  obtain rfl : q = none := by cases q with
    | none => rfl
    | some _ => cases hio
  have hu := Room.u64 hr
  have hv := Room.u65 hr
  exact (dss_cons (ds_expr trivial (de_call (gcheck_number fc _) (hr.mono (by decide)) hg cx_tk (by rfl) fc.g_check_number (da_cons (v_ 0) da_nil))) (dss_cons (ds_asg (vs := [1, 2]) trivial (v_ 0) (dg_tup rfl (dgs_cons (dg_name rfl rfl cnumber_text.nd rfl (Or.inl rfl)) (dgs_cons (dg_name rfl rfl cnumber_text.nd rfl (Or.inl rfl)) dgs_nil)))) (dss_cons (ds_if trivial (DW.t (dw_or (dt_cmp od_ge (de_b bt_abs b_abs (by rfl) fc.f_abs (da_cons (v_ 1) da_nil)) (gi_ fc.c_BEYOND) (pm _ _)) (dw_or1 (dt_cmp od_ge (v_ 2) (gi_ fc.c_BEYOND) (pm _ _))))) (dss_one (ds_raiseC fc.e_TooLarge trivial cx_tk)) dss_nil) (dss_cons (ds_if trivial (dt_cmp (od_eq hu) (v_ 2) de_int (pm _ _)) (dss_one (ds_ret trivial (de_ty bt_str (b_str hg hu) (by rfl) fc.f_str (da_cons (v_ 1) da_nil)))) dss_nil) (dss_one (ds_ret trivial (de_joined (.cons (de_fmt (v_ 1)) (.cons de_str (.cons (de_fmt (v_ 2)) .nil))))))))))
abbrev N_law_text : List Str := ["x"]
theorem c_law_text : FnScope N_law_text ["x"] (defScope s_law_text) := ⟨rfl, rfl, rfl, by decide +kernel, rfl, by decide +kernel, by decide +kernel⟩
theorem g_law_text (fc : Fc K mg) : Ok prog w K mg 1 "_law_text" false false Q.F_law_text := by
  intro base
  obtain ⟨fd, F⟩ := fc.d__law_text
  refine fnG_of (ps := ["x"]) (N := N_law_text) (O := []) (O' := []) F c_law_text (F.bindsN fun _ _ _ _ _ _ us hl => match us, hl with | [_], _ => rfl) .nil (fun _ _ => .nil) (by decide) (by decide) (by decide) fun cdv A outer s H E A0 q hio hr hg => ?_
  obtain rfl : q = none := by cases q with
    | none => rfl
    | some _ => cases hio
  have hu := Room.u64 hr
  have hv := Room.u65 hr
  exact (dss_cons (ds_if trivial (dt_cmp (od_eq hu) (de_ix ix_d (v_ 0) de_int (fun _ _ => rfl)) de_int (pm _ _)) (dss_one (ds_ret trivial (de_ty bt_str (b_str hg hu) (by rfl) fc.f_str (da_cons (de_ix ix_d (v_ 0) de_int (fun _ _ => rfl)) da_nil)))) dss_nil) (dss_one (ds_ret trivial (de_bin od_add (de_bin od_add (de_ty bt_str (b_str hg hu) (by rfl) fc.f_str (da_cons (de_ix ix_d (v_ 0) de_int (fun _ _ => rfl)) da_nil)) de_str) (de_ty bt_str (b_str hg hu) (by rfl) fc.f_str (da_cons (de_ix ix_d (v_ 0) de_int (fun _ _ => rfl)) da_nil))))))
abbrev Ninteger_in : List Str := ["text", "figures", "figure"]
theorem cinteger_in : FnScope Ninteger_in ["text"] (defScope sinteger_in) := ⟨rfl, rfl, rfl, by decide +kernel, rfl, by decide +kernel, by decide +kernel⟩
theorem ginteger_in (fc : Fc K mg) : Ok prog w K mg 1 "integer_in" false false Q.Finteger_in := by
  intro base
  obtain ⟨fd, F⟩ := fc.d_integer_in
  refine fnG_of (ps := ["text"]) (N := Ninteger_in) (O := []) (O' := []) F cinteger_in (F.bindsN fun _ _ _ _ _ _ us hl => match us, hl with | [_], _ => rfl) .nil (fun _ _ => .nil) (by decide) (by decide) (by decide) fun cdv A outer s H E A0 q hio hr hg => ?_
  obtain rfl : q = none := by cases q with
    | none => rfl
    | some _ => cases hio
  have hu := Room.u64 hr
  have hv := Room.u65 hr
  exact (dss_cons (ds_asg (vs := [1]) trivial (de_if (dt_cmp (od_eq hu) (de_sl (db_e (v_ 0)) dp_no (dp_e de_int)) de_str (pm _ _)) (de_sl (db_e (v_ 0)) (dp_e de_int) dp_no) (v_ 0)) (dg_name rfl rfl cinteger_in.nd rfl (Or.inl rfl))) (dss_cons (ds_if trivial (DW.t (dw_or (dt_not (dt_chain od_le od_le de_int (de_b bt_len b_len (by rfl) fc.f_len (da_cons (v_ 1) da_nil)) (gi_ fc.c_MOST_FIGURES))) (dw_or1 (dt_not (dt_tru (de_b bt_all (b_all (by rfl)) (by rfl) fc.f_all (da_cons (DF.toE (df_lc (by rfl) cinteger_in.nd (by rfl) (di_seq (v_ 1)) (blkOk_by (own := [("figure", 2)]) (by kernel_rfl)) (fun _ _ _ _ _ => (dg_name rfl rfl cinteger_in.nd rfl (Or.inl rfl))) (fun _ _ _ _ _ => pts_nil) tYes_go (fun _ _ _ _ _ => (de_cmp (od_in hv) (v_ 2) (gs_ fc.c_FIGURES) (pm _ _))))) da_nil))))))) (dss_one (ds_ret trivial de_non)) dss_nil) (dss_cons (ds_if trivial (dt_cmp (od_ne hu) (de_ty bt_str (b_str hg hu) (by rfl) fc.f_str (da_cons (de_ty bt_int b_int (by rfl) fc.f_int (da_cons (v_ 0) da_nil)) da_nil)) (v_ 0) (pm _ _)) (dss_one (ds_ret trivial de_non)) dss_nil) (dss_one (ds_ret trivial (de_ty bt_int b_int (by rfl) fc.f_int (da_cons (v_ 0) da_nil)))))))
abbrev Nread_number : List Str := ["text", "parts", "a", "b"]
theorem cread_number : FnScope Nread_number ["text"] (defScope sread_number) := ⟨rfl, rfl, rfl, by decide +kernel, rfl, by decide +kernel, by decide +kernel⟩
theorem gread_number (fc : Fc K mg) : Ok prog w K mg 3 "read_number" false false Q.Fread_number := by
  intro base
  obtain ⟨fd, F⟩ := fc.d_read_number
  refine fnG_of (ps := ["text"]) (N := Nread_number) (O := []) (O' := []) F cread_number (F.bindsN fun _ _ _ _ _ _ us hl => match us, hl with | [_], _ => rfl) .nil (fun _ _ => .nil) (by decide) (by decide) (by decide) fun cdv A outer s H E A0 q hio hr hg => ?_
  obtain rfl : q = none := by cases q with
    | none => rfl
    | some _ => cases hio
  have hu := Room.u64 hr
  have hv := Room.u65 hr
  exact (dss_cons (ds_asg (vs := [1]) trivial (de_sm PySem.F.slot_str_split PySem.F.type_str_split mt_splitD (v_ 0) (da_cons de_str da_nil)) (dg_name rfl rfl cread_number.nd rfl (Or.inl rfl))) (dss_cons (ds_if trivial (dt_cmp od_gt (de_b bt_len b_len (by rfl) fc.f_len (da_cons (v_ 1) da_nil)) de_int (pm _ _)) (dss_one (ds_raiseX (k := 0) fc.x_Malformed (hr.mono (by decide)) fc.g_Malformed trivial cx_tk (da_cons de_int da_nil))) dss_nil) (dss_cons (ds_asg (vs := [2]) trivial (de_call (ginteger_in fc _) (hr.mono (by decide)) hg cx_tk (by rfl) fc.g_integer_in (da_cons (de_ix ix_d (v_ 1) de_int (fun _ _ => rfl)) da_nil)) (dg_name rfl rfl cread_number.nd rfl (Or.inl rfl))) (dss_cons (ds_asg (vs := [3]) trivial (de_if (dt_cmp (od_eq hu) (de_b bt_len b_len (by rfl) fc.f_len (da_cons (v_ 1) da_nil)) de_int (pm _ _)) de_int (de_call (ginteger_in fc _) (hr.mono (by decide)) hg cx_tk (by rfl) fc.g_integer_in (da_cons (de_ix ix_d (v_ 1) de_int (fun _ _ => rfl)) da_nil))) (dg_name rfl rfl cread_number.nd rfl (Or.inl rfl))) (dss_cons (ds_if trivial (DW.t (dw_or (dt_cmp od_is (v_ 2) de_non (pm _ _)) (dw_or (dt_cmp od_is (v_ 3) de_non (pm _ _)) (dw_or (DW.t (dw_and (dt_cmp (od_eq hu) (de_b bt_len b_len (by rfl) fc.f_len (da_cons (v_ 1) da_nil)) de_int (pm _ _)) (dw_and1 (dt_cmp od_lt (v_ 3) de_int (pm _ _))))) (dw_or1 (dt_not (dt_tru (de_call (gis_number fc _) (hr.mono (by decide)) hg cx_tk (by rfl) fc.g_is_number (da_cons (de_tup (da_cons (v_ 2) (da_cons (v_ 3) da_nil))) da_nil))))))))) (dss_one (ds_raiseX (k := 0) fc.x_Malformed (hr.mono (by decide)) fc.g_Malformed trivial cx_tk (da_cons de_int da_nil))) dss_nil) (dss_one (ds_ret trivial (de_tup (da_cons (v_ 2) (da_cons (v_ 3) da_nil))))))))))
abbrev N_law_written : List Str := ["x", "error"]
theorem c_law_written : FnScope N_law_written ["x"] (defScope s_law_written) := ⟨rfl, rfl, rfl, by decide +kernel, rfl, by decide +kernel, by decide +kernel⟩
theorem g_law_written (fc : Fc K mg) : Ok prog w K mg 5 "_law_written" false false F_law_written := by
  intro base
  obtain ⟨fd, F⟩ := fc.d__law_written
  refine fnG_of (ps := ["x"]) (N := N_law_written) (O := []) (O' := []) F c_law_written (F.bindsN fun _ _ _ _ _ _ us hl => match us, hl with | [_], _ => rfl) .nil (fun _ _ => .nil) (by decide) (by decide) (by decide) fun cdv A outer s H E A0 q hio hr hg => ?_
  obtain rfl : q = none := by cases q with
    | none => rfl
    | some _ => cases hio
  have hu := Room.u64 hr
  have hv := Room.u65 hr
  exact (dss_one (ds_tryAs trivial rfl rfl c_law_written.nd rfl rfl ⟨rfl, by decide, .inl fc.g_PlaneError⟩ cx_tk (mtPlaneError_ok fc) rfl (.inl (by decide)) rfl (fun W pn xe tk pw => (dss_one (ds_ret rfl (de_call (gnumber_text fc _) (hr.mono (by decide)) hg tk (by rfl) fc.g_number_text (da_cons (v_ 0) da_nil))))) (fun ad oe k pn hz hf hk => have hC := callIsE (mtPlaneError_ex fc hk) hz hf; (dss_one (ds_ret rfl (de_bin od_add de_str (de_ty bt_str (b_str hg hu) (by rfl) fc.f_str (da_cons (de_ty bt_int b_int (by rfl) fc.f_int (da_cons (de_isE (i := 1) (ad := ad) (k := k) rfl hC (isPlaneError_TooLarge fc hk) rfl fc.f_isinstance rfl (Or.inl rfl) rfl fc.g_TooLarge) da_nil)) da_nil)))))) rfl))
abbrev N_law_told : List Str := ["text", "error"]
theorem c_law_told : FnScope N_law_told ["text"] (defScope s_law_told) := ⟨rfl, rfl, rfl, by decide +kernel, rfl, by decide +kernel, by decide +kernel⟩
theorem g_law_told (fc : Fc K mg) : Ok prog w K mg 4 "_law_told" false false F_law_told := by
  intro base
  obtain ⟨fd, F⟩ := fc.d__law_told
  refine fnG_of (ps := ["text"]) (N := N_law_told) (O := []) (O' := []) F c_law_told (F.bindsN fun _ _ _ _ _ _ us hl => match us, hl with | [_], _ => rfl) .nil (fun _ _ => .nil) (by decide) (by decide) (by decide) fun cdv A outer s H E A0 q hio hr hg => ?_
  obtain rfl : q = none := by cases q with
    | none => rfl
    | some _ => cases hio
  have hu := Room.u64 hr
  have hv := Room.u65 hr
  exact (dss_one (ds_tryF trivial rfl rfl c_law_told.nd rfl rfl ⟨rfl, by decide, .inl fc.g_Malformed⟩ cx_tk (mtMalformed_ok fc) rfl (.inl (by decide)) rfl (fun W pn xe tk pw => (dss_one (ds_ret rfl (de_call (gread_number fc _) (hr.mono (by decide)) hg tk (by rfl) fc.g_read_number (da_cons (v_ 0) da_nil))))) (fun ad oe k fs dq vq pn hz hf hk hxg => (dss_one (ds_ret rfl (de_bin od_add de_str (de_ty bt_str (b_str hg hu) (by rfl) fc.f_str (da_cons (de_xf (i := 1) (okX_at_ok fc) rfl hxg hz hf rfl (Or.inl rfl)) da_nil)))))) rfl))
abbrev N_law_large : List Str := ["_0", "most", "x"]
theorem c_law_large : FnScope N_law_large [] (defScope s_law_large) := ⟨rfl, rfl, rfl, by decide +kernel, rfl, by decide +kernel, by decide +kernel⟩
theorem g_law_large (fc : Fc K mg) : Ok prog w K mg 6 "_law_large" false false F_law_large := by
  intro base
  obtain ⟨fd, F⟩ := fc.d__law_large
  refine fnG_of (ps := []) (N := N_law_large) (O := []) (O' := []) F c_law_large (F.bindsN fun _ _ _ _ _ _ us hl => match us, hl with | [], _ => rfl) .nil (fun _ _ => .nil) (by decide) (by decide) (by decide) fun cdv A outer s H E A0 q hio hr hg => ?_
  obtain rfl : q = none := by cases q with
    | none => rfl
    | some _ => cases hio
  have hu := Room.u64 hr
  have hv := Room.u65 hr
  exact (dss_cons (ds_asg (vs := [1]) trivial (de_bin od_sub (de_bin od_powW (de_bin od_pow de_int de_int) de_int) de_int) (dg_name rfl rfl c_law_large.nd rfl (Or.inl rfl))) (dss_cons (ds_for (vs := [2]) trivial cx_pw rfl (di_seq (DF.toE (df_lst (da_cons (de_tup (da_cons (v_ 1) (da_cons de_int da_nil))) (da_cons (de_tup (da_cons (de_bin od_sub de_int (v_ 1)) (da_cons de_int da_nil))) (da_cons (de_tup (da_cons de_int (da_cons (v_ 1) da_nil))) (da_cons (de_tup (da_cons (de_bin od_sub (v_ 1) de_int) (da_cons (v_ 1) da_nil))) da_nil))))))) (dg_name rfl rfl c_law_large.nd rfl (Or.inl rfl)) (dss_one (ds_if trivial (DW.t (dw_or (dt_cmp (od_ne hu) (de_call (gnumber_text fc _) (hr.mono (by decide)) hg cx_tk (by rfl) fc.g_number_text (da_cons (v_ 2) da_nil)) (de_call (g_law_text fc _) (hr.mono (by decide)) hg cx_tk (by rfl) fc.g__law_text (da_cons (v_ 2) da_nil)) (pm _ _)) (dw_or1 (dt_cmp (od_ne hu) (de_call (gread_number fc _) (hr.mono (by decide)) hg cx_tk (by rfl) fc.g_read_number (da_cons (de_call (g_law_text fc _) (hr.mono (by decide)) hg cx_tk (by rfl) fc.g__law_text (da_cons (v_ 2) da_nil)) da_nil)) (v_ 2) (pm _ _))))) (dss_one (ds_ret trivial de_bl)) dss_nil))) (dss_cons (ds_for (vs := [2]) trivial cx_pw rfl (di_seq (DF.toE (df_lst (da_cons (de_tup (da_cons (de_bin od_add (v_ 1) de_int) (da_cons de_int da_nil))) (da_cons (de_tup (da_cons (de_bin od_sub (de_bin od_sub de_int (v_ 1)) de_int) (da_cons de_int da_nil))) (da_cons (de_tup (da_cons de_int (da_cons (de_bin od_add (v_ 1) de_int) da_nil))) (da_cons (de_tup (da_cons (v_ 1) (da_cons (de_bin od_add (v_ 1) de_int) da_nil))) da_nil))))))) (dg_name rfl rfl c_law_large.nd rfl (Or.inl rfl)) (dss_one (ds_if trivial (DW.t (dw_or (dt_cmp (od_ne hu) (de_call (g_law_written fc _) (hr.mono (by decide)) hg cx_tk (by rfl) fc.g__law_written (da_cons (v_ 2) da_nil)) de_str (pm _ _)) (dw_or1 (dt_cmp (od_ne hu) (de_call (g_law_told fc _) (hr.mono (by decide)) hg cx_tk (by rfl) fc.g__law_told (da_cons (de_call (g_law_text fc _) (hr.mono (by decide)) hg cx_tk (by rfl) fc.g__law_text (da_cons (v_ 2) da_nil)) da_nil)) de_str (pm _ _))))) (dss_one (ds_ret trivial de_bl)) dss_nil))) (dss_one (ds_ret trivial de_bl)))))
abbrev N_law_spoilt : List Str := ["draws", "text", "at", "char", "kind"]
theorem c_law_spoilt : FnScope N_law_spoilt ["draws", "text"] (defScope s_law_spoilt) := ⟨rfl, rfl, rfl, by decide +kernel, rfl, by decide +kernel, by decide +kernel⟩
theorem g_law_spoilt (fc : Fc K mg) : Ok prog w K mg 2 "_law_spoilt" true false Q.F_law_spoilt_v2 := by
  intro base
  obtain ⟨fd, F⟩ := fc.d__law_spoilt
  refine fnG_of (ps := ["draws", "text"]) (N := N_law_spoilt) (O := [0]) (O' := []) F c_law_spoilt (F.bindsN fun _ _ _ _ _ _ us hl => match us, hl with | [_, _], _ => rfl) .nil (fun _ _ => .nil) (by decide) (by decide) (by decide) fun cdv A outer s H E A0 q hio hr hg => ?_
  have hu := Room.u64 hr
  have hv := Room.u65 hr
  exact (dss_cons (ds_asg (vs := [2]) trivial (de_bin od_mod (de_ty bt_int b_int (by rfl) fc.f_int (da_cons (de_callio (g_law_next fc _) (hr.mono (by decide)) hg cx_tk (by rfl) fc.g__law_next (by rfl) (pv 0) da_nil) da_nil)) (de_bin od_add (de_b bt_len b_len (by rfl) fc.f_len (da_cons (v_ 1) da_nil)) de_int)) (dg_name rfl rfl c_law_spoilt.nd rfl (Or.inl rfl))) (dss_cons (ds_asg (vs := [3]) trivial (de_ix ix_d de_str (de_bin od_mod (de_ty bt_int b_int (by rfl) fc.f_int (da_cons (de_callio (g_law_next fc _) (hr.mono (by decide)) hg cx_tk (by rfl) fc.g__law_next (by rfl) (pv 0) da_nil) da_nil)) de_int) (fun _ _ => rfl)) (dg_name rfl rfl c_law_spoilt.nd rfl (Or.inl rfl))) (dss_cons (ds_asg (vs := [4]) trivial (de_bin od_mod (de_ty bt_int b_int (by rfl) fc.f_int (da_cons (de_callio (g_law_next fc _) (hr.mono (by decide)) hg cx_tk (by rfl) fc.g__law_next (by rfl) (pv 0) da_nil) da_nil)) de_int) (dg_name rfl rfl c_law_spoilt.nd rfl (Or.inl rfl))) (dss_cons (ds_if trivial (dt_cmp (od_eq hu) (v_ 4) de_int (pm _ _)) (dss_one (ds_ret trivial (de_bin od_add (de_bin od_add (de_sl (db_e (v_ 1)) dp_no (dp_e (v_ 2))) (v_ 3)) (de_sl (db_e (v_ 1)) (dp_e (v_ 2)) dp_no)))) dss_nil) (dss_cons (ds_if trivial (dt_cmp (od_eq hu) (v_ 4) de_int (pm _ _)) (dss_one (ds_ret trivial (de_bin od_add (de_bin od_add (de_sl (db_e (v_ 1)) dp_no (dp_e (v_ 2))) (v_ 3)) (de_sl (db_e (v_ 1)) (dp_e (de_bin od_add (v_ 2) de_int)) dp_no)))) dss_nil) (dss_one (ds_ret trivial (de_bin od_add (de_sl (db_e (v_ 1)) dp_no (dp_e (v_ 2))) (de_sl (db_e (v_ 1)) (dp_e (de_bin od_add (v_ 2) de_int)) dp_no)))))))))
abbrev Nwithout_divisor : List Str := ["row", "common", "a"]
theorem cwithout_divisor : FnScope Nwithout_divisor ["row"] (defScope swithout_divisor) := ⟨rfl, rfl, rfl, by decide +kernel, rfl, by decide +kernel, by decide +kernel⟩
theorem gwithout_divisor (fc : Fc K mg) : Ok prog w K mg 2 "without_divisor" false false Q.Fwithout_divisor := by
  intro base
  obtain ⟨fd, F⟩ := fc.d_without_divisor
  refine fnG_of (ps := ["row"]) (N := Nwithout_divisor) (O := []) (O' := []) F cwithout_divisor (F.bindsN fun _ _ _ _ _ _ us hl => match us, hl with | [_], _ => rfl) .nil (fun _ _ => .nil) (by decide) (by decide) (by decide) fun cdv A outer s H E A0 q hio hr hg => ?_
  obtain rfl : q = none := by cases q with
    | none => rfl
    | some _ => cases hio
  have hu := Room.u64 hr
  have hv := Room.u65 hr
  exact (dss_cons (ds_asg (vs := [1]) trivial de_int (dg_name rfl rfl cwithout_divisor.nd rfl (Or.inr rfl))) (dss_cons (ds_for (vs := [2]) trivial cx_pw rfl (di_seq (v_ 0)) (dg_name rfl rfl cwithout_divisor.nd rfl (Or.inl rfl)) (dss_one (ds_asg (vs := [1]) trivial (de_call (gdivisor fc _) (hr.mono (by decide)) hg cx_tk (by rfl) fc.g_divisor (da_cons (v_ 1) (da_cons (v_ 2) da_nil))) (dg_name rfl rfl cwithout_divisor.nd rfl (Or.inr rfl))))) (dss_cons (ds_if trivial (dt_cmp (od_eq hu) (v_ 1) de_int (pm _ _)) (dss_one (ds_ret trivial (de_ty bt_tuple b_tuple (by rfl) fc.f_tuple (da_cons (v_ 0) da_nil)))) dss_nil) (dss_one (ds_ret trivial (de_ty bt_tuple b_tuple (by rfl) fc.f_tuple (da_cons (DF.toE (df_lc (by rfl) cwithout_divisor.nd (by rfl) (di_seq (v_ 0)) (blkOk_by (own := [("a", 2)]) (by kernel_rfl)) (fun _ _ _ _ _ => (dg_name rfl rfl cwithout_divisor.nd rfl (Or.inl rfl))) (fun _ _ _ _ _ => pts_nil) tYes_go (fun _ _ _ _ _ => (de_bin od_div (v_ 2) (v_ 1))))) da_nil)))))))
abbrev Ncleared_row : List Str := ["row", "common", "a", "b"]
theorem ccleared_row : FnScope Ncleared_row ["row"] (defScope scleared_row) := ⟨rfl, rfl, rfl, by decide +kernel, rfl, by decide +kernel, by decide +kernel⟩
theorem gcleared_row (fc : Fc K mg) : Ok prog w K mg 3 "cleared_row" false false Q.Fcleared_row := by
  intro base
  obtain ⟨fd, F⟩ := fc.d_cleared_row
  refine fnG_of (ps := ["row"]) (N := Ncleared_row) (O := []) (O' := []) F ccleared_row (F.bindsN fun _ _ _ _ _ _ us hl => match us, hl with | [_], _ => rfl) .nil (fun _ _ => .nil) (by decide) (by decide) (by decide) fun cdv A outer s H E A0 q hio hr hg => ?_
  obtain rfl : q = none := by cases q with
    | none => rfl
    | some _ => cases hio
  have hu := Room.u64 hr
  have hv := Room.u65 hr
  exact (dss_cons (ds_asg (vs := [1]) trivial de_int (dg_name rfl rfl ccleared_row.nd rfl (Or.inr rfl))) (dss_cons (ds_for (vs := [2, 3]) trivial cx_pw rfl (di_seq (v_ 0)) (dg_tup rfl (dgs_cons (dg_name rfl rfl ccleared_row.nd rfl (Or.inl rfl)) (dgs_cons (dg_name rfl rfl ccleared_row.nd rfl (Or.inl rfl)) dgs_nil))) (dss_one (ds_asg (vs := [1]) trivial (de_bin od_mul (de_bin od_div (v_ 1) (de_call (gdivisor fc _) (hr.mono (by decide)) hg cx_tk (by rfl) fc.g_divisor (da_cons (v_ 1) (da_cons (v_ 3) da_nil)))) (v_ 3)) (dg_name rfl rfl ccleared_row.nd rfl (Or.inr rfl))))) (dss_one (ds_ret trivial (de_call (gwithout_divisor fc _) (hr.mono (by decide)) hg cx_tk (by rfl) fc.g_without_divisor (da_cons (DF.toE (df_lc (by rfl) ccleared_row.nd (by rfl) (di_seq (v_ 0)) (blkOk_by (own := [("a", 2), ("b", 3)]) (by kernel_rfl)) (fun _ _ _ _ _ => (dg_tup rfl (dgs_cons (dg_name rfl rfl ccleared_row.nd rfl (Or.inl rfl)) (dgs_cons (dg_name rfl rfl ccleared_row.nd rfl (Or.inl rfl)) dgs_nil)))) (fun _ _ _ _ _ => pts_nil) tYes_go (fun _ _ _ _ _ => (de_bin od_mul (v_ 2) (de_bin od_div (v_ 1) (v_ 3)))))) da_nil))))))
abbrev Ncleared : List Str := ["row", "x"]
theorem ccleared : FnScope Ncleared ["row"] (defScope scleared) := ⟨rfl, rfl, rfl, by decide +kernel, rfl, by decide +kernel, by decide +kernel⟩
theorem gcleared (fc : Fc K mg) : Ok prog w K mg 4 "cleared" false false Q.Fcleared := by
  intro base
  obtain ⟨fd, F⟩ := fc.d_cleared
  refine fnG_of (ps := ["row"]) (N := Ncleared) (O := []) (O' := []) F ccleared (F.bindsN fun _ _ _ _ _ _ us hl => match us, hl with | [_], _ => rfl) .nil (fun _ _ => .nil) (by decide) (by decide) (by decide) fun cdv A outer s H E A0 q hio hr hg => ?_
  obtain rfl : q = none := by cases q with
    | none => rfl
    | some _ => cases hio
  have hu := Room.u64 hr
  have hv := Room.u65 hr
  exact (dss_cons (ds_for (vs := [1]) trivial cx_pw rfl (di_seq (v_ 0)) (dg_name rfl rfl ccleared.nd rfl (Or.inl rfl)) (dss_one (ds_expr trivial (de_call (gcheck_number fc _) (hr.mono (by decide)) hg cx_tk (by rfl) fc.g_check_number (da_cons (v_ 1) da_nil))))) (dss_one (ds_ret trivial (de_call (gcleared_row fc _) (hr.mono (by decide)) hg cx_tk (by rfl) fc.g_cleared_row (da_cons (v_ 0) da_nil)))))
abbrev N_law_cleared : List Str := ["row", "common", "x", "whole", "divisor_v", "a"]
theorem c_law_cleared : FnScope N_law_cleared ["row"] (defScope s_law_cleared) := ⟨rfl, rfl, rfl, by decide +kernel, rfl, by decide +kernel, by decide +kernel⟩
theorem g_law_cleared (fc : Fc K mg) : Ok prog w K mg 2 "_law_cleared" false false Q.F_law_cleared_v2 := by
  intro base
  obtain ⟨fd, F⟩ := fc.d__law_cleared
  refine fnG_of (ps := ["row"]) (N := N_law_cleared) (O := []) (O' := []) F c_law_cleared (F.bindsN fun _ _ _ _ _ _ us hl => match us, hl with | [_], _ => rfl) .nil (fun _ _ => .nil) (by decide) (by decide) (by decide) fun cdv A outer s H E A0 q hio hr hg => ?_
  obtain rfl : q = none := by cases q with
    | none => rfl
    | some _ => cases hio
  have hu := Room.u64 hr
  have hv := Room.u65 hr
  exact (dss_cons (ds_asg (vs := [1]) trivial de_int (dg_name rfl rfl c_law_cleared.nd rfl (Or.inr rfl))) (dss_cons (ds_for (vs := [2]) trivial cx_pw rfl (di_seq (v_ 0)) (dg_name rfl rfl c_law_cleared.nd rfl (Or.inl rfl)) (dss_one (ds_asg (vs := [1]) trivial (de_bin od_mul (de_bin od_div (v_ 1) (de_call (g_law_divisor fc _) (hr.mono (by decide)) hg cx_tk (by rfl) fc.g__law_divisor (da_cons (v_ 1) (da_cons (de_ix ix_d (v_ 2) de_int (fun _ _ => rfl)) da_nil)))) (de_ix ix_d (v_ 2) de_int (fun _ _ => rfl))) (dg_name rfl rfl c_law_cleared.nd rfl (Or.inr rfl))))) (dss_cons (ds_setLc trivial rfl rfl c_law_cleared.nd rfl rfl (sw_true rfl rfl rfl (by kernel_rfl)) (by rfl) (di_seq (v_ 0)) (blkOk_by (own := [("x", 2)]) (by kernel_rfl)) (fun _ _ _ _ _ => (dg_name rfl rfl c_law_cleared.nd rfl (Or.inl rfl))) (fun _ _ _ _ _ => pts_nil) tYes_go (fun _ _ _ _ _ => (de_bin od_mul (de_ix ix_d (v_ 2) de_int (fun _ _ => rfl)) (de_bin od_div (v_ 1) (de_ix ix_d (v_ 2) de_int (fun _ _ => rfl)))))) (dss_cons (ds_asg (vs := [4]) trivial de_int (dg_name rfl rfl c_law_cleared.nd rfl (Or.inr rfl))) (dss_cons (ds_for (vs := [5]) trivial cx_pw rfl (di_seq (v_ 3)) (dg_name rfl rfl c_law_cleared.nd rfl (Or.inl rfl)) (dss_one (ds_asg (vs := [4]) trivial (de_call (g_law_divisor fc _) (hr.mono (by decide)) hg cx_tk (by rfl) fc.g__law_divisor (da_cons (v_ 4) (da_cons (v_ 5) da_nil))) (dg_name rfl rfl c_law_cleared.nd rfl (Or.inr rfl))))) (dss_cons (ds_if trivial (dt_cmp (od_eq hu) (v_ 4) de_int (pm _ _)) (dss_one (ds_ret trivial (de_ty bt_tuple b_tuple (by rfl) fc.f_tuple (da_cons (v_ 3) da_nil)))) dss_nil) (dss_one (ds_ret trivial (de_ty bt_tuple b_tuple (by rfl) fc.f_tuple (da_cons (DF.toE (df_lc (by rfl) c_law_cleared.nd (by rfl) (di_seq (v_ 3)) (blkOk_by (own := [("a", 5)]) (by kernel_rfl)) (fun _ _ _ _ _ => (dg_name rfl rfl c_law_cleared.nd rfl (Or.inl rfl))) (fun _ _ _ _ _ => pts_nil) tYes_go (fun _ _ _ _ _ => (de_bin od_div (v_ 5) (v_ 4))))) da_nil))))))))))
abbrev N_law_refused : List Str := ["row"]
theorem c_law_refused : FnScope N_law_refused ["row"] (defScope s_law_refused) := ⟨rfl, rfl, rfl, by decide +kernel, rfl, by decide +kernel, by decide +kernel⟩
theorem g_law_refused (fc : Fc K mg) : Ok prog w K mg 5 "_law_refused" false false F_law_refused := by
  intro base
  obtain ⟨fd, F⟩ := fc.d__law_refused
  refine fnG_of (ps := ["row"]) (N := N_law_refused) (O := []) (O' := []) F c_law_refused (F.bindsN fun _ _ _ _ _ _ us hl => match us, hl with | [_], _ => rfl) .nil (fun _ _ => .nil) (by decide) (by decide) (by decide) fun cdv A outer s H E A0 q hio hr hg => ?_
  obtain rfl : q = none := by cases q with
    | none => rfl
    | some _ => cases hio
  have hu := Room.u64 hr
  have hv := Room.u65 hr
  exact (dss_one (ds_tryOnly trivial rfl rfl ⟨rfl, by decide, .inl fc.g_NotNumber⟩ (mtNotNumber_ok fc) (fun W pn xe tk pw => (dss_cons (ds_expr rfl (de_call (gcleared fc _) (hr.mono (by decide)) hg tk (by rfl) fc.g_cleared (da_cons (v_ 0) da_nil))) (dss_one (ds_ret rfl de_bl)))) (fun ad oe pn => (dss_one (ds_ret rfl de_bl)))))
abbrev N_law_integer_in : List Str := ["text", "figures", "figure"]
theorem c_law_integer_in : FnScope N_law_integer_in ["text"] (defScope s_law_integer_in) := ⟨rfl, rfl, rfl, by decide +kernel, rfl, by decide +kernel, by decide +kernel⟩
theorem g_law_integer_in (fc : Fc K mg) : Ok prog w K mg 1 "_law_integer_in" false false Q.F_law_integer_in := by
  intro base
  obtain ⟨fd, F⟩ := fc.d__law_integer_in
  refine fnG_of (ps := ["text"]) (N := N_law_integer_in) (O := []) (O' := []) F c_law_integer_in (F.bindsN fun _ _ _ _ _ _ us hl => match us, hl with | [_], _ => rfl) .nil (fun _ _ => .nil) (by decide) (by decide) (by decide) fun cdv A outer s H E A0 q hio hr hg => ?_
  obtain rfl : q = none := by cases q with
    | none => rfl
    | some _ => cases hio
  have hu := Room.u64 hr
  have hv := Room.u65 hr
  exact (dss_cons (ds_asg (vs := [1]) trivial (de_if (dt_cmp (od_eq hu) (de_sl (db_e (v_ 0)) dp_no (dp_e de_int)) de_str (pm _ _)) (de_sl (db_e (v_ 0)) (dp_e de_int) dp_no) (v_ 0)) (dg_name rfl rfl c_law_integer_in.nd rfl (Or.inl rfl))) (dss_cons (ds_if trivial (DW.t (dw_or (dt_cmp (od_eq hu) (v_ 1) de_str (pm _ _)) (dw_or (dt_cmp od_gt (de_b bt_len b_len (by rfl) fc.f_len (da_cons (v_ 1) da_nil)) de_int (pm _ _)) (dw_or1 (dt_not (dt_tru (de_b bt_all (b_all (by rfl)) (by rfl) fc.f_all (da_cons (DF.toE (df_lc (by rfl) c_law_integer_in.nd (by rfl) (di_seq (v_ 1)) (blkOk_by (own := [("figure", 2)]) (by kernel_rfl)) (fun _ _ _ _ _ => (dg_name rfl rfl c_law_integer_in.nd rfl (Or.inl rfl))) (fun _ _ _ _ _ => pts_nil) tYes_go (fun _ _ _ _ _ => (de_cmp (od_in hv) (v_ 2) de_str (pm _ _))))) da_nil)))))))) (dss_one (ds_ret trivial de_non)) dss_nil) (dss_cons (ds_if trivial (DW.t (dw_and (dt_cmp (od_eq hu) (de_ix ix_d (v_ 1) de_int (fun _ _ => rfl)) de_str (pm _ _)) (dw_and1 (dt_cmp (od_ne hu) (v_ 0) de_str (pm _ _))))) (dss_one (ds_ret trivial de_non)) dss_nil) (dss_one (ds_ret trivial (de_ty bt_int b_int (by rfl) fc.f_int (da_cons (v_ 0) da_nil)))))))
abbrev N_law_read : List Str := ["text", "parts", "found", "part"]
theorem c_law_read : FnScope N_law_read ["text"] (defScope s_law_read) := ⟨rfl, rfl, rfl, by decide +kernel, rfl, by decide +kernel, by decide +kernel⟩
theorem g_law_read (fc : Fc K mg) : Ok prog w K mg 2 "_law_read" false false Q.F_law_read := by
  intro base
  obtain ⟨fd, F⟩ := fc.d__law_read
  refine fnG_of (ps := ["text"]) (N := N_law_read) (O := []) (O' := []) F c_law_read (F.bindsN fun _ _ _ _ _ _ us hl => match us, hl with | [_], _ => rfl) .nil (fun _ _ => .nil) (by decide) (by decide) (by decide) fun cdv A outer s H E A0 q hio hr hg => ?_
  obtain rfl : q = none := by cases q with
    | none => rfl
    | some _ => cases hio
  have hu := Room.u64 hr
  have hv := Room.u65 hr
  exact (dss_cons (ds_asg (vs := [1]) trivial (de_sm PySem.F.slot_str_split PySem.F.type_str_split mt_splitD (v_ 0) (da_cons de_str da_nil)) (dg_name rfl rfl c_law_read.nd rfl (Or.inl rfl))) (dss_cons (ds_setLc trivial rfl rfl c_law_read.nd rfl rfl (sw_true rfl rfl rfl (by kernel_rfl)) (by rfl) (di_seq (v_ 1)) (blkOk_by (own := [("part", 3)]) (by kernel_rfl)) (fun _ _ _ _ _ => (dg_name rfl rfl c_law_read.nd rfl (Or.inl rfl))) (fun _ _ _ _ _ => pts_nil) tYes_go (fun _ _ _ _ _ => (de_call (g_law_integer_in fc _) (hr.mono (by decide)) hg (takes0 (by rfl)) (by rfl) fc.g__law_integer_in (da_cons (v_ 3) da_nil)))) (dss_cons (ds_if trivial (DW.t (dw_or (dt_cmp od_gt (de_b bt_len b_len (by rfl) fc.f_len (da_cons (v_ 1) da_nil)) de_int (pm _ _)) (dw_or1 (dt_cmp (od_in hv) de_non (v_ 2) (pm _ _))))) (dss_one (ds_ret trivial de_str)) dss_nil) (dss_cons (ds_if trivial (dt_cmp (od_eq hu) (de_b bt_len b_len (by rfl) fc.f_len (da_cons (v_ 1) da_nil)) de_int (pm _ _)) (dss_one (ds_ret trivial (de_tup (da_cons (de_ix ix_d (v_ 2) de_int (fun _ _ => rfl)) (da_cons de_int da_nil))))) dss_nil) (dss_cons (ds_if trivial (DW.t (dw_or (dt_cmp od_lt (de_ix ix_d (v_ 2) de_int (fun _ _ => rfl)) de_int (pm _ _)) (dw_or1 (dt_cmp (od_ne hu) (de_call (g_law_divisor fc _) (hr.mono (by decide)) hg cx_tk (by rfl) fc.g__law_divisor (da_cons (de_ix ix_d (v_ 2) de_int (fun _ _ => rfl)) (da_cons (de_ix ix_d (v_ 2) de_int (fun _ _ => rfl)) da_nil))) de_int (pm _ _))))) (dss_one (ds_ret trivial de_str)) dss_nil) (dss_one (ds_ret trivial (de_tup (da_cons (de_ix ix_d (v_ 2) de_int (fun _ _ => rfl)) (da_cons (de_ix ix_d (v_ 2) de_int (fun _ _ => rfl)) da_nil))))))))))
abbrev Nlaw : List Str := ["script", "draws", "x", "text", "near", "other", "row", "j", "y"]
theorem claw : FnScope Nlaw ["script"] (defScope slaw) := ⟨rfl, rfl, rfl, by decide +kernel, rfl, by decide +kernel, by decide +kernel⟩
theorem glaw (fc : Fc K mg) : Ok prog w K mg 7 "law" false false Flaw := by
  intro base
  obtain ⟨fd, F⟩ := fc.d_law
  refine fnG_of (ps := ["script"]) (N := Nlaw) (O := []) (O' := []) F claw (F.bindsN fun _ _ _ _ _ _ us hl => match us, hl with | [_], _ => rfl) .nil (fun _ _ => .nil) (by decide) (by decide) (by decide) fun cdv A outer s H E A0 q hio hr hg => ?_
  obtain rfl : q = none := by cases q with
    | none => rfl
    | some _ => cases hio
  have hu := Room.u64 hr
  have hv := Room.u65 hr
  exact (dss_forgetO 1 (.inl (by decide)) (dss_cons (ds_own trivial (df_call (g_law_draws fc _) (hr.mono (by decide)) hg cx_tk (by rfl) fc.g__law_draws (da_cons (v_ 0) da_nil)) rfl (.inl (by decide)) claw.nd rfl (Or.inr rfl)) (dss_cons (ds_expr trivial (de_om0 om_reverse PySem.F.slot_list_reverse PySem.F.type_list_reverse (by rfl) (pv 1))) (dss_cons (ds_asg (vs := [2]) trivial (de_callio (g_law_pair fc _) (hr.mono (by decide)) hg cx_tk (by rfl) fc.g__law_pair (by rfl) (pv 1) da_nil) (dg_name rfl rfl claw.nd rfl (Or.inl rfl))) (dss_cons (ds_asg (vs := [3]) trivial (de_call (gnumber_text fc _) (hr.mono (by decide)) hg cx_tk (by rfl) fc.g_number_text (da_cons (v_ 2) da_nil)) (dg_name rfl rfl claw.nd rfl (Or.inl rfl))) (dss_cons (ds_if trivial (DW.t (dw_or (dt_cmp (od_ne hu) (v_ 3) (de_call (g_law_text fc _) (hr.mono (by decide)) hg cx_tk (by rfl) fc.g__law_text (da_cons (v_ 2) da_nil)) (pm _ _)) (dw_or1 (dt_cmp (od_ne hu) (de_b bt_repr (b_repr hg hu) (by rfl) fc.f_repr (da_cons (de_call (gread_number fc _) (hr.mono (by decide)) hg cx_tk (by rfl) fc.g_read_number (da_cons (v_ 3) da_nil)) da_nil)) (de_b bt_repr (b_repr hg hu) (by rfl) fc.f_repr (da_cons (v_ 2) da_nil)) (pm _ _))))) (dss_one (ds_ret trivial de_bl)) dss_nil) (dss_cons (ds_asg (vs := [4]) trivial (DF.toE (df_lst (da_cons de_str (da_cons de_str (da_cons de_str (da_cons de_str (da_cons de_str (da_cons de_str (da_cons de_str (da_cons de_str (da_cons de_str (da_cons de_str (da_cons de_str (da_cons de_str (da_cons de_str (da_cons de_str (da_cons de_str (da_cons de_str (da_cons de_str da_nil))))))))))))))))))) (dg_name rfl rfl claw.nd rfl (Or.inl rfl))) (dss_cons (ds_for (vs := [5]) trivial cx_pw rfl (di_seq (de_bin od_add (v_ 4) (DF.toE (df_lst (da_cons (de_callio (g_law_spoilt fc _) (hr.mono (by decide)) hg cx_tk (by rfl) fc.g__law_spoilt (by rfl) (pv 1) (da_cons (v_ 3) da_nil)) (da_cons (de_callio (g_law_spoilt fc _) (hr.mono (by decide)) hg cx_tk (by rfl) fc.g__law_spoilt (by rfl) (pv 1) (da_cons (de_callio (g_law_spoilt fc _) (hr.mono (by decide)) hg cx_tk (by rfl) fc.g__law_spoilt (by rfl) (pv 1) (da_cons (v_ 3) da_nil)) da_nil)) (da_cons (de_bin od_add (v_ 3) de_str) (da_cons (de_bin od_add de_str (v_ 3)) da_nil)))))))) (dg_name rfl rfl claw.nd rfl (Or.inl rfl)) (dss_one (ds_if trivial (dt_cmp (od_ne hu) (de_b bt_repr (b_repr hg hu) (by rfl) fc.f_repr (da_cons (de_call (g_law_told fc _) (hr.mono (by decide)) hg cx_tk (by rfl) fc.g__law_told (da_cons (v_ 5) da_nil)) da_nil)) (de_b bt_repr (b_repr hg hu) (by rfl) fc.f_repr (da_cons (de_call (g_law_read fc _) (hr.mono (by decide)) hg cx_tk (by rfl) fc.g__law_read (da_cons (v_ 5) da_nil)) da_nil)) (pm _ _)) (dss_one (ds_ret trivial de_bl)) dss_nil))) (dss_cons (ds_asg (vs := [6]) trivial (de_ty bt_tuple b_tuple (by rfl) fc.f_tuple (da_cons (DF.toE (df_lc (by rfl) claw.nd (by rfl) (di_range1 (by rfl) fc.f_range (da_cons (de_bin od_mod (de_ty bt_int b_int (by rfl) fc.f_int (da_cons (de_callio (g_law_next fc _) (hr.mono (by decide)) hg cx_tk (by rfl) fc.g__law_next (by rfl) (pv 1) da_nil) da_nil)) de_int) da_nil)) (blkOk_by (own := [("j", 7)]) (by kernel_rfl)) (fun _ _ _ _ _ => (dg_name rfl rfl claw.nd rfl (Or.inl rfl))) (fun _ _ _ _ _ => pts_nil) tYes_go (fun _ _ _ _ _ => (de_callio (g_law_pair fc _) (hr.mono (by decide)) hg (takes0 (by rfl)) (by rfl) fc.g__law_pair (by rfl) (pv 1) da_nil)))) da_nil)) (dg_name rfl rfl claw.nd rfl (Or.inl rfl))) (dss_cons (ds_if trivial (dt_cmp (od_eq hu) (de_bin od_mod (de_ty bt_int b_int (by rfl) fc.f_int (da_cons (de_callio (g_law_next fc _) (hr.mono (by decide)) hg cx_tk (by rfl) fc.g__law_next (by rfl) (pv 1) da_nil) da_nil)) de_int) de_int (pm _ _)) (dss_one (ds_asg (vs := [6]) trivial (de_ty bt_tuple b_tuple (by rfl) fc.f_tuple (da_cons (DF.toE (df_lc (by rfl) claw.nd (by rfl) (di_seq (v_ 6)) (blkOk_by (own := [("y", 8)]) (by kernel_rfl)) (fun _ _ _ _ _ => (dg_name rfl rfl claw.nd rfl (Or.inl rfl))) (fun _ _ _ _ _ => pts_nil) tYes_go (fun _ _ _ _ _ => (de_tup (da_cons de_int (da_cons de_int da_nil)))))) da_nil)) (dg_name rfl rfl claw.nd rfl (Or.inl rfl)))) dss_nil) (dss_cons (ds_if trivial (dt_cmp (od_ne hu) (de_b bt_repr (b_repr hg hu) (by rfl) fc.f_repr (da_cons (de_call (gcleared fc _) (hr.mono (by decide)) hg cx_tk (by rfl) fc.g_cleared (da_cons (v_ 6) da_nil)) da_nil)) (de_b bt_repr (b_repr hg hu) (by rfl) fc.f_repr (da_cons (de_call (g_law_cleared fc _) (hr.mono (by decide)) hg cx_tk (by rfl) fc.g__law_cleared (da_cons (v_ 6) da_nil)) da_nil)) (pm _ _)) (dss_one (ds_ret trivial de_bl)) dss_nil) (dss_cons (ds_if trivial (DW.t (dw_or (dt_not (dt_tru (de_call (g_law_refused fc _) (hr.mono (by decide)) hg cx_tk (by rfl) fc.g__law_refused (da_cons (de_bin od_add (v_ 6) (de_tup (da_cons (de_tup (da_cons de_int (da_cons de_int da_nil))) da_nil))) da_nil)))) (dw_or1 (dt_not (dt_tru (de_call (g_law_refused fc _) (hr.mono (by decide)) hg cx_tk (by rfl) fc.g__law_refused (da_cons (de_bin od_add (de_tup (da_cons (de_tup (da_cons de_int (da_cons de_int da_nil))) da_nil)) (v_ 6)) da_nil))))))) (dss_one (ds_ret trivial de_bl)) dss_nil) (dss_one (ds_ret trivial (de_call0 (g_law_large fc _) (hr.mono (by decide)) hg cx_tk (by rfl) fc.g__law_large)))))))))))))))
end
end K01
namespace K01
open Q DL PySem PySem.Spec PyProof.Rows
theorem gS0 : gStr [.int 0] = some (.str "0") := by kernel_rfl
theorem gS1 : gStr [.int 1] = some (.str "1") := by kernel_rfl
theorem ga0 : gAdd (.str "!") (.str "0") = some (.str "!0") := by kernel_rfl
theorem ga1 : gAdd (.str "!") (.str "1") = some (.str "!1") := by kernel_rfl
theorem v_told {w : List Nat} (hw : w.length ≤ 5000) (hp : ∀ p ∈ spl47 w, Asc p) (ρ : En) : (F_law_told [sD w]).R ρ = .ok (lreadV (spl47 w)) ρ := by
  have vr := fun ρ => v_read hw hp ρ
  unfold lreadV
  cases k : okRead (spl47 w) with
  | true =>
    rw [k] at vr
    simp only [if_pos rfl] at vr
    rw [if_pos rfl]
    generalize valRead (spl47 w) = V at *
    generalize sD w = W at *
    unfold F_law_told
    simp -implicitDefEqProofs [runM, m_law_told, msTryF, pad, mCall_R, vr]
  | false =>
    rw [k] at vr
    simp only [if_neg (show ¬ (false = true) by decide)] at vr
    rw [if_neg (by decide)]
    have m : mtMalformed "Malformed" = some true := by decide
    have oa : okX_at "Malformed" = true := by decide
    generalize sD w = W at *
    unfold F_law_told
    simp -implicitDefEqProofs [runM, m_law_told, msTryF, pad, mCall_R, vr, m, okF, mXf, oa, gS0, ga0, fgt]
theorem v_written {a b : Int} (hn : isNum a b = true) (hb : b.natAbs < 2 ^ 8000) (h : ¬ (a.natAbs < 10 ^ 400 ∧ b.natAbs < 10 ^ 400)) (ρ : En) : (F_law_written [tupI (a, b)]).R ρ = .ok (.str "!1") ρ := by
  have vt := fun ρ => v_numberText hn hb ρ
  simp only [if_neg h] at vt
  have m : mtPlaneError "TooLarge" = some true := by decide
  have kt : kTooLarge "TooLarge" = true := by decide
  generalize tupI (a, b) = P at *
  unfold F_law_written
  simp -implicitDefEqProofs [runM, m_law_written, pad, mTryAs_ap, mCall_R, vt, m, kt, gS1, ga1, fgt]
theorem v_refused {d : D} (h : ∀ ρ, (Fcleared [d]).R ρ = .ex NNm ρ) (ρ : En) : (F_law_refused [d]).R ρ = .ok (.bl true) ρ := by
  have m : mtNotNumber "NotNumber" = some true := by decide
  unfold F_law_refused
  simp -implicitDefEqProofs [runM, m_law_refused, msTryO, pad, mCall_R, h, m, noX]
theorem p50 : gPow (.int 10) (.int 50) = some (.int (10 ^ 50)) := by kernel_rfl
theorem p400 : gPowW (.int (10 ^ 50)) (.int 8) = some (.int cTen) := by kernel_rfl
theorem cTen_lo : (2 : Int) < cTen := by decide +kernel
theorem cTen_n : cTen.natAbs = 10 ^ 400 := by rw [cTen_eq, Int.natAbs_natCast]
theorem num1 (b : Int) (h : 1 ≤ b) : isNum 1 b = true := by
  unfold isNum
  rw [decide_eq_true h]
  simp
theorem numS (b : Int) (h : 1 ≤ b) : isNum (b - 1) b = true := by
  unfold isNum
  rw [decide_eq_true h, Bool.true_and]
  refine decide_eq_true ?_
  have h1 : ((Int.gcd (b - 1) b : Nat) : Int) ∣ (b - 1) := Int.gcd_dvd_left ..
  have h2 : ((Int.gcd (b - 1) b : Nat) : Int) ∣ b := Int.gcd_dvd_right ..
  have h3 : ((Int.gcd (b - 1) b : Nat) : Int) ∣ 1 := by
    have := Int.dvd_sub h2 h1
    rwa [show b - (b - 1) = 1 by omega] at this
  exact Int.natAbs_dvd_natAbs.mpr h3 |> Nat.dvd_one.mp
end K01
namespace K01
open Q DL PySem PySem.Spec PyProof.Rows
theorem parts_ok {w : List Nat} (hl : w.length ≤ 600) (ha : As w) : ∀ p ∈ spl47 w, Asc p := fun p hp => by
  obtain ⟨h1, h2⟩ := (sp_len 47 w []).1 p hp
  refine ⟨by simp at h1; omega, fun c hc => ?_⟩
  rcases h2 c hc with z | z
  · cases z
  · exact ha c z
theorem pd_tupI (a b : Int) : Pd 1 (tupI (a, b)) := fun d hd => by
  simp only [List.mem_cons, List.not_mem_nil, or_false] at hd
  rcases hd with rfl | rfl <;> trivial
theorem ne_tupI (a b : Int) : gNe (tupI (a, b)) (tupI (a, b)) = some (.bl false) := by
  have := gNe_pd (P := True) (pd_tupI a b) (pd_tupI a b) (by decide) (by decide) (by simp)
  simpa using this
theorem ten41 : (10 : Nat) ^ 400 < 10 ^ 401 := Nat.pow_lt_pow_right (by decide) (by decide)
theorem b8k {b : Int} (h : b.natAbs < 10 ^ 401) : b.natAbs < 2 ^ 8000 := Nat.lt_of_lt_of_le h (Nat.le_trans ten401 (Nat.pow_le_pow_right (by decide) (by decide)))
theorem neq_S (w : List Nat) : gNe (sD w) (sD w) = some (.bl false) := neS_self _
theorem b0_go {M : Option D} {o : Option D} {a b : Int} (hn : isNum a b = true) (h1 : a.natAbs < 10 ^ 400) (h2 : b.natAbs < 10 ^ 400) : m_law_large_b0 [o, M, some (tupI (a, b))] = .nx [o, M, some (tupI (a, b))] := by
  have h1' := Nat.lt_trans h1 ten41
  have h2' := Nat.lt_trans h2 ten41
  have vt := fun ρ => v_numberText hn (b8k h2') ρ
  simp only [if_pos (And.intro h1 h2)] at vt
  have vl := fun ρ => v_ltext h1' h2' ρ
  have vr := fun ρ => v_read (w := nT a b) (by have := nT_len h1' h2' (by decide); omega) (nT_parts h1' h2' (by decide) (by decide)) ρ
  obtain ⟨k1, k2⟩ := back_ok hn h1 h2
  rw [k1, k2] at vr
  simp only [if_pos rfl] at vr
  have vr' : ∀ ρ, (Fread_number [sD (nT a b)]).R ρ = .ok (tupI (a, b)) ρ := vr
  have n1 := neq_S (nT a b)
  have n2 := ne_tupI a b
  generalize sD (nT a b) = W at *
  generalize tupI (a, b) = P at *
  simp -implicitDefEqProofs [m_law_large_b0, mCall_R, vt, vl, vr', n1, n2]
theorem b1_go {M : Option D} {o : Option D} {a b : Int} (hn : isNum a b = true) (h1 : a.natAbs < 10 ^ 401) (h2 : b.natAbs < 10 ^ 401) (h : ¬ (a.natAbs < 10 ^ 400 ∧ b.natAbs < 10 ^ 400)) : m_law_large_b1 [o, M, some (tupI (a, b))] = .nx [o, M, some (tupI (a, b))] := by
  have vw := fun ρ => v_written hn (b8k h2) h ρ
  have vl := fun ρ => v_ltext h1 h2 ρ
  have vt := fun ρ => v_told (w := nT a b) (by have := nT_len h1 h2 (by decide); omega) (nT_parts h1 h2 (by decide) (by decide)) ρ
  have h' : ¬ (a.natAbs < 10 ^ 400 ∧ (b = 1 ∨ b.natAbs < 10 ^ 400)) := fun z => h ⟨z.1, z.2.elim (fun e => by
    rw [e]
    exact Nat.lt_of_lt_of_le (show (Int.natAbs 1) < 10 ^ 1 by decide) (Nat.pow_le_pow_right (by decide) (by decide))) id⟩
  have e : lreadV (spl47 (nT a b)) = .str "!0" := by
    unfold lreadV
    rw [back_no h', if_neg (by decide)]
  rw [e] at vt
  have n1 : gNe (.str "!1") (.str "!1") = some (.bl false) := neS_self _
  have n2 : gNe (.str "!0") (.str "!0") = some (.bl false) := neS_self _
  generalize sD (nT a b) = W at *
  generalize tupI (a, b) = P at *
  simp -implicitDefEqProofs [m_law_large_b1, mCall_R, vw, vl, vt, n1, n2]
theorem loop4 {B : MS} {o M : Option D} {x1 x2 x3 x4 : D} (h1 : B [o, M, some x1] = .nx [o, M, some x1]) (h2 : B [o, M, some x2] = .nx [o, M, some x2]) (h3 : B [o, M, some x3] = .nx [o, M, some x3]) (h4 : B [o, M, some x4] = .nx [o, M, some x4]) (p : Option D) :
    loopL (mgName 2) B [x1, x2, x3, x4] [o, M, p] = .nx [o, M, some x4] := by
  rw [loop_step (ρ1 := [o, M, some x1]) rfl h1, loop_step (ρ1 := [o, M, some x2]) rfl h2, loop_step (ρ1 := [o, M, some x3]) rfl h3, loop_step (ρ1 := [o, M, some x4]) rfl h4]
  rfl
section
variable {T : Int} {A B : Nat}
theorem lo1 (te : T.natAbs = A) (h : 2 < T) : (T - 1).natAbs < A := by omega
theorem lo2 (te : T.natAbs = A) (h : 2 < T) : (0 - (T - 1)).natAbs < A := by omega
theorem lo3 (te : T.natAbs = A) (h : 2 < T) : (T - 1 - 1).natAbs < A := by omega
theorem lo0 (te : T.natAbs = A) (h : 2 < T) : (1 : Int).natAbs < A := by omega
theorem hi1 (te : T.natAbs = A) (t : A < B) : (T - 1 + 1).natAbs < B ∧ ¬ (T - 1 + 1).natAbs < A := by rw [show T - 1 + 1 = T by omega]; omega
theorem hi2 (te : T.natAbs = A) (t : A < B) : (0 - (T - 1) - 1).natAbs < B ∧ ¬ (0 - (T - 1) - 1).natAbs < A := by rw [show 0 - (T - 1) - 1 = -T by omega, Int.natAbs_neg]; omega
end
def LA0 : MS := (msAsg (m2 gSub (m2 gPowW (m2 gPow (mK (.int 10)) (mK (.int 50))) (mK (.int 8))) (mK (.int 1))) (mgName 1))
def LA1 (B : MS) : MS := (msFor (mIter (mN gLst (mCons (mN gTup (mCons (mVar 1) (mCons (mK (.int 1)) mNil))) (mCons (mN gTup (mCons (m2 gSub (mK (.int 0)) (mVar 1)) (mCons (mK (.int 1)) mNil))) (mCons (mN gTup (mCons (mK (.int 1)) (mCons (mVar 1) mNil))) (mCons (mN gTup (mCons (m2 gSub (mVar 1) (mK (.int 1))) (mCons (mVar 1) mNil))) mNil)))))) (mgName 2) B)
def LA2 (B : MS) : MS := (msFor (mIter (mN gLst (mCons (mN gTup (mCons (m2 gAdd (mVar 1) (mK (.int 1))) (mCons (mK (.int 1)) mNil))) (mCons (mN gTup (mCons (m2 gSub (m2 gSub (mK (.int 0)) (mVar 1)) (mK (.int 1))) (mCons (mK (.int 1)) mNil))) (mCons (mN gTup (mCons (mK (.int 1)) (mCons (m2 gAdd (mVar 1) (mK (.int 1))) mNil))) (mCons (mN gTup (mCons (mVar 1) (mCons (m2 gAdd (mVar 1) (mK (.int 1))) mNil))) mNil)))))) (mgName 2) B)
theorem large_eq : m_law_large = msSeq LA0 (msSeq (LA1 m_law_large_b0) (msSeq (LA2 m_law_large_b1) (msRet (mK (.bl true))))) := rfl
theorem la0 : LA0 [none, none, none] = .nx [none, some (.int (cTen - 1)), none] := by
  have p1 := p50
  have p2 := p400
  generalize cTen = T at *
  generalize (10 : Int) ^ 50 = P at *
  simp -implicitDefEqProofs [LA0, p1, p2]
theorem la1 {B : MS} (m : Int) (o : Option D) : LA1 B [none, some (.int m), o] = loopL (mgName 2) B [tupI (m, 1), tupI (0 - m, 1), tupI (1, m), tupI (m - 1, m)] [none, some (.int m), o] := by
  have sz := szv
  simp -implicitDefEqProofs [LA1, show 2 ≤ sizeLine by omega, show 4 ≤ sizeLine by omega, gIter, tupI]
theorem la2 {B : MS} (m : Int) (o : Option D) : LA2 B [none, some (.int m), o] = loopL (mgName 2) B [tupI (m + 1, 1), tupI (0 - m - 1, 1), tupI (1, m + 1), tupI (m, m + 1)] [none, some (.int m), o] := by
  have sz := szv
  simp -implicitDefEqProofs [LA2, show 2 ≤ sizeLine by omega, show 4 ≤ sizeLine by omega, gIter, tupI]
theorem v_large (ρ : En) : (F_law_large []).R ρ = .ok (.bl true) ρ := by
  have t2 := cTen_lo
  have te := cTen_n
  have t4 := ten41
  have u1 : (1 : Int).natAbs < 10 ^ 401 := Nat.lt_trans (lo0 te t2) t4
  have n4 : isNum (cTen - 1) (cTen - 1 + 1) = true := by
    have := numS cTen (by omega)
    rwa [show cTen - 1 + 1 = cTen by omega]
  have x1 := loop4 (b0_go (o := none) (M := some (.int (cTen - 1))) (isN1 (cTen - 1)) (lo1 te t2) (lo0 te t2)) (b0_go (isN1 (0 - (cTen - 1))) (lo2 te t2) (lo0 te t2))
    (b0_go (num1 (cTen - 1) (by omega)) (lo0 te t2) (lo1 te t2)) (b0_go (numS (cTen - 1) (by omega)) (lo3 te t2) (lo1 te t2)) none
  have x2 := loop4 (b1_go (o := none) (M := some (.int (cTen - 1))) (isN1 (cTen - 1 + 1)) (hi1 te t4).1 u1 fun z => (hi1 te t4).2 z.1) (b1_go (isN1 (0 - (cTen - 1) - 1)) (hi2 te t4).1 u1 fun z => (hi2 te t4).2 z.1)
    (b1_go (num1 (cTen - 1 + 1) (by omega)) u1 (hi1 te t4).1 fun z => (hi1 te t4).2 z.2) (b1_go n4 (Nat.lt_trans (lo1 te t2) t4) (hi1 te t4).1 fun z => (hi1 te t4).2 z.2) (some (tupI (cTen - 1 - 1, cTen - 1)))
  rw [← la1] at x1
  rw [← la2] at x2
  have e0 := la0
  have h : m_law_large [none, none, none] = .rt (.bl true) [none, some (.int (cTen - 1)), some (tupI (cTen - 1, cTen - 1 + 1))] := by
    rw [large_eq]
    exact seq_nxK e0 (seq_nxK x1 (seq_nxK x2 rfl))
  have := runM_rt (n := 3) (np := 0) (dd := []) (fr := false) (m := m_law_large) (ds := []) rfl h
  unfold F_law_large
  rw [this, Ret.R_rt]
end K01
namespace K01
open Q DL PySem PySem.Spec PyProof.Rows
theorem intP_sm {p : List Nat} (h : intOk p = true) : (intI p).natAbs < 2 ^ 1900 := intI_lt h
theorem repr_two {a b : Int} (h1 : a.natAbs < 2 ^ 1900) (h2 : b.natAbs < 2 ^ 1900) : ∃ z, gRepr [.tup [.int a, .int b]] = some (.str z) :=
  (Sb.tup (W := 0) (B := 2) (n := 1) (l := [.int a, .int b]) (fun d hd => by
    simp only [List.mem_cons, List.not_mem_nil, or_false] at hd
    rcases hd with rfl | rfl
    · exact Sb.int h1
    · exact Sb.int h2) (Nat.le_refl 2 : [D.int a, D.int b].length * (0 + 1) ≤ 2)).shown (by decide) (by decide)
theorem repr_lr (ps : List (List Nat)) : ∃ z, gRepr [lreadV ps] = some (.str z) := by
  unfold lreadV
  cases k : okRead ps with
  | false =>
    rw [if_neg (by decide)]
    have : D.str "!0" = sD [33, 48] := rfl
    rw [this]
    exact (Sw.str (l := [33, 48]) (by decide)).shown (by decide) (by decide)
  | true =>
    rw [if_pos rfl]
    match ps, k with
    | [p], k => exact repr_two (intP_sm (p := p) k) (by decide)
    | [p, q], k =>
      have k' : (intOk p && (intOk q && (decide (2 ≤ intI q) && decide (Int.gcd (intI p) (intI q) = 1)))) = true := k
      rw [Bool.and_eq_true, Bool.and_eq_true] at k'
      exact repr_two (intP_sm k'.1) (intP_sm k'.2.1)
theorem io_1b {F : FN} {d' : D} {l l2 l' : List Int} {x : Option D} {r : En} {args : MA} {ds : List D} (ha : args (x :: some (dl l) :: r) = .ok ds (x :: some (dl l2) :: r)) (e : F (dl l2 :: ds) = .rt d' (dl l')) : mCallIo F 1 args (x :: some (dl l) :: r) = .ok d' (x :: some (dl l') :: r) := by
  rw [mCallIo_ap, ha]
  simp -implicitDefEqProofs [getO_1, e]
abbrev St (s d x t n o r j y : Option D) : En := [s, d, x, t, n, o, r, j, y]
theorem b6_go {w : List Nat} (hl : w.length ≤ 600) (ha : As w) (s d x t n r j y : Option D) : mlaw_b6 (St s d x t n (some (sD w)) r j y) = .nx (St s d x t n (some (sD w)) r j y) := by
  have v1 := fun ρ => v_told (w := w) (by omega) (parts_ok hl ha) ρ
  have v2 := fun ρ => v_lread (w := w) (by omega) (parts_ok hl ha) ρ
  obtain ⟨z, hz⟩ := repr_lr (spl47 w)
  have nz := neS_self z
  generalize lreadV (spl47 w) = V at *
  generalize sD w = W at *
  simp -implicitDefEqProofs [mlaw_b6, mCall_R, v1, v2, hz, nz]
theorem loop6 (s d x t n r j y : Option D) : ∀ (ws : List (List Nat)) (o : Option D), (∀ w ∈ ws, w.length ≤ 600 ∧ As w) → ∃ o', loopL (mgName 5) mlaw_b6 (ws.map sD) (St s d x t n o r j y) = .nx (St s d x t n o' r j y)
  | [], o, _ => ⟨o, rfl⟩
  | w :: ws, o, h => by
    obtain ⟨o', e⟩ := loop6 s d x t n r j y ws (some (sD w)) fun v hv => h v (List.mem_cons_of_mem _ hv)
    refine ⟨o', ?_⟩
    rw [List.map_cons, ← e]
    exact loop_step (ρ1 := St s d x t n (some (sD w)) r j y) rfl (b6_go (h w List.mem_cons_self).1 (h w List.mem_cons_self).2 s d x t n r j y)
def nearL : List (List Nat) := [[], [45], [43, 49], [48, 49], [45, 48], [49, 47, 49], [49, 47, 48], [50, 47, 52], [49, 47, 45, 50], [49, 47, 50, 47, 51], [32, 49], [49, 32], [48, 47, 50], [49, 46, 53], [49, 47], [47, 50], [45, 45, 49]]
theorem near_eq : [D.str "", D.str "-", D.str "+1", D.str "01", D.str "-0", D.str "1/1", D.str "1/0", D.str "2/4", D.str "1/-2", D.str "1/2/3", D.str " 1", D.str "1 ", D.str "0/2", D.str "1.5", D.str "1/", D.str "/2", D.str "--1"] = nearL.map sD := rfl
theorem near_ok : ∀ w ∈ nearL, w.length ≤ 600 ∧ As w := by
  have h : (nearL.all fun w => decide (w.length ≤ 600) && w.all fun c => decide (c < 128)) = true := by decide
  intro w hw
  have := List.all_eq_true.mp h w hw
  rw [Bool.and_eq_true] at this
  exact ⟨of_decide_eq_true this.1, fun c hc => of_decide_eq_true (List.all_eq_true.mp this.2 c hc)⟩
theorem fr_tup (q : Rat) : fr q = tupI (q.num, (q.den : Int)) := rfl
theorem p37 : (2 : Nat) ^ 121 < 10 ^ 37 := by decide
theorem p37b : (10 : Nat) ^ 37 < 10 ^ 400 := Nat.pow_lt_pow_right (by decide) (by decide)
theorem sz_ten {q : Rat} (h : Sz 121 q) : q.num.natAbs < 10 ^ 37 ∧ ((q.den : Int)).natAbs < 10 ^ 37 := ⟨Nat.lt_trans h.1 p37, by rw [Int.natAbs_natCast]; exact Nat.lt_trans h.2 p37⟩
theorem repr_row {v : List Rat} (hl : v.length ≤ 6) (hv : ∀ y ∈ v, Sz 121 y) : ∃ z, gRepr [pl (clr (wholeR v))] = some (.str z) := by
  have hw : ∀ a ∈ wholeR v, a.natAbs < 2 ^ 1900 := fun a ha => by
    obtain ⟨y, hy, rfl⟩ := List.mem_map.mp ha
    have sy := hv y hy
    obtain ⟨o2, e, q1, q2⟩ := lcr_loop (X := frs v) (K := 121) v 1 1 none hv (by decide) (by decide) (by omega) (by decide)
    rw [Int.natAbs_mul, Int.natAbs_natCast]
    have h1 : lcmF v 1 / y.den < 2 ^ (1 + v.length * 121) := Nat.lt_of_le_of_lt (Nat.div_le_self _ _) q2
    have h2 : y.num.natAbs * (lcmF v 1 / y.den) < 2 ^ (121 + (1 + v.length * 121)) := by
      rw [Nat.pow_add]
      exact Nat.mul_lt_mul_of_lt_of_le sy.1 (Nat.le_of_lt h1) (Nat.two_pow_pos _)
    exact Nat.lt_of_lt_of_le h2 (Nat.pow_le_pow_right (by decide) (by omega))
  have wl : (wholeR v).length = v.length := List.length_map ..
  have hc : ∀ a ∈ clr (wholeR v), a.natAbs < 2 ^ 1900 := fun a ha => by
    unfold clr at ha
    split at ha
    · obtain ⟨b, hb, hab⟩ := primL_abs ha
      exact Nat.lt_of_le_of_lt hab (hw b hb)
    · exact hw a ha
  have cl : (clr (wholeR v)).length ≤ 6 := by
    unfold clr
    split
    · unfold primL; rw [List.length_map]; omega
    · omega
  exact (Sb.tup (W := 0) (B := 6) (n := 1) (fun d hd => by
    obtain ⟨a, ha, rfl⟩ := List.mem_map.mp hd
    exact Sb.int (hc a ha)) (by rw [List.length_map]; omega)).shown (by decide) (by decide)
theorem law_true : ∀ zs : List Int, zs.length ≤ 63 → ∃ o, Flaw [.scr (zs.map D.int)] = .rt (.bl true) o := by
  intro zs hz
  have sz := szv
  obtain ⟨l0, e0⟩ := qDraws_v zs hz
  suffices h : ∃ ρ', mlaw (pad 9 [.scr (zs.map D.int)]) = .rt (.bl true) ρ' by
    obtain ⟨ρ', h⟩ := h
    exact ⟨_, runM_rt (ds := [.scr (zs.map D.int)]) (np := 1) (dd := []) rfl h⟩
  generalize hS : D.scr (zs.map D.int) = S at *
  have a0 : mlaw_s0 (St (some S) none none none none none none none none) = .nx (St (some S) (some (dl l0)) none none none none none none none) := by
    simp -implicitDefEqProofs [mlaw_s0, mCall_R, e_draws, e0]
  have a1 : mlaw_s1 (St (some S) (some (dl l0)) none none none none none none none) = .nx (St (some S) (some (dl l0.reverse)) none none none none none none none) := by
    simp -implicitDefEqProofs [mlaw_s1, getO_1, gReverse]
  generalize l0.reverse = l1 at a1
  obtain ⟨q, l2, e2, zq⟩ := v_pair l1
  have a2 : mlaw_s2 (St (some S) (some (dl l1)) none none none none none none none) = .nx (St (some S) (some (dl l2)) (some (fr q)) none none none none none none) := by
    have io := io_1 (x := some S) (r := [none, none, none, none, none, none, none]) e2
    generalize fr q = Q1 at *
    generalize dl l1 = D1 at *
    generalize dl l2 = D2 at *
    simp -implicitDefEqProofs [mlaw_s2, io]
  obtain ⟨t1, t2⟩ := sz_ten zq
  have u1 := Nat.lt_trans t1 p37b
  have u2 := Nat.lt_trans t2 p37b
  have w1 := Nat.lt_trans u1 ten41
  have w2 := Nat.lt_trans u2 ten41
  have hn := rat_num q
  have vt := fun ρ => v_numberText hn (b8k w2) ρ
  simp only [if_pos (And.intro u1 u2)] at vt
  rw [← fr_tup] at vt
  have vl := fun ρ => v_ltext w1 w2 ρ
  rw [← fr_tup] at vl
  have vr := fun ρ => v_read (w := nT q.num q.den) (by have := nT_len t1 t2 (by decide); omega) (nT_parts t1 t2 (by decide) (by decide)) ρ
  obtain ⟨k1, k2⟩ := back_ok hn u1 u2
  rw [k1, k2] at vr
  simp only [if_pos rfl] at vr
  have vr' : ∀ ρ, (Fread_number [sD (nT q.num q.den)]).R ρ = .ok (fr q) ρ := vr
  obtain ⟨zz, hzz⟩ := (Sb.fr (zq.up (show 121 ≤ 1900 by decide))).shown (by decide) (by decide)
  have nz := neS_self zz
  have n1 := neq_S (nT q.num q.den)
  have tl := nT_len t1 t2 (by decide)
  have ta := nT_asc q.num q.den
  generalize hw : nT q.num q.den = w at *
  have a3 : mlaw_s3 (St (some S) (some (dl l2)) (some (fr q)) none none none none none none) = .nx (St (some S) (some (dl l2)) (some (fr q)) (some (sD w)) none none none none none) := by
    generalize fr q = Q1 at *
    generalize sD w = W at *
    generalize dl l2 = D2 at *
    simp -implicitDefEqProofs [mlaw_s3, mCall_R, vt]
  have a4 : mlaw_s4 (St (some S) (some (dl l2)) (some (fr q)) (some (sD w)) none none none none none) = .nx (St (some S) (some (dl l2)) (some (fr q)) (some (sD w)) none none none none none) := by
    generalize fr q = Q1 at *
    generalize sD w = W at *
    generalize dl l2 = D2 at *
    simp -implicitDefEqProofs [mlaw_s4, mCall_R, vl, n1, vr', hzz, nz]
  have a5 : mlaw_s5 (St (some S) (some (dl l2)) (some (fr q)) (some (sD w)) none none none none none) = .nx (St (some S) (some (dl l2)) (some (fr q)) (some (sD w)) (some (.lst (nearL.map sD))) none none none none) := by
    rw [← near_eq]
    generalize fr q = Q1 at *
    generalize sD w = W at *
    generalize dl l2 = D2 at *
    simp -implicitDefEqProofs [mlaw_s5, show 17 ≤ sizeLine by omega]
  obtain ⟨wa, l3, f3, la, aa⟩ := v_spoilt2 (u := w) ta (by omega) l2
  obtain ⟨wb, l4, f4, lb, ab⟩ := v_spoilt2 (u := w) ta (by omega) l3
  obtain ⟨wc, l5, f5, lc, ac⟩ := v_spoilt2 (u := wb) ab (by omega) l4
  have g1 := gAdd_S w [47, 50] (by simp; omega)
  have g2 := gAdd_S [45] w (by simp; omega)
  obtain ⟨o5, lp⟩ := loop6 (some S) (some (dl l5)) (some (fr q)) (some (sD w)) (some (.lst (nearL.map sD))) none none none (nearL ++ [wa, wc, w ++ [47, 50], [45] ++ w]) none (fun v hv => by
    rcases List.mem_append.mp hv with z | z
    · exact near_ok v z
    · simp only [List.mem_cons, List.not_mem_nil, or_false] at z
      rcases z with rfl | rfl | rfl | rfl
      · exact ⟨by omega, aa⟩
      · exact ⟨by omega, ac⟩
      · exact ⟨by simp; omega, as_app ta (by intro c hc; simp only [List.mem_cons, List.not_mem_nil, or_false] at hc; omega)⟩
      · exact ⟨by simp; omega, as_app (by intro c hc; simp only [List.mem_cons, List.not_mem_nil, or_false] at hc; omega) ta⟩)
  have a7 : mlaw_s7 (St (some S) (some (dl l2)) (some (fr q)) (some (sD w)) (some (.lst (nearL.map sD))) none none none none) = .nx (St (some S) (some (dl l5)) (some (fr q)) (some (sD w)) (some (.lst (nearL.map sD))) o5 none none none) := by
    have i1 := io_1a (x := some S) (l := l2) (l' := l3) (F := Q.F_law_spoilt_v2) (r := [some (fr q), some (sD w), some (.lst (nearL.map sD)), none, none, none, none]) (args := mCons (mVar 3) mNil) (ds := [sD w]) rfl f3
    have i2 := io_1a (x := some S) (l := l3) (l' := l4) (F := Q.F_law_spoilt_v2) (r := [some (fr q), some (sD w), some (.lst (nearL.map sD)), none, none, none, none]) (args := mCons (mVar 3) mNil) (ds := [sD w]) rfl f4
    have i3 : mCallIo Q.F_law_spoilt_v2 1 (mCons (mCallIo Q.F_law_spoilt_v2 1 (mCons (mVar 3) mNil)) mNil) (some S :: some (dl l3) :: [some (fr q), some (sD w), some (.lst (nearL.map sD)), none, none, none, none]) = .ok (sD wc) (some S :: some (dl l5) :: [some (fr q), some (sD w), some (.lst (nearL.map sD)), none, none, none, none]) := by
      refine io_1b (l2 := l4) (ds := [sD wb]) ?_ f5
      rw [mCons_ap, i2, bind_ok, mNil_ap, bind_ok]
    have hs : D.str "/2" = sD [47, 50] := rfl
    have hm : D.str "-" = sD [45] := rfl
    rw [← hs] at g1
    rw [← hm] at g2
    have lp' : loopL (mgName 5) mlaw_b6 (nearL.map sD ++ [sD wa, sD wc, sD (w ++ [47, 50]), sD ([45] ++ w)]) (St (some S) (some (dl l5)) (some (fr q)) (some (sD w)) (some (.lst (nearL.map sD))) none none none none) = .nx (St (some S) (some (dl l5)) (some (fr q)) (some (sD w)) (some (.lst (nearL.map sD))) o5 none none none) := by
      rw [← lp, List.map_append]
      rfl
    have gg : gAdd (.lst (nearL.map sD)) (.lst [sD wa, sD wc, sD (w ++ [47, 50]), sD ([45] ++ w)]) = some (.lst (nearL.map sD ++ [sD wa, sD wc, sD (w ++ [47, 50]), sD ([45] ++ w)])) := by
      show (if (nearL.map sD).length + 4 ≤ sizeLine then some (D.lst (nearL.map sD ++ [sD wa, sD wc, sD (w ++ [47, 50]), sD ([45] ++ w)])) else none) = _
      rw [if_pos (by rw [List.length_map, show nearL.length = 17 from rfl, sz]; decide)]
    have gi : gIter (.lst (nearL.map sD ++ [sD wa, sD wc, sD (w ++ [47, 50]), sD ([45] ++ w)])) = some (nearL.map sD ++ [sD wa, sD wc, sD (w ++ [47, 50]), sD ([45] ++ w)]) := rfl
    generalize nearL.map sD ++ [sD wa, sD wc, sD (w ++ [47, 50]), sD ([45] ++ w)] = LL at *
    generalize nearL.map sD = NL at *
    generalize sD (w ++ [47, 50]) = W1 at *
    generalize sD ([45] ++ w) = W2 at *
    generalize sD wa = WA at *
    generalize sD wb = WB at *
    generalize sD wc = WC at *
    generalize fr q = Q1 at *
    generalize sD w = W at *
    generalize dl l2 = D2 at *
    generalize dl l3 = D3 at *
    generalize dl l4 = D4 at *
    generalize dl l5 = D5 at *
    generalize D.lst LL = LD at *
    generalize D.lst NL = ND at *
    unfold mlaw_s7
    generalize mlaw_b6 = B at *
    simp -implicitDefEqProofs [i1, i3, g1, g2, gg, gi, lp', show 4 ≤ sizeLine by omega]
  obtain ⟨r1, r2⟩ := fm_rng (drawI l5) (m := 7) (by decide)
  obtain ⟨m, hm⟩ : ∃ m : Nat, (drawI l5).fmod 7 = (m : Int) := ⟨((drawI l5).fmod 7).toNat, by omega⟩
  obtain ⟨v, l6, e8, hvl, hvs⟩ := mLc_io (i := 7) (me := mCallIo Q.F_law_pair 1 mNil) (P := fun x : Rat => Sz 121 x) (enc := fr) (mi := mItN gRange1 (mCons (m2 gMod (mN gInt (mCons (mCallIo Q.F_law_next 1 mNil) mNil)) (mK (.int 7))) mNil)) (E := fun l o => St (some S) (some (dl l)) (some (fr q)) (some (sD w)) (some (.lst (nearL.map sD))) o5 none o none)
    (ρ := St (some S) (some (dl l5)) (some (fr q)) (some (sD w)) (some (.lst (nearL.map sD))) o5 none none none) (l := l5.dropLast) (o := none) (ds := (List.range m).map fun i => D.int (i : Nat))
    (by
      generalize fr q = Q1 at *
      generalize sD w = W at *
      generalize nearL.map sD = NL at *
      generalize D.lst NL = ND at *
      simp -implicitDefEqProofs [io_next1, gMod_p, hm, range1 (n := m) (by omega), -gRange1_i]) (by rw [List.length_map, List.length_range]; omega) (fun _ _ _ => rfl) (fun l o => (by show 7 < 9; decide)) rfl (fun l d => by
      obtain ⟨c, l', e, hc⟩ := v_pair l
      exact ⟨c, l', hc, io_1 e⟩)
  rw [List.length_map, List.length_range] at hvl
  have tp : gTuple [.lst (v.map fr)] = some (frs v) := rfl
  have a8 : mlaw_s8 (St (some S) (some (dl l5)) (some (fr q)) (some (sD w)) (some (.lst (nearL.map sD))) o5 none none none) = .nx (St (some S) (some (dl l6)) (some (fr q)) (some (sD w)) (some (.lst (nearL.map sD))) o5 (some (frs v)) none none) := by
    generalize fr q = Q1 at *
    generalize sD w = W at *
    generalize nearL.map sD = NL at *
    generalize D.lst NL = ND at *
    generalize frs v = V at *
    generalize v.map fr = VL at *
    generalize D.lst VL = VD at *
    generalize dl l5 = D5 at *
    generalize dl l6 = D6 at *
    unfold mlaw_s8
    generalize mLc [7] (mItN gRange1 (mCons (m2 gMod (mN gInt (mCons (mCallIo Q.F_law_next 1 mNil) mNil)) (mK (.int 7))) mNil)) (mgName 7) mYes (mCallIo Q.F_law_pair 1 mNil) = mL at *
    simp -implicitDefEqProofs [e8, tp]
  obtain ⟨v2, hv2, hs2, a10⟩ : ∃ v2 : List Rat, v2.length ≤ 6 ∧ (∀ y ∈ v2, Sz 121 y) ∧ mlaw_s10 (St (some S) (some (dl l6)) (some (fr q)) (some (sD w)) (some (.lst (nearL.map sD))) o5 (some (frs v)) none none) = .nx (St (some S) (some (dl l6.dropLast)) (some (fr q)) (some (sD w)) (some (.lst (nearL.map sD))) o5 (some (frs v2)) none none) := by
    by_cases c : (drawI l6).fmod 4 = 1
    · refine ⟨v.map fun _ => (0 : Rat), by rw [List.length_map]; omega, fun y hy => ?_, ?_⟩
      · obtain ⟨_, _, rfl⟩ := List.mem_map.mp hy
        exact Sz.zero.up (by decide)
      · have e9 := mLc_map (as := v) (enc := fr) (vs := [8]) (g := mgName 8) (mi := mIter (mVar 6)) (me := mlaw_e9) (ρ0 := St (some S) (some (dl l6.dropLast)) (some (fr q)) (some (sD w)) (some (.lst (nearL.map sD))) o5 (some (frs v)) none none) (ρ := St (some S) (some (dl l6.dropLast)) (some (fr q)) (some (sD w)) (some (.lst (nearL.map sD))) o5 (some (frs v)) none none)
          (st := fun y => St (some S) (some (dl l6.dropLast)) (some (fr q)) (some (sD w)) (some (.lst (nearL.map sD))) o5 (some (frs v)) none (some (fr y))) (f := fun _ => fr 0) rfl (by omega) (fun _ => rfl) (fun _ _ => rfl) (fun y _ => by
            have : (0 : Rat).num = 0 := rfl
            have z : fr 0 = .tup [.int 0, .int 1] := rfl
            rw [z]
            generalize fr q = Q1 at *
            generalize fr y = Y1 at *
            generalize sD w = W at *
            generalize nearL.map sD = NL at *
            generalize D.lst NL = ND at *
            generalize frs v = V at *
            simp -implicitDefEqProofs [mlaw_e9, show 2 ≤ sizeLine by omega])
        have em : v.map (fun _ => fr 0) = (v.map fun _ => (0 : Rat)).map fr := by rw [List.map_map]; rfl
        rw [em] at e9
        have tp2 : gTuple [.lst ((v.map fun _ => (0 : Rat)).map fr)] = some (frs (v.map fun _ => (0 : Rat))) := rfl
        generalize frs (v.map fun _ => (0 : Rat)) = V2 at *
        generalize (v.map fun _ => (0 : Rat)).map fr = VL2 at *
        generalize D.lst VL2 = VD2 at *
        generalize fr q = Q1 at *
        generalize sD w = W at *
        generalize nearL.map sD = NL at *
        generalize D.lst NL = ND at *
        generalize frs v = V at *
        unfold mlaw_s10
        generalize mLc [8] (mIter (mVar 6)) (mgName 8) mYes mlaw_e9 = mL at *
        simp -implicitDefEqProofs [io_next1, gMod_p, c, e9, tp2]
    · refine ⟨v, by omega, hvs, ?_⟩
      generalize fr q = Q1 at *
      generalize sD w = W at *
      generalize nearL.map sD = NL at *
      generalize D.lst NL = ND at *
      generalize frs v = V at *
      simp -implicitDefEqProofs [mlaw_s10, io_next1, gMod_p, c]
  have vc := fun ρ => v_pcleared hs2 (by omega) (by omega) ρ
  have vlc := fun ρ => v_lcleared2 hs2 (by omega) (by omega) ρ
  obtain ⟨z2, hz2⟩ := repr_row hv2 hs2
  have nz2 := neS_self z2
  have a11 : mlaw_s11 (St (some S) (some (dl l6.dropLast)) (some (fr q)) (some (sD w)) (some (.lst (nearL.map sD))) o5 (some (frs v2)) none none) = .nx (St (some S) (some (dl l6.dropLast)) (some (fr q)) (some (sD w)) (some (.lst (nearL.map sD))) o5 (some (frs v2)) none none) := by
    generalize pl (clr (wholeR v2)) = P at *
    generalize fr q = Q1 at *
    generalize sD w = W at *
    generalize nearL.map sD = NL at *
    generalize D.lst NL = ND at *
    generalize frs v2 = V at *
    simp -implicitDefEqProofs [mlaw_s11, mCall_R, vc, vlc, hz2, nz2]
  have r1 := fun ρ => v_refused (fun ρ => v_pclearedNo hs2 (by decide) (a := 2) (b := 4) (by decide) (by decide) (r := []) ρ) ρ
  have r2 := fun ρ => v_refused (fun ρ => v_pclearedNo (v := []) (K := 121) (fun y h => nomatch h) (by decide) (a := 1) (b := 0) (by decide) (by decide) (r := v2.map fr) ρ) ρ
  have g3 : gAdd (frs v2) (.tup [.tup [.int 2, .int 4]]) = some (.tup (v2.map fr ++ [tupI (2, 4)])) := by
    show (if (v2.map fr).length + 1 ≤ sizeLine then some (D.tup (v2.map fr ++ [tupI (2, 4)])) else none) = _
    rw [if_pos (by rw [List.length_map]; omega)]
  have g4 : gAdd (.tup [.tup [.int 1, .int 0]]) (frs v2) = some (.tup ([].map fr ++ tupI (1, 0) :: v2.map fr)) := by
    show (if 1 + (v2.map fr).length ≤ sizeLine then some (D.tup ([tupI (1, 0)] ++ v2.map fr)) else none) = _
    rw [if_pos (by rw [List.length_map]; omega)]
    rfl
  have a12 : mlaw_s12 (St (some S) (some (dl l6.dropLast)) (some (fr q)) (some (sD w)) (some (.lst (nearL.map sD))) o5 (some (frs v2)) none none) = .nx (St (some S) (some (dl l6.dropLast)) (some (fr q)) (some (sD w)) (some (.lst (nearL.map sD))) o5 (some (frs v2)) none none) := by
    generalize D.tup (v2.map fr ++ [tupI (2, 4)]) = R1 at *
    generalize D.tup ([].map fr ++ tupI (1, 0) :: v2.map fr) = R2 at *
    generalize fr q = Q1 at *
    generalize sD w = W at *
    generalize nearL.map sD = NL at *
    generalize D.lst NL = ND at *
    generalize frs v2 = V at *
    simp -implicitDefEqProofs [mlaw_s12, mCall_R, r1, r2, g3, g4, show 1 ≤ sizeLine by omega, show 2 ≤ sizeLine by omega]
  have vg := fun ρ => v_large ρ
  have a13 : mlaw_s13 (St (some S) (some (dl l6.dropLast)) (some (fr q)) (some (sD w)) (some (.lst (nearL.map sD))) o5 (some (frs v2)) none none) = .rt (.bl true) (St (some S) (some (dl l6.dropLast)) (some (fr q)) (some (sD w)) (some (.lst (nearL.map sD))) o5 (some (frs v2)) none none) := by
    generalize fr q = Q1 at *
    generalize sD w = W at *
    generalize nearL.map sD = NL at *
    generalize D.lst NL = ND at *
    generalize frs v2 = V at *
    simp -implicitDefEqProofs [mlaw_s13, mCall_R, vg]
  refine ⟨St (some S) (some (dl l6.dropLast)) (some (fr q)) (some (sD w)) (some (.lst (nearL.map sD))) o5 (some (frs v2)) none none, ?_⟩
  show mlaw (St (some S) none none none none none none none none) = _
  unfold mlaw
  rw [msForget_ap]
  show msSeq _ _ (St (some S) none none none none none none none none) = _
  rw [seq_nx a0, seq_nx a1, seq_nx a2, seq_nx a3, seq_nx a4, seq_nx a5, seq_nx a7, seq_nx a8, seq_nx a10, seq_nx a11, seq_nx a12, a13]
end K01
namespace K01
open DL L2 PySem PySem.Spec PyProof.Rows
def D_law_number : He.DefD := ⟨("_law_number", none), "_law_number", "_law_number", defArgs s_law_number, defBody s_law_number, defScope s_law_number, [], []⟩
def D_law_draws : He.DefD := ⟨("_law_draws", none), "_law_draws", "_law_draws", defArgs s_law_draws, defBody s_law_draws, defScope s_law_draws, [], []⟩
def D_law_next : He.DefD := ⟨("_law_next", none), "_law_next", "_law_next", defArgs s_law_next, defBody s_law_next, defScope s_law_next, [], []⟩
def D_law_long : He.DefD := ⟨("_law_long", none), "_law_long", "_law_long", defArgs s_law_long, defBody s_law_long, defScope s_law_long, [], []⟩
def D_law_divisor : He.DefD := ⟨("_law_divisor", none), "_law_divisor", "_law_divisor", defArgs s_law_divisor, defBody s_law_divisor, defScope s_law_divisor, [], []⟩
def D_law_lowest : He.DefD := ⟨("_law_lowest", none), "_law_lowest", "_law_lowest", defArgs s_law_lowest, defBody s_law_lowest, defScope s_law_lowest, [], []⟩
def D_law_fraction : He.DefD := ⟨("_law_fraction", none), "_law_fraction", "_law_fraction", defArgs s_law_fraction, defBody s_law_fraction, defScope s_law_fraction, [], []⟩
def D_law_pair : He.DefD := ⟨("_law_pair", none), "_law_pair", "_law_pair", defArgs s_law_pair, defBody s_law_pair, defScope s_law_pair, [], []⟩
def Ddivisor : He.DefD := ⟨("divisor", none), "divisor", "divisor", defArgs sdivisor, defBody sdivisor, defScope sdivisor, [], []⟩
def Dis_number : He.DefD := ⟨("is_number", none), "is_number", "is_number", defArgs sis_number, defBody sis_number, defScope sis_number, [], []⟩
def Dcheck_number : He.DefD := ⟨("check_number", none), "check_number", "check_number", defArgs scheck_number, defBody scheck_number, defScope scheck_number, [], []⟩
def Dnumber_text : He.DefD := ⟨("number_text", none), "number_text", "number_text", defArgs snumber_text, defBody snumber_text, defScope snumber_text, [], []⟩
def D_law_text : He.DefD := ⟨("_law_text", none), "_law_text", "_law_text", defArgs s_law_text, defBody s_law_text, defScope s_law_text, [], []⟩
def Dinteger_in : He.DefD := ⟨("integer_in", none), "integer_in", "integer_in", defArgs sinteger_in, defBody sinteger_in, defScope sinteger_in, [], []⟩
def Dread_number : He.DefD := ⟨("read_number", none), "read_number", "read_number", defArgs sread_number, defBody sread_number, defScope sread_number, [], []⟩
def D_law_written : He.DefD := ⟨("_law_written", none), "_law_written", "_law_written", defArgs s_law_written, defBody s_law_written, defScope s_law_written, [], []⟩
def D_law_told : He.DefD := ⟨("_law_told", none), "_law_told", "_law_told", defArgs s_law_told, defBody s_law_told, defScope s_law_told, [], []⟩
def D_law_large : He.DefD := ⟨("_law_large", none), "_law_large", "_law_large", defArgs s_law_large, defBody s_law_large, defScope s_law_large, [], []⟩
def D_law_spoilt : He.DefD := ⟨("_law_spoilt", none), "_law_spoilt", "_law_spoilt", defArgs s_law_spoilt, defBody s_law_spoilt, defScope s_law_spoilt, [], []⟩
def Dwithout_divisor : He.DefD := ⟨("without_divisor", none), "without_divisor", "without_divisor", defArgs swithout_divisor, defBody swithout_divisor, defScope swithout_divisor, [], []⟩
def Dcleared_row : He.DefD := ⟨("cleared_row", none), "cleared_row", "cleared_row", defArgs scleared_row, defBody scleared_row, defScope scleared_row, [], []⟩
def Dcleared : He.DefD := ⟨("cleared", none), "cleared", "cleared", defArgs scleared, defBody scleared, defScope scleared, [], []⟩
def D_law_cleared : He.DefD := ⟨("_law_cleared", none), "_law_cleared", "_law_cleared", defArgs s_law_cleared, defBody s_law_cleared, defScope s_law_cleared, [], []⟩
def D_law_refused : He.DefD := ⟨("_law_refused", none), "_law_refused", "_law_refused", defArgs s_law_refused, defBody s_law_refused, defScope s_law_refused, [], []⟩
def D_law_integer_in : He.DefD := ⟨("_law_integer_in", none), "_law_integer_in", "_law_integer_in", defArgs s_law_integer_in, defBody s_law_integer_in, defScope s_law_integer_in, [], []⟩
def D_law_read : He.DefD := ⟨("_law_read", none), "_law_read", "_law_read", defArgs s_law_read, defBody s_law_read, defScope s_law_read, [], []⟩
def Dlaw : He.DefD := ⟨("law", none), "law", "law", defArgs slaw, defBody slaw, defScope slaw, [], []⟩
def fns : List He.DefD := [D_law_number, D_law_draws, D_law_next, D_law_long, D_law_divisor, D_law_lowest, D_law_fraction, D_law_pair, Ddivisor, Dis_number, Dcheck_number, Dnumber_text, D_law_text, Dinteger_in, Dread_number, D_law_written, D_law_told, D_law_large, D_law_spoilt, Dwithout_divisor, Dcleared_row, Dcleared, D_law_cleared, D_law_refused, D_law_integer_in, D_law_read, Dlaw]
def fas : List He.Fa := [.glo "Malformed", .glo "NotNumber", .glo "PlaneError", .glo "TooLarge", .glo "_law_cleared", .glo "_law_divisor", .glo "_law_draws", .glo "_law_fraction", .glo "_law_integer_in", .glo "_law_large", .glo "_law_long", .glo "_law_lowest", .glo "_law_next", .glo "_law_number", .glo "_law_pair", .glo "_law_read", .glo "_law_refused", .glo "_law_spoilt", .glo "_law_text", .glo "_law_told", .glo "_law_written", .glo "check_number", .glo "cleared", .glo "cleared_row", .glo "divisor", .glo "integer_in", .glo "is_number", .glo "law", .glo "number_text", .glo "read_number", .glo "without_divisor", .free "abs", .free "all", .free "int", .free "isinstance", .free "len", .free "range", .free "repr", .free "str", .free "super", .free "tuple", .int "BEYOND" cBEYOND, .str "FIGURES" cFIGURES, .int "MOST_FIGURES" cMOST_FIGURES, .exc "PlaneError", .exc "NotNumber", .exc "TooLarge", .exm "PlaneError" "Malformed" false, .exm "NotNumber" "Malformed" false, .exm "TooLarge" "Malformed" false, .exm "Malformed" "Malformed" true, .exm "PlaneError" "NotNumber" false, .exm "NotNumber" "NotNumber" true, .exm "TooLarge" "NotNumber" false, .exm "Malformed" "NotNumber" false, .exm "PlaneError" "PlaneError" true, .exm "NotNumber" "PlaneError" true, .exm "TooLarge" "PlaneError" true, .exm "Malformed" "PlaneError" true]
def xfs (K : PySem.W.Frag) : Bool := (iniB K prog.main.file (He.ga K "Malformed") (He.ma K (He.ga K "Malformed") "__init__") "at" && (xfldB K "Malformed" "at" && (excB K "Malformed" && (excB K "NotNumber" && (excB K "PlaneError" && (excB K "NotNumber" && (excB K "TooLarge" && (excB K "Malformed" && (kitB K "PlaneError" "TooLarge" false && (kitB K "NotNumber" "TooLarge" false && (kitB K "TooLarge" "TooLarge" true && (kitB K "Malformed" "TooLarge" false && true))))))))))))
def loose0 : List Str := ["PlaneError", "NotNumber", "TooLarge", "Malformed", "MOST_FIGURES", "FIGURES", "BEYOND", "divisor", "is_number", "check_number", "number_text", "integer_in", "read_number", "without_divisor", "cleared_row", "cleared", "_law_number", "_law_draws", "_law_next", "_law_divisor"]
def loose1 : List Str := ["_law_lowest", "_law_fraction", "_law_long", "_law_pair", "_law_text", "_law_integer_in", "_law_read", "_law_told", "_law_written", "_law_spoilt", "_law_cleared", "_law_large", "_law_refused"]
def loose : List Str := loose0 ++ loose1
abbrev R : PySem.W.OpenRow := PySem.W.OpenLaw.row PySem.Challenge.rw_planeworth_k01_texts_of_numbers_and_clea
def inis : List InD := [⟨"Malformed", some ("__init__", "Malformed.__init__", defArgs sIni_Malformed, .stmts (defBody sIni_Malformed), defScope sIni_Malformed, mainGlobals, [("__class__" : Str)], builtinsNs)⟩]
abbrev hk : PySem.W.Hook := hookY 4 fas xfs fns inis
def ob (s : PySem.W.SharedT) : AlY := obYG 4 fas xfs fns inis (HandSHeadRun.getT s)
theorem ob_eq (s : PySem.W.SharedT) : ob s = hk.obs s.abs := obYG_eq (HandSHeadRun.getT_eq s)
theorem run (w : World) : HandSHeadRun.RunEq R (PySem.W.view R.prog [36]) hk ob 20000 loose w := by
  intro os
  kernel_rfl
theorem fcOk {K : PySem.W.Frag} {h : Heap} {mg : Str → Option Value} (X : K.In h) (G : h.Ns mainGlobals mg) (c : SaysY fas xfs fns inis K) : Fc K mg := by
  have x0 : xfs K = true := c.x1
  unfold xfs at x0
  obtain ⟨y0, x1⟩ := He.ba x0
  obtain ⟨y1, x2⟩ := He.ba x1
  obtain ⟨y2, x3⟩ := He.ba x2
  obtain ⟨y3, x4⟩ := He.ba x3
  obtain ⟨y4, x5⟩ := He.ba x4
  obtain ⟨y5, x6⟩ := He.ba x5
  obtain ⟨y6, x7⟩ := He.ba x6
  obtain ⟨y7, x8⟩ := He.ba x7
  obtain ⟨y8, x9⟩ := He.ba x8
  obtain ⟨y9, x10⟩ := He.ba x9
  obtain ⟨y10, x11⟩ := He.ba x10
  obtain ⟨y11, x12⟩ := He.ba x11
  exact {
    g_Malformed := He.glo_ok X G (c.d.fact 0 rfl)
    g_NotNumber := He.glo_ok X G (c.d.fact 1 rfl)
    g_PlaneError := He.glo_ok X G (c.d.fact 2 rfl)
    g_TooLarge := He.glo_ok X G (c.d.fact 3 rfl)
    g__law_cleared := He.glo_ok X G (c.d.fact 4 rfl)
    g__law_divisor := He.glo_ok X G (c.d.fact 5 rfl)
    g__law_draws := He.glo_ok X G (c.d.fact 6 rfl)
    g__law_fraction := He.glo_ok X G (c.d.fact 7 rfl)
    g__law_integer_in := He.glo_ok X G (c.d.fact 8 rfl)
    g__law_large := He.glo_ok X G (c.d.fact 9 rfl)
    g__law_long := He.glo_ok X G (c.d.fact 10 rfl)
    g__law_lowest := He.glo_ok X G (c.d.fact 11 rfl)
    g__law_next := He.glo_ok X G (c.d.fact 12 rfl)
    g__law_number := He.glo_ok X G (c.d.fact 13 rfl)
    g__law_pair := He.glo_ok X G (c.d.fact 14 rfl)
    g__law_read := He.glo_ok X G (c.d.fact 15 rfl)
    g__law_refused := He.glo_ok X G (c.d.fact 16 rfl)
    g__law_spoilt := He.glo_ok X G (c.d.fact 17 rfl)
    g__law_text := He.glo_ok X G (c.d.fact 18 rfl)
    g__law_told := He.glo_ok X G (c.d.fact 19 rfl)
    g__law_written := He.glo_ok X G (c.d.fact 20 rfl)
    g_check_number := He.glo_ok X G (c.d.fact 21 rfl)
    g_cleared := He.glo_ok X G (c.d.fact 22 rfl)
    g_cleared_row := He.glo_ok X G (c.d.fact 23 rfl)
    g_divisor := He.glo_ok X G (c.d.fact 24 rfl)
    g_integer_in := He.glo_ok X G (c.d.fact 25 rfl)
    g_is_number := He.glo_ok X G (c.d.fact 26 rfl)
    g_law := He.glo_ok X G (c.d.fact 27 rfl)
    g_number_text := He.glo_ok X G (c.d.fact 28 rfl)
    g_read_number := He.glo_ok X G (c.d.fact 29 rfl)
    g_without_divisor := He.glo_ok X G (c.d.fact 30 rfl)
    f_abs := He.free_ok X G (c.d.fact 31 rfl)
    f_all := He.free_ok X G (c.d.fact 32 rfl)
    f_int := He.free_ok X G (c.d.fact 33 rfl)
    f_isinstance := He.free_ok X G (c.d.fact 34 rfl)
    f_len := He.free_ok X G (c.d.fact 35 rfl)
    f_range := He.free_ok X G (c.d.fact 36 rfl)
    f_repr := He.free_ok X G (c.d.fact 37 rfl)
    f_str := He.free_ok X G (c.d.fact 38 rfl)
    f_super := He.free_ok X G (c.d.fact 39 rfl)
    f_tuple := He.free_ok X G (c.d.fact 40 rfl)
    c_BEYOND := He.int_ok X G (c.d.fact 41 rfl)
    c_FIGURES := He.str_ok X G (c.d.fact 42 rfl)
    c_MOST_FIGURES := He.int_ok X G (c.d.fact 43 rfl)
    e_PlaneError := (let z := He.exc_ok (c.d.fact 44 rfl); ⟨z.1, z.2.1, z.2.2.1, z.2.2.2, He.glo_ok X G (c.d.fact 2 rfl)⟩)
    e_NotNumber := (let z := He.exc_ok (c.d.fact 45 rfl); ⟨z.1, z.2.1, z.2.2.1, z.2.2.2, He.glo_ok X G (c.d.fact 1 rfl)⟩)
    e_TooLarge := (let z := He.exc_ok (c.d.fact 46 rfl); ⟨z.1, z.2.1, z.2.2.1, z.2.2.2, He.glo_ok X G (c.d.fact 3 rfl)⟩)
    m_Malformed_PlaneError := He.exm_ok (c.d.fact 47 rfl)
    m_Malformed_NotNumber := He.exm_ok (c.d.fact 48 rfl)
    m_Malformed_TooLarge := He.exm_ok (c.d.fact 49 rfl)
    m_Malformed_Malformed := He.exm_ok (c.d.fact 50 rfl)
    m_NotNumber_PlaneError := He.exm_ok (c.d.fact 51 rfl)
    m_NotNumber_NotNumber := He.exm_ok (c.d.fact 52 rfl)
    m_NotNumber_TooLarge := He.exm_ok (c.d.fact 53 rfl)
    m_NotNumber_Malformed := He.exm_ok (c.d.fact 54 rfl)
    m_PlaneError_PlaneError := He.exm_ok (c.d.fact 55 rfl)
    m_PlaneError_NotNumber := He.exm_ok (c.d.fact 56 rfl)
    m_PlaneError_TooLarge := He.exm_ok (c.d.fact 57 rfl)
    m_PlaneError_Malformed := He.exm_ok (c.d.fact 58 rfl)
    x_Malformed := xcls_of (sf := "self") (x := "at") (c.ini 0 rfl) y0 (He.free_ok X G (c.d.fact 39 rfl)) ⟨rfl, rfl, rfl, by decide +kernel, rfl, rfl, rfl, rfl⟩ (by decide) (by rfl) (fun _ _ _ _ _ _ _ _ _ _ _ => BindsTo.of_eq rfl) ⟨_, rfl, rfl⟩ (fun _ => rfl) (fun _ => rfl) (fun _ => rfl) (fun _ => rfl) (by decide) (by decide)
    xf_Malformed_at := xfldB_ok y1
    x_Malformed_Malformed := excB_ok y2
    x_NotNumber_NotNumber := excB_ok y3
    x_PlaneError_PlaneError := excB_ok y4
    x_PlaneError_NotNumber := excB_ok y5
    x_PlaneError_TooLarge := excB_ok y6
    x_PlaneError_Malformed := excB_ok y7
    k_PlaneError_TooLarge_PlaneError := kitB_ok y8
    k_PlaneError_TooLarge_NotNumber := kitB_ok y9
    k_PlaneError_TooLarge_TooLarge := kitB_ok y10
    k_PlaneError_TooLarge_Malformed := kitB_ok y11
    d__law_number := c.d.def_ 0 (d := D_law_number) rfl
    d__law_draws := c.d.def_ 1 (d := D_law_draws) rfl
    d__law_next := c.d.def_ 2 (d := D_law_next) rfl
    d__law_long := c.d.def_ 3 (d := D_law_long) rfl
    d__law_divisor := c.d.def_ 4 (d := D_law_divisor) rfl
    d__law_lowest := c.d.def_ 5 (d := D_law_lowest) rfl
    d__law_fraction := c.d.def_ 6 (d := D_law_fraction) rfl
    d__law_pair := c.d.def_ 7 (d := D_law_pair) rfl
    d_divisor := c.d.def_ 8 (d := Ddivisor) rfl
    d_is_number := c.d.def_ 9 (d := Dis_number) rfl
    d_check_number := c.d.def_ 10 (d := Dcheck_number) rfl
    d_number_text := c.d.def_ 11 (d := Dnumber_text) rfl
    d__law_text := c.d.def_ 12 (d := D_law_text) rfl
    d_integer_in := c.d.def_ 13 (d := Dinteger_in) rfl
    d_read_number := c.d.def_ 14 (d := Dread_number) rfl
    d__law_written := c.d.def_ 15 (d := D_law_written) rfl
    d__law_told := c.d.def_ 16 (d := D_law_told) rfl
    d__law_large := c.d.def_ 17 (d := D_law_large) rfl
    d__law_spoilt := c.d.def_ 18 (d := D_law_spoilt) rfl
    d_without_divisor := c.d.def_ 19 (d := Dwithout_divisor) rfl
    d_cleared_row := c.d.def_ 20 (d := Dcleared_row) rfl
    d_cleared := c.d.def_ 21 (d := Dcleared) rfl
    d__law_cleared := c.d.def_ 22 (d := D_law_cleared) rfl
    d__law_refused := c.d.def_ 23 (d := D_law_refused) rfl
    d__law_integer_in := c.d.def_ 24 (d := D_law_integer_in) rfl
    d__law_read := c.d.def_ 25 (d := D_law_read) rfl
    d_law := c.d.def_ 26 (d := Dlaw) rfl }
end K01
open PySem PySem.W PySem.Calls PyProof.Rows
theorem PySem.Challenge.cw_planeworth_k01_texts_of_numbers_and_clea_holds : PySem.Challenge.rw_planeworth_k01_texts_of_numbers_and_clea.Holds := by
  w_on; o_law
  refine HandSHeadRun.head_any (r := OpenLaw.row PySem.Challenge.rw_planeworth_k01_texts_of_numbers_and_clea) (q := view (OpenLaw.row PySem.Challenge.rw_planeworth_k01_texts_of_numbers_and_clea).prog [36]) (H := K01.hk) (ob := K01.ob)
    (M := 20000) (loose := K01.loose) (d := HandSHeadRun.topDef (OpenLaw.row PySem.Challenge.rw_planeworth_k01_texts_of_numbers_and_clea).prog 36) (kwd := []) K01.ob_eq
    (by kernel_rfl) (fun s => by kernel_rfl) K01.run (by kernel_rfl)
    (by kernel_rfl) (by kernel_rfl) (by rfl) (by first | assumption | decide +kernel) (by decide +kernel) ⟨rfl, rfl, rfl, rfl, rfl, by decide +kernel⟩ ?hw ?hc
  case hw => w_witness2
  case hc =>
    refine DL.walkG (l := PySem.Challenge.rw_planeworth_k01_texts_of_numbers_and_clea) (n := 63) (k := 7) (F := K01.Flaw) rfl (by decide) (by kernel_rfl) ⟨rfl, by decide, by decide⟩ ?C K01.law_true
    intro w mg fL h Y G hmg0
    obtain ⟨K, kin, c⟩ := Y
    have hmg : mg ("law" : PySem.Str) = some (.ref fL) := by
      have e : (HandSHeadRun.topDef (OpenLaw.row PySem.Challenge.rw_planeworth_k01_texts_of_numbers_and_clea).prog 36).name = ("law" : PySem.Str) := by kernel_rfl
      rw [← e]
      exact hmg0
    have fc := K01.fcOk kin G c
    have e := hmg.symm.trans fc.g_law
    cases e
    exact ⟨K, kin, fun base _ _ => K01.glaw fc base⟩
